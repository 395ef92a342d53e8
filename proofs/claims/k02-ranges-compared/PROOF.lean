import PyProof.Rows.All
import Wide.All
import OpenK.AllK
import Wide.FinOn
import HandS.ForMost
import HandS.ForExc
import HandS.CallSlots
import HandS.Lambda
import HandS.HeadHook4
import HandS.Defaults
import HandS.Property
import HandS.Iter
import PyProof.LongRange
import HandS.Wide
import HandS.IsInst
import KE.KOpsOwn
import HandS.Comp
import HandS.ClsMeth
import PyProof.InstNe
import PyProof.ReprRoads
import HandS.Flow
import PyProof.CallFns
import HandS.Words
import HandS.EndBits
import HandS.Head0
import HandS.Head1
import HandS.Head2
import HandS.HeadEnd
import HandS.HeadHook1
import HandS.HeadHook2
import HandS.ExcBuiltin
import PyProof.FactsLen
import HandS.Style
import HandS.Nested
import HandS.ExcInit
import HandS.ExcField
import HandS.TryMany
import KE.KExcSuper
import KE.KExcIs
import KE.KExcInit
import KE.KTryMore
import PySem.Challenge.RW_gaplesskeys_k02_ranges_compared
import HandS.SetFor
import HandS.Strs
import HandS.TupAny
import HandS.Text
import HandS.MakeKwOnly
import PyProof.P3In
import HandS.WordsDict
import HandS.Dict
import HandS.More
import HandS.DictComp
import HandS.Star
import HandS.SortInts
import PyProof.DictUpdate
import HandS.List
import PyProof.StrBlock2
import HandS.TupSets
import KE.KSortTupAny
import HandS.RaiseMore
import HandS.SetKeys
import HandS.SetBool
import HandS.Zip
import PyProof.Rows.SortShellAny
import KE.GoesMore
import HandS.OwnEq
import KE.KEqNest
import PyProof.SumAny
import HandS.GenBody
import PyProof.Rows.SeqMore
import HandS.GenList
import HandS.GenCall
import HandS.GenYield
import KE.KDictWalk
import HandS.DictTup
import HandS.TupLen
import KE.KSortTupG
import KE.KDictSum
import HandS.Conv
import HandS.Small
import KE.KEqDict
import KE.KRevSl
import KE.GoesEnumKw
import HandS.TupLe
import KE.KDictDisplayH
import KE.KDictPairs
import KE.SortData
import PyProof.ListStr
import HandS.Sort
import KE.KSortAsk
import HandS.Codes
import KE.DataEq
import HandS.NamedTupSort
set_option Elab.async false
set_option linter.all false
set_option maxRecDepth 100000
set_option maxHeartbeats 0
noncomputable section
open List renaming replicate → Yaa, length_cons → Yae, getElem?_append_left → Yai, getElem?_eq_some_iff → Yaj, length_append → Yak, getElem?_append_right → Yal, getElem?_set_self → Yan, getElem?_set_ne → Yao, length_set → Yap, foldl_cons → Yar, mem_cons → Yas, zip_cons_cons → Yat, mem_cons_of_mem → Yau, mem_cons_self → Yav, lookup_cons_self → Yaw, lookup_cons → Yax, getElem?_eq_none_iff → Yay, length_map → Yaz, length_replicate → YaA, getElem?_map → YaB, getElem?_replicate → YaC, mapM_cons → YaD, mem_append → YaH, map_map → YaJ, all_eq_true → YaL, length_eq_zero_iff → YaP, getElem?_eq_none → YaQ, append_nil → YaS, mem_of_getElem? → YaT, mem_map → YaU, size_toArray → YaV, mem_map_of_mem → YaW, lookup → YaX, getElem?_eq_getElem → YaY, map_cons → Ya0, filterMap_cons_none → Ya1, filterMap_cons_some → Ya2, any_map → Ya3, not_lt → Ya5, pairwise_mergeSort → Ya7, mergeSort_perm → Ya8, getElem_mem → Yba, mem_append_right → Ybb, mem_append_left → Ybc, filterMap_cons → Ybf, map_mergeSort → Ybg, toArray → Ybh, range → Ybj, map_congr_left → Ybk, getD_eq_getElem?_getD → Ybl, getElem?_of_mem → Ybm, nodup_append → Ybn, length → Ybo, all_cons → Ybp, map_nil → Ybs, length_nil → Ybv, nil_append → Ybw, cons_append → Ybx, getElem?_cons_zero → Yby, getElem?_cons_succ → Ybz, set_cons_zero → YbA, set_cons_succ → YbB, set_set → YbM, countP_mono_left → YbR, countP_cons_of_neg → YbS, countP_cons_of_pos → YbT, mem_range → YbU, zip_nil_left → YbV, foldl_nil → YbW, not_mem_nil → YbX, filter_eq_self → YbZ, length_mergeSort → Yb0
open Nat renaming le_refl → Yab, le_trans → Yac, lt_of_lt_of_le → Yad, le_succ → Yaf, ne_of_lt → Yag, sub_self → Yam, lt_succ_self → Yaq, zero_add → YaM, zero_le → Ybi, log2_lt → Ybt, add_sub_cancel → YbC, reduceAdd → YbD, reduceSub → YbE, reduceLT → YbF, sub_zero → YbJ, reduceLeDiff → YbK, reduceEqDiff → YbL
open Option renaming some → Yah, bind_eq_bind → YaE, bind_eq_some_iff → YaF, pure_def → YaG, map_eq_some_iff → YaI, isSome_iff_exists → YaZ, getD_some → Ybe, map_some → Ybq, bind_some → Ybr
open Bool renaming and_eq_true → YaK, and_eq_true_iff → YaN, or_eq_true → YaO, false_eq_true → YaR, not_eq_true' → Ya4, and_self → Ybu, not_true → YbG, not_false → YbH
open Array renaming toList_inj → Ya6, length_toList → Ya9, getElem?_eq_getElem → Ybd
open Int renaming reduceNeg → YbI, emod_nonneg → YbN, emod_lt_of_pos → YbO, reduceLT → YbP, mul_nonneg → YbQ, le_refl → YbY
namespace MP
open PySem (Str)
abbrev Key:=Sum Int Str
inductive SV where
 | non | bl (b:Bool) | int (i:Int) | str (x:Str) | tup (xs:List SV) | ref (n:Nat) | ty (n:String) | cls (c:String) | fn (c:String)
 deriving Inhabited
inductive SO where
 | lst (xs:List SV) | frz (xs:List SV) | dK (kvs:List (Key × SV)) | dT (kvs:List (List Key × SV)) | dF (kvs:List (Key × SV)) | dG (kvs:List (List Key × SV)) | ins (c:String) (fs:List (String × SV))
 deriving Inhabited
abbrev Zaa:=List SO
inductive XC where
 | own (c:String) (fs:List (String × SV)) | blt (n:String)
 deriving Inhabited
inductive Res (α:Type) where
 | ok (a:α) (S:Zaa) | exc (x:XC) (S:Zaa) | bad
def Res.bind {α β:Type} (r:Res α) (f:α→Zaa→Res β):Res β:=
 match r with
 | .ok a S=>f a S
 | .exc x S=> .exc x S
 | .bad=> .bad
def M (α:Type):=Zaa→Res α
instance:Monad M where
 pure a:=fun S=> .ok a S
 bind m f:=fun S=>(m S).bind fun a S'=>f a S'
@[simp] theorem ZnH {α:Type} (a:α) (S:Zaa):(pure a:M α) S= .ok a S:=rfl
@[simp] theorem ZnI {α β:Type} (m:M α) (f:α→M β) (S:Zaa):(m>>=f) S=(m S).bind fun a S'=>f a S':=rfl
@[simp] theorem ZbN {α β:Type} (a:α) (S:Zaa) (f:α→Zaa→Res β):(Res.ok a S).bind f=f a S:=rfl
@[simp] theorem Znl {α β:Type} (x:XC) (S:Zaa) (f:α→Zaa→Res β):(Res.exc x S).bind f= .exc x S:=rfl
@[simp] theorem Znm {α β:Type} (f:α→Zaa→Res β):(Res.bad:Res α).bind f= .bad:=rfl
def ZcK {α:Type}:M α:=fun _=> .bad
@[simp] theorem ZnJ {α:Type} (S:Zaa):(ZcK:M α) S= .bad:=rfl
def ZlF {α:Type} (x:XC):M α:=fun S=> .exc x S
@[simp] theorem ZlG {α:Type} (x:XC) (S:Zaa):(ZlF x:M α) S= .exc x S:=rfl
def Ziw (o:SO):M SV:=fun S=> .ok (.ref S.length) (S++[o])
@[simp] theorem ZlH (o:SO) (S:Zaa):Ziw o S= .ok (.ref S.length) (S++[o]):=rfl
def ZoW (n:Nat) (o:SO):M Unit:=fun S=> .ok () (S.set n o)
@[simp] theorem ZnK (n:Nat) (o:SO) (S:Zaa):ZoW n o S= .ok () (S.set n o):=rfl
def ZaJ (S:Zaa) (n:Nat):Option (List SV):=match S[n]? with
 | some (.lst xs)=>some xs
 | some (.frz xs)=>some xs
 | _=>none
theorem ZaT {S:Zaa} {n:Nat} {xs:List SV} (h:ZaJ S n=some xs):S[n]? =some (.lst xs)∨S[n]? =some (.frz xs):=by
 unfold ZaJ at h
 split at h
 ·cases h; exact .inl ‹_›
 ·cases h; exact .inr ‹_›
 ·cases h
abbrev En:=List (Option SV)
abbrev EM:=En→M SV
abbrev TM:=En→M Bool
abbrev AM:=En→M (List SV)
def eC (v:SV):EM:=fun _ S=> .ok v S
def ZaZ:AM:=fun _ S=> .ok [] S
def Zac (a:EM) (r:AM):AM:=fun env S=>(a env S).bind fun x S1=>(r env S1).bind fun xs S2=> .ok (x::xs) S2
def eF (f:List SV→M SV) (a:AM):EM:=fun env S=>(a env S).bind fun xs S1=>f xs S1
def e1 (f:SV→M SV) (a:EM):EM:=fun env S=>(a env S).bind fun x S1=>f x S1
def e2 (f:SV→SV→M SV) (a b:EM):EM:=fun env S=>(a env S).bind fun x S1=>(b env S1).bind fun y S2=>f x y S2
def eOr (a b:EM):EM:=fun env S=>(a env S).bind fun x S1=>match x with | .bl true=> .ok (.bl true) S1 | .bl false=>b env S1 | _=> .bad
def tB (a:EM):TM:=fun env S=>(a env S).bind fun x S1=>match x with | .bl b=> .ok b S1 | _=> .bad
def tOr (a b:TM):TM:=fun env S=>(a env S).bind fun c S1=>if c=true then .ok true S1 else b env S1
def ZfS (a:AM):EM:=fun env S=>(a env S).bind fun xs S1=>if xs.length≤PySem.sizeLine then .ok (.tup xs) S1 else .bad
def Zf1 (a:AM):EM:=fun env S=>(a env S).bind fun xs S1=>if xs.length≤PySem.sizeLine then .ok (.ref S1.length) (S1++[.lst xs])else .bad
inductive ZbA where
 | nx (env:En) (S:Zaa) | rt (v:SV) (S:Zaa) | bk (env:En) (S:Zaa) | ct (env:En) (S:Zaa) | exc (x:XC) (env:En) (S:Zaa) | bad
abbrev SM:=En→Zaa→ZbA
def Res.stm {α:Type} (r:Res α) (env:En) (k:α→Zaa→ZbA):ZbA:=match r with
 | .ok a S=>k a S
 | .exc x S=> .exc x env S
 | .bad=> .bad
@[simp] theorem Zix {α:Type} (a:α) (S:Zaa) (env:En) (k:α→Zaa→ZbA):(Res.ok a S).stm env k=k a S:=rfl
@[simp] theorem ZnL {α:Type} (x:XC) (S:Zaa) (env:En) (k:α→Zaa→ZbA):(Res.exc x S).stm env k= .exc x env S:=rfl
@[simp] theorem ZnM {α:Type} (env:En) (k:α→Zaa→ZbA):(Res.bad:Res α).stm env k= .bad:=rfl
def ZbA.seq (r:ZbA) (k:SM):ZbA:=match r with
 | .nx env S=>k env S
 | r=>r
@[simp] theorem Ze8 (env:En) (S:Zaa) (k:SM):(ZbA.nx env S).seq k=k env S:=rfl
@[simp] theorem Zot (v:SV) (S:Zaa) (k:SM):(ZbA.rt v S).seq k= .rt v S:=rfl
@[simp] theorem Zou (env:En) (S:Zaa) (k:SM):(ZbA.bk env S).seq k= .bk env S:=rfl
@[simp] theorem Zov (env:En) (S:Zaa) (k:SM):(ZbA.ct env S).seq k= .ct env S:=rfl
@[simp] theorem ZnN (x:XC) (env:En) (S:Zaa) (k:SM):(ZbA.exc x env S).seq k= .exc x env S:=rfl
@[simp] theorem ZnO (k:SM):ZbA.bad.seq k= .bad:=rfl
def Zea:SM:=fun env S=> .nx env S
def ZbO (a b:SM):SM:=fun env S=>(a env S).seq b
abbrev GM:=SV→SM
def ZlI (e:EM):SM:=fun env S=>(e env S).stm env fun _ S1=> .nx env S1
def Zco (e:EM):SM:=fun env S=>(e env S).stm env fun v S1=> .rt v S1
def Ziy:SM:=fun env S=> .bk env S
def ZlJ:SM:=fun env S=> .ct env S
def Zjd:List GM→GM:=fun gs v env S=>match v with
 | .tup xs=>if xs.length=gs.length then (gs.zip xs).foldl (fun r p=>r.seq fun env S=>p.1 p.2 env S) (.nx env S)else .bad
 | _=> .bad
def turn (r:ZbA) (k:SM):ZbA:=match r with
 | .nx env S=>k env S
 | .ct env S=>k env S
 | .bk env S=> .nx env S
 | .rt v S=> .rt v S
 | .exc x env S=> .exc x env S
 | .bad=> .bad
@[simp] theorem Zje (env:En) (S:Zaa) (k:SM):turn (.nx env S) k=k env S:=rfl
@[simp] theorem ZnP (env:En) (S:Zaa) (k:SM):turn (.ct env S) k=k env S:=rfl
@[simp] theorem ZnQ (env:En) (S:Zaa) (k:SM):turn (.bk env S) k= .nx env S:=rfl
@[simp] theorem ZnR (v:SV) (S:Zaa) (k:SM):turn (.rt v S) k= .rt v S:=rfl
@[simp] theorem Znn (x:XC) (env:En) (S:Zaa) (k:SM):turn (.exc x env S) k= .exc x env S:=rfl
@[simp] theorem Zno (k:SM):turn .bad k= .bad:=rfl
abbrev IT:=Nat→Zaa→Option (Option SV)
abbrev IM:=En→M (Nat × IT)
def itV (xs:List SV):IT:=fun i _=>some xs[i]?
def itL (n:Nat):IT:=fun i S=>match ZaJ S n with | some ys=>some ys[i]? | none=>none
def itR (lo:Int) (n:Nat):IT:=fun i _=>some (if i<n then some (.int (lo+i))else none)
def itS (z:Str):IT:=fun i _=>some (z.cps[i]?.map fun c=>SV.str ⟨#[c]⟩)
def Zhk (e:EM):IM:=fun env S=>(e env S).bind fun v S1=>match v with
 | .tup xs=> .ok (xs.length+1,itV xs) S1
 | .ref n=>(match ZaJ S1 n with
  | some ys=> .ok (ys.length+1,itL n) S1
  | none=> .bad)
 | .str z=> .ok (z.cps.size+1,itS z) S1
 | _=> .bad
def iR1 (b:EM):IM:=fun env S=>(b env S).bind fun v S1=>match v with
 | .int j=> .ok (j.toNat+1,itR 0 j.toNat) S1
 | _=> .bad
def iR2 (a b:EM):IM:=fun env S=>(a env S).bind fun u S0=>(b env S0).bind fun v S1=>match u,v with
 | .int i, .int j=> .ok ((j - i).toNat+1,itR i (j - i).toNat) S1
 | _,_=> .bad
def Zlo:TM:=fun _ S=> .ok true S
def run (n:Nat) (body:SM) (args:List SV):M SV:=fun S=>match body (args.map some++Yaa (n - args.length) none) S with
 | .nx _ S'=> .ok .non S'
 | .rt v S'=> .ok v S'
 | .exc x _ S'=> .exc x S'
 | _=> .bad
end MP
namespace MP
open PySem PySem.Spec PyProof.Rows L2
structure G where
 K:PySem.W.Frag
 cl:String→Addr
 fn:String→Addr
structure Wd where
 at_:Nat→Addr
 n:Nat
def Wd.Le (w w':Wd):Prop:=w.n≤w'.n∧∀i,i<w.n→w'.at_ i=w.at_ i
theorem Wd.Le.refl (w:Wd):w.Le w:=⟨Yab _,fun _ _=>rfl⟩
theorem Wd.Le.trans {a b c:Wd} (x:a.Le b) (y:b.Le c):a.Le c:=⟨Yac x.1 y.1,fun i h=>(y.2 i (Yad h x.1)).trans (x.2 i h)⟩
def ZlK:HO→Prop
 | .tup _=>True
 | .frz _ _=>True
 | .xd _=>True
 | _=>False
def ZdD:HO→Prop
 | .tup _=>True
 | .frz _ _=>True
 | .xd _=>True
 | .tbl _=>True
 | .ext _=>True
 | _=>False
def Zag (H H':Hp):Prop:=∀b o,H b=some o→ZlK o→H' b=some o
theorem Zag.all {H H':Hp} (hs:∀b u,H b=some u→H' b=some u):Zag H H':=fun b u e _=>hs b u e
theorem Zag.refl (H:Hp):Zag H H:=fun _ _ h _=>h
theorem Zag.trans {H H1 H2:Hp} (a:Zag H H1) (b:Zag H1 H2):Zag H H2:=fun c o h s=>b c o (a c o h s) s
theorem Zag.new {H:Hp} {p:Addr} {o:HO} (h:H p=none):Zag H (upd H p o):= .all fun b u e=>by rw [upd_ne (ne_of_none e h)]; exact e
theorem Zhr {H:Hp} {p:Addr} {u:HO} (h:H p=some u) (hs:¬ZdD u):∀b v,H b=some v→ZdD v→b≠p:=fun b v e s z=>by rw [z,h]at e; cases e; exact hs s
theorem Zag.upd {H:Hp} {p:Addr} {o u:HO} (h:H p=some u) (hs:¬ZdD u):Zag H (L2.upd H p o):=fun b v e s=>by
 rw [upd_ne (Zhr h hs b v e (by cases v<;>first | exact s.elim | trivial))]; exact e
def ZlL:HO→Prop
 | .tbl _=>False
 | .ext _=>False
 | _=>True
theorem Zeb {T:List (Addr × Str)} {H:Hp} {p:Addr} {o u:HO} (t:LamX.Tabs T H) (h:H p=some u) (hs:ZlL u):LamX.Tabs T (L2.upd H p o):=fun q hq=>by
 obtain⟨ps,h1,h2,h3⟩:=t q hq
 have ne:∀b v,H b=some v→¬ZlL v→b≠p:=fun b v e s z=>by rw [z,h]at e; cases e; exact s hs
 refine⟨ps,by rw [upd_ne (ne _ _ h1 fun z=>z)]; exact h1,h2,fun pos cv hc=> ?_⟩
 obtain⟨c,e1,e2⟩:=h3 pos cv hc
 exact⟨c,e1,by rw [upd_ne (ne _ _ e2 fun z=>z)]; exact e2⟩
theorem Zhs {T:List (Addr × Str)} {H:Hp} {p:Addr} {o u:HO} (t:LamX.Tabs T H) (h:H p=some u) (hs:¬ZdD u):LamX.Tabs T (L2.upd H p o):=
 Zeb t h (by cases u<;>first | exact trivial | exact hs trivial)
theorem Zag.tup {H H':Hp} (k:Zag H H') {K:PySem.W.Frag} {a:Addr} {xs:List V} (h:SqT K H a xs):SqT K H' a xs:=by
 rcases h with (h | ⟨o,h⟩) | h
 ·exact .inl (.inl (k _ _ h trivial))
 ·exact .inl (.inr ⟨o,k _ _ h trivial⟩)
 ·exact .inr h
mutual
/-- a value of the small semantics is this value of the layer -/
def VR (g:G) (w:Wd) (H:Hp):SV→V→Prop
 | .non,v=>v= .non
 | .bl b,v=>v= .bl b
 | .int i,v=>v= .int i
 | .str x,v=>v= .str x
 | .ty n,v=>v= .ty n
 | .cls c,v=>v= .ref (g.cl c)
 | .fn c,v=>v= .ref (g.fn c)
 | .ref n,v=>n<w.n∧v= .ref (w.at_ n)
 | .tup xs,v=>∃a ys,v= .ref a∧H a=some (.tup ys)∧VRs g w H xs ys
def VRs (g:G) (w:Wd) (H:Hp):List SV→List V→Prop
 | [],ys=>ys=[]
 | x::xs,ys=>∃y r,ys=y::r∧VR g w H x y∧VRs g w H xs r
end
mutual
theorem VR.mono {g:G} {w w':Wd} {H H':Hp} (l:w.Le w') (k:Zag H H'):∀{x:SV} {v:V},VR g w H x v→VR g w' H' x v
 | .non,_,h=>by simpa [VR]using h
 | .bl _,_,h=>by simpa [VR]using h
 | .int _,_,h=>by simpa [VR]using h
 | .str _,_,h=>by simpa [VR]using h
 | .ty _,_,h=>by simpa [VR]using h
 | .cls _,_,h=>by simpa [VR]using h
 | .fn _,_,h=>by simpa [VR]using h
 | .ref n,_,h=>by
  simp only [VR]at h⊢
  exact⟨Yad h.1 l.1,by rw [l.2 n h.1]; exact h.2⟩
 | .tup xs,_,h=>by
  simp only [VR]at h⊢
  obtain⟨a,ys,e,q,r⟩:=h
  exact⟨a,ys,e,k _ _ q trivial,VRs.mono l k r⟩
theorem VRs.mono {g:G} {w w':Wd} {H H':Hp} (l:w.Le w') (k:Zag H H'):∀{xs:List SV} {vs:List V},VRs g w H xs vs→VRs g w' H' xs vs
 | [],_,h=>by simpa [VRs]using h
 | x::xs,_,h=>by
  simp only [VRs]at h⊢
  obtain⟨y,r,e,q,s⟩:=h
  exact⟨y,r,e,VR.mono l k q,VRs.mono l k s⟩
end
section
variable {g:G} {w w':Wd} {H H':Hp}
theorem VRs.len:∀{xs:List SV} {vs:List V},VRs g w H xs vs→vs.length=xs.length
 | [],_,h=>by simp only [VRs]at h; rw [h]; rfl
 | x::xs,_,h=>by
  simp only [VRs]at h
  obtain⟨y,r,e,_,s⟩:=h
  rw [e,Yae,Yae,VRs.len s]
theorem VRs.get:∀{xs:List SV} {vs:List V} {i:Nat} {x:SV},VRs g w H xs vs→xs[i]? =some x→∃v,vs[i]? =some v∧VR g w H x v
 | [],_,_,_,_,e=>by simp at e
 | x::xs,_,0,y,h,e=>by
  simp only [VRs]at h
  obtain⟨v,r,rfl,q,_⟩:=h
  simp at e; subst e
  exact⟨v,rfl,q⟩
 | x::xs,_,i+1,y,h,e=>by
  simp only [VRs]at h
  obtain⟨v,r,rfl,_,s⟩:=h
  obtain⟨u,h1,h2⟩:=VRs.get (i:=i) s (by simpa using e)
  exact⟨u,by simpa using h1,h2⟩
theorem VRs.append:∀{xs ys:List SV} {vs us:List V},VRs g w H xs vs→VRs g w H ys us→VRs g w H (xs++ys) (vs++us)
 | [],_,_,_,h,k=>by simp only [VRs]at h; subst h; exact k
 | x::xs,_,_,_,h,k=>by
  simp only [VRs]at h
  obtain⟨v,r,rfl,q,s⟩:=h
  show VRs g w H (x::(xs++_)) _
  simp only [VRs]
  exact⟨v,_,rfl,q,VRs.append s k⟩
theorem VRs.set {x:SV} {v:V} (q:VR g w H x v):∀{xs:List SV} {vs:List V} (i:Nat),VRs g w H xs vs→VRs g w H (xs.set i x) (vs.set i v)
 | [],_,_,h=>by simp only [VRs]at h; subst h; simp [VRs]
 | y::xs,_,0,h=>by
  simp only [VRs]at h
  obtain⟨u,r,rfl,_,s⟩:=h
  show VRs g w H (x::xs) (v::r)
  simp only [VRs]
  exact⟨v,r,rfl,q,s⟩
 | y::xs,_,i+1,h=>by
  simp only [VRs]at h
  obtain⟨u,r,rfl,q',s⟩:=h
  show VRs g w H (y::xs.set i x) (u::r.set i v)
  simp only [VRs]
  exact⟨u,_,rfl,q',VRs.set q i s⟩
theorem VRs.one {x:SV} {v:V} (q:VR g w H x v):VRs g w H [x] [v]:=by
 simp only [VRs]; exact⟨v,[],rfl,q,rfl⟩
theorem VRs.nil:VRs g w H [] []:=by simp only [VRs]
theorem VRs.cons {x:SV} {xs:List SV} {v:V} {vs:List V} (q:VR g w H x v) (r:VRs g w H xs vs):VRs g w H (x::xs) (v::vs):=by
 simp only [VRs]; exact⟨v,vs,rfl,q,r⟩
end
def FR (g:G) (w:Wd) (H:Hp):List (String × SV)→List (Str × V)→Prop
 | [],ys=>ys=[]
 | x::xs,ys=>∃v r,ys=(Str.ofString x.1,v)::r∧VR g w H x.2 v∧FR g w H xs r
def KR (g:G) (w:Wd) (H:Hp) {κ:Type}:List (κ × SV)→List (κ × V)→Prop
 | [],ys=>ys=[]
 | x::xs,ys=>∃v r,ys=(x.1,v)::r∧VR g w H x.2 v∧KR g w H xs r
def Frz (K:PySem.W.Frag) (H:Hp) (a:Addr) (xs:List V):Prop:=
 (∃o,H a=some (.frz o (.lst xs)))∨(∃(o:Obj) (its:Array Value) (n:Nat),K.lookup a=some o∧o.cls= .type "list"∧o.dict=none∧o.data= .seq its n∧its.size≤sizeLine∧Vals xs its.toList)
def ORl (g:G) (w:Wd) (H:Hp) (a:Addr):SO→Prop
 | .lst xs=>∃ys,H a=some (.lst ys)∧VRs g w H xs ys
 | .frz xs=>∃ys,Frz g.K H a ys∧VRs g w H xs ys
 | .dK kvs=>∃ys,H a=some (.dK ys)∧KR g w H kvs ys
 | .dT kvs=>∃ys,H a=some (.dT ys)∧KR g w H kvs ys
 | .dF kvs=>∃od ys,H a=some (.frz od (.dK ys))∧KR g w H kvs ys
 | .dG kvs=>∃od ys,H a=some (.frz od (.dT ys))∧KR g w H kvs ys
 | .ins c fs=>∃dx ys,H a=some (.ins (g.cl c) dx ys)∧FR g w H fs ys
def Mu:SO→Prop
 | .frz _=>False
 | .dF _=>False
 | .dG _=>False
 | _=>True
def Nf:SO→Prop
 | .frz _=>False
 | _=>True
theorem Mu.nf {o:SO} (m:Mu o):Nf o:=by cases o<;>first | exact m.elim | trivial
def ZnS:List Str:=["_law_refused_right","law","_law_all_fail","_law_contents_refused","_law_bounds_refused"]
def Zcp (K:PySem.W.Frag):List (Addr × Addr × Str):=ZnS.filterMap fun x=>match PySem.W.codeHdIn K (He.cT K (x,none)).1 (He.cT K (x,none)).2&&(K.lookup (He.cT K (x,none)).2).isNone with
 | true=>some ((He.cT K (x,none)).1,(He.cT K (x,none)).2,x++ ".<locals>."++ "<lambda>")
 | false=>none
def Zow (K:PySem.W.Frag):List (Addr × Str):=(Zcp K).map (·.2)
structure Sim (g:G) (w:Wd) (H:Hp) (S:Zaa):Prop where
 len:S.length=w.n
 inj:∀i j o u,S[i]? =some o→S[j]? =some u→Nf o→Nf u→w.at_ i=w.at_ j→i=j
 obj:∀i o,S[i]? =some o→ORl g w H (w.at_ i) o
 tab:LamX.Tabs (Zow g.K) H
def ZcC (g:G) (w:Wd) (H:Hp) (env:En) (σ:L2.St):Prop:=σ.length=env.length∧∀(i:Nat) (x:SV),env[i]? =some (some x)→∃v,σ[i]? =some (some v)∧VR g w H x v
abbrev Xh:=Option (Nat × Addr × Addr × List (String × SV))
def XhR (g:G) (w:Wd) (H:Hp) (xh:Xh) (σ:L2.St):Prop:=∀i a d fs,xh=some (i,a,d,fs)→σ[i]? =some (some (.ref a))∧∃ys,H d=some (.xd ys)∧FR g w H fs ys
theorem XhR.no {g:G} {w:Wd} {H:Hp} {σ:L2.St}:XhR g w H none σ:=fun _ _ _ _ z=>nomatch z
section
variable {g:G} {w w':Wd} {H H':Hp} {xh:Xh} {S S':Zaa} {env:En} {σ:L2.St}
theorem FR.mono (l:w.Le w') (k:Zag H H'):∀{fs:List (String × SV)} {ys:List (Str × V)},FR g w H fs ys→FR g w' H' fs ys
 | [],_,h=>h
 | x::xs,_,⟨v,r,e,q,s⟩=>⟨v,r,e,q.mono l k,FR.mono l k s⟩
theorem KR.mono {κ:Type} (l:w.Le w') (k:Zag H H'):∀{fs:List (κ × SV)} {ys:List (κ × V)},KR g w H fs ys→KR g w' H' fs ys
 | [],_,h=>h
 | x::xs,_,⟨v,r,e,q,s⟩=>⟨v,r,e,q.mono l k,KR.mono l k s⟩
theorem ZcC.mono (l:w.Le w') (k:Zag H H') (h:ZcC g w H env σ):ZcC g w' H' env σ:=⟨h.1,fun i x e=>let ⟨v,h1,h2⟩:=h.2 i x e; ⟨v,h1,h2.mono l k⟩⟩
theorem XhR.mono (l:w.Le w') (k:Zag H H') (h:XhR g w H xh σ):XhR g w' H' xh σ:=fun i a d fs e=>let ⟨h0,ys,h1,h2⟩:=h i a d fs e; ⟨h0,ys,k _ _ h1 trivial,h2.mono l k⟩
theorem Frz.mono {a:Addr} {xs:List V} (k:Zag H H') (h:Frz g.K H a xs):Frz g.K H' a xs:=by
 rcases h with ⟨o,h⟩ | h
 ·exact .inl ⟨o,k _ _ h trivial⟩
 ·exact .inr h
theorem Frz.sq {K:PySem.W.Frag} {a:Addr} {xs:List V} (h:Frz K H a xs):SqL K H a xs:=by
 rcases h with ⟨o,h⟩ | h
 ·exact .inl (.inr ⟨o,h⟩)
 ·exact .inr h
theorem ORl.mono (l:w.Le w') (k:Zag H H') {a:Addr} {o:SO} (h:ORl g w H a o) (e:∀u,H a=some u→H' a=some u):ORl g w' H' a o:=by
 cases o with
 | lst xs=>obtain⟨ys,h1,h2⟩:=h; exact⟨ys,e _ h1,h2.mono l k⟩
 | frz xs=>obtain⟨ys,h1,h2⟩:=h; exact⟨ys,h1.mono k,h2.mono l k⟩
 | dK xs=>obtain⟨ys,h1,h2⟩:=h; exact⟨ys,e _ h1,h2.mono l k⟩
 | dT xs=>obtain⟨ys,h1,h2⟩:=h; exact⟨ys,e _ h1,h2.mono l k⟩
 | dF xs=>obtain⟨od,ys,h1,h2⟩:=h; exact⟨od,ys,e _ h1,h2.mono l k⟩
 | dG xs=>obtain⟨od,ys,h1,h2⟩:=h; exact⟨od,ys,e _ h1,h2.mono l k⟩
 | ins c fs=>obtain⟨dx,ys,h1,h2⟩:=h; exact⟨dx,ys,e _ h1,h2.mono l k⟩
def Wd.push (w:Wd) (p:Addr):Wd:=⟨fun i=>if i=w.n then p else w.at_ i,w.n+1⟩
theorem Wd.le_push (w:Wd) (p:Addr):w.Le (w.push p):=⟨Yaf _,fun i h=>by unfold Wd.push; exact if_neg (Yag h)⟩
theorem Wd.push_at (w:Wd) (p:Addr):(w.push p).at_ w.n=p:=if_pos rfl
theorem ORl.some {a:Addr} {o:SO} (h:ORl g w H a o) (m:Mu o):∃u,H a=some u∧¬ZdD u:=by
 cases o with
 | lst xs=>obtain⟨ys,h1,_⟩:=h; exact⟨_,h1,fun z=>z⟩
 | frz xs=>exact m.elim
 | dK xs=>obtain⟨ys,h1,_⟩:=h; exact⟨_,h1,fun z=>z⟩
 | dT xs=>obtain⟨ys,h1,_⟩:=h; exact⟨_,h1,fun z=>z⟩
 | dF xs=>exact m.elim
 | dG xs=>exact m.elim
 | ins c fs=>obtain⟨dx,ys,h1,_⟩:=h; exact⟨_,h1,fun z=>z⟩
theorem ORl.has {a:Addr} {o:SO} (h:ORl g w H a o) (m:Nf o):∃u,H a=Yah u:=by
 cases o with
 | lst xs=>obtain⟨ys,h1,_⟩:=h; exact⟨_,h1⟩
 | frz xs=>exact m.elim
 | dK xs=>obtain⟨ys,h1,_⟩:=h; exact⟨_,h1⟩
 | dT xs=>obtain⟨ys,h1,_⟩:=h; exact⟨_,h1⟩
 | dF xs=>obtain⟨od,ys,h1,_⟩:=h; exact⟨_,h1⟩
 | dG xs=>obtain⟨od,ys,h1,_⟩:=h; exact⟨_,h1⟩
 | ins c fs=>obtain⟨dx,ys,h1,_⟩:=h; exact⟨_,h1⟩
theorem Sim.new (s:Sim g w H S) {p:Addr} {o:SO} (l:Zag H H') (hp:H p=none) (hs:∀b u,H b=some u→H' b=some u) (ho:ORl g (w.push p) H' p o):Sim g (w.push p) H' (S++[o]):=by
 have at_old:∀i,i<S.length→(w.push p).at_ i=w.at_ i:=fun i h=>(w.le_push p).2 i (by rw [←s.len]; exact h)
 have at_new:(w.push p).at_ S.length=p:=by rw [s.len]; exact w.push_at p
 have split:∀{i:Nat} {u:SO},(S++[o])[i]? =some u→(i<S.length∧S[i]? =some u)∨(i=S.length∧u=o):=fun{i u} e=>by
  by_cases h:i<S.length
  ·rw [Yai h]at e
   exact .inl ⟨h,e⟩
  ·have h2:i<(S++[o]).length:=(Yaj.mp e).1
   rw [Yak]at h2
   have hi:i=S.length:=by
    have:i<S.length+1:=h2
    omega
   subst hi
   rw [Yal (Yab _),Yam]at e
   simp at e
   exact .inr ⟨rfl,e.symm⟩
 have apart:∀{i:Nat} {u:SO},S[i]? =some u→Nf u→w.at_ i≠p:=fun{i u} e m z=>by
  obtain⟨v,h1⟩:=(s.obj i u e).has m
  rw [z,hp]at h1; cases h1
 refine⟨by rw [Yak,s.len]; rfl,fun i j u v hi hj mu mv e=> ?_,fun i u hi=> ?_,s.tab.ext hs⟩
 ·rcases split hi with ⟨h1,e1⟩ | ⟨h1,e1⟩
  ·rcases split hj with ⟨h2,e2⟩ | ⟨h2,e2⟩
   ·rw [at_old i h1,at_old j h2]at e
    exact s.inj i j u v e1 e2 mu mv e
   ·rw [at_old i h1,h2,at_new]at e
    exact absurd e (apart e1 mu)
  ·rcases split hj with ⟨h2,e2⟩ | ⟨h2,e2⟩
   ·rw [at_old j h2,h1,at_new]at e
    exact absurd e.symm (apart e2 mv)
   ·omega
 ·rcases split hi with ⟨h1,e1⟩ | ⟨h1,e1⟩
  ·rw [at_old i h1]
   exact(s.obj i u e1).mono (w.le_push p) l fun v q=>hs _ _ q
  ·rw [h1,at_new,e1]
   exact ho
theorem Sim.set (s:Sim g w H S) {n:Nat} {o o':SO} {u:HO} (hn:S[n]? =some o) (m:Mu o) (m':Nf o') (ho:ORl g w (L2.upd H (w.at_ n) u) (w.at_ n) o'):Sim g w (L2.upd H (w.at_ n) u) (S.set n o'):=by
 obtain⟨v,hv,st⟩:=(s.obj n o hn).some m
 have hlt:n<S.length:=(Yaj.mp hn).1
 have k:Zag H (L2.upd H (w.at_ n) u):=Zag.upd hv st
 have old:∀{i:Nat} {x:SO},(S.set n o')[i]? =some x→(i=n∧x=o')∨(i≠n∧S[i]? =some x):=fun{i x} e=>by
  by_cases h:i=n
  ·subst h
   rw [Yan hlt]at e
   cases e
   exact .inl ⟨rfl,rfl⟩
  ·rw [Yao (Ne.symm h)]at e
   exact .inr ⟨h,e⟩
 refine⟨by rw [Yap]; exact s.len,fun i j x y hi hj mx my e=> ?_,fun i x hi=> ?_,Zhs s.tab hv st⟩
 ·rcases old hi with ⟨h1,e1⟩ | ⟨h1,e1⟩
  ·rcases old hj with ⟨h2,e2⟩ | ⟨h2,e2⟩
   ·omega
   ·exact h1.trans (s.inj n j o y hn e2 m.nf my (by rw [←h1]; exact e))
  ·rcases old hj with ⟨h2,e2⟩ | ⟨h2,e2⟩
   ·exact(s.inj i n x o e1 hn mx m.nf (by rw [←h2]; exact e)).trans h2.symm
   ·exact s.inj i j x y e1 e2 mx my e
 ·rcases old hi with ⟨h1,e1⟩ | ⟨h1,e1⟩
  ·rw [h1,e1]
   exact ho
  ·have q:=s.obj i x e1
   by_cases mx:Nf x
   ·have ne:w.at_ i≠w.at_ n:=fun z=>h1 (s.inj i n x o e1 hn mx m.nf z)
    exact q.mono (Wd.Le.refl w) k fun z hz=>by rw [upd_ne ne]; exact hz
   ·cases x with
    | frz xs=>obtain⟨ys,h3,h4⟩:=q; exact⟨ys,h3.mono k,h4.mono (Wd.Le.refl w) k⟩
    | lst xs=>exact(mx trivial).elim
    | dK xs=>exact(mx trivial).elim
    | dT xs=>exact(mx trivial).elim
    | dF xs=>exact(mx trivial).elim
    | dG xs=>exact(mx trivial).elim
    | ins c fs=>exact(mx trivial).elim
end
end MP
namespace MP
open PySem PySem.Spec PyProof.Rows L2
structure Nm where
 cl:String→Addr
 fn:String→Addr
abbrev gx (X:Cx) (n:Nm):G:=⟨X.K,n.cl,n.fn⟩
def Out {α:Type} (r:Res α) (K:α→Zaa→Prop) (E:XC→Zaa→Prop):Prop:=match r with
 | .ok a S=>K a S
 | .exc x S=>E x S
 | .bad=>False
theorem Out.bind {α β:Type} {r:Res α} {f:α→Zaa→Res β} {K:β→Zaa→Prop} {E:XC→Zaa→Prop} (h:Out (r.bind f) K E):Out r (fun a S=>Out (f a S) K E) E:=by
 cases r<;>exact h
theorem Out.imp {α:Type} {r:Res α} {K K':α→Zaa→Prop} {E E':XC→Zaa→Prop} (h:Out r K E) (k:∀a S,K a S→K' a S) (e:∀x S,E x S→E' x S):Out r K' E':=by
 cases r with
 | ok a S=>exact k a S h
 | exc x S=>exact e x S h
 | bad=>exact h
def ExR (g:G) (w:Wd) (H:Hp) (x:XC) (cls:Value) (d:Option Addr):Prop:=match x with
 | .own c fs=>cls= .ref (g.cl c)∧∃dd ys,d=some dd∧H dd=some (.xd ys)∧FR g w H fs ys
 | .blt n=>cls= .type n∧d=none
theorem ExR.mono {g:G} {w w':Wd} {H H':Hp} {x:XC} {cls:Value} {d:Option Addr} (l:w.Le w') (k:Zag H H') (h:ExR g w H x cls d):ExR g w' H' x cls d:=by
 cases x with
 | own c fs=>obtain⟨e,dd,ys,h1,h2,h3⟩:=h; exact⟨e,dd,ys,h1,k _ _ h2 trivial,h3.mono l k⟩
 | blt n=>exact h
def KV (g:G) (w:Wd) (H:Hp) (Q:VK):SV→Zaa→Prop:=fun a S'=>∀w' H' v,w.Le w'→Zag H H'→Sim g w' H' S'→VR g w' H' a v→Q v H'
def KVs (g:G) (w:Wd) (H:Hp) (Q:List V→Hp→Prop):List SV→Zaa→Prop:=fun a S'=>∀w' H' v,w.Le w'→Zag H H'→Sim g w' H' S'→VRs g w' H' a v→Q v H'
def KB (g:G) (w:Wd) (H:Hp) (Q:Bool→Hp→Prop):Bool→Zaa→Prop:=fun a S'=>∀w' H',w.Le w'→Zag H H'→Sim g w' H' S'→Q a H'
def KX (g:G) (w:Wd) (H:Hp) (W:Value→Option Addr→Hp→Prop):XC→Zaa→Prop:=fun x S'=>∀w' H' cls d,w.Le w'→Zag H H'→Sim g w' H' S'→ExR g w' H' x cls d→W cls d H'
section
variable {g:G} {w w1:Wd} {H H1:Hp}
theorem KV.mono {Q:VK} (l:w.Le w1) (k:Zag H H1) {a:SV} {S:Zaa} (h:KV g w H Q a S):KV g w1 H1 Q a S:=fun w' H' v l' k' s r=>h w' H' v (l.trans l') (k.trans k') s r
theorem KVs.mono {Q:List V→Hp→Prop} (l:w.Le w1) (k:Zag H H1) {a:List SV} {S:Zaa} (h:KVs g w H Q a S):KVs g w1 H1 Q a S:=fun w' H' v l' k' s r=>h w' H' v (l.trans l') (k.trans k') s r
theorem KB.mono {Q:Bool→Hp→Prop} (l:w.Le w1) (k:Zag H H1) {a:Bool} {S:Zaa} (h:KB g w H Q a S):KB g w1 H1 Q a S:=fun w' H' l' k' s=>h w' H' (l.trans l') (k.trans k') s
theorem KX.mono {W:Value→Option Addr→Hp→Prop} (l:w.Le w1) (k:Zag H H1) {x:XC} {S:Zaa} (h:KX g w H W x S):KX g w1 H1 W x S:=fun w' H' cls d l' k' s r=>h w' H' cls d (l.trans l') (k.trans k') s r
end
structure Fm (g:G) (xh:Xh) (w:Wd) (H:Hp) (env:En) (σ:L2.St):Prop where
 env:ZcC g w H env σ
 xh:XhR g w H xh σ
theorem Fm.mono {g:G} {xh:Xh} {w w':Wd} {H H':Hp} {env:En} {σ:L2.St} (l:w.Le w') (k:Zag H H') (h:Fm g xh w H env σ):Fm g xh w' H' env σ:=⟨h.env.mono l k,h.xh.mono l k⟩
structure RE (X:Cx) (n:Nm) (xh:Xh) (W:WX) (e:Expr) (m:EM):Prop where
 ex:∃t:TE,PE X e t∧∀(σ:L2.St) (H:Hp) (w:Wd) (S:Zaa) (env:En) (Q:VK),Sim (gx X n) w H S→Fm (gx X n) xh w H env σ→Out (m env S) (KV (gx X n) w H Q) (KX (gx X n) w H fun cls d H'=>W cls d σ H')→t σ H Q
structure RT (X:Cx) (n:Nm) (xh:Xh) (W:WX) (e:Expr) (m:TM):Prop where
 ex:∃t:TT,PT X e t∧∀(σ:L2.St) (H:Hp) (w:Wd) (S:Zaa) (env:En) (Q:Bool→Hp→Prop),Sim (gx X n) w H S→Fm (gx X n) xh w H env σ→Out (m env S) (KB (gx X n) w H Q) (KX (gx X n) w H fun cls d H'=>W cls d σ H')→t σ H Q
structure RW (X:Cx) (n:Nm) (xh:Xh) (W:WX) (e:Expr) (m:TM):Prop where
 ex:∃t:TT,PW X e t∧∀(σ:L2.St) (H:Hp) (w:Wd) (S:Zaa) (env:En) (Q:Bool→Hp→Prop),Sim (gx X n) w H S→Fm (gx X n) xh w H env σ→Out (m env S) (KB (gx X n) w H Q) (KX (gx X n) w H fun cls d H'=>W cls d σ H')→t σ H Q
structure RA (X:Cx) (n:Nm) (xh:Xh) (W:WX) (es:List Expr) (m:AM):Prop where
 ex:∃t:TA,PA X es t∧∀(σ:L2.St) (H:Hp) (w:Wd) (S:Zaa) (env:En) (Q:List V→Hp→Prop),Sim (gx X n) w H S→Fm (gx X n) xh w H env σ→Out (m env S) (KVs (gx X n) w H Q) (KX (gx X n) w H fun cls d H'=>W cls d σ H')→t σ H Q
def Zce (g:G) (w:Wd) (H:Hp) (W:WX) (D:Ends):ZbA→Prop
 | .nx env S=>∀w' H' σ',w.Le w'→Zag H H'→Sim g w' H' S→ZcC g w' H' env σ'→D.nx σ' H'
 | .bk env S=>∀w' H' σ',w.Le w'→Zag H H'→Sim g w' H' S→ZcC g w' H' env σ'→D.bk σ' H'
 | .ct env S=>∀w' H' σ',w.Le w'→Zag H H'→Sim g w' H' S→ZcC g w' H' env σ'→D.ct σ' H'
 | .rt a S=>∀w' H' v,w.Le w'→Zag H H'→Sim g w' H' S→VR g w' H' a v→D.rt v H'
 | .exc x env S=>∀w' H' σ' cls d,w.Le w'→Zag H H'→Sim g w' H' S→ZcC g w' H' env σ'→ExR g w' H' x cls d→W cls d σ' H'
 | .bad=>False
theorem Zce.mono {g:G} {w w1:Wd} {H H1:Hp} {W:WX} {D:Ends} {r:ZbA} (l:w.Le w1) (k:Zag H H1) (h:Zce g w H W D r):Zce g w1 H1 W D r:=by
 cases r with
 | nx env S=>exact fun w' H' σ' l' k'=>h w' H' σ' (l.trans l') (k.trans k')
 | bk env S=>exact fun w' H' σ' l' k'=>h w' H' σ' (l.trans l') (k.trans k')
 | ct env S=>exact fun w' H' σ' l' k'=>h w' H' σ' (l.trans l') (k.trans k')
 | rt a S=>exact fun w' H' v l' k'=>h w' H' v (l.trans l') (k.trans k')
 | exc x env S=>exact fun w' H' σ' cls d l' k'=>h w' H' σ' cls d (l.trans l') (k.trans k')
 | bad=>exact h
structure RS (X:Cx) (n:Nm) (xh:Xh) (W:WX) (st:Stmt) (m:SM):Prop where
 ex:∃t:TS,PS X st t∧∀(σ:L2.St) (H:Hp) (w:Wd) (S:Zaa) (env:En) (D:Ends),Sim (gx X n) w H S→Fm (gx X n) xh w H env σ→Zce (gx X n) w H W D (m env S)→t D σ H
structure RSs (X:Cx) (n:Nm) (xh:Xh) (W:WX) (st:List Stmt) (m:SM):Prop where
 ex:∃t:TS,PSs X st t∧∀(σ:L2.St) (H:Hp) (w:Wd) (S:Zaa) (env:En) (D:Ends),Sim (gx X n) w H S→Fm (gx X n) xh w H env σ→Zce (gx X n) w H W D (m env S)→t D σ H
def Zec:ZbA→Prop
 | .nx _ _=>True
 | .exc _ _ _=>True
 | .bad=>True
 | _=>False
def Off (vs:List Nat) (σ σ':L2.St):Prop:=σ'.length=σ.length∧∀i,i∉vs→σ'[i]? =σ[i]?
theorem Off.refl (vs:List Nat) (σ:L2.St):Off vs σ σ:=⟨rfl,fun _ _=>rfl⟩
theorem Off.trans {vs:List Nat} {σ σ1 σ2:L2.St} (a:Off vs σ σ1) (b:Off vs σ1 σ2):Off vs σ σ2:=⟨b.1.trans a.1,fun i h=>(b.2 i h).trans (a.2 i h)⟩
theorem Off.set {vs:List Nat} {σ:L2.St} {i:Nat} {x:Option V} (h:i∈vs):Off vs σ (σ.set i x):=⟨Yap,fun j hj=>Yao fun e=>hj (by rw [←e]; exact h)⟩
def ZfA (g:G) (w:Wd) (H:Hp) (W:WX) (vs:List Nat) (σ:L2.St) (Q:L2.St→Hp→Prop):ZbA→Prop
 | .nx env S=>∀w' H' σ',w.Le w'→Zag H H'→Sim g w' H' S→ZcC g w' H' env σ'→Off vs σ σ'→Q σ' H'
 | .exc x env S=>∀w' H' σ' cls d,w.Le w'→Zag H H'→Sim g w' H' S→ZcC g w' H' env σ'→ExR g w' H' x cls d→W cls d σ' H'
 | _=>False
theorem ZfA.mono {g:G} {w w1:Wd} {H H1:Hp} {W:WX} {vs:List Nat} {σ:L2.St} {Q:L2.St→Hp→Prop} {r:ZbA} (l:w.Le w1) (k:Zag H H1) (h:ZfA g w H W vs σ Q r):ZfA g w1 H1 W vs σ Q r:=by
 cases r with
 | nx env S=>exact fun w' H' σ' l' k'=>h w' H' σ' (l.trans l') (k.trans k')
 | exc x env S=>exact fun w' H' σ' cls d l' k'=>h w' H' σ' cls d (l.trans l') (k.trans k')
 | _=>exact h
structure RG (X:Cx) (n:Nm) (W:WX) (vs:List Nat) (tg:Expr) (m:GM):Prop where
 tm:∀x env S,Zec (m x env S)
 ex:∃t:TG,PG X tg t∧∀(σ:L2.St) (H:Hp) (w:Wd) (S:Zaa) (env:En) (x:SV) (v:V) (Q:L2.St→Hp→Prop),Sim (gx X n) w H S→ZcC (gx X n) w H env σ→VR (gx X n) w H x v→
  ZfA (gx X n) w H W vs σ Q (m x env S)→t v σ H Q
def NoX {α:Type} (r:Res α):Prop:=match r with
 | .exc _ _=>False
 | _=>True
theorem Out.nox {α:Type} {r:Res α} {K:α→Zaa→Prop} {E:XC→Zaa→Prop} (h:Out r K E) (n:NoX r):Out r K fun _ _=>False:=by
 cases r with
 | ok a S=>exact h
 | exc x S=>exact n
 | bad=>exact h
structure Zao (X:Cx) (n:Nm) (f:Value→Value→Sem Value) (m:SV→SV→M SV):Prop where
 nx:∀x y S,NoX (m x y S)
 ex:∃r:R2,OpR X f r∧∀(H:Hp) (w:Wd) (S:Zaa) (x y:SV) (v u:V) (Q:VK),Sim (gx X n) w H S→VR (gx X n) w H x v→VR (gx X n) w H y u→Out (m x y S) (KV (gx X n) w H Q) (fun _ _=>False)→r v u H Q
structure Za2 (X:Cx) (n:Nm) (f:Value) (m:List SV→M SV):Prop where
 nx:∀xs S,NoX (m xs S)
 ex:∃r:List V→Hp→VK→Prop,CallR X f r∧∀(H:Hp) (w:Wd) (S:Zaa) (xs:List SV) (vs:List V) (Q:VK),Sim (gx X n) w H S→VRs (gx X n) w H xs vs→Out (m xs S) (KV (gx X n) w H Q) (fun _ _=>False)→r vs H Q
section
variable {X:Cx} {n:Nm} {xh:Xh} {W:WX} {e a b c:Expr} {es:List Expr} {ma mb mc:EM} {mt mu:TM} {mr:AM} {pos:Pos}
theorem RE.const {v:V} {a:SV} (h:PE X e (tC v)) (r:∀w H,VR (gx X n) w H a v):RE X n xh W e (eC a):=
 ⟨_,h,fun σ H w S env Q s f q=>q w H v (Wd.Le.refl w) (Zag.refl H) s (r w H)⟩
theorem RE.int {i:Int} {j:Nat}:RE X n xh W (.Constant (.int i) j pos) (eC (.int i)):= .const pe_int fun _ _=>by simp [VR]
theorem RE.bl {b:Bool} {j:Nat}:RE X n xh W (.Constant (.bool b) j pos) (eC (.bl b)):= .const pe_bl fun _ _=>by simp [VR]
theorem RE.non {j:Nat}:RE X n xh W (.Constant .none j pos) (eC .non):= .const pe_non fun _ _=>by simp [VR]
theorem RE.str {x:Str} {j:Nat}:RE X n xh W (.Constant (.str x) j pos) (eC (.str x)):= .const pe_str fun _ _=>by simp [VR]
theorem RE.op {op:Operator} {f:SV→SV→M SV} (o:Zao X n (binaryOp op) f) (ha:RE X n xh W a ma) (hb:RE X n xh W b mb):RE X n xh W (.BinOp a op b pos) (e2 f ma mb):=by
 obtain⟨r,ho,co⟩:=o.ex
 obtain⟨ta,pa,ca⟩:=ha.ex
 obtain⟨tb,pb,cb⟩:=hb.ex
 refine⟨_,pe_op ho pa pb,fun σ H w S env Q s fm h=> ?_⟩
 refine ca σ H w S env _ s fm ((Out.bind h).imp (fun x S1 h1 w1 H1 v l1 k1 s1 r1=> ?_) fun _ _ z=>z)
 refine cb σ H1 w1 S1 env _ s1 (fm.mono l1 k1) ((Out.bind h1).imp (fun y S2 h2 w2 H2 u l2 k2 s2 r2=> ?_) fun _ _ z=>z.mono l1 k1)
 exact co H2 w2 S2 x y v u Q s2 (r1.mono l2 k2) r2 ((h2.nox (o.nx _ _ _)).imp (fun _ _ z=>z.mono (l1.trans l2) (k1.trans k2)) fun _ _ z=>z)
theorem RW.pt (h:RW X n xh W e mt):RT X n xh W e mt:=let ⟨t,p,c⟩:=h.ex; ⟨t,p.pt,c⟩
theorem RW.or (ha:RT X n xh W a mt) (hb:RW X n xh W (.BoolOp .Or (b::es) pos) mu):RW X n xh W (.BoolOp .Or (a::b::es) pos) (tOr mt mu):=by
 obtain⟨ta,pa,ca⟩:=ha.ex
 obtain⟨tb,pb,cb⟩:=hb.ex
 refine⟨_,pw_or pa pb,fun σ H w S env Q s fm h=> ?_⟩
 refine ca σ H w S env _ s fm ((Out.bind h).imp (fun x S1 h1 w1 H1 l1 k1 s1=> ?_) fun _ _ z=>z)
 cases x with
 | false=>exact cb σ H1 w1 S1 env Q s1 (fm.mono l1 k1) (h1.imp (fun _ _ z=>z.mono l1 k1) fun _ _ z=>z.mono l1 k1)
 | true=>exact h1 w1 H1 l1 k1 s1
theorem RE.one {op:BoolOp} (h:RE X n xh W a ma):RE X n xh W (.BoolOp op [a] pos) ma:=let ⟨t,p,c⟩:=h.ex; ⟨t,pe_one p,c⟩
theorem RE.or (ha:RE X n xh W a ma) (hb:RE X n xh W (.BoolOp .Or (b::es) pos) mb):RE X n xh W (.BoolOp .Or (a::b::es) pos) (eOr ma mb):=by
 obtain⟨ta,pa,ca⟩:=ha.ex
 obtain⟨tb,pb,cb⟩:=hb.ex
 refine⟨_,pe_or pa pb,fun σ H w S env Q s fm h=> ?_⟩
 refine ca σ H w S env _ s fm ((Out.bind h).imp (fun x S1 h1 w1 H1 v l1 k1 s1 r1=> ?_) fun _ _ z=>z)
 cases x with
 | bl k=>
  have e:v= .bl k:=by simpa [VR]using r1
  refine⟨k,e, ?_⟩
  cases k with
  | false=>exact cb σ H1 w1 S1 env Q s1 (fm.mono l1 k1) (h1.imp (fun _ _ z=>z.mono l1 k1) fun _ _ z=>z.mono l1 k1)
  | true=>exact h1 w1 H1 (.bl true) l1 k1 s1 (by simp [VR])
 | _=>exact h1.elim
theorem RT.val (ha:RE X n xh W e ma) (he:∀whole,isTrue e X.env whole=(do let v←whole; standAt e.pos; holding [v] (truthy v)):=by intro _; rfl):RT X n xh W e (MP.tB ma):=by
 obtain⟨ta,pa,ca⟩:=ha.ex
 refine⟨_,pt_val pa he,fun σ H w S env Q s fm h=> ?_⟩
 refine ca σ H w S env _ s fm ((Out.bind h).imp (fun x S1 h1 w1 H1 v l1 k1 s1 r1=> ?_) fun _ _ z=>z)
 cases x with
 | bl k=>exact⟨k,by simpa [VR]using r1,h1 w1 H1 l1 k1 s1⟩
 | _=>exact h1.elim
theorem RA.nil:RA X n xh W [] ZaZ:=⟨_,pa_nil,fun σ H w S env Q s f h=>h w H [] (Wd.Le.refl w) (Zag.refl H) s VRs.nil⟩
theorem RA.cons (ha:RE X n xh W e ma) (hr:RA X n xh W es mr) (hs:starEach (e::es) X.env=(false,eval e X.env)::starEach es X.env:=by rfl):RA X n xh W (e::es) (Zac ma mr):=by
 obtain⟨ta,pa,ca⟩:=ha.ex
 obtain⟨tb,pb,cb⟩:=hr.ex
 refine⟨_,pa_cons pa pb hs,fun σ H w S env Q s fm h=> ?_⟩
 refine ca σ H w S env _ s fm ((Out.bind h).imp (fun x S1 h1 w1 H1 v l1 k1 s1 r1=> ?_) fun _ _ z=>z)
 refine cb σ H1 w1 S1 env _ s1 (fm.mono l1 k1) ((Out.bind h1).imp (fun xs S2 h2 w2 H2 vs l2 k2 s2 r2=> ?_) fun _ _ z=>z.mono l1 k1)
 exact h2 w2 H2 (v::vs) (l1.trans l2) (k1.trans k2) s2 (VRs.cons (r1.mono l2 k2) r2)
end
end MP
namespace MP
open PySem PySem.Spec PyProof.Rows L2
theorem Sim.grow {g:G} {w:Wd} {H H':Hp} {S:Zaa} (s:Sim g w H S) (hs:∀b u,H b=some u→H' b=some u):Sim g w H' S:=
 ⟨s.len,s.inj,fun i o e=>(s.obj i o e).mono (Wd.Le.refl w) (.all hs) fun u q=>hs _ u q,s.tab.ext hs⟩
theorem ZaG {H:Hp} {p:Addr} {o:HO} (h:H p=none):∀b u,H b=some u→upd H p o b=some u:=fun b u e=>by rw [upd_ne (ne_of_none e h)]; exact e
section
variable {g:G} {w:Wd} {H:Hp} {S:Zaa}
theorem KV.tup {Q:VK} {xs:List SV} {vs:List V} (s:Sim g w H S) (r:VRs g w H xs vs) (h:KV g w H Q (.tup xs) S) (p:Addr) (hp:H p=none):Q (.ref p) (upd H p (.tup vs)):=by
 refine h w _ _ (Wd.Le.refl w) (Zag.new hp) (s.grow (ZaG hp)) ?_
 simp only [VR]
 exact⟨p,vs,rfl,upd_same,r.mono (Wd.Le.refl w) (Zag.new hp)⟩
theorem KV.lst {Q:VK} {xs:List SV} {vs:List V} (s:Sim g w H S) (r:VRs g w H xs vs) (h:KV g w H Q (.ref S.length) (S++[.lst xs])) (p:Addr) (hp:H p=none):Q (.ref p) (upd H p (.lst vs)):=by
 refine h (w.push p) _ _ (w.le_push p) (Zag.new hp) (s.new (Zag.new hp) hp (ZaG hp) ⟨vs,upd_same,r.mono (w.le_push p) (Zag.new hp)⟩) ?_
 simp only [VR]
 rw [s.len]
 exact⟨Yaq _,by rw [w.push_at]⟩
theorem Sim.at_ {n:Nat} {o:SO} (s:Sim g w H S) (e:S[n]? =some o):ORl g w H (w.at_ n) o:=s.obj n o e
theorem Sim.seq {n:Nat} {xs:List SV} (s:Sim g w H S) (e:S[n]? =some (.lst xs)∨S[n]? =some (.frz xs)):∃vs,SqL g.K H (w.at_ n) vs∧VRs g w H xs vs:=by
 rcases e with e | e
 ·obtain⟨ys,h1,h2⟩:=s.obj n _ e
  exact⟨ys,SqL.of h1,h2⟩
 ·obtain⟨ys,h1,h2⟩:=s.obj n _ e
  exact⟨ys,h1.sq,h2⟩
end
section
variable {X:Cx} {n:Nm} {xh:Xh} {W:WX} {e a b c o:Expr} {es:List Expr} {ma mb mc:EM} {mt mu:TM} {mr:AM} {pos:Pos}
theorem RE.tup {k:Nat} (h:RA X n xh W es mr):RE X n xh W (.Tuple es k pos) (ZfS mr):=by
 obtain⟨ta,pa,ca⟩:=h.ex
 refine⟨_,pe_tup pa,fun σ H w S env Q s fm h=> ?_⟩
 refine ca σ H w S env _ s fm ((Out.bind h).imp (fun xs S1 h1 w1 H1 vs l1 k1 s1 r1=> ?_) fun _ _ z=>z)
 by_cases hz:xs.length≤sizeLine
 ·rw [if_pos hz]at h1
  exact⟨by rw [r1.len]; exact hz,fun p hp=>KV.tup s1 r1 (h1.mono l1 k1) p hp⟩
 ·rw [if_neg hz]at h1; exact h1.elim
theorem RE.lst (h:RA X n xh W es mr):RE X n xh W (.List es pos) (Zf1 mr):=by
 obtain⟨ta,pa,ca⟩:=h.ex
 refine⟨_,pe_lst pa,fun σ H w S env Q s fm h=> ?_⟩
 refine ca σ H w S env _ s fm ((Out.bind h).imp (fun xs S1 h1 w1 H1 vs l1 k1 s1 r1=> ?_) fun _ _ z=>z)
 by_cases hz:xs.length≤sizeLine
 ·rw [if_pos hz]at h1
  exact⟨by rw [r1.len]; exact hz,fun p hp=>KV.lst s1 r1 (h1.mono l1 k1) p hp⟩
 ·rw [if_neg hz]at h1; exact h1.elim
variable {st:Stmt} {sts:List Stmt} {ms mk:SM} {mg:GM}
theorem RSs.nil:RSs X n xh W [] Zea:=⟨_,pss_nil,fun σ H w S env D s fm h=>h w H σ (Wd.Le.refl w) (Zag.refl H) s fm.env⟩
theorem Zce.seq {g:G} {w:Wd} {H:Hp} {W:WX} {D:Ends} {r:ZbA} {k:SM} {t:TS}
  (ck:∀(σ:L2.St) (H:Hp) (w:Wd) (S:Zaa) (env:En) (D:Ends),Sim g w H S→Fm g none w H env σ→Zce g w H W D (k env S)→t D σ H) (h:Zce g w H W D (r.seq k)):Zce g w H W {D with nx:=t D} r:=by
 cases r with
 | nx env S=>exact fun w' H' σ' l' k' s' e'=>ck σ' H' w' S env D s' ⟨e',XhR.no⟩ (Zce.mono l' k' h)
 | rt a S=>exact h
 | bk env S=>exact h
 | ct env S=>exact h
 | exc x env S=>exact h
 | bad=>exact h
theorem RSs.cons (h1:RS X n none W st ms) (h2:RSs X n none W sts mk):RSs X n none W (st::sts) (ZbO ms mk):=by
 obtain⟨ta,pa,ca⟩:=h1.ex
 obtain⟨tb,pb,cb⟩:=h2.ex
 refine⟨_,pss_cons pa pb,fun σ H w S env D s fm h=> ?_⟩
 exact ca σ H w S env _ s fm (Zce.seq cb h)
theorem RSs.one (h1:RS X n xh W st ms):RSs X n xh W [st] ms:=by
 obtain⟨ta,pa,ca⟩:=h1.ex
 exact⟨_,pss_one pa,ca⟩
theorem Out.stm {α:Type} {g:G} {w:Wd} {H:Hp} {W:WX} {D:Ends} {r:Res α} {env:En} {σ:L2.St} {k:α→Zaa→ZbA} (he:ZcC g w H env σ) (h:Zce g w H W D (r.stm env k)):
  Out r (fun a S=>Zce g w H W D (k a S)) (KX g w H fun cls d H'=>W cls d σ H'):=by
 cases r with
 | ok a S=>exact h
 | exc x S=>exact fun w' H' cls d l' k' s' x'=>h w' H' σ cls d l' k' s' (he.mono l' k') x'
 | bad=>exact h
theorem RS.drop (h:RE X n xh W e ma) (hs:swapsWith e none pos.line X.env=pure false:=by rfl):RS X n xh W (.Expr e pos) (ZlI ma):=by
 obtain⟨ta,pa,ca⟩:=h.ex
 refine⟨_,ps_expr pa hs,fun σ H w S env D s fm h=> ?_⟩
 exact ca σ H w S env _ s fm ((Out.stm fm.env h).imp (fun x S1 h1 w1 H1 v l1 k1 s1 r1=>h1 w1 H1 σ l1 k1 s1 (fm.env.mono l1 k1)) fun _ _ z=>z)
theorem RS.doc {x:Str} {j:Nat} {pos':Pos}:RS X n xh W (.Expr (.Constant (.str x) j pos) pos') Zea:=⟨_,ps_doc,fun σ H w S env D s fm h=>h w H σ (Wd.Le.refl w) (Zag.refl H) s fm.env⟩
theorem RS.ret (h:RE X n xh W e ma):RS X n xh W (.Return (some e) pos) (Zco ma):=by
 obtain⟨ta,pa,ca⟩:=h.ex
 refine⟨_,ps_ret pa,fun σ H w S env D s fm h=> ?_⟩
 exact ca σ H w S env _ s fm ((Out.stm fm.env h).imp (fun x S1 h1 w1 H1 v l1 k1 s1 r1=>h1 w1 H1 v l1 k1 s1 r1) fun _ _ z=>z)
theorem RS.brk:RS X n xh W (.Break pos) Ziy:=⟨_,ps_break,fun σ H w S env D s fm h=>h w H σ (Wd.Le.refl w) (Zag.refl H) s fm.env⟩
theorem RS.cont:RS X n xh W (.Continue pos) ZlJ:=⟨_,ps_continue,fun σ H w S env D s fm h=>h w H σ (Wd.Le.refl w) (Zag.refl H) s fm.env⟩
theorem ZcC.set {g:G} {w:Wd} {H:Hp} {env:En} {σ:L2.St} {i:Nat} {x:SV} {v:V} (h:ZcC g w H env σ) (r:VR g w H x v):ZcC g w H (env.set i (some x)) (σ.set i (some v)):=by
 refine⟨by rw [Yap,Yap]; exact h.1,fun j y e=> ?_⟩
 by_cases hj:j=i
 ·subst hj
  have hl:j<env.length:=by
   have:=(Yaj.mp e).1
   rw [Yap]at this
   exact this
  rw [Yan hl]at e
  cases e
  exact⟨v,by rw [Yan (by rw [h.1]; exact hl)],r⟩
 ·rw [Yao (Ne.symm hj)]at e
  obtain⟨u,h1,h2⟩:=h.2 j y e
  exact⟨u,by rw [Yao (Ne.symm hj)]; exact h1,h2⟩
structure RGs (X:Cx) (n:Nm) (W:WX) (vs:List Nat) (ts:List Expr) (ms:List GM):Prop where
 len:ts.length=ms.length
 tm:∀m∈ms,∀x env S,Zec (m x env S)
 ex:∃t:TGs,PGs X ts t∧∀(σ:L2.St) (H:Hp) (w:Wd) (S:Zaa) (env:En) (xs:List SV) (us:List V) (Q:L2.St→Hp→Prop),Sim (gx X n) w H S→ZcC (gx X n) w H env σ→VRs (gx X n) w H xs us→xs.length=ms.length→
  ZfA (gx X n) w H W vs σ Q ((ms.zip xs).foldl (fun r p=>r.seq fun env S=>p.1 p.2 env S) (.nx env S))→t us σ H Q
theorem RGs.nil {vs:List Nat}:RGs X n W vs [] []:=⟨rfl,(fun _ h=>by cases h),_,pgs_nil,fun σ H w S env xs us Q s he r hl h=>by
 cases xs with
 | nil=>simp only [VRs]at r; exact⟨r,h w H σ (Wd.Le.refl w) (Zag.refl H) s he (Off.refl _ _)⟩
 | cons x xs=>cases hl⟩
theorem Zht (ps:List (GM × SV)):∀(r:ZbA),ps.foldl (fun r p=>r.seq fun env S=>p.1 p.2 env S) r=r.seq fun env S=>ps.foldl (fun r p=>r.seq fun env S=>p.1 p.2 env S) (.nx env S):=by
 induction ps with
 | nil=>intro r; cases r<;>rfl
 | cons p ps ih=>
  intro r
  rw [Yar,ih]
  cases r with
  | nx env S=>simp only [Ze8,Yar]; rw [ih]
  | _=>rfl
theorem RGs.cons {vs:List Nat} {ts:List Expr} {ms:List GM} (h1:RG X n W vs e mg) (h2:RGs X n W vs ts ms) (hs:(assignEach (e::ts) X.env).map (·.2)=assign e X.env::(assignEach ts X.env).map (·.2):=by rfl):RGs X n W vs (e::ts) (mg::ms):=by
 obtain⟨tm1,ta,pa,ca⟩:=h1
 obtain⟨hl,tm2,tb,pb,cb⟩:=h2
 refine⟨by rw [Yae,Yae,hl],fun m hm=>(Yas.mp hm).elim (fun e=>by rw [e]; exact tm1) (tm2 m),_,pgs_cons pa pb hs,fun σ H w S env xs us Q s he r hlen h=> ?_⟩
 cases xs with
 | nil=>cases hlen
 | cons x xs=>
  simp only [VRs]at r
  obtain⟨v,vr,ev,r1,r2⟩:=r
  refine⟨v,vr,ev,ca σ H w S env x v _ s he r1 ?_⟩
  rw [Yat,Yar,Zht]at h
  have hl':xs.length=ms.length:=by simpa using hlen
  have fin:∀{q:ZbA},ZfA (gx X n) w H W vs σ Q (q.seq fun env S=>(ms.zip xs).foldl (fun r p=>r.seq fun env S=>p.1 p.2 env S) (.nx env S))→ZfA (gx X n) w H W vs σ (fun σ' H'=>tb vr σ' H' Q) q:=fun{q} hq=>by
   cases q with
   | nx env' S'=>
    intro w' H' σ' l' k' s' e' o'
    refine cb σ' H' w' S' env' xs vr Q s' e' (r2.mono l' k') hl' ?_
    have h1:=ZfA.mono l' k' hq
    rw [Ze8]at h1
    revert h1
    cases (ms.zip xs).foldl (fun(r:ZbA) (p:GM × SV)=>r.seq fun env S=>p.1 p.2 env S) (ZbA.nx env' S')with
    | nx env2 S2=>exact fun h1 w2 H2 σ2 l2 k2 s2 e2 o2=>h1 w2 H2 σ2 l2 k2 s2 e2 (o'.trans o2)
    | exc x env2 S2=>exact fun h1=>h1
    | _=>exact fun h1=>h1
   | exc x env S=>exact hq
   | _=>exact hq
  exact fin h
theorem Zec.seq {r:ZbA} {k:SM} (h:Zec r) (hk:∀env S,Zec (k env S)):Zec (r.seq k):=by
 cases r with
 | nx env S=>exact hk env S
 | exc x env S=>trivial
 | bad=>trivial
 | _=>exact h.elim
theorem Zec.fold (ps:List (GM × SV)) (h:∀p∈ps,∀env S,Zec (p.1 p.2 env S)):∀r:ZbA,Zec r→Zec (ps.foldl (fun r p=>r.seq fun env S=>p.1 p.2 env S) r):=by
 induction ps with
 | nil=>exact fun r hr=>hr
 | cons p ps ih=>exact fun r hr=>ih (fun q hq=>h q (Yau _ hq)) _ (hr.seq (h p Yav))
theorem RG.tup {vs:List Nat} {ts:List Expr} {ms:List GM} {k:Nat} (hc:X.calm=true) (h:RGs X n W vs ts ms) (hn:(assignEach ts X.env).length=ts.length:=by rfl) (hst:(assignEach ts X.env).findIdx? (·.1)=none:=by rfl):RG X n W vs (.Tuple ts k pos) (Zjd ms):=by
 obtain⟨hl,tm,tb,pb,cb⟩:=h
 refine⟨fun x env S=> ?_,_,pg_tup hc pb hn hst,fun σ H w S env x v Q s he r h=> ?_⟩
 ·cases x with
  | tup xs=>
   unfold Zjd
   simp only
   by_cases hz:xs.length=ms.length
   ·rw [if_pos hz]
    exact Zec.fold _ (fun p hp env S=>tm p.1 (List.of_mem_zip (a:=p.1) (b:=p.2) hp).1 _ _ _) _ trivial
   ·rw [if_neg hz]; trivial
  | _=>trivial
 cases x with
 | tup xs=>
  simp only [VR]at r
  obtain⟨a,ys,ev,sq,rs⟩:=r
  unfold Zjd at h
  simp only at h
  by_cases hz:xs.length=ms.length
  ·rw [if_pos hz]at h
   exact⟨a,ys,ev,SqT.of sq,by rw [rs.len,hz,hl],cb σ H w S env xs ys Q s he rs hz h⟩
  ·rw [if_neg hz]at h; exact h.elim
 | _=>exact h.elim
end
end MP
namespace MP
open PySem PySem.Spec PyProof.Rows L2
def cT (g:G) (xh:Xh) (W:WX) (m:TM):TT:=fun σ H Q=>∃w S env,Sim g w H S∧Fm g xh w H env σ∧Out (m env S) (KB g w H Q) (KX g w H fun cls d H'=>W cls d σ H')
def cS (g:G) (xh:Xh) (W:WX) (m:SM):TS:=fun D σ H=>∃w S env,Sim g w H S∧Fm g xh w H env σ∧Zce g w H W D (m env S)
section
variable {X:Cx} {n:Nm} {xh:Xh} {W:WX} {e:Expr} {st:List Stmt} {me:EM} {mt:TM} {ms:SM} {mg:GM}
theorem RT.pt (h:RT X n xh W e mt):PT X e (cT (gx X n) xh W mt):=by
 obtain⟨t,p,c⟩:=h.ex
 exact⟨fun pins s σ H Q I ⟨w,S,env,h1,h2,h3⟩=>p.run pins s σ H Q I (c σ H w S env Q h1 h2 h3)⟩
theorem RSs.ps (h:RSs X n xh W st ms):PSs X st (cS (gx X n) xh W ms):=by
 obtain⟨t,p,c⟩:=h.ex
 exact⟨fun pins s σ H D I ⟨w,S,env,h1,h2,h3⟩=>p.run pins s σ H D I (c σ H w S env D h1 h2 h3)⟩
end
section
variable {X:Cx} {n:Nm} {xh:Xh} {W:WX} {e a b c o:Expr} {es:List Expr} {ma mb mc mo me:EM} {mt mu:TM} {mr:AM} {pos p':Pos}
theorem ZbP {a b:String} (h:Str.ofString a=Str.ofString b):a=b:=by
 rw [Str.ofString_eq_toList,Str.ofString_eq_toList]at h
 have h1:(a.toList.map Char.toNat).toArray=(b.toList.map Char.toNat).toArray:=by injection h
 have h2:a.toList.map Char.toNat=b.toList.map Char.toNat:=by
  have:=congrArg Array.toList h1
  simpa using this
 have inj:∀x y:Char,x.toNat=y.toNat→x=y:=fun x y e=>Char.toNat_inj.mp e
 have h3:a.toList=b.toList:=List.map_inj_right inj |>.mp h2
 exact String.toList_inj.mp h3
theorem FR.look {g:G} {w:Wd} {H:Hp} {f:String} {x:SV}:∀{fs:List (String × SV)} {ys:List (Str × V)},FR g w H fs ys→fs.lookup f=some x→∃v,ys.lookup (Str.ofString f)=some v∧VR g w H x v
 | [],_,_,e=>nomatch e
 | (k,y)::fs,_,⟨v,r,rfl,q,s⟩,e=>by
  by_cases h:f=k
  ·subst h
   rw [Yaw]at e
   cases e
   exact⟨v,Yaw,q⟩
  ·rw [Yax,beq_eq_false_iff_ne.mpr h]at e
   obtain⟨u,h1,h2⟩:=FR.look s e
   refine⟨u, ?_,h2⟩
   rw [Yax,beq_eq_false_iff_ne.mpr (fun z=>h (ZbP z))]
   exact h1
theorem FR.none {g:G} {w:Wd} {H:Hp} {f:String}:∀{fs:List (String × SV)} {ys:List (Str × V)},FR g w H fs ys→fs.lookup f=none→ys.lookup (Str.ofString f)=none
 | [],_,h,_=>by rw [show _=_ from h]; rfl
 | (k,y)::fs,_,⟨v,r,rfl,q,s⟩,e=>by
  by_cases h:f=k
  ·subst h
   rw [Yaw]at e
   cases e
  ·rw [Yax,beq_eq_false_iff_ne.mpr h]at e
   rw [Yax,beq_eq_false_iff_ne.mpr (fun z=>h (ZbP z))]
   exact FR.none s e
theorem FR.len {g:G} {w:Wd} {H:Hp}:∀{fs:List (String × SV)} {ys:List (Str × V)},FR g w H fs ys→ys.length=fs.length
 | [],_,h=>by rw [show _=_ from h]; rfl
 | (k,y)::fs,_,⟨u,t,rfl,q,s⟩=>by rw [Yae,Yae,FR.len s]
end
section
variable {X:Cx} {n:Nm} {xh:Xh} {W:WX} {e a b tg it:Expr} {body:List Stmt} {me mi ma mb:EM} {mg:GM} {ms:SM} {pos p':Pos}
theorem PI.or {w1 w2:TI} (h1:PI X tg it w1) (h2:PI X tg it w2):PI X tg it (fun σ H R=>w1 σ H R∨w2 σ H R):=
 ⟨fun pins s σ H R I h=>h.elim (h1.run pins s σ H R I) (h2.run pins s σ H R I)⟩
def ItR (g:G) (w:Wd) (H:Hp) (J:It) (I:IT):Prop:=∀i w1 H1 S1,w.Le w1→Zag H H1→Sim g w1 H1 S1→
 (I i S1=some none→J.stop i H1)∧∀x,I i S1=some (some x)→J.go i H1∧∀v H2,J.yld i H1 v H2→∃w2,w1.Le w2∧Zag H1 H2∧Sim g w2 H2 S1∧VR g w2 H2 x v
def KI (g:G) (w:Wd) (H:Hp) (R:It→Hp→Prop):Nat × IT→Zaa→Prop:=fun p S'=>∀w' H' J,w.Le w'→Zag H H'→Sim g w' H' S'→ItR g w' H' J p.2→R J H'
structure RI (X:Cx) (n:Nm) (xh:Xh) (W:WX) (tg it:Expr) (m:IM):Prop where
 ex:∃t:TI,PI X tg it t∧∀(σ:L2.St) (H:Hp) (w:Wd) (S:Zaa) (env:En) (R:It→Hp→Prop),Sim (gx X n) w H S→Fm (gx X n) xh w H env σ→Out (m env S) (KI (gx X n) w H R) (KX (gx X n) w H fun cls d H'=>W cls d σ H')→t σ H R
theorem ItR.tup {X:Cx} {w:Wd} {H:Hp} {a:Addr} {xs:List SV} {ys:List V} (h:H a=some (.tup ys)) (r:VRs (gx X n) w H xs ys):ItR (gx X n) w H (Itt X.K a) (itV xs):=fun i w1 H1 S1 l k s=>by
 have sq:SqT X.K H1 a ys:=SqT.of (k _ _ h trivial)
 refine⟨fun e=>⟨ys,sq, ?_⟩,fun x e=> ?_⟩
 ·rw [r.len]
  exact Yay.mp (Option.some.inj e)
 ·obtain⟨u,hu,ru⟩:=r.get (Option.some.inj e)
  refine⟨⟨ys,u,sq,hu⟩,fun v H2 hy=> ?_⟩
  obtain⟨eH,hy⟩:=hy
  subst eH
  have ey:v=u:=by
   have:=hy ys sq
   rw [hu]at this
   exact(Option.some.inj this).symm
  subst ey
  exact⟨w1,Wd.Le.refl _,Zag.refl _,s,ru.mono l k⟩
theorem ItR.lst {X:Cx} {w:Wd} {H:Hp} {m:Nat} (hm:m<w.n):ItR (gx X n) w H (Itl X.K (w.at_ m)) (itL m):=fun i w1 H1 S1 l k s=>by
 have at1:w1.at_ m=w.at_ m:=l.2 m hm
 unfold itL
 cases q:ZaJ S1 m with
 | none=>exact⟨fun e=>(nomatch e),fun x e=>(nomatch e)⟩
 | some zs=>
  obtain⟨ys,sq,r⟩:=s.seq (ZaT q)
  rw [at1]at sq
  refine⟨fun e=>⟨ys,sq, ?_⟩,fun x e=> ?_⟩
  ·rw [r.len]
   exact Yay.mp (Option.some.inj e)
  ·obtain⟨u,hu,ru⟩:=r.get (Option.some.inj e)
   refine⟨⟨ys,u,sq,hu⟩,fun v H2 hy=> ?_⟩
   obtain⟨eH,hy⟩:=hy
   subst eH
   have ey:v=u:=by
    have:=hy ys sq
    rw [hu]at this
    exact(Option.some.inj this).symm
   subst ey
   exact⟨w1,Wd.Le.refl _,Zag.refl _,s,ru⟩
theorem ItR.rng {X:Cx} {w:Wd} {H:Hp} {lo:Int} {k:Nat}:ItR (gx X n) w H (Itr lo k) (itR lo k):=fun i w1 H1 S1 l kk s=>by
 unfold itR
 by_cases h:i<k
 ·rw [if_pos h]
  refine⟨fun e=>(nomatch e),fun x e=>⟨h,fun v H2 hy=> ?_⟩⟩
  obtain⟨eH,hy⟩:=hy
  subst eH hy
  cases e
  exact⟨w1,Wd.Le.refl _,Zag.refl _,s,by simp [VR]⟩
 ·rw [if_neg h]
  exact⟨fun e=>Nat.le_of_not_lt h,fun x e=>(nomatch e)⟩
theorem ItR.txt {X:Cx} {w:Wd} {H:Hp} {z:Str}:ItR (gx X n) w H (Its z) (itS z):=fun i w1 H1 S1 l kk s=>by
 unfold itS
 cases q:z.cps[i]? with
 | none=>
  refine⟨fun e=>Array.getElem?_eq_none_iff.mp q,fun x e=>(nomatch e)⟩
 | some c=>
  refine⟨fun e=>(nomatch e),fun x e=>⟨?_,fun v H2 hy=> ?_⟩⟩
  ·exact(Array.getElem?_eq_some_iff.mp q).1
  ·obtain⟨eH,c',h1,h2⟩:=hy
   rw [q]at h1
   cases h1
   cases e
   subst eH h2
   exact⟨w1,Wd.Le.refl _,Zag.refl _,s,by simp [VR]⟩
theorem RI.seq (hi:RE X n xh W it mi):RI X n xh W tg it (Zhk mi):=by
 obtain⟨ti,pi,ci⟩:=hi.ex
 refine⟨_,PI.or (PI.or (pi_list (tg:=tg) pi) (pi_tup (tg:=tg) pi)) (pi_str (tg:=tg) pi),fun σ H w S env R s fm h=> ?_⟩
 unfold Zhk at h
 cases hv:mi env S with
 | bad=>rw [hv]at h; exact h.elim
 | exc x S1=>
  rw [hv]at h
  exact .inl (.inl (ci σ H w S env _ s fm (by rw [hv]; exact h)))
 | ok x S1=>
  rw [hv]at h
  cases x with
  | tup xs=>
   refine .inl (.inr (ci σ H w S env _ s fm ?_))
   rw [hv]
   intro w1 H1 v l1 k1 s1 r1
   simp only [VR]at r1
   obtain⟨p,ys,ev,sq,rs⟩:=r1
   exact⟨p,ev,⟨ys,SqT.of sq⟩,h w1 H1 _ l1 k1 s1 (ItR.tup sq rs)⟩
  | ref m=>
   refine .inl (.inl (ci σ H w S env _ s fm ?_))
   rw [hv]
   intro w1 H1 v l1 k1 s1 r1
   simp only [VR]at r1
   simp only [ZbN]at h
   cases q:ZaJ S1 m with
   | none=>rw [q]at h; exact h.elim
   | some zs=>
    rw [q]at h
    obtain⟨ys,sq,r⟩:=s1.seq (ZaT q)
    exact⟨_,r1.2,⟨ys,sq⟩,h w1 H1 _ l1 k1 s1 (ItR.lst r1.1)⟩
  | str z=>
   refine .inr (ci σ H w S env _ s fm ?_)
   rw [hv]
   intro w1 H1 v l1 k1 s1 r1
   exact⟨z,by simpa [VR]using r1,h w1 H1 _ l1 k1 s1 ItR.txt⟩
  | _=>exact h.elim
theorem Zdd {P:Program} {w:World} {K:PySem.W.Frag} {tg:Expr} (it:Addr) (lo:Int) (k:Nat):Turn P w K tg (Itr lo k) [it] it (fun i h=>IsLongIter h it (lo+(i:Nat) * 1) ((k:Int) - (i:Nat)) 1) where
 mem:=by simp
 obj:=fun i h st b hb=>by
  have e:b=it:=by simpa using hb
  subst e
  refine⟨_,st,fun v z=> ?_⟩
  have z':Data.fields _=Data.cell v:=z
  cases z'
 keep:=fun i h h' st kk=>kk it (by simp) _ st
 item:=by
  intro X hP hw hK hc i pins s σ H E I hf st hg
  subst hP hw hK
  obtain⟨f0,f1,f2,f3,f4,f5⟩:=hf it (by simp)
  have W:=Walks.longrange (prog:=X.prog) (w:=X.w) (I.ok.hd hc) it lo 1 k
  refine W.item i s _ _ hg st fun v h' tk hv st' kk=> ?_
  obtain⟨t,rfl⟩:=hv
  have I1:Inv X pins σ H {s with heap:=h',toks:=tk}:=I.turned (fun b o hb e=>kk b o (by simpa using hb) e) f0 f1 f3 f4 f5
  refine⟨_,rfl,go_of (s:={s with heap:=h',toks:=tk}) (n:= "longrange_iterator") st' rfl rfl (by decide) ⟨.int (lo+i),H,I1,⟨t, ?_⟩,⟨rfl,rfl⟩,st',fun b hb=>(hf b hb).1⟩⟩
  rw [Int.mul_one]
 done:=by
  intro X hP hw hK hc i pins s σ H E I hf st hg
  subst hP hw hK
  obtain⟨f0,f1,f2,f3,f4,f5⟩:=hf it (by simp)
  exact wpAny_pyNext_long_end (I.ok.hd hc) st (by have:k≤i:=hg; omega) fun h' eb=>⟨rfl,I.turned (t':=s.toks) (fun b o hb e=>eb b o hb e) f0 f1 f3 f4 f5⟩
 self:=fun _ _ _ _ _ st h=>wpAny_pyIter_longiter st h
theorem Zed {pins:List (Addr × Obj)} {σ:L2.St} {H:Hp} {s:Shared} {R:It→Hp→Prop} {E:Value→Shared→Prop} {lo hi:Int} {t u v:Tok} {tk:Nat} (I:Inv X pins σ H s)
  (q:R (Itr lo (hi - lo).toNat) H):wpAny (model X.prog X.w) X.A (pyIter (.ref s.heap.objs.size)) (PIE X pins σ tg R) E {s with heap:=s.heap.push {cls:= .type "range",data:= .fields #[.int lo t, .int hi u, .int 1 v]},toks:=tk}:=by
 have I1:Inv X pins σ H {s with heap:=s.heap.push {cls:= .type "range",data:= .fields #[.int lo t, .int hi u, .int 1 v]},toks:=tk}:=I.kept fun b o e=>Heap.get?_push_of_some _ e
 have e1:lo+((0:Nat):Int) * 1=lo:=by simp
 have e2:(((hi - lo).toNat:Nat):Int) - ((0:Nat):Int)=Builtin.Range.rangeSize lo hi 1:=by rw [rangeSize_one]; split<;>omega
 cases sm:Builtin.Range.small lo hi 1 with
 | true=>
  refine wpAny_pyIter_range (IsRange.new ..) sm ?_
  refine⟨(s.heap.push {cls:= .type "range",data:= .fields #[.int lo t, .int hi u, .int 1 v]}).objs.size,[(s.heap.push {cls:= .type "range",data:= .fields #[.int lo t, .int hi u, .int 1 v]}).objs.size],_,_,H,rfl,
   I1.kept (t':=tk) fun b o e=>Heap.get?_push_of_some _ e,turn_range _ lo (hi - lo).toNat, ?_,fun b hb=> ?_,q⟩
  ·show IsRangeIter _ _ (lo+((0:Nat):Int) * 1) ((((hi - lo).toNat:Nat):Int) - ((0:Nat):Int)) 1
   rw [e1,e2]
   exact Heap.get?_push_size _ rfl
  ·have e:b=(s.heap.push {cls:= .type "range",data:= .fields #[.int lo t, .int hi u, .int 1 v]}).objs.size:=by simpa using hb
   subst e
   exact I1.fpOk (Yab _) (I1.hok.fresh (Yab _))
 | false=>
  refine wpAny_pyIter_longrange (IsRange.new ..) sm ?_
  refine⟨(s.heap.push {cls:= .type "range",data:= .fields #[.int lo t, .int hi u, .int 1 v]}).objs.size,[(s.heap.push {cls:= .type "range",data:= .fields #[.int lo t, .int hi u, .int 1 v]}).objs.size],_,_,H,rfl,
   I1.kept (t':=tk) fun b o e=>Heap.get?_push_of_some _ e,Zdd _ lo (hi - lo).toNat, ?_,fun b hb=> ?_,q⟩
  ·show IsLongIter _ _ (lo+((0:Nat):Int) * 1) ((((hi - lo).toNat:Nat):Int) - ((0:Nat):Int)) 1
   rw [e1,e2]
   exact Heap.get?_push_size _ rfl
  ·have e:b=(s.heap.push {cls:= .type "range",data:= .fields #[.int lo t, .int hi u, .int 1 v]}).objs.size:=by simpa using hb
   subst e
   exact I1.fpOk (Yab _) (I1.hok.fresh (Yab _))
def ZoX (ta:TA):TI:=fun σ H R=>ta σ H fun vs H1=>∃j:Int,vs=[.int j]∧R (Itr 0 j.toNat) H1
def ZoY (ta:TA):TI:=fun σ H R=>ta σ H fun vs H1=>∃i j:Int,vs=[.int i, .int j]∧R (Itr i (j - i).toNat) H1
theorem ZlM {ta:TA} {p:Pos} (hg:Gl X "range") (hm:X.mg "range"=none) (ha:PA X [a] ta) (hs:starEach [a] X.env=[(false,eval a X.env)]):PI X tg (.Call (.Name "range" p) [a] [] pos) (ZoX ta):=by
 refine⟨fun pins s σ H R I h=>Call_ (ld_blt I hg hm boot_range (PyProof.Rows.callWith_type1 (thn (ha.run pos pins s σ H _ I h) fun us s1 ⟨vs,H1,I1,r1,j,e,q⟩=> ?_) hs rfl))⟩
 subst e
 cases r1 with
 | cons r rr=>
  cases rr
  obtain⟨t,rfl⟩:=r
  exact call_range_1 (Zed I1 (by simpa using q))
theorem ZlN {ta:TA} {p:Pos} (hg:Gl X "range") (hm:X.mg "range"=none) (ha:PA X [a,b] ta) (hs:starEach [a,b] X.env=[(false,eval a X.env),(false,eval b X.env)]) (hs2:starEach [b] X.env=[(false,eval b X.env)]):
  PI X tg (.Call (.Name "range" p) [a,b] [] pos) (ZoY ta):=by
 refine⟨fun pins s σ H R I h=>Call_ (ld_blt I hg hm boot_range (PyProof.Rows.callWith_type1 (thn (ha.run pos pins s σ H _ I h) fun us s1 ⟨vs,H1,I1,r1,i,j,e,q⟩=> ?_) (by rw [hs,hs2]) (by rw [hs2]; rfl)))⟩
 subst e
 cases r1 with
 | cons r rr=>
  cases rr with
  | cons r' rr=>
   cases rr
   obtain⟨t,rfl⟩:=r
   obtain⟨t',rfl⟩:=r'
   exact call_range_2 (Zed I1 q)
theorem RI.r1 {p:Pos} (hg:Gl X "range") (hm:X.mg "range"=none) (ha:RE X n xh W a ma) (hs:starEach [a] X.env=[(false,eval a X.env)]:=by rfl):RI X n xh W tg (.Call (.Name "range" p) [a] [] pos) (iR1 ma):=by
 obtain⟨ta,pa,ca⟩:=(RA.cons ha RA.nil hs).ex
 refine⟨_,ZlM hg hm pa hs,fun σ H w S env R s fm h=> ?_⟩
 refine ca σ H w S env _ s fm ?_
 unfold iR1 at h
 unfold Zac ZaZ
 cases hv:ma env S with
 | bad=>rw [hv]at h; exact h.elim
 | exc x S1=>rw [hv]at h; exact h
 | ok x S1=>
  rw [hv]at h
  intro w1 H1 vs l1 k1 s1 r1
  simp only [VRs]at r1
  obtain⟨v,t,rfl,r2,rfl⟩:=r1
  cases x with
  | int j=>exact⟨j,by rw [show v= .int j by simpa [VR]using r2],h w1 H1 _ l1 k1 s1 ItR.rng⟩
  | _=>exact h.elim
theorem RI.r2 {p:Pos} (hg:Gl X "range") (hm:X.mg "range"=none) (ha:RE X n xh W a ma) (hb:RE X n xh W b mb) (hs:starEach [a,b] X.env=[(false,eval a X.env),(false,eval b X.env)]:=by rfl) (hs2:starEach [b] X.env=[(false,eval b X.env)]:=by rfl):RI X n xh W tg (.Call (.Name "range" p) [a,b] [] pos) (iR2 ma mb):=by
 obtain⟨ta,pa,ca⟩:=(RA.cons ha (RA.cons hb RA.nil hs2) (by rw [hs,hs2])).ex
 refine⟨_,ZlN hg hm pa hs hs2,fun σ H w S env R s fm h=> ?_⟩
 refine ca σ H w S env _ s fm ?_
 unfold iR2 at h
 simp only [Zac,ZaZ]
 cases hv:ma env S with
 | bad=>rw [hv]at h; exact h.elim
 | exc x S1=>rw [hv]at h; exact h
 | ok x S1=>
  rw [hv]at h
  simp only [ZbN]at h⊢
  cases hu:mb env S1 with
  | bad=>rw [hu]at h; exact h.elim
  | exc x S1=>rw [hu]at h; exact h
  | ok y S2=>
   rw [hu]at h
   intro w1 H1 vs l1 k1 s1 r1
   simp only [VRs]at r1
   obtain⟨v,t,rfl,r2,u,t2,rfl,r3,rfl⟩:=r1
   cases x with
   | int i=>
    cases y with
    | int j=>exact⟨i,j,by rw [show v= .int i by simpa [VR]using r2,show u= .int j by simpa [VR]using r3],h w1 H1 _ l1 k1 s1 ItR.rng⟩
    | _=>exact h.elim
   | _=>exact h.elim
end
end MP
namespace MP
open PySem PySem.Spec PyProof.Rows L2
structure FnG (gd:Bool) (P:Program) (w:World) (K:PySem.W.Frag) (mg:Str→Option Value) (base:Heap) (k:Nat) (f:Addr) (fd:FuncData) (ps:List Str) (sp:Sp):Prop where
 len:∀vs H Q E,sp vs H Q E→vs.length=ps.length
 run:∀(A:Around) (outer:List Env) (s:Shared) (H:Hp) (args:Args) (us:List Value) (vs:List V) (Q:VK) (E:XK),
  (gd=true→A.guards=some [])→Room k A→Env0 P w K mg base A outer s H→BindsTo s fd args (ps.zip us)→Vals vs us→sp vs H Q E→
  codeAny (model P w) A (.call (.ref f) args) (CR (L2.CX P w) outer P w H s Q E) s
section
variable {P:Program} {w:World} {K:PySem.W.Frag} {mg:Str→Option Value} {base:Heap} {k:Nat} {f:Addr} {fd:FuncData} {ps:List Str} {sp:Sp} {gd:Bool}
theorem FnG.fn (F:FnG false P w K mg base k f fd ps sp):FnOk P w K mg base (L2.CX P w) k f fd ps sp:=
 ⟨F.len,fun A outer s H args us vs Q E=>F.run A outer s H args us vs Q E (fun z=>nomatch z)⟩
theorem FnG.mono {j:Nat} (F:FnG gd P w K mg base j f fd ps sp) (h:j≤k):FnG gd P w K mg base k f fd ps sp:=
 ⟨F.len,fun A outer s H args us vs Q E g hr=>F.run A outer s H args us vs Q E g (hr.mono h)⟩
theorem FnG.of {x qual:Str} {params:Arguments} {body:List Stmt} {scope:Scope} {dvs:List V} {kws:List (Str × V)} {N:List Str} (F:FunD K x qual params body scope dvs kws f fd) (S:FnScope N ps scope)
  (len:∀vs H Q E,sp vs H Q E→vs.length=ps.length)
  (hb:∀(cdv:Value) (A:Around) (outer:List Env) (s:Shared) (H:Hp) (vs:List V) (Q:VK) (E:XK),(gd=true→A.guards=some [])→Room k (A.deeper (envOfC qual scope s.heap.objs.size f cdv))→sp vs H Q E→
   ∃t,PSs (cxOf (L2.CX P w) P w K mg base N qual scope f cdv A outer s H E) body t∧t {nx:=fun _ H'=>Q .non H',rt:=Q} (L2.start N vs) H):FnG gd P w K mg base (k+1) f fd ps sp:=by
 obtain⟨oc,od,dV,kV,doc,pm,an,cdv,ct,osl,efd,look,hcd,_,_⟩:=F.ex
 subst efd
 refine⟨len, ?_⟩
 intro A outer s H args us vs Q E hg hr e0 hbind rel hsp
 have inK:K.In s.heap:=e0.mod.kin.keeps fun b o e=>(e0.bs b o e).1
 have nolim:s.heap.NoLimit:=e0.mod.nolimit.keeps fun b o e=>(e0.bs b o e).1
 have kinds:∀y∈ps.zip us,scope.names.lookup y.1=some .local∨(scope.names.lookup y.1=some .cell∧((cellsFrom (s.heap.objs.size+1) scope.names []).lookup y.1).isSome=true):=by
  intro y hy
  obtain⟨y1,y2⟩:=y
  rcases S.par y1 (List.of_mem_zip hy).1 with q | q
  ·exact Or.inl q
  ·exact Or.inr ⟨q,PySem.W.cellsFrom_some _ _ _ (Or.inl q)⟩
 refine codeAny_call_function hr.depth (inK _ _ look) rfl S.co S.gen rfl (PySem.W.codeRec_of inK hcd) ?_
 refine hbind _ _ _ _ ?_
 refine wpAny_newFunctionEnv_cells S.kind kinds ?_
 intro env he s1 x
 subst he
 refine⟨nolim.keeps x.toInCall.keep,codeAny_func ?_⟩
 obtain⟨t,ht,hq⟩:=hb cdv A outer s H vs Q E hg (hr.deeper _) hsp
 have I:Inv (cxOf (L2.CX P w) P w K mg base N qual scope f cdv A outer s H E) [] (L2.start N vs) H s1:=inv_start S hr.hd e0 (len _ _ _ _ hsp) rel x
 refine wpAny_mono (ht.run [] s1 (L2.start N vs) H _ I hq) (fun fl s' hs=> ?_) (fun e s' hs=>hs)
 cases fl with
 | ret u=>
  obtain⟨v,σ',H',J,rv,q⟩:=hs
  exact⟨v,H',J.os,J.bare,J.base,J.hok,rv,q⟩
 | next=>
  obtain⟨σ',H',J,q⟩:=hs
  exact⟨V.non,H',J.os,J.bare,J.base,J.hok,rfl,q⟩
 | brk=>
  obtain⟨_,_,_,q⟩:=hs
  exact q.elim
 | cont=>
  obtain⟨_,_,_,q⟩:=hs
  exact q.elim
end
def spM (g:G) (ar:Nat) (m:List SV→M SV):Sp:=fun vs H Q E=>vs.length=ar∧∃w S xs,Sim g w H S∧VRs g w H xs vs∧Out (m xs S) (KV g w H Q) (KX g w H E)
structure Fd (gd:Bool) (P:Program) (w:World) (K:PySem.W.Frag) (mg:Str→Option Value) (base:Heap) (n:Nm) (k:Nat) (f:Addr) (fd:FuncData) (ps:List Str) (m:List SV→M SV):Prop where
 fn:FnG gd P w K mg base k f fd ps (spM ⟨K,n.cl,n.fn⟩ ps.length m)
 ar:∀xs S,xs.length≠ps.length→m xs S= .bad
 kp:PySem.W.keepIn K (.ref f)=true
structure Cok (X:Cx) (W:WX) (k:Nat) (gd:Bool):Prop where
 tk:Takes X W
 hp:PassesOwn (model X.prog X.w) X.A X.env X.xe
 calm:X.calm=true
 room:Room k X.A
 gs:gd=true→X.A.guards=some []
 nd:X.N.Nodup
theorem Zee {g:G} {w:Wd} {H:Hp} {N:List Str} {xs:List SV} {vs:List V} (r:VRs g w H xs vs) (k:Nat) (hk:N.length=k):ZcC g w H (xs.map some++Yaa (k - xs.length) none) (L2.start N vs):=by
 have hl:=r.len
 refine⟨?_,fun i x e=> ?_⟩
 ·unfold L2.start
  rw [Yak,Yak,Yaz,Yaz,YaA,YaA,hl,hk]
 ·by_cases hi:i<xs.length
  ·rw [Yai (by simpa using hi),YaB]at e
   cases q:xs[i]? with
   | none=>rw [q]at e; cases e
   | some y=>
    rw [q]at e
    cases e
    obtain⟨v,h1,h2⟩:=r.get q
    refine⟨v, ?_,h2⟩
    unfold L2.start
    rw [Yai (by rw [Yaz,hl]; exact hi),YaB,h1]
    rfl
  ·rw [Yal (by simpa using hi),YaC]at e
   split at e<;>cases e
theorem Fd.of {gd:Bool} {P:Program} {w:World} {K:PySem.W.Frag} {mg:Str→Option Value} {base:Heap} {n:Nm} {k:Nat} {f:Addr} {fd:FuncData} {ps:List Str} {x qual:Str} {params:Arguments} {body:List Stmt} {scope:Scope} {dvs:List V} {kws:List (Str × V)}
  {N:List Str} {sl:Nat} {ms:SM} {m:List SV→M SV} (F:FunD K x qual params body scope dvs kws f fd) (S:FnScope N ps scope) (hsl:N.length=sl) (hm:m=fun xs=>if xs.length=ps.length then run sl ms xs else ZcK)
  (hb:∀(X:Cx) (W:WX) (cdv:Value) (A:Around) (outer:List Env) (s:Shared) (H:Hp) (E:XK),X=cxOf (L2.CX P w) P w K mg base N qual scope f cdv A outer s H E→W=(fun cls d _ H=>E cls d H)→Cok X W k gd→RSs X n none W body ms):
  Fd gd P w K mg base n (k+1) f fd ps m:=by
 subst hm
 refine⟨FnG.of F S (fun vs H Q E h=>h.1) fun cdv A outer s H vs Q E hg hr h=> ?_,fun xs S h=>by simp only [h,if_false]; rfl,F.kp⟩
 obtain⟨hl,wd,st,xs,sm,rs,o⟩:=h
 have hxs:xs.length=ps.length:=by rw [←rs.len]; exact hl
 have o:=o
 simp only [hxs,if_true]at o
 have C:Cok (cxOf (L2.CX P w) P w K mg base N qual scope f cdv A outer s H E) (fun cls d _ H=>E cls d H) k gd:=
  ⟨takes_of rfl rfl rfl rfl,passes_of rfl,rfl,hr,hg,S.nd⟩
 obtain⟨t,pt,ct⟩:=(hb _ _ cdv A outer s H E rfl rfl C).ex
 refine⟨t,pt,ct (L2.start N vs) H wd st _ _ sm ⟨Zee rs sl hsl,XhR.no⟩ ?_⟩
 unfold run at o
 revert o
 cases ms (xs.map some++Yaa (sl - xs.length) none) st with
 | nx env S'=>exact fun o w' H' σ' l k s e=>o w' H' .non l k s (by simp [VR])
 | rt a S'=>exact fun o=>o
 | exc x env S'=>exact fun o w' H' σ' cls d l k s e x=>o w' H' cls d l k s x
 | bk env S'=>exact fun o=>o.elim
 | ct env S'=>exact fun o=>o.elim
 | bad=>exact fun o=>o
section
variable {X:Cx} {n:Nm} {xh:Xh} {W:WX} {gd gc:Bool} {k j:Nat} {f:Addr} {fd:FuncData} {ps:List Str} {m:List SV→M SV} {e o:Expr} {es:List Expr} {mr:AM} {mo:EM} {pos p:Pos} {x:Str} {ds:List Value} {dvs:List V} {dxs:List SV}
theorem ZlO {pins:List (Addr × Obj)} {σ:L2.St} {H:Hp} {s:Shared} {Q:VK} {us:List Value} {vs:List V} {xs:List SV} {w:Wd} {S:Zaa} {kw:List (Str × Value)} (C:Cok X W k gd) (F:Fd gc X.prog X.w X.K X.mg X.base n j f fd ps m) (hj:j≤k) (hg:gc=true→gd=true)
  {args:Args} (hb:BindsTo s fd args (ps.zip us)) (I:Inv X pins σ H s) (r:Vals vs us) (sm:Sim (gx X n) w H S) (rs:VRs (gx X n) w H xs vs)
  (h:Out (m xs S) (KV (gx X n) w H Q) (KX (gx X n) w H fun cls d H'=>W cls d σ H')):
  codeAny (model X.prog X.w) X.A (.call (.ref f) args) (fun r s'=>match r with | .ok (.ret u)=>EP X pins σ Q u s' | .ok _=>False | .error e=>X.xe e s') s:=by
 have hl:vs.length=ps.length:=by
  refine Classical.byContradiction fun z=> ?_
  rw [F.ar xs S (by rw [←rs.len]; exact z)]at h
  exact h
 refine codeAny_mono (F.fn.run X.A X.stack s H args us vs Q (fun cls d H'=>W cls d σ H') (fun z=>C.gs (hg z)) (C.room.mono hj) I.env0 hb r ⟨hl,w,S,xs,sm,rs,h⟩) fun r s' hq=> ?_
 cases r with
 | error e=>exact passAt C.tk σ pins H s e s' I hq
 | ok fl=>
  cases fl with
  | ret u=>exact I.after hq
  | next=>exact hq.elim
  | brk=>exact hq.elim
  | cont=>exact hq.elim
theorem Zjf {pins:List (Addr × Obj)} {σ:L2.St} {H:Hp} {s:Shared} {Q:VK} {us bs:List Value} {vs:List V} {xs:List SV} {w:Wd} {S:Zaa} {kw:List (Str × Value)} (C:Cok X W k gd) (F:Fd gc X.prog X.w X.K X.mg X.base n j f fd ps m) (hj:j≤k) (hg:gc=true→gd=true)
  (hb:BindsTo s fd ⟨bs,kw⟩ (ps.zip us)) (I:Inv X pins σ H s) (r:Vals vs us) (sm:Sim (gx X n) w H S) (rs:VRs (gx X n) w H xs vs)
  (h:Out (m xs S) (KV (gx X n) w H Q) (KX (gx X n) w H fun cls d H'=>W cls d σ H')):wpAny (model X.prog X.w) X.A (call (.ref f) bs kw) (EP X pins σ Q) X.xe s:=by
 refine wpAny_call (codeAny_mono (ZlO (kw:=kw) C F hj hg hb I r sm rs h) fun r s' hq=> ?_)
 cases r with
 | error e=>exact hq
 | ok fl=>
  cases fl with
  | ret u=>exact hq
  | next=>exact hq.elim
  | brk=>exact hq.elim
  | cont=>exact hq.elim
structure Dfl (X:Cx) (n:Nm) (fd:FuncData) (ps:List Str) (dxs:List SV):Prop where
 ex:∃(dvs:List V) (ds:List Value),Vals dvs ds∧Binds X.K fd ps ds∧∀w H,VRs (gx X n) w H dxs dvs
theorem Dfl.all {X:Cx} {n:Nm} {fd:FuncData} {ps:List Str} (h:Binds X.K fd ps []):Dfl X n fd ps []:=⟨[],[], .nil,h,fun _ _=>VRs.nil⟩
theorem Zef {pins:List (Addr × Obj)} {σ:L2.St} {H:Hp} {s:Shared} {Q:VK} {us:List Value} {vs:List V} {xs:List SV} {w:Wd} {S:Zaa} (C:Cok X W k gd) (F:Fd gc X.prog X.w X.K X.mg X.base n j f fd ps m) (hj:j≤k) (hg:gc=true→gd=true)
  (D:Dfl X n fd ps dxs) (I:Inv X pins σ H s) (r:Vals vs us) (sm:Sim (gx X n) w H S) (rs:VRs (gx X n) w H xs vs)
  (h:Out (m (xs++dxs) S) (KV (gx X n) w H Q) (KX (gx X n) w H fun cls d H'=>W cls d σ H')):wpAny (model X.prog X.w) X.A (call (.ref f) us) (EP X pins σ Q) X.xe s:=by
 obtain⟨dvs,ds,rd,hb,hd⟩:=D.ex
 have rs2:=rs.append (hd w H)
 have r2:=r.append rd
 have hl:(us++ds).length=ps.length:=by
  refine Classical.byContradiction fun z=> ?_
  rw [F.ar (xs++dxs) S (by rw [←rs2.len,r2.length]; exact z)]at h
  exact h
 exact Zjf C F hj hg (hb s us I.kIn hl) I r2 sm rs2 h
theorem RE.call (C:Cok X W k gd) (F:Fd gc X.prog X.w X.K X.mg X.base n j f fd ps m) (D:Dfl X n fd ps dxs) (hgl:Gl X x) (hm:X.mg x=some (.ref f)) (ha:RA X n xh W (e::es) mr) (hj:j≤k:=by decide) (hg:gc=true→gd=true:=by decide)
  (hdb:(x==("__debug__":Str))=false:=by decide) (he:starEach (e::es) X.env=(false,eval e X.env)::starEach es X.env:=by rfl) (hpl:(backTo pos (starEach es X.env)).any (·.1)=false:=by rfl):
  RE X n xh W (.Call (.Name x p) (e::es) [] pos) (eF (fun xs=>m (xs++dxs)) mr):=by
 obtain⟨ta,pa,ca⟩:=ha.ex
 refine⟨fun σ H Q=>∃w S env,Sim (gx X n) w H S∧Fm (gx X n) xh w H env σ∧Out (eF (fun xs=>m (xs++dxs)) mr env S) (KV (gx X n) w H Q) (KX (gx X n) w H fun cls d H'=>W cls d σ H'),⟨fun pins s σ H Q I h=> ?_⟩,fun σ H w S env Q s fm h=>⟨w,S,env,s,fm,h⟩⟩
 obtain⟨w,S,env,sm,fm,h⟩:=h
 refine wpAny_Call_Name_kw (ld_glob I hgl hm ?_ hdb)
 have q:=ca σ H w S env (fun vs H1=>∃xs S1 w1,Sim (gx X n) w1 H1 S1∧VRs (gx X n) w1 H1 xs vs∧Out (m (xs++dxs) S1) (KV (gx X n) w1 H1 Q) (KX (gx X n) w1 H1 fun cls d H'=>W cls d σ H')) sm fm
  ((Out.bind h).imp (fun xs S1 h1 w1 H1 vs l1 k1 s1 r1=>⟨xs,S1,w1,s1,r1,h1.imp (fun _ _ z=>z.mono l1 k1) fun _ _ z=>z.mono l1 k1⟩) fun _ _ z=>z)
 refine PySem.W.callWith_K (h₀:=X.base) I.ok.mod.kin F.kp (thn (pa.run pos pins s σ H _ I q) fun us s1 ⟨vs,H1,I1,r,xs,S1,w1,s1,r1,h1⟩=>⟨I1.kIn, ?_⟩) he hpl
 exact Zef C F hj hg D I1 r s1 r1 h1
end
end MP
namespace MP
open PySem (Str PyData sizeLine)
def Zf2:SV→SV→M SV:=fun x y S=>match x,y with
 | .int i, .int j=>if 0<j then .ok (.int (i % j)) S else .bad
 | _,_=> .bad
def ZcL:Key→PyData
 | .inl i=> .int i
 | .inr x=> .str x
def Zan:Nat→Zaa→SV→Option PyData
 | 0,_,_=>none
 | k+1,S,x=>match x with
  | .non=>some .none
  | .bl b=>some (.bool b)
  | .int i=>some (.int i)
  | .str z=>some (.str z)
  | .tup xs=>(xs.mapM (Zan k S)).map .tuple
  | .ref n=>(match S[n]? with
   | some (.lst xs)=>(xs.mapM (Zan k S)).map .list
   | some (.frz xs)=>(xs.mapM (Zan k S)).map .list
   | some (.dK kvs)=>(kvs.mapM fun p=>(Zan k S p.2).map fun d=>(ZcL p.1,d)).map .dict
   | some (.dF kvs)=>(kvs.mapM fun p=>(Zan k S p.2).map fun d=>(ZcL p.1,d)).map .dict
   | some (.dT kvs)=>(kvs.mapM fun p=>(Zan k S p.2).map fun d=>(PyData.tuple (p.1.map ZcL),d)).map .dict
   | some (.dG kvs)=>(kvs.mapM fun p=>(Zan k S p.2).map fun d=>(PyData.tuple (p.1.map ZcL),d)).map .dict
   | _=>none)
  | _=>none
def eqD:SV→SV→M SV:=fun x y S=>match Zan 12 S x,Zan 12 S y with
 | some d,some e=>if(PySem.SeqAt.shaped d&&PySem.SeqAt.shaped e)=true then .ok (.bl (PyData.eqv d e)) S else .bad
 | _,_=> .bad
def neD:SV→SV→M SV:=fun x y S=>match Zan 12 S x,Zan 12 S y with
 | some d,some e=>if(PySem.SeqAt.shaped d&&PySem.SeqAt.shaped e)=true then .ok (.bl (!PyData.eqv d e)) S else .bad
 | _,_=> .bad
def eqM:SV→SV→M SV:=fun x y S=>match x,y with
 | .str a, .str b=> .ok (.bl (decide (a=b))) S
 | .int a, .int b=> .ok (.bl (decide (a=b))) S
 | x,y=>eqD x y S
def neM:SV→SV→M SV:=fun x y S=>match x,y with
 | .str a, .str b=> .ok (.bl (!decide (a=b))) S
 | .int a, .int b=> .ok (.bl (!decide (a=b))) S
 | x,y=>neD x y S
def seqOf (S:Zaa):SV→Option (List SV)
 | .tup xs=>some xs
 | .ref n=>ZaJ S n
 | _=>none
def Zf3:List SV→M SV:=fun xs S=>match xs with
 | [.str z]=>if z.length≤sizeLine then .ok (.int z.length) S else .bad
 | [x]=>(match seqOf S x with
  | some ys=> .ok (.int ys.length) S
  | none=> .bad)
 | _=> .bad
def Znp:List SV→M SV:=fun xs S=>match xs with
 | [.int i]=> .ok (.int (if i<0 then -i else i)) S
 | _=> .bad
def Zlp:List SV→M SV:=fun xs S=>match xs with
 | [.int i, .int j]=> .ok (.int (if j>i then j else i)) S
 | _=> .bad
def ZlP:List SV→M SV:=fun xs S=>match xs with
 | [.int i, .int j]=> .ok (.int (if j<i then j else i)) S
 | _=> .bad
def Zjg:List SV→M SV:=fun xs S=>match xs with
 | [.int i]=> .ok (.int i) S
 | [.bl k]=> .ok (.int (if k then 1 else 0)) S
 | _=> .bad
def Zhu:List SV→M SV:=fun xs S=>match xs with
 | [.int i]=> .ok (.bl (i != 0)) S
 | [.bl k]=> .ok (.bl k) S
 | _=> .bad
def ZlQ:List SV→M SV:=fun xs S=>match xs with
 | [.int i]=>if i.natAbs.log2<1920 then .ok (.str (toString i)) S else .bad
 | _=> .bad
def Zf4:List SV→M SV:=fun xs S=>match xs with
 | [x]=>(match seqOf S x with
  | some ys=> .ok (.ref S.length) (S++[.lst ys])
  | none=> .bad)
 | _=> .bad
def Zeg:List SV→M SV:=fun xs S=>match xs with
 | [x]=>(match seqOf S x with
  | some ys=> .ok (.tup ys) S
  | none=> .bad)
 | _=> .bad
inductive TyN where | b (n:String) | o (c:String)
def Ziz (S:Zaa):SV→Option TyN
 | .non=>some (.b "NoneType") | .bl _=>some (.b "bool") | .int _=>some (.b "int") | .str _=>some (.b "str") | .tup _=>some (.b "tuple")
 | .ref n=>(match S[n]? with
  | some (.lst _)=>some (.b "list") | some (.frz _)=>some (.b "list") | some (.dK _)=>some (.b "dict") | some (.dT _)=>some (.b "dict") | some (.ins c _)=>some (.o c)
  | some (.dF _)=>some (.b "dict") | some (.dG _)=>some (.b "dict")
  | none=>none)
 | _=>none
def ZnT (a b:String):Bool:=a==b || (a== "bool"&&b== "int")
def Zf5 (cs bs:List String) (t:TyN) (c:SV):Option Bool:=match t,c with
 | .b a, .ty b=>if b∈bs then some (ZnT a b)else none
 | .o d, .ty b=>if d∈cs∧b∈bs then some false else none
 | .b _, .cls c=>if c∈cs then some false else none
 | .o d, .cls c=>if d∈cs∧c∈cs then some (d==c)else none
 | _,_=>none
def ZcD (cs bs:List String) (t:TyN):List SV→Option Bool
 | []=>some false
 | c::r=>match Zf5 cs bs t c,ZcD cs bs t r with
  | some b,some k=>some (b || k)
  | _,_=>none
def Ze9 (cs bs:List String):List SV→M SV:=fun xs S=>match xs with
 | [x, .tup (t0::ts)]=>(match Ziz S x with
  | some t=>(match ZcD cs bs t (t0::ts)with
   | some b=> .ok (.bl b) S
   | none=> .bad)
  | none=> .bad)
 | [x,c]=>(match Ziz S x with
  | some t=>(match Zf5 cs bs t c with
   | some b=> .ok (.bl b) S
   | none=> .bad)
  | none=> .bad)
 | _=> .bad
def Zeh (dk:Bool):List SV→M SV:=fun xs S=>match xs with
 | [x]=>(match Zan 12 S x with
  | some d=>if(d.showable&&decide (d.shown.length≤sizeLine)&&decide (d.depth≤64)&&(dk || !d.hasDict))=true then .ok (.str d.shown) S else .bad
  | none=> .bad)
 | _=> .bad
def ZdE:List SV→Option (List Bool)
 | []=>some []
 | .bl b::r=>(ZdE r).map (b:: ·)
 | _::_=>none
def ZlR:List SV→M SV:=fun xs S=>match xs with
 | [.ref n]=>(match (ZaJ S n).bind ZdE with
  | some bs=> .ok (.bl (bs.all id)) S
  | none=> .bad)
 | _=> .bad
def ZlS:List SV→M SV:=fun xs S=>match xs with
 | [.ref n]=>(match (ZaJ S n).bind ZdE with
  | some bs=> .ok (.bl (bs.any id)) S
  | none=> .bad)
 | _=> .bad
end MP
namespace MP
open PySem (Str PyData sizeLine)
def Zb6 (S:Zaa):SV→Option String
 | .ref n=>(match S[n]? with
  | some (.ins c _)=>some c
  | _=>none)
 | _=>none
end MP
namespace MP
open PySem (Str PyData sizeLine)
abbrev Zap:=List (String × (List SV→M SV))
def ZiA (cs:List String) (S:Zaa) (x:SV):Bool:=match Ziz S x with
 | some (.b _)=>true
 | some (.o c)=>cs.contains c
 | none=>false
def Zb7 (tb:Zap) (S:Zaa) (x:SV):Option (List SV→M SV):=(Zb6 S x).bind fun c=>tb.lookup c
def ownC (tb:Zap) (cs:List String):SV→SV→M SV:=fun x y S=>match Zb7 tb S x with
 | some f=>if ZiA cs S y=true then f [x,y] S else .bad
 | none=> .bad
def ZcT (tb:Zap) (m:String) (S:Zaa) (x:SV):Option (List SV→M SV):=match x with
 | .ref n=>(match S[n]? with
  | some (.ins c fs)=>if fs.lookup m=none then tb.lookup c else none
  | _=>none)
 | _=>none
def Zf6 (m:String) (tb:Zap) (o:EM) (a:AM):EM:=fun env S=>(o env S).bind fun x S1=>match ZcT tb m S1 x with
 | some f=>(a env S1).bind fun xs S2=>f (x::xs) S2
 | none=> .bad
end MP
namespace MP
end MP
namespace MP
open PySem PySem.Spec PyProof.Rows L2
section
variable {X:Cx} {n:Nm}
theorem KV.here {g:G} {w:Wd} {H:Hp} {Q:VK} {S:Zaa} {a:SV} {v:V} (s:Sim g w H S) (h:KV g w H Q a S) (r:VR g w H a v):Q v H:=h w H v (Wd.Le.refl w) (Zag.refl H) s r
theorem VR.i {g:G} {w:Wd} {H:Hp} {i:Int} {v:V} (h:VR g w H (.int i) v):v= .int i:=by simpa [VR]using h
theorem VR.s {g:G} {w:Wd} {H:Hp} {z:Str} {v:V} (h:VR g w H (.str z) v):v= .str z:=by simpa [VR]using h
theorem VR.b {g:G} {w:Wd} {H:Hp} {b:Bool} {v:V} (h:VR g w H (.bl b) v):v= .bl b:=by simpa [VR]using h
theorem VR.nn {g:G} {w:Wd} {H:Hp} {v:V} (h:VR g w H .non v):v= .non:=by simpa [VR]using h
theorem VR.t {g:G} {w:Wd} {H:Hp} {xs:List SV} {v:V} (h:VR g w H (.tup xs) v):∃a ys,v= .ref a∧H a=some (.tup ys)∧VRs g w H xs ys:=by simpa only [VR]using h
theorem VR.r {g:G} {w:Wd} {H:Hp} {m:Nat} {v:V} (h:VR g w H (.ref m) v):m<w.n∧v= .ref (w.at_ m):=by simpa only [VR]using h
theorem VR.oi {g:G} {w:Wd} {H:Hp} {i:Int}:VR g w H (.int i) (.int i):=by simp [VR]
theorem VR.ob {g:G} {w:Wd} {H:Hp} {b:Bool}:VR g w H (.bl b) (.bl b):=by simp [VR]
theorem VR.os {g:G} {w:Wd} {H:Hp} {z:Str}:VR g w H (.str z) (.str z):=by simp [VR]
theorem Zao.mod:Zao X n (binaryOp .Mod) Zf2 where
 nx:=fun x y S=>by unfold Zf2; split<;>(try split)<;>trivial
 ex:=by
  refine⟨_,op_mod,fun H w S x y v u Q s rx ry h=> ?_⟩
  unfold Zf2 at h
  split at h
  ·rename_i i j
   by_cases c:0<j
   ·rw [if_pos c]at h
    exact⟨_,_,rx.i,ry.i,c,KV.here s h VR.oi⟩
   ·rw [if_neg c]at h; exact h.elim
  ·exact h.elim
theorem ZaW {pins:List (Addr × Obj)} {σ:L2.St} {H:Hp} {s:Shared} {w:Wd} {S:Zaa} (I:Inv X pins σ H s) (sm:Sim (gx X n) w H S):∀(k:Nat) (x:SV) (d:PyData) (v:V) (u:Value),Zan k S x=some d→VR (gx X n) w H x v→RelV v u→
  ∃as,Reads s.heap u d as∧∀a∈as,(∃ys,SqL X.K H a ys)∨(a==sysModules)=false
 | 0,x,d,v,u,e,r,ru=>by simp [Zan]at e
 | k+1,x,d,v,u,e,r,ru=>by
  have all:∀(xs:List SV) (ds:List PyData) (vs:List V) (us:List Value),xs.mapM (Zan k S)=some ds→VRs (gx X n) w H xs vs→Vals vs us→∃as,ReadsAll s.heap us ds as∧∀a∈as,(∃ys,SqL X.K H a ys)∨(a==sysModules)=false:=by
   intro xs
   induction xs with
   | nil=>
    intro ds vs us e r rv
    simp only [VRs]at r
    simp at e
    subst r
    cases rv
    rw [e]; exact⟨[], .nil,fun a h=>nomatch h⟩
   | cons x xs ih=>
    intro ds vs us e r rv
    simp only [VRs]at r
    obtain⟨v,t,rfl,r1,r2⟩:=r
    simp only [YaD,YaE,YaF,YaG,Option.some.injEq]at e
    obtain⟨d,e1,ds',e2,rfl⟩:=e
    cases rv with
    | cons ra rb=>
     obtain⟨as,h1,h2⟩:=ZaW I sm k x d v _ e1 r1 ra
     obtain⟨bs,h3,h4⟩:=ih ds' t _ e2 r2 rb
     exact⟨as++bs, .cons h1 h3,fun a h=>(YaH.mp h).elim (h2 a) (h4 a)⟩
  have lists:∀{m:Nat} {xs:List SV} {ds:List PyData},(S[m]? =some (.lst xs)∨S[m]? =some (.frz xs))→xs.mapM (Zan k S)=some ds→∃as,Reads s.heap (.ref (w.at_ m)) (.list ds) as∧∀a∈as,(∃ys,SqL X.K H a ys)∨(a==sysModules)=false:=fun{m xs ds} e1 e2=>by
   obtain⟨ys,sq,rs⟩:=sm.seq e1
   obtain⟨its,rv,⟨o,nn,h1,h2,h3,h4⟩,_⟩:=I.list sq
   obtain⟨as,h5,h6⟩:=all xs ds ys its e2 rs rv
   exact⟨_::as, .list h1 h2 h4 (by simpa using h5),fun a h=>(Yas.mp h).elim (fun z=> .inl (z▸⟨ys,sq⟩)) (h6 a)⟩
  have keyR:∀(ks:List Key) (us:List Value),Vals (ks.map kV) us→ReadsAll s.heap us (ks.map ZcL) []:=by
   intro ks
   induction ks with
   | nil=>intro us rv; cases rv; exact .nil
   | cons a ks ih=>
    intro us rv
    cases rv with
    | @cons va ua _ _ ra rb=>
     have h1:Reads s.heap ua (ZcL a) []:=by
      cases a with
      | inl i=>obtain⟨t,rfl⟩:=ra; exact .int i t
      | inr z=>obtain⟨t,rfl⟩:=ra; exact .str z t
     exact .cons h1 (ih _ rb)
  have dks:∀{m:Nat} {kvs:List (Key × SV)} {ys:List (Key × V)} {ds:List (PyData × PyData)},L2.Rd H (w.at_ m) (.dK ys)→KR (gx X n) w H kvs ys→(kvs.mapM fun p=>(Zan k S p.2).map fun d=>(ZcL p.1,d))=some ds→
    ∃as,Reads s.heap (.ref (w.at_ m)) (.dict ds) as∧∀a∈as,(∃ys,SqL X.K H a ys)∨(a==sysModules)=false:=fun{m kvs ys ds} hr h2 e1=>by
   obtain⟨_,hs,vs,kv,o,es,ep,g1,g2,g3,_,g5,_⟩:=L2.dk_rd I.hok hr
   have go:∀(kvs:List (Key × SV)) (ys:List (Key × V)) (vs:List (Key × Value)) (es:List DictEntry) (ds:List (PyData × PyData)),(kvs.mapM fun p=>(Zan k S p.2).map fun d=>(ZcL p.1,d))=some ds→KR (gx X n) w H kvs ys→L2.KV ys vs→Pairs (mixKind X.prog X.w) es vs→
     ∃as bs,ReadsAll s.heap (es.map (·.key)) (ds.map (·.1)) as∧ReadsAll s.heap (es.map (·.val)) (ds.map (·.2)) bs∧(∀a∈as,(∃ys,SqL X.K H a ys)∨(a==sysModules)=false)∧∀a∈bs,(∃ys,SqL X.K H a ys)∨(a==sysModules)=false:=by
    intro kvs
    induction kvs with
    | nil=>
     intro ys vs es ds e1 h2 kv g5
     rw [show ys=[]from h2]at kv
     cases kv
     cases g5
     simp at e1
     rw [e1]; exact⟨[],[], .nil, .nil,fun a h=>(nomatch h),fun a h=>nomatch h⟩
    | cons p kvs ih=>
     intro ys vs es ds e1 h2 kv g5
     obtain⟨v,t,rfl,r1,r2⟩:=h2
     simp only [YaD,YaE,YaF,YaI,YaG,Option.some.injEq]at e1
     obtain⟨_,⟨d,e1,rfl⟩,ds',e2,rfl⟩:=e1
     cases kv with
     | cons ka kb=>
      rename_i q vs'
      cases g5 with
      | cons i1 i2 i3=>
       rename_i en es'
       obtain⟨as,bs,h3,h4,h5,h6⟩:=ih t vs' es' ds' e2 r2 kb i3
       obtain⟨cs,h7,h8⟩:=ZaW I sm k p.2 d v en.val e1 r1 (by rw [i2]; exact ka.2)
       have key:Reads s.heap en.key (ZcL p.1) []:=by
        have i1:keyIs q.1 en.key=true:=i1
        rw [←ka.1]at i1
        obtain⟨pk,pv⟩:=p
        rcases keyIs_shape i1 with ⟨i,t,e3,e4⟩ | ⟨x,t,e3,e4⟩
        ·simp only at e3; subst e3; rw [e4]; exact .int i t
        ·simp only at e3; subst e3; rw [e4]; exact .str x t
       exact⟨[]++as,cs++bs, .cons key h3, .cons h7 h4,h5,fun a h=>(YaH.mp h).elim (h8 a) (h6 a)⟩
   obtain⟨as,bs,h3,h4,h5,h6⟩:=go kvs ys vs es.toList ds e1 h2 kv g5
   refine⟨w.at_ m::as++bs, .dict g1 g2.1 g3 h3 h4,fun a h=> ?_⟩
   rcases YaH.mp h with z | z
   ·rcases Yas.mp z with z | z
    ·rw [z]; exact .inr hs
    ·exact h5 a z
   ·exact h6 a z
  have dts:∀{m:Nat} {kvs:List (List Key × SV)} {ys:List (List Key × V)} {ds:List (PyData × PyData)},L2.Rd H (w.at_ m) (.dT ys)→KR (gx X n) w H kvs ys→(kvs.mapM fun p=>(Zan k S p.2).map fun d=>(PyData.tuple (p.1.map ZcL),d))=some ds→
    ∃as,Reads s.heap (.ref (w.at_ m)) (.dict ds) as∧∀a∈as,(∃ys,SqL X.K H a ys)∨(a==sysModules)=false:=fun{m kvs ys ds} h1 h2 e1=>by
   obtain⟨_,hs,xs,kt,o,es,ep,g1,g2,g3,g4,_⟩:=L2.dt_rd I.hok h1
   have go:∀(kvs:List (List Key × SV)) (ys:List (List Key × V)) (xs:List (List Key × Addr × Value)) (ds:List (PyData × PyData)),(kvs.mapM fun p=>(Zan k S p.2).map fun d=>(PyData.tuple (p.1.map ZcL),d))=some ds→KR (gx X n) w H kvs ys→L2.KT H ys xs→
     ∃as bs,ReadsAll s.heap (xs.map fun x=>Value.ref x.2.1) (ds.map (·.1)) as∧ReadsAll s.heap (xs.map fun x=>x.2.2) (ds.map (·.2)) bs∧(∀a∈as,(∃ys,SqL X.K H a ys)∨(a==sysModules)=false)∧∀a∈bs,(∃ys,SqL X.K H a ys)∨(a==sysModules)=false:=by
    intro kvs
    induction kvs with
    | nil=>
     intro ys xs ds e1 h2 kt
     rw [show ys=[]from h2]at kt
     cases kt
     simp at e1
     rw [e1]; exact⟨[],[], .nil, .nil,fun a h=>(nomatch h),fun a h=>nomatch h⟩
    | cons p kvs ih=>
     intro ys xs ds e1 h2 kt
     obtain⟨v,t,rfl,r1,r2⟩:=h2
     simp only [YaD,YaE,YaF,YaI,YaG,Option.some.injEq]at e1
     obtain⟨_,⟨d,e1,rfl⟩,ds',e2,rfl⟩:=e1
     cases kt with
     | @cons _ q _ xs' ka kb=>
      obtain⟨as,bs,h3,h4,h5,h6⟩:=ih t xs' ds' e2 r2 kb
      obtain⟨cs,h7,h8⟩:=ZaW I sm k p.2 d v q.2.2 e1 r1 ka.2.2
      obtain⟨its,rv,⟨o,g2,g3,nn,g4⟩,_⟩:=I.tuple (SqT.of ka.2.1)
      have key:Reads s.heap (.ref q.2.1) (.tuple (p.1.map ZcL)) []:= .tuple g2 g3 g4 (by simpa using keyR _ _ rv)
      exact⟨[]++as,cs++bs, .cons key h3, .cons h7 h4,h5,fun a h=>(YaH.mp h).elim (h8 a) (h6 a)⟩
   obtain⟨as,bs,h3,h4,h5,h6⟩:=go kvs ys xs ds e1 h2 kt
   have ek:es.toList.map (·.key)=xs.map fun x=>Value.ref x.2.1:=by rw [g4,YaJ]; rfl
   have ev:es.toList.map (·.val)=xs.map fun x=>x.2.2:=by rw [g4,YaJ]; rfl
   refine⟨w.at_ m::as++bs, .dict g1 g2.1 g3 (by rw [ek]; exact h3) (by rw [ev]; exact h4),fun a h=> ?_⟩
   rcases YaH.mp h with z | z
   ·rcases Yas.mp z with z | z
    ·rw [z]; exact .inr hs
    ·exact h5 a z
   ·exact h6 a z
  cases x with
  | non=>
   simp only [Zan,Option.some.injEq]at e
   rw [r.nn]at ru
   obtain rfl:u=Value.none:=ru
   rw [←e]; exact⟨[], .none,fun a h=>nomatch h⟩
  | bl b=>
   simp only [Zan,Option.some.injEq]at e
   rw [r.b]at ru
   obtain rfl:u=Value.bool b:=ru
   rw [←e]; exact⟨[], .bool b,fun a h=>nomatch h⟩
  | int i=>
   simp only [Zan,Option.some.injEq]at e
   rw [r.i]at ru
   obtain⟨t,rfl⟩:=ru
   rw [←e]; exact⟨[], .int i t,fun a h=>nomatch h⟩
  | str z=>
   simp only [Zan,Option.some.injEq]at e
   rw [r.s]at ru
   obtain⟨t,rfl⟩:=ru
   rw [←e]; exact⟨[], .str z t,fun a h=>nomatch h⟩
  | tup xs=>
   simp only [Zan,YaI]at e
   obtain⟨ds,e1,rfl⟩:=e
   obtain⟨a,ys,q,h1,r1⟩:=r.t
   rw [q]at ru
   obtain rfl:u=Value.ref a:=ru
   obtain⟨its,rv,⟨o,h2,h3,nn,h4⟩,_⟩:=I.tuple (SqT.of h1)
   obtain⟨as,h5,h6⟩:=all xs ds ys its e1 r1 rv
   exact⟨as, .tuple h2 h3 h4 (by simpa using h5),h6⟩
  | ref m=>
   rw [r.r.2]at ru
   obtain rfl:u=Value.ref (w.at_ m):=ru
   simp only [Zan]at e
   split at e
   ·rename_i xs eo
    simp only [YaI]at e
    obtain⟨ds,e1,rfl⟩:=e
    exact lists (.inl eo) e1
   ·rename_i xs eo
    simp only [YaI]at e
    obtain⟨ds,e1,rfl⟩:=e
    exact lists (.inr eo) e1
   ·rename_i kvs eo
    simp only [YaI]at e
    obtain⟨ds,e1,rfl⟩:=e
    obtain⟨ys,h1,h2⟩:=sm.obj m _ eo
    exact dks (.inl h1) h2 e1
   ·rename_i kvs eo
    simp only [YaI]at e
    obtain⟨ds,e1,rfl⟩:=e
    obtain⟨od,ys,h1,h2⟩:=sm.obj m _ eo
    exact dks (.inr ⟨od,h1⟩) h2 e1
   ·rename_i kvs eo
    simp only [YaI]at e
    obtain⟨ds,e1,rfl⟩:=e
    obtain⟨ys,h1,h2⟩:=sm.obj m _ eo
    exact dts (.inl h1) h2 e1
   ·rename_i kvs eo
    simp only [YaI]at e
    obtain⟨ds,e1,rfl⟩:=e
    obtain⟨od,ys,h1,h2⟩:=sm.obj m _ eo
    exact dts (.inr ⟨od,h1⟩) h2 e1
   ·cases e
  | _=>simp [Zan]at e
def s2R (X:Cx) (n:Nm) (m:SV→SV→M SV):R2:=fun v u H Q=>∃w S x y,Sim (gx X n) w H S∧VR (gx X n) w H x v∧VR (gx X n) w H y u∧Out (m x y S) (KV (gx X n) w H Q) fun _ _=>False
theorem Zao.eq' (hu:X.A.units+64<cLine):Zao X n (compareOp .Eq) eqD where
 nx:=fun x y S=>by unfold eqD; split<;>(try split)<;>trivial
 ex:=by
  refine⟨s2R X n eqD,fun pins s σ H x y v u Q I rx ry ⟨w,S,a,b,sm,ra,rb,h⟩=> ?_,fun H w S x y v u Q s rx ry h=>⟨w,S,x,y,s,rx,ry,h⟩⟩
  unfold eqD at h
  split at h
  ·rename_i d e h1 h2
   by_cases c:(SeqAt.shaped d&&SeqAt.shaped e)=true
   ·rw [if_pos c]at h
    rw [YaK]at c
    obtain⟨as,p1,_⟩:=ZaW I sm _ _ _ _ _ h1 ra rx
    obtain⟨bs,p2,_⟩:=ZaW I sm _ _ _ _ _ h2 rb ry
    exact SeqAt.compareEq_shaped p1 p2 c.1 c.2 hu ⟨.bl (PyData.eqv d e),H,I,rfl,KV.here sm h VR.ob⟩
   ·rw [if_neg c]at h; exact h.elim
  ·exact h.elim
theorem Zao.ne' (hu:X.A.units+64<cLine):Zao X n (compareOp .NotEq) neD where
 nx:=fun x y S=>by unfold neD; split<;>(try split)<;>trivial
 ex:=by
  refine⟨s2R X n neD,fun pins s σ H x y v u Q I rx ry ⟨w,S,a,b,sm,ra,rb,h⟩=> ?_,fun H w S x y v u Q s rx ry h=>⟨w,S,x,y,s,rx,ry,h⟩⟩
  unfold neD at h
  split at h
  ·rename_i d e h1 h2
   by_cases c:(SeqAt.shaped d&&SeqAt.shaped e)=true
   ·rw [if_pos c]at h
    rw [YaK]at c
    obtain⟨as,p1,_⟩:=ZaW I sm _ _ _ _ _ h1 ra rx
    obtain⟨bs,p2,_⟩:=ZaW I sm _ _ _ _ _ h2 rb ry
    exact SeqAt.compareNe_shaped p1 p2 c.1 c.2 hu ⟨.bl (!PyData.eqv d e),H,I,rfl,KV.here sm h VR.ob⟩
   ·rw [if_neg c]at h; exact h.elim
  ·exact h.elim
theorem Zao.eq (hu:X.A.units+64<cLine):Zao X n (compareOp .Eq) eqM where
 nx:=fun x y S=>by unfold eqM; split; trivial; trivial; exact(Zao.eq' (X:=X) (n:=n) hu).nx _ _ _
 ex:=by
  obtain⟨r,hr,cr⟩:=(Zao.eq' (X:=X) (n:=n) hu).ex
  refine⟨_,OpR.or hr op_eq,fun H w S x y v u Q s rx ry h=> ?_⟩
  unfold eqM at h
  split at h
  ·refine .inr ⟨by rw [rx.s,ry.s]; rfl, ?_⟩
   rw [rx.s,ry.s]
   simpa using h.here s VR.ob
  ·refine .inr ⟨by rw [rx.i,ry.i]; rfl, ?_⟩
   rw [rx.i,ry.i]
   simpa using h.here s VR.ob
  ·exact .inl (cr H w S _ _ v u Q s rx ry h)
theorem Zao.ne (hu:X.A.units+64<cLine):Zao X n (compareOp .NotEq) neM where
 nx:=fun x y S=>by unfold neM; split; trivial; trivial; exact(Zao.ne' (X:=X) (n:=n) hu).nx _ _ _
 ex:=by
  obtain⟨r,hr,cr⟩:=(Zao.ne' (X:=X) (n:=n) hu).ex
  refine⟨_,OpR.or hr op_ne,fun H w S x y v u Q s rx ry h=> ?_⟩
  unfold neM at h
  split at h
  ·refine .inr ⟨by rw [rx.s,ry.s]; rfl, ?_⟩
   rw [rx.s,ry.s]
   simpa using h.here s VR.ob
  ·refine .inr ⟨by rw [rx.i,ry.i]; rfl, ?_⟩
   rw [rx.i,ry.i]
   simpa using h.here s VR.ob
  ·exact .inl (cr H w S _ _ v u Q s rx ry h)
theorem Sim.seqOf {g:G} {w:Wd} {H:Hp} {S:Zaa} {y:SV} {u:V} {xs:List SV} (s:Sim g w H S) (e:seqOf S y=some xs) (r:VR g w H y u):∃p vs,u= .ref p∧(SqL g.K H p vs∨SqT g.K H p vs)∧VRs g w H xs vs:=by
 cases y with
 | tup ys=>
  simp only [MP.seqOf,Option.some.injEq]at e
  subst e
  obtain⟨a,vs,q,h1,r1⟩:=r.t
  exact⟨a,vs,q, .inr (SqT.of h1),r1⟩
 | ref m=>
  obtain⟨vs,sq,rs⟩:=s.seq (ZaT e)
  exact⟨_,vs,r.r.2, .inl sq,rs⟩
 | _=>simp [MP.seqOf]at e
theorem VRs.r1 {g:G} {w:Wd} {H:Hp} {x:SV} {vs:List V} (r:VRs g w H [x] vs):∃v,vs=[v]∧VR g w H x v:=by
 simp only [VRs]at r
 obtain⟨v,t,rfl,r1,rfl⟩:=r
 exact⟨v,rfl,r1⟩
theorem VRs.r2 {g:G} {w:Wd} {H:Hp} {x y:SV} {vs:List V} (r:VRs g w H [x,y] vs):∃v u,vs=[v,u]∧VR g w H x v∧VR g w H y u:=by
 simp only [VRs]at r
 obtain⟨v,t,rfl,r1,u,t',rfl,r2,rfl⟩:=r
 exact⟨v,u,rfl,r1,r2⟩
theorem Za2.len:Za2 X n (.builtin "len") Zf3 where
 nx:=fun xs S=>by unfold Zf3; split<;>(try split)<;>trivial
 ex:=by
  refine⟨_,CallR.or call_len_str call_len_seq,fun H w S xs vs Q s rs h=> ?_⟩
  unfold Zf3 at h
  split at h
  ·rename_i z
   by_cases c:z.length≤sizeLine
   ·rw [if_pos c]at h
    obtain⟨v,rfl,r⟩:=rs.r1
    exact .inl ⟨z,by rw [r.s],c,KV.here s h VR.oi⟩
   ·rw [if_neg c]at h; exact h.elim
  ·split at h
   ·rename_i x _ ys q
    obtain⟨v,rfl,r⟩:=rs.r1
    obtain⟨p,us,e,sq,r2⟩:=s.seqOf q r
    refine .inr ⟨p,us,by rw [e],sq, ?_⟩
    rw [r2.len]
    exact KV.here s h VR.oi
   ·exact h.elim
  ·exact h.elim
theorem Za2.abs:Za2 X n (.builtin "abs") Znp where
 nx:=fun xs S=>by unfold Znp; split<;>trivial
 ex:=by
  refine⟨_,call_abs,fun H w S xs vs Q s rs h=> ?_⟩
  unfold Znp at h
  split at h
  ·obtain⟨v,rfl,r⟩:=rs.r1
   exact⟨_,by rw [r.i],KV.here s h VR.oi⟩
  ·exact h.elim
theorem Za2.max (hc:X.calm=true):Za2 X n (.builtin "max") Zlp where
 nx:=fun xs S=>by unfold Zlp; split<;>trivial
 ex:=by
  refine⟨_,call_max2 hc,fun H w S xs vs Q s rs h=> ?_⟩
  unfold Zlp at h
  split at h
  ·obtain⟨v,u,rfl,r1,r2⟩:=rs.r2
   exact⟨_,_,by rw [r1.i,r2.i],KV.here s h VR.oi⟩
  ·exact h.elim
theorem Za2.min (hc:X.calm=true):Za2 X n (.builtin "min") ZlP where
 nx:=fun xs S=>by unfold ZlP; split<;>trivial
 ex:=by
  refine⟨_,call_min2 hc,fun H w S xs vs Q s rs h=> ?_⟩
  unfold ZlP at h
  split at h
  ·obtain⟨v,u,rfl,r1,r2⟩:=rs.r2
   exact⟨_,_,by rw [r1.i,r2.i],KV.here s h VR.oi⟩
  ·exact h.elim
theorem Za2.int:Za2 X n (.type "int") Zjg where
 nx:=fun xs S=>by unfold Zjg; split<;>trivial
 ex:=by
  refine⟨_,call_int1,fun H w S xs vs Q s rs h=> ?_⟩
  unfold Zjg at h
  split at h
  ·obtain⟨v,rfl,r⟩:=rs.r1
   exact .inl ⟨_,by rw [r.i],KV.here s h VR.oi⟩
  ·obtain⟨v,rfl,r⟩:=rs.r1
   exact .inr ⟨_,by rw [r.b],KV.here s h VR.oi⟩
  ·exact h.elim
theorem Za2.bool:Za2 X n (.type "bool") Zhu where
 nx:=fun xs S=>by unfold Zhu; split<;>trivial
 ex:=by
  refine⟨_,call_bool1,fun H w S xs vs Q s rs h=> ?_⟩
  unfold Zhu at h
  split at h
  ·obtain⟨v,rfl,r⟩:=rs.r1
   exact .inl ⟨_,by rw [r.i],KV.here s h VR.ob⟩
  ·obtain⟨v,rfl,r⟩:=rs.r1
   exact .inr ⟨_,by rw [r.b],KV.here s h VR.ob⟩
  ·exact h.elim
theorem Za2.str:Za2 X n (.type "str") ZlQ where
 nx:=fun xs S=>by unfold ZlQ; split<;>(try split)<;>trivial
 ex:=by
  refine⟨_,call_str_int,fun H w S xs vs Q s rs h=> ?_⟩
  unfold ZlQ at h
  split at h
  ·rename_i i
   by_cases c:i.natAbs.log2<1920
   ·rw [if_pos c]at h
    obtain⟨v,rfl,r⟩:=rs.r1
    exact⟨_,by rw [r.i],c,KV.here s h VR.os⟩
   ·rw [if_neg c]at h; exact h.elim
  ·exact h.elim
theorem Za2.list:Za2 X n (.type "list") Zf4 where
 nx:=fun xs S=>by unfold Zf4; split<;>(try split)<;>trivial
 ex:=by
  refine⟨_,call_list_of,fun H w S xs vs Q s rs h=> ?_⟩
  unfold Zf4 at h
  split at h
  ·split at h
   ·rename_i x ys q
    obtain⟨v,rfl,r⟩:=rs.r1
    obtain⟨p,us,e,sq,r2⟩:=s.seqOf q r
    exact⟨p,us,by rw [e],sq,fun l hl=>KV.lst s r2 h l hl⟩
   ·exact h.elim
  ·exact h.elim
theorem Za2.tuple:Za2 X n (.type "tuple") Zeg where
 nx:=fun xs S=>by unfold Zeg; split<;>(try split)<;>trivial
 ex:=by
  refine⟨_,call_tuple_of,fun H w S xs vs Q s rs h=> ?_⟩
  unfold Zeg at h
  split at h
  ·split at h
   ·rename_i x _ ys q
    obtain⟨v,rfl,r⟩:=rs.r1
    cases x with
    | tup zs=>
     simp only [seqOf,Option.some.injEq]at q
     subst q
     obtain⟨a,us,e,h1,r1⟩:=r.t
     refine⟨a,us,by rw [e], .inr ⟨SqT.of h1, ?_⟩⟩
     rw [←e]
     exact KV.here s h r
    | ref m=>
     obtain⟨us,sq,r2⟩:=s.seq (ZaT (show ZaJ S m=some ys from q))
     exact⟨_,us,by rw [r.r.2], .inl ⟨sq,fun l hl=>KV.tup s r2 h l hl⟩⟩
    | _=>simp [seqOf]at q
   ·exact h.elim
  ·exact h.elim
theorem ZeK {g:G} {w:Wd} {H:Hp}:∀{xs:List SV} {vs:List V} {bs:List Bool},VRs g w H xs vs→ZdE xs=some bs→vs=bs.map V.bl
 | [],vs,ns,r,e=>by
  simp only [VRs]at r
  simp only [ZdE,Option.some.injEq]at e
  rw [r,←e]; rfl
 | x::xs,vs,ns,r,e=>by
  simp only [VRs]at r
  obtain⟨v,t,rfl,r1,r2⟩:=r
  cases x with
  | bl i=>
   simp only [ZdE,YaI]at e
   obtain⟨ms,e1,rfl⟩:=e
   rw [r1.b,ZeK r2 e1]; rfl
  | _=>simp [ZdE]at e
theorem Za2.all (hc:X.calm=true):Za2 X n (.builtin "all") ZlR where
 nx:=fun xs S=>by unfold ZlR; split<;>(try split)<;>trivial
 ex:=by
  refine⟨_,cr_all hc,fun H w S xs vs Q s rs h=> ?_⟩
  unfold ZlR at h
  split at h
  ·split at h
   ·rename_i m bs q
    rw [YaF]at q
    obtain⟨ys,q1,q2⟩:=q
    obtain⟨v,rfl,r⟩:=rs.r1
    obtain⟨us,sq,r2⟩:=s.seq (ZaT q1)
    rw [ZeK r2 q2]at sq
    exact⟨_,bs,by rw [r.r.2],sq,KV.here s h VR.ob⟩
   ·exact h.elim
  ·exact h.elim
theorem Za2.any (hc:X.calm=true):Za2 X n (.builtin "any") ZlS where
 nx:=fun xs S=>by unfold ZlS; split<;>(try split)<;>trivial
 ex:=by
  refine⟨_,cr_any hc,fun H w S xs vs Q s rs h=> ?_⟩
  unfold ZlS at h
  split at h
  ·split at h
   ·rename_i m bs q
    rw [YaF]at q
    obtain⟨ys,q1,q2⟩:=q
    obtain⟨v,rfl,r⟩:=rs.r1
    obtain⟨us,sq,r2⟩:=s.seq (ZaT q1)
    rw [ZeK r2 q2]at sq
    exact⟨_,bs,by rw [r.r.2],sq,KV.here s h VR.ob⟩
   ·exact h.elim
  ·exact h.elim
end
end MP
namespace MP
open PySem PySem.Spec PyProof.Rows L2
def R2w (X:Cx) (n:Nm) (W:WX) (f:Value→Value→Sem Value) (m:SV→SV→M SV):Prop:=
  ∀(pins:List (Addr × Obj)) (s:Shared) (σ:L2.St) (H:Hp) (x y:V) (v u:Value) (w:Wd) (S:Zaa) (a b:SV) (Q:VK),Inv X pins σ H s→RelV x v→RelV y u→Sim (gx X n) w H S→VR (gx X n) w H a x→VR (gx X n) w H b y→
    Out (m a b S) (KV (gx X n) w H Q) (KX (gx X n) w H fun cls d H'=>W cls d σ H')→wpAny (model X.prog X.w) X.A (f v u) (EP X pins σ Q) X.xe s
theorem Zao.w {X:Cx} {n:Nm} {W:WX} {f:Value→Value→Sem Value} {m:SV→SV→M SV} (o:Zao X n f m):R2w X n W f m:=fun pins s σ H x y v u w S a b Q I rx ry sm ra rb h=>by
 obtain⟨r,ho,co⟩:=o.ex
 exact ho pins s σ H x y v u Q I rx ry (co H w S a b x y Q sm ra rb (h.nox (o.nx _ _ _)))
section
variable {X:Cx} {n:Nm} {xh:Xh} {W:WX} {e a b c:Expr} {es:List Expr} {ma mb mc me:EM} {mt mu:TM} {mr:AM} {pos:Pos}
def ZbD:List String:=["NoneType","bool","int","str","tuple","list","dict"]
structure Zlq (K:PySem.W.Frag) (n:Nm) (cs bs:List String):Prop where
 bb:∀a∈ZbD,∀b∈bs,kitB a b=some (ZnT a b)
 ob:∀d∈cs,∀b∈bs,PySem.W.kitOne K (.ref (n.cl d)) (.type b)=some false
 bo:∀a∈ZbD,∀c∈cs,PySem.W.kitOne K (.type a) (.ref (n.cl c))=some false
 oo:∀d∈cs,∀c∈cs,PySem.W.kitOne K (.ref (n.cl d)) (.ref (n.cl c))=some (d==c)
 ty:∀d∈cs,Cls K (n.cl d)∧PySem.W.findIn K (.ref (n.cl d)) "__class__"=some (some (.builtin "object.__class__"))∧PySem.W.mroIn K (n.cl d) (.type "object")=some true
 hn:PySem.W.specialIn K (.builtin "object.__class__") "__get__"=some (some (.builtin "getset_descriptor.__get__"))
 tk:PySem.W.takesIn K (.builtin "object.__class__")=some true
def TyN.v (n:Nm):TyN→Value
 | .b a=> .type a
 | .o c=> .ref (n.cl c)
inductive TyY (K:PySem.W.Frag) (H:Hp):V→Value→Prop where
 | x {v:V} {t:Value} (h:TyX K H v t):TyY K H v t
 | fT {a:Addr} {o:Obj} {kvs:List (List L2.Key × V)} (e:H a=some (.frz o (.dT kvs))):TyY K H (.ref a) (.type "dict")
theorem ZdF {X:Cx} {pins:List (Addr × Obj)} {σ:L2.St} {H:Hp} {s:Shared} {x:V} {u t:Value} (I:Inv X pins σ H s) (rx:RelV x u) (ty:TyY X.K H x t):∃P:Heap→Prop,PySem.W.KitX X.K u t P∧P s.heap∧u≠ .builtin "__main__.__loader__#opaque":=by
 cases ty with
 | x h=>exact kit_of I rx h
 | @fT a ob kvs ea=>
  cases (show u=Value.ref a from rx)
  obtain⟨_,_,_,xs,_,o,es,ep,h1,h2,_⟩:=(show ObjOk X.prog X.w H s.heap a (.frz ob (.dT kvs))from I.hok a _ ea)
  exact⟨_,PySem.W.kitx_dict,⟨o,h1,h2.1⟩,fun z=>nomatch z⟩
def ZnU (K:PySem.W.Frag):List V→Hp→VK→Prop:=fun xs H Q=>∃(x c:V) (t u:Value) (b:Bool),xs=[x,c]∧ClsV c u∧TyY K H x t∧PySem.W.kitOne K t u=some b∧Q (.bl b) H
def ZlT (K:PySem.W.Frag):List V→Hp→VK→Prop:=fun xs H Q=>∃(x:V) (tp:Addr) (cs:List V) (t:Value) (us:List Value) (b:Bool),xs=[x, .ref tp]∧H tp=some (.tup cs)∧Paired ClsV cs us∧TyY K H x t∧PySem.W.kitAny K t us=some b∧Q (.bl b) H
theorem Zf7 {X:Cx}:CallR X (.builtin "isinstance") (ZnU X.K):=by
 intro pins s σ H xs us Q I r h
 obtain⟨x,c,t,u,b,rfl,k,ty,e,q⟩:=h
 obtain⟨u1,u2,rfl,r1,r2⟩:=vals2 r
 have e2:=k.eq r2
 subst e2
 obtain⟨P,Z,p,hx⟩:=ZdF I r1 ty
 exact PySem.W.kia_one Z I.kIn p e hx fun tk=>⟨.bl b,H,I.tok tk,rfl,q⟩
theorem ZfB {X:Cx}:CallR X (.builtin "isinstance") (ZlT X.K):=by
 intro pins s σ H xs us Q I r h
 obtain⟨x,tp,cs,t,ws,b,rfl,hT,k,ty,e,q⟩:=h
 obtain⟨u1,u2,rfl,r1,r2⟩:=vals2 r
 cases (show u2=Value.ref tp from r2)
 obtain⟨P,Z,p,hx⟩:=ZdF I r1 ty
 obtain⟨_,its,rv,o,h1,h2,n,h3⟩:=(show ObjOk X.prog X.w H s.heap tp (.tup cs)from I.hok tp _ hT)
 have e3:=ClsV.all k rv
 subst e3
 obtain⟨oc,od,dt,sl⟩:=o
 simp only at h2 h3
 subst h2 h3
 exact PySem.W.kia_tup Z I.kIn p h1 e hx fun tk=>⟨.bl b,H,I.tok tk,rfl,q⟩
theorem Znq {K:PySem.W.Frag} {cs bs:List String} {w:Wd} {H:Hp} {S:Zaa} {x:SV} {v:V} {t:TyN} (F:Zlq K n cs bs) (s:Sim ⟨K,n.cl,n.fn⟩ w H S) (r:VR ⟨K,n.cl,n.fn⟩ w H x v) (e:Ziz S x=some t) (ho:∀c,t= .o c→c∈cs):
  TyY K H v (t.v n)∧∀a,t= .b a→a∈ZbD:=by
 cases x with
 | non=>cases e; rw [r.nn]; exact⟨.x (.base .non),fun a z=>by cases z; decide⟩
 | bl b=>cases e; rw [r.b]; exact⟨.x (.base (.bl b)),fun a z=>by cases z; decide⟩
 | int i=>cases e; rw [r.i]; exact⟨.x (.base (.int i)),fun a z=>by cases z; decide⟩
 | str z=>cases e; rw [r.s]; exact⟨.x (.base (.str z)),fun a z=>by cases z; decide⟩
 | tup xs=>
  cases e
  obtain⟨p,ys,ev,hp,rs⟩:=r.t
  rw [ev]
  exact⟨.x (.base (.tup hp)),fun a z=>by cases z; decide⟩
 | ref m=>
  rw [r.r.2]
  simp only [Ziz]at e
  cases q:S[m]? with
  | none=>rw [q]at e; cases e
  | some ob=>
   rw [q]at e
   cases ob with
   | lst xs=>cases e; obtain⟨ys,h1,_⟩:=s.obj m _ q; exact⟨.x (.base (.lst h1)),fun a z=>by cases z; decide⟩
   | frz xs=>
    cases e
    obtain⟨ys,h1,_⟩:=s.obj m _ q
    rcases h1 with ⟨o,h1⟩ | ⟨o,its,k,h1,h2,_⟩
    ·exact⟨.x (.base (.frz h1)),fun a z=>by cases z; decide⟩
    ·exact⟨.x (.kList h1 h2),fun a z=>by cases z; decide⟩
   | dK kvs=>cases e; obtain⟨ys,h1,_⟩:=s.obj m _ q; exact⟨.x (.base (.dK h1)),fun a z=>by cases z; decide⟩
   | dT kvs=>cases e; obtain⟨ys,h1,_⟩:=s.obj m _ q; exact⟨.x (.base (.dT h1)),fun a z=>by cases z; decide⟩
   | dF kvs=>cases e; obtain⟨od,ys,h1,_⟩:=s.obj m _ q; exact⟨.x (.fDict h1),fun a z=>by cases z; decide⟩
   | dG kvs=>cases e; obtain⟨od,ys,h1,_⟩:=s.obj m _ q; exact⟨.fT h1,fun a z=>by cases z; decide⟩
   | ins c fs=>
    cases e
    obtain⟨dx,ys,h1,_⟩:=s.obj m _ q
    obtain⟨f1,f2,f3⟩:=F.ty c (ho c rfl)
    exact⟨.x (.base (.ins h1 f1 f2 F.hn F.tk f3)),fun a z=>nomatch z⟩
 | _=>cases e
theorem ZiB {K:PySem.W.Frag} {cs bs:List String} {t:TyN} {c:SV} {b:Bool} (F:Zlq K n cs bs) (hb:∀a,t= .b a→a∈ZbD) (e:Zf5 cs bs t c=some b):∃cv:V,∃cu:Value,(∀w H v,VR ⟨K,n.cl,n.fn⟩ w H c v→v=cv)∧ClsV cv cu∧PySem.W.kitOne K (t.v n) cu=some b:=by
 unfold Zf5 at e
 split at e
 ·rename_i a b'
  split at e
  ·cases e
   exact⟨.ty b', .type b',fun w H v r=>by simpa [VR]using r, .ty b',kit_ty (F.bb a (hb a rfl) b' ‹_›)⟩
  ·cases e
 ·rename_i d b'
  split at e
  ·cases e
   rename_i h
   exact⟨.ty b', .type b',fun w H v r=>by simpa [VR]using r, .ty b',F.ob d h.1 b' h.2⟩
  ·cases e
 ·rename_i a c'
  split at e
  ·cases e
   exact⟨.ref (n.cl c'), .ref (n.cl c'),fun w H v r=>by simpa [VR]using r, .own _,F.bo a (hb a rfl) c' ‹_›⟩
  ·cases e
 ·rename_i d c'
  split at e
  ·cases e
   rename_i h
   exact⟨.ref (n.cl c'), .ref (n.cl c'),fun w H v r=>by simpa [VR]using r, .own _,F.oo d h.1 c' h.2⟩
  ·cases e
 ·cases e
theorem Zf8 {cs bs:List String} {t:TyN} {c:SV} {b:Bool} (e:Zf5 cs bs t c=some b):∀d,t= .o d→d∈cs:=fun d z=>by
 subst z
 cases c with
 | ty b'=>
  simp only [Zf5]at e
  split at e
  ·rename_i h; exact h.1
  ·cases e
 | cls c'=>
  simp only [Zf5]at e
  split at e
  ·rename_i h; exact h.1
  ·cases e
 | _=>cases e
theorem ZfC {cs bs:List String} {t:TyN}:∀{ts:List SV} {b:Bool},ZcD cs bs t ts=some b→ts≠ []→∀d,t= .o d→d∈cs
 | [],_,_,z=>absurd rfl z
 | c::r,b,e,_=>fun d z=>by
  unfold ZcD at e
  split at e
  ·exact Zf8 ‹_› d z
  ·cases e
theorem Zfa {cs bs:List String} {t:TyN} {w:Wd} {H:Hp} (F:Zlq X.K n cs bs) (hb:∀a,t= .b a→a∈ZbD):∀{ts:List SV} {ys:List V} {b:Bool},VRs (gx X n) w H ts ys→ZcD cs bs t ts=some b→∃us,Paired ClsV ys us∧PySem.W.kitAny X.K (t.v n) us=some b
 | [],ys,b,r,e=>by
  simp only [VRs]at r
  cases e
  rw [r]
  exact⟨[], .nil,kitAny_nil⟩
 | c::ts,ys,b,r,e=>by
  simp only [VRs]at r
  obtain⟨v,vs,rfl,r1,r2⟩:=r
  unfold ZcD at e
  split at e
  ·rename_i b1 b2 e1 e2
   cases e
   obtain⟨cv,cu,h1,h2,h3⟩:=ZiB F hb e1
   obtain⟨us,h4,h5⟩:=Zfa F hb r2 e2
   rw [h1 _ _ _ r1]
   exact⟨cu::us, .cons h2 h4,kitAny_cons h3 (fun z=>by rw [z,Bool.false_or]; exact h5) (fun z=>by rw [z,Bool.true_or])⟩
  ·cases e
theorem Za2.isa {cs bs:List String} (F:Zlq X.K n cs bs):Za2 X n (.builtin "isinstance") (Ze9 cs bs) where
 nx:=fun xs S=>by unfold Ze9; split<;>(try split)<;>(try split)<;>trivial
 ex:=by
  refine⟨_,CallR.or Zf7 ZfB,fun H w S xs vs Q s rs h=> ?_⟩
  unfold Ze9 at h
  split at h
  ·rename_i x t0 ts
   split at h
   ·rename_i t et
    split at h
    ·rename_i b eb
     obtain⟨v,u,rfl,r1,r2⟩:=rs.r2
     obtain⟨p,ys,eu,hp,rt⟩:=r2.t
     obtain⟨ty,hb⟩:=Znq F s r1 et (ZfC eb (List.cons_ne_nil _ _))
     obtain⟨us,h4,h5⟩:=Zfa F hb rt eb
     exact .inr ⟨v,p,ys,t.v n,us,b,by rw [eu],hp,h4,ty,h5,KV.here s h VR.ob⟩
    ·exact h.elim
   ·exact h.elim
  ·split at h
   ·rename_i t et
    split at h
    ·rename_i b eb
     obtain⟨v,u,rfl,r1,r2⟩:=rs.r2
     obtain⟨ty,hb⟩:=Znq F s r1 et (Zf8 eb)
     obtain⟨cv,cu,h1,h2,h3⟩:=ZiB F hb eb
     exact .inl ⟨v,u,t.v n,cu,b,rfl,by rw [h1 _ _ _ r2]; exact h2,ty,h3,KV.here s h VR.ob⟩
    ·exact h.elim
   ·exact h.elim
  ·exact h.elim
end
end MP
namespace MP
open PySem PySem.Spec PyProof.Rows L2
structure RTs (X:Cx) (n:Nm) (xh:Xh) (W:WX) (ifs:List Expr) (m:TM):Prop where
 ex:∃t:TT,PTs X ifs t∧∀(σ:L2.St) (H:Hp) (w:Wd) (S:Zaa) (env:En) (Q:Bool→Hp→Prop),Sim (gx X n) w H S→Fm (gx X n) xh w H env σ→Out (m env S) (KB (gx X n) w H Q) (KX (gx X n) w H fun cls d H'=>W cls d σ H')→t σ H Q
section
variable {X:Cx} {n:Nm} {xh:Xh} {W:WX} {e c:Expr} {ifs:List Expr} {me:EM} {mt:TM} {mg:GM}
theorem RTs.nil:RTs X n xh W [] Zlo:=⟨_,pts_nil,fun σ H w S env Q s f h=>h w H (Wd.Le.refl w) (Zag.refl H) s⟩
theorem RTs.one (h:RT X n xh W c mt):RTs X n xh W [c] mt:=by
 obtain⟨t,p,q⟩:=h.ex
 exact⟨t,pts_one p,q⟩
end
end MP
namespace MP
open PySem PySem.Spec PyProof.Rows L2
section
variable {X:Cx} {n:Nm} {xh:Xh} {W:WX} {gd gc:Bool} {k j:Nat} {f:Addr} {fd:FuncData} {ps:List Str} {m m':List SV→M SV} {dxs:List SV} {dn:Str} {c:String}
theorem Zjh {pins:List (Addr × Obj)} {σ:L2.St} {H:Hp} {s:Shared} {Q:VK} {us:List Value} {vs:List V} {xs:List SV} {w:Wd} {S:Zaa} {kw:List (Str × Value)} (C:Cok X W k gd) (F:Fd gc X.prog X.w X.K X.mg X.base n j f fd ps m) (hj:j+1≤k) (hg:gc=true→gd=true)
  {args:Args} (hb:BindsTo s fd args (ps.zip us)) (I:Inv X pins σ H s) (r:Vals vs us) (sm:Sim (gx X n) w H S) (rs:VRs (gx X n) w H xs vs)
  (h:Out (m xs S) (KV (gx X n) w H Q) (KX (gx X n) w H fun cls d H'=>W cls d σ H')):
  codeAny (model X.prog X.w) X.A.in1 (.call (.ref f) args) (fun r s'=>match r with | .ok (.ret u)=>EP X pins σ Q u s' | .ok _=>False | .error e=>X.xe e s') s:=by
 have hl:vs.length=ps.length:=by
  refine Classical.byContradiction fun z=> ?_
  rw [F.ar xs S (by rw [←rs.len]; exact z)]at h
  exact h
 refine codeAny_mono (F.fn.run X.A.in1 X.stack s H args us vs Q (fun cls d H'=>W cls d σ H') (fun z=>C.gs (hg z)) ((C.room.mono hj).in1) I.env0.in1 hb r ⟨hl,w,S,xs,sm,rs,h⟩) fun r s' hq=> ?_
 cases r with
 | error e=>exact passAt C.tk σ pins H s e s' I hq
 | ok fl=>
  cases fl with
  | ret u=>exact I.after hq
  | next=>exact hq.elim
  | brk=>exact hq.elim
  | cont=>exact hq.elim
theorem Zhv {pins:List (Addr × Obj)} {σ:L2.St} {H:Hp} {s:Shared} {Q:VK} {us:List Value} {vs:List V} {xs:List SV} {w:Wd} {S:Zaa} (C:Cok X W k gd) (F:Fd gc X.prog X.w X.K X.mg X.base n j f fd ps m) (hj:j+1≤k) (hg:gc=true→gd=true)
  (D:Dfl X n fd ps dxs) (I:Inv X pins σ H s) (r:Vals vs us) (sm:Sim (gx X n) w H S) (rs:VRs (gx X n) w H xs vs)
  (h:Out (m (xs++dxs) S) (KV (gx X n) w H Q) (KX (gx X n) w H fun cls d H'=>W cls d σ H')):wpAny (model X.prog X.w) X.A.in1 (call (.ref f) us) (EP X pins σ Q) X.xe s:=by
 obtain⟨dvs,ds,rd,hb,hd⟩:=D.ex
 have rs2:=rs.append (hd w H)
 have r2:=r.append rd
 have hl:(us++ds).length=ps.length:=by
  refine Classical.byContradiction fun z=> ?_
  rw [F.ar (xs++dxs) S (by rw [←rs2.len,r2.length]; exact z)]at h
  exact h
 refine wpAny_call (codeAny_mono (Zjh (kw:=[]) C F hj hg (hb s us I.kIn hl) I r2 sm rs2 h) fun r s' hq=> ?_)
 cases r with
 | error e=>exact hq
 | ok fl=>
  cases fl with
  | ret u=>exact hq
  | next=>exact hq.elim
  | brk=>exact hq.elim
  | cont=>exact hq.elim
structure Zcr (X:Cx) (n:Nm) (k:Nat) (gd:Bool) (dn:Str) (c:String) (m:List SV→M SV):Prop where
 ex:∃(f:Addr) (fd:FuncData) (ps:List Str) (dxs:List SV) (j:Nat) (gc:Bool) (m':List SV→M SV),Meth X.K (n.cl c) dn f∧Fd gc X.prog X.w X.K X.mg X.base n j f fd ps m'∧Dfl X n fd ps dxs∧(∀xs,m xs=m' (xs++dxs))∧j+1≤k∧(gc=true→gd=true)
theorem Zcr.of (hm:Meth X.K (n.cl c) dn f) (F:Fd gc X.prog X.w X.K X.mg X.base n j f fd ps m') (D:Dfl X n fd ps dxs) (e:∀xs,m xs=m' (xs++dxs)) (hj:j+1≤k:=by decide) (hg:gc=true→gd=true:=by decide):Zcr X n k gd dn c m:=⟨f,fd,ps,dxs,j,gc,m',hm,F,D,e,hj,hg⟩
def Zaw (X:Cx) (n:Nm) (k:Nat) (gd:Bool) (dn:Str) (tb:Zap):Prop:=∀p∈tb,Zcr X n k gd dn p.1 p.2
theorem Zaw.nil:Zaw X n k gd dn []:=fun _ h=>nomatch h
theorem Zaw.cons {tb:Zap} (h:Zcr X n k gd dn c m) (t:Zaw X n k gd dn tb):Zaw X n k gd dn ((c,m)::tb):=fun p hp=>by
 rcases Yas.mp hp with e | e
 ·rw [e]; exact h
 ·exact t p e
theorem Zbf {α:Type} {c:String} {v:α}:∀{tb:List (String × α)},tb.lookup c=some v→(c,v)∈tb
 | [],e=>nomatch e
 | (d,u)::tb,e=>by
  rw [Yax]at e
  by_cases h:c=d
  ·subst h
   rw [beq_self_eq_true]at e
   cases e
   exact Yav
  ·rw [beq_eq_false_iff_ne.mpr h]at e
   exact Yau _ (Zbf e)
theorem Zaw.look {tb:Zap} (t:Zaw X n k gd dn tb) (e:tb.lookup c=some m):Zcr X n k gd dn c m:=t _ (Zbf e)
theorem Zcr.run (O:Zcr X n k gd dn c m) (C:Cok X W k gd):∃f,Meth X.K (n.cl c) dn f∧∀{pins:List (Addr × Obj)} {σ:L2.St} {H:Hp} {s:Shared} {Q:VK} {us:List Value} {vs:List V} {xs:List SV} {w:Wd} {S:Zaa},Inv X pins σ H s→Vals vs us→Sim (gx X n) w H S→VRs (gx X n) w H xs vs→
  Out (m xs S) (KV (gx X n) w H Q) (KX (gx X n) w H fun cls d H'=>W cls d σ H')→wpAny (model X.prog X.w) X.A (call (.ref f) us) (EP X pins σ Q) X.xe s∧wpAny (model X.prog X.w) X.A.in1 (call (.ref f) us) (EP X pins σ Q) X.xe s:=by
 obtain⟨f,fd,ps,dxs,j,gc,m',hm,F,D,e,hj,hg⟩:=O.ex
 refine⟨f,hm,fun{pins σ H s Q us vs xs w S} I r sm rs h=> ?_⟩
 rw [e xs]at h
 exact⟨Zef C F (by omega) hg D I r sm rs h,Zhv C F hj hg D I r sm rs h⟩
theorem ZeL {pins:List (Addr × Obj)} {σ:L2.St} {H:Hp} {s:Shared} {w:Wd} {S:Zaa} {x:SV} {v:V} {u:Value} (I:Inv X pins σ H s) (sm:Sim (gx X n) w H S) (r:VR (gx X n) w H x v) (ru:RelV v u) (e:Zb6 S x=some c):
  ∃(a dx:Addr) (fs:List (Str × V)) (ox od:Obj),u= .ref a∧v= .ref a∧H a=some (.ins (n.cl c) dx fs)∧PySem.W.InstAt s.heap a ox (n.cl c) (some od):=by
 cases x with
 | ref i=>
  simp only [Zb6]at e
  split at e
  ·rename_i c' fs' eo
   cases e
   obtain⟨dx,ys,h1,_⟩:=sm.obj i _ eo
   rw [r.r.2]at ru
   obtain⟨mA,O,_⟩:=ins_get I.hok h1
   obtain⟨od,J,_⟩:=O.look
   exact⟨_,dx,ys,_,od,ru,r.r.2,h1,J⟩
  ·cases e
 | _=>cases e
structure Znr (K:PySem.W.Frag) (n:Nm) (cs:List String):Prop where
 isa:Zlq K n cs ["int"]
 nb:∀c∈cs,∀a∈ZbD,PySem.W.notFirst K (n.cl c) (.type a)=true
 no:∀c∈cs,∀d∈cs,PySem.W.notFirst K (n.cl c) (.ref (n.cl d))=true
theorem ZiC {cs:List String} {pins:List (Addr × Obj)} {σ:L2.St} {H:Hp} {s:Shared} {w:Wd} {S:Zaa} {x:SV} {v:V} {u:Value} (F:Znr X.K n cs) (hc:c∈cs) (I:Inv X pins σ H s) (sm:Sim (gx X n) w H S) (r:VR (gx X n) w H x v) (ru:RelV v u) (e:ZiA cs S x=true):
  ∃t:Value,PySem.W.Looks (model X.prog X.w) s.heap (typeOf u) t∧PySem.W.notFirst X.K (n.cl c) t=true:=by
 unfold ZiA at e
 split at e
 ·rename_i a et
  obtain⟨ty,hb⟩:=Znq F.isa sm r et (fun d z=>nomatch z)
  obtain⟨P,z,p,_⟩:=ZdF I ru ty
  exact⟨_,z.ty _ _ I.kIn p,F.nb c hc a (hb a rfl)⟩
 ·rename_i d et
  have hd:d∈cs:=by simpa using e
  obtain⟨ty,hb⟩:=Znq F.isa sm r et (fun d' z=>by cases z; exact hd)
  obtain⟨P,z,p,_⟩:=ZdF I ru ty
  exact⟨_,z.ty _ _ I.kIn p,F.no c hc d hd⟩
 ·cases e
theorem ZfD {pins:List (Addr × Obj)} {σ:L2.St} {Q:VK} {u:Value} {s':Shared} (h:EP X pins σ Q u s'):PySem.W.CmpBack (EP X pins σ Q) u s':=by
 obtain⟨v,H',I,r,q⟩:=h
 cases u with
 | notImplemented=>cases v<;>first | (obtain⟨_,z⟩:=r; cases z) | cases r
 | _=>exact⟨v,H',I,r,q⟩
theorem R2w.own {op:CmpOp} {tb:Zap} {cs:List String} (C:Cok X W k gd) (hop:∀a b,compareOp op a b=richCompare op a b) (T:Zaw X n k gd (cmpInfo op).2.1 tb) (F:Znr X.K n cs) (hcs:∀p∈tb,p.1∈cs):R2w X n W (compareOp op) (ownC tb cs):=by
 intro pins s σ H x y v u w S a b Q I rx ry sm ra rb h
 unfold ownC at h
 cases q:Zb7 tb S a with
 | none=>rw [q]at h; exact h.elim
 | some g=>
  rw [q]at h
  simp only at h
  by_cases hk:ZiA cs S b=true
  ·rw [if_pos hk]at h
   unfold Zb7 at q
   obtain⟨c,q1,q2⟩:=YaF.mp q
   obtain⟨p,dx,fs,ox,od,rfl,rfl,ha,J⟩:=ZeL I sm ra rx q1
   obtain⟨f,hm,run⟩:=(T.look q2).run C
   obtain⟨t,L,nf⟩:=ZiC F (hcs _ (Zbf q2)) I sm rb ry hk
   obtain⟨mm,hF⟩:=I.fr
   rw [hop]
   exact PySem.W.cmp_K C.room.units0 hF I.ok.mod.kin J L nf hm.at_ hm.fn (thn (run I (.cons rx (.cons ry .nil)) sm (VRs.cons ra (VRs.one rb)) h).1 fun _ _ z=>ZfD z)
  ·rw [if_neg hk]at h; exact h.elim
end
end MP
namespace MP
open PySem PySem.Spec PyProof.Rows L2
section
variable {X:Cx} {n:Nm} {xh:Xh} {W:WX} {gd gc:Bool} {k j:Nat} {f:Addr} {fd:FuncData} {ps:List Str} {m m':List SV→M SV} {dxs:List SV} {dn:Str} {c:String} {tb:Zap} {o e:Expr} {es:List Expr} {mo me:EM} {mr:AM} {pos apos:Pos} {pl:Sem Bool}
def ZlU (K:PySem.W.Frag) (n:Nm) (tb:Zap):Prop:=∀p∈tb,Cls K (n.cl p.1)
theorem Zf9 {w:Wd} {H:Hp} {S:Zaa} {i:Nat} {fs:List (String × SV)} (sm:Sim (gx X n) w H S) (e:S[i]? =some (.ins c fs)):∃dx ys,H (w.at_ i)=some (.ins (n.cl c) dx ys)∧FR (gx X n) w H fs ys:=sm.obj i _ e
def methT (X:Cx) (n:Nm) (xh:Xh) (W:WX) (mm:EM):TE:=fun σ H Q=>∃w S env,Sim (gx X n) w H S∧Fm (gx X n) xh w H env σ∧Out (mm env S) (KV (gx X n) w H Q) (KX (gx X n) w H fun cls d H'=>W cls d σ H')
theorem ZlV {mn:String} {g:List SV→M SV} {w:Wd} {H:Hp} {S:Zaa} {x:SV} {v:V} {u:Value} (C:Cok X W k gd) (T:Zaw X n k gd (Str.ofString mn) tb) (TC:ZlU X.K n tb) (sm:Sim (gx X n) w H S) (r:VR (gx X n) w H x v) (ru:RelV v u) (e:ZcT tb mn S x=some g):
  ∃(a dx:Addr) (ys:List (Str × V)) (c:String),u= .ref a∧v= .ref a∧H a=some (.ins (n.cl c) dx ys)∧ys.lookup (Str.ofString mn)=none∧Zcr X n k gd (Str.ofString mn) c g∧Cls X.K (n.cl c):=by
 unfold ZcT at e
 cases x with
 | ref i=>
  simp only at e
  split at e
  ·rename_i c fs eo
   split at e
   ·rename_i hl
    obtain⟨dx,ys,h1,h2⟩:=Zf9 sm eo
    have hv:=r.r.2
    subst hv
    exact⟨_,dx,ys,c,ru,rfl,h1,h2.none hl,T.look e,TC _ (Zbf e)⟩
   ·cases e
  ·cases e
 | _=>cases e
theorem RE.meth {mn:String} (C:Cok X W k gd) (T:Zaw X n k gd (Str.ofString mn) tb) (TC:ZlU X.K n tb) (ho:RE X n xh W o mo) (ha:RA X n xh W (e::es) mr)
    (hst:starEach (e::es) X.env=(false,eval e X.env)::starEach es X.env:=by rfl) (hpl:(backTo pos (starEach es X.env)).any (·.1)=false:=by rfl)
    (ht:eval (.Call (.Attribute o (Str.ofString mn) apos) (e::es) [] pos) X.env=(do
      let ov←eval o X.env
      standAt apos.atName
      let (f,first)←holding [ov] (getMethod ov (Str.ofString mn) pl)
      callWith pos f first (backTo pos (starEach (e::es) X.env)) (backToKw pos (keywordEach [] X.env))):=by rfl):RE X n xh W (.Call (.Attribute o (Str.ofString mn) apos) (e::es) [] pos) (Zf6 mn tb mo mr):=by
  refine⟨methT X n xh W (Zf6 mn tb mo mr),⟨fun pins s σ H Q I ⟨w,S,env,sm,fm,h⟩=> ?_⟩,fun σ H w S env Q s fm h=>⟨w,S,env,s,fm,h⟩⟩
  obtain⟨to,po,co⟩:=ho.ex
  obtain⟨ta,pa,ca⟩:=ha.ex
  have q0:=co σ H w S env (fun v H1=>∃w1 S1 x g,w.Le w1∧Zag H H1∧Sim (gx X n) w1 H1 S1∧VR (gx X n) w1 H1 x v∧ZcT tb mn S1 x=some g∧Out ((mr env S1).bind fun xs S2=>g (x::xs) S2) (KV (gx X n) w1 H1 Q) (KX (gx X n) w1 H1 fun cls d H'=>W cls d σ H')) sm fm
    ((Out.bind h).imp (fun x S1 h1 w1 H1 v l1 k1 s1 r1=>by
      cases q:ZcT tb mn S1 x with
      | none=>rw [q]at h1; exact h1.elim
      | some g=>
        rw [q]at h1
        exact⟨w1,S1,x,g,l1,k1,s1,r1,q,h1.imp (fun _ _ z=>z.mono l1 k1) fun _ _ z=>z.mono l1 k1⟩) fun _ _ z=>z)
  refine PySem.W.methodCall_KW (pl:=pl) (thn (po.run pins s σ H _ I q0) fun u s1 ⟨v,H1,I1,ru,w1,S1,x,g,l1,k1,s1',r1,eg,h1⟩=> ?_) ht
  obtain⟨a,dx,ys,c,rfl,rfl,h2,h3,O,cl⟩:=ZlV C T TC s1' r1 ru eg
  obtain⟨f,hm,run⟩:=O.run C
  refine getmeth_ok I1 h2 cl hm h3 ?_
  have q1:=ca σ H1 w1 S1 env (fun vs H2=>∃w2 S2 xs,Sim (gx X n) w2 H2 S2∧VR (gx X n) w2 H2 x (.ref a)∧VRs (gx X n) w2 H2 xs vs∧Out (g (x::xs) S2) (KV (gx X n) w2 H2 Q) (KX (gx X n) w2 H2 fun cls d H'=>W cls d σ H')) s1' (fm.mono l1 k1)
    ((Out.bind h1).imp (fun xs S2 h4 w2 H2 vs l2 k2 s2 r2=>⟨w2,S2,xs,s2,r1.mono l2 k2,r2,h4.imp (fun _ _ z=>z.mono l2 k2) fun _ _ z=>z.mono l2 k2⟩) fun _ _ z=>z)
  exact PySem.W.callWith_K (first:=[.ref a]) (h₀:=X.base) I1.ok.mod.kin hm.kp (thn (pa.run pos pins s1 σ H1 _ I1 q1) fun us s2 ⟨vs,H2,I2,rv,w2,S2,xs,sm2,rx,rs,h4⟩=>⟨I2.kIn,(run I2 (us:= .ref a::us) (vs:= .ref a::vs) (.cons rfl rv) sm2 (VRs.cons rx rs) h4).1⟩) hst hpl
structure ZnV (X:Cx) (n:Nm) (k:Nat) (gd:Bool) (fn:Str) (c:String) (m:List SV→M SV):Prop where
 ex:∃(p g:Addr) (fd:FuncData) (ps:List Str) (j:Nat) (gc:Bool),PropOf X.K (n.cl c) fn p g∧Cls X.K (n.cl c)∧Fd gc X.prog X.w X.K X.mg X.base n j g fd ps m∧Dfl X n fd ps []∧j+1≤k∧(gc=true→gd=true)
def ZcG (X:Cx) (n:Nm) (k:Nat) (gd:Bool) (fn:Str) (tb:Zap):Prop:=∀p∈tb,ZnV X n k gd fn p.1 p.2
theorem ZcG.nil {fn:Str}:ZcG X n k gd fn []:=fun _ h=>nomatch h
theorem ZcG.cons {fn:Str} (h:ZnV X n k gd fn c m) (t:ZcG X n k gd fn tb):ZcG X n k gd fn ((c,m)::tb):=fun p hp=>by
 rcases Yas.mp hp with e | e
 ·rw [e]; exact h
 ·exact t p e
end
end MP
namespace MP
open PySem PySem.Spec PyProof.Rows L2
section
variable {X:Cx} {n:Nm} {xh:Xh} {W:WX} {gd gc:Bool} {k j:Nat} {f:Addr} {fd:FuncData} {ps:List Str} {m m':List SV→M SV} {dxs:List SV} {dn:Str} {c:String} {tb:Zap} {o e a b:Expr} {es:List Expr} {mo me ma mb:EM} {mt:TM} {ms:SM} {mr:AM} {pos apos p:Pos} {pl:Sem Bool}
def sCR (X:Cx) (n:Nm) (m:List SV→M SV):List V→Hp→VK→Prop:=fun vs H Q=>∃w S xs,Sim (gx X n) w H S∧VRs (gx X n) w H xs vs∧Out (m xs S) (KV (gx X n) w H Q) fun _ _=>False
def ZlW (K:PySem.W.Frag):Prop:=∃o,K.lookup sysModules=some o∧(o.cls== .type "list")=false
theorem Za2.repr {dk:Bool} (hg:X.A.guards=some []) (hu:X.A.units+100<cLine) (hs:dk=true→ZlW X.K):Za2 X n (.builtin "repr") (Zeh dk) where
 nx:=fun xs S=>by unfold Zeh; split<;>(try split)<;>(try split)<;>trivial
 ex:=by
  refine⟨sCR X n (Zeh dk),fun pins s σ H xs us Q I rv ⟨w,S,ys,sm,rs,h⟩=> ?_,fun H w S xs vs Q s rs h=>⟨w,S,xs,s,rs,h⟩⟩
  unfold Zeh at h
  split at h
  ·rename_i x
   split at h
   ·rename_i d ed
    split at h
    ·rename_i c
     simp only [YaK,decide_eq_true_eq]at c
     obtain⟨⟨⟨c1,c2⟩,c3⟩,c4⟩:=c
     simp only [VRs]at rs
     obtain⟨v,t,rfl,r1,rfl⟩:=rs
     cases rv with
     | cons ru rn=>
      cases rn
      obtain⟨as,rd,hn⟩:=ZaW I sm _ _ _ _ _ ed r1 ru
      have q:Q (.str d.shown) H:=KV.here sm h VR.os
      have fin:∀h' t u,(∀b o,s.heap.get? b=some o→h'.get? b=some o)→EP X pins σ Q (.str d.shown u) {s with heap:=h',toks:=t}:=fun h' t u kk=>⟨.str d.shown,H,I.kept kk,⟨u,rfl⟩,q⟩
      have nsys:d.hasDict=true→sysModules∉as:=fun hd hm=>by
       have hk:dk=true:=by
        rw [hd]at c4
        simpa using c4
       obtain⟨o,ho,hc⟩:=hs hk
       rcases hn _ hm with ⟨zs,z⟩ | z
       ·obtain⟨its,rv,⟨o',nn,h1,h2,h3,h4⟩,_⟩:=I.list z
        rw [I.kIn _ _ ho]at h1
        cases h1
        rw [h2]at hc
        simp at hc
       ·simp at z
      cases rd with
      | none=>exact PySem.P.repr_of_none (fin _ _ _ fun _ _ e=>e)
      | bool b=>exact PySem.P.repr_of_bool (fin _ _ _ fun _ _ e=>e)
      | int i t=>
       have c1:i.natAbs.log2<1920:=by simpa [PyData.showable]using c1
       exact PySem.P.repr_of_int c1 (fin _ _ _ fun _ _ e=>e)
      | str z t=>exact PySem.P.repr_of_str (fin _ _ _ fun _ _ e=>e) c2
      | list h1 h2 h3 h4=>exact repr_of_reads' (.list h1 h2 h3 h4) c1 nsys hg (by omega) (fun _ _ e=>e) (fun h' u tk kk=>fin h' tk u kk) c2
      | tuple h1 h2 h3 h4=>exact repr_of_reads' (.tuple h1 h2 h3 h4) c1 nsys hg (by omega) (fun _ _ e=>e) (fun h' u tk kk=>fin h' tk u kk) c2
      | dict h1 h2 h3 h4 h5=>exact repr_of_reads' (.dict h1 h2 h3 h4 h5) c1 nsys hg (by omega) (fun _ _ e=>e) (fun h' u tk kk=>fin h' tk u kk) c2
    ·exact h.elim
   ·exact h.elim
  ·exact h.elim
end
end MP
namespace MP
open PySem PySem.Spec PyProof.Rows L2
inductive Pt where
 | glo (x:Str) | meth (c m:Str) | prop (c m:Str) | setr (c m:Str) | cm (c m:Str)
def Zhw (K:PySem.W.Frag) (a:Addr) (t:String) (i:Nat):Addr:=match (PySem.W.recIn K a t).bind fun l=>l[i]? with
 | some (.ref g)=>g
 | _=>0
def Pt.ad (K:PySem.W.Frag):Pt→Addr
 | .glo x=>He.ga K x
 | .meth c m=>He.ma K (He.ga K c) m
 | .prop c m=>Zhw K (He.ma K (He.ga K c) m) "property" 0
 | .setr c m=>Zhw K (He.ma K (He.ga K c) m) "property" 1
 | .cm c m=>Zhw K (He.ma K (He.ga K c) m) "classmethod" 0
structure DfM where
 at_:Pt
 name:Str
 qual:Str
 st:Stmt
 dfl:List He.Dv:=[]
 kwd:List (Str × He.Dv):=[]
 clo:List Str:=[]
abbrev FvM:Type:=Option (Str × Str × Arguments × FuncBody × Scope × Addr × List Str × Addr)
def ZiD (K:PySem.W.Frag) (a:Addr):FvM:=match K.lookup a with
 | some ⟨_,_, .func fd,_⟩=>some (fd.name,fd.qualname,fd.params,fd.body,fd.scope,fd.globals,fd.closure.map (·.1),fd.builtins)
 | _=>none
def DfM.val (d:DfM):FvM:=some (d.name,d.qual,defArgs d.st, .stmts (defBody d.st),defScope d.st,mainGlobals,d.clo,builtinsNs)
def DfM.dvs (K:PySem.W.Frag) (d:DfM):List V:=d.dfl.map (He.Dv.v K)
def DfM.kws (K:PySem.W.Frag) (d:DfM):List (Str × V):=d.kwd.map fun q=>(q.1,q.2.v K)
def DfM.okB (K:PySem.W.Frag) (d:DfM):Bool:=PySem.W.keepIn K (.ref (d.at_.ad K))&&(match K.lookup (d.at_.ad K)with
 | some ⟨_,_, .func fd,_⟩=>PySem.W.codeIn K fd.code d.qual&&He.dflB K fd.defaults (d.dvs K)&&He.kwdB K fd.kwdefaults (d.kws K)
 | _=>false)
abbrev FaM:=PySem.W.Frag→Bool
abbrev AlM:Type:=Bool × List FvM
def Zox (fa:List FaM) (fn:List DfM) (K:PySem.W.Frag):AlM:=((fa.all fun f=>f K)&&fn.all fun d=>d.okB K,fn.map fun d=>ZiD K (d.at_.ad K))
def Zoy (fn:List DfM):AlM:=(true,fn.map DfM.val)
def Za6 (fa:List FaM) (fn:List DfM) (K:PySem.W.Frag):Prop:=Zox fa fn K=Zoy fn
section
variable {fa:List FaM} {fn:List DfM} {K:PySem.W.Frag}
end
def nmOf (K:PySem.W.Frag):Nm:=⟨fun c=>He.ga K (Str.ofString c),fun f=>He.ga K (Str.ofString f)⟩
def Zhx (c m:Str):FaM:=fun K=>decide (PySem.W.findIn K (.ref (He.ga K c)) m=some (some (.ref (He.ma K (He.ga K c) m))))&&decide (PySem.W.specialIn K (.ref (He.ma K (He.ga K c) m)) "__get__"=some (some (.builtin "property.__get__")))&&
 decide (PySem.W.takesIn K (.ref (He.ma K (He.ga K c) m))=some true)&&(match PySem.W.recIn K (He.ma K (He.ga K c) m) "property" with
  | some (.ref g::_)=>true
  | _=>false)
def Zhy (cs:List String) (bs:List String):FaM:=fun K=>
 (cs.all fun d=>bs.all fun b=>decide (PySem.W.kitOne K (.ref ((nmOf K).cl d)) (.type b)=some false))&&(ZbD.all fun a=>cs.all fun c=>decide (PySem.W.kitOne K (.type a) (.ref ((nmOf K).cl c))=some false))&&
 (cs.all fun d=>cs.all fun c=>decide (PySem.W.kitOne K (.ref ((nmOf K).cl d)) (.ref ((nmOf K).cl c))=some (d==c)))&&
 (cs.all fun d=>(He.Fa.cls (Str.ofString d)).ok K&&decide (PySem.W.findIn K (.ref ((nmOf K).cl d)) "__class__"=some (some (.builtin "object.__class__")))&&decide (PySem.W.mroIn K ((nmOf K).cl d) (.type "object")=some true))&&
 decide (PySem.W.specialIn K (.builtin "object.__class__") "__get__"=some (some (.builtin "getset_descriptor.__get__")))&&decide (PySem.W.takesIn K (.builtin "object.__class__")=some true)
def Zji (cs:List String):FaM:=fun K=>Zhy cs ["int"] K&&(cs.all fun c=>ZbD.all fun a=>PySem.W.notFirst K ((nmOf K).cl c) (.type a))&&(cs.all fun c=>cs.all fun d=>PySem.W.notFirst K ((nmOf K).cl c) (.ref ((nmOf K).cl d)))
def neB (cs:List String):FaM:=fun K=>cs.all fun c=>decide (PySem.W.findIn K (.ref ((nmOf K).cl c)) "__ne__"=some (some (.builtin "object.__ne__")))
def ZnW:FaM:=fun K=>match K.lookup sysModules with
 | some o=> !(o.cls== .type "list")
 | none=>false
def Zga (cs:List String) (f:String):FaM:=fun K=>cs.all fun c=>(He.Fa.cls (Str.ofString c)).ok K&&(He.Fa.noat (Str.ofString c) (Str.ofString f)).ok K
def Zhl (K:PySem.W.Frag) (n:Nm) (fd:FuncData) (ps:List Str) (dxs:List SV):Prop:=∃(dvs:List V) (ds:List Value),Vals dvs ds∧Binds K fd ps ds∧∀w H,VRs ⟨K,n.cl,n.fn⟩ w H dxs dvs
theorem Zhl.to {X:Cx} {n:Nm} {fd:FuncData} {ps:List Str} {dxs:List SV} (h:Zhl X.K n fd ps dxs):Dfl X n fd ps dxs:=⟨h⟩
theorem Zhl.all {K:PySem.W.Frag} {n:Nm} {fd:FuncData} {ps:List Str} (h:Binds K fd ps []):Zhl K n fd ps []:=⟨[],[], .nil,h,fun _ _=>VRs.nil⟩
end MP
namespace MP
open PySem PySem.Spec PyProof.Rows L2
section
variable {X:Cx} {n:Nm} {xh:Xh} {W:WX} {e:Expr} {pos:Pos}
end
def clB:Stmt→List Stmt
 | .ClassDef (body:=b) .. =>b
 | _=>[]
section
variable {X:Cx} {n:Nm} {xh:Xh} {W:WX} {a b c:Expr} {mr:AM} {pos px py pz pt pt2:Pos} {x y z:Str} {kt k2:Nat}
theorem VRs.r3 {g:G} {w:Wd} {H:Hp} {x y z:SV} {vs:List V} (h:VRs g w H [x,y,z] vs):∃u v t,vs=[u,v,t]∧VR g w H x u∧VR g w H y v∧VR g w H z t:=by
 simp only [VRs]at h
 obtain⟨u,_,rfl,h1,v,_,rfl,h2,t,_,rfl,h3,rfl⟩:=h
 exact⟨u,v,t,rfl,h1,h2,h3⟩
end
end MP
namespace PySem
namespace MPX
open PySem.W PySem.Calls PyProof.Rows
section
variable {prog:Program} {w:World} {A:Around} {E:Value→Shared→Prop} {R:Result→Shared→Prop} {hp:Heap} {g:Array GenState} {d:Drawn} {t:Nat} {os:OsState} {B newId initId:String} {bmB:List Value}
open Builtin Builtin.ObjectAttr
end
end MPX
end PySem
namespace PySem
namespace MPX
open PySem.W PySem.Calls PyProof.Rows
section
variable {P:Program} {w:World} {A:Around} {R:Result→Shared→Prop} {K:W.Frag} {mg:Str→Option Value} {base:Heap} {C fI e t0:Addr} {name qual:Str} {params:Arguments} {body:List Stmt} {scope:Scope} {file f v:Str} {s:Shared} {u:Value}
end
end MPX
end PySem
namespace MP
open PySem PySem.Spec PyProof.Rows L2
section
variable {X:Cx} {body:List Stmt} {h₀:ExceptHandler} {hds:List ExceptHandler} {l:List ClR} {pos:Pos} {tb:WX→TS} {Wout:WX}
end
section
variable {X:Cx} {n:Nm} {W:WX} {a dd:Addr} {oe:Obj} {pn:List (Addr × Obj)} {fs:List (String × SV)} {i:Nat} {c f:String} {x:Str} {p p1 pos:Pos}
end
section
open PySem.MPX
variable {X:Cx} {e:Expr} {ta:TA} {x f v:Str} {C fI:Addr} {name qual:Str} {params:Arguments} {body:List Stmt} {scope:Scope} {file:Str} {p pos:Pos} {k:Nat}
end
end MP
namespace MP
open PySem PySem.Spec PyProof.Rows L2
def Zjj (c f:Str) (B newId initId:String) (bmB:List Value) (file:Str):FaM:=fun K=>
 PySem.W.excInitIn K (He.ga K c) bmB newId&&PySem.W.excOver K (He.ga K c) bmB&&decide (PySem.W.ks_superIn K (He.ga K c) (He.ga K c) "__init__"=some (some (.builtin initId)))&&
 decide (PySem.W.subIn K (.ref (He.ga K c)) (.type B)=some true)&&((PySem.W.clsIn K (He.ga K c)).any fun cd=>cd.hasDict)&&decide (PySem.W.findIn K (.ref (He.ga K c)) "__init__"=some (some (.ref (He.ma K (He.ga K c) "__init__"))))&&
 PySem.W.isFn K (.ref (He.ma K (He.ga K c) "__init__"))&&decide (PySem.W.findIn K (.ref (He.ga K c)) "__setattr__"=some (some (.builtin "object.__setattr__")))&&decide (PySem.W.findIn K (.ref (He.ga K c)) f=some none)&&
 decide (PySem.W.mroIn K (He.ga K c) (.ref (He.ga K c))=some true)&&decide (PySem.W.nsIn K cStatics "thirdparty.any"=some none)&&decide (PySem.W.subIn K (.ref (He.ga K c)) (.type "BaseException")=some true)&&
 decide (PySem.W.typeIn K (.ref (He.ga K c))=some (.type "type"))&&PySem.W.keepIn K (.ref (He.ga K c))&&(match K.lookup (He.ma K (He.ga K c) "__init__")with
  | some ⟨_,_, .func fd,_⟩=>(match fd.code with
   | .ref cda=>(match K.lookup cda with
    | some ⟨_,_, .fields vs,_⟩=>(match (vs:Array Value)[2]? with
     | some (Value.str z _)=>z==file
     | _=>false)
    | _=>false)
   | _=>false)&&(match fd.defaults with
   | .none=>true
   | _=>false)&&(match fd.closure with
   | [(_,cc)]=>(match K.lookup cc with
    | some ⟨_,_, .cell (some (.ref D)),_⟩=>D==He.ga K c
    | _=>false)
   | _=>false)
  | _=>false)
end MP
namespace MP
open PySem PySem.Spec PyProof.Rows L2
def Zns {α:Type}:List Addr→Nat→List Addr→List Addr→(Nat→List Addr→List Addr→α)→α
 | [],m,fr,al,k=>k m fr al
 | a::r,m,fr,al,k=>HandSHeadRun.frNat a fun a=>match Nat.testBit m a with
  | true=>Zns r m fr al k
  | false=>HandSHeadRun.frNat (Nat.lor m (Nat.shiftLeft 1 a)) fun m'=>Zns r m' (a::fr) (a::al) k
def Zoz (g:Addr→Option Obj):Nat→Nat→List Addr→List Addr→List Addr
 | 0,_,_,al=>al
 | n+1,m,fr,al=>Zns (fr.flatMap fun a=>match g a with
  | some o=>He.refsD o
  | none=>[]) m [] al fun m' fr' al'=>Zoz g n m' fr' al'
def asB (g:Addr→Option Obj) (n:Nat):List Addr:=Zns [mainGlobals,cStatics,sysModules] 0 [] [] fun m fr al=>(mainGlobals::(Zoz g n m fr al).reverse)
def ZlX (g:Addr→Option Obj) (K:PySem.W.Frag):Bool:=(Zcp K).all fun t=>match g t.2.1 with
 | some o=>He.emptyTab o
 | none=>false
theorem Zhz {g:Addr→Option Obj} {K:PySem.W.Frag} (h:ZlX g K=true):∀t∈Zcp K,g t.2.1=some {cls:= .none,data:= .fields #[]}:=fun t ht=>by
 have z:=YaL.mp h t ht
 cases q:g t.2.1 with
 | none=>rw [q]at z; cases z
 | some o=>
  rw [q]at z
  rw [He.emptyTab_eq z]
abbrev AlB:Type:=AlM × Bool
def ZnX (fa:List FaM) (fn:List DfM) (g:Addr→Option Obj) (K:PySem.W.Frag):AlB:=(Zox fa fn K,ZlX g K)
def Zjk (n:Nat) (fa:List FaM) (fn:List DfM) (g:Addr→Option Obj):AlB:=ZnX fa fn g (He.frT g (asB g n))
def ZlY (n:Nat) (fa:List FaM) (fn:List DfM):PySem.W.Hook where
 α:=AlB
 obs:=fun s=>Zjk n fa fn s.heap.get?
 val:=fun _=>(Zoy fn,true)
 says:=fun _ h=>∃K:PySem.W.Frag,K.In h∧Za6 fa fn K∧∀t∈Zcp K,h.get? t.2.1=some {cls:= .none,data:= .fields #[]}
 of:=fun _ _ e=>⟨_,He.frT_in,congrArg (fun z:AlB=>z.1) e,Zhz (congrArg (fun z:AlB=>z.2) e)⟩
 keeps:=fun _ _ _ ⟨K,hK,c,t⟩ k=>⟨K,PySem.W.Frag.In.keeps hK k,c,fun p hp=>k _ _ (t p hp)⟩
end MP
namespace MP
open PySem PySem.Spec PyProof.Rows L2 PySem.W HandSHeadRun
section
variable (st:SharedT→Thread→Option (SharedT × Thread)) (n0:Nat) (ann:Option Value)
def goK:Nat→SharedT→Thread→Option (SharedT × Thread)
 | 0,s,t=>some (s,t)
 | m+1,s,t=>match through t with
  | true=>none
  | false=>match stepOk n0 ann t with
   | false=>none
   | true=>match st s t with
    | some (s',t')=>frS s' fun s'=>goK m s' t'
    | none=>none
end
theorem Zgb {st:SharedT→Thread→Option (SharedT × Thread)} {n0:Nat} {ann:Option Value} {b:Nat}:∀{a:Nat} {s s':SharedT} {t t':Thread},goK st n0 ann a s t=some (s',t')→goF st n0 ann (a+b) s t=goF st n0 ann b s' t'
 | 0,s,s',t,t',h=>by
  cases h
  rw [YaM]
 | a+1,s,s',t,t',h=>by
  have h1:(match through t with
   | true=>none
   | false=>match stepOk n0 ann t with
    | false=>none
    | true=>match st s t with
     | some (s',t')=>frS s' fun s'=>goK st n0 ann a s' t'
     | none=>none)=some (s',t'):=h
  rw [show a+1+b=(a+b)+1 by omega]
  show (match through t with
   | true=>some s
   | false=>match stepOk n0 ann t with
    | false=>none
    | true=>match st s t with
     | some (s',t')=>frS s' fun s'=>goF st n0 ann (a+b) s' t'
     | none=>none)=_
  cases ht:through t with
  | true=>rw [ht]at h1; cases h1
  | false=>
   rw [ht]at h1
   cases hk:stepOk n0 ann t with
   | false=>rw [hk]at h1; cases h1
   | true=>
    rw [hk]at h1
    cases hs:st s t with
    | none=>rw [hs]at h1; cases h1
    | some r=>
     obtain⟨s2,t2⟩:=r
     rw [hs]at h1
     have h3:(frS s2 fun s'=>goK st n0 ann a s' t2)=some (s',t'):=h1
     rw [frS_eq]at h3
     show (frS s2 fun s'=>goF st n0 ann (a+b) s' t2)=_
     rw [frS_eq]
     exact Zgb h3
def ZnY (st:SharedT→Thread→Option (SharedT × Thread)) (a:Nat) (p:Program) (w:World) (os:OsState):Option (Nat × SharedT × Thread):=match putAll (boot_heap w.params).objs.toList .nil 0 with
 | some (t,n)=>frNat n fun n0=>match goK st n0 (bootAnn w) a (bootT w os (t,n0)) (topStub p)with
  | some (s,t)=>some (n0,s,t)
  | none=>none
 | none=>none
theorem ZhA {st:SharedT→Thread→Option (SharedT × Thread)} {a b:Nat} {p:Program} {w:World} {os:OsState} {n0:Nat} {s:SharedT} {t:Thread} (h:ZnY st a p w os=some (n0,s,t)):endF st (a+b) p w os=goF st n0 (bootAnn w) b s t:=by
 unfold ZnY at h
 unfold endF
 cases e:putAll (boot_heap w.params).objs.toList .nil 0 with
 | none=>rw [e]at h; cases h
 | some r=>
  obtain⟨x,n⟩:=r
  rw [e]at h
  have h1:(frNat n fun n0=>match goK st n0 (bootAnn w) a (bootT w os (x,n0)) (topStub p)with
   | some (s,t)=>some (n0,s,t)
   | none=>none)=some (n0,s,t):=h
  show (frNat n fun n0=>goF st n0 (bootAnn w) (a+b) (bootT w os (x,n0)) (topStub p))=_
  rw [frNat_eq]at h1⊢
  cases g:goK st n (bootAnn w) a (bootT w os (x,n)) (topStub p)with
  | none=>rw [g]at h1; cases h1
  | some y=>
   obtain⟨s1,t1⟩:=y
   rw [g]at h1
   cases h1
   exact Zgb g
abbrev sI (i:Int) (t:Nat):Value:= .int i t
abbrev sS (s:String) (t:Nat):Value:= .str (Str.ofString s) t
abbrev sB (b:Bool):Value:= .bool b
abbrev sN:Value:= .none
abbrev sY (s:String):Value:= .type s
abbrev sU (s:String):Value:= .builtin s
abbrev sR (a:Nat):Value:= .ref a
abbrev eY (P:Params) (s:String) (t:Nat) (v:Value):DictEntry:=⟨PyData.keyHash P (Str.ofString s), .str (Str.ofString s) t,v⟩
abbrev oT (xs:List Value):Obj:={cls:= .type "tuple",data:= .seq xs.toArray}
abbrev oF (xs:List Value):Obj:={cls:= .none,data:= .fields xs.toArray}
abbrev oC (xs:List Value):Obj:={cls:= .type "code",data:= .fields xs.toArray}
abbrev oR (xs:List (Option Value)):Obj:={cls:= .type "frame",slots:=xs.toArray}
abbrev oD (c:Value) (xs:List DictEntry) (n:Nat):Obj:={cls:=c,data:= .dict xs.toArray n}
def ZlZ:Stmt→Arguments
 | .FunctionDef _ a _ _ _ _ _ _ _ _=>a
 | _=>default
def Zei:Stmt→List Stmt
 | .FunctionDef _ _ b _ _ _ _ _ _ _=>b
 | .ClassDef _ _ _ b _ _ _ _ _ _ _=>b
 | _=>[]
def Zjl:Stmt→Scope
 | .FunctionDef _ _ _ _ _ _ sc _ _ _=>sc
 | _=>default
abbrev fU (st:Stmt) (n q:String) (g:Nat) (cl:List (Str × Nat)) (d k doc m:Value) (an:Option Nat) (c ct:Value) (b:Nat):Data:= .func {name:=Str.ofString n,qualname:=Str.ofString q,params:=ZlZ st,body:= .stmts (Zei st),scope:=Zjl st,globals:=g,closure:=cl,defaults:=d,kwdefaults:=k,doc:=doc,pyModule:=m,annotations:=an,code:=c,closureTuple:=ct,builtins:=b}
end MP
namespace MP
open PySem PySem.Spec PyProof.Rows L2
end MP
open MP.RA renaming cons → Yb1, nil → Yb8
open MP.Out renaming bind → Yb5, stm → YcP
open MP.RE renaming int → Yb7, op → Ycu, tup → YcV, non → YcW, lst → Yc9
open MP.Zag renaming refl → Yb9, new → Ycs, upd → Yc0
open MP.RSs renaming cons → Ycc, one → Yce, nil → Yct
open MP.KV renaming here → Ycd, lst → YcU, mono → Yc1
open MP.VRs renaming cons → Ycg, nil → YcA, one → YcH
open MP.Zaw renaming cons → Yck, nil → Ycp
open MP.RS renaming ret → Ycn
open MP.XhR renaming no → Ycq
open MP.Zcr renaming of → Ycz
open MP.VR renaming ob → YcB
open MP.R2w renaming own → YcC
open MP.Zce renaming mono → YcF
open MP.Fd renaming of → YcS
open MP.RGs renaming cons → YcX
open MP.Za2 renaming isa → Yc3
open MP.Zao renaming mod → Yc7, eq → Ydb
namespace MPL
open PySem PySem.Spec PyProof.Rows L2 MP
def top (i:Nat):Stmt:=PySem.Challenge.pw_gaplesskeys_k02_ranges_compared.main.body.getD i (.Pass ⟨0,0,0,0⟩)
def mem (i j:Nat):Stmt:=(clB (top i)).getD j (.Pass ⟨0,0,0,0⟩)
def d0:DfM:=⟨.glo "_law_stream","_law_stream","_law_stream",(top 12),[],[],[]⟩
def d1:DfM:=⟨.glo "_law_draw","_law_draw","_law_draw",(top 13),[],[],[]⟩
def d2:DfM:=⟨.glo "_law_choose","_law_choose","_law_choose",(top 14),[],[],[]⟩
def d3:DfM:=⟨.glo "_law_drawn","_law_drawn","_law_drawn",(top 15),[],[],[]⟩
def d4:DfM:=⟨.glo "is_between","is_between","is_between",(top 3),[],[],[]⟩
def d5:DfM:=⟨.glo "is_limit","is_limit","is_limit",(top 9),[],[],[]⟩
def d6:DfM:=⟨.meth "InvalidRange" "__init__","__init__","InvalidRange.__init__",(mem 6 0),[],[],["__class__"]⟩
def d7:DfM:=⟨.meth "Range" "__init__","__init__","Range.__init__",(mem 10 0),[],[],[]⟩
def d8:DfM:=⟨.glo "_law_key","_law_key","_law_key",(top 16),[],[],[]⟩
def d9:DfM:=⟨.meth "Range" "__eq__","__eq__","Range.__eq__",(mem 10 9),[],[],[]⟩
def d10:DfM:=⟨.meth "Range" "__lt__","__lt__","Range.__lt__",(mem 10 10),[],[],[]⟩
def d11:DfM:=⟨.meth "Range" "__le__","__le__","Range.__le__",(mem 10 11),[],[],[]⟩
def d12:DfM:=⟨.meth "Range" "__gt__","__gt__","Range.__gt__",(mem 10 12),[],[],[]⟩
def d13:DfM:=⟨.meth "Range" "__ge__","__ge__","Range.__ge__",(mem 10 13),[],[],[]⟩
def d14:DfM:=⟨.glo "_law_pair_right","_law_pair_right","_law_pair_right",(top 17),[],[],[]⟩
def d15:DfM:=⟨.prop "Range" "first","first","Range.first",(mem 10 3),[],[],[]⟩
def d16:DfM:=⟨.prop "Range" "last","last","Range.last",(mem 10 4),[],[],[]⟩
def d17:DfM:=⟨.glo "law","law","law",(top 18),[],[],[]⟩
def dfs:List DfM:=[d0,d1,d2,d3,d4,d5,d6,d7,d8,d9,d10,d11,d12,d13,d14,d15,d16,d17]
def fas:List FaM:=[Zhy ["Range"] ["int","bool","str","list","tuple","dict"],fun K=>(He.Fa.int "MOST_INTEGER" (999999999999999999999999999999999999999999999999999999999999)).ok K,Zjj "InvalidRange" "value" "ValueError" "ValueError.__new__" "ValueError.__init__" [.type "ValueError", .type "Exception", .type "BaseException", .type "object"] PySem.Challenge.pw_gaplesskeys_k02_ranges_compared.main.file,Zga ["Range"] "own_first",Zga ["Range"] "own_last",Zga ["Range"] "rank",fun K=>(He.Fa.mkr "Range").ok K,fun K=>(He.Fa.meth "Range" "__eq__").ok K,Zji ["Range"],neB ["Range"],fun K=>(He.Fa.meth "Range" "__lt__").ok K,fun K=>(He.Fa.meth "Range" "__le__").ok K,fun K=>(He.Fa.meth "Range" "__gt__").ok K,fun K=>(He.Fa.meth "Range" "__ge__").ok K,ZnW,Zhx "Range" "first",fun K=>(He.Fa.cls "Range").ok K,Zhx "Range" "last",fun K=>(He.Fa.glo "InvalidRange").ok K,fun K=>(He.Fa.glo "Range").ok K,fun K=>(He.Fa.glo "_law_choose").ok K,fun K=>(He.Fa.glo "_law_draw").ok K,fun K=>(He.Fa.glo "_law_drawn").ok K,fun K=>(He.Fa.glo "_law_key").ok K,fun K=>(He.Fa.glo "_law_pair_right").ok K,fun K=>(He.Fa.glo "_law_stream").ok K,fun K=>(He.Fa.glo "is_between").ok K,fun K=>(He.Fa.glo "is_limit").ok K,fun K=>(He.Fa.free "bool").ok K,fun K=>(He.Fa.free "int").ok K,fun K=>(He.Fa.free "isinstance").ok K,fun K=>(He.Fa.free "len").ok K,fun K=>(He.Fa.free "max").ok K,fun K=>(He.Fa.free "min").ok K,fun K=>(He.Fa.free "range").ok K,fun K=>(He.Fa.free "repr").ok K,fun K=>(He.Fa.free "sorted").ok K,fun K=>(He.Fa.free "super").ok K,fun K=>(He.Fa.glo "law").ok K]
abbrev R:PySem.W.OpenRow:=PySem.W.OpenLaw.row PySem.Challenge.rw_gaplesskeys_k02_ranges_compared
abbrev hk:PySem.W.Hook:=ZlY 5 fas dfs
def ob (s:PySem.W.SharedT):AlB:=Zjk 5 fas dfs (HandSHeadRun.getT s)
def loose:List Str:=(["_wall","MOST_INTEGER","is_between","GapError","InvalidRange","InvalidMoment","is_limit","Range","_law_stream","_law_draw","_law_choose","_law_drawn","_law_key","_law_pair_right"]:List Str)
def tq (i:Nat):Stmt:=PySem.Challenge.pw_gaplesskeys_k02_ranges_compared.main.body.getD i (.Pass ⟨0,0,0,0⟩)
def ZoA:Env:={scope:=PySem.Challenge.pw_gaplesskeys_k02_ranges_compared.main.scope,locals:=mainNs,globals:=mainNs,cells:=[],code:=(sR 13),frame:=some 14}
def Zl0 (P:Params):Obj:=PySem.W.boot_o_0 P
def Zl1 (P:Params):Obj:=PySem.W.boot_o_1 P
def Zl2 (P:Params):Obj:=PySem.W.boot_o_2 P
def Zl3 (P:Params):Obj:=oD (sY "dict") [eY P "__name__" 165 (sS "gaplesskeys.ranges" 285),eY P "__doc__" 166 sN,eY P "__package__" 167 sN,eY P "__loader__" 168 (sU "__main__.__loader__#opaque"),eY P "__spec__" 169 sN,eY P "__annotations__" 170 (sR 6),eY P "__builtins__" 171 (sR 4),eY P "__file__" 173 (sS "/claim/cut.py" 172),eY P "__cached__" 174 sN,eY P "_wall" 193 (sR 21),eY P "MOST_INTEGER" 201 (sI 999999999999999999999999999999999999999999999999999999999999 200),eY P "is_between" 210 (sR 28),eY P "GapError" 230 (sR 38),eY P "InvalidRange" 257 (sR 60),eY P "InvalidMoment" 284 (sR 81)] 15
def Zl4 (P:Params):Obj:=PySem.W.boot_o_4 P
def Zl5 (P:Params):Obj:=PySem.W.boot_o_5 P
def Zl6 (P:Params):Obj:=PySem.W.boot_o_6 P
def Zl7 (P:Params):Obj:=PySem.W.boot_o_7 P
def Zl8 (P:Params):Obj:=PySem.W.boot_o_8 P
def Zl9 (P:Params):Obj:=PySem.W.boot_o_9 P
def Zjm (P:Params):Obj:=PySem.W.boot_o_10 P
def Zjn (P:Params):Obj:=oT []
def Zjo (P:Params):Obj:=oF [(sI 1 0),(sI 0 0),(sR 20),(sI 6 0),(sI 0 0),(sR 27),(sI 9 0),(sI 0 0),(sR 34),(sI 11 0),(sI 0 0),(sR 48),(sI 16 0),(sI 0 0),(sR 69)]
def Zjp (P:Params):Obj:=oC [(sS "<module>" 182),(sS "<module>" 183),(sS "/claim/cut.py" 184),(sI 1 0),(sI 0 0),(sI 0 0),(sI 0 0),(sI 0 0),(sR 11),(sB false),(sI 181 0),(sR 12),sN,sN,sN,sN,(sI 185 0),(sI 1 0),(sS "/claim/cut.py" 186)]
def Zjq (P:Params):Obj:=oR [some (sR 13),some (sR 3),some (sR 3),none,some (sS "__main__" 164),none,some (sR 0)]
def Zjr (P:Params):Obj:=oT []
def Zjs (P:Params):Obj:=oF []
def Zjt (P:Params):Obj:=oT [(sS "k" 190)]
def Zju (P:Params):Obj:=oT []
def Zjv (P:Params):Obj:=⟨sN,none,(fU (tq 0) "_wall" "_wall" 0 [] sN sN sN sN none sN sN 0),[].toArray⟩
def Zjw (P:Params):Obj:=oC [(sS "_wall" 187),(sS "_wall" 188),(sS "/claim/cut.py" 189),(sI 1 0),(sI 1 0),(sI 0 0),(sI 0 0),(sI 3 0),(sR 15),(sB true),(sI 181 0),(sR 16),sN,(sR 17),(sR 18),(sR 19),(sI 191 0),(sI 1 0),(sS "/claim/cut.py" 192)]
def Zjx (P:Params):Obj:=⟨(sY "function"),none,(fU (tq 0) "_wall" "_wall" 3 [] sN sN sN (sS "__main__" 164) none (sR 20) sN 0),[].toArray⟩
def Zjy (P:Params):Obj:=oT []
def Zjz (P:Params):Obj:=oF []
def ZjA (P:Params):Obj:=oT [(sS "value" 205),(sS "least" 206),(sS "most" 207)]
def ZjB (P:Params):Obj:=oT []
def ZjC (P:Params):Obj:=⟨sN,none,(fU (tq 3) "is_between" "is_between" 0 [] sN sN sN sN none sN sN 0),[].toArray⟩
def ZjD (P:Params):Obj:=oC [(sS "is_between" 202),(sS "is_between" 203),(sS "/claim/cut.py" 204),(sI 6 0),(sI 3 0),(sI 0 0),(sI 0 0),(sI 3 0),(sR 22),(sB true),(sI 181 0),(sR 23),sN,(sR 24),(sR 25),(sR 26),(sI 208 0),(sI 6 0),(sS "/claim/cut.py" 209)]
def ZjE (P:Params):Obj:=⟨(sY "function"),none,(fU (tq 3) "is_between" "is_between" 3 [] sN sN sN (sS "gaplesskeys.basic" 194) none (sR 27) sN 0),[].toArray⟩
def ZjF (P:Params):Obj:=oT [(sY "ValueError")]
def ZjG (P:Params):Obj:=⟨(sY "builtin_function_or_method"),none, .fields [(sU "type.__prepare__"),(sY "type")].toArray,[].toArray⟩
def ZjH (P:Params):Obj:=oD (sY "dict") [eY P "__module__" 220 (sS "gaplesskeys.errors" 211),eY P "__qualname__" 222 (sS "GapError" 221),eY P "__firstlineno__" 224 (sI 9 223),eY P "__static_attributes__" 225 (sR 36)] 4
def ZjI (P:Params):Obj:=oT []
def ZjJ (P:Params):Obj:=oF []
def ZjK (P:Params):Obj:=oC [(sS "GapError" 215),(sS "GapError" 216),(sS "/claim/cut.py" 217),(sI 9 0),(sI 0 0),(sI 0 0),(sI 0 0),(sI 0 0),(sR 32),(sB false),(sI 181 0),(sR 33),sN,sN,sN,sN,(sI 218 0),(sI 9 0),(sS "/claim/cut.py" 219)]
def ZjL (P:Params):Obj:=oR [some (sR 34),some (sR 3),some (sR 31),none,some (sS "gaplesskeys.errors" 211),none,some (sR 0)]
def ZjM (P:Params):Obj:=oT []
def ZjN (P:Params):Obj:=oD (sY "dict") [eY P "__module__" 220 (sS "gaplesskeys.errors" 211),eY P "__firstlineno__" 224 (sI 9 223),eY P "__static_attributes__" 225 (sR 36),eY P "__weakref__" 227 (sR 39),eY P "__doc__" 228 sN] 3
def ZjO (P:Params):Obj:=⟨(sY "type"),none, .cls ⟨Str.ofString "GapError",[(sY "ValueError")],[(sR 38),(sY "ValueError"),(sY "Exception"),(sY "BaseException"),(sY "object")],37,Str.ofString "GapError",true,[],[(sR 60),(sR 81)],false,none,false⟩,[some (sR 29),none,some (sS "GapError" 213),some (sS "GapError" 221),some (sU "ValueError.__new__"),some (sB true)].toArray⟩
def ZjP (P:Params):Obj:=⟨(sY "getset_descriptor"),none, .fields [(sS "__weakref__" 226),(sR 38),(sU "ExceptionGroup.__weakref__"),sN].toArray,[].toArray⟩
def ZjQ (P:Params):Obj:=⟨(sY "super"),none, .fields [(sR 38),(sR 38),(sR 38)].toArray,[].toArray⟩
def ZjR (P:Params):Obj:=⟨(sY "builtin_function_or_method"),none, .fields [(sU "object.__init_subclass__"),(sR 38)].toArray,[].toArray⟩
def ZjS (P:Params):Obj:=oT [(sR 38)]
def ZjT (P:Params):Obj:=⟨(sY "builtin_function_or_method"),none, .fields [(sU "type.__prepare__"),(sY "type")].toArray,[].toArray⟩
def ZjU (P:Params):Obj:=oD (sY "dict") [eY P "__module__" 238 (sS "gaplesskeys.errors" 211),eY P "__qualname__" 240 (sS "InvalidRange" 239),eY P "__firstlineno__" 242 (sI 11 241),eY P "__init__" 251 (sR 57),eY P "__static_attributes__" 253 (sR 58),eY P "__classcell__" 254 (sR 45)] 6
def ZjV (P:Params):Obj:=⟨(sY "cell"),none, .cell (some (sR 60)),[].toArray⟩
def ZjW (P:Params):Obj:=oT []
def ZjX (P:Params):Obj:=oF [(sI 13 0),(sI 4 0),(sR 56)]
def ZjY (P:Params):Obj:=oC [(sS "InvalidRange" 233),(sS "InvalidRange" 234),(sS "/claim/cut.py" 235),(sI 11 0),(sI 0 0),(sI 0 0),(sI 0 0),(sI 0 0),(sR 46),(sB false),(sI 181 0),(sR 47),sN,sN,sN,sN,(sI 236 0),(sI 11 0),(sS "/claim/cut.py" 237)]
def ZjZ (P:Params):Obj:=oR [some (sR 48),some (sR 3),some (sR 44),none,some (sS "gaplesskeys.errors" 211),none,some (sR 0)]
def Zj0 (P:Params):Obj:=oT [(sR 45)]
def Zj1 (P:Params):Obj:=oT [(sS "__class__" 246)]
def Zj2 (P:Params):Obj:=oF []
def Zj3 (P:Params):Obj:=oT [(sS "self" 247),(sS "value" 248)]
def Zj4 (P:Params):Obj:=oT []
def Zj5 (P:Params):Obj:=⟨sN,none,(fU ((Zei (tq 6)).getD 0 (.Pass ⟨0,0,0,0⟩)) "__init__" "InvalidRange.__init__" 0 [] sN sN sN sN none sN sN 0),[].toArray⟩
def Zj6 (P:Params):Obj:=oC [(sS "__init__" 243),(sS "InvalidRange.__init__" 244),(sS "/claim/cut.py" 245),(sI 13 0),(sI 2 0),(sI 0 0),(sI 0 0),(sI 3 0),(sR 51),(sB true),(sI 181 0),(sR 52),sN,(sR 53),(sR 54),(sR 55),(sI 249 0),(sI 13 0),(sS "/claim/cut.py" 250)]
def Zj7 (P:Params):Obj:=⟨(sY "function"),none,(fU ((Zei (tq 6)).getD 0 (.Pass ⟨0,0,0,0⟩)) "__init__" "InvalidRange.__init__" 3 [(Str.ofString "__class__",45)] sN sN sN (sS "gaplesskeys.errors" 211) none (sR 56) (sR 50) 0),[].toArray⟩
def Zj8 (P:Params):Obj:=oT [(sS "value" 252)]
def Zj9 (P:Params):Obj:=oD (sY "dict") [eY P "__module__" 238 (sS "gaplesskeys.errors" 211),eY P "__firstlineno__" 242 (sI 11 241),eY P "__init__" 251 (sR 57),eY P "__static_attributes__" 253 (sR 58),eY P "__doc__" 255 sN] 3
def Zka (P:Params):Obj:=⟨(sY "type"),none, .cls ⟨Str.ofString "InvalidRange",[(sR 38)],[(sR 60),(sR 38),(sY "ValueError"),(sY "Exception"),(sY "BaseException"),(sY "object")],59,Str.ofString "InvalidRange",true,[],[],false,none,false⟩,[some (sR 42),none,some (sS "InvalidRange" 231),some (sS "InvalidRange" 239),some (sU "ValueError.__new__"),some (sB true)].toArray⟩
def Zkb (P:Params):Obj:=⟨(sY "super"),none, .fields [(sR 60),(sR 60),(sR 60)].toArray,[].toArray⟩
def Zkc (P:Params):Obj:=⟨(sY "builtin_function_or_method"),none, .fields [(sU "object.__init_subclass__"),(sR 60)].toArray,[].toArray⟩
def Zkd (P:Params):Obj:=oT [(sR 38)]
def Zke (P:Params):Obj:=⟨(sY "builtin_function_or_method"),none, .fields [(sU "type.__prepare__"),(sY "type")].toArray,[].toArray⟩
def Zkf (P:Params):Obj:=oD (sY "dict") [eY P "__module__" 265 (sS "gaplesskeys.errors" 211),eY P "__qualname__" 267 (sS "InvalidMoment" 266),eY P "__firstlineno__" 269 (sI 16 268),eY P "__init__" 278 (sR 78),eY P "__static_attributes__" 280 (sR 79),eY P "__classcell__" 281 (sR 66)] 6
def Zkg (P:Params):Obj:=⟨(sY "cell"),none, .cell (some (sR 81)),[].toArray⟩
def Zkh (P:Params):Obj:=oT []
def Zki (P:Params):Obj:=oF [(sI 18 0),(sI 4 0),(sR 77)]
def Zkj (P:Params):Obj:=oC [(sS "InvalidMoment" 260),(sS "InvalidMoment" 261),(sS "/claim/cut.py" 262),(sI 16 0),(sI 0 0),(sI 0 0),(sI 0 0),(sI 0 0),(sR 67),(sB false),(sI 181 0),(sR 68),sN,sN,sN,sN,(sI 263 0),(sI 16 0),(sS "/claim/cut.py" 264)]
def Zkk (P:Params):Obj:=oR [some (sR 69),some (sR 3),some (sR 65),none,some (sS "gaplesskeys.errors" 211),none,some (sR 0)]
def Zkl (P:Params):Obj:=oT [(sR 66)]
def Zkm (P:Params):Obj:=oT [(sS "__class__" 273)]
def Zkn (P:Params):Obj:=oF []
def Zko (P:Params):Obj:=oT [(sS "self" 274),(sS "value" 275)]
def Zkp (P:Params):Obj:=oT []
def Zkq (P:Params):Obj:=⟨sN,none,(fU ((Zei (tq 7)).getD 0 (.Pass ⟨0,0,0,0⟩)) "__init__" "InvalidMoment.__init__" 0 [] sN sN sN sN none sN sN 0),[].toArray⟩
def Zkr (P:Params):Obj:=oC [(sS "__init__" 270),(sS "InvalidMoment.__init__" 271),(sS "/claim/cut.py" 272),(sI 18 0),(sI 2 0),(sI 0 0),(sI 0 0),(sI 3 0),(sR 72),(sB true),(sI 181 0),(sR 73),sN,(sR 74),(sR 75),(sR 76),(sI 276 0),(sI 18 0),(sS "/claim/cut.py" 277)]
def Zks (P:Params):Obj:=⟨(sY "function"),none,(fU ((Zei (tq 7)).getD 0 (.Pass ⟨0,0,0,0⟩)) "__init__" "InvalidMoment.__init__" 3 [(Str.ofString "__class__",66)] sN sN sN (sS "gaplesskeys.errors" 211) none (sR 77) (sR 71) 0),[].toArray⟩
def Zkt (P:Params):Obj:=oT [(sS "value" 279)]
def Zku (P:Params):Obj:=oD (sY "dict") [eY P "__module__" 265 (sS "gaplesskeys.errors" 211),eY P "__firstlineno__" 269 (sI 16 268),eY P "__init__" 278 (sR 78),eY P "__static_attributes__" 280 (sR 79),eY P "__doc__" 282 sN] 3
def Zkv (P:Params):Obj:=⟨(sY "type"),none, .cls ⟨Str.ofString "InvalidMoment",[(sR 38)],[(sR 81),(sR 38),(sY "ValueError"),(sY "Exception"),(sY "BaseException"),(sY "object")],80,Str.ofString "InvalidMoment",true,[],[],false,none,false⟩,[some (sR 63),none,some (sS "InvalidMoment" 258),some (sS "InvalidMoment" 266),some (sU "ValueError.__new__"),some (sB true)].toArray⟩
def Zkw (P:Params):Obj:=⟨(sY "super"),none, .fields [(sR 81),(sR 81),(sR 81)].toArray,[].toArray⟩
def Zkx (P:Params):Obj:=⟨(sY "builtin_function_or_method"),none, .fields [(sU "object.__init_subclass__"),(sR 81)].toArray,[].toArray⟩
def ZoZ (P:Params):PySem.W.BT:=(.node (Zl0 P) (.node (Zl1 P) (.node (Zl3 P) (.node (Zl7 P) (.node (Zjr P) (.node (ZjH P) (.node (Zkd P) .nil .nil) .nil) (.node (ZjX P) (.node (Zkt P) .nil .nil) .nil)) (.node (Zjz P) (.node (ZjP P) (.node (Zkl P) .nil .nil) .nil) (.node (Zj5 P) .nil .nil))) (.node (Zjn P) (.node (Zjv P) (.node (ZjL P) (.node (Zkh P) .nil .nil) .nil) (.node (Zj1 P) (.node (Zkx P) .nil .nil) .nil)) (.node (ZjD P) (.node (ZjT P) (.node (Zkp P) .nil .nil) .nil) (.node (Zj9 P) .nil .nil)))) (.node (Zl5 P) (.node (Zl9 P) (.node (Zjt P) (.node (ZjJ P) (.node (Zkf P) .nil .nil) .nil) (.node (ZjZ P) (.node (Zkv P) .nil .nil) .nil)) (.node (ZjB P) (.node (ZjR P) (.node (Zkn P) .nil .nil) .nil) (.node (Zj7 P) .nil .nil))) (.node (Zjp P) (.node (Zjx P) (.node (ZjN P) (.node (Zkj P) .nil .nil) .nil) (.node (Zj3 P) .nil .nil)) (.node (ZjF P) (.node (ZjV P) (.node (Zkr P) .nil .nil) .nil) (.node (Zkb P) .nil .nil))))) (.node (Zl2 P) (.node (Zl4 P) (.node (Zl8 P) (.node (Zjs P) (.node (ZjI P) (.node (Zke P) .nil .nil) .nil) (.node (ZjY P) (.node (Zku P) .nil .nil) .nil)) (.node (ZjA P) (.node (ZjQ P) (.node (Zkm P) .nil .nil) .nil) (.node (Zj6 P) .nil .nil))) (.node (Zjo P) (.node (Zjw P) (.node (ZjM P) (.node (Zki P) .nil .nil) .nil) (.node (Zj2 P) .nil .nil)) (.node (ZjE P) (.node (ZjU P) (.node (Zkq P) .nil .nil) .nil) (.node (Zka P) .nil .nil)))) (.node (Zl6 P) (.node (Zjm P) (.node (Zju P) (.node (ZjK P) (.node (Zkg P) .nil .nil) .nil) (.node (Zj0 P) (.node (Zkw P) .nil .nil) .nil)) (.node (ZjC P) (.node (ZjS P) (.node (Zko P) .nil .nil) .nil) (.node (Zj8 P) .nil .nil))) (.node (Zjq P) (.node (Zjy P) (.node (ZjO P) (.node (Zkk P) .nil .nil) .nil) (.node (Zj4 P) .nil .nil)) (.node (ZjG P) (.node (ZjW P) (.node (Zks P) .nil .nil) .nil) (.node (Zkc P) .nil .nil))))))
def ZoB (w:World) (os:OsState):PySem.W.SharedT:=⟨ZoZ w.params,84,{}, #[],⟨0,0,0,0⟩,287,os⟩
def ZoC:Thread:=⟨HandSHeadRun.denQ HandSHeadRun.tabQ (.body (PySem.Challenge.pw_gaplesskeys_k02_ranges_compared.main.body.drop 9) ZoA), .body (PySem.W.behindTheImports PySem.Challenge.pw_gaplesskeys_k02_ranges_compared) ZoA,⟨21,0,21,8⟩,[PySem.W.topFrame ⟨0,0,0,0⟩]⟩
theorem ZnZ (w:World) (os:OsState):ZnY (HandSHeadRun.stepQ (HandSHeadRun.denQ HandSHeadRun.tabQ) R.prog w) 828 R.prog w os=some (11,ZoB w os,ZoC):=by kernel_rfl
theorem Zn0 (w:World) (os:OsState):(HandSHeadRun.goF (HandSHeadRun.stepQ (HandSHeadRun.denQ HandSHeadRun.tabQ) R.prog w) 11 (HandSHeadRun.bootAnn w) 14172 (ZoB w os) ZoC).map (fun s=>(HandSHeadRun.looksF R.prog (PySem.W.boot_heap w.params) s.abs,HandSHeadRun.seenQ (PySem.W.view R.prog [18]) loose (PySem.importedModules R.prog.main.body) (fun s=>PySem.W.xlAt (PySem.W.view R.prog [18]) [] s&&PySem.W.recOk R.toRowW.records s) s.abs,ob s))=some (true,PySem.W.openGood (PySem.W.view R.prog [18]) loose,hk.val w):=by kernel_rfl
theorem hrun (w:World):HandSHeadRun.RunEq R (PySem.W.view R.prog [18]) hk ob 15000 loose w:=by
 intro os
 rw [show HandSHeadRun.endF (HandSHeadRun.stepQ (HandSHeadRun.denQ HandSHeadRun.tabQ) R.prog w) 15000 R.prog w os=HandSHeadRun.endF (HandSHeadRun.stepQ (HandSHeadRun.denQ HandSHeadRun.tabQ) R.prog w) (828+14172) R.prog w os from rfl,ZhA (ZnZ w os)]
 exact Zn0 w os
end MPL
namespace MP
open PySem (Str)
theorem Zbq {S:Zaa} {n:Nat} {xs:List SV} (h:S[n]? =some (.lst xs)∨S[n]? =some (.frz xs)):ZaJ S n=some xs:=by
 unfold ZaJ
 rcases h with h | h<;>rw [h]
def Zai (i:Nat):EM:=fun env S=>match env[i]? with | some (some v)=> .ok v S | _=> .bad
def Zma:EM:=fun _ _=> .bad
def eIf (t:TM) (a b:EM):EM:=fun env S=>(t env S).bind fun c S1=>if c=true then a env S1 else b env S1
def Zlr (a b:EM):EM:=fun env S=>(a env S).bind fun x S1=>match x with | .bl true=>b env S1 | .bl false=> .ok (.bl false) S1 | _=> .bad
def Zn1:SV→M SV:=fun x S=>match x with | .bl b=> .ok (.bl (!b)) S | _=> .bad
def Zfb (f g:SV→SV→M SV) (a b c:EM):EM:=fun env S=>(a env S).bind fun x S1=>(b env S1).bind fun y S2=>(f x y S2).bind fun r S3=>match r with
 | .bl true=>(c env S3).bind fun z S4=>g y z S4
 | .bl false=> .ok (.bl false) S3
 | _=> .bad
def Zn2 (a b:TM):TM:=fun env S=>(a env S).bind fun c S1=>if c=true then b env S1 else .ok false S1
def Zgc (a:TM):TM:=fun env S=>(a env S).bind fun c S1=> .ok (!c) S1
def Zhm:SV→M Bool:=fun x S=>match x with
 | .non=> .ok false S
 | .bl b=> .ok b S
 | .int i=> .ok (i != 0) S
 | .str z=>if z.length≤PySem.sizeLine then .ok (z.length != 0) S else .bad
 | .tup xs=> .ok (!xs.isEmpty) S
 | .ref n=>match S[n]? with
  | some (.lst xs)=> .ok (!xs.isEmpty) S
  | some (.frz xs)=> .ok (!xs.isEmpty) S
  | some (.dK kvs)=> .ok (!kvs.isEmpty) S
  | _=> .bad
 | _=> .bad
def tT (a:EM):TM:=fun env S=>(a env S).bind fun x S1=>Zhm x S1
def Zfc (n:Nat) (i:Int):Option Nat:=if 0≤i then (if i<n then some i.toNat else none)else if -(n:Int)≤i then some (i+n).toNat else none
def atS {α:Type} (xs:List α) (i:Int):Option α:=(Zfc xs.length i).bind fun j=>xs[j]?
def Zgd {α:Type} (o:Option α):M α:=fun S=>match o with | some a=> .ok a S | none=> .bad
def ixM:SV→SV→M SV:=fun x y S=>match x,y with
 | .tup xs, .int i=>Zgd (atS xs i) S
 | .ref n, .int i=>(match ZaJ S n with
  | some xs=>Zgd (atS xs i) S
  | none=> .bad)
 | .str z, .int i=>if z.length≤PySem.sizeLine then Zgd ((atS z.cps.toList i).map fun c=>SV.str ⟨#[c]⟩) S else .bad
 | _,_=> .bad
def Zdn:SV→SV→SV→M Unit:=fun o i v S=>match o,i with
 | .ref n, .int k=>(match S[n]? with
  | some (.lst xs)=>(match Zfc xs.length k with
   | some j=> .ok () (S.set n (.lst (xs.set j v)))
   | none=> .bad)
  | _=> .bad)
 | _,_=> .bad
def ZiE (f:String) (v:SV):List (String × SV)→List (String × SV)
 | []=>[(f,v)]
 | (g,x)::r=>if g=f then (g,v)::r else (g,x)::ZiE f v r
def Zd8 (cs:List String) (f:String):SV→M SV:=fun x S=>match x with
 | .ref n=>(match S[n]? with
  | some (.ins c fs)=>if c∈cs then Zgd (fs.lookup f) S else .bad
  | _=> .bad)
 | _=> .bad
def ZdG (cs:List String) (f:String):SV→SV→M Unit:=fun x v S=>match x with
 | .ref n=>(match S[n]? with
  | some (.ins c fs)=>if c∈cs∧fs.length<1000 then .ok () (S.set n (.ins c (ZiE f v fs)))else .bad
  | _=> .bad)
 | _=> .bad
def Zcf (c:String) (init:List SV→M SV):List SV→M SV:=fun xs S=>(init (.ref S.length::xs) (S++[.ins c []])).bind fun r S'=>match r with
 | .non=> .ok (.ref S.length) S'
 | _=> .bad
def Zn3:SM:=fun _ _=> .bad
def Zb8 (i:Nat):GM:=fun v env S=> .nx (env.set i (some v)) S
def Zde (e:EM) (g:GM):SM:=fun env S=>(e env S).stm env fun v S1=>g v env S1
def sIf (t:TM) (a b:SM):SM:=fun env S=>(t env S).stm env fun c S1=>if c=true then a env S1 else b env S1
def gIx (o i:EM):GM:=fun v env S=>(o env S).stm env fun x S1=>(i env S1).stm env fun y S2=>(Zdn x y v S2).stm env fun _ S3=> .nx env S3
def Zls (cs:List String) (f:String) (o e:EM):SM:=fun env S=>(e env S).stm env fun v S1=>(o env S1).stm env fun x S2=>(ZdG cs f x v S2).stm env fun _ S3=> .nx env S3
def Zej (g:GM) (body:SM) (I:IT):Nat→Nat→SM
 | 0,_=>Zn3
 | k+1,i=>fun env S=>match I i S with
  | none=> .bad
  | some none=> .nx env S
  | some (some x)=>turn ((g x env S).seq body) (Zej g body I k (i+1))
def Zlt (it:IM) (g:GM) (body:SM):SM:=fun env S=>(it env S).stm env fun p S1=>Zej g body p.2 p.1 0 env S1
def Za1 (env:En):List Nat→En
 | []=>env
 | v::vs=>(Za1 env vs).set v none
def lcI (g:GM) (t:TM) (e:EM) (d:Nat) (env:En) (I:IT):Nat→Nat→Zaa→Res Unit
 | 0,_,_=> .bad
 | k+1,i,S=>match I i S with
  | none=> .bad
  | some none=> .ok () S
  | some (some x)=>match g x env S with
   | .nx env2 S2=>(match t env2 S2 with
    | .ok true S3=>(match e env2 S3 with
     | .ok y S4=>(match S4[d]? with
      | some (.lst acc)=>if acc.length<PySem.sizeLine then lcI g t e d env I k (i+1) (S4.set d (.lst (acc++[y])))else .bad
      | _=> .bad)
     | _=> .bad)
    | .ok false S3=>lcI g t e d env I k (i+1) S3
    | _=> .bad)
   | _=> .bad
def eLc (it:IM) (g:GM) (t:TM) (e:EM) (vs:List Nat):EM:=fun env S=>(it env S).bind fun p S1=>(lcI g t e S1.length (Za1 env vs) p.2 p.1 0 (S1++[.lst []])).bind fun _ S2=> .ok (.ref S1.length) S2
end MP
namespace MP
open PySem PySem.Spec PyProof.Rows L2
section
variable {g:G} {w w':Wd} {H H':Hp}
theorem VRs.ints:∀ns:List Int,VRs g w H (ns.map SV.int) (ns.map V.int)
 | []=>YcA
 | n::ns=>Ycg (by simp [VR]) (VRs.ints ns)
end
theorem ZeM {K:PySem.W.Frag} {t:Addr × Addr × Str} (h:t∈Zcp K):PySem.W.codeHdIn K t.1 t.2.1=true∧K.lookup t.2.1=none:=by
 unfold Zcp at h
 obtain⟨x,_,e⟩:=List.mem_filterMap.mp h
 split at e
 ·rename_i q
  cases e
  obtain⟨h1,h2⟩:=YaN.mp q
  exact⟨h1,Option.isNone_iff_eq_none.mp h2⟩
 ·cases e
section
variable {g:G} {w w':Wd} {H H':Hp} {xh:Xh} {S S':Zaa} {env:En} {σ:L2.St}
end
end MP
namespace MP
open PySem PySem.Spec PyProof.Rows L2
section
variable {g:G} {w w1:Wd} {H H1:Hp}
end
theorem Zce.toG {g:G} {w:Wd} {H:Hp} {W:WX} {vs:List Nat} {σ:L2.St} {D:Ends} {r:ZbA} (t:Zec r) (h:Zce g w H W D r):ZfA g w H W vs σ D.nx r:=by
 cases r with
 | nx env S=>exact fun w' H' σ' l' k' s' e' _=>h w' H' σ' l' k' s' e'
 | exc x env S=>exact h
 | bad=>exact h
 | _=>exact t.elim
structure Zlu (X:Cx) (n:Nm) (f:Value→Sem Value) (m:SV→M SV):Prop where
 nx:∀x S,NoX (m x S)
 ex:∃r:V→Hp→VK→Prop,UnR X f r∧∀(H:Hp) (w:Wd) (S:Zaa) (x:SV) (v:V) (Q:VK),Sim (gx X n) w H S→VR (gx X n) w H x v→Out (m x S) (KV (gx X n) w H Q) (fun _ _=>False)→r v H Q
section
variable {X:Cx} {n:Nm} {xh:Xh} {W:WX} {e a b c:Expr} {es:List Expr} {ma mb mc:EM} {mt mu:TM} {mr:AM} {pos:Pos}
theorem RE.var (i:Nat) {x:Str} (hN:X.N[i]? =some x) (hv:Vis X.env.scope x:=by first | exact .inl rfl | exact .inr (.inl rfl) | exact .inr (.inr rfl)) (hd:(x==("__debug__":Str))=false:=by decide) (hcd:(x==("__classdict__":Str))=false:=by decide):RE X n xh W (.Name x pos) (Zai i):=by
 refine⟨_,pe_var hN hv hd hcd,fun σ H w S env Q s f h=> ?_⟩
 unfold Zai at h
 cases q:env[i]? with
 | none=>rw [q]at h; exact h.elim
 | some o=>
  rw [q]at h
  cases o with
  | none=>exact h.elim
  | some v=>
   obtain⟨u,h1,h2⟩:=f.env.2 i v q
   exact⟨u,h1,h w H u (Wd.Le.refl w) (Yb9 H) s h2⟩
theorem RE.never:RE X n xh W e Zma:=by
 refine⟨fun _ _ _=>False,⟨fun _ _ _ _ _ _ h=>h.elim⟩,fun σ H w S env Q s f q=> ?_⟩
 exact q.elim
theorem RE.un {op:UnaryOp} {f:SV→M SV} (o:Zlu X n (unaryOp op) f) (ha:RE X n xh W a ma):RE X n xh W (.UnaryOp op a pos) (e1 f ma):=by
 obtain⟨r,ho,co⟩:=o.ex
 obtain⟨ta,pa,ca⟩:=ha.ex
 refine⟨_,pe_un ho pa,fun σ H w S env Q s fm h=> ?_⟩
 refine ca σ H w S env _ s fm ((Yb5 h).imp (fun x S1 h1 w1 H1 v l1 k1 s1 r1=> ?_) fun _ _ z=>z)
 exact co H1 w1 S1 x v Q s1 r1 ((h1.nox (o.nx _ _)).imp (fun _ _ z=>z.mono l1 k1) fun _ _ z=>z)
theorem RE.cmp {op:CmpOp} {f:SV→SV→M SV} (o:Zao X n (compareOp op) f) (ha:RE X n xh W a ma) (hb:RE X n xh W b mb) (hm:behindInMarks op b=false):RE X n xh W (.Compare a [op] [b] pos) (e2 f ma mb):=by
 obtain⟨r,ho,co⟩:=o.ex
 obtain⟨ta,pa,ca⟩:=ha.ex
 obtain⟨tb,pb,cb⟩:=hb.ex
 refine⟨_,pe_cmpR ho pa pb hm,fun σ H w S env Q s fm h=> ?_⟩
 refine ca σ H w S env _ s fm ((Yb5 h).imp (fun x S1 h1 w1 H1 v l1 k1 s1 r1=> ?_) fun _ _ z=>z)
 refine cb σ H1 w1 S1 env _ s1 (fm.mono l1 k1) ((Yb5 h1).imp (fun y S2 h2 w2 H2 u l2 k2 s2 r2=> ?_) fun _ _ z=>z.mono l1 k1)
 exact co H2 w2 S2 x y v u Q s2 (r1.mono l2 k2) r2 ((h2.nox (o.nx _ _ _)).imp (fun _ _ z=>z.mono (l1.trans l2) (k1.trans k2)) fun _ _ z=>z)
theorem RT.cmp {op:CmpOp} {f:SV→SV→M SV} (o:Zao X n (compareOp op) f) (ha:RE X n xh W a ma) (hb:RE X n xh W b mb) (hm:behindInMarks op b=false):RT X n xh W (.Compare a [op] [b] pos) (tB (e2 f ma mb)):=by
 obtain⟨r,ho,co⟩:=o.ex
 obtain⟨ta,pa,ca⟩:=ha.ex
 obtain⟨tb,pb,cb⟩:=hb.ex
 refine⟨_,pt_cmpR ho pa pb hm,fun σ H w S env Q s fm h=> ?_⟩
 have h0:=Yb5 h
 refine ca σ H w S env _ s fm ((Yb5 h0).imp (fun x S1 h1 w1 H1 v l1 k1 s1 r1=> ?_) fun _ _ z=>z)
 refine cb σ H1 w1 S1 env _ s1 (fm.mono l1 k1) ((Yb5 h1).imp (fun y S2 h2 w2 H2 u l2 k2 s2 r2=> ?_) fun _ _ z=>z.mono l1 k1)
 refine co H2 w2 S2 x y v u _ s2 (r1.mono l2 k2) r2 ((h2.nox (o.nx _ _ _)).imp (fun z S3 h3 w3 H3 y l3 k3 s3 r3=> ?_) fun _ _ z=>z)
 cases z with
 | bl k=>
  have e:y= .bl k:=by simpa [VR]using r3
  exact⟨k,e,h3 w3 H3 ((l1.trans l2).trans l3) ((k1.trans k2).trans k3) s3⟩
 | _=>exact h3.elim
theorem RE.ifx (ht:RT X n xh W c mt) (ha:RE X n xh W a ma) (hb:RE X n xh W b mb):RE X n xh W (.IfExp c a b pos) (eIf mt ma mb):=by
 obtain⟨tt,pt,ct⟩:=ht.ex
 obtain⟨ta,pa,ca⟩:=ha.ex
 obtain⟨tb,pb,cb⟩:=hb.ex
 refine⟨_,pe_ifExp pt pa pb,fun σ H w S env Q s fm h=> ?_⟩
 refine ct σ H w S env _ s fm ((Yb5 h).imp (fun x S1 h1 w1 H1 l1 k1 s1=> ?_) fun _ _ z=>z)
 cases x with
 | true=>exact ca σ H1 w1 S1 env Q s1 (fm.mono l1 k1) (h1.imp (fun _ _ z=>z.mono l1 k1) fun _ _ z=>z.mono l1 k1)
 | false=>exact cb σ H1 w1 S1 env Q s1 (fm.mono l1 k1) (h1.imp (fun _ _ z=>z.mono l1 k1) fun _ _ z=>z.mono l1 k1)
theorem RW.and1 (h:RT X n xh W a mt):RW X n xh W (.BoolOp .And [a] pos) mt:=let ⟨t,p,c⟩:=h.ex; ⟨t,pw_and1 p,c⟩
theorem RW.or1 (h:RT X n xh W a mt):RW X n xh W (.BoolOp .Or [a] pos) mt:=let ⟨t,p,c⟩:=h.ex; ⟨t,pw_or1 p,c⟩
theorem RW.and (ha:RT X n xh W a mt) (hb:RW X n xh W (.BoolOp .And (b::es) pos) mu):RW X n xh W (.BoolOp .And (a::b::es) pos) (Zn2 mt mu):=by
 obtain⟨ta,pa,ca⟩:=ha.ex
 obtain⟨tb,pb,cb⟩:=hb.ex
 refine⟨_,pw_and pa pb,fun σ H w S env Q s fm h=> ?_⟩
 refine ca σ H w S env _ s fm ((Yb5 h).imp (fun x S1 h1 w1 H1 l1 k1 s1=> ?_) fun _ _ z=>z)
 cases x with
 | true=>exact cb σ H1 w1 S1 env Q s1 (fm.mono l1 k1) (h1.imp (fun _ _ z=>z.mono l1 k1) fun _ _ z=>z.mono l1 k1)
 | false=>exact h1 w1 H1 l1 k1 s1
theorem RT.not (ha:RT X n xh W a mt):RT X n xh W (.UnaryOp .Not a pos) (Zgc mt):=by
 obtain⟨ta,pa,ca⟩:=ha.ex
 refine⟨_,pt_not pa,fun σ H w S env Q s fm h=> ?_⟩
 exact ca σ H w S env _ s fm ((Yb5 h).imp (fun x S1 h1 w1 H1 l1 k1 s1=>h1 w1 H1 l1 k1 s1) fun _ _ z=>z)
theorem RE.and (ha:RE X n xh W a ma) (hb:RE X n xh W (.BoolOp .And (b::es) pos) mb):RE X n xh W (.BoolOp .And (a::b::es) pos) (Zlr ma mb):=by
 obtain⟨ta,pa,ca⟩:=ha.ex
 obtain⟨tb,pb,cb⟩:=hb.ex
 refine⟨_,pe_and pa pb,fun σ H w S env Q s fm h=> ?_⟩
 refine ca σ H w S env _ s fm ((Yb5 h).imp (fun x S1 h1 w1 H1 v l1 k1 s1 r1=> ?_) fun _ _ z=>z)
 cases x with
 | bl k=>
  have e:v= .bl k:=by simpa [VR]using r1
  refine⟨k,e, ?_⟩
  cases k with
  | true=>exact cb σ H1 w1 S1 env Q s1 (fm.mono l1 k1) (h1.imp (fun _ _ z=>z.mono l1 k1) fun _ _ z=>z.mono l1 k1)
  | false=>exact h1 w1 H1 (.bl false) l1 k1 s1 (by simp [VR])
 | _=>exact h1.elim
theorem RE.not (ha:RE X n xh W a ma):RE X n xh W (.UnaryOp .Not a pos) (e1 Zn1 ma):=by
 obtain⟨ta,pa,ca⟩:=ha.ex
 refine⟨_,pe_not pa,fun σ H w S env Q s fm h=> ?_⟩
 refine ca σ H w S env _ s fm ((Yb5 h).imp (fun x S1 h1 w1 H1 v l1 k1 s1 r1=> ?_) fun _ _ z=>z)
 cases x with
 | bl k=>exact⟨k,by simpa [VR]using r1,h1 w1 H1 (.bl (!k)) l1 k1 s1 (by simp [VR])⟩
 | _=>exact h1.elim
theorem RE.chain {op op':CmpOp} {f f':SV→SV→M SV} (o:Zao X n (compareOp op) f) (o':Zao X n (compareOp op') f') (ha:RE X n xh W a ma) (hb:RE X n xh W b mb) (hc:RE X n xh W c mc)
  (hm:lastMarks [op,op'] [b,c]=false:=by with_unfolding_all rfl):RE X n xh W (.Compare a [op,op'] [b,c] pos) (Zfb f f' ma mb mc):=by
 obtain⟨r,ho,co⟩:=o.ex
 obtain⟨r',ho',co'⟩:=o'.ex
 obtain⟨ta,pa,ca⟩:=ha.ex
 obtain⟨tb,pb,cb⟩:=hb.ex
 obtain⟨tc,pc,cc⟩:=hc.ex
 refine⟨_,pe_chain ho ho' pa pb pc hm,fun σ H w S env Q s fm h=> ?_⟩
 refine ca σ H w S env _ s fm ((Yb5 h).imp (fun x S1 h1 w1 H1 v l1 k1 s1 r1=> ?_) fun _ _ z=>z)
 refine cb σ H1 w1 S1 env _ s1 (fm.mono l1 k1) ((Yb5 h1).imp (fun y S2 h2 w2 H2 u l2 k2 s2 r2=> ?_) fun _ _ z=>z.mono l1 k1)
 refine co H2 w2 S2 x y v u _ s2 (r1.mono l2 k2) r2 (((Yb5 h2).nox (o.nx _ _ _)).imp (fun z S3 h3 w3 H3 t l3 k3 s3 r3=> ?_) fun _ _ z=>z)
 cases z with
 | bl k=>
  refine⟨k,by simpa [VR]using r3, ?_⟩
  cases k with
  | true=>
   refine cc σ H3 w3 S3 env _ s3 (fm.mono ((l1.trans l2).trans l3) ((k1.trans k2).trans k3)) ((Yb5 h3).imp (fun z' S4 h4 w4 H4 t' l4 k4 s4 r4=> ?_) fun _ _ z=>z.mono ((l1.trans l2).trans l3) ((k1.trans k2).trans k3))
   exact co' H4 w4 S4 y z' u t' Q s4 (r2.mono (l3.trans l4) (k3.trans k4)) r4 ((h4.nox (o'.nx _ _ _)).imp (fun _ _ z=>z.mono (((l1.trans l2).trans l3).trans l4) (((k1.trans k2).trans k3).trans k4)) fun _ _ z=>z)
  | false=>exact h3 w3 H3 (.bl false) ((l1.trans l2).trans l3) ((k1.trans k2).trans k3) s3 (by simp [VR])
 | _=>exact h3.elim
end
end MP
namespace MP
open PySem PySem.Spec PyProof.Rows L2
section
variable {g:G} {w:Wd} {H:Hp} {S:Zaa}
theorem Sim.setL {n:Nat} {xs ys:List SV} {vs:List V} (s:Sim g w H S) (e:S[n]? =some (.lst xs)) (r:VRs g w H ys vs):Zag H (upd H (w.at_ n) (.lst vs))∧Sim g w (upd H (w.at_ n) (.lst vs)) (S.set n (.lst ys)):=by
 obtain⟨us,h1,h2⟩:=s.obj n _ e
 have k:Zag H (upd H (w.at_ n) (.lst vs)):=Yc0 h1 fun z=>z
 exact⟨k,s.set e trivial trivial ⟨vs,upd_same,r.mono (Wd.Le.refl w) k⟩⟩
end
theorem Zmb {g:G} {w:Wd} {H:Hp} {xs:List SV} {vs:List V} {i:Int} {a:SV} (r:VRs g w H xs vs) (e:atS xs i=some a):∃v,atI vs i=some v∧VR g w H a v:=by
 unfold atS at e
 cases q:Zfc xs.length i with
 | none=>rw [q]at e; cases e
 | some j=>
  rw [q]at e
  obtain⟨v,h1,h2⟩:=r.get (show xs[j]? =some a from e)
  refine⟨v, ?_,h2⟩
  unfold atI
  rw [r.len,show ixN xs.length i=some j from q]
  exact h1
section
variable {X:Cx} {n:Nm} {xh:Xh} {W:WX} {e a b c o:Expr} {es:List Expr} {ma mb mc:EM} {mt mu:TM} {mr:AM} {pos:Pos}
theorem RE.ix (ha:RE X n xh W a ma) (hb:RE X n xh W b mb) (hs:PlainIx b:=by exact fun _ _=>rfl):RE X n xh W (.Subscript a b pos) (e2 ixM ma mb):=by
 obtain⟨ta,pa,ca⟩:=ha.ex
 obtain⟨tb,pb,cb⟩:=hb.ex
 refine⟨_,pe_ix ix_seq pa pb hs,fun σ H w S env Q s fm h=> ?_⟩
 refine ca σ H w S env _ s fm ((Yb5 h).imp (fun x S1 h1 w1 H1 v l1 k1 s1 r1=> ?_) fun _ _ z=>z)
 refine cb σ H1 w1 S1 env _ s1 (fm.mono l1 k1) ((Yb5 h1).imp (fun y S2 h2 w2 H2 u l2 k2 s2 r2=> ?_) fun _ _ z=>z.mono l1 k1)
 have r1':=r1.mono l2 k2
 cases y with
 | int i=>
  have eu:u= .int i:=by simpa [VR]using r2
  have fin:∀{a:SV} {z:V},KV (gx X n) w H Q a S2→VR (gx X n) w2 H2 a z→Q z H2:=fun{a z} q r=>q w2 H2 z (l1.trans l2) (k1.trans k2) s2 r
  cases x with
  | tup xs=>
   simp only [VR]at r1'
   obtain⟨p,ys,ev,sq,rs⟩:=r1'
   unfold ixM Zgd at h2
   simp only at h2
   cases q:atS xs i with
   | none=>rw [q]at h2; exact h2.elim
   | some a=>
    rw [q]at h2
    obtain⟨z,hz,rz⟩:=Zmb rs q
    exact .inr (.inl ⟨p,ys,i,z,ev,eu,SqT.of sq,hz,fin h2 rz⟩)
  | ref m=>
   simp only [VR]at r1'
   have go:∀{xs:List SV},(S2[m]? =some (.lst xs)∨S2[m]? =some (.frz xs))→Out (Zgd (atS xs i) S2) (KV (gx X n) w H Q) (KX (gx X n) w H fun cls d H'=>W cls d σ H')→rIx X.K v u H2 Q:=fun{xs} e h=>by
    obtain⟨ys,sq,rs⟩:=s2.seq e
    unfold Zgd at h
    cases q:atS xs i with
    | none=>rw [q]at h; exact h.elim
    | some a=>
     rw [q]at h
     obtain⟨z,hz,rz⟩:=Zmb rs q
     exact .inl ⟨_,ys,i,z,r1'.2,eu,sq,hz,fin h rz⟩
   unfold ixM at h2
   simp only at h2
   cases q:ZaJ S2 m with
   | none=>rw [q]at h2; exact h2.elim
   | some xs=>
    rw [q]at h2
    exact go (ZaT q) h2
  | str z=>
   unfold ixM at h2
   simp only at h2
   by_cases hz:z.length≤sizeLine
   ·rw [if_pos hz]at h2
    unfold Zgd at h2
    cases q:atS z.cps.toList i with
    | none=>rw [q]at h2; exact h2.elim
    | some ch=>
     rw [q]at h2
     exact .inr (.inr ⟨z,i,ch,by simpa [VR]using r1',eu,hz,q,fin h2 (by simp [VR])⟩)
   ·rw [if_neg hz]at h2; exact h2.elim
  | _=>exact h2.elim
 | _=>
  cases x<;>exact h2.elim
variable {st:Stmt} {sts:List Stmt} {ms mk:SM} {mg:GM}
theorem RS.never:RS X n xh W st Zn3:=⟨_,ps_never,fun σ H w S env D s fm h=>h⟩
theorem RSs.never:RSs X n xh W sts Zn3:=⟨_,pss_never,fun σ H w S env D s fm h=>h⟩
theorem RS.ite {ba bb:List Stmt} (hc:RT X n xh W c mt) (ha:RSs X n xh W ba ms) (hb:RSs X n xh W bb mk):RS X n xh W (.If c ba bb pos) (sIf mt ms mk):=by
 obtain⟨tt,pt,ct⟩:=hc.ex
 obtain⟨ta,pa,ca⟩:=ha.ex
 obtain⟨tb,pb,cb⟩:=hb.ex
 refine⟨_,ps_if pt pa pb,fun σ H w S env D s fm h=> ?_⟩
 refine ct σ H w S env _ s fm ((YcP fm.env h).imp (fun x S1 h1 w1 H1 l1 k1 s1=> ?_) fun _ _ z=>z)
 cases x with
 | true=>exact ca σ H1 w1 S1 env D s1 (fm.mono l1 k1) (YcF l1 k1 h1)
 | false=>exact cb σ H1 w1 S1 env D s1 (fm.mono l1 k1) (YcF l1 k1 h1)
theorem RG.var {vs:List Nat} (i:Nat) {x:Str} (hN:X.N.Nodup) (hi:X.N[i]? =some x) (hx:Loc X.env.scope x:=by first | exact .inl rfl | exact .inr rfl) (hv:i∈vs:=by decide) (hf:X.fn x=true∨X.env.scope.names.lookup x=some .local:=by first | exact .inl rfl | exact .inr rfl | assumption):RG X n W vs (.Name x pos) (Zb8 i):=
 ⟨fun _ _ _=>trivial,_,pg_name hN hi hx hf,fun σ H w S env x v Q s he r h=>h w H _ (Wd.Le.refl w) (Yb9 H) s (he.set r) (Off.set hv)⟩
theorem RS.asg {vs:List Nat} (he:RE X n xh W e ma) (hg:RG X n W vs c mg) (hs:swapsWithSole [c] e pos.line X.env=pure false:=by rfl) (hw:swappedStores [c] e X.env=pure none:=by rfl)
  (h1:(assignEach [c] X.env).map (·.2)=[assign c X.env]:=by rfl):RS X n xh W (.Assign [c] e pos) (Zde ma mg):=by
 obtain⟨ta,pa,ca⟩:=he.ex
 obtain⟨tm,tb,pb,cb⟩:=hg
 refine⟨_,ps_asg pa pb hs hw h1,fun σ H w S env D s fm h=> ?_⟩
 refine ca σ H w S env _ s fm ((YcP fm.env h).imp (fun x S1 h1 w1 H1 v l1 k1 s1 r1=> ?_) fun _ _ z=>z)
 refine cb σ H1 w1 S1 env x v _ s1 (fm.env.mono l1 k1) r1 ?_
 exact Zce.toG (tm x env S1) (YcF l1 k1 h1)
end
end MP
namespace MP
open PySem PySem.Spec PyProof.Rows L2
def cE (g:G) (xh:Xh) (W:WX) (m:EM):TE:=fun σ H Q=>∃w S env,Sim g w H S∧Fm g xh w H env σ∧Out (m env S) (KV g w H Q) (KX g w H fun cls d H'=>W cls d σ H')
def cG (g:G) (W:WX) (vs:List Nat) (m:GM):TG:=fun v σ H Q=>∃w S env x,Sim g w H S∧ZcC g w H env σ∧VR g w H x v∧ZfA g w H W vs σ Q (m x env S)
section
variable {X:Cx} {n:Nm} {xh:Xh} {W:WX} {e:Expr} {st:List Stmt} {me:EM} {mt:TM} {ms:SM} {mg:GM}
theorem RE.pe (h:RE X n xh W e me):PE X e (cE (gx X n) xh W me):=by
 obtain⟨t,p,c⟩:=h.ex
 exact⟨fun pins s σ H Q I ⟨w,S,env,h1,h2,h3⟩=>p.run pins s σ H Q I (c σ H w S env Q h1 h2 h3)⟩
theorem RG.pg {vs:List Nat} (h:RG X n W vs e mg):PG X e (cG (gx X n) W vs mg):=by
 obtain⟨t,p,c⟩:=h.ex
 exact⟨fun pins s σ H v u Q I r ⟨w,S,env,x,h1,h2,h3,h4⟩=>p.run pins s σ H v u Q I r (c σ H w S env x v Q h1 h2 h3 h4)⟩
end
theorem Out.stmG {α:Type} {g:G} {w:Wd} {H:Hp} {W:WX} {vs:List Nat} {Q:L2.St→Hp→Prop} {r:Res α} {env:En} {σ:L2.St} {k:α→Zaa→ZbA} (he:ZcC g w H env σ) (h:ZfA g w H W vs σ Q (r.stm env k)):
  Out r (fun a S=>ZfA g w H W vs σ Q (k a S)) (KX g w H fun cls d H'=>W cls d σ H'):=by
 cases r with
 | ok a S=>exact h
 | exc x S=>exact fun w' H' cls d l' k' s' x'=>h w' H' σ cls d l' k' s' (he.mono l' k') x'
 | bad=>exact h
section
variable {X:Cx} {n:Nm} {xh:Xh} {W:WX} {e a b c o:Expr} {es:List Expr} {ma mb mc mo me:EM} {mt mu:TM} {mr:AM} {pos p':Pos}
theorem RG.ix {vs:List Nat} (ho:RE X n none W o mo) (hi:RE X n none W a ma)
  (ha:∀v,assign (.Subscript o a pos) X.env v=(do
   let ov←holding [v] (eval o X.env)
   let iv←holding [v,ov] (eval a X.env)
   standAt pos
   holding [v,ov,iv] (setItem ov iv v)
   release [v,ov,iv] []):=by intro _; rfl):RG X n W vs (.Subscript o a pos) (gIx mo ma):=by
 obtain⟨to,po,co⟩:=ho.ex
 obtain⟨ti,pi,ci⟩:=hi.ex
 refine⟨fun x env S=> ?_,_,pg_sub po pi set_list ha,fun σ H w S env x v Q s he r h=> ?_⟩
 ·unfold gIx
  cases h1:mo env S with
  | ok o S1=>
   rw [Zix]
   cases h2:ma env S1 with
   | ok i S2=>
    rw [Zix]
    cases h3:Zdn o i x S2 with
    | ok u S3=>trivial
    | exc x S3=>trivial
    | bad=>trivial
   | exc x S2=>trivial
   | bad=>trivial
  | exc x S1=>trivial
  | bad=>trivial
 ·have fm:Fm (gx X n) none w H env σ:=⟨he,Ycq⟩
  refine co σ H w S env _ s fm ((Out.stmG he h).imp (fun y S1 h1 w1 H1 u l1 k1 s1 r1=> ?_) fun _ _ z=>z)
  refine ci σ H1 w1 S1 env _ s1 (fm.mono l1 k1) ((Out.stmG he h1).imp (fun i S2 h2 w2 H2 t l2 k2 s2 r2=> ?_) fun _ _ z=>z.mono l1 k1)
  have rv:=r.mono (l1.trans l2) (k1.trans k2)
  have r1':=r1.mono l2 k2
  cases y with
  | ref m=>
   cases i with
   | int k=>
    simp only [VR]at r1' r2
    unfold Zdn at h2
    simp only at h2
    cases q:S2[m]? with
    | none=>rw [q]at h2; exact h2.elim
    | some ob=>
     rw [q]at h2
     cases ob with
     | lst xs=>
      simp only at h2
      cases q2:Zfc xs.length k with
      | none=>rw [q2]at h2; exact h2.elim
      | some j=>
       rw [q2]at h2
       obtain⟨ys,hl,rs⟩:=s2.obj m _ q
       obtain⟨kk,sk⟩:=s2.setL q (rs.set rv j)
       refine⟨_,ys,k,j,r1'.2,r2,hl,by rw [rs.len]; exact q2, ?_⟩
       exact h2 w2 _ σ (l1.trans l2) ((k1.trans k2).trans kk) sk (he.mono (l1.trans l2) ((k1.trans k2).trans kk)) (Off.refl _ _)
     | _=>exact h2.elim
   | _=>exact h2.elim
  | _=>exact h2.elim
theorem FR.put {g:G} {w:Wd} {H:Hp} {f:String} {x:SV} {v:V} (r:VR g w H x v):∀{fs:List (String × SV)} {ys:List (Str × V)},FR g w H fs ys→FR g w H (ZiE f x fs) (putF (Str.ofString f) v ys)
 | [],_,h=>by
  rw [show _=_ from h]
  exact⟨v,[],rfl,r,rfl⟩
 | (k,y)::fs,_,⟨u,t,rfl,q,s⟩=>by
  by_cases h:k=f
  ·subst h
   show FR g w H (if k=k then (k,x)::fs else _) (if Str.ofString k=Str.ofString k then (Str.ofString k,v)::t else _)
   rw [if_pos rfl,if_pos rfl]
   exact⟨v,t,rfl,r,s⟩
  ·show FR g w H (if k=f then _ else (k,y)::ZiE f x fs) (if Str.ofString k=Str.ofString f then _ else (Str.ofString k,u)::putF (Str.ofString f) v t)
   rw [if_neg h,if_neg fun z=>h (ZbP z)]
   exact⟨u,_,rfl,q,FR.put r s⟩
def Znt (K:PySem.W.Frag) (n:Nm) (cs:List String) (f:String):Prop:=∀c∈cs,Cls K (n.cl c)∧NoAttr K (n.cl c) (Str.ofString f)
theorem RE.fld {cs:List String} {f:String} (T:Znt X.K n cs f) (h:RE X n xh W e me) (hb:attributeBase e (Str.ofString f) X.env (eval e X.env)=eval e X.env:=by rfl):RE X n xh W (.Attribute e (Str.ofString f) pos) (e1 (Zd8 cs f) me):=by
 obtain⟨ta,pa,ca⟩:=h.ex
 refine⟨_,pe_fld pa hb,fun σ H w S env Q s fm h=> ?_⟩
 refine ca σ H w S env _ s fm ((Yb5 h).imp (fun x S1 h1 w1 H1 v l1 k1 s1 r1=> ?_) fun _ _ z=>z)
 cases x with
 | ref m=>
  simp only [VR]at r1
  unfold Zd8 at h1
  simp only at h1
  cases q:S1[m]? with
  | none=>rw [q]at h1; exact h1.elim
  | some ob=>
   rw [q]at h1
   cases ob with
   | ins c fs=>
    simp only at h1
    by_cases hc:c∈cs
    ·rw [if_pos hc]at h1
     unfold Zgd at h1
     cases q2:fs.lookup f with
     | none=>rw [q2]at h1; exact h1.elim
     | some y=>
      rw [q2]at h1
      obtain⟨dx,ys,h2,h3⟩:=s1.obj m _ q
      obtain⟨u,h4,h5⟩:=h3.look q2
      exact⟨_,_,dx,ys,u,r1.2,h2,(T c hc).1,(T c hc).2,h4,h1 w1 H1 u l1 k1 s1 h5⟩
    ·rw [if_neg hc]at h1; exact h1.elim
   | _=>exact h1.elim
 | _=>exact h1.elim
theorem RS.fld {cs:List String} {f:String} (T:Znt X.K n cs f) (ho:RE X n xh W o mo) (he:RE X n xh W e me) (hs:swapsWith e (some (.Attribute o (Str.ofString f) p')) pos.line X.env=pure false:=by rfl):RS X n xh W (.Assign [.Attribute o (Str.ofString f) p'] e pos) (Zls cs f mo me):=by
 obtain⟨ta,pa,ca⟩:=ho.ex
 obtain⟨tb,pb,cb⟩:=he.ex
 refine⟨_,ps_fld pa pb hs,fun σ H w S env D s fm h=> ?_⟩
 refine cb σ H w S env _ s fm ((YcP fm.env h).imp (fun y S1 h1 w1 H1 v l1 k1 s1 r1=> ?_) fun _ _ z=>z)
 refine ca σ H1 w1 S1 env _ s1 (fm.mono l1 k1) ((YcP fm.env h1).imp (fun x S2 h2 w2 H2 u l2 k2 s2 r2=> ?_) fun _ _ z=>z.mono l1 k1)
 have r1':=r1.mono l2 k2
 cases x with
 | ref m=>
  simp only [VR]at r2
  unfold ZdG at h2
  simp only at h2
  cases q:S2[m]? with
  | none=>rw [q]at h2; exact h2.elim
  | some ob=>
   rw [q]at h2
   cases ob with
   | ins c fs=>
    simp only at h2
    by_cases hc:c∈cs∧fs.length<1000
    ·rw [if_pos hc]at h2
     obtain⟨dx,ys,h3,h4⟩:=s2.obj m _ q
     have kk:Zag H2 (upd H2 (w2.at_ m) (.ins (n.cl c) dx (putF (Str.ofString f) v ys))):=Yc0 h3 fun z=>z
     refine⟨_,_,dx,ys,r2.2,h3,(T c hc.1).1,(T c hc.1).2,by rw [h4.len]; exact hc.2, ?_⟩
     have sk:=s2.set (u:= .ins (n.cl c) dx (putF (Str.ofString f) v ys)) q trivial (o':= .ins c (ZiE f y fs)) trivial ⟨dx,_,upd_same,(h4.put r1').mono (Wd.Le.refl _) kk⟩
     exact h2 w2 _ σ (l1.trans l2) ((k1.trans k2).trans kk) sk (fm.env.mono (l1.trans l2) ((k1.trans k2).trans kk))
    ·rw [if_neg hc]at h2; exact h2.elim
   | _=>exact h2.elim
 | _=>exact h2.elim
end
section
variable {X:Cx} {n:Nm} {xh:Xh} {W:WX} {e a b tg it:Expr} {body:List Stmt} {me mi ma mb:EM} {mg:GM} {ms:SM} {pos p':Pos}
theorem Zky {g:G} {w:Wd} {H:Hp} {D:Ends} {k:SM} {S:Zaa} {env:En} {σ:L2.St} {x:SV} {v:V} {tgt:TG} {tb:TS} {vs:List Nat} (tm:∀x env S,Zec (mg x env S))
  (cg:∀(σ:L2.St) (H:Hp) (w:Wd) (S:Zaa) (env:En) (x:SV) (v:V) (Q:L2.St→Hp→Prop),Sim g w H S→ZcC g w H env σ→VR g w H x v→ZfA g w H W vs σ Q (mg x env S)→tgt v σ H Q)
  (cb:∀(σ:L2.St) (H:Hp) (w:Wd) (S:Zaa) (env:En) (D:Ends),Sim g w H S→Fm g none w H env σ→Zce g w H W D (ms env S)→tb D σ H)
  (s:Sim g w H S) (fm:Fm g none w H env σ) (r:VR g w H x v) (h:Zce g w H W D (turn ((mg x env S).seq ms) k)) (N:L2.St→Hp→Prop)
  (hN:∀w' H' σ' env' S',w.Le w'→Zag H H'→Sim g w' H' S'→ZcC g w' H' env' σ'→Zce g w' H' W D (k env' S')→N σ' H'):
  tgt v σ H fun σ2 H2=>tb {D with nx:=N,ct:=N,bk:=D.nx} σ2 H2:=by
 refine cg σ H w S env x v _ s fm.env r ?_
 have q:=tm x env S
 revert q h
 cases mg x env S with
 | nx env1 S1=>
  intro h _ w1 H1 σ1 l1 k1 s1 e1 _
  refine cb σ1 H1 w1 S1 env1 _ s1 ⟨e1,Ycq⟩ ?_
  rw [Ze8]at h
  have h':=YcF l1 k1 h
  revert h'
  cases ms env1 S1 with
  | nx env2 S2=>exact fun h' w2 H2 σ2 l2 k2 s2 e2=>hN w2 H2 σ2 env2 S2 (l1.trans l2) (k1.trans k2) s2 e2 (YcF l2 k2 h')
  | ct env2 S2=>exact fun h' w2 H2 σ2 l2 k2 s2 e2=>hN w2 H2 σ2 env2 S2 (l1.trans l2) (k1.trans k2) s2 e2 (YcF l2 k2 h')
  | bk env2 S2=>exact fun h'=>h'
  | rt a S2=>exact fun h'=>h'
  | exc x env2 S2=>exact fun h'=>h'
  | bad=>exact fun h'=>h'
 | exc x env1 S1=>exact fun h _=>h
 | bad=>exact fun h _=>h
 | rt a S1=>exact fun _ z=>z.elim
 | bk env1 S1=>exact fun _ z=>z.elim
 | ct env1 S1=>exact fun _ z=>z.elim
def Lw (g:G) (xh:Xh) (w0:Wd) (H0:Hp) (W:WX) (D:Ends) (k:SM):L2.St→Hp→Prop:=fun σ H=>∃w S env,w0.Le w∧Zag H0 H∧Sim g w H S∧Fm g xh w H env σ∧Zce g w H W D (k env S)
theorem RS.for_ {vs:List Nat} {mi:IM} (hp:PassesOwn (model X.prog X.w) X.A X.env X.xe) (hc:X.calm=true) (hi:RI X n none W tg it mi) (hg:RG X n W vs tg mg) (hb:RSs X n none W body ms) (hs:∀x,foldedSetIterable it X.env x=pure x:=by intro _; rfl):RS X n none W (.For tg it body [] pos) (Zlt mi mg ms):=by
 obtain⟨ti,pi,ci⟩:=hi.ex
 obtain⟨tm,tt,pg,cg⟩:=hg
 obtain⟨tb,pb,cb⟩:=hb.ex
 refine⟨_,ps_for hp hc pi pg pb hs,fun σ H w S env D s fm h=> ?_⟩
 refine ci σ H w S env _ s fm ((YcP fm.env h).imp (fun p S1 h1 w1 H1 J l1 k1 s1 hJ=> ?_) fun _ _ z=>z)
 refine⟨fun i k σ' H'=>Lw (gx X n) none w1 H1 W D (Zej mg ms p.2 k i) σ' H',⟨p.1,w1,S1,env,Wd.Le.refl w1,Yb9 H1,s1,fm.mono l1 k1,YcF l1 k1 h1⟩, ?_⟩
 rintro i k σ2 H2 ⟨w2,S2,env2,l2,k2,s2,fm2,h2⟩
 cases k with
 | zero=>exact h2.elim
 | succ k=>
  unfold Zej at h2
  obtain⟨z1,z2⟩:=hJ i w2 H2 S2 l2 k2 s2
  cases q:p.2 i S2 with
  | none=>rw [q]at h2; exact h2.elim
  | some o=>
   rw [q]at h2
   cases o with
   | none=>exact .inl ⟨z1 q,h2 w2 H2 σ2 (Wd.Le.refl _) (Yb9 _) s2 fm2.env⟩
   | some x=>
    obtain⟨go,z3⟩:=z2 x q
    refine .inr ⟨go,Lw (gx X n) none w1 H1 W D (Zej mg ms p.2 k (i+1)),fun σ' H' z=>⟨k,Yaq k,z⟩,fun y H' hy=> ?_⟩
    obtain⟨w3,l3,k3,s3,r3⟩:=z3 y H' hy
    exact Zky tm cg cb s3 (fm2.mono l3 k3) r3 (YcF l3 k3 h2) _ fun w' H' σ' env' S' l' k' s' e' o'=>⟨w',S',env',(l2.trans l3).trans l',(k2.trans k3).trans k',s',⟨e',Ycq⟩,o'⟩
end
end MP
namespace MP
open PySem PySem.Spec PyProof.Rows L2
section
variable {P:Program} {w:World} {K:PySem.W.Frag} {mg:Str→Option Value} {base:Heap} {k:Nat} {f:Addr} {fd:FuncData} {ps:List Str} {sp:Sp} {gd:Bool}
theorem FnG.up (F:FnG false P w K mg base k f fd ps sp):FnG gd P w K mg base k f fd ps sp:=
 ⟨F.len,fun A outer s H args us vs Q E _=>F.run A outer s H args us vs Q E (fun z=>nomatch z)⟩
end
section
variable {X:Cx} {n:Nm} {xh:Xh} {W:WX} {gd gc:Bool} {k j:Nat} {f:Addr} {fd:FuncData} {ps:List Str} {m:List SV→M SV} {e o:Expr} {es:List Expr} {mr:AM} {mo:EM} {pos p:Pos} {x:Str} {ds:List Value} {dvs:List V} {dxs:List SV}
theorem Sim.made {g:G} {w:Wd} {H:Hp} {S:Zaa} {c:String} (s:Sim g w H S) {x dx:Addr} (hx:H x=none) (hd:H dx=none) (ne:dx≠x):
  Zag H (upd (upd H dx (.own x)) x (.ins (g.cl c) dx []))∧Sim g (w.push x) (upd (upd H dx (.own x)) x (.ins (g.cl c) dx [])) (S++[.ins c []]):=by
 have hx2:upd H dx (.own x) x=none:=by rw [upd_ne (Ne.symm ne)]; exact hx
 have hs:∀b u,H b=some u→upd (upd H dx (.own x)) x (.ins (g.cl c) dx []) b=some u:=fun b u e=>ZaG hx2 b u (ZaG hd b u e)
 have kp:Zag H (upd (upd H dx (.own x)) x (.ins (g.cl c) dx [])):= .all hs
 exact⟨kp,s.new kp hx hs ⟨dx,[],upd_same,rfl⟩⟩
theorem Zge {pins:List (Addr × Obj)} {σ:L2.St} {H:Hp} {s:Shared} {Q:VK} {us:List Value} {vs:List V} {xs:List SV} {w:Wd} {S:Zaa} {c:String} (C:Cok X W k gd) (Mk':Mk X.K (n.cl c) f) (F:Fd gc X.prog X.w X.K X.mg X.base n j f fd ps m) (hj:j+1≤k) (hg:gc=true→gd=true)
  (D:Dfl X n fd ps dxs) (I:Inv X pins σ H s) (r:Vals vs us) (sm:Sim (gx X n) w H S) (rs:VRs (gx X n) w H xs vs)
  (h:Out (Zcf c (fun xs=>m (xs++dxs)) xs S) (KV (gx X n) w H Q) (KX (gx X n) w H fun cls d H'=>W cls d σ H')):wpAny (model X.prog X.w) X.A (call (.ref (n.cl c)) us) (EP X pins σ Q) X.xe s:=by
 obtain⟨dvs,ds,rd,hb,hd⟩:=D.ex
 have hx:H (s.heap.objs.size+1)=none:=I.hok.fresh (Yaf _)
 have hdx:H s.heap.objs.size=none:=I.hok.fresh (Yab _)
 have ne:s.heap.objs.size≠s.heap.objs.size+1:=Yag (Yaq _)
 obtain⟨kp,sm2⟩:=sm.made (c:=c) hx hdx ne
 have I2:=Inv.made (C:=n.cl c) I
 have lw:=w.le_push (s.heap.objs.size+1)
 obtain⟨Hn,eHn⟩:∃Hn,Hn=upd (upd H s.heap.objs.size (.own (s.heap.objs.size+1))) (s.heap.objs.size+1) (.ins (n.cl c) s.heap.objs.size []):=⟨_,rfl⟩
 rw [←eHn]at kp sm2 I2
 have self:VR (gx X n) (w.push (s.heap.objs.size+1)) Hn (.ref S.length) (.ref (s.heap.objs.size+1)):=by
  simp only [VR]
  rw [sm.len]
  exact⟨Yaq _,by rw [w.push_at]⟩
 have rs2:VRs (gx X n) (w.push (s.heap.objs.size+1)) Hn ((.ref S.length::xs)++dxs) ((.ref (s.heap.objs.size+1)::vs)++dvs):=(Ycg self (rs.mono lw kp)).append (hd _ _)
 have r2:Vals ((V.ref (s.heap.objs.size+1)::vs)++dvs) ((Value.ref (s.heap.objs.size+1)::us)++ds):=Vals.append (Paired.cons (show RelV (V.ref _) (Value.ref _)from rfl) r) rd
 have h0:=Yb5 h
 have hl:((Value.ref (s.heap.objs.size+1)::us)++ds).length=ps.length:=by
  refine Classical.byContradiction fun z=> ?_
  have e:=F.ar ((.ref S.length::xs)++dxs) (S++[.ins c []]) (by rw [←rs2.len,r2.length]; exact z)
  have h1:Out (m ((.ref S.length::xs)++dxs) (S++[.ins c []])) _ _:=h0
  rw [e]at h1
  exact h1
 have want:Out (m ((.ref S.length::xs)++dxs) (S++[.ins c []])) (KV (gx X n) (w.push (s.heap.objs.size+1)) Hn (fun v H2=>v= .non∧Q (.ref (s.heap.objs.size+1)) H2)) (KX (gx X n) (w.push (s.heap.objs.size+1)) Hn fun cls d H'=>W cls d σ H'):=by
  have h1:Out (m ((.ref S.length::xs)++dxs) (S++[.ins c []])) _ _:=h0
  refine h1.imp (fun a S2 h2 w2 H2 v l2 k2 s2 r2=> ?_) fun _ _ z=>z.mono lw kp
  cases a with
  | non=>exact⟨by simpa [VR]using r2,h2 w2 H2 _ (lw.trans l2) (kp.trans k2) s2 (self.mono l2 k2)⟩
  | _=>exact h2.elim
 have hroom:=C.room
 have hA:Room k X.A:=C.room
 obtain⟨k',rfl⟩:∃k',k=k'+1:=⟨k - 1,by omega⟩
 refine wpAny_call (make_map (f:=f) I.kIn Mk'.makes Mk'.init (beq_iff_eq.mp Mk'.fn) (codeAny_mono (F.fn.run _ X.stack _ _ ⟨Value.ref (s.heap.objs.size+1)::us,[]⟩ _ _ _ (fun cls d H'=>W cls d σ H') (fun z=> ?_) ((hA.make (n.cl c) us []).mono (by omega)) (I2.env0.make (n.cl c) us [])
  (hb _ (Value.ref (s.heap.objs.size+1)::us) I2.kIn hl) r2 ⟨by rw [r2.length]; exact hl,_,_,_,sm2,rs2,want⟩) fun r s' hq=> ?_))
 ·have gz:=C.gs (hg z)
  first
   | exact gz
   | (simpa [Around.under,Code.guards,Code.isGuard,pushGuards]using gz)
 ·cases r with
  | error e=>exact passAt C.tk σ pins _ _ e s' I2 hq
  | ok fl=>
   cases fl with
   | ret u=>
    obtain⟨v,H',I3,rv,ev,q3⟩:=I2.after hq
    subst ev
    exact⟨rv,⟨V.ref (s.heap.objs.size+1),H',I3,rfl,q3⟩⟩
   | next=>exact hq.elim
   | brk=>exact hq.elim
   | cont=>exact hq.elim
theorem RE.make {c:String} (C:Cok X W k gd) (Mk':Mk X.K (n.cl c) f) (F:Fd gc X.prog X.w X.K X.mg X.base n j f fd ps m) (D:Dfl X n fd ps dxs) (hgl:Gl X x) (hm:X.mg x=some (.ref (n.cl c))) (ha:RA X n xh W (e::es) mr) (hj:j+1≤k:=by decide) (hg:gc=true→gd=true:=by decide)
  (hdb:(x==("__debug__":Str))=false:=by decide) (he:starEach (e::es) X.env=(false,eval e X.env)::starEach es X.env:=by rfl) (hpl:(backTo pos (starEach es X.env)).any (·.1)=false:=by rfl):
  RE X n xh W (.Call (.Name x p) (e::es) [] pos) (eF (Zcf c fun xs=>m (xs++dxs)) mr):=by
 obtain⟨ta,pa,ca⟩:=ha.ex
 refine⟨fun σ H Q=>∃w S env,Sim (gx X n) w H S∧Fm (gx X n) xh w H env σ∧Out (eF (Zcf c fun xs=>m (xs++dxs)) mr env S) (KV (gx X n) w H Q) (KX (gx X n) w H fun cls d H'=>W cls d σ H'),⟨fun pins s σ H Q I h=> ?_⟩,fun σ H w S env Q s fm h=>⟨w,S,env,s,fm,h⟩⟩
 obtain⟨w,S,env,sm,fm,h⟩:=h
 refine wpAny_Call_Name_kw (ld_glob I hgl hm ?_ hdb)
 have q:=ca σ H w S env (fun vs H1=>∃xs S1 w1,Sim (gx X n) w1 H1 S1∧VRs (gx X n) w1 H1 xs vs∧Out (Zcf c (fun xs=>m (xs++dxs)) xs S1) (KV (gx X n) w1 H1 Q) (KX (gx X n) w1 H1 fun cls d H'=>W cls d σ H')) sm fm
  ((Yb5 h).imp (fun xs S1 h1 w1 H1 vs l1 k1 s1 r1=>⟨xs,S1,w1,s1,r1,h1.imp (fun _ _ z=>z.mono l1 k1) fun _ _ z=>z.mono l1 k1⟩) fun _ _ z=>z)
 refine PySem.W.callWith_K (h₀:=X.base) I.ok.mod.kin Mk'.kp (thn (pa.run pos pins s σ H _ I q) fun us s1 ⟨vs,H1,I1,r,xs,S1,w1,s1,r1,h1⟩=>⟨I1.kIn, ?_⟩) he hpl
 exact Zge C Mk' F hj hg D I1 r s1 r1 h1
end
end MP
namespace MP
open PySem (Str PyData sizeLine)
def Zfd:SV→SV→M SV:=fun x y S=>match x,y with
 | .int i, .int j=> .ok (.int (i+j)) S
 | .str a, .str b=>if a.length+b.length≤sizeLine then .ok (.str (a++b)) S else .bad
 | .tup xs, .tup ys=>if xs≠ []∧ys≠ []∧xs.length+ys.length≤sizeLine then .ok (.tup (xs++ys)) S else .bad
 | .ref n, .ref m=>(match S[n]?,S[m]? with
  | some (.lst xs),some (.lst ys)=>if xs.length+ys.length≤sizeLine then .ok (.ref S.length) (S++[.lst (xs++ys)])else .bad
  | _,_=> .bad)
 | _,_=> .bad
def Zkz:SV→SV→M SV:=fun x y S=>match x,y with
 | .int i, .int j=> .ok (.int (i - j)) S
 | _,_=> .bad
def ZbW (i j:Int):Bool:=(decide (-(2^64)<i)&&decide (i<2^64)) || (decide (-(2^64)<j)&&decide (j<2^64)) || decide (i.natAbs.log2+j.natAbs.log2<1000000)
def ZfT:SV→SV→M SV:=fun x y S=>match x,y with
 | .int i, .int j=>if ZbW i j=true then .ok (.int (i * j)) S else .bad
 | _,_=> .bad
def Zek (j:Int):Bool:=decide (0<j)&&decide (j.natAbs.log2<9000)
def ZkA:SV→SV→M SV:=fun x y S=>match x,y with
 | .int i, .int j=>if Zek j=true then .ok (.int (i / j)) S else .bad
 | _,_=> .bad
def Zgf (i j:Int):Bool:=decide (0≤j)&&decide (j≤1000000)&&decide (i.natAbs<2^64)
def ZhB:SV→SV→M SV:=fun x y S=>match x,y with
 | .int i, .int j=>if Zgf i j=true then .ok (.int (i^j.toNat)) S else .bad
 | _,_=> .bad
def ZkB:SV→M SV:=fun x S=>match x with
 | .int i=> .ok (.int (-i)) S
 | _=> .bad
def ZbQ:List SV→Option (List Int)
 | []=>some []
 | .int i::r=>(ZbQ r).map (i:: ·)
 | _::_=>none
def ltM:SV→SV→M SV:=fun x y S=>match x,y with
 | .int i, .int j=> .ok (.bl (decide (i<j))) S
 | .str a, .str b=> .ok (.bl (decide (a.cps.toList<b.cps.toList))) S
 | .tup xs, .tup ys=>(match ZbQ xs,ZbQ ys with
  | some ns,some ms=> .ok (.bl (HT.lexLt ns ms)) S
  | _,_=> .bad)
 | _,_=> .bad
def leM:SV→SV→M SV:=fun x y S=>match x,y with
 | .int i, .int j=> .ok (.bl (decide (i≤j))) S
 | _,_=> .bad
def gtM:SV→SV→M SV:=fun x y S=>match x,y with
 | .int i, .int j=> .ok (.bl (decide (j<i))) S
 | _,_=> .bad
def geM:SV→SV→M SV:=fun x y S=>match x,y with
 | .int i, .int j=> .ok (.bl (decide (j≤i))) S
 | _,_=> .bad
def ZhC:SV→Bool
 | .non=>true
 | _=>false
def isM:SV→SV→M SV:=fun x y S=>match y with
 | .non=> .ok (.bl (ZhC x)) S
 | _=> .bad
def ZkC:SV→SV→M SV:=fun x y S=>match y with
 | .non=> .ok (.bl (!ZhC x)) S
 | _=> .bad
end MP
namespace MP
open PySem (Str PyData sizeLine)
end MP
namespace MP
open PySem (Str PyData sizeLine)
def blB (p:Bool→Bool):SV→Zaa→Res SV:=fun v S=>match v with
 | .bl b=> .ok (.bl (p b)) S
 | _=> .bad
def ownN (tb:Zap) (cs:List String):SV→SV→M SV:=fun x y S=>match Zb7 tb S x with
 | some f=>if ZiA cs S y=true then (f [x,y] S).bind (blB not)else .bad
 | none=> .bad
def orL (f g:SV→SV→M SV):SV→SV→M SV:=fun x y S=>match Zb6 S x with
 | some _=>f x y S
 | none=>g x y S
def truO (tb:Zap):SV→M Bool:=fun x S=>match Zb6 S x with
 | some c=>(match tb.lookup c with
  | some f=>(f [x] S).bind fun v S1=>(match v with
   | .bl b=> .ok b S1
   | _=> .bad)
  | none=> .bad)
 | none=>Zhm x S
def tTO (tb:Zap) (a:EM):TM:=fun env S=>(a env S).bind fun x S1=>truO tb x S1
end MP
namespace MP
def ZeN {α:Type} (r:Res α):Res α:=match r with
 | .exc _ _=> .bad
 | r=>r
def ZdH (cs:List String) (f:String) (tb:Zap):SV→M SV:=fun x S=>match Zb7 tb S x with
 | some g=>ZeN (g [x] S)
 | none=>Zd8 cs f x S
end MP
namespace MP
open PySem PySem.Spec PyProof.Rows L2
section
variable {X:Cx} {n:Nm}
theorem Zao.sub:Zao X n (binaryOp .Sub) Zkz where
 nx:=fun x y S=>by unfold Zkz; split<;>trivial
 ex:=by
  refine⟨_,op_sub,fun H w S x y v u Q s rx ry h=> ?_⟩
  unfold Zkz at h
  split at h
  ·exact⟨_,_,rx.i,ry.i,h.here s VR.oi⟩
  ·exact h.elim
theorem Zao.mul:Zao X n (binaryOp .Mult) ZfT where
 nx:=fun x y S=>by unfold ZfT; split<;>(try split)<;>trivial
 ex:=by
  refine⟨_,OpR.or op_mul op_mulW,fun H w S x y v u Q s rx ry h=> ?_⟩
  unfold ZfT at h
  split at h
  ·rename_i i j
   by_cases c:ZbW i j=true
   ·rw [if_pos c]at h
    have q:=Ycd s h VR.oi
    unfold ZbW at c
    simp only [YaO,YaK,decide_eq_true_eq]at c
    rcases c with (c | c) | c
    ·exact .inl ⟨_,_,rx.i,ry.i, .inl c,q⟩
    ·exact .inl ⟨_,_,rx.i,ry.i, .inr c,q⟩
    ·exact .inr ⟨_,_,rx.i,ry.i,c,q⟩
   ·rw [if_neg c]at h; exact h.elim
  ·exact h.elim
theorem Zao.div:Zao X n (binaryOp .FloorDiv) ZkA where
 nx:=fun x y S=>by unfold ZkA; split<;>(try split)<;>trivial
 ex:=by
  refine⟨_,op_fdivW,fun H w S x y v u Q s rx ry h=> ?_⟩
  unfold ZkA at h
  split at h
  ·rename_i i j
   by_cases c:Zek j=true
   ·rw [if_pos c]at h
    have q:=Ycd s h VR.oi
    unfold Zek at c
    simp only [YaK,decide_eq_true_eq]at c
    exact⟨_,_,rx.i,ry.i,c,q⟩
   ·rw [if_neg c]at h; exact h.elim
  ·exact h.elim
theorem Zao.pow:Zao X n (binaryOp .Pow) ZhB where
 nx:=fun x y S=>by unfold ZhB; split<;>(try split)<;>trivial
 ex:=by
  refine⟨_,op_pow,fun H w S x y v u Q s rx ry h=> ?_⟩
  unfold ZhB at h
  split at h
  ·rename_i i j
   by_cases c:Zgf i j=true
   ·rw [if_pos c]at h
    have q:=Ycd s h VR.oi
    unfold Zgf at c
    simp only [YaK,decide_eq_true_eq]at c
    exact⟨_,_,rx.i,ry.i,⟨c.1.1,c.1.2,c.2⟩,q⟩
   ·rw [if_neg c]at h; exact h.elim
  ·exact h.elim
theorem Zlu.neg:Zlu X n (unaryOp .USub) ZkB where
 nx:=fun x S=>by unfold ZkB; split<;>trivial
 ex:=by
  refine⟨_,un_neg,fun H w S x v Q s rx h=> ?_⟩
  unfold ZkB at h
  split at h
  ·exact⟨_,rx.i,Ycd s h VR.oi⟩
  ·exact h.elim
theorem Zao.add:Zao X n (binaryOp .Add) Zfd where
 nx:=fun x y S=>by unfold Zfd; split<;>(try split)<;>(try split)<;>trivial
 ex:=by
  refine⟨_,OpR.or op_add (OpR.or op_add_str (OpR.or op_catT op_cat)),fun H w S x y v u Q s rx ry h=> ?_⟩
  unfold Zfd at h
  split at h
  ·exact .inl ⟨_,_,rx.i,ry.i,Ycd s h VR.oi⟩
  ·rename_i a b
   by_cases c:a.length+b.length≤sizeLine
   ·rw [if_pos c]at h
    exact .inr (.inl ⟨_,_,rx.s,ry.s,c,Ycd s h VR.os⟩)
   ·rw [if_neg c]at h; exact h.elim
  ·rename_i xs ys
   by_cases c:xs≠ []∧ys≠ []∧xs.length+ys.length≤sizeLine
   ·rw [if_pos c]at h
    obtain⟨a,vs,e1,h1,r1⟩:=rx.t
    obtain⟨b,us,e2,h2,r2⟩:=ry.t
    have l1:=r1.len
    have l2:=r2.len
    have n1:vs≠ []:=fun z=>c.1 (by rw [z]at l1; exact YaP.mp l1.symm)
    have n2:us≠ []:=fun z=>c.2.1 (by rw [z]at l2; exact YaP.mp l2.symm)
    exact .inr (.inr (.inl ⟨a,b,vs,us,e1,e2,SqT.of h1,SqT.of h2,n1,by rw [l1,l2]; exact c.2.2,fun z=>absurd z n2,fun _ p hp=>KV.tup s (r1.append r2) h p hp⟩))
   ·rw [if_neg c]at h; exact h.elim
  ·rename_i m k
   split at h
   ·rename_i xs ys e1 e2
    by_cases c:xs.length+ys.length≤sizeLine
    ·rw [if_pos c]at h
     obtain⟨vs,h1,r1⟩:=s.obj m _ e1
     obtain⟨us,h2,r2⟩:=s.obj k _ e2
     exact .inr (.inr (.inr ⟨_,_,vs,us,rx.r.2,ry.r.2,h1,h2,by rw [r1.len,r2.len]; exact c,fun p hp=>YcU s (r1.append r2) h p hp⟩))
    ·rw [if_neg c]at h; exact h.elim
   ·exact h.elim
  ·exact h.elim
theorem Zbg {g:G} {w:Wd} {H:Hp}:∀{xs:List SV} {vs:List V} {ns:List Int},VRs g w H xs vs→ZbQ xs=some ns→vs=ns.map V.int
 | [],vs,ns,r,e=>by
  simp only [VRs]at r
  simp only [ZbQ,Option.some.injEq]at e
  rw [r,←e]; rfl
 | x::xs,vs,ns,r,e=>by
  simp only [VRs]at r
  obtain⟨v,t,rfl,r1,r2⟩:=r
  cases x with
  | int i=>
   simp only [ZbQ,YaI]at e
   obtain⟨ms,e1,rfl⟩:=e
   rw [r1.i,Zbg r2 e1]; rfl
  | _=>simp [ZbQ]at e
theorem Zao.lt (hu:X.A.units<cLine):Zao X n (compareOp .Lt) ltM where
 nx:=fun x y S=>by unfold ltM; split<;>(try split)<;>trivial
 ex:=by
  refine⟨_,OpR.or op_lt (OpR.or op_lt_str (op_ltT hu)),fun H w S x y v u Q s rx ry h=> ?_⟩
  unfold ltM at h
  split at h
  ·exact .inl ⟨_,_,rx.i,ry.i,Ycd s h YcB⟩
  ·exact .inr (.inl ⟨_,_,rx.s,ry.s,Ycd s h YcB⟩)
  ·split at h
   ·rename_i xs ys ns ms e1 e2
    obtain⟨a,vs,q1,h1,r1⟩:=rx.t
    obtain⟨b,us,q2,h2,r2⟩:=ry.t
    rw [Zbg r1 e1]at h1
    rw [Zbg r2 e2]at h2
    exact .inr (.inr ⟨a,b,ns,ms,q1,q2,SqT.of h1,SqT.of h2,Ycd s h YcB⟩)
   ·exact h.elim
  ·exact h.elim
theorem Zao.le:Zao X n (compareOp .LtE) leM where
 nx:=fun x y S=>by unfold leM; split<;>trivial
 ex:=by
  refine⟨_,op_le,fun H w S x y v u Q s rx ry h=> ?_⟩
  unfold leM at h
  split at h
  ·exact⟨_,_,rx.i,ry.i,Ycd s h YcB⟩
  ·exact h.elim
theorem Zao.gt:Zao X n (compareOp .Gt) gtM where
 nx:=fun x y S=>by unfold gtM; split<;>trivial
 ex:=by
  refine⟨_,op_gt,fun H w S x y v u Q s rx ry h=> ?_⟩
  unfold gtM at h
  split at h
  ·exact⟨_,_,rx.i,ry.i,Ycd s h YcB⟩
  ·exact h.elim
theorem Zao.ge:Zao X n (compareOp .GtE) geM where
 nx:=fun x y S=>by unfold geM; split<;>trivial
 ex:=by
  refine⟨_,op_ge,fun H w S x y v u Q s rx ry h=> ?_⟩
  unfold geM at h
  split at h
  ·exact⟨_,_,rx.i,ry.i,Ycd s h YcB⟩
  ·exact h.elim
theorem Zgg {g:G} {w:Wd} {H:Hp} {x:SV} {v:V} (r:VR g w H x v):decide (v= .non)=ZhC x:=by
 cases x with
 | non=>rw [r.nn]; rfl
 | bl b=>rw [r.b]; rfl
 | int i=>rw [r.i]; rfl
 | str z=>rw [r.s]; rfl
 | tup xs=>obtain⟨a,ys,e,_⟩:=r.t; rw [e]; rfl
 | ref m=>rw [r.r.2]; rfl
 | ty t=>rw [show v= .ty t from by simpa [VR]using r]; rfl
 | cls c=>rw [show v= .ref (g.cl c)from by simpa [VR]using r]; rfl
 | fn c=>rw [show v= .ref (g.fn c)from by simpa [VR]using r]; rfl
theorem Zao.is_:Zao X n (compareOp .Is) isM where
 nx:=fun x y S=>by unfold isM; split<;>trivial
 ex:=by
  refine⟨_,op_isN,fun H w S x y v u Q s rx ry h=> ?_⟩
  unfold isM at h
  split at h
  ·refine⟨ry.nn, ?_⟩
   rw [Zgg rx]
   exact Ycd s h YcB
  ·exact h.elim
theorem Zao.isn:Zao X n (compareOp .IsNot) ZkC where
 nx:=fun x y S=>by unfold ZkC; split<;>trivial
 ex:=by
  refine⟨_,op_notN,fun H w S x y v u Q s rx ry h=> ?_⟩
  unfold ZkC at h
  split at h
  ·refine⟨ry.nn, ?_⟩
   rw [Zgg rx]
   exact Ycd s h YcB
  ·exact h.elim
end
end MP
namespace MP
open PySem PySem.Spec PyProof.Rows L2
section
variable {X:Cx} {n:Nm} {xh:Xh} {W:WX} {e a b c:Expr} {es:List Expr} {ma mb mc me:EM} {mt mu:TM} {mr:AM} {pos:Pos}
def t2w (X:Cx) (n:Nm) (xh:Xh) (W:WX) (f:SV→SV→M SV) (ma mb:EM):TE:=fun σ H Q=>∃w S env,Sim (gx X n) w H S∧Fm (gx X n) xh w H env σ∧Out (e2 f ma mb env S) (KV (gx X n) w H Q) (KX (gx X n) w H fun cls d H'=>W cls d σ H')
theorem Zmc {f:SV→SV→M SV} {op:Value→Value→Sem Value} (o:R2w X n W op f) (ha:RE X n xh W a ma) (hb:RE X n xh W b mb) {pins:List (Addr × Obj)} {s:Shared} {σ:L2.St} {H:Hp} {Q:VK} (I:Inv X pins σ H s) (h:t2w X n xh W f ma mb σ H Q):
  wpAny (model X.prog X.w) X.A (eval a X.env) (fun v s₁=>wpAny (model X.prog X.w) X.A (eval b X.env) (fun u s₂=>wpAny (model X.prog X.w) X.A (op v u) (EP X pins σ Q) X.xe s₂) X.xe s₁) X.xe s:=by
 obtain⟨w,S,env,sm,fm,h⟩:=h
 obtain⟨ta,pa,ca⟩:=ha.ex
 obtain⟨tb,pb,cb⟩:=hb.ex
 refine binT pa pb (R:=fun x y H2=>∃w2 S2 a' b',Sim (gx X n) w2 H2 S2∧VR (gx X n) w2 H2 a' x∧VR (gx X n) w2 H2 b' y∧Out (f a' b' S2) (KV (gx X n) w2 H2 Q) (KX (gx X n) w2 H2 fun cls d H'=>W cls d σ H')) I ?_ ?_
 ·refine ca σ H w S env _ sm fm ((Yb5 h).imp (fun x S1 h1 w1 H1 v l1 k1 s1 r1=> ?_) fun _ _ z=>z)
  refine cb σ H1 w1 S1 env _ s1 (fm.mono l1 k1) ((Yb5 h1).imp (fun y S2 h2 w2 H2 u l2 k2 s2 r2=> ?_) fun _ _ z=>z.mono l1 k1)
  exact⟨w2,S2,x,y,s2,r1.mono l2 k2,r2,h2.imp (fun _ _ z=>z.mono (l1.trans l2) (k1.trans k2)) fun _ _ z=>z.mono (l1.trans l2) (k1.trans k2)⟩
 ·intro v u s2 x y H2 I2 rx ry ⟨w2,S2,a',b',sm2,ra,rb,q⟩
  exact o pins s2 σ H2 x y v u w2 S2 a' b' Q I2 rx ry sm2 ra rb q
theorem RE.cmpW {op:CmpOp} {f:SV→SV→M SV} (o:R2w X n W (compareOp op) f) (ha:RE X n xh W a ma) (hb:RE X n xh W b mb) (hm:behindInMarks op b=false:=by first | exact nomark _ | rfl):RE X n xh W (.Compare a [op] [b] pos) (e2 f ma mb):=
 ⟨t2w X n xh W f ma mb,⟨fun pins s σ H Q I h=>wpAny_Compare1 (Zmc o ha hb I h) hm⟩,fun σ H w S env Q s fm h=>⟨w,S,env,s,fm,h⟩⟩
theorem RT.cmpW {op:CmpOp} {f:SV→SV→M SV} (o:R2w X n W (compareOp op) f) (ha:RE X n xh W a ma) (hb:RE X n xh W b mb) (hm:behindInMarks op b=false:=by first | exact nomark _ | rfl):RT X n xh W (.Compare a [op] [b] pos) (MP.tB (e2 f ma mb)):=by
 refine⟨fun σ H Q=>t2w X n xh W f ma mb σ H (fun v H'=>∃k,v= .bl k∧Q k H'),⟨fun pins s σ H Q I h=> ?_⟩,fun σ H w S env Q s fm h=>⟨w,S,env,s,fm,(Yb5 h).imp (fun x S1 h1 w1 H1 v l1 k1 s1 r1=> ?_) fun _ _ z=>z⟩⟩
 ·refine wpAny_isTrue_Compare1 (wpAny_mono (Zmc o ha hb I h) (fun v s1 z=>wpAny_mono z (fun u s2 z=>wpAny_mono z (fun r s3 z=> ?_) fun _ _ z=>z) fun _ _ z=>z) fun _ _ z=>z) hm
  obtain⟨v',H3,I3,r3,k,ek,q⟩:=z
  subst ek
  cases r3
  exact wpAny_truthy_bool ⟨H3,I3,q⟩
 ·cases x with
  | bl k=>exact⟨k,VR.b r1,h1 w1 H1 l1 k1 s1⟩
  | _=>exact h1.elim
theorem RT.tru (ha:RE X n xh W e me) (he:∀whole,isTrue e X.env whole=(do let v←whole; standAt e.pos; holding [v] (truthy v)):=by intro _; rfl):RT X n xh W e (tT me):=by
 obtain⟨ta,pa,ca⟩:=ha.ex
 refine⟨_,pt_truth pa he,fun σ H w S env Q s fm h=> ?_⟩
 refine ca σ H w S env _ s fm ((Yb5 h).imp (fun x S1 h1 w1 H1 v l1 k1 s1 r1=> ?_) fun _ _ z=>z)
 have fin:∀{b:Bool},KB (gx X n) w H Q b S1→Q b H1:=fun q=>q w1 H1 l1 k1 s1
 cases x with
 | non=>rw [r1.nn]; exact⟨false,rfl,fin h1⟩
 | bl b=>rw [r1.b]; exact⟨b,rfl,fin h1⟩
 | int i=>rw [r1.i]; exact⟨_,rfl,fin h1⟩
 | str z=>
  rw [r1.s]
  unfold Zhm at h1
  simp only at h1
  by_cases hz:z.length≤sizeLine
  ·rw [if_pos hz]at h1
   refine⟨_,⟨hz,rfl⟩, ?_⟩
   have e:(((z.length:Int) != 0):Bool)=(z.length != 0):=by
    rw [Bool.eq_iff_iff]; simp
   rw [e]
   exact fin h1
  ·rw [if_neg hz]at h1; exact h1.elim
 | tup xs=>
  obtain⟨p,ys,ev,hp,rs⟩:=r1.t
  rw [ev]
  refine⟨_, .inr (.inl ⟨ys,SqT.of hp,rfl⟩), ?_⟩
  have e:(!ys.isEmpty)= !xs.isEmpty:=by
   have:=rs.len
   cases xs<;>cases ys<;>simp_all
  rw [e]
  exact fin h1
 | ref m=>
  rw [r1.r.2]
  unfold Zhm at h1
  simp only at h1
  cases q:S1[m]? with
  | none=>rw [q]at h1; exact h1.elim
  | some ob=>
   rw [q]at h1
   have em:∀{xs:List SV} {ys:List V},VRs (gx X n) w1 H1 xs ys→(!ys.isEmpty)= !xs.isEmpty:=fun{xs ys} rs=>by
    have:=rs.len
    cases xs<;>cases ys<;>simp_all
   cases ob with
   | lst xs=>
    obtain⟨ys,sq,rs⟩:=s1.seq (.inl q)
    refine⟨_, .inl ⟨ys,sq,rfl⟩, ?_⟩
    rw [em rs]; exact fin h1
   | frz xs=>
    obtain⟨ys,sq,rs⟩:=s1.seq (.inr q)
    refine⟨_, .inl ⟨ys,sq,rfl⟩, ?_⟩
    rw [em rs]; exact fin h1
   | dK kvs=>
    obtain⟨ys,h2,rs⟩:=s1.obj m _ q
    refine⟨_, .inr (.inr ⟨ys,h2,rfl⟩), ?_⟩
    have e:(!ys.isEmpty)= !kvs.isEmpty:=by
     cases kvs with
     | nil=>rw [show ys=[]from rs]; rfl
     | cons x xs=>obtain⟨v,r,rfl,_⟩:=rs; rfl
    rw [e]; exact fin h1
   | dT kvs=>exact h1.elim
   | dF kvs=>exact h1.elim
   | dG kvs=>exact h1.elim
   | ins c fs=>exact h1.elim
 | _=>exact h1.elim
theorem RE.callB {id:String} {x:Str} {p:Pos} {m:List SV→M SV} (o:Za2 X n (.builtin id) m) (hg:Gl X x) (hm:X.mg x=none) (hv:bootBuiltins x=some (.builtin id)) (ha:RA X n xh W (e::es) mr) (hn:x≠ "__name__":=by decide) (hdb:(x==("__debug__":Str))=false:=by decide)
  (he:starEach (e::es) X.env=(false,eval e X.env)::starEach es X.env:=by rfl) (hpl:(backTo pos (starEach es X.env)).any (·.1)=false:=by rfl):RE X n xh W (.Call (.Name x p) (e::es) [] pos) (eF m mr):=by
 obtain⟨r,ho,co⟩:=o.ex
 obtain⟨ta,pa,ca⟩:=ha.ex
 refine⟨_,pe_callB ho hg hm hv pa hn hdb he hpl,fun σ H w S env Q s fm h=> ?_⟩
 refine ca σ H w S env _ s fm ((Yb5 h).imp (fun xs S1 h1 w1 H1 vs l1 k1 s1 r1=> ?_) fun _ _ z=>z)
 exact co H1 w1 S1 xs vs Q s1 r1 ((h1.nox (o.nx _ _)).imp (fun _ _ z=>z.mono l1 k1) fun _ _ z=>z)
theorem RE.callT {T:String} {x:Str} {p:Pos} {m:List SV→M SV} (o:Za2 X n (.type T) m) (hg:Gl X x) (hm:X.mg x=none) (hv:bootBuiltins x=some (.type T)) (ha:RA X n xh W (e::es) mr) (hn:x≠ "__name__":=by decide) (hdb:(x==("__debug__":Str))=false:=by decide)
  (he:starEach (e::es) X.env=(false,eval e X.env)::starEach es X.env:=by rfl) (hpl:(backTo pos (starEach es X.env)).any (·.1)=false:=by rfl):RE X n xh W (.Call (.Name x p) (e::es) [] pos) (eF m mr):=by
 obtain⟨r,ho,co⟩:=o.ex
 obtain⟨ta,pa,ca⟩:=ha.ex
 refine⟨_,pe_callTy ho hg hm hv pa hn hdb he hpl,fun σ H w S env Q s fm h=> ?_⟩
 refine ca σ H w S env _ s fm ((Yb5 h).imp (fun xs S1 h1 w1 H1 vs l1 k1 s1 r1=> ?_) fun _ _ z=>z)
 exact co H1 w1 S1 xs vs Q s1 r1 ((h1.nox (o.nx _ _)).imp (fun _ _ z=>z.mono l1 k1) fun _ _ z=>z)
theorem RE.glob {x:Str} {v:V} {u:Value} {z:SV} (hg:Gl X x) (hm:X.mg x=some u) (r:RelV v u) (q:∀w H,VR (gx X n) w H z v) (hd:(x==("__debug__":Str))=false:=by decide):RE X n xh W (.Name x pos) (eC z):= .const (pe_glob hg hm r hd) q
theorem RE.gcls {x:Str} {c:String} (hg:Gl X x) (hm:X.mg x=some (.ref (n.cl c))) (hd:(x==("__debug__":Str))=false:=by decide):RE X n xh W (.Name x pos) (eC (.cls c)):= .glob (v:= .ref (n.cl c)) hg hm rfl (fun _ _=>by simp [VR]) hd
theorem RE.gint {x:Str} {i:Int} (hg:Gl X x) (hm:∃t,X.mg x=some (.int i t)) (hd:(x==("__debug__":Str))=false:=by decide):RE X n xh W (.Name x pos) (eC (.int i)):=by
 obtain⟨t,h⟩:=hm
 exact .glob (v:= .int i) hg h ⟨t,rfl⟩ (fun _ _=>VR.oi) hd
theorem RE.bty {x:Str} {T:String} (hg:Gl X x) (hm:X.mg x=none) (hv:bootBuiltins x=some (.type T)) (hn:x≠ "__name__":=by decide) (hd:(x==("__debug__":Str))=false:=by decide):RE X n xh W (.Name x pos) (eC (.ty T)):=
 .const (v:= .ty T) (pe_bltn hg hm hv rfl hn hd) fun _ _=>by simp [VR]
end
end MP
namespace MP
open PySem PySem.Spec PyProof.Rows L2
abbrev Wno:WX:=fun _ _ _ _=>False
theorem ZcC.wipe {g:G} {w:Wd} {H:Hp} {env:En} {σ:L2.St} (h:ZcC g w H env σ):∀vs:List Nat,ZcC g w H (Za1 env vs) (L2.wipe σ vs)
 | []=>h
 | v::vs=>by
  have ih:=ZcC.wipe h vs
  refine⟨by unfold Za1 L2.wipe; rw [Yap,Yap]; exact ih.1,fun i x e=> ?_⟩
  unfold Za1 at e
  unfold L2.wipe
  by_cases hv:v=i
  ·subst hv
   by_cases hl:v<(Za1 env vs).length
   ·rw [Yan hl]at e; cases e
   ·rw [YaQ (by simpa using hl)]at e; cases e
  ·rw [Yao hv]at e
   obtain⟨u,h1,h2⟩:=ih.2 i x e
   exact⟨u,by rw [Yao hv]; exact h1,h2⟩
theorem ZbE (σ:L2.St):∀vs us:List Nat,(∀v∈vs,v∈us)→Off us σ (L2.wipe σ vs)
 | [],us,_=>Off.refl us σ
 | v::vs,us,h=>(ZbE σ vs us fun x hx=>h x (Yau _ hx)).trans (Off.set (h v Yav))
theorem ZcU (σ:L2.St):∀(vs:List Nat) (i:Nat),i∈vs→i<σ.length→(L2.wipe σ vs)[i]? =some none
 | v::vs,i,h,hl=>by
  unfold L2.wipe
  by_cases hv:v=i
  ·subst hv
   rw [Yan (by rw [wipe_length]; exact hl)]
  ·rw [Yao hv]
   exact ZcU σ vs i ((Yas.mp h).elim (fun e=>absurd e.symm hv) id) hl
theorem Zbr {σ σ':L2.St} {vs:List Nat} (h:Off vs σ σ'):L2.wipe σ' vs=L2.wipe σ vs:=by
 refine List.ext_getElem? fun i=> ?_
 by_cases hi:i∈vs
 ·have hl0:=h.1
  by_cases hl:i<σ.length
  ·rw [ZcU σ vs i hi hl,ZcU σ' vs i hi (by omega)]
  ·rw [YaQ (by rw [wipe_length]; omega),YaQ (by rw [wipe_length]; omega)]
 ·have e1:=(ZbE σ vs vs fun _ z=>z).2 i hi
  have e2:=(ZbE σ' vs vs fun _ z=>z).2 i hi
  rw [e1,e2,h.2 i hi]
section
variable {X:Cx} {n:Nm} {xh:Xh} {W:WX} {e c:Expr} {ifs:List Expr} {me:EM} {mt:TM} {mg:GM}
def cTs (g:G) (xh:Xh) (W:WX) (m:TM):TT:=fun σ H Q=>∃w S env,Sim g w H S∧Fm g xh w H env σ∧Out (m env S) (KB g w H Q) (KX g w H fun cls d H'=>W cls d σ H')
theorem RTs.pts (h:RTs X n xh W ifs mt):PTs X ifs (cTs (gx X n) xh W mt):=by
 obtain⟨t,p,c⟩:=h.ex
 exact⟨fun pins s σ H Q I ⟨w,S,env,h1,h2,h3⟩=>p.run pins s σ H Q I (c σ H w S env Q h1 h2 h3)⟩
theorem Cok.blk {k:Nat} {gd:Bool} (C:Cok X W k gd) (s:Shared) (H:Hp) (scope:Scope) (ce:Env) (fp:List Addr):Cok (X.blk s H scope ce fp) Wno k gd where
 tk:=fun u s' ⟨_,_,_,_,_,_,_,_,_,_,_,_,_,_,_,_,z⟩=>z
 hp:=PassesOwn.never
 calm:=C.calm
 room:=C.room
 gs:=C.gs
 nd:=C.nd
theorem Zgh {g:G} {w:Wd} {H:Hp} {Q:VK} {d:Nat} {D:Addr} {E:XC→Zaa→Prop} {r:Res Unit} (hd:d<w.n) (hD:w.at_ d=D) (h:Out (r.bind fun _ S2=> .ok (.ref d) S2) (KV g w H Q) E):Out r (fun _ S2=>∀w' H',w.Le w'→Zag H H'→Sim g w' H' S2→Q (.ref D) H') E:=by
 cases r with
 | ok a S=>exact fun w' H' l k s=>h w' H' (.ref D) l k s (by simp only [VR]; exact⟨Yad hd l.1,by rw [l.2 d hd,hD]⟩)
 | exc x S=>exact h
 | bad=>exact h
structure ZiF (X:Cx) (n:Nm) (xh:Xh) (W:WX) (elt tg iter:Expr) (ifs:List Expr) (scope:Scope) (own:List (Str × Nat)) (m:EM):Prop where
 calm:X.calm=true
 nd:X.N.Nodup
 ok:BlkOk X.N X.env.scope scope own
 fold:∀x,foldedSetIterable iter X.env x=pure x
 ex:∃(wi:TI) (g:TG) (tt:TT) (te:TE),PI X tg iter wi∧(∀(s:Shared) (H:Hp) (C:Addr) (cl:List (Str × Addr)) (fp:List Addr),PG (X.blk s H scope (compEnvC scope cl C X.env) fp) tg g)∧(∀(s:Shared) (H:Hp) (C:Addr) (cl:List (Str × Addr)) (fp:List Addr),PTs (X.blk s H scope (compEnvC scope cl C X.env) fp) ifs tt)∧
  (∀(s:Shared) (H:Hp) (C:Addr) (cl:List (Str × Addr)) (fp:List Addr),PE (X.blk s H scope (compEnvC scope cl C X.env) fp) elt te)∧
  ∀(σ:L2.St) (H:Hp) (w:Wd) (S:Zaa) (env:En) (Q:VK),Sim (gx X n) w H S→Fm (gx X n) xh w H env σ→Out (m env S) (KV (gx X n) w H Q) (KX (gx X n) w H fun cls d H'=>W cls d σ H')→tLc wi g tt te (own.map (·.2)) σ H Q
theorem ZiF.mk' {elt tg iter:Expr} {scope:Scope} {own:List (Str × Nat)} {mi:IM} {vs:List Nat} {k:Nat} {gd:Bool} (C:Cok X W k gd) (hi:RI X n xh W tg iter mi) (ok:BlkOk X.N X.env.scope scope own) (hvs:own.map (·.2)=vs)
  (hg:∀(s:Shared) (H:Hp) (C:Addr) (cl:List (Str × Addr)) (fp:List Addr),RG (X.blk s H scope (compEnvC scope cl C X.env) fp) n Wno vs tg mg)
  (ht:∀(s:Shared) (H:Hp) (C:Addr) (cl:List (Str × Addr)) (fp:List Addr),Cok (X.blk s H scope (compEnvC scope cl C X.env) fp) Wno k gd→RTs (X.blk s H scope (compEnvC scope cl C X.env) fp) n none Wno ifs mt)
  (he:∀(s:Shared) (H:Hp) (C:Addr) (cl:List (Str × Addr)) (fp:List Addr),Cok (X.blk s H scope (compEnvC scope cl C X.env) fp) Wno k gd→RE (X.blk s H scope (compEnvC scope cl C X.env) fp) n none Wno elt me)
  (hs:∀x,foldedSetIterable iter X.env x=pure x:=by intro _; rfl):ZiF X n xh W elt tg iter ifs scope own (eLc mi mg mt me vs):=by
 subst hvs
 obtain⟨ti,pi,ci⟩:=hi.ex
 refine⟨C.calm,C.nd,ok,hs,ti,cG (gx X n) Wno (own.map (·.2)) mg,cTs (gx X n) none Wno mt,cE (gx X n) none Wno me,pi,fun s H c cl fp=>(hg s H c cl fp).pg,fun s H c cl fp=>(ht s H c cl fp (C.blk s H scope _ fp)).pts,fun s H c cl fp=>(he s H c cl fp (C.blk s H scope _ fp)).pe,fun σ H w S env Q s fm h=> ?_⟩
 have tm:∀x env S,Zec (mg x env S):=by
  have z:=fun s H c cl fp=>(hg s H c cl fp).tm
  exact z X.s_0 X.H_0 0 [] []
 refine ci σ H w S env _ s fm ((Yb5 h).imp (fun p S1 h1 w1 H1 J l1 k1 s1 hJ=> ?_) fun _ _ z=>z)
 intro D hD
 have kD:Zag H1 (upd H1 D (.lst [])):=Ycs hD
 have sD:Sim (gx X n) (w1.push D) (upd H1 D (.lst [])) (S1++[.lst []]):=s1.new kD hD (fun b u e=>ZaG hD b u e) ⟨[],upd_same,YcA⟩
 have lD:=w1.le_push D
 have nD:S1.length<(w1.push D).n:=by rw [s1.len]; exact Yaq _
 have aD:(w1.push D).at_ S1.length=D:=by rw [s1.len]; exact w1.push_at D
 have h2:=Zgh (D:=D) nD aD (h1.imp (K':=KV (gx X n) (w1.push D) (upd H1 D (.lst [])) Q) (E':=fun _ _=>True) (fun _ _ z=>Yc1 (l1.trans lD) (k1.trans kD) z) fun _ _ _=>trivial)
 have base:Fm (gx X n) none (w1.push D) (upd H1 D (.lst [])) (Za1 env (own.map (·.2))) (L2.wipe σ (own.map (·.2))):=⟨((fm.env.mono l1 k1).mono lD kD).wipe _,Ycq⟩
 refine⟨fun i m H'=>∃w' S',(w1.push D).Le w'∧Zag (upd H1 D (.lst [])) H'∧Sim (gx X n) w' H' S'∧
  Out (lcI mg mt me S1.length (Za1 env (own.map (·.2))) p.2 m i S') (fun _ S2=>∀w2 H2,w'.Le w2→Zag H' H2→Sim (gx X n) w2 H2 S2→Q (.ref D) H2) (fun _ _=>True),
  ⟨p.1,w1.push D,_,Wd.Le.refl _,Yb9 _,sD,h2⟩, ?_⟩
 rintro i m H' ⟨w',S',l',k',s',h'⟩
 cases m with
 | zero=>exact h'.elim
 | succ m=>
  unfold lcI at h'
  obtain⟨z1,z2⟩:=hJ i w' H' S' (lD.trans l') (kD.trans k') s'
  cases q:p.2 i S' with
  | none=>rw [q]at h'; exact h'.elim
  | some o=>
   rw [q]at h'
   cases o with
   | none=>exact .inl ⟨z1 q,h' w' H' (Wd.Le.refl _) (Yb9 _) s'⟩
   | some x=>
    obtain⟨go,z3⟩:=z2 x q
    simp only at h'
    refine .inr ⟨go,fun H3=>∃w3 S3,(w1.push D).Le w3∧Zag (upd H1 D (.lst [])) H3∧Sim (gx X n) w3 H3 S3∧
     Out (lcI mg mt me S1.length (Za1 env (own.map (·.2))) p.2 m (i+1) S3) (fun _ S2=>∀w2 H2,w3.Le w2→Zag H3 H2→Sim (gx X n) w2 H2 S2→Q (.ref D) H2) (fun _ _=>True),fun H3 z=>⟨m,Yaq m,z⟩,fun y H2 hy=> ?_⟩
    obtain⟨w2,l2,k2,s2,r2⟩:=z3 y H2 hy
    have fm2:=base.mono (l'.trans l2) (k'.trans k2)
    refine⟨w2,S',Za1 env (own.map (·.2)),x,s2,fm2.env,r2, ?_⟩
    cases hgx:mg x (Za1 env (own.map (·.2))) S' with
    | nx env2 S2=>
     rw [hgx]at h'
     intro w3 H3 σ3 l3 k3 s3 e3 o3
     refine⟨?_, ?_⟩
     ·rw [Zbr o3]
      exact Zbr (ZbE σ _ _ fun _ z=>z)
     refine⟨w3,S2,env2,s3,⟨e3,Ycq⟩, ?_⟩
     simp only at h'
     cases htx:mt env2 S2 with
     | bad=>rw [htx]at h'; exact h'.elim
     | exc x S3=>rw [htx]at h'; exact h'.elim
     | ok b S3=>
      rw [htx]at h'
      intro w4 H4 l4 k4 s4
      cases b with
      | false=>
       simp only [YaR,if_false]
       exact⟨w4,S3,(l'.trans l2).trans (l3.trans l4),(k'.trans k2).trans (k3.trans k4),s4,h'.imp (fun _ _ z w5 H5 l5 k5 s5=>z w5 H5 ((l2.trans (l3.trans l4)).trans l5) ((k2.trans (k3.trans k4)).trans k5) s5) fun _ _ z=>z⟩
      | true=>
       simp only [if_true]
       refine⟨w4,S3,env2,s4,⟨e3.mono l4 k4,Ycq⟩, ?_⟩
       simp only at h'
       cases hex:me env2 S3 with
       | bad=>rw [hex]at h'; exact h'.elim
       | exc x S3=>rw [hex]at h'; exact h'.elim
       | ok y S4=>
        rw [hex]at h'
        intro w5 H5 v l5 k5 s5 r5
        simp only at h'
        have lall:(w1.push D).Le w5:=((l'.trans l2).trans (l3.trans l4)).trans l5
        have kall:Zag (upd H1 D (.lst [])) H5:=((k'.trans k2).trans (k3.trans k4)).trans k5
        have a5:w5.at_ S1.length=D:=(lall.2 _ nD).trans aD
        split at h'
        ·rename_i acc eacc
         split at h'
         ·rename_i hlt
          obtain⟨ys,hl,rs⟩:=s5.obj _ _ eacc
          rw [a5]at hl
          obtain⟨kk,sk⟩:=s5.setL eacc (rs.append (YcH r5))
          rw [a5]at kk sk
          refine⟨ys,hl,by rw [rs.len]; exact hlt,w5,_,lall,kall.trans kk,sk,h'.imp (fun _ _ z w6 H6 l6 k6 s6=>z w6 H6 (((l2.trans (l3.trans l4)).trans l5).trans l6) ((((k2.trans (k3.trans k4)).trans k5).trans kk).trans k6) s6) fun _ _ z=>z⟩
         ·exact h'.elim
        ·exact h'.elim
    | exc x env2 S2=>rw [hgx]at h'; exact h'.elim
    | bad=>rw [hgx]at h'; exact h'.elim
    | rt v S2=>rw [hgx]at h'; exact h'.elim
    | bk env2 S2=>rw [hgx]at h'; exact h'.elim
    | ct env2 S2=>rw [hgx]at h'; exact h'.elim
theorem RE.lc {elt tg iter:Expr} {scope:Scope} {own:List (Str × Nat)} {pos:Pos} {m:EM} (L:ZiF X n xh W elt tg iter ifs scope own m):RE X n xh W (.ListComp elt [⟨tg,iter,ifs,0⟩] scope pos) m:=by
 obtain⟨wi,g,tt,te,h1,h2,h3,h4,h5⟩:=L.ex
 exact⟨_,pe_lc L.calm L.nd h1 L.ok h2 h3 h4 L.fold,h5⟩
theorem RS.setLc {elt tg iter:Expr} {scope:Scope} {own:List (Str × Nat)} {pos spos py:Pos} {m:EM} {y:Str} (i:Nat) (L:ZiF X n xh W elt tg iter ifs scope own m) (hy:X.N[i]? =some y) (hyl:X.env.scope.names.lookup y=some .local:=by rfl)
  (hk:X.env.scope.kind= .function:=by rfl) (hl:(py.line==pos.line)=true:=by rfl) (ha:(scope.names.any fun(n,k)=>n==y&&(k== .local || k== .cell))=false:=by decide+kernel):
  RS X n xh W (.Assign [.Name y py] (.ListComp elt [⟨tg,iter,ifs,0⟩] scope pos) spos) (Zde m (Zb8 i)):=by
 obtain⟨wi,g,tt,te,h1,h2,h3,h4,h5⟩:=L.ex
 refine⟨_,ps_setLc L.calm L.nd hy hyl (sw_true hk hyl hl ha) h1 L.ok h2 h3 h4 L.fold,fun σ H w S env D s fm h=> ?_⟩
 refine h5 σ H w S env _ s fm ((YcP fm.env h).imp (fun x S1 h1 w1 H1 v l1 k1 s1 r1=> ?_) fun _ _ z=>z)
 exact h1 w1 H1 _ l1 k1 s1 ((fm.env.mono l1 k1).set r1)
end
end MP
namespace MP
open PySem PySem.Spec PyProof.Rows L2
section
variable {X:Cx} {n:Nm} {xh:Xh} {W:WX} {gd gc:Bool} {k j:Nat} {f:Addr} {fd:FuncData} {ps:List Str} {m m':List SV→M SV} {dxs:List SV} {dn:Str} {c:String}
theorem Cok.le {k':Nat} (C:Cok X W k gd) (h:k'≤k):Cok X W k' gd:=⟨C.tk,C.hp,C.calm,C.room.mono h,C.gs,C.nd⟩
theorem ZhD {M:Model} {A:Around} {E:Value→Shared→Prop} {s:Shared} {K:PySem.W.Frag} {x C:Addr} {ox:Obj} {od:Option Obj} {name:Str} {i:String} {args:List Value} {Q:Option Value→Shared→Prop} (Z:K.In s.heap) (I:PySem.W.InstAt s.heap x ox C od) (hs:PySem.W.findIn K (.ref C) name=some (some (.builtin i)))
  (hb:∀self,bindSpecial (.builtin i) self=pure (.builtin i,[self])) (h:wpAny M A (call (.builtin i) (.ref x::args)) (fun v=>Q (some v)) E s):wpAny M A (callSpecialIfBound? (.ref x) name args) Q E s:=by
 simp only [callSpecialIfBound?,bindSpecialIfBound?]
 refine wpAny_holding (wpAny_bind (wpAny_bind (wpAny_bind (I.type.here ((PySem.W.looks_findIn Z hs).here ?_)))))
 refine wpAny_bind (wpAny_askSetting (wpAny_ite ?_))
 have fin:wpAny M A (call (.builtin i) ([.ref x]++args)>>=fun v=>pure (some v)) Q E s:=wpAny_bind (wpAny_mono h (fun v s' h'=>wpAny_pure h') fun _ _ h'=>h')
 split
 ·rw [hb]
  exact wpAny_bind (wpAny_pure (wpAny_pure fin))
 ·rw [hb]
  exact wpAny_tryCatch (wpAny_bind (wpAny_pure (wpAny_pure fin)))
theorem ZhE (self:Value):bindSpecial (.builtin "object.__ne__") self=pure (.builtin "object.__ne__",[self]):=
 (Slot.of (T:= "object") (name:= "__ne__") (owner:= "object") (n:= "__ne__") (by rw [typeLookup_type,builtinLookup_eq_fast]; kernel_rfl) (by decide+kernel) (by decide+kernel) (by decide+kernel)
  (.inl (by decide+kernel)) (by rw [isSubtype_type]; kernel_rfl)).bind self
theorem Zgi (args:Args):(Code.builtin "object.__ne__" args).quiet=true:=by
 first
  | rfl
  | kernel_rfl
theorem ZhF {prog:Program} {w:World} {A:Around} {E:Value→Shared→Prop} {s:Shared} {K:PySem.W.Frag} {x C f:Addr} {ox:Obj} {od:Option Obj} {b:Value} {Q:Value→Shared→Prop} (hu:A.units+1<cLine) (Z:K.In s.heap) (I:PySem.W.InstAt s.heap x ox C od)
  (hm:PySem.W.mroIn K C (.type "object")=some true) (hs:PySem.W.findIn K (.ref C) "__eq__"=some (some (.ref f))) (hf:PySem.W.isFn K (.ref f)=true)
  (h:wpAny (model prog w) A.in1 (call (.ref f) [.ref x,b]) (fun v s'=>∃k,v= .bool k∧Q (.bool (!k)) s') E s):wpAny (model prog w) A (call (.builtin "object.__ne__") [.ref x,b]) Q E s:=by
 refine wpAny_call (codeAny_call_builtin_at (Zgi _) F.cmpEntry_ne (PySem.W.check_slot F.cmpKind_ne F.cmpSplit_ne (I.type.andThen (PySem.W.looks_mroIn Z hm)) (F.cmpArgs_ne _ _) ?_))
 show wpAny (model prog w) A.in1 (Builtin.«object.__ne__» ⟨[.ref x,b],[]⟩) _ _ s
 unfold Builtin.«object.__ne__»
 refine wpAny_bind (m:=slotArgs "__ne__" 1 _) (wpAny_pure ?_)
 refine wpAny_bind (wpAny_cRoomFor (by show A.units+1<cLine; exact hu) ?_)
 refine wpAny_bind (m:=callSpecialIfBound? (.ref x) (Str.ofString "__eq__") [b]) (PySem.W.ifBound_K Z I hs hf (wpAny_mono h (fun v s' hv=> ?_) fun _ _ e=>e))
 obtain⟨k,rfl,q⟩:=hv
 refine wpAny_bind (m:=truthy (.bool k)) (wpAny_truthy_bool ?_)
 exact wpAny_pure q
theorem Zmd {prog:Program} {w:World} {A:Around} {E:Value→Shared→Prop} {s:Shared} {K:PySem.W.Frag} {x C f:Addr} {ox:Obj} {od:Option Obj} {b t:Value} {Q:Value→Shared→Prop} (hu:A.units+1<cLine) (Z:K.In s.heap) (I:PySem.W.InstAt s.heap x ox C od)
  (hb:PySem.W.Looks (model prog w) s.heap (typeOf b) t) (hn:PySem.W.notFirst K C t=true) (hm:PySem.W.mroIn K C (.type "object")=some true) (hs:PySem.W.findIn K (.ref C) "__eq__"=some (some (.ref f))) (hf:PySem.W.isFn K (.ref f)=true)
  (hne:PySem.W.findIn K (.ref C) "__ne__"=some (some (.builtin "object.__ne__")))
  (h:wpAny (model prog w) A.in1 (call (.ref f) [.ref x,b]) (fun v s'=>∃k,v= .bool k∧Q (.bool (!k)) s') E s):wpAny (model prog w) A (richCompare .NotEq (.ref x) b) Q E s:=by
 have try1:wpAny (model prog w) A (tryCompare (.ref x) "__ne__" b) (fun r s'=>∃k,r=some (.bool k)∧Q (.bool k) s') E s:=by
  unfold tryCompare
  have z:=ZhF (Q:=fun v s'=>∃k,v= .bool k∧Q (.bool k) s') hu Z I hm hs hf (wpAny_mono h (fun v s' ⟨k,e,q⟩=>⟨k,e, !k,rfl,q⟩) fun _ _ e=>e)
  refine wpAny_bind (ZhD Z I hne ZhE (wpAny_mono z (fun v s' hv=> ?_) fun _ _ e=>e))
  obtain⟨k,rfl,q⟩:=hv
  exact wpAny_pure ⟨k,rfl,q⟩
 unfold richCompare
 simp only [oneThing_ref]
 refine wpAny_holding (wpAny_bind (wpAny_cRoomFor (by omega) (wpAny_bind (I.type.here (wpAny_bind (hb.here ?_))))))
 rw [cmpInfo_NotEq]
 dsimp only
 split
 ·rename_i q
  have e:PySem.W.subIn K t (.ref C)=some false:=by
   rcases Bool.or_eq_true_iff.mp hn with e | e
   ·rw [beq_iff_eq.mp e]at q
    simp at q
   ·exact beq_iff_eq.mp e
  refine wpAny_bind ((PySem.W.looks_subIn Z e).here ?_)
  simp only [YaR,if_false]
  refine wpAny_bind (wpAny_mono try1 (fun r s' z=> ?_) fun _ _ e=>e)
  obtain⟨k,rfl,q⟩:=z
  exact wpAny_pure q
 ·refine wpAny_bind (wpAny_pure ?_)
  simp only [YaR,if_false]
  refine wpAny_bind (wpAny_mono try1 (fun r s' z=> ?_) fun _ _ e=>e)
  obtain⟨k,rfl,q⟩:=z
  exact wpAny_pure q
theorem ZkD {pins:List (Addr × Obj)} {σ:L2.St} {Q:VK} {R:Value→Shared→Prop} {u:Value} {s':Shared} {p:Bool→Bool} (h:EP X pins σ (fun v H'=>∃k,v= .bl k∧Q (.bl (p k)) H') u s') (q:∀k,u= .bool k→EP X pins σ Q (.bool (p k)) s'→R u s'):R u s':=by
 obtain⟨v,H',I,r,k,rfl,z⟩:=h
 exact q k r ⟨.bl (p k),H',I,rfl,z⟩
theorem Zme {w:Wd} {H:Hp} {Q:VK} {S:Zaa} {p:Bool→Bool} {g:Zaa→Res SV} {E:XC→Zaa→Prop} (h:Out ((g S).bind (blB p)) (KV (gx X n) w H Q) E):Out (g S) (KV (gx X n) w H (fun v H'=>∃k,v= .bl k∧Q (.bl (p k)) H')) E:=by
 refine(Yb5 h).imp (fun a S1 h1 w1 H1 v l1 k1 s1 r1=> ?_) fun _ _ z=>z
 cases a with
 | bl b=>exact⟨b,r1.b,h1 w1 H1 (.bl (p b)) l1 k1 s1 YcB⟩
 | _=>exact h1.elim
theorem R2w.ownNe {tb:Zap} {cs:List String} (C:Cok X W k gd) (T:Zaw X n k gd "__eq__" tb) (F:Znr X.K n cs) (hcs:∀p∈tb,p.1∈cs) (hne:∀p∈tb,PySem.W.findIn X.K (.ref (n.cl p.1)) "__ne__"=some (some (.builtin "object.__ne__"))):R2w X n W (compareOp .NotEq) (ownN tb cs):=by
 intro pins s σ H x y v u w S a b Q I rx ry sm ra rb h
 unfold ownN at h
 cases q:Zb7 tb S a with
 | none=>rw [q]at h; exact h.elim
 | some g=>
  rw [q]at h
  simp only at h
  by_cases hk:ZiA cs S b=true
  ·rw [if_pos hk]at h
   unfold Zb7 at q
   obtain⟨c,q1,q2⟩:=YaF.mp q
   obtain⟨p,dx,fs,ox,od,rfl,rfl,ha,J⟩:=ZeL I sm ra rx q1
   obtain⟨f,hm,run⟩:=(T.look q2).run C
   obtain⟨t,L,nf⟩:=ZiC F (hcs _ (Zbf q2)) I sm rb ry hk
   show wpAny (model X.prog X.w) X.A (richCompare .NotEq _ _) _ _ _
   refine Zmd (by have:=C.room.units; omega) I.kIn J L nf (F.isa.ty _ (hcs _ (Zbf q2))).2.2 hm.at_ hm.fn (hne _ (Zbf q2)) (thn (run I (.cons rx (.cons ry .nil)) sm (Ycg ra (YcH rb)) (Zme (g:=g [a,b]) h)).2 fun u' s' z=> ?_)
   exact ZkD (p:=not) (R:=fun u' s'=>∃k,u'= .bool k∧EP X pins σ Q (.bool (!k)) s') z fun k e y=>⟨k,e,y⟩
  ·rw [if_neg hk]at h; exact h.elim
theorem R2w.orL {f g:SV→SV→M SV} {o:Value→Value→Sem Value} (h1:R2w X n W o f) (h2:R2w X n W o g):R2w X n W o (orL f g):=fun pins s σ H x y v u w S a b Q I rx ry sm ra rb h=>by
 unfold MP.orL at h
 split at h
 ·exact h1 pins s σ H x y v u w S a b Q I rx ry sm ra rb h
 ·exact h2 pins s σ H x y v u w S a b Q I rx ry sm ra rb h
end
end MP
namespace MP
open PySem PySem.Spec PyProof.Rows L2
section
variable {X:Cx} {n:Nm} {xh:Xh} {W:WX} {gd gc:Bool} {k j:Nat} {f:Addr} {fd:FuncData} {ps:List Str} {m m':List SV→M SV} {dxs:List SV} {dn:Str} {c:String} {tb:Zap} {o e:Expr} {es:List Expr} {mo me:EM} {mr:AM} {pos apos:Pos} {pl:Sem Bool}
theorem Zgj {α:Type} {r:Res α} {K:α→Zaa→Prop} {E:XC→Zaa→Prop} (h:Out (ZeN r) K E):Out r K fun _ _=>False:=by
 cases r<;>exact h
theorem ZhG {pins:List (Addr × Obj)} {σ:L2.St} {H:Hp} {s:Shared} {Q:VK} {us:List Value} {vs:List V} {xs:List SV} {w:Wd} {S:Zaa} (C:Cok X W k gd) (F:Fd gc X.prog X.w X.K X.mg X.base n j f fd ps m) (hj:j+1≤k) (hg:gc=true→gd=true)
  {args:Args} (hb:BindsTo s fd args (ps.zip us)) (I:Inv X pins σ H s) (r:Vals vs us) (sm:Sim (gx X n) w H S) (rs:VRs (gx X n) w H xs vs) (h:Out (m xs S) (KV (gx X n) w H Q) fun _ _=>False):
  codeAny (model X.prog X.w) X.A.in1 (.call (.ref f) args) (fun r s'=>match r with | .ok (.ret u)=>EP X pins σ Q u s' | .ok _=>False | .error e=>False) s:=by
 have hl:vs.length=ps.length:=by
  refine Classical.byContradiction fun z=> ?_
  rw [F.ar xs S (by rw [←rs.len]; exact z)]at h
  exact h
 refine codeAny_mono (F.fn.run X.A.in1 X.stack s H args us vs Q (fun _ _ _=>False) (fun z=>C.gs (hg z)) ((C.room.mono hj).in1) I.env0.in1 hb r ⟨hl,w,S,xs,sm,rs,h.imp (fun _ _ z=>z) fun _ _ z=>z.elim⟩) fun r s' hq=> ?_
 cases r with
 | error e=>
  obtain⟨_,_,_,_,_,_,_,_,_,_,_,_,z⟩:=hq
  exact z.elim
 | ok fl=>
  cases fl with
  | ret u=>exact I.after hq
  | next=>exact hq.elim
  | brk=>exact hq.elim
  | cont=>exact hq.elim
theorem ZkE {fn:Str} {pins:List (Addr × Obj)} {σ:L2.St} {H:Hp} {s:Shared} {Q:VK} {b:Bool} {a dx:Addr} {ys:List (Str × V)} {w:Wd} {S:Zaa} {x:SV} (C:Cok X W k gd) (O:ZnV X n k gd fn c m) (I:Inv X pins σ H s) (ea:H a=some (.ins (n.cl c) dx ys)) (sm:Sim (gx X n) w H S) (r:VR (gx X n) w H x (.ref a))
  (h:Out (m [x] S) (KV (gx X n) w H Q) fun _ _=>False):wpAny (model X.prog X.w) X.A (getAttr (.ref a) fn b) (EP X pins σ Q) X.xe s:=by
 obtain⟨p,g,fd,ps,j,gc,P,cc,F,D,hj,hg⟩:=O.ex
 obtain⟨mA,O,_,_,_,_⟩:=ins_get I.hok ea
 obtain⟨od,J,_⟩:=O.look
 obtain⟨rest,hrec⟩:=P.rec_
 have I1:=I.tok (s.toks+1)
 obtain⟨dvs,ds,rd,hb,hd⟩:=D.ex
 have rs2:=(YcH r).append (hd w H)
 have r2:=Vals.append (Paired.cons (show RelV (V.ref a) (Value.ref a)from rfl) .nil) rd
 have h:Out (m ([x]++[]) S) (KV (gx X n) w H Q) (fun _ _=>False):=h
 have hl:([Value.ref a]++ds).length=ps.length:=by
  refine Classical.byContradiction fun z=> ?_
  rw [F.ar ([x]++[]) S (by rw [←rs2.len,r2.length]; exact z)]at h
  exact h
 have isc:(PySem.W.clsIn X.K (n.cl c)).isSome=true:=by
  obtain⟨cd,hc,_⟩:=PySem.W.any_some cc.hd
  exact hc▸rfl
 have go:=ZhG C F hj hg (hb {s with toks:=s.toks+1} [.ref a] I.kIn hl) I1 r2 sm rs2 h
 refine PySem.W.get_bind I.kIn J (PySem.W.plainGet_of (cc.get fn)).1 (PySem.W.findObj_data isc P.at_ P.get P.tak) (PySem.W.plainGet_of (cc.get fn)).2 (wpAny_call (PySem.W.prop_get (s:={s with toks:=s.toks+1}) I.kIn hrec (codeAny_mono go fun z s' hq=> ?_)))
 cases z with
 | error er=>exact False.elim hq
 | ok fl=>
  cases fl with
  | ret u=>
   obtain⟨v,H',I3,rv,q3⟩:=hq
   show wpAny _ _ (handedOut u) _ _ _
   rw [PySem.W.handedOut_of (handed_of rv)]
   exact wpAny_pure ⟨v,H',I3,rv,q3⟩
  | next=>exact hq.elim
  | brk=>exact hq.elim
  | cont=>exact hq.elim
theorem RE.attr {fn:String} {cs:List String} (C:Cok X W k gd) (T:ZcG X n k gd (Str.ofString fn) tb) (TF:Znt X.K n cs fn) (h:RE X n xh W e me) (hb:attributeBase e (Str.ofString fn) X.env (eval e X.env)=eval e X.env:=by rfl):RE X n xh W (.Attribute e (Str.ofString fn) pos) (e1 (ZdH cs fn tb) me):=by
 refine⟨methT X n xh W (e1 (ZdH cs fn tb) me),⟨fun pins s σ H Q I ⟨w,S,env,sm,fm,h1⟩=> ?_⟩,fun σ H w S env Q s fm h=>⟨w,S,env,s,fm,h⟩⟩
 obtain⟨to,po,co⟩:=h.ex
 have q0:=co σ H w S env (fun v H1=>∃w1 S1 x,Sim (gx X n) w1 H1 S1∧VR (gx X n) w1 H1 x v∧Out (ZdH cs fn tb x S1) (KV (gx X n) w1 H1 Q) (KX (gx X n) w1 H1 fun cls d H'=>W cls d σ H')) sm fm
  ((Yb5 h1).imp (fun x S1 h1 w1 H1 v l1 k1 s1 r1=>⟨w1,S1,x,s1,r1,Out.imp h1 (fun _ _ z=>z.mono l1 k1) fun _ _ z=>z.mono l1 k1⟩) fun _ _ z=>z)
 refine attr_of hb (thn (po.run pins s σ H _ I q0) fun u s1 ⟨v,H1,I1,ru,w1,S1,x,s1',r1,h2⟩=> ?_)
 unfold ZdH at h2
 cases q:Zb7 tb S1 x with
 | some g=>
  rw [q]at h2
  unfold Zb7 at q
  obtain⟨c,q1,q2⟩:=YaF.mp q
  obtain⟨a,dx,fs,ox,od,rfl,rfl,ha,J⟩:=ZeL I1 s1' r1 ru q1
  exact ZkE C (T _ (Zbf q2)) I1 ha s1' r1 (Zgj h2)
 | none=>
  rw [q]at h2
  unfold Zd8 at h2
  cases x with
  | ref i=>
   simp only at h2
   split at h2
   ·rename_i c fs eo
    split at h2
    ·rename_i hc
     unfold Zgd at h2
     split at h2
     ·rename_i y ey
      obtain⟨dx,ys,h3,h4⟩:=Zf9 s1' eo
      obtain⟨z,h5,h6⟩:=h4.look ey
      have hv:=r1.r.2
      subst hv
      have hu:u= .ref (w1.at_ i):=ru
      subst hu
      exact getattr_ok I1 h3 (TF c hc).1 (TF c hc).2 h5 fun u' s2 I2 ru'=>⟨z,H1,I2,ru',h2 w1 H1 z (Wd.Le.refl _) (Yb9 _) s1' h6⟩
     ·exact h2.elim
    ·exact h2.elim
   ·exact h2.elim
  | _=>exact h2.elim
end
end MP
namespace MP
open PySem PySem.Spec PyProof.Rows L2
section
variable {X:Cx} {n:Nm} {xh:Xh} {W:WX} {gd gc:Bool} {k j:Nat} {f:Addr} {fd:FuncData} {ps:List Str} {m m':List SV→M SV} {dxs:List SV} {dn:Str} {c:String} {tb:Zap} {o e a b:Expr} {es:List Expr} {mo me ma mb:EM} {mt:TM} {ms:SM} {mr:AM} {pos apos p:Pos} {pl:Sem Bool}
def ipM (f:Int→Int→Int):SV→SV→M SV:=fun x y S=>match x,y with
 | .int i, .int j=> .ok (.int (f i j)) S
 | _,_=> .bad
theorem RT.chain {op op':CmpOp} {f f':SV→SV→M SV} {a b c:Expr} {ma mb mc:EM} (o:Zao X n (compareOp op) f) (o':Zao X n (compareOp op') f') (ha:RE X n xh W a ma) (hb:RE X n xh W b mb) (hc:RE X n xh W c mc)
  (hm:lastMarks [op,op'] [b,c]=false:=by with_unfolding_all rfl):RT X n xh W (.Compare a [op,op'] [b,c] pos) (MP.tB (Zfb f f' ma mb mc)):=by
 obtain⟨r,ho,co⟩:=o.ex
 obtain⟨r',ho',co'⟩:=o'.ex
 obtain⟨ta,pa,ca⟩:=ha.ex
 obtain⟨tb,pb,cb⟩:=hb.ex
 obtain⟨tc,pc,cc⟩:=hc.ex
 refine⟨_,pt_chain ho ho' pa pb pc hm,fun σ H w S env Q s fm h=> ?_⟩
 have h0:=Yb5 h
 refine ca σ H w S env _ s fm ((Yb5 h0).imp (fun x S1 h1 w1 H1 v l1 k1 s1 r1=> ?_) fun _ _ z=>z)
 refine cb σ H1 w1 S1 env _ s1 (fm.mono l1 k1) ((Yb5 h1).imp (fun y S2 h2 w2 H2 u l2 k2 s2 r2=> ?_) fun _ _ z=>z.mono l1 k1)
 refine co H2 w2 S2 x y v u _ s2 (r1.mono l2 k2) r2 (((Yb5 h2).nox (o.nx _ _ _)).imp (fun z S3 h3 w3 H3 t l3 k3 s3 r3=> ?_) fun _ _ z=>z)
 cases z with
 | bl k=>
  refine⟨k,r3.b, ?_⟩
  cases k with
  | true=>
   refine cc σ H3 w3 S3 env _ s3 (fm.mono ((l1.trans l2).trans l3) ((k1.trans k2).trans k3)) ((Yb5 h3).imp (fun z' S4 h4 w4 H4 t' l4 k4 s4 r4=> ?_) fun _ _ z=>z.mono ((l1.trans l2).trans l3) ((k1.trans k2).trans k3))
   refine co' H4 w4 S4 y z' u t' _ s4 (r2.mono (l3.trans l4) (k3.trans k4)) r4 ((h4.nox (o'.nx _ _ _)).imp (fun q S5 h5 w5 H5 z5 l5 k5 s5 r5=> ?_) fun _ _ z=>z)
   cases q with
   | bl b=>exact⟨b,r5.b,h5 w5 H5 ((((l1.trans l2).trans l3).trans l4).trans l5) ((((k1.trans k2).trans k3).trans k4).trans k5) s5⟩
   | _=>exact h5.elim
  | false=>exact⟨false,rfl,h3 w3 H3 ((l1.trans l2).trans l3) ((k1.trans k2).trans k3) s3⟩
 | _=>exact h3.elim
theorem RE.callF {x:Str} {p:Pos} {m1:List SV→M SV} (C:Cok X W k gd) (F:Fd gc X.prog X.w X.K X.mg X.base n j f fd ps m) (D:Dfl X n fd ps dxs) (hgl:Gl X x) (hm:X.mg x=some (.ref f)) (ha:RA X n xh W (e::es) mr) (em:∀xs,m1 xs=m (xs++dxs):=by intro xs; simp only [YaS]) (hj:j≤k:=by decide) (hg:gc=true→gd=true:=by decide)
  (hdb:(x==("__debug__":Str))=false:=by decide) (he:starEach (e::es) X.env=(false,eval e X.env)::starEach es X.env:=by rfl) (hpl:(backTo pos (starEach es X.env)).any (·.1)=false:=by rfl):
  RE X n xh W (.Call (.Name x p) (e::es) [] pos) (eF m1 mr):=by
 obtain rfl:m1=fun xs=>m (xs++dxs):=funext em
 exact RE.call C F D hgl hm ha hj hg hdb he hpl
theorem RE.makeF {x:Str} {p:Pos} {m1:List SV→M SV} {c:String} (C:Cok X W k gd) (Mk':Mk X.K (n.cl c) f) (F:Fd gc X.prog X.w X.K X.mg X.base n j f fd ps m) (D:Dfl X n fd ps dxs) (hgl:Gl X x) (hm:X.mg x=some (.ref (n.cl c))) (ha:RA X n xh W (e::es) mr) (em:∀xs,m1 xs=m (xs++dxs):=by intro xs; simp only [YaS]) (hj:j+1≤k:=by decide) (hg:gc=true→gd=true:=by decide)
  (hdb:(x==("__debug__":Str))=false:=by decide) (he:starEach (e::es) X.env=(false,eval e X.env)::starEach es X.env:=by rfl) (hpl:(backTo pos (starEach es X.env)).any (·.1)=false:=by rfl):
  RE X n xh W (.Call (.Name x p) (e::es) [] pos) (eF (Zcf c m1) mr):=by
 obtain rfl:m1=fun xs=>m (xs++dxs):=funext em
 exact RE.make C Mk' F D hgl hm ha hj hg hdb he hpl
theorem RT.truO {tb:Zap} (C:Cok X W k gd) (T:Zaw X n k gd "__bool__" tb) (ha:RE X n xh W e me) (he:∀whole,isTrue e X.env whole=(do let v←whole; standAt e.pos; holding [v] (truthy v)):=by intro _; rfl):RT X n xh W e (tTO tb me):=by
 have pl:=(RT.tru ha he).ex
 obtain⟨t0,p0,c0⟩:=pl
 obtain⟨ta,pa,ca⟩:=ha.ex
 refine⟨fun σ H Q=>∃w S env,Sim (gx X n) w H S∧Fm (gx X n) xh w H env σ∧Out (tTO tb me env S) (KB (gx X n) w H Q) (KX (gx X n) w H fun cls d H'=>W cls d σ H'),⟨fun pins s σ H Q I ⟨w,S,env,sm,fm,h⟩=> ?_⟩,fun σ H w S env Q s fm h=>⟨w,S,env,s,fm,h⟩⟩
 unfold tTO at h
 cases hv:me env S with
 | bad=>rw [hv]at h; exact h.elim
 | exc x S1=>
  refine p0.run pins s σ H Q I (c0 σ H w S env Q sm fm ?_)
  unfold MP.tT
  rw [hv]at h⊢
  exact h
 | ok x S1=>
  rw [hv]at h
  simp only [ZbN]at h
  cases q:Zb6 S1 x with
  | none=>
   refine p0.run pins s σ H Q I (c0 σ H w S env Q sm fm ?_)
   unfold MP.tT
   rw [hv]
   unfold MP.truO at h
   rw [q]at h
   exact h
  | some c=>
   unfold MP.truO at h
   rw [q]at h
   simp only at h
   cases q2:tb.lookup c with
   | none=>rw [q2]at h; exact h.elim
   | some g=>
    rw [q2]at h
    simp only at h
    have q0:=ca σ H w S env (fun v H1=>∃w1,w.Le w1∧Zag H H1∧Sim (gx X n) w1 H1 S1∧VR (gx X n) w1 H1 x v) sm fm (by rw [hv]; exact fun w1 H1 v l1 k1 s1 r1=>⟨w1,l1,k1,s1,r1⟩)
    refine isTrue_plain (thn (pa.run pins s σ H _ I q0) fun u s1 ⟨v,H1,I1,ru,w1,l1,k1,s1',r1⟩=> ?_) (he _)
    obtain⟨a,dx,fs,ox,od,rfl,rfl,ea,J⟩:=ZeL I1 s1' r1 ru q
    obtain⟨f,hm,go⟩:=(T.look q2).run C
    obtain⟨mm,hF⟩:=I1.fr
    have h1:=(Yb5 h).imp (K':=KV (gx X n) w1 H1 (fun v H2=>∃b,v= .bl b∧Q b H2)) (E':=KX (gx X n) w1 H1 fun cls d H'=>W cls d σ H') (fun v S2 h2 w2 H2 u l2 k2 s2 r2=>by
     cases v with
     | bl b=>exact⟨b,r2.b,h2 w2 H2 (l1.trans l2) (k1.trans k2) s2⟩
     | _=>exact h2.elim) fun _ _ z=>z.mono l1 k1
    refine PySem.W.truthy_K hF I1.ok.mod.kin J hm.at_ hm.fn (thn (go I1 (us:=[.ref a]) (vs:=[.ref a]) (.cons rfl .nil) s1' (YcH r1) h1).1 fun u' s2 z=> ?_)
    obtain⟨v,H2,I2,rv,b,rfl,hq⟩:=z
    obtain rfl:u'=Value.bool b:=rv
    exact⟨H2,I2,hq⟩
end
end MP
namespace MP
open PySem PySem.Spec PyProof.Rows L2
abbrev FdD (K:PySem.W.Frag) (d:DfM) (fd:FuncData):Prop:=FunD K d.name d.qual (defArgs d.st) (defBody d.st) (defScope d.st) (d.dvs K) (d.kws K) (d.at_.ad K) fd
theorem DfM.funD {K:PySem.W.Frag} {d:DfM} (z:d.clo=[]) (e:ZiD K (d.at_.ad K)=d.val) (c:d.okB K=true):∃fd,FdD K d fd:=by
 unfold DfM.okB at c
 unfold ZiD at e
 obtain⟨kp,c⟩:=YaN.mp c
 cases q:K.lookup (d.at_.ad K)with
 | none=>rw [q]at c; cases c
 | some o=>
  obtain⟨oc,od,dt,osl⟩:=o
  rw [q]at c e
  cases dt with
  | func fd=>
   obtain⟨g1,g2,g3,g4,g5,g6,g7,g8,g9,g10,g11,g12,g13,g14,g15⟩:=fd
   simp only [YaK]at c
   simp only [DfM.val,Option.some.injEq,Prod.mk.injEq]at e
   obtain⟨rfl,rfl,rfl,rfl,rfl,rfl,hcl,rfl⟩:=e
   rw [z]at hcl
   obtain rfl:g7=[]:=by simpa using hcl
   exact⟨_,⟨oc,od,g8,g9,g10,g11,g12,g13,g14,osl,rfl,q,c.1.1,He.dflB_ok c.1.2,He.kwdB_ok c.2⟩,kp⟩
  | _=>cases c
section
variable {fa:List FaM} {fn:List DfM} {K:PySem.W.Frag}
theorem Za6.fact (c:Za6 fa fn K) (i:Nat) {f:FaM} (h:fa[i]? =some f:=by rfl):f K=true:=by
 have z:((fa.all fun f=>f K)&&fn.all fun d=>d.okB K)=true:=congrArg Prod.fst c
 exact YaL.mp (YaN.mp z).1 f (YaT h)
theorem Za6.raw (c:Za6 fa fn K) (i:Nat) {d:DfM} (h:fn[i]? =some d:=by rfl):ZiD K (d.at_.ad K)=d.val∧d.okB K=true:=by
 have z:((fa.all fun f=>f K)&&fn.all fun d=>d.okB K)=true:=congrArg Prod.fst c
 have e:fn.map (fun d=>ZiD K (d.at_.ad K))=fn.map DfM.val:=congrArg Prod.snd c
 have e2:(fn.map fun d=>ZiD K (d.at_.ad K))[i]? =(fn.map DfM.val)[i]? :=by rw [e]
 rw [YaB,YaB,h]at e2
 exact⟨Option.some.inj e2,YaL.mp (YaN.mp z).2 d (YaT h)⟩
theorem Za6.def_ (c:Za6 fa fn K) (i:Nat) {d:DfM} (h:fn[i]? =some d:=by rfl) (z:d.clo=[]:=by rfl):∃fd,FdD K d fd:=let ⟨a,b⟩:=c.raw i h; DfM.funD z a b
end
theorem ZdI {K:PySem.W.Frag} {c m:Str} (h:Zhx c m K=true):PropOf K (He.ga K c) m (He.ma K (He.ga K c) m) ((Pt.prop c m).ad K):=by
 unfold Zhx at h
 simp only [YaK,decide_eq_true_eq]at h
 obtain⟨⟨⟨h1,h2⟩,h3⟩,h4⟩:=h
 refine⟨h1,h2,h3, ?_⟩
 split at h4
 ·rename_i g r e
  exact⟨r,by simp only [Pt.ad,Zhw,e]; rfl⟩
 ·cases h4
theorem Zbs {K:PySem.W.Frag} {cs bs:List String} (h:Zhy cs bs K=true) (hb:∀a∈ZbD,∀b∈bs,kitB a b=some (ZnT a b):=by decide+kernel):Zlq K (nmOf K) cs bs:=by
 unfold Zhy at h
 simp only [YaK,YaL,decide_eq_true_eq]at h
 obtain⟨⟨⟨⟨⟨h1,h2⟩,h3⟩,h4⟩,h5⟩,h6⟩:=h
 exact⟨hb,h1,h2,h3,fun d hd=>⟨He.cls_ok (h4 d hd).1.1,(h4 d hd).1.2,(h4 d hd).2⟩,h5,h6⟩
theorem ZaE {K:PySem.W.Frag} {cs:List String} (h:Zji cs K=true):Znr K (nmOf K) cs:=by
 unfold Zji at h
 simp only [YaK,YaL]at h
 exact⟨Zbs h.1.1,h.1.2,h.2⟩
theorem Zmf {K:PySem.W.Frag} {cs:List String} (h:neB cs K=true):∀c∈cs,PySem.W.findIn K (.ref ((nmOf K).cl c)) "__ne__"=some (some (.builtin "object.__ne__")):=by
 unfold neB at h
 simpa only [YaL,decide_eq_true_eq]using h
theorem Zgk {K:PySem.W.Frag} (h:ZnW K=true):ZlW K:=by
 unfold ZnW at h
 split at h
 ·rename_i o e
  exact⟨o,e,by simpa using h⟩
 ·cases h
theorem ZaF {K:PySem.W.Frag} {cs:List String} {f:String} (h:Zga cs f K=true):Znt K (nmOf K) cs f:=by
 unfold Zga at h
 simp only [YaK,YaL]at h
 exact fun c hc=>⟨He.cls_ok (h c hc).1,He.noat_ok (h c hc).2⟩
def KF (gd:Bool) (P:Program) (w:World) (K:PySem.W.Frag) (mg:Str→Option Value) (base:Heap) (d:DfM) (k:Nat) (ps:List Str) (dd:List (List SV)) (m:List SV→M SV):Prop:=
 ∃fd,FdD K d fd∧Fd gd P w K mg base (nmOf K) k (d.at_.ad K) fd ps m∧∀dxs∈dd,Zhl K (nmOf K) fd ps dxs
def scS (ns:List Int):Zaa:=[.frz (ns.map SV.int)]
theorem ZkF {P:Program} {w:World} {K:PySem.W.Frag} {mg mb:Str→Option Value} {n:Nm} {k:Nat} {fa a:Addr} {fd:FuncData} {x:Str} {m:List SV→M SV} {s₁:Shared} {vs:List Value} {ns:List Int}
  (KX:K.In s₁.heap) (hns:s₁.heap.Ns mainGlobals mg) (hb:s₁.heap.Ns builtinsNs mb) (hbb:∀x:Str,x≠ "__name__"→mb x=bootBuiltins x) (hlim:s₁.heap.NoLimit) (hg:s₁.gens= #[])
  (hT:∀t∈Zcp K,s₁.heap.get? t.2.1=some {cls:= .none,data:= .fields #[]})
  (hbm:∃(bm:Addr) (ob:Obj),mg "__builtins__"=some (.ref bm)∧bm≠builtinsNs∧s₁.heap.get? bm=some ob∧ob.cls= .type "module"∧ob.dict=some builtinsNs∧ob.data= .plain)
  (ha:s₁.heap.get? a=some {cls:= .type "list",data:= .seq vs.toArray}) (hi:IntsAre vs ns) (hl:ns.length≤sizeLine) (hr:Room k callerA)
  (F:∀base:Heap,K.In base→base.Ns mainGlobals mg→(∀t∈Zcp K,LamX.TabB base mg t.1 t.2.1)→Fd true P w K mg base n k fa fd [x] m) (hbind:∀(s:Shared) (u:Value),BindsTo s fd ⟨[u],[]⟩ [(x,u)])
  (law:∃S',m [.ref 0] (scS ns)= .ok (.bl true) S'):
  codeAny (model P w) callerA (.call (.ref fa) ⟨[.ref a],[]⟩) (fun r s'=>r= .ok (.ret (.bool true))∧OldK s₁.heap s'.heap∧s'.os=s₁.os∧AllBare s'.gens) s₁:=by
 obtain⟨S',hm⟩:=law
 have rv:=vals_ints hi
 have hlen:=hi.length
 have isT:∀b:Addr,b∈(Zcp K).map (·.2.1)→s₁.heap.get? b=some {cls:= .none,data:= .fields #[]}:=fun b hb=>by
  obtain⟨p,hp,e⟩:=YaU.mp hb
  rw [←e]
  exact hT p hp
 have nT:∀b:Addr,b∈(Zcp K).map (·.2.1)→K.lookup b=none:=fun b hb=>by
  obtain⟨p,hp,e⟩:=YaU.mp hb
  rw [←e]
  exact(ZeM hp).2
 have aT:a∉(Zcp K).map (·.2.1):=fun z=>by
  have q:=isT a z
  rw [ha]at q
  have z':Data.seq vs.toArray _=Data.fields #[]:=congrArg Obj.data (Option.some.inj q)
  cases z'
 have memT:∀p∈Zcp K,p.2.1∈(Zcp K).map (·.2.1):=fun p hp=>YaU.mpr ⟨p,hp,rfl⟩
 -- H: nothing is tracked but the script and the tables
 have main:∀H:Hp,(∀b,H b≠none→(b=a∧K.lookup a=none∧∃o xs,H b=some (.frz o (.lst xs)))∨(b∈(Zcp K).map (·.2.1)∧H b=some (.tbl #[])))→(∀p∈Zcp K,H p.2.1=some (.tbl #[]))→Frz K H a (ns.map V.int)→HOk P w H s₁.heap→
   codeAny (model P w) callerA (.call (.ref fa) ⟨[.ref a],[]⟩) (fun r s'=>r= .ok (.ret (.bool true))∧OldK s₁.heap s'.heap∧s'.os=s₁.os∧AllBare s'.gens) s₁:=by
  intro H only hH fz ok
  have ground:∀b o,s₁.heap.get? b=some o→(b=a→K.lookup a=none→False)→o.data≠ .fields #[]→H b=none:=fun b o e no nf=>by
   cases q:H b with
   | none=>rfl
   | some u=>
    rcases only b (by rw [q]; exact fun z=>nomatch z)with ⟨e1,e2,_⟩ | ⟨e1,_⟩
    ·exact(no e1 e2).elim
    ·rw [isT b e1]at e
     cases e
     exact(nf rfl).elim
  have noD:∀{b:Addr} {o:Obj},s₁.heap.get? b=some o→(∀vs n,o.data≠ .seq vs n)→o.data≠ .fields #[]→H b=none:=fun{b o} e h1 h2=>ground b o e (fun z _=>by
   rw [z,ha]at e
   cases e
   exact h1 _ _ rfl) h2
  have dict:∀b o es ep,s₁.heap.get? b=some o→o.data= .dict es ep→H b=none:=fun b o es ep e d=>noD e (fun vs n z=>by rw [d]at z; cases z) fun z=>by rw [d]at z; cases z
  have inB:∀{b:Addr} {q:Str→Option Value},s₁.heap.Ns b q→(hidT s₁.heap H).Ns b q:=fun{b q} ⟨o,es,ep,e,d,r⟩=>⟨o,es,ep,hidT_get e (dict b o es ep e d),d,r⟩
  have kB:K.In (hidT s₁.heap H):=fun b o e=>hidT_get (KX b o e) (by
   cases q:H b with
   | none=>rfl
   | some u=>
    rcases only b (by rw [q]; exact fun z=>nomatch z)with ⟨e1,e2,_⟩ | ⟨e1,_⟩
    ·rw [e1,e2]at e
     cases e
    ·rw [nT b e1]at e
     cases e)
  obtain⟨mc,lim1,lim2⟩:=hlim
  have TB:∀p∈Zcp K,LamX.TabB (hidT s₁.heap H) mg p.1 p.2.1:=fun p hp=>by
   have hTp:=hT p hp
   refine⟨PySem.W.codeHd_of_K kB (ZeM hp).1, ?_,fun z=> ?_⟩
   ·obtain⟨bm,ob,b1,b2,b3,b4,b5,b6⟩:=hbm
    have nG:bm≠mainGlobals:=fun q=>by
     obtain⟨o,es,ep,e,hd,_⟩:=hns
     rw [q,e]at b3
     cases b3
     rw [hd]at b6
     cases b6
    have nP:bm≠p.2.1:=fun q=>by
     rw [q,hTp]at b3
     cases b3
     cases b6
    refine⟨bm,ob,b1,b2,nG,nP,hidT_get b3 (noD b3 (fun vs n z=> ?_) fun z=> ?_),b4,b5,b6⟩
    ·rw [b6]at z
     cases z
    ·rw [b6]at z
     cases z
   ·obtain⟨o,es,ep,e,hd,_⟩:=hns
    rw [z,hTp]at e
    cases e
    cases hd
  have e0:Env0 P w K mg (hidT s₁.heap H) callerA [] s₁ H:=⟨rfl,⟨kB,inB hns,⟨mb,inB hb,hbb⟩,⟨mc,inB lim1,lim2⟩⟩,fun b o e=>of_hidT e,Nat.le_of_eq (hidT_size _ _),trivial,(fun b z=>absurd z (by simp [frs])),ok, .of_eq hg⟩
  have tabs:LamX.Tabs (Zow K) H:=fun p hp=>by
   obtain⟨t,ht,e⟩:=YaU.mp hp
   rw [←e]
   exact .nil (hH t ht)
  have sm:Sim ⟨K,n.cl,n.fn⟩ ⟨fun _=>a,1⟩ H (scS ns):=by
   refine⟨rfl,fun i j o u hi hj mo _ _=> ?_,fun i o hi=> ?_,tabs⟩
   ·have hi':i<1:=(Yaj.mp hi).1
    have hj':j<1:=(Yaj.mp hj).1
    omega
   ·have hi':i<1:=(Yaj.mp hi).1
    obtain rfl:i=0:=by omega
    cases hi
    exact⟨_,fz,VRs.ints ns⟩
  have r1:VRs ⟨K,n.cl,n.fn⟩ ⟨fun _=>a,1⟩ H [.ref 0] [.ref a]:=YcH (by simp only [VR]; exact⟨Nat.zero_lt_one,trivial⟩)
  have sp:spM ⟨K,n.cl,n.fn⟩ [x].length m [.ref a] H (fun v H'=>v= .bl true) fun _ _ _=>False:=⟨rfl,_,_,_,sm,r1,by rw [hm]; exact fun w' H' v _ _ _ r=>r.b⟩
  refine codeAny_mono ((F _ kB (inB hns) TB).fn.run callerA [] s₁ H ⟨[.ref a],[]⟩ [.ref a] [.ref a] _ _ (fun _=>rfl) hr e0 (hbind s₁ (.ref a)) (.cons rfl .nil) sp) fun r s' h=> ?_
  cases r with
  | error e=>
   obtain⟨_,_,_,_,_,_,_,_,_,_,_,_,z⟩:=h
   exact z.elim
  | ok fl=>
   cases fl with
   | ret u=>
    obtain⟨v,H',os,bare,un,ok',r',rfl⟩:=h
    obtain rfl:u=Value.bool true:=r'
    have key:∀b o,b∉(Zcp K).map (·.2.1)→s₁.heap.get? b=some o→s'.heap.get? b=some o:=fun b o nb e=>by
     by_cases q:H b=none
     ·exact un.keep b o e q (fun z=>absurd z (by simp [frs])) (by simp)
     ·rcases only b q with ⟨_,_,ob,xs,z⟩ | ⟨z,_⟩
      ·obtain⟨e1,_⟩:=ok b _ z
       obtain⟨e2,_⟩:=ok' b _ (un.frzs b ob _ z)
       rw [e]at e1
       cases e1
       exact e2
      ·exact absurd z nb
    have grown:∀p∈Zcp K,∃more:Array Value,s'.heap.get? p.2.1=some {cls:= .none,data:= .fields more}:=fun p hp=>by
     obtain⟨more,z⟩:=un.tbls p.2.1 #[] (hH p hp)
     exact⟨_,ok' p.2.1 _ z⟩
    refine⟨rfl,⟨fun b o e=> ?_,fun b o e=> ?_⟩,os,bare⟩
    ·by_cases hb:b∈(Zcp K).map (·.2.1)
     ·obtain⟨p,hp,ep⟩:=YaU.mp hb
      obtain⟨more,hm⟩:=grown p hp
      rw [←ep]at e⊢
      rw [hT p hp]at e
      cases e
      exact .inr (.inl ⟨((PySem.W.codeHd_of_K KX (ZeM hp).1).tab (hT p hp)).isCodeTable,rfl, #[],more,rfl,by rw [Array.empty_append]; exact hm⟩)
     ·exact .inl (key b o hb e)
    ·by_cases hb:b∈(Zcp K).map (·.2.1)
     ·obtain⟨p,hp,ep⟩:=YaU.mp hb
      obtain⟨more,hm⟩:=grown p hp
      rw [←ep]
      exact⟨_,hm⟩
     ·exact⟨o,key b o hb e⟩
   | next=>exact h.elim
   | brk=>exact h.elim
   | cont=>exact h.elim
 by_cases hk:K.lookup a=none
 ·refine main (fun b=>if b=a then some (.frz {cls:= .type "list",data:= .seq vs.toArray} (.lst (ns.map V.int)))else if b∈(Zcp K).map (·.2.1)then some (.tbl #[])else none) (fun b z=> ?_) (fun p hp=>(if_neg (show ¬p.2.1=a from fun z=>aT (by rw [←z]; exact memT p hp))).trans (if_pos (memT p hp))) (.inl ⟨_,if_pos rfl⟩) fun b u z=> ?_
  ·by_cases hb:b=a
   ·exact .inl ⟨hb,hk,_,_,if_pos hb⟩
   ·by_cases hb2:b∈(Zcp K).map (·.2.1)
    ·exact .inr ⟨hb2,(if_neg hb).trans (if_pos hb2)⟩
    ·exact absurd ((if_neg hb).trans (if_neg hb2)) z
  ·by_cases hb:b=a
   ·have z:=(if_pos hb).symm.trans z
    cases z
    subst hb
    exact⟨ha,by rw [Yaz]; exact hl,vs,_,rv,ha⟩
   ·have z1:=(if_neg hb).symm.trans z
    by_cases hb2:b∈(Zcp K).map (·.2.1)
    ·have z':=(if_pos hb2).symm.trans z1
     cases z'
     exact isT b hb2
    ·exact nomatch (if_neg hb2).symm.trans z1
 ·obtain⟨o,ho⟩:=Option.ne_none_iff_exists'.mp hk
  have e:=KX a o ho
  rw [ha]at e
  cases e
  refine main (fun b=>if b∈(Zcp K).map (·.2.1)then some (.tbl #[])else none) (fun b z=> ?_) (fun p hp=>if_pos (memT p hp)) (.inr ⟨_,vs.toArray,_,ho,rfl,rfl,rfl,by rw [YaV,hlen]; exact hl,by simpa using rv⟩) fun b u z=> ?_
  ·by_cases hb2:b∈(Zcp K).map (·.2.1)
   ·exact .inr ⟨hb2,if_pos hb2⟩
   ·exact absurd (if_neg hb2) z
  ·by_cases hb2:b∈(Zcp K).map (·.2.1)
   ·have z':=(if_pos hb2).symm.trans z
    cases z'
    exact isT b hb2
   ·exact nomatch (if_neg hb2).symm.trans z
theorem walk_M {l:PySem.W.OpenLaw} {mx k:Nat} {q:Program} {loose:List Str} {XP:(Str→Option Value)→Heap→Prop} {YP:World→Heap→Prop} {d:DefRec} {x:Str}
    (hn:l.most=some mx) (hn2:mx≤sizeLine) (hdf:d.params.defaults=[]) (hr:Room k callerA)
    (F:∀(w:World) (mg:Str→Option Value) (fa:Addr) (h:Heap),YP w h→h.Ns mainGlobals mg→mg d.name=some (.ref fa)→
      ∃(K:PySem.W.Frag) (n:Nm) (fd:FuncData) (m:List SV→M SV),K.In h∧(∀t∈Zcp K,h.get? t.2.1=some {cls:= .none,data:= .fields #[]})∧(∀(s:Shared) (u:Value),BindsTo s fd ⟨[u],[]⟩ [(x,u)])∧
        (∀ns:List Int,ns.length≤mx→(∀z∈ns,Builtin.Int.intBits z≤1048576)→∃S',m [.ref 0] (scS ns)= .ok (.bl true) S')∧
        ∀base:Heap,K.In base→base.Ns mainGlobals mg→(∀t∈Zcp K,LamX.TabB base mg t.1 t.2.1)→Fd true l.prog w K mg base n k fa fd [x] m):
    PySem.W.WalkO q loose XP YP l.row.toRowW d [] (fun f vs=>PySem.call f vs):=by
  refine Att.attach_callB hn hdf fun w s₀ s₁ mg mb fa o pm cd doc a vs ns G Y ho hd hcd hmg hobj hints hlen hbits hg=> ?_
  obtain⟨K,n,fd,m,KX,hT,hb,law,hF⟩:=F w mg fa _ Y G.T.g hmg
  exact ZkF KX G.T.g G.T.b G.T.builtins G.T.nolimit hg hT G.T.bmain hobj hints (Yac hlen hn2) hr hF hb (law ns hlen hbits)
theorem Zgl:bootBuiltins "len"=some (.builtin "len"):=by first | exact PyProof.Rows.boot_len | exact PySem.boot_len | exact L2.boot_len | exact PySem.F.boot_len | kernel_rfl
theorem ZiG:bootBuiltins "max"=some (.builtin "max"):=by first | exact PyProof.Rows.boot_max | exact PySem.boot_max | exact L2.boot_max | exact PySem.F.boot_max | kernel_rfl
theorem Zmg:bootBuiltins "min"=some (.builtin "min"):=by first | exact PyProof.Rows.boot_min | exact PySem.boot_min | exact L2.boot_min | exact PySem.F.boot_min | kernel_rfl
theorem ZaK:bootBuiltins "isinstance"=some (.builtin "isinstance"):=by first | exact PyProof.Rows.boot_isinstance | exact PySem.boot_isinstance | exact L2.boot_isinstance | exact PySem.F.boot_isinstance | kernel_rfl
theorem Zel:bootBuiltins "sorted"=some (.builtin "sorted"):=by first | exact PyProof.Rows.boot_sorted | exact PySem.boot_sorted | exact L2.boot_sorted | exact PySem.F.boot_sorted | kernel_rfl
theorem Zgm:bootBuiltins "repr"=some (.builtin "repr"):=by first | exact PyProof.Rows.boot_repr | exact PySem.boot_repr | exact L2.boot_repr | exact PySem.F.boot_repr | kernel_rfl
theorem Zfe:bootBuiltins "int"=some (.type "int"):=by first | exact PyProof.Rows.boot_int | exact PySem.boot_int | kernel_rfl
theorem ZkG:bootBuiltins "bool"=some (.type "bool"):=by first | exact PyProof.Rows.boot_bool | exact PySem.boot_bool | kernel_rfl
end MP
namespace MP
open PySem PySem.Spec PyProof.Rows L2
section
variable {X:Cx} {n:Nm} {xh:Xh} {W:WX} {e:Expr} {pos:Pos}
def Zo0:TM:=fun _ _=> .bad
theorem RT.never:RT X n xh W e Zo0:=by
 refine⟨fun _ _ _=>False,⟨fun _ _ _ _ _ _ h=>h.elim⟩,fun σ H w S env Q s f q=> ?_⟩
 exact q.elim
def Zgn:EM:=fun _ S=> .ok (.ref S.length) (S++[.dK []])
theorem RE.dict0:RE X n xh W (.Dict [] [] pos) Zgn:=by
 refine⟨_,pe_dnewK,fun σ H w S env Q s fm h=> ?_⟩
 intro D hD
 have kD:Zag H (upd H D (.dK [])):=Ycs hD
 have sD:Sim (gx X n) (w.push D) (upd H D (.dK [])) (S++[.dK []]):=s.new kD hD (fun b u e=>ZaG hD b u e) ⟨[],upd_same,rfl⟩
 exact h _ _ _ (w.le_push D) kD sD (by simp only [VR]; exact⟨by rw [s.len]; exact Yaq _,by rw [s.len,w.push_at]⟩)
theorem ZiH {k:Nat} {A:Around} (r:Room k A):A.units<cLine:=r.units0
theorem ZhH {k:Nat} {A:Around} (r:Room k A):A.units+64<cLine:=r.units
theorem ZiI {k:Nat} {A:Around} (r:Room k A):A.units+100<cLine:=by have:=r.un; omega
theorem neT {K:PySem.W.Frag} {cs:List String} {tb:Zap} (h:neB cs K=true) (e:tb.map (·.1)=cs:=by rfl):∀p∈tb,PySem.W.findIn K (.ref ((nmOf K).cl p.1)) "__ne__"=some (some (.builtin "object.__ne__")):=fun p hp=>Zmf h p.1 (by rw [←e]; exact YaW hp)
theorem Za8 {K:PySem.W.Frag} {n:Nm} {fd:FuncData} {ps:List Str} (h:Binds K fd ps []):∀dxs∈ [([]:List SV)],Zhl K n fd ps dxs:=fun dxs hd=>by
 obtain rfl:dxs=[]:=by simpa using hd
 exact .all h
theorem Fd.up {P:Program} {w:World} {K:PySem.W.Frag} {mg:Str→Option Value} {base:Heap} {n:Nm} {k:Nat} {f:Addr} {fd:FuncData} {ps:List Str} {m:List SV→M SV} (F:Fd false P w K mg base n k f fd ps m):Fd true P w K mg base n k f fd ps m:=⟨F.fn.up,F.ar,F.kp⟩
theorem KF.up {P:Program} {w:World} {K:PySem.W.Frag} {mg:Str→Option Value} {base:Heap} {d:DfM} {k:Nat} {ps:List Str} {dd:List (List SV)} {m:List SV→M SV} (h:KF false P w K mg base d k ps dd m):KF true P w K mg base d k ps dd m:=let ⟨fd,h1,h2,h3⟩:=h; ⟨fd,h1,h2.up,h3⟩
end
section
variable {X:Cx} {n:Nm} {xh:Xh} {W:WX} {a b c:Expr} {mr:AM} {pos px py pz pt pt2:Pos} {x y z:Str} {kt k2:Nat}
end
end MP
namespace PySem
namespace MPX
open PySem.W PySem.Calls PyProof.Rows
structure BaseF (B newId initId:String) (bmB:List Value):Prop where
 fb:ExcBaseFacts B newId initId bmB
 sf:StoreFacts B bmB "object.__setattr__" "object"
 kf:KxsFacts B initId
theorem base_ValueError:BaseF "ValueError" "ValueError.__new__" "ValueError.__init__" [.type "ValueError", .type "Exception", .type "BaseException", .type "object"]:=⟨F.excBase_ValueError,F.store_ValueError,kxs_ValueError⟩
section
variable {prog:Program} {w:World} {A:Around} {E:Value→Shared→Prop} {R:Result→Shared→Prop} {hp:Heap} {g:Array GenState} {d:Drawn} {t:Nat} {os:OsState} {B newId initId:String} {bmB:List Value}
open Builtin Builtin.ObjectAttr
theorem ZhI {K:W.Frag} {name:Str} {tk:Tok} {v:Value} {x C:Addr} {fv:Array Value} {cd:ClassData} (SF:StoreFacts B bmB "object.__setattr__" "object") (hp0:excOver K C bmB=true)
  (X:K.In hp) (hx:hp.get? x=some {cls:= .ref C,data:= .fields fv}) (hcd:W.clsIn K C=some cd) (hh:cd.hasDict=true) (ha:W.findIn K (.ref C) name=some none)
  (hq:∀h' tk' dx,(∀b o,b≠x→hp.get? b=some o→h'.get? b=some o)→hp.objs.size≤dx→dx≠x→h'.get? x=some {cls:= .ref C,dict:=some dx,data:= .fields fv}→
   h'.Ns1 dx (fun y=>if y=name then some v else none)→R (.ok (.ret .none)) ⟨h',g,d,tk',os⟩):
  codeAny (model prog w) A (.call (.builtin "object.__setattr__") ⟨[.ref x, .str name tk,v],[]⟩) R ⟨hp,g,d,t,os⟩:=by
 have I:W.InstAt hp x {cls:= .ref C,data:= .fields fv} C none:=⟨hx,rfl,rfl,trivial⟩
 have hxs:x≠hp.objs.size:=Yag (Heap.lt_size hx)
 have ht:takerIn K C name=some none:=by unfold takerIn; rw [ha]; rfl
 refine osa_openX SF X I hp0 ht fun bb=> ?_
 show wpAny _ _ (storeInOwnDict (.ref x) (.ref C) (.str name tk) name v bb) _ _ _
 have hcls:W.Looks (model prog w) hp (classData C) cd:=W.looks_clsIn X hcd
 obtain⟨nm,bs,mro,ns,qn,hd,sn,sb,ab,col,del⟩:=cd
 dsimp only at hh
 subst hh
 unfold storeInOwnDict ownDictForStores
 repeat (first | with_reducible refine HandSPX.store_in_new ?_ ?_ | with_reducible refine wpAny_loadPart_at hx ?_ | with_reducible refine hcls.at ?_ | wp_step)
 ·exact⟨_, #[],_,(Heap.get?_update_ne _ _ _ _ hxs.symm).trans (Heap.get?_push_at rfl rfl),rfl,fun e he=>absurd he (by simp),fun _=>rfl⟩
 ·intro h' tk' hn' hs
  have hx₁:(hp.push {cls:= .type "dict",data:= .dict #[]}).get? x=some {cls:= .ref C,data:= .fields fv}:=Heap.get?_push_of_some _ hx
  refine hq h' tk' hp.objs.size (fun b o hb ho=> ?_) (Yab _) hxs.symm ?_ hn'
  ·exact(hs.2 b (Yag (Heap.lt_size ho))).trans ((Heap.get?_update_ne _ _ _ _ hb).trans (Heap.get?_push_of_some _ ho))
  ·exact(hs.2 x hxs).trans (Heap.get?_update_self _ hx₁ rfl)
end
end MPX
end PySem
namespace PySem
namespace MPX
open PySem.W PySem.Calls PyProof.Rows
structure InitT (params:Arguments) (body:List Stmt) (scope:Scope) (f v:Str):Prop where
 txt:∃(txt:Str) (j:Nat) (p0 p1 p2 p3 p4 p5 q0 q1 q2 q3:Pos),body=[.Expr (.Call (.Attribute (.Call (.Name "super" p0) [] [] p1) "__init__" p2) [.Constant (.str txt) j p3] [] p4) p5, .Assign [.Attribute (.Name "self" q0) f q1] (.Name v q2) q3]∧(p2.endLine==p4.line)=true
 ar:∃ar,(params.posonlyargs++params.args).head?=some ar∧ar.arg=("self":Str)
 ks:scope.names.lookup ("super":Str)=some .globalImplicit
 kc:scope.names.lookup ("__class__":Str)=some .free
 ka:scope.names.lookup ("self":Str)=some .local
 kv:scope.names.lookup v=some .local
 ne:(v==("self":Str))=false∧(v==("__debug__":Str))=false
 cell:∀x∈scope.names,x.2≠ .cell
 co:scope.isCoroutine=false
 gen:scope.isGenerator=false
 kind:scope.kind= .function
 bind:∀(name qual:Str) (kV doc pm:Value) (an:Option Addr) (cdv ct:Value) (cl:List (Str × Addr)) (a b:Value),bindArgs (fnX name qual params body scope cl .none kV doc pm an cdv ct) ⟨[a,b],[]⟩=pure [(("self":Str),a),(v,b)]
structure InitK (K:W.Frag) (C fI:Addr) (name qual:Str) (params:Arguments) (body:List Stmt) (scope:Scope) (file f:Str):Prop where
 base:∃B newId initId bmB,BaseF B newId initId bmB∧excInitIn K C bmB newId=true∧excOver K C bmB=true∧ks_superIn K C C "__init__"=some (some (.builtin initId))∧subIn K (.ref C) (.type B)=some true
 cls:∃cd,clsIn K C=some cd∧cd.hasDict=true
 ini:findIn K (.ref C) "__init__"=some (some (.ref fI))
 isf:isFn K (.ref fI)=true
 sa:findIn K (.ref C) "__setattr__"=some (some (.builtin "object.__setattr__"))
 fld:findIn K (.ref C) f=some none
 self:mroIn K C (.ref C)=some true
 anyS:nsIn K cStatics "thirdparty.any"=some none
 exC:subIn K (.ref C) (.type "BaseException")=some true
 tyC:typeIn K (.ref C)=some (.type "type")
 kC:keepIn K (.ref C)=true
 fn:∃(oc:Value) (od an:Option Addr) (kV doc pm ct:Value) (osl:Array (Option Value)) (cda cc:Addr),K.lookup fI=some ⟨oc,od, .func (ksFn name qual params body scope .none kV doc pm an (.ref cda) ct cc),osl⟩∧codeIn K (.ref cda) qual=true∧
  (∃(ccl:Value) (cdd:Option Addr) (vs:Array Value) (ccs:Array (Option Value)) (tf:Tok),K.lookup cda=some ⟨ccl,cdd, .fields vs,ccs⟩∧vs[2]? =some (.str file tf))∧
  ∃(cl:Value) (cld:Option Addr) (csl:Array (Option Value)),K.lookup cc=some ⟨cl,cld, .cell (some (.ref C)),csl⟩
section
variable {P:Program} {w:World} {A:Around} {R:Result→Shared→Prop} {K:W.Frag} {mg:Str→Option Value} {base:Heap} {C fI e t0:Addr} {name qual:Str} {params:Arguments} {body:List Stmt} {scope:Scope} {file f v:Str} {s:Shared} {u:Value}
theorem ZhJ (Z:InitK K C fI name qual params body scope file f) (T:InitT params body scope f v) (M:L2.Mod K mg base) (bs:∀b o,base.get? b=some o→s.heap.get? b=some o) (hsup:mg "super"=none)
  (hfile:((P.main.file:Str)==file)=true) (htop:(P.main.scope.names.lookup ("super":Str)).isSome=false) (hroom:A.depth<recursionLimit) (he:s.heap.get? e=some (HandSPX.excO C t0)) (hb0:base.get? e=none)
  (hq:∀h' tk' dx t1,(∀b o,b≠e→s.heap.get? b=some o→h'.get? b=some o)→s.heap.objs.size≤dx→dx≠e→h'.get? e=some {cls:= .ref C,dict:=some dx,data:= .fields #[.ref t1, .none, .none, .none, .bool false, .none]}→
   h'.Ns1 dx (fun y=>if y=f then some u else none)→R (.ok (.ret .none)) {s with heap:=h',toks:=tk'}):
  codeAny (model P w) A (.call (.ref fI) ⟨[.ref e,u],[]⟩) R s:=by
 obtain⟨oc,od,an,kV,doc,pm,ct,osl,cda,cc,hfn,hcd,⟨ccl,cdd,vs,ccs,tf,hcode,hvs⟩,cl,cld,csl,hcell⟩:=Z.fn
 obtain⟨B,newId,initId,bmB,BF,q1,q2,q3,q4⟩:=Z.base
 obtain⟨cd,hC,hdct⟩:=Z.cls
 obtain⟨txt,j,p0,p1,p2,p3,p4,p5,r0,r1,r2,r3,rfl,hline⟩:=T.txt
 obtain⟨ar,har,hself⟩:=T.ar
 have K0:K.In s.heap:=M.kin.keeps bs
 have lim:s.heap.NoLimit:=M.nolimit.keeps bs
 obtain⟨mb,hmb,hboot⟩:=M.blt
 refine ks_codeAny_call_defAt (fd:=ksFn name qual params _ scope .none kV doc pm an (.ref cda) ct cc) (binds:=[("self", .ref e),(v,u)]) hroom (K0 _ _ hfn) rfl lim (codeRec_of K0 hcd) rfl (BindsTo.of_eq (T.bind _ _ _ _ _ _ _ _ _ _ _)) T.cell (fun y hy=> ?_) (fun h₁ hns k1=> ?_) T.co T.gen T.kind
 ·rcases Yas.mp hy with rfl | hy
  ·exact T.ka
  ·rcases Yas.mp hy with rfl | hy
   ·exact T.kv
   ·cases hy
 obtain⟨hp,g,d,tk,os⟩:=s
 have K1:K.In h₁:=K0.keeps k1
 have bs1:∀b o,base.get? b=some o→h₁.get? b=some o:=fun b o q=>k1 b o (bs b o q)
 have he1:=k1 _ _ he
 have X1:=K1
 have hself1:(fun y=>YaX y [((v:Str),u),(("self":Str),Value.ref e)]) ("self":Str)=some (.ref e):=by
  show YaX ("self":Str) [(v,u),(("self":Str),Value.ref e)]=_
  have:(("self":Str)==v)=false:=by
   have z:=T.ne.1
   rw [beq_eq_false_iff_ne]at z⊢
   exact fun q=>z q.symm
  rw [Yax,this,Yaw]
 have hv1:(fun y=>YaX y [((v:Str),u),(("self":Str),Value.ref e)]) v=some u:=Yaw
 obtain⟨oD,hD1,hD2⟩:∃oD,h₁.get? C=some oD∧oD.data= .cls cd:=by
  unfold clsIn at hC
  split at hC
  ·rename_i c d' cd' sl ho
   cases hC
   exact⟨_,K1 _ _ ho,rfl⟩
  ·cases hC
 have exC:e≠C:=fun z=>by
  rw [z,hD1]at he1
  cases he1
  cases hD2
 have env_eq:callEnv (ksFn name qual params [.Expr (.Call (.Attribute (.Call (.Name "super" p0) [] [] p1) "__init__" p2) [.Constant (.str txt) j p3] [] p4) p5, .Assign [.Attribute (.Name "self" r0) f r1] (.Name v r2) r3] scope .none kV doc pm an (.ref cda) ct cc) hp.objs.size fI=ksEnv qual scope hp.objs.size fI (.ref cda) cc:=rfl
 rw [env_eq]
 have hloc:∀h2:Heap,(∀b o,b≠e→h₁.get? b=some o→h2.get? b=some o)→h2.Ns hp.objs.size (fun y=>YaX y [((v:Str),u),(("self":Str),Value.ref e)]):=fun h2 k=>by
  obtain⟨o,es,ep,ho,r⟩:=hns
  have ne:hp.objs.size≠e:=Nat.ne_of_gt (Heap.lt_size he)
  exact⟨o,es,ep,k _ _ ne ho,r⟩
 have hpos:methodCallPos true (.Call (.Name "super" p0) [] [] p1) (ksEnv qual scope hp.objs.size fI (.ref cda) cc) p2 p4=pure p4:=by
  unfold methodCallPos
  rw [hline]
  rfl
 refine ks_wpAt_execs_cons (ks_wpAt_Expr_any (ks_wpAt_MethodCall (pl:= ?pl) ?main ?he) ?hi)
 case hi=>
  show (scope.kind== .module&&_)=false
  rw [T.kind]
  rfl
 case he=>
  show (attributeBase (.Call (.Name "super" p0) [] [] p1) "__init__" (ksEnv qual scope hp.objs.size fI (.ref cda) cc) (eval (.Call (.Name "super" p0) [] [] p1) (ksEnv qual scope hp.objs.size fI (.ref cda) cc))>>=fun ov=>standAt p2.atName>>=fun _=>holding [ov] (calleeOf true (.Call (.Name "super" p0) [] [] p1) (ksEnv qual scope hp.objs.size fI (.ref cda) cc) ov "__init__")>>=fun x=>methodCallPos true (.Call (.Name "super" p0) [] [] p1) (ksEnv qual scope hp.objs.size fI (.ref cda) cc) p2 p4>>=fun callPos=>callWith callPos x.1 x.2 (backTo p4 (starEach [.Constant (.str txt) j p3] (ksEnv qual scope hp.objs.size fI (.ref cda) cc))) [])=_
  simp only [hpos]
  rfl
 refine ks_wpAt_super_base (env:=ksEnv qual scope hp.objs.size fI (.ref cda) cc) T.ks T.kc (by decide) rfl (K1 _ _ hfn) rfl har rfl (K1 _ _ hcode) rfl hvs hfile htop ?_
 refine ks_loadName_global T.kind T.ks (loadGlobal_builtin (env:=ksEnv qual scope hp.objs.size fI (.ref cda) cc) (M.glob.keeps bs1) hsup (hmb.keeps bs1) ((hboot _ (by decide)).trans PyProof.Rows.Boot.super) ⟨rfl, ?_⟩)
 refine wpAny_loadName_free T.kind T.kc rfl ⟨_,K1 _ _ hcell,rfl⟩ ?_
 rw [hself]
 refine wpAny_loadName_local T.kind T.ka (hloc h₁ fun _ _ _ q=>q) hself1 ?_
 refine ks_wpAny_isType_cls hD1 hD2 ⟨rfl, ?_⟩
 refine ks_wpAny_call_super hD1 hD2 he1 rfl (fun c z=>nomatch z) (looks_mroIn K1 Z.self) (fun h2 eso k2=> ?_)
 have K2:K.In h2:=K1.keeps k2
 have he2:=k2 _ _ he1
 have I2:W.InstAt h2 e (HandSPX.excO C t0) C none:=⟨he2,rfl,rfl,trivial⟩
 have hI:Looks (model P w) h2 (isInstance (.ref e) (.type B)) true:=I2.type.andThen (looks_subIn K2 q4)
 have hsu:=q3
 unfold ks_superIn at hsu
 rw [hC]at hsu
 refine kxs_getMethod BF.kf eso (looks_opaque K2 Z.anyS) (l₀:=cd.mro) (fun A Q E s k q=>wpAny_bind ((looks_clsIn K2 hC) A _ E s k (wpAny_pure q))) rfl K2 hsu hI exC (by decide) ?_
 have hmw:(h2.push (kxs_mw initId e)).get? h2.objs.size=some (kxs_mw initId e):=Heap.get?_push_at rfl rfl
 have k3:∀b o,h2.get? b=some o→(h2.push (kxs_mw initId e)).get? b=some o:=fun b o z=>Heap.get?_push_of_some _ z
 have K3:=K2.keeps k3
 have he3:=k3 _ _ he2
 obtain⟨nm,N',qn,bs',bm,hdct',sn,sub,ab,col,dd,k0,kk1,kk2,kk3,kk5,hCx,hT⟩:=excInit_of K3 q1
 show wpAny (model P w) _ (callWith p4 (.ref h2.objs.size) [] (backTo p4 (starEach [.Constant (.str txt) j p3] _)) []) _ _ _
 refine kxs_callWith (i:=initId) (x:=e) rfl (evalArgs_plain ?_)
 refine wpAny_mono (Q:=fun us s'=>∃x1 tk',us=[x1]∧s'=⟨h2.push (kxs_mw initId e),g,d,tk',os⟩) (E:=fun _ _=>False) ?sp (fun us s' hs=> ?_) fun _ _ z=>z.elim
 case sp=>
  wp_walk
  all_goals exact⟨_,_,rfl,rfl⟩
 obtain⟨x1,tk1,rfl,rfl⟩:=hs
 refine⟨hmw, ?_⟩
 refine wpAny_call (codeAny_of_tree ?_)
 show wpAny _ _ (callAny (.ref h2.objs.size) ⟨[x1],[]⟩) _ _ _
 simp only [callAny]
 refine wpAny_bind (wpAny_load hmw ?_)
 simp only [kxs_mw,show (Value.type "method-wrapper"==Value.type "method" || Value.type "method-wrapper"==Value.type "builtin_function_or_method" || Value.type "method-wrapper"==Value.type "method-wrapper")=true by decide,if_true]
 refine KFB.if_so (by decide) ?_
 refine wpAny_bind (check_bound_init BF.fb.toExcCallFacts hCx he3 rfl ?_)
 refine wpAny_bind (wpAny_pure (wpAny_pure ?_))
 refine⟨plainId_quiet BF.fb.init.plain _,codeAny_builtin BF.fb.initEntry ?_⟩
 refine exc_init_tree (cls:= .ref C) (t0:=t0) (dv:=none) (c2:= .none) (c3:= .none) (b4:= .bool false) he3 (by show 1≤sizeLine; rw [sizeLine_eq]; omega) fun h4 k4 he4 ht4=> ?_
 have k14:∀b o,b≠e→h₁.get? b=some o→h4.get? b=some o:=fun b o hb q=>k4 b o hb (k3 _ _ (k2 _ _ q))
 have ne0:∀b o,K.lookup b=some o→b≠e:=fun b o q z=>by
  have y:=M.kin b o q
  rw [z,hb0]at y
  cases y
 have K4:K.In h4:=fun b o q=>k14 b o (ne0 b o q) (K1 b o q)
 show wpAt (model P w) _ _ (execs [.Assign [.Attribute (.Name "self" r0) f r1] (.Name v r2) r3] (ksEnv qual scope hp.objs.size fI (.ref cda) cc)) _ _ _
 have hloc4:=hloc h4 k14
 refine ks_wpAt_execs_cons (wpAt_of_wpAny ?_)
 refine plainObj_wpAny_Assign_Attribute ?_
 refine wpAny_Name (wpAny_loadName_local (env:=ksEnv qual scope hp.objs.size fI (.ref cda) cc) T.kind T.kv hloc4 hv1 ?_) T.ne.2
 refine wpAny_Name (wpAny_loadName_local (env:=ksEnv qual scope hp.objs.size fI (.ref cda) cc) T.kind T.ka hloc4 hself1 ?_) (by decide)
 have I4:W.InstAt h4 e (HandSPX.excO C _) C none:=⟨he4,rfl,rfl,trivial⟩
 refine set_plain K4 I4 Z.sa ?_
 refine ZhI BF.sf q2 K4 I4.at_ hC hdct Z.fld (fun h5 tk5 dx k5 hdx dne hx5 hn5=> ?_)
 refine wpAt_of_wpAny (wpAny_execs_nil ?_)
 exact hq h5 tk5 dx _ (fun b o hb q=>k5 b o hb (k14 b o hb (k1 b o q))) (Yac (Nat.le_of_lt hloc4.lt) hdx) dne hx5 hn5
end
end MPX
end PySem
namespace MP
open PySem PySem.Spec PyProof.Rows L2
def Zem (c f:String) (m:EM):SM:=fun env S=>(m env S).stm env fun v S1=> .exc (.own c [(f,v)]) env S1
structure ClM where
 m:String→Option Bool
 slot:Option Nat
 su:String→List (String × SV)→SM
def unset (i:Nat):ZbA→ZbA
 | .nx env S=> .nx (env.set i none) S
 | .bk env S=> .bk (env.set i none) S
 | .ct env S=> .ct (env.set i none) S
 | r=>r
structure ClR where
 m:Value→Option Bool
 slot:Option Nat
 ts:Addr→Value→Option Addr→TS
section
variable {X:Cx} {body:List Stmt} {h₀:ExceptHandler} {hds:List ExceptHandler} {l:List ClR} {pos:Pos} {tb:WX→TS} {Wout:WX}
end
def noX:ZbA→ZbA
 | .exc _ _ _=> .bad
 | r=>r
def Zmh:List ClM→String→List (String × SV)→SM
 | [],k,fs=>fun env S=> .exc (.own k fs) env S
 | c::r,k,fs=>fun env S=>match c.m k with
  | some true=>(match c.slot with
   | none=>noX (c.su k fs env S)
   | some i=>if i<env.length then unset i (noX (c.su k fs (env.set i none) S))else .bad)
  | some false=>Zmh r k fs env S
  | none=> .bad
def Zo1 (body:SM) (cl:List ClM):SM:=fun env S=>match body env S with
 | .exc (.own k fs) env' S'=>Zmh cl k fs env' S'
 | .exc (.blt _) _ _=> .bad
 | r=>r
inductive ZkH (X:Cx) (n:Nm):List ExceptHandler→List ClM→Prop
 | nil:ZkH X n [] []
 | any {h:ExceptHandler} {hds:List ExceptHandler} {su:String→List (String × SV)→SM}:ZkH X n (h::hds) [⟨fun _=>none,none,su⟩]
 | only {x:Str} {c:String} {b₀:Stmt} {suite:List Stmt} {np pos':Pos} {hds:List ExceptHandler} {cl:List ClM} {m:String→Option Bool} {su:String→List (String × SV)→SM} (hc:Names X x (.ref (n.cl c)))
   (hm:∀k b,m k=some b→PySem.W.exmOne X.K (.ref (n.cl k)) (.ref (n.cl c))=some b)
   (hsu:∀(a:Addr) (oe:Obj) (k:String) (dd:Addr) (fs:List (String × SV)) (pn:List (Addr × Obj)),m k=some true→Zc (.ref (n.cl k)) (some dd) oe→(∃vs,oe.data= .fields vs)→RSs (X.suite a ((a,oe)::pn)) n none Wno (b₀::suite) (su k fs))
   (r:ZkH X n hds cl):ZkH X n (.ExceptHandler (some (.Name x np)) none (b₀::suite) pos'::hds) (⟨m,none,su⟩::cl)
 | as_ {x nm:Str} {c:String} {b₀:Stmt} {suite:List Stmt} {np pos':Pos} {hds:List ExceptHandler} {cl:List ClM} {m:String→Option Bool} {su:String→List (String × SV)→SM} {i:Nat} (hc:Names X x (.ref (n.cl c))) (hi:X.N[i]? =some nm) (hln:X.env.kindOf nm=some .local)
   (hm:∀k b,m k=some b→PySem.W.exmOne X.K (.ref (n.cl k)) (.ref (n.cl c))=some b)
   (hsu:∀(a:Addr) (oe:Obj) (k:String) (dd:Addr) (fs:List (String × SV)) (pn:List (Addr × Obj)),m k=some true→Zc (.ref (n.cl k)) (some dd) oe→(∃vs,oe.data= .fields vs)→RSs (X.suite a ((a,oe)::pn)) n (some (i,a,dd,fs)) Wno (b₀::suite) (su k fs))
   (r:ZkH X n hds cl):ZkH X n (.ExceptHandler (some (.Name x np)) (some nm) (b₀::suite) pos'::hds) (⟨m,some i,su⟩::cl)
section
variable {X:Cx} {n:Nm} {W:WX} {a dd:Addr} {oe:Obj} {pn:List (Addr × Obj)} {fs:List (String × SV)} {i:Nat} {c f:String} {x:Str} {p p1 pos:Pos}
end
open PySem.MPX in
def Zo2 (C:Addr) (f:Str) (ta:TA):L2.St→Hp→XK→Prop:=fun σ H Q=>ta σ H fun vs H1=>∃y,vs=[y]∧∀d,H1 d=none→Q (.ref C) (some d) (upd H1 d (.xd [(f,y)]))
section
open PySem.MPX
variable {X:Cx} {e:Expr} {ta:TA} {x f v:Str} {C fI:Addr} {name qual:Str} {params:Arguments} {body:List Stmt} {scope:Scope} {file:Str} {p pos:Pos} {k:Nat}
theorem Zn4 (Z:InitK X.K C fI name qual params body scope file f) (T:InitT params body scope f v) (hsup:X.mg "super"=none) (hfile:((X.prog.main.file:Str)==file)=true) (htop:(X.prog.main.scope.names.lookup ("super":Str)).isSome=false)
  (hr:Room (k+1) X.A) (hg:Gl X x) (hm:X.mg x=some (.ref C)) (ha:PA X [e] ta)
  (hdb:(x==("__debug__":Str))=false:=by decide) (he:starEach [e] X.env=(false,eval e X.env)::starEach [] X.env:=by rfl) (hpl:(backTo pos (starEach [] X.env)).any (·.1)=false:=by rfl):
  PMk X (.Call (.Name x p) [e] [] pos) (Zo2 C f ta):=by
 intro pins s σ H Q I h
 obtain⟨B,newId,initId,bmB,BF,q1,q2,q3,q4⟩:=Z.base
 refine wpAny_Call_Name_kw (ld_glob I hg hm ?_ hdb)
 refine PySem.W.callWith_K (h₀:=X.base) I.ok.mod.kin Z.kC (thn (ha.run pos pins s σ H _ I h) fun us s1 ⟨vs,H1,I1,r1,y,hy,qq⟩=>⟨I1.kIn, ?_⟩) he hpl
 subst hy
 obtain⟨u,rfl,ru⟩:∃u,us=[u]∧RelV y u:=by
  cases r1 with
  | cons a b=>cases b; exact⟨_,rfl,a⟩
 show wpAny _ _ (call (.ref C) [u]) _ _ _
 obtain⟨hp,g,dr,tk,os⟩:=s1
 obtain⟨nm,N,q,bs,bm,hdct,sn,sub,ab,col,dd,k0,k1,k2,k3,k5,hC,hT⟩:=PySem.W.excInit_of I1.kIn q1
 have hsz:hp.objs.size≤hp.objs.size+1:=Yaf _
 have hn:H1 (hp.objs.size+1)=none:=I1.hok.fresh hsz
 have kk:∀b o,hp.get? b=some o→((hp.push (PySem.W.kdv_tup [u])).push (PySem.HandSPX.excO C hp.objs.size)).get? b=some o:=fun b o e=>Heap.get?_push_of_some _ (Heap.get?_push_of_some _ e)
 have hget:((hp.push (PySem.W.kdv_tup [u])).push (PySem.HandSPX.excO C hp.objs.size)).get? (hp.objs.size+1)=some (PySem.HandSPX.excO C hp.objs.size):=by heap_get
 have I2:Inv X pins σ (upd H1 (hp.objs.size+1) (exo (hp.objs.size+1) C none)) ⟨(hp.push (PySem.W.kdv_tup [u])).push (PySem.HandSPX.excO C hp.objs.size),g,dr,tk,os⟩:=
  I1.laid (t':=tk) (a:=hp.objs.size+1) (o:=exo (hp.objs.size+1) C none) (h':=(hp.push (PySem.W.kdv_tup [u])).push (PySem.HandSPX.excO C hp.objs.size)) kk hsz (exo_ok hget)
 have b0:X.base.get? (hp.objs.size+1)=none:=by
  cases z:X.base.get? (hp.objs.size+1)with
  | none=>rfl
  | some o=>exact absurd (Heap.lt_size (I1.bk _ _ z)) (by show ¬hp.objs.size+1<hp.objs.size; omega)
 have hus: [u].length≤sizeLine:=by rw [sizeLine_eq]; show 1≤_; omega
 refine wpAny_call (PySem.HandSPX.call_own BF.fb hT hC (PySem.W.looks_findIn I1.kIn Z.ini) (fun self=>PySem.W.bind_fn I1.kIn self (beq_iff_eq.mp Z.isf)) hus ?_)
 refine ZhJ Z T I1.mod I2.bk hsup hfile htop (hr.make C [u] []).depth hget b0 fun h2 tk2 dx t1 k4 hdx dne hx hns=> ?_
 have nd:∀{b:Addr} {o:Obj},((hp.push (PySem.W.kdv_tup [u])).push (PySem.HandSPX.excO C hp.objs.size)).get? b=some o→b≠dx:=fun{b o} z=>Yag (Yad (Heap.lt_size z) hdx)
 have hnd:upd H1 (hp.objs.size+1) (exo (hp.objs.size+1) C none) dx=none:=I2.hok.fresh hdx
 have hnd1:H1 dx=none:=by rw [upd_ne dne]at hnd; exact hnd
 have eo:upd H1 (hp.objs.size+1) (exo (hp.objs.size+1) C none) (hp.objs.size+1)=some (exo (hp.objs.size+1) C none):=upd_same
 obtain⟨Ha,eHa⟩:∃Ha,Ha=upd H1 (hp.objs.size+1) (exo (hp.objs.size+1) C none):=⟨_,rfl⟩
 rw [←eHa]at hnd eo I2
 have na:∀{b:Addr},Ha b=none→b≠hp.objs.size+1:=fun{b} n z=>by
  rw [z,eo]at n
  cases n
 have Un1:Un (frs X.stack) [] Ha (upd (upd Ha dx (exd dx [(f,y)])) (hp.objs.size+1) (exo (hp.objs.size+1) C (some dx))) ((hp.push (PySem.W.kdv_tup [u])).push (PySem.HandSPX.excO C hp.objs.size)) h2:={
  keep:=fun b o q n _ _=>k4 b o (na n) q
  slot:=fun b o q n _ _=>⟨o.slots,k4 b o (na n) q⟩
  free:=fun b o q n _=>by rw [upd_ne (na n),upd_ne (nd q)]; exact n
  there:=fun b o q _=>by
   by_cases hb:b=hp.objs.size+1
   ·exact⟨_,by rw [hb]; exact hx⟩
   ·exact⟨o,k4 b o hb q⟩
  tups:=fun b xs q=>by rw [upd_ne (at_ne eo q exo_tup),upd_ne (ne_of_none q hnd)]; exact q
  frzs:=fun b o v q=>by rw [upd_ne (at_ne eo q exo_frz),upd_ne (ne_of_none q hnd)]; exact q
  tbls:=fun b ps q=>⟨#[],by rw [upd_ne (at_ne eo q exo_tbl),upd_ne (ne_of_none q hnd),q]; simp⟩}
 have hok2:HOk X.prog X.w (upd (upd Ha dx (exd dx [(f,y)])) (hp.objs.size+1) (exo (hp.objs.size+1) C (some dx))) h2:=fun b o q=>by
  by_cases hb:b=hp.objs.size+1
  ·subst hb
   rw [upd_same]at q
   cases q
   exact exo_ok hx
  ·rw [upd_ne hb]at q
   by_cases hd:b=dx
   ·subst hd
    rw [upd_same]at q
    cases q
    exact exd_ok hns (relO_put (fs:=[]) ru fun g=>True.intro)
   ·rw [upd_ne hd]at q
    exact(I2.hok b o q).stay (fun c v hc z=>k4 c v (by
      rcases hc with hc | hc
      ·rw [hc]
       exact hb
      ·exact at_ne eo hc exo_own) z)
     (fun c hc=>by rw [upd_ne (at_ne eo hc exo_own),upd_ne (ne_of_none hc hnd)]; exact hc) (fun c xs hc=>by rw [upd_ne (at_ne eo hc exo_tup),upd_ne (ne_of_none hc hnd)]; exact hc)
 have eH:upd (del (upd (upd Ha dx (exd dx [(f,y)])) (hp.objs.size+1) (exo (hp.objs.size+1) C (some dx))) (hp.objs.size+1)) dx (.xd [(f,y)])=upd H1 dx (.xd [(f,y)]):=by
  funext b
  by_cases hd:b=dx
  ·rw [hd,upd_same,upd_same]
  ·rw [upd_ne hd,upd_ne hd]
   by_cases hb:b=hp.objs.size+1
   ·rw [hb,del_same,hn]
   ·rw [del_ne hb,upd_ne hb,upd_ne hd,eHa,upd_ne hb]
 refine⟨rfl, ?_⟩
 subst eHa
 exact mk_end (raises_own Z.exC Z.tyC) I1 hsz kk Un1 hok2 rfl I1.bare upd_same (by rw [upd_ne dne,upd_same]) hnd1 (by rw [eH]; exact qq dx hnd1)
end
def Znu (P:Program) (K:PySem.W.Frag) (mg:Str→Option Value) (n:Nm) (c f:String):Prop:=
  ∃(fI:Addr) (name qual:Str) (params:Arguments) (body:List Stmt) (scope:Scope) (file v:Str),MPX.InitK K (n.cl c) fI name qual params body scope file (Str.ofString f)∧MPX.InitT params body scope (Str.ofString f) v∧((P.main.file:Str)==file)=true∧
    (P.main.scope.names.lookup ("super":Str)).isSome=false∧mg "super"=none
theorem RS.raise_ {X:Cx} {n:Nm} {xh:Xh} {W:WX} {k:Nat} {gd:Bool} {c f:String} {e:Expr} {me:EM} {x:Str} {p pos pos':Pos} (C:Cok X W k gd) (Z:Znu X.prog X.K X.mg n c f) (he:RE X n xh W e me) (hg:Gl X x) (hm:X.mg x=some (.ref (n.cl c))) (hk:1≤k:=by decide)
  (hdb:(x==("__debug__":Str))=false:=by decide) (hst:starEach [e] X.env=(false,eval e X.env)::starEach [] X.env:=by rfl) (hpl:(backTo pos (starEach [] X.env)).any (·.1)=false:=by rfl):
  RS X n xh W (.Raise (some (.Call (.Name x p) [e] [] pos)) none pos') (Zem c f me):=by
 obtain⟨fI,name,qual,params,body,scope,file,v,z1,z2,z3,z4,z5⟩:=Z
 obtain⟨te,pe,ce⟩:=he.ex
 obtain⟨k',rfl⟩:∃k',k=k'+1:=⟨k - 1,by omega⟩
 refine⟨_,ps_raise C.calm C.tk (Zn4 (pos:=pos) z1 z2 z5 z3 z4 C.room hg hm (pa_cons pe pa_nil hst) hdb hst hpl),fun σ H w S env D s fm h=> ?_⟩
 unfold Zem at h
 refine ce σ H w S env _ s fm ((YcP fm.env h).imp (fun y S1 h1 w1 H1 u l1 k1 s1 r1=> ?_) fun _ _ z=>z)
 refine⟨u,rfl,fun d hd=> ?_⟩
 have kd:Zag H1 (upd H1 d (.xd [(Str.ofString f,u)])):=Ycs hd
 exact h1 w1 _ σ _ _ l1 (k1.trans kd) (s1.grow (ZaG hd)) ((fm.env.mono l1 k1).mono (Wd.Le.refl _) kd) ⟨rfl,d,_,rfl,upd_same,u,[],rfl,r1.mono (Wd.Le.refl _) kd,rfl⟩
end MP
namespace MP
open PySem PySem.Spec PyProof.Rows L2
theorem ZhK {K:PySem.W.Frag} {c f:Str} {B newId initId:String} {bmB:List Value} {file:Str} {d:DfM} (BF:MPX.BaseF B newId initId bmB) (h:Zjj c f B newId initId bmB file K=true) (z:ZiD K (d.at_.ad K)=d.val∧d.okB K=true) (ha:d.at_= .meth c "__init__") (hc:d.clo=[("__class__":Str)]):
  MPX.InitK K (He.ga K c) (He.ma K (He.ga K c) "__init__") d.name d.qual (defArgs d.st) (defBody d.st) (defScope d.st) file f:=by
 obtain⟨z1,z2⟩:=z
 have ea:d.at_.ad K=He.ma K (He.ga K c) "__init__":=by rw [ha]; rfl
 rw [ea]at z1
 unfold DfM.okB at z2
 rw [ea]at z2
 unfold Zjj at h
 simp only [YaK,decide_eq_true_eq]at h
 obtain⟨⟨⟨⟨⟨⟨⟨⟨⟨⟨⟨⟨⟨⟨h1,h2⟩,h3⟩,h4⟩,h5⟩,h6⟩,h7⟩,h8⟩,h9⟩,h10⟩,h11⟩,h12⟩,h13⟩,h14⟩,h15⟩:=h
 have hcls:∃cd,PySem.W.clsIn K (He.ga K c)=some cd∧cd.hasDict=true:=PySem.W.any_some h5
 refine⟨⟨B,newId,initId,bmB,BF,h1,h2,h3,h4⟩,hcls,h6,h7,h8,h9,h10,h11,h12,h13,h14, ?_⟩
 obtain⟨kp,z2⟩:=YaN.mp z2
 unfold ZiD at z1
 split at h15
 ·rename_i oc od fd osl ho
  simp only [YaK]at h15
  obtain⟨⟨c1,c2⟩,c3⟩:=h15
  rw [ho]at z1 z2
  obtain⟨g1,g2,g3,g4,g5,g6,g7,g8,g9,g10,g11,g12,g13,g14,g15⟩:=fd
  simp only [YaK]at z2
  simp only [DfM.val,Option.some.injEq,Prod.mk.injEq]at z1
  obtain⟨rfl,rfl,rfl,rfl,rfl,rfl,hcl,rfl⟩:=z1
  rw [hc]at hcl
  dsimp only at c1 c2 c3
  split at c2
  ·split at c1
   ·split at c1
    ·split at c1
     ·rename_i hl3 _ _ _ hv
      split at c3
      ·rename_i nm cc
       split at c3
       ·rename_i hl
        have en:nm= "__class__":=by simpa using hcl
        subst en
        rw [beq_iff_eq]at c1 c3
        subst c1 c3
        exact⟨_,_,_,_,_,_,_,_,_,_,ho,z2.1.1,⟨_,_,_,_,_,hl3,hv⟩,⟨_,_,_,hl⟩⟩
       ·cases c3
      ·cases c3
     ·cases c1
    ·cases c1
   ·cases c1
  ·cases c2
 ·cases h15
theorem ZkI {P:Program} {K:PySem.W.Frag} {mg:Str→Option Value} {c f:String} {file v:Str} {d:DfM} (Z:MPX.InitK K (He.ga K (Str.ofString c)) (He.ma K (He.ga K (Str.ofString c)) "__init__") d.name d.qual (defArgs d.st) (defBody d.st) (defScope d.st) file (Str.ofString f))
  (T:MPX.InitT (defArgs d.st) (defBody d.st) (defScope d.st) (Str.ofString f) v) (hf:((P.main.file:Str)==file)=true) (ht:(P.main.scope.names.lookup ("super":Str)).isSome=false) (hs:mg "super"=none):Znu P K mg (nmOf K) c f:=
 ⟨_,_,_,_,_,_,_,_,Z,T,hf,ht,hs⟩
end MP
namespace MP
open PySem PySem.Spec PyProof.Rows L2
theorem ZhL {n:Nat} {fa:List FaM} {fn:List DfM} {g:Addr→Option Obj} {s:Shared} (h:∀a,g a=s.heap.get? a):Zjk n fa fn g=(ZlY n fa fn).obs s:=by
 obtain rfl:g=s.heap.get?:=funext h
 rfl
end MP
namespace MP
open PySem PySem.Spec PyProof.Rows L2 PySem.W HandSHeadRun
section
variable (st:SharedT→Thread→Option (SharedT × Thread)) (n0:Nat) (ann:Option Value)
end
end MP
namespace MP
open PySem PySem.Spec PyProof.Rows L2
end MP
open MP.RE renaming var → Yb3, cmpW → Ych, callF → Yci, callB → Ycj, ix → Ycv, fld → YcQ, makeF → Yc6
open MP.RG renaming var → Ycm
open MP.R2w renaming orL → Ycr, ownNe → Yda
open MP.RS renaming asg → Ycy, ite → YcK
open MP.RT renaming cmpW → YcI, tru → YcT, not → Yc4
open MP.Zao renaming mul → Yc2, add → Yc8
namespace MPL
open PySem PySem.Spec PyProof.Rows L2 MP
def dd0:List (List SV):=[[]]
def dd1:List (List SV):=[[]]
def dd2:List (List SV):=[[]]
def dd3:List (List SV):=[[]]
def dd4:List (List SV):=[[]]
def dd5:List (List SV):=[[]]
def dd7:List (List SV):=[[]]
def dd8:List (List SV):=[[]]
def dd9:List (List SV):=[[]]
def Zn5:List (List SV):=[[]]
def ZoD:List (List SV):=[[]]
def ZoE:List (List SV):=[[]]
def ZoF:List (List SV):=[[]]
def ZoG:List (List SV):=[[]]
def ZoH:List (List SV):=[[]]
def ZoI:List (List SV):=[[]]
def ZoJ:List (List SV):=[[]]
theorem ob_eq (s:PySem.W.SharedT):ob s=hk.obs s.abs:=ZhL (HandSHeadRun.getT_eq s)
end MPL
namespace MP
open PySem (Str PyData sizeLine)
def wM {α:Type} (r:Res α) (Q:α→Zaa→Prop):Prop:=match r with
 | .ok a S=>Q a S
 | _=>False
structure Ps where
 nx:En→Zaa→Prop
 rt:SV→Zaa→Prop
 bk:En→Zaa→Prop:=fun _ _=>False
 ct:En→Zaa→Prop:=fun _ _=>False
def wS (r:ZbA) (D:Ps):Prop:=match r with
 | .nx e S=>D.nx e S
 | .rt v S=>D.rt v S
 | .bk e S=>D.bk e S
 | .ct e S=>D.ct e S
 | _=>False
section
variable {α β:Type} {r:Res α} {Q Q':α→Zaa→Prop} {S:Zaa} {D:Ps} {env:En}
theorem wM.mono (h:wM r Q) (k:∀a S,Q a S→Q' a S):wM r Q':=by
 cases r with
 | ok a S=>exact k a S h
 | exc x S=>exact h
 | bad=>exact h
theorem wM.ex (h:wM r Q):∃a S,r= .ok a S∧Q a S:=by
 cases r with
 | ok a S=>exact⟨a,S,rfl,h⟩
 | exc x S=>exact h.elim
 | bad=>exact h.elim
theorem wM.of {a:α} (h:r= .ok a S) (q:Q a S):wM r Q:=by rw [h]; exact q
theorem wS.mono {r:ZbA} {D':Ps} (h:wS r D) (k1:∀e S,D.nx e S→D'.nx e S) (k2:∀e S,D.rt e S→D'.rt e S) (k3:∀e S,D.bk e S→D'.bk e S) (k4:∀e S,D.ct e S→D'.ct e S):wS r D':=by
 cases r with
 | nx e S=>exact k1 e S h
 | rt e S=>exact k2 e S h
 | bk e S=>exact k3 e S h
 | ct e S=>exact k4 e S h
 | _=>exact h.elim
end
section
variable {g:GM} {body:SM} {D:Ps} {env:En} {S:Zaa}
abbrev Ps.turn (D:Ps) (P:En→Zaa→Prop):Ps:={nx:=P,rt:=D.rt,bk:=D.nx,ct:=P}
end
def Ext (p:Nat→Prop) (S S':Zaa):Prop:=S.length≤S'.length∧∀n o,¬p n→S[n]? =some o→S'[n]? =some o
theorem Ext.refl {p:Nat→Prop} (S:Zaa):Ext p S S:=⟨Yab _,fun _ _ _ e=>e⟩
theorem Ext.trans {p:Nat→Prop} {S S1 S2:Zaa} (a:Ext p S S1) (b:Ext p S1 S2):Ext p S S2:=⟨Yac a.1 b.1,fun n o h e=>b.2 n o h (a.2 n o h e)⟩
theorem Ext.app {p:Nat→Prop} (S T:Zaa):Ext p S (S++T):=⟨by rw [Yak]; omega,fun n o _ e=>by rw [Yai (Yaj.mp e).1]; exact e⟩
theorem Ext.set {p:Nat→Prop} {S:Zaa} {n:Nat} {o:SO} (h:p n):Ext p S (S.set n o):=⟨by rw [Yap]; exact Yab _,fun m u hm e=>by rw [Yao (fun z=>hm (by rw [←z]; exact h))]; exact e⟩
theorem Ext.imp {p q:Nat→Prop} {S S':Zaa} (a:Ext p S S') (h:∀n,p n→q n):Ext q S S':=⟨a.1,fun n o hn e=>a.2 n o (fun z=>hn (h n z)) e⟩
abbrev ZoK:Zaa→Zaa→Prop:=Ext fun _=>False
theorem Ext.at {p:Nat→Prop} {S S':Zaa} {n:Nat} {o:SO} (a:Ext p S S') (e:S[n]? =some o) (h:¬p n):S'[n]? =some o:=a.2 n o h e
theorem Ext.w {p:Nat→Prop} {S S':Zaa} (a:ZoK S S'):Ext p S S':=a.imp fun _ z=>z.elim
def b2i (b:Bool):Int:=if b then 1 else 0
theorem ZhM (b:Bool):0≤b2i b:=by cases b<;>decide
theorem Zmi (b:Bool):b2i b≤1:=by cases b<;>decide
end MP
namespace PySem.MPW
open PySem
open PySem.Sem (wp)
end PySem.MPW
namespace MP
open PySem PySem.Spec PyProof.Rows L2
theorem NoX.of_noExc {α β:Type} {r:Res α} {f:α→Zaa→Res β} (h:∀x S,NoX (f x S)):NoX ((ZeN r).bind f):=by
 cases r with
 | ok v S=>simp only [ZeN,ZbN]; exact h v S
 | exc x S=>trivial
 | bad=>trivial
section
variable {X:Cx} {n:Nm} {xh:Xh} {W:WX} {gd gc:Bool} {k j:Nat} {f:Addr} {fd:FuncData} {ps:List Str} {m m':List SV→M SV} {dxs:List SV} {dn:Str} {c:String} {tb:Zap}
theorem Out.bindN {α β:Type} {r:Res α} {f:α→Zaa→Res β} {K:β→Zaa→Prop} {E:XC→Zaa→Prop} (h:Out ((ZeN r).bind f) K E):Out r (fun v S=>Out (f v S) K E) fun _ _=>False:=by
 cases r with
 | ok v S=>exact h
 | exc x S=>exact h.elim
 | bad=>exact h.elim
end
end MP
namespace MPT
open PySem PySem.Spec PyProof.Rows L2
abbrev so (w:World):Obj:={cls:= .type "set",dict:=none,data:= .set #[] 0 (.fresh 0 0 (!w.params.followText "set-order"))}
abbrev hp1 (h:Heap) (w:World):Heap:=h.push (so w)
section
variable {P:Program} {w:World} {A:Around} {E:Value→Shared→Prop} {s:Shared}
def Mid (w:World) (ns:List Int) (s s2:Shared):Prop:=∃h' tk c,s2={s with heap:=h',toks:=tk}∧SetR w h' s.heap.objs.size (fun j=>decide (j∈ns)) c∧c≤ns.length∧∀b o,s.heap.get? b=some o→h'.get? b=some o
end
end MPT
namespace MP
open PySem PySem.Spec PyProof.Rows L2
section
variable {X:Cx} {n:Nm} {xh:Xh} {W:WX} {e:Expr} {me:EM} {pos p1 p2 pos2:Pos} {k:Nat} {gd:Bool}
end
end MP
namespace MP
open PySem PySem.Spec PyProof.Rows L2
section
variable {X:Cx} {n:Nm} {xh:Xh} {W:WX} {gd gc:Bool} {k j:Nat} {tb:Zap}
end
end MP
namespace MPL
open PySem MP
def Za4:List SV→M SV:=fun xs=>if xs.length=2 then MP.run 5 (ZbO (Zde (eC (.int 0)) (Zb8 2)) (ZbO (sIf (tB (e2 ltM (Zai 1) (eF Zf3 (Zac (Zai 0) (ZaZ))))) (Zde (e2 ixM (Zai 0) (Zai 1)) (Zb8 2)) (Zea)) (ZbO (Zde (eF Zlp (Zac (Zai 2) (Zac (e2 Zkz (e1 ZkB (eC (.int 1))) (Zai 2)) (ZaZ)))) (Zb8 3)) (ZbO (Zde (e2 Zf2 (e2 ZfT (e2 Zfd (e2 Zfd (e2 Zfd (e2 Zf2 (Zai 3) (eC (.int 2147483629))) (e2 ZfT (e2 ZfT (eC (.int 7919)) (Zai 1)) (Zai 1))) (e2 ZfT (eC (.int 31)) (Zai 1))) (eC (.int 17))) (eC (.int 48271))) (eC (.int 2147483647))) (Zb8 4)) (Zco (Zf1 (Zac (e2 ZfT (Zai 3) (eF Zjg (Zac (e2 geM (Zai 3) (e2 ZhB (eC (.int 10)) (eC (.int 18)))) (ZaZ)))) (Zac (Zai 4) (ZaZ))))))))) xs else ZcK
def ZaA:List SV→M SV:=fun xs=>if xs.length=2 then MP.run 3 (ZbO (sIf (tB (e2 gtM (e2 ixM (Zai 0) (eC (.int 0))) (eC (.int 0)))) (ZbO (Zde (e2 Zf2 (e2 ixM (Zai 0) (eC (.int 0))) (Zai 1)) (Zb8 2)) (ZbO (Zde (e2 ZkA (e2 ixM (Zai 0) (eC (.int 0))) (Zai 1)) (gIx (Zai 0) (eC (.int 0)))) (Zco (Zai 2)))) (Zea)) (ZbO (Zde (e2 Zf2 (e2 Zfd (e2 ZfT (e2 ixM (Zai 0) (eC (.int 1))) (eC (.int 39373))) (eC (.int 7))) (eC (.int 2147483647))) (gIx (Zai 0) (eC (.int 1)))) (Zco (e2 Zf2 (e2 ZkA (e2 Zf2 (e2 ZfT (e2 ixM (Zai 0) (eC (.int 1))) (e2 ixM (Zai 0) (eC (.int 1)))) (eC (.int 2147483629))) (eC (.int 32))) (Zai 1))))) xs else ZcK
def ZaL:List SV→M SV:=fun xs=>if xs.length=2 then MP.run 2 (Zco (e2 ixM (Zai 1) (eF ZaA (Zac (Zai 0) (Zac (eF Zf3 (Zac (Zai 1) (ZaZ))) (ZaZ)))))) xs else ZcK
end MPL
namespace MP
open PySem (Str PyData sizeLine)
open MPL
def Zen (S:Zaa) (s:Nat):Prop:=∃a b:Int,S[s]? =some (.lst [.int a, .int b])∧0≤a∧0≤b∧b<2147483647
theorem ZcV {i j:Int} (h1: -(2^64)<i) (h2:i<2^64):ZbW i j=true:=by unfold ZbW; simp only [YaO,YaK,decide_eq_true_eq]; exact .inl (.inl ⟨h1,h2⟩)
theorem Zgo {i j:Int} (h1: -(2^64)<j) (h2:j<2^64):ZbW i j=true:=by unfold ZbW; simp only [YaO,YaK,decide_eq_true_eq]; exact .inl (.inr ⟨h1,h2⟩)
theorem at0 {α:Type} (x:α) (r:List α):atS (x::r) 0=some x:=by
 unfold atS Zfc
 simp
theorem at1 {α:Type} (x y:α) (r:List α):atS (x::y::r) 1=some y:=by
 unfold atS Zfc
 simp
 rw [if_pos (by omega)]; rfl
theorem Zn6 {n:Nat}:Zfc (n+1) 0=some 0:=by unfold Zfc; simp
theorem Zn7 {n:Nat}:Zfc (n+2) 1=some 1:=by
 unfold Zfc
 simp
 omega
theorem Zgp {α:Type} {xs:List α} {i:Nat} {x:α} (h:xs[i]? =some x):atS xs (i:Int)=some x:=by
 have hl:=(Yaj.mp h).1
 unfold atS Zfc
 rw [if_pos (by omega),if_pos (by omega)]
 simpa using h
theorem Zmj {α:Type} {xs:List α} {i:Int} (h0:0≤i) (h1:i<xs.length):∃x,xs[i.toNat]? =some x∧atS xs i=some x:=by
 obtain⟨n,rfl⟩:=Int.eq_ofNat_of_zero_le h0
 have hn:n<xs.length:=by omega
 exact⟨xs[n],by simpa using YaY hn,Zgp (YaY hn)⟩
theorem Zen.app {S:Zaa} {s:Nat} (h:Zen S s) (T:Zaa):Zen (S++T) s:=by
 obtain⟨a,b,e,r⟩:=h
 exact⟨a,b,(Ext.app (p:=fun _=>False) S T).at e (fun z=>z),r⟩
theorem Zen.lt {S:Zaa} {s:Nat} (h:Zen S s):s<S.length:=by
 obtain⟨a,b,e,r⟩:=h
 exact(Yaj.mp e).1
theorem Zen.ext {S S':Zaa} {s:Nat} (h:Zen S s) (x:ZoK S S'):Zen S' s:=by
 obtain⟨a,b,e,r⟩:=h
 exact⟨a,b,x.at e (fun z=>z),r⟩
end MP
namespace MP
open PySem (Str PyData sizeLine)
section
variable {g:GM} {t:TM} {e:EM} {env:En} {I:IT} {B:Zaa} {xs:List SV} {p:SV→Bool} {h:SV→SV}
end
end MP
namespace MP
open PySem PySem.Spec PyProof.Rows L2
abbrev OM:=En→Zaa→Res (Option Int)
def Zmk:OM:=fun _ S=> .ok none S
def Zml (m:EM):OM:=fun env S=>(m env S).bind fun v S1=>match v with
 | .int i=> .ok (some i) S1
 | _=> .bad
def ZfE {α:Type} (xs:List α) (lo hi:Option Int):List α:=(xs.drop (HT.sIx xs.length 0 lo)).take (HT.sIx xs.length xs.length hi - HT.sIx xs.length 0 lo)
def Zeo:SV→Option Int→Option Int→M SV:=fun x lo hi S=>match x with
 | .tup xs=> .ok (.tup (ZfE xs lo hi)) S
 | .str z=>if z.length≤sizeLine then .ok (.str (cutS z lo hi)) S else .bad
 | .ref n=>(match ZaJ S n with
  | some xs=> .ok (.ref S.length) (S++[.lst (ZfE xs lo hi)])
  | none=> .bad)
 | _=> .bad
def ZiJ (m:EM) (l u:OM):EM:=fun env S=>(m env S).bind fun x S1=>(l env S1).bind fun a S2=>(u env S2).bind fun b S3=>Zeo x a b S3
def KO (g:G) (w:Wd) (H:Hp) (Q:Option Int→Hp→Prop):Option Int→Zaa→Prop:=fun a S'=>∀w' H',w.Le w'→Zag H H'→Sim g w' H' S'→Q a H'
structure RO (X:Cx) (n:Nm) (xh:Xh) (W:WX) (e:Option Expr) (m:OM):Prop where
 ex:∃t:TO,PO X e t∧∀(σ:L2.St) (H:Hp) (w:Wd) (S:Zaa) (env:En) (Q:Option Int→Hp→Prop),Sim (gx X n) w H S→Fm (gx X n) xh w H env σ→Out (m env S) (KO (gx X n) w H Q) (KX (gx X n) w H fun cls d H'=>W cls d σ H')→t σ H Q
theorem VRs.cut {g:G} {w:Wd} {H:Hp} {lo hi:Option Int} {xs:List SV} {vs:List V} (r:VRs g w H xs vs):VRs g w H (ZfE xs lo hi) (cutV vs lo hi):=by
 have dr:∀(k:Nat) {xs:List SV} {vs:List V},VRs g w H xs vs→VRs g w H (xs.drop k) (vs.drop k):=by
  intro k
  induction k with
  | zero=>intro xs vs r; exact r
  | succ k ih=>
   intro xs vs r
   cases xs with
   | nil=>simp only [VRs]at r; subst r; simp [VRs]
   | cons x xs=>
    simp only [VRs]at r
    obtain⟨v,t,rfl,r1,r2⟩:=r
    exact ih r2
 have tk:∀(k:Nat) {xs:List SV} {vs:List V},VRs g w H xs vs→VRs g w H (xs.take k) (vs.take k):=by
  intro k
  induction k with
  | zero=>intro xs vs r; simp [VRs]
  | succ k ih=>
   intro xs vs r
   cases xs with
   | nil=>simp only [VRs]at r; subst r; simp [VRs]
   | cons x xs=>
    simp only [VRs]at r
    obtain⟨v,t,rfl,r1,r2⟩:=r
    simp only [List.take_succ_cons,VRs]
    exact⟨v,_,rfl,r1,ih r2⟩
 have hl:=r.len
 unfold ZfE cutV
 rw [hl]
 exact tk _ (dr _ r)
theorem ZfF {α:Type} {xs:List α} {lo hi:Option Int} (h:HT.sIx xs.length 0 lo=0∧HT.sIx xs.length xs.length hi=xs.length):ZfE xs lo hi=xs:=by
 unfold ZfE
 rw [h.1,h.2]
 simp
section
variable {X:Cx} {n:Nm} {xh:Xh} {W:WX} {e:Expr} {me:EM} {lo hi:Option Expr} {ml mu:OM} {pos p2:Pos}
theorem RO.none:RO X n xh W none Zmk:=⟨_,po_none,fun σ H w S env Q s fm h=>h w H (Wd.Le.refl w) (Yb9 H) s⟩
theorem RO.some (he:RE X n xh W e me):RO X n xh W (some e) (Zml me):=by
 obtain⟨te,pe,ce⟩:=he.ex
 refine⟨_,po_some pe,fun σ H w S env Q s fm h=> ?_⟩
 refine ce σ H w S env _ s fm ((Yb5 h).imp (fun x S1 h1 w1 H1 v l1 k1 s1 r1=> ?_) fun _ _ z=>z)
 split at h1
 ·exact⟨_,r1.i,h1 w1 H1 l1 k1 s1⟩
 ·exact h1.elim
theorem RE.slice (he:RE X n xh W e me) (hl:RO X n xh W lo ml) (hu:RO X n xh W hi mu):RE X n xh W (.Subscript e (.Slice lo hi none p2) pos) (ZiJ me ml mu):=by
 obtain⟨te,pe,ce⟩:=he.ex
 obtain⟨tl,pl,cl⟩:=hl.ex
 obtain⟨tu,pu,cu⟩:=hu.ex
 refine⟨_,pe_slice (SlR.or sl_tupA (SlR.or sl_str sl_list)) pe pl pu,fun σ H w S env Q s fm h=> ?_⟩
 refine ce σ H w S env _ s fm ((Yb5 h).imp (fun x S1 h1 w1 H1 v l1 k1 s1 r1=> ?_) fun _ _ z=>z)
 refine cl σ H1 w1 S1 env _ s1 (fm.mono l1 k1) ((Yb5 h1).imp (fun a S2 h2 w2 H2 l2 k2 s2=> ?_) fun _ _ z=>z.mono l1 k1)
 refine cu σ H2 w2 S2 env _ s2 (fm.mono (l1.trans l2) (k1.trans k2)) ((Yb5 h2).imp (fun b S3 h3 w3 H3 l3 k3 s3=> ?_) fun _ _ z=>z.mono (l1.trans l2) (k1.trans k2))
 have r3:=r1.mono (l2.trans l3) (k2.trans k3)
 have L:=(l1.trans l2).trans l3
 have K:=(k1.trans k2).trans k3
 unfold Zeo at h3
 split at h3
 ·rename_i xs
  obtain⟨p,vs,rfl,sq,rs⟩:=r3.t
  have hn:=rs.len
  have rc:=rs.cut (lo:=a) (hi:=b)
  have h4:=Yc1 L K h3
  refine .inl ⟨p,vs,rfl,SqT.of sq,fun hw=> ?_,fun hw q hq=>KV.tup s3 rc h4 q hq⟩
  have e:ZfE xs a b=xs:=ZfF (by rw [←hn]; exact hw)
  rw [e]at h4
  exact h4 w3 H3 _ (Wd.Le.refl _) (Yb9 _) s3 r3
 ·rename_i z
  by_cases c:z.length≤sizeLine
  ·rw [if_pos c]at h3
   exact .inr (.inl ⟨z,r3.s,c,Ycd s3 (Yc1 L K h3) VR.os⟩)
  ·rw [if_neg c]at h3; exact h3.elim
 ·rename_i m
  cases q:ZaJ S3 m with
  | none=>rw [q]at h3; exact h3.elim
  | some xs=>
   rw [q]at h3
   obtain⟨vs,hv,rv⟩:=s3.seq (ZaT q)
   exact .inr (.inr ⟨_,vs,r3.r.2,hv,fun p hp=>YcU s3 rv.cut (Yc1 L K h3) p hp⟩)
 ·exact h3.elim
end
end MP
namespace MP
open PySem PySem.Spec PyProof.Rows L2
def tyS (T:String) (S:Zaa):SV→Bool
 | .str _=>T== "str"
 | .ref n=>T== "list"&&(ZaJ S n).isSome
 | _=>false
def eBM (T:String) (f:SV→List SV→M SV) (o:EM) (a:AM):EM:=fun env S=>(o env S).bind fun x S1=>if tyS T S1 x=true then (a env S1).bind fun xs S2=>f x xs S2 else .bad
structure ZkJ (X:Cx) (n:Nm) (T:String) (name:Str) (m:SV→List SV→M SV):Prop where
 pa:PlainAttrs T
 nx:∀x xs S,NoX (m x xs S)
 ex:∃(id:String) (r:V→List V→Hp→VK→Prop),Slot T name id∧typeOf (.builtin id)=pure (.type "method_descriptor")∧MtR X id r∧
  ∀(H:Hp) (w:Wd) (S:Zaa) (x:SV) (xs:List SV) (v:V) (vs:List V) (Q:VK),Sim (gx X n) w H S→VR (gx X n) w H x v→VRs (gx X n) w H xs vs→Out (m x xs S) (KV (gx X n) w H Q) (fun _ _=>False)→r v vs H Q
section
variable {X:Cx} {n:Nm} {xh:Xh} {W:WX} {o e:Expr} {es:List Expr} {mo:EM} {ma:AM} {T:String} {name:Str} {m:SV→List SV→M SV} {apos cpos:Pos}
theorem Zmm {w:Wd} {H:Hp} {S:Zaa} {x:SV} {v:V} (sm:Sim (gx X n) w H S) (r:VR (gx X n) w H x v) (h:tyS T S x=true):tyV X.K T v H:=by
 unfold tyS at h
 split at h
 ·rw [r.s]
  show T= "str"
  simpa using h
 ·rename_i m
  simp only [YaK,beq_iff_eq,YaZ]at h
  obtain⟨rfl,xs,q⟩:=h
  obtain⟨vs,hv,_⟩:=sm.seq (ZaT q)
  rw [r.r.2]
  exact .inl ⟨rfl,vs,hv⟩
 ·cases h
theorem RE.bm (R:ZkJ X n T name m) (ho:RE X n xh W o mo) (ha:RA X n xh W (e::es) ma) (hbase:attributeBase o name X.env (eval o X.env)=eval o X.env:=by rfl)
  (hfew:((backTo cpos (starEach (e::es) X.env)).all (fun x=> !x.1)&&(backToKw cpos (keywordEach [] X.env)).all (fun x=>x.1.isSome)
   &&decide ((e::es).length+([]:List Keyword).length+(if([]:List Keyword).isEmpty then 0 else 1)<30))=true:=by rfl)
  (hline:(apos.endLine==cpos.line)=true:=by rfl) (hs:starEach (e::es) X.env=(false,eval e X.env)::starEach es X.env:=by rfl) (hplain:(backTo cpos (starEach es X.env)).any (·.1)=false:=by rfl):
  RE X n xh W (.Call (.Attribute o name apos) (e::es) [] cpos) (eBM T m mo ma):=by
 obtain⟨id,r,slot,hty,hm,hr⟩:=R.ex
 obtain⟨to,po,co⟩:=ho.ex
 obtain⟨ta,pa,ca⟩:=ha.ex
 refine⟨_,pe_bm R.pa slot hty hm po pa hbase hfew hline hs hplain,fun σ H w S env Q s fm h=> ?_⟩
 refine co σ H w S env _ s fm ((Yb5 h).imp (fun x S1 h1 w1 H1 v l1 k1 s1 r1=> ?_) fun _ _ z=>z)
 by_cases c:tyS T S1 x=true
 ·rw [if_pos c]at h1
  refine⟨Zmm s1 r1 c,ca σ H1 w1 S1 env _ s1 (fm.mono l1 k1) ((Yb5 h1).imp (fun xs S2 h2 w2 H2 vs l2 k2 s2 r2=> ?_) fun _ _ z=>z.mono l1 k1)⟩
  exact hr H2 w2 S2 x xs v vs Q s2 (r1.mono l2 k2) r2 ((h2.nox (R.nx _ _ _)).imp (fun _ _ z=>z.mono (l1.trans l2) (k1.trans k2)) fun _ _ z=>z)
 ·rw [if_neg c]at h1; exact h1.elim
end
def ZbZ:List SV→Option (List Str)
 | []=>some []
 | .str z::r=>(ZbZ r).map (z:: ·)
 | _=>none
theorem ZhN {g:G} {w:Wd} {H:Hp}:∀{xs:List SV} {vs:List V} {zs:List Str},VRs g w H xs vs→ZbZ xs=some zs→vs=zs.map V.str:=by
 intro xs
 induction xs with
 | nil=>intro vs zs r e; cases e; simp only [VRs]at r; subst r; rfl
 | cons x xs ih=>
  intro vs zs r e
  simp only [VRs]at r
  obtain⟨v,t,rfl,r1,r2⟩:=r
  cases x with
  | str z=>
   simp only [ZbZ,YaI]at e
   obtain⟨ys,e1,rfl⟩:=e
   rw [r1.s,ih r2 e1]; rfl
  | _=>simp [ZbZ]at e
theorem VRs.ofStrs {g:G} {w:Wd} {H:Hp}:∀zs:List Str,VRs g w H (zs.map SV.str) (zs.map V.str)
 | []=>by simp [VRs]
 | z::r=>by
  simp only [Ya0,VRs]
  exact⟨_,_,rfl,VR.os,VRs.ofStrs r⟩
def ZcW:SV→List SV→M SV:=fun x xs S=>match x,xs with
 | .ref n,[y]=>(match S[n]? with
  | some (.lst ys)=>if ys.length<sizeLine then .ok .non (S.set n (.lst (ys++[y])))else .bad
  | _=> .bad)
 | _,_=> .bad
def Zep:SV→List SV→M SV:=fun x xs S=>match x,xs with
 | .str a,[.str b]=>if(b.length==0)=false∧a.length+2≤sizeLine then .ok (.ref S.length) (S++[.lst ((Txt.split a b).map .str)])else .bad
 | _,_=> .bad
section
variable {X:Cx} {n:Nm}
theorem ZkJ.append:ZkJ X n "list" "append" ZcW where
 pa:=F.plainAttrs_list
 nx:=fun x xs S=>by unfold ZcW; split<;>(try split)<;>(try split)<;>trivial
 ex:=by
  refine⟨_,_,F.slot_list_append,F.type_list_append,mt_append,fun H w S x xs v vs Q sm r rs h=> ?_⟩
  unfold ZcW at h
  split at h
  ·rename_i m y
   obtain⟨u,rfl,ry⟩:=rs.r1
   split at h
   ·rename_i ys q
    by_cases c:ys.length<sizeLine
    ·rw [if_pos c]at h
     obtain⟨us,hu,rv⟩:=sm.at_ q
     have rr:=rv.append (YcH ry)
     obtain⟨kk,s2⟩:=sm.setL q rr
     exact⟨_,us,u,r.r.2,rfl,hu,by rw [rv.len]; exact c,h w _ _ (Wd.Le.refl w) kk s2 (by simp [VR])⟩
    ·rw [if_neg c]at h; exact h.elim
   ·exact h.elim
  ·exact h.elim
theorem ZkJ.split:ZkJ X n "str" "split" Zep where
 pa:=F.plainAttrs_str
 nx:=fun x xs S=>by unfold Zep; split<;>(try split)<;>trivial
 ex:=by
  refine⟨_,_,F.slot_str_split,F.type_str_split,mt_split,fun H w S x xs v vs Q sm r rs h=> ?_⟩
  unfold Zep at h
  split at h
  ·rename_i a b
   obtain⟨u,rfl,ry⟩:=rs.r1
   by_cases c:(b.length==0)=false∧a.length+2≤sizeLine
   ·rw [if_pos c]at h
    exact⟨a,b,r.s,by rw [ry.s],c.1,c.2,fun p hp=>YcU sm (VRs.ofStrs _) h p hp⟩
   ·rw [if_neg c]at h; exact h.elim
  ·exact h.elim
end
end MP
namespace MP
open PySem PySem.Spec PyProof.Rows L2
inductive Sel where
 | p (i:Nat)
 | k (i:Nat)
 | m (i:Nat)
def Sel.of {α:Type} (us ws ms:List α):Sel→Option α
 | .p i=>us[i]?
 | .k i=>ws[i]?
 | .m i=>ms[i]?
def pick {α:Type} (sel:List Sel) (us ws ms:List α):List α:=sel.filterMap (Sel.of us ws ms)
def eK (f:List SV→List SV→M SV) (a b:AM):EM:=fun env S=>(a env S).bind fun xs S1=>(b env S1).bind fun zs S2=>f xs zs S2
def ZiK (m:List SV→M SV) (sel:List Sel) (dxs:List SV) (np nk:Nat):List SV→List SV→M SV:=fun xs zs=>if xs.length=np∧zs.length=nk then m (pick sel xs zs dxs)else ZcK
def Zcg (c:String) (m:List SV→M SV) (sel:List Sel) (dxs:List SV) (np nk:Nat):List SV→List SV→M SV:=fun xs zs=>if xs.length=np∧zs.length=nk then Zcf c (fun ys=>m (pick sel ys zs dxs)) xs else ZcK
theorem ZcM {α β:Type} {R:α→β→Prop}:∀{xs:List α} {ys:List β},Paired R xs ys→∀i:Nat,(xs[i]? =none∧ys[i]? =none)∨∃x y,xs[i]? =some x∧ys[i]? =some y∧R x y
 | _,_, .nil,i=> .inl ⟨rfl,rfl⟩
 | _,_, .cons r t,0=> .inr ⟨_,_,rfl,rfl,r⟩
 | _,_, .cons r t,i+1=>ZcM t i
theorem Zeq {vs zs mz:List V} {us ws mv:List Value} (a:Vals vs us) (b:Vals zs ws) (c:Vals mz mv):∀sel:List Sel,Vals (pick sel vs zs mz) (pick sel us ws mv)
 | []=> .nil
 | s::r=>by
  have ih:=Zeq a b c r
  have h:(Sel.of vs zs mz s=none∧Sel.of us ws mv s=none)∨∃x y,Sel.of vs zs mz s=some x∧Sel.of us ws mv s=some y∧RelV x y:=by
   cases s with
   | p i=>exact ZcM a i
   | k i=>exact ZcM b i
   | m i=>exact ZcM c i
  unfold pick at ih⊢
  rcases h with ⟨e1,e2⟩ | ⟨x,y,e1,e2,q⟩
  ·rw [Ya1 e1,Ya1 e2]; exact ih
  ·rw [Ya2 e1,Ya2 e2]; exact .cons q ih
theorem VRs.getI {g:G} {w:Wd} {H:Hp}:∀{xs:List SV} {vs:List V},VRs g w H xs vs→∀i:Nat,(xs[i]? =none∧vs[i]? =none)∨∃x v,xs[i]? =some x∧vs[i]? =some v∧VR g w H x v
 | [],vs,r,i=>by simp only [VRs]at r; subst r; exact .inl ⟨rfl,rfl⟩
 | x::xs,vs,r,i=>by
  simp only [VRs]at r
  obtain⟨v,t,rfl,r1,r2⟩:=r
  cases i with
  | zero=>exact .inr ⟨x,v,rfl,rfl,r1⟩
  | succ i=>exact VRs.getI r2 i
theorem VRs.pick {g:G} {w:Wd} {H:Hp} {xs ys ds:List SV} {vs zs mz:List V} (a:VRs g w H xs vs) (b:VRs g w H ys zs) (c:VRs g w H ds mz):∀sel:List Sel,VRs g w H (MP.pick sel xs ys ds) (MP.pick sel vs zs mz)
 | []=>by simp [MP.pick,VRs]
 | s::r=>by
  have ih:=VRs.pick a b c r
  have h:(Sel.of xs ys ds s=none∧Sel.of vs zs mz s=none)∨∃x y,Sel.of xs ys ds s=some x∧Sel.of vs zs mz s=some y∧VR g w H x y:=by
   cases s with
   | p i=>exact VRs.getI a i
   | k i=>exact VRs.getI b i
   | m i=>exact VRs.getI c i
  unfold MP.pick at ih⊢
  rcases h with ⟨e1,e2⟩ | ⟨x,y,e1,e2,q⟩
  ·rw [Ya1 e1,Ya1 e2]; exact ih
  ·rw [Ya2 e1,Ya2 e2]; exact Ycg q ih
structure KwB (X:Cx) (n:Nm) (fd:FuncData) (ps:List Str) (np:Nat) (ks:List Str) (sel:List Sel) (dxs:List SV):Prop where
 ex:∃(mz:List V) (mv:List Value),Vals mz mv∧(∀w H,VRs (gx X n) w H dxs mz)∧∀(s:Shared) (us ws:List Value),X.K.In s.heap→us.length=np→ws.length=ks.length→BindsTo s fd ⟨us,ks.zip ws⟩ (ps.zip (pick sel us ws mv))
structure RK (X:Cx) (n:Nm) (xh:Xh) (W:WX) (kws:List Keyword) (m:AM):Prop where
 ex:∃t:TA,PK X kws t∧∀(σ:L2.St) (H:Hp) (w:Wd) (S:Zaa) (env:En) (Q:List V→Hp→Prop),Sim (gx X n) w H S→Fm (gx X n) xh w H env σ→Out (m env S) (KVs (gx X n) w H Q) (KX (gx X n) w H fun cls d H'=>W cls d σ H')→t σ H Q
section
variable {X:Cx} {n:Nm} {xh:Xh} {W:WX} {gd gc:Bool} {k j:Nat} {f:Addr} {fd:FuncData} {ps ks:List Str} {m:List SV→M SV} {e:Expr} {es:List Expr} {kws:List Keyword} {ma mk:AM} {me:EM} {pos p kpos:Pos} {x nm:Str} {dxs:List SV} {sel:List Sel} {np nk:Nat}
theorem RK.nil:RK X n xh W [] ZaZ:=⟨_,pk_nil,fun σ H w S env Q s fm h=>h w H [] (Wd.Le.refl w) (Yb9 H) s YcA⟩
theorem RK.cons {nm:Option Str} (he:RE X n xh W e me) (hr:RK X n xh W kws mk):RK X n xh W (⟨nm,e,kpos⟩::kws) (Zac me mk):=by
 obtain⟨te,pe,ce⟩:=he.ex
 obtain⟨tr,pr,cr⟩:=hr.ex
 refine⟨_,pk_cons pe pr,fun σ H w S env Q s fm h=> ?_⟩
 refine ce σ H w S env _ s fm ((Yb5 h).imp (fun x S1 h1 w1 H1 v l1 k1 s1 r1=> ?_) fun _ _ z=>z)
 refine cr σ H1 w1 S1 env _ s1 (fm.mono l1 k1) ((Yb5 h1).imp (fun xs S2 h2 w2 H2 vs l2 k2 s2 r2=> ?_) fun _ _ z=>z.mono l1 k1)
 exact h2 w2 H2 _ (l1.trans l2) (k1.trans k2) s2 (Ycg (r1.mono l2 k2) r2)
theorem ZfG {pins:List (Addr × Obj)} {σ:L2.St} {H:Hp} {s:Shared} {Q:VK} {us ws:List Value} {vs zs:List V} {xs ys:List SV} {w:Wd} {S:Zaa} {c:String} (C:Cok X W k gd) (Mk':Mk X.K (n.cl c) f) (F:Fd gc X.prog X.w X.K X.mg X.base n j f fd ps m) (hj:j+1≤k) (hg:gc=true→gd=true)
  (B:KwB X n fd ps (np+1) ks sel dxs) (I:Inv X pins σ H s) (r:Vals vs us) (rz:Vals zs ws) (sm:Sim (gx X n) w H S) (rs:VRs (gx X n) w H xs vs) (ry:VRs (gx X n) w H ys zs)
  (h:Out (Zcg c m sel dxs np ks.length xs ys S) (KV (gx X n) w H Q) (KX (gx X n) w H fun cls d H'=>W cls d σ H')):wpAny (model X.prog X.w) X.A (call (.ref (n.cl c)) us (ks.zip ws)) (EP X pins σ Q) X.xe s:=by
 obtain⟨mz,mv,rm,hd,hb⟩:=B.ex
 unfold Zcg at h
 by_cases cl:xs.length=np∧ys.length=ks.length
 ·rw [if_pos cl]at h
  have hx:H (s.heap.objs.size+1)=none:=I.hok.fresh (Yaf _)
  have hdx:H s.heap.objs.size=none:=I.hok.fresh (Yab _)
  have ne:s.heap.objs.size≠s.heap.objs.size+1:=Yag (Yaq _)
  obtain⟨kp,sm2⟩:=sm.made (c:=c) hx hdx ne
  have I2:=Inv.made (C:=n.cl c) I
  have lw:=w.le_push (s.heap.objs.size+1)
  obtain⟨Hn,eHn⟩:∃Hn,Hn=upd (upd H s.heap.objs.size (.own (s.heap.objs.size+1))) (s.heap.objs.size+1) (.ins (n.cl c) s.heap.objs.size []):=⟨_,rfl⟩
  rw [←eHn]at kp sm2 I2
  have self:VR (gx X n) (w.push (s.heap.objs.size+1)) Hn (.ref S.length) (.ref (s.heap.objs.size+1)):=by
   simp only [VR]
   rw [sm.len]
   exact⟨Yaq _,by rw [w.push_at]⟩
  have rs2:=(Ycg self (rs.mono lw kp)).pick (ry.mono lw kp) (hd _ _) sel
  have r1:Vals (V.ref (s.heap.objs.size+1)::vs) (Value.ref (s.heap.objs.size+1)::us):=Paired.cons (show RelV (V.ref _) (Value.ref _)from rfl) r
  have r2:=Zeq r1 rz rm sel
  have h0:=Yb5 h
  have hl:(pick sel (V.ref (s.heap.objs.size+1)::vs) zs mz).length=ps.length:=by
   refine Classical.byContradiction fun z=> ?_
   have e:=F.ar (pick sel (.ref S.length::xs) ys dxs) (S++[.ins c []]) (by rw [←rs2.len]; exact z)
   have h1:Out (m (pick sel (.ref S.length::xs) ys dxs) (S++[.ins c []])) _ _:=h0
   rw [e]at h1
   exact h1
  have want:Out (m (pick sel (.ref S.length::xs) ys dxs) (S++[.ins c []])) (KV (gx X n) (w.push (s.heap.objs.size+1)) Hn (fun v H2=>v= .non∧Q (.ref (s.heap.objs.size+1)) H2)) (KX (gx X n) (w.push (s.heap.objs.size+1)) Hn fun cls d H'=>W cls d σ H'):=by
   have h1:Out (m (pick sel (.ref S.length::xs) ys dxs) (S++[.ins c []])) _ _:=h0
   refine h1.imp (fun a S2 h2 w2 H2 v l2 k2 s2 r2=> ?_) fun _ _ z=>z.mono lw kp
   cases a with
   | non=>exact⟨by simpa [VR]using r2,h2 w2 H2 _ (lw.trans l2) (kp.trans k2) s2 (self.mono l2 k2)⟩
   | _=>exact h2.elim
  have hA:Room k X.A:=C.room
  obtain⟨k',rfl⟩:∃k',k=k'+1:=⟨k - 1,by omega⟩
  have n1:(Value.ref (s.heap.objs.size+1)::us).length=np+1:=by rw [Yae,←r.length,rs.len,cl.1]
  refine wpAny_call (make_map (f:=f) I.kIn Mk'.makes Mk'.init (beq_iff_eq.mp Mk'.fn) (codeAny_mono (F.fn.run _ X.stack _ _ ⟨Value.ref (s.heap.objs.size+1)::us,ks.zip ws⟩ _ _ _ (fun cls d H'=>W cls d σ H') (fun z=> ?_) ((hA.make (n.cl c) us (ks.zip ws)).mono (by omega)) (I2.env0.make (n.cl c) us (ks.zip ws))
   (hb _ (Value.ref (s.heap.objs.size+1)::us) ws I2.kIn n1 (by rw [←rz.length,ry.len]; exact cl.2)) r2 ⟨hl,_,_,_,sm2,rs2,want⟩) fun r s' hq=> ?_))
  ·have gz:=C.gs (hg z)
   first
    | exact gz
    | (simpa [Around.under,Code.guards,Code.isGuard,pushGuards]using gz)
  ·cases r with
   | error e=>exact passAt C.tk σ pins _ _ e s' I2 hq
   | ok fl=>
    cases fl with
    | ret u=>
     obtain⟨v,H',I3,rv,ev,q3⟩:=I2.after hq
     subst ev
     exact⟨rv,⟨V.ref (s.heap.objs.size+1),H',I3,rfl,q3⟩⟩
    | next=>exact hq.elim
    | brk=>exact hq.elim
    | cont=>exact hq.elim
 ·rw [if_neg cl]at h; exact h.elim
theorem RE.makeK {c:String} (C:Cok X W k gd) (Mk':Mk X.K (n.cl c) f) (F:Fd gc X.prog X.w X.K X.mg X.base n j f fd ps m) (B:KwB X n fd ps (np+1) ks sel dxs) (hgl:Gl X x) (hm:X.mg x=some (.ref (n.cl c))) (ha:RA X n xh W (e::es) ma) (hk:RK X n xh W kws mk) (hj:j+1≤k:=by decide) (hg:gc=true→gd=true:=by decide)
  (hall:(backToKw pos (keywordEach kws X.env)).all (·.1.isSome)=true:=by rfl) (hks:(backToKw pos (keywordEach kws X.env)).filterMap (·.1)=ks:=by rfl) (hdb:(x==("__debug__":Str))=false:=by decide)
  (he:starEach (e::es) X.env=(false,eval e X.env)::starEach es X.env:=by rfl) (hpl:((backTo pos (starEach (e::es) X.env)).any (·.1) || (backToKw pos (keywordEach kws X.env)).any (·.1.isNone))=false:=by rfl) (hn:nk=ks.length:=by rfl):
  RE X n xh W (.Call (.Name x p) (e::es) kws pos) (eK (Zcg c m sel dxs np nk) ma mk):=by
 subst hn
 obtain⟨ta,pa,ca⟩:=ha.ex
 obtain⟨tk,pk,ck⟩:=hk.ex
 refine⟨fun σ H Q=>∃w S env,Sim (gx X n) w H S∧Fm (gx X n) xh w H env σ∧Out (eK (Zcg c m sel dxs np ks.length) ma mk env S) (KV (gx X n) w H Q) (KX (gx X n) w H fun cls d H'=>W cls d σ H'),⟨fun pins s σ H Q I h=> ?_⟩,fun σ H w S env Q s fm h=>⟨w,S,env,s,fm,h⟩⟩
 obtain⟨w,S,env,sm,fm,h⟩:=h
 refine wpAny_Call_Name_kw (ld_glob I hgl hm ?_ hdb)
 have q:=ca σ H w S env (fun vs H1=>∃xs S1 w1,Sim (gx X n) w1 H1 S1∧VRs (gx X n) w1 H1 xs vs∧Fm (gx X n) xh w1 H1 env σ∧Out ((mk env S1).bind fun zs S2=>Zcg c m sel dxs np ks.length xs zs S2) (KV (gx X n) w1 H1 Q) (KX (gx X n) w1 H1 fun cls d H'=>W cls d σ H')) sm fm
  ((Yb5 h).imp (fun xs S1 h1 w1 H1 vs l1 k1 s1 r1=>⟨xs,S1,w1,s1,r1,fm.mono l1 k1,h1.imp (fun _ _ z=>z.mono l1 k1) fun _ _ z=>z.mono l1 k1⟩) fun _ _ z=>z)
 refine PySem.W.callWith_KW (h₀:=X.base) I.ok.mod.kin Mk'.kp hall (thn (pa.run pos pins s σ H _ I q) fun us s1 ⟨vs,H1,I1,r,xs,S1,w1,sm1,rs1,fm1,h1⟩=> ?_) hpl he
 have q2:=ck σ H1 w1 S1 env (fun zs H2=>∃ys S2 w2,Sim (gx X n) w2 H2 S2∧VRs (gx X n) w2 H2 xs vs∧VRs (gx X n) w2 H2 ys zs∧Out (Zcg c m sel dxs np ks.length xs ys S2) (KV (gx X n) w2 H2 Q) (KX (gx X n) w2 H2 fun cls d H'=>W cls d σ H')) sm1 fm1
  ((Yb5 h1).imp (fun ys S2 h2 w2 H2 zs l2 k2 s2 r2=>⟨ys,S2,w2,s2,rs1.mono l2 k2,r2,h2.imp (fun _ _ z=>z.mono l2 k2) fun _ _ z=>z.mono l2 k2⟩) fun _ _ z=>z)
 refine thn (pk.run pos pins s1 σ H1 _ I1 q2) fun ws s2 ⟨zs,H2,I2,rz,ys,S2,w2,sm2,rs2,ry2,h2⟩=>⟨I2.kIn, ?_⟩
 rw [hks]
 exact ZfG C Mk' F hj hg B I2 r rz sm2 rs2 ry2 h2
end
section
variable {X:Cx} {n:Nm} {x qual:Str} {params:Arguments} {body:List Stmt} {scope:Scope} {dvs:List V} {kws:List (Str × V)} {f:Addr} {fd:FuncData} {ps ks:List Str} {np:Nat} {sel:List Sel} {dxs:List SV}
theorem KwB.k (F:FunD X.K x qual params body scope [] kws f fd) (ms:List (Str × V)) (hk:kws≠ []) (hms:∀q∈ms,q∈kws) (hd:∀w H,VRs (gx X n) w H dxs (ms.map (·.2)))
  (h:∀(D:Addr) (doc pm:Value) (an:Option Addr) (cdv ct:Value) (us mv ws:List Value),us.length=np→mv.length=ms.length→ws.length=ks.length→
   KwChain D ((ms.map (·.1)).zip mv) (bindArgs (PySem.W.fnOf x qual params body scope .none (.ref D) doc pm an cdv ct) ⟨us,ks.zip ws⟩) (ps.zip (pick sel us ws mv))):KwB X n fd ps np ks sel dxs:=by
 obtain⟨oc,od,dV,kV,doc,pm,an,cdv,ct,osl,rfl,lk,hcd,hD,hK⟩:=F.ex
 rcases hD with ⟨_,rfl⟩ | ⟨e,_⟩
 ·rcases hK with e | ⟨D,rfl,hq⟩
  ·exact absurd e hk
  ·obtain⟨mv,hl,rk,hks⟩:=kwd_vals (ms:=ms) fun q hm=>hq q (hms q hm)
   exact⟨_,mv,rk,hd,fun s us ws X l1 l2=>BindsTo.of_looks fun M=>KwChain.looks X hks (h D doc pm an cdv ct us mv ws l1 hl l2)⟩
 ·exact absurd rfl e
theorem KwB.a (F:FunD X.K x qual params body scope [] [] f fd) 
  (h:∀(kV doc pm:Value) (an:Option Addr) (cdv ct:Value) (us ws:List Value),us.length=np→ws.length=ks.length→
   bindArgs (PySem.W.fnOf x qual params body scope .none kV doc pm an cdv ct) ⟨us,ks.zip ws⟩=pure (ps.zip (pick sel us ws []))):KwB X n fd ps np ks sel []:=by
 obtain⟨oc,od,dV,kV,doc,pm,an,cdv,ct,osl,rfl,lk,hcd,hD,hK⟩:=F.ex
 rcases hD with ⟨_,rfl⟩ | ⟨e,_⟩
 ·exact⟨[],[], .nil,fun w H=>by simp [VRs],fun s us ws X l1 l2=> .of_eq (h kV doc pm an cdv ct us ws l1 l2)⟩
 ·exact absurd rfl e
end
end MP
namespace MP
open PySem PySem.Spec PyProof.Rows L2
structure Zn8 (K:PySem.W.Frag) (C:Addr) (f:Str) (p g:Addr):Prop where
 po:PySem.W.plainOver K C=true
 tk:PySem.W.takerIn K C f=some (some (.ref p))
 ty:PySem.W.typeIn K (.ref p)=some (.type "property")
 sa:PySem.W.findIn K (.ref C) "__setattr__"=some (some (.builtin "object.__setattr__"))
 rc:∃a rest,PySem.W.recIn K p "property"=some (a:: .ref g::rest)
structure ZoL (X:Cx) (n:Nm) (k:Nat) (gd:Bool) (fn:Str) (c:String) (m:List SV→M SV):Prop where
 ex:∃(p g:Addr) (fd:FuncData) (ps:List Str) (j:Nat) (gc:Bool),Zn8 X.K (n.cl c) fn p g∧Fd gc X.prog X.w X.K X.mg X.base n j g fd ps m∧Dfl X n fd ps []∧j+2≤k∧(gc=true→gd=true)
def Zgq (X:Cx) (n:Nm) (k:Nat) (gd:Bool) (fn:Str) (tb:Zap):Prop:=∀p∈tb,ZoL X n k gd fn p.1 p.2
section
variable {X:Cx} {n:Nm} {xh:Xh} {W:WX} {gd gc:Bool} {k j:Nat} {f:Addr} {fd:FuncData} {ps:List Str} {m:List SV→M SV} {c:String} {tb:Zap} {o e:Expr} {mo me:EM} {pos p':Pos}
theorem Zgq.nil {fn:Str}:Zgq X n k gd fn []:=fun _ h=>nomatch h
theorem Zgq.cons {fn:Str} (h:ZoL X n k gd fn c m) (t:Zgq X n k gd fn tb):Zgq X n k gd fn ((c,m)::tb):=fun p hp=>by
 rcases Yas.mp hp with e | e
 ·rw [e]; exact h
 ·exact t p e
end
end MP
namespace MP
open PySem PySem.Spec PyProof.Rows L2
section
variable {X:Cx} {n:Nm}
end
end MP
namespace MPT
open PySem PySem.SeqAt
open PySem.MeetsSeq
open PySem.AutoSeq1 (wpAny_loadPart')
section
variable {A:Around} {s:Shared}
end
end MPT
namespace MP
open PySem PySem.Spec PyProof.Rows L2
section
variable {X:Cx} {n:Nm}
end
end MP
namespace MP
open PySem PySem.Spec PyProof.Rows L2
def Zgr (c:SV→SV→Zaa→Bool) (f g:SV→SV→M SV):SV→SV→M SV:=fun x y S=>if c x y S=true then f x y S else g x y S
def Zlv (c:List SV→Zaa→Bool) (f g:List SV→M SV):List SV→M SV:=fun xs S=>if c xs S=true then f xs S else g xs S
section
variable {X:Cx} {n:Nm} {xh:Xh} {W:WX} {e a b:Expr} {ma mb mo me mi:EM} {pos p p':Pos} {k:Nat} {gd:Bool} {tb:Zap}
theorem Zmn {c:SV→SV→Zaa→Bool} {f g:SV→SV→M SV} (env:En) (S:Zaa):e2 (Zgr c f g) ma mb env S=e2 f ma mb env S∨e2 (Zgr c f g) ma mb env S=e2 g ma mb env S:=by
 unfold e2
 cases ma env S with
 | ok x S1=>
  simp only [ZbN]
  cases mb env S1 with
  | ok y S2=>
   simp only [ZbN,Zgr]
   by_cases h:c x y S2=true
   ·rw [if_pos h]; exact .inl rfl
   ·rw [if_neg h]; exact .inr rfl
  | _=>exact .inl rfl
 | _=>exact .inl rfl
theorem RE.alt {m1 m2 m:EM} (h1:RE X n xh W e m1) (h2:RE X n xh W e m2) (k:∀env S,m env S=m1 env S∨m env S=m2 env S):RE X n xh W e m:=by
 obtain⟨t1,p1,c1⟩:=h1.ex
 obtain⟨t2,p2,c2⟩:=h2.ex
 refine⟨fun σ H Q=>t1 σ H Q∨t2 σ H Q,⟨fun pins s σ H Q I h=> ?_⟩,fun σ H w S env Q s fm h=> ?_⟩
 ·rcases h with h | h
  ·exact p1.run pins s σ H Q I h
  ·exact p2.run pins s σ H Q I h
 ·rcases k env S with z | z
  ·exact .inl (c1 σ H w S env Q s fm (by rw [←z]; exact h))
  ·exact .inr (c2 σ H w S env Q s fm (by rw [←z]; exact h))
theorem RE.two {c:SV→SV→Zaa→Bool} {f g:SV→SV→M SV} (h1:RE X n xh W e (e2 f ma mb)) (h2:RE X n xh W e (e2 g ma mb)):RE X n xh W e (e2 (Zgr c f g) ma mb):=h1.alt h2 Zmn
theorem RS.alt {st:Stmt} {m1 m2 m:SM} (h1:RS X n xh W st m1) (h2:RS X n xh W st m2) (k:∀env S,m env S=m1 env S∨m env S=m2 env S):RS X n xh W st m:=by
 obtain⟨t1,p1,c1⟩:=h1.ex
 obtain⟨t2,p2,c2⟩:=h2.ex
 refine⟨fun D σ H=>t1 D σ H∨t2 D σ H,⟨fun pins s σ H D I h=> ?_⟩,fun σ H w S env D s fm h=> ?_⟩
 ·rcases h with h | h
  ·exact p1.run pins s σ H D I h
  ·exact p2.run pins s σ H D I h
 ·rcases k env S with z | z
  ·exact .inl (c1 σ H w S env D s fm (by rw [←z]; exact h))
  ·exact .inr (c2 σ H w S env D s fm (by rw [←z]; exact h))
theorem Zao.two {op:Value→Value→Sem Value} {c:SV→SV→Zaa→Bool} {f g:SV→SV→M SV} (h1:Zao X n op f) (h2:Zao X n op g):Zao X n op (Zgr c f g) where
 nx:=fun x y S=>by unfold Zgr; split; exact h1.nx x y S; exact h2.nx x y S
 ex:=by
  obtain⟨r1,o1,c1⟩:=h1.ex
  obtain⟨r2,o2,c2⟩:=h2.ex
  refine⟨_,OpR.or o1 o2,fun H w S x y v u Q s rx ry h=> ?_⟩
  unfold Zgr at h
  by_cases z:c x y S=true
  ·rw [if_pos z]at h; exact .inl (c1 H w S x y v u Q s rx ry h)
  ·rw [if_neg z]at h; exact .inr (c2 H w S x y v u Q s rx ry h)
theorem R2w.two {op:Value→Value→Sem Value} {c:SV→SV→Zaa→Bool} {f g:SV→SV→M SV} (h1:R2w X n W op f) (h2:R2w X n W op g):R2w X n W op (Zgr c f g):=fun pins s σ H x y v u w S a b Q I rx ry sm ra rb h=>by
 unfold Zgr at h
 by_cases q:c a b S=true
 ·rw [if_pos q]at h; exact h1 pins s σ H x y v u w S a b Q I rx ry sm ra rb h
 ·rw [if_neg q]at h; exact h2 pins s σ H x y v u w S a b Q I rx ry sm ra rb h
theorem Za2.two {fv:Value} {c:List SV→Zaa→Bool} {f g:List SV→M SV} (h1:Za2 X n fv f) (h2:Za2 X n fv g):Za2 X n fv (Zlv c f g) where
 nx:=fun x S=>by unfold Zlv; split; exact h1.nx x S; exact h2.nx x S
 ex:=by
  obtain⟨r1,o1,c1⟩:=h1.ex
  obtain⟨r2,o2,c2⟩:=h2.ex
  refine⟨fun vs H Q=>r1 vs H Q∨r2 vs H Q,fun pins s σ H xs us Q I rv h=> ?_,fun H w S xs vs Q s rs h=> ?_⟩
  ·rcases h with h | h
   ·exact o1 pins s σ H xs us Q I rv h
   ·exact o2 pins s σ H xs us Q I rv h
  ·unfold Zlv at h
   by_cases z:c xs S=true
   ·rw [if_pos z]at h; exact .inl (c1 H w S xs vs Q s rs h)
   ·rw [if_neg z]at h; exact .inr (c2 H w S xs vs Q s rs h)
def Zlw:SV→Option Key
 | .int i=>some (.inl i)
 | .str z=>some (.inr z)
 | _=>none
def Zdf {α:Type} (kvs:List (Key × α)) (k:Key):Option α:=(kvs.find? fun kv=>decide (kv.1=k)).map (·.2)
def ZcH {α:Type} (kvs:List (Key × α)) (k:Key) (v:α):List (Key × α):=if(kvs.any fun kv=>decide (kv.1=k))=true then kvs.map (fun kv=>if kv.1=k then (kv.1,v)else kv)else kvs++[(k,v)]
def anyD (S:Zaa) (m:Nat):Option (List (Key × SV)):=match S[m]? with
 | some (.dK kvs)=>some kvs
 | some (.dF kvs)=>some kvs
 | _=>none
def ZhO:SV→SV→SV→M Unit:=fun x y v S=>match x with
 | .ref m=>(match S[m]?,Zlw y with
  | some (.dK kvs),some k=>if kvs.length<sizeLine then .ok () (S.set m (.dK (ZcH kvs k v)))else .bad
  | _,_=> .bad)
 | _=> .bad
theorem Zff {g:G} {w:Wd} {H:Hp} {y:SV} {u:V} {k:Key} (e:Zlw y=some k) (r:VR g w H y u):u=kV k:=by
 cases y with
 | int i=>cases e; simpa [VR,kV]using r
 | str i=>cases e; simpa [VR,kV]using r
 | _=>cases e
theorem KR.val {g:G} {w:Wd} {H:Hp}:∀{kvs:List (Key × SV)} {qs:List (Key × V)},KR g w H kvs qs→∀k,(∀x,Zdf kvs k=some x→∃v,valV qs k=some v∧VR g w H x v)∧(Zdf kvs k=none→valV qs k=none)
 | [],qs,r,k=>by simp only [KR]at r; subst r; exact⟨fun _ h=>(nomatch h),fun _=>rfl⟩
 | (j,x)::kvs,qs,r,k=>by
  simp only [KR]at r
  obtain⟨v,rest,rfl,r1,r2⟩:=r
  have ih:=KR.val r2 k
  by_cases h:j=k
  ·rw [valV_pos (p:=(j,v)) h]
   have e:Zdf ((j,x)::kvs) k=some x:=by simp [Zdf,h]
   rw [e]
   exact⟨fun y hy=>⟨v,rfl,by cases hy; exact r1⟩,fun h=>nomatch h⟩
  ·rw [valV_neg (p:=(j,v)) h]
   have e:Zdf ((j,x)::kvs) k=Zdf kvs k:=by simp [Zdf,h]
   rw [e]
   exact ih
theorem KR.len {g:G} {w:Wd} {H:Hp}:∀{kvs:List (Key × SV)} {qs:List (Key × V)},KR g w H kvs qs→qs.length=kvs.length
 | [],qs,r=>by simp only [KR]at r; subst r; rfl
 | (j,x)::kvs,qs,r=>by
  simp only [KR]at r
  obtain⟨v,rest,rfl,r1,r2⟩:=r
  simp [KR.len r2]
theorem KR.keys {g:G} {w:Wd} {H:Hp}:∀{kvs:List (Key × SV)} {qs:List (Key × V)},KR g w H kvs qs→qs.map (·.1)=kvs.map (·.1)
 | [],qs,r=>by simp only [KR]at r; subst r; rfl
 | (j,x)::kvs,qs,r=>by
  simp only [KR]at r
  obtain⟨v,rest,rfl,r1,r2⟩:=r
  simp [KR.keys r2]
theorem KR.any {g:G} {w:Wd} {H:Hp} {kvs:List (Key × SV)} {qs:List (Key × V)} (r:KR g w H kvs qs) (k:Key):(qs.any fun kv=>decide (kv.1=k))=(kvs.any fun kv=>decide (kv.1=k)):=by
 have e:=r.keys
 have a:(qs.any fun kv=>decide (kv.1=k))=(qs.map (·.1)).any fun j=>decide (j=k):=by rw [Ya3]; rfl
 have b:(kvs.any fun kv=>decide (kv.1=k))=(kvs.map (·.1)).any fun j=>decide (j=k):=by rw [Ya3]; rfl
 rw [a,b,e]
theorem KR.put {g:G} {w:Wd} {H:Hp} {kvs:List (Key × SV)} {qs:List (Key × V)} (r:KR g w H kvs qs) {x:SV} {v:V} (q:VR g w H x v) (k:Key):KR g w H (ZcH kvs k x) (putK qs k v):=by
 have m:∀{kvs:List (Key × SV)} {qs:List (Key × V)},KR g w H kvs qs→KR g w H (kvs.map fun kv=>if kv.1=k then (kv.1,x)else kv) (qs.map fun kv=>if kv.1=k then (kv.1,v)else kv):=by
  intro kvs
  induction kvs with
  | nil=>intro qs r; simp only [KR]at r; subst r; simp [KR]
  | cons p kvs ih=>
   intro qs r
   simp only [KR]at r
   obtain⟨u,rest,rfl,r1,r2⟩:=r
   simp only [Ya0,KR]
   by_cases h:p.1=k
   ·simp only [h,if_true]; exact⟨v,_,rfl,q,ih r2⟩
   ·simp only [h,if_false]; exact⟨u,_,rfl,r1,ih r2⟩
 have ap:∀{kvs:List (Key × SV)} {qs:List (Key × V)},KR g w H kvs qs→KR g w H (kvs++[(k,x)]) (qs++[(k,v)]):=by
  intro kvs
  induction kvs with
  | nil=>intro qs r; simp only [KR]at r; subst r; exact⟨v,[],rfl,q,rfl⟩
  | cons p kvs ih=>
   intro qs r
   simp only [KR]at r
   obtain⟨u,rest,rfl,r1,r2⟩:=r
   exact⟨u,_,rfl,r1,ih r2⟩
 unfold ZcH putK
 rw [r.any k]
 split
 ·exact m r
 ·exact ap r
theorem KR.mono' {g:G} {w w':Wd} {H H':Hp} (l:w.Le w') (k:Zag H H'):∀{kvs:List (Key × SV)} {qs:List (Key × V)},KR g w H kvs qs→KR g w' H' kvs qs
 | [],qs,r=>by simp only [KR]at r⊢; exact r
 | (j,x)::kvs,qs,r=>by
  simp only [KR]at r⊢
  obtain⟨v,rest,rfl,r1,r2⟩:=r
  exact⟨v,rest,rfl,r1.mono l k,KR.mono' l k r2⟩
theorem Sim.dk {w:Wd} {H:Hp} {S:Zaa} {m:Nat} {kvs:List (Key × SV)} (s:Sim (gx X n) w H S) (e:S[m]? =some (.dK kvs)):∃qs,H (w.at_ m)=some (.dK qs)∧KR (gx X n) w H kvs qs:=s.at_ e
theorem Sim.anyD {w:Wd} {H:Hp} {S:Zaa} {m:Nat} {kvs:List (Key × SV)} (s:Sim (gx X n) w H S) (e:MP.anyD S m=some kvs):∃qs,L2.Rd H (w.at_ m) (.dK qs)∧KR (gx X n) w H kvs qs∧∃o,S[m]? =some o∧Nf o:=by
 unfold MP.anyD at e
 split at e
 ·rename_i q; cases e
  obtain⟨qs,h,r⟩:=s.dk q
  exact⟨qs, .inl h,r,_,q,trivial⟩
 ·rename_i q; cases e
  obtain⟨od,qs,h,r⟩:=s.at_ q
  exact⟨qs, .inr ⟨od,h⟩,r,_,q,trivial⟩
 ·cases e
def ZoM (c:SV→Zaa→Bool) (f g:SV→SV→SV→M Unit):SV→SV→SV→M Unit:=fun x y v S=>if c x S=true then f x y v S else g x y v S
def R3w (X:Cx) (n:Nm) (W:WX) (m:SV→SV→SV→M Unit):Prop:=
  ∀(pins:List (Addr × Obj)) (s:Shared) (σ:L2.St) (H:Hp) (x y z:V) (v u r:Value) (w:Wd) (S:Zaa) (a b c:SV) (Q:Hp→Prop),Inv X pins σ H s→RelV x v→RelV y u→RelV z r→Sim (gx X n) w H S→VR (gx X n) w H a x→VR (gx X n) w H b y→VR (gx X n) w H c z→
    Out (m a b c S) (fun _ S'=>∀w' H',w.Le w'→Zag H H'→Sim (gx X n) w' H' S'→Q H') (KX (gx X n) w H fun cls d H'=>W cls d σ H')→wpAny (model X.prog X.w) X.A (setItem v u r) (fun _ s'=>∃H',Inv X pins σ H' s'∧Q H') X.xe s
theorem R3w.dict (hu:X.A.units+64<cLine):R3w X n W ZhO:=by
 intro pins s σ H x y z v u r w S a b c Q I rx ry rz sm ra rb rc h
 unfold ZhO at h
 split at h
 ·rename_i m
  split at h
  ·rename_i kvs k e1 e2
   by_cases hl:kvs.length<sizeLine
   ·rw [if_pos hl]at h
    simp only [VR]at ra
    obtain⟨hm,rfl⟩:=ra
    obtain rfl:v=Value.ref (w.at_ m):=rx
    obtain⟨qs,h3,kr⟩:=sm.dk e1
    have hput:DPut H (w.at_ m) y z (upd H (w.at_ m) (.dK (putK qs k z))):= .inl ⟨qs,k,h3,Zff e2 rb,by rw [kr.len]; exact hl,rfl⟩
    have kk:Zag H (upd H (w.at_ m) (.dK (putK qs k z))):=Yc0 h3 (by simp [ZdD])
    refine d_setItem (by omega) I hput ry rz fun s' I'=>⟨_,I',h w _ (Wd.Le.refl w) kk ?_⟩
    exact sm.set e1 trivial trivial ⟨putK qs k z,upd_same,KR.mono' (Wd.Le.refl w) kk (kr.put rc k)⟩
   ·rw [if_neg hl]at h; exact h.elim
  ·exact h.elim
 ·exact h.elim
def ZdJ (tb:Zap):SV→SV→SV→M Unit:=fun x y v S=>match Zb7 tb S x with
 | some f=>(f [x,y,v] S).bind fun _ S'=> .ok () S'
 | none=> .bad
theorem R3w.own (C:Cok X W k gd) (T:Zaw X n k gd "__setitem__" tb) (hg:∀p∈tb,PySem.W.noSeq X.K (n.cl p.1)=true):R3w X n W (ZdJ tb):=by
 intro pins s σ H x y z v u r w S a b c Q I rx ry rz sm ra rb rc h
 unfold ZdJ at h
 cases q:Zb7 tb S a with
 | none=>rw [q]at h; exact h.elim
 | some g=>
  rw [q]at h
  simp only at h
  unfold Zb7 at q
  obtain⟨cc,q1,q2⟩:=YaF.mp q
  obtain⟨p,dx,fs,ox,od,rfl,rfl,ha,J⟩:=ZeL I sm ra rx q1
  obtain⟨f,hm,run⟩:=(T.look q2).run C
  obtain⟨mm,hF⟩:=I.fr
  have h2:=(Yb5 h).imp (K':=KV (gx X n) w H fun _ H'=>Q H') (E':=KX (gx X n) w H fun cls d H'=>W cls d σ H') (fun r S' h3 w' H' v' l k s' r'=>h3 w' H' l k s') fun _ _ z=>z
  exact PySem.W.ksp_setItem hF I.ok.mod.kin J (hg _ (Zbf q2)) hm.at_ hm.fn (thn (run I (.cons rx (.cons ry (.cons rz .nil))) sm (Ycg ra (Ycg rb (YcH rc))) h2).1 fun _ _ ⟨_,H',I',_,q'⟩=>⟨H',I',q'⟩)
end
end MP
namespace MP
open PySem PySem.Spec PyProof.Rows L2
def dcI (g:GM) (t:TM) (ek ev:EM) (d:Nat) (env:En) (I:IT):Nat→Nat→Zaa→Res Unit
 | 0,_,_=> .bad
 | k+1,i,S=>match I i S with
  | none=> .bad
  | some none=> .ok () S
  | some (some x)=>match g x env S with
   | .nx env2 S2=>(match t env2 S2 with
    | .ok true S3=>(match ek env2 S3 with
     | .ok y S4=>(match ev env2 S4 with
      | .ok z S5=>(match S5[d]?,Zlw y with
       | some (.dK kvs),some kk=>if kvs.length<sizeLine then dcI g t ek ev d env I k (i+1) (S5.set d (.dK (ZcH kvs kk z)))else .bad
       | _,_=> .bad)
      | _=> .bad)
     | _=> .bad)
    | .ok false S3=>dcI g t ek ev d env I k (i+1) S3
    | _=> .bad)
   | _=> .bad
def eDc (it:IM) (g:GM) (t:TM) (ek ev:EM) (vs:List Nat):EM:=fun env S=>(it env S).bind fun p S1=>(dcI g t ek ev S1.length (Za1 env vs) p.2 p.1 0 (S1++[.dK []])).bind fun _ S2=> .ok (.ref S1.length) S2
section
variable {X:Cx} {n:Nm} {xh:Xh} {W:WX} {e c:Expr} {ifs:List Expr} {mk mv:EM} {mt:TM} {mg:GM}
structure ZoN (X:Cx) (n:Nm) (xh:Xh) (W:WX) (kx vx tg iter:Expr) (ifs:List Expr) (scope:Scope) (own:List (Str × Nat)) (m:EM):Prop where
 calm:X.calm=true
 nd:X.N.Nodup
 ok:BlkOk X.N X.env.scope scope own
 fold:∀x,foldedSetIterable iter X.env x=pure x
 ex:∃(wi:TI) (g:TG) (tt:TT) (tk te:TE),PI X tg iter wi∧(∀(s:Shared) (H:Hp) (C:Addr) (cl:List (Str × Addr)) (fp:List Addr),PG (X.blk s H scope (compEnvC scope cl C X.env) fp) tg g)∧(∀(s:Shared) (H:Hp) (C:Addr) (cl:List (Str × Addr)) (fp:List Addr),PTs (X.blk s H scope (compEnvC scope cl C X.env) fp) ifs tt)∧
  (∀(s:Shared) (H:Hp) (C:Addr) (cl:List (Str × Addr)) (fp:List Addr),PE (X.blk s H scope (compEnvC scope cl C X.env) fp) kx tk)∧(∀(s:Shared) (H:Hp) (C:Addr) (cl:List (Str × Addr)) (fp:List Addr),PE (X.blk s H scope (compEnvC scope cl C X.env) fp) vx te)∧
  ∀(σ:L2.St) (H:Hp) (w:Wd) (S:Zaa) (env:En) (Q:VK),Sim (gx X n) w H S→Fm (gx X n) xh w H env σ→Out (m env S) (KV (gx X n) w H Q) (KX (gx X n) w H fun cls d H'=>W cls d σ H')→tDc wi g tt tk te (own.map (·.2)) σ H Q
theorem ZoN.mk' {kx vx tg iter:Expr} {scope:Scope} {own:List (Str × Nat)} {mi:IM} {vs:List Nat} {k:Nat} {gd:Bool} (C:Cok X W k gd) (hi:RI X n xh W tg iter mi) (ok:BlkOk X.N X.env.scope scope own) (hvs:own.map (·.2)=vs)
  (hg:∀(s:Shared) (H:Hp) (C:Addr) (cl:List (Str × Addr)) (fp:List Addr),RG (X.blk s H scope (compEnvC scope cl C X.env) fp) n Wno vs tg mg)
  (ht:∀(s:Shared) (H:Hp) (C:Addr) (cl:List (Str × Addr)) (fp:List Addr),Cok (X.blk s H scope (compEnvC scope cl C X.env) fp) Wno k gd→RTs (X.blk s H scope (compEnvC scope cl C X.env) fp) n none Wno ifs mt)
  (hk:∀(s:Shared) (H:Hp) (C:Addr) (cl:List (Str × Addr)) (fp:List Addr),Cok (X.blk s H scope (compEnvC scope cl C X.env) fp) Wno k gd→RE (X.blk s H scope (compEnvC scope cl C X.env) fp) n none Wno kx mk)
  (he:∀(s:Shared) (H:Hp) (C:Addr) (cl:List (Str × Addr)) (fp:List Addr),Cok (X.blk s H scope (compEnvC scope cl C X.env) fp) Wno k gd→RE (X.blk s H scope (compEnvC scope cl C X.env) fp) n none Wno vx mv)
  (hs:∀x,foldedSetIterable iter X.env x=pure x:=by intro _; rfl):ZoN X n xh W kx vx tg iter ifs scope own (eDc mi mg mt mk mv vs):=by
 subst hvs
 obtain⟨ti,pi,ci⟩:=hi.ex
 refine⟨C.calm,C.nd,ok,hs,ti,cG (gx X n) Wno (own.map (·.2)) mg,cTs (gx X n) none Wno mt,cE (gx X n) none Wno mk,cE (gx X n) none Wno mv,pi,fun s H c cl fp=>(hg s H c cl fp).pg,fun s H c cl fp=>(ht s H c cl fp (C.blk s H scope _ fp)).pts,fun s H c cl fp=>(hk s H c cl fp (C.blk s H scope _ fp)).pe,fun s H c cl fp=>(he s H c cl fp (C.blk s H scope _ fp)).pe,fun σ H w S env Q s fm h=> ?_⟩
 have tm:∀x env S,Zec (mg x env S):=by
  have z:=fun s H c cl fp=>(hg s H c cl fp).tm
  exact z X.s_0 X.H_0 0 [] []
 refine ci σ H w S env _ s fm ((Yb5 h).imp (fun p S1 h1 w1 H1 J l1 k1 s1 hJ=> ?_) fun _ _ z=>z)
 intro D hD
 have kD:Zag H1 (upd H1 D (.dK [])):=Ycs hD
 have sD:Sim (gx X n) (w1.push D) (upd H1 D (.dK [])) (S1++[.dK []]):=s1.new kD hD (fun b u e=>ZaG hD b u e) ⟨[],upd_same,rfl⟩
 have lD:=w1.le_push D
 have nD:S1.length<(w1.push D).n:=by rw [s1.len]; exact Yaq _
 have aD:(w1.push D).at_ S1.length=D:=by rw [s1.len]; exact w1.push_at D
 have h2:=Zgh (D:=D) nD aD (h1.imp (K':=KV (gx X n) (w1.push D) (upd H1 D (.dK [])) Q) (E':=fun _ _=>True) (fun _ _ z=>Yc1 (l1.trans lD) (k1.trans kD) z) fun _ _ _=>trivial)
 have base:Fm (gx X n) none (w1.push D) (upd H1 D (.dK [])) (Za1 env (own.map (·.2))) (L2.wipe σ (own.map (·.2))):=⟨((fm.env.mono l1 k1).mono lD kD).wipe _,Ycq⟩
 refine⟨fun i m H'=>∃w' S',(w1.push D).Le w'∧Zag (upd H1 D (.dK [])) H'∧Sim (gx X n) w' H' S'∧
  Out (dcI mg mt mk mv S1.length (Za1 env (own.map (·.2))) p.2 m i S') (fun _ S2=>∀w2 H2,w'.Le w2→Zag H' H2→Sim (gx X n) w2 H2 S2→Q (.ref D) H2) (fun _ _=>True),
  ⟨p.1,w1.push D,_,Wd.Le.refl _,Yb9 _,sD,h2⟩, ?_⟩
 rintro i m H' ⟨w',S',l',k',s',h'⟩
 cases m with
 | zero=>exact h'.elim
 | succ m=>
  unfold dcI at h'
  obtain⟨z1,z2⟩:=hJ i w' H' S' (lD.trans l') (kD.trans k') s'
  cases q:p.2 i S' with
  | none=>rw [q]at h'; exact h'.elim
  | some o=>
   rw [q]at h'
   cases o with
   | none=>exact .inl ⟨z1 q,h' w' H' (Wd.Le.refl _) (Yb9 _) s'⟩
   | some x=>
    obtain⟨go,z3⟩:=z2 x q
    simp only at h'
    refine .inr ⟨go,fun H3=>∃w3 S3,(w1.push D).Le w3∧Zag (upd H1 D (.dK [])) H3∧Sim (gx X n) w3 H3 S3∧
     Out (dcI mg mt mk mv S1.length (Za1 env (own.map (·.2))) p.2 m (i+1) S3) (fun _ S2=>∀w2 H2,w3.Le w2→Zag H3 H2→Sim (gx X n) w2 H2 S2→Q (.ref D) H2) (fun _ _=>True),fun H3 z=>⟨m,Yaq m,z⟩,fun y H2 hy=> ?_⟩
    obtain⟨w2,l2,k2,s2,r2⟩:=z3 y H2 hy
    have fm2:=base.mono (l'.trans l2) (k'.trans k2)
    refine⟨w2,S',Za1 env (own.map (·.2)),x,s2,fm2.env,r2, ?_⟩
    cases hgx:mg x (Za1 env (own.map (·.2))) S' with
    | nx env2 S2=>
     rw [hgx]at h'
     intro w3 H3 σ3 l3 k3 s3 e3 o3
     refine⟨?_, ?_⟩
     ·rw [Zbr o3]
      exact Zbr (ZbE σ _ _ fun _ z=>z)
     refine⟨w3,S2,env2,s3,⟨e3,Ycq⟩, ?_⟩
     simp only at h'
     cases htx:mt env2 S2 with
     | bad=>rw [htx]at h'; exact h'.elim
     | exc x S3=>rw [htx]at h'; exact h'.elim
     | ok b S3=>
      rw [htx]at h'
      intro w4 H4 l4 k4 s4
      cases b with
      | false=>
       simp only [YaR,if_false]
       exact⟨w4,S3,(l'.trans l2).trans (l3.trans l4),(k'.trans k2).trans (k3.trans k4),s4,h'.imp (fun _ _ z w5 H5 l5 k5 s5=>z w5 H5 ((l2.trans (l3.trans l4)).trans l5) ((k2.trans (k3.trans k4)).trans k5) s5) fun _ _ z=>z⟩
      | true=>
       simp only [if_true]
       refine⟨w4,S3,env2,s4,⟨e3.mono l4 k4,Ycq⟩, ?_⟩
       simp only at h'
       cases hex:mk env2 S3 with
       | bad=>rw [hex]at h'; exact h'.elim
       | exc x S3=>rw [hex]at h'; exact h'.elim
       | ok y S4=>
        rw [hex]at h'
        intro w5 H5 v l5 k5 s5 r5
        simp only at h'
        refine⟨w5,S4,env2,s5,⟨(e3.mono l4 k4).mono l5 k5,Ycq⟩, ?_⟩
        cases hev:mv env2 S4 with
        | bad=>rw [hev]at h'; exact h'.elim
        | exc x S5=>rw [hev]at h'; exact h'.elim
        | ok z S5=>
         rw [hev]at h'
         intro w6 H6 u l6 k6 s6 r6
         simp only at h'
         have lall:(w1.push D).Le w6:=(((l'.trans l2).trans (l3.trans l4)).trans l5).trans l6
         have kall:Zag (upd H1 D (.dK [])) H6:=(((k'.trans k2).trans (k3.trans k4)).trans k5).trans k6
         have a6:w6.at_ S1.length=D:=(lall.2 _ nD).trans aD
         split at h'
         ·rename_i acc kk eacc ekk
          split at h'
          ·rename_i hlt
           obtain⟨ys,hl,rs⟩:=s6.dk eacc
           rw [a6]at hl
           have kp:Zag H6 (upd H6 D (.dK (putK ys kk u))):=Yc0 hl (by simp [ZdD])
           have sk:Sim (gx X n) w6 (upd H6 D (.dK (putK ys kk u))) (S5.set S1.length (.dK (ZcH acc kk z))):=by
            have q:=s6.set (u:= .dK (putK ys kk u)) (o':= .dK (ZcH acc kk z)) eacc trivial trivial (by rw [a6]; exact⟨putK ys kk u,upd_same,KR.mono' (Wd.Le.refl w6) kp (rs.put r6 kk)⟩)
            rw [a6]at q
            exact q
           refine⟨ys,kk,Zff ekk (r5.mono l6 k6),hl,by rw [rs.len]; exact hlt,w6,_,lall,kall.trans kp,sk,h'.imp (fun _ _ z w7 H7 l7 k7 s7=>z w7 H7 ((((l2.trans (l3.trans l4)).trans l5).trans l6).trans l7) (((((k2.trans (k3.trans k4)).trans k5).trans k6).trans kp).trans k7) s7) fun _ _ z=>z⟩
          ·exact h'.elim
         ·exact h'.elim
    | exc x env2 S2=>rw [hgx]at h'; exact h'.elim
    | bad=>rw [hgx]at h'; exact h'.elim
    | rt v S2=>rw [hgx]at h'; exact h'.elim
    | bk env2 S2=>rw [hgx]at h'; exact h'.elim
    | ct env2 S2=>rw [hgx]at h'; exact h'.elim
end
end MP
namespace MP
open PySem PySem.Spec PyProof.Rows L2
section
variable {X:Cx} {n:Nm} {xh:Xh} {W:WX} {e a b it tg:Expr} {es:List Expr} {ma mb me:EM} {mr:AM} {pos p p1 p2 p3 apos cpos:Pos} {k:Nat} {gd:Bool}
def ZeO:Key→SV
 | .inl i=> .int i
 | .inr z=> .str z
def Zgs (m:Nat):IT:=fun i S=>match S[m]? with
 | some (.dF kvs)=>some (kvs[i]?.map fun p=>ZeO p.1)
 | _=>none
def Zmo (m:Nat):IT:=fun i S=>match S[m]? with
 | some (.dF kvs)=>some (kvs[i]?.map fun p=>p.2)
 | _=>none
def ZoO (m:Nat):IT:=fun i S=>match S[m]? with
 | some (.dF kvs)=>some (kvs[i]?.map fun p=>SV.tup [ZeO p.1,p.2])
 | _=>none
def Zdg (I:Nat→IT) (e:EM):IM:=fun env S=>(e env S).bind fun v S1=>match v with
 | .ref m=>(match S1[m]? with
  | some (.dF kvs)=> .ok (kvs.length+1,I m) S1
  | _=> .bad)
 | _=> .bad
theorem KR.get {g:G} {w:Wd} {H:Hp}:∀{kvs:List (Key × SV)} {qs:List (Key × V)} {i:Nat} {p:Key × SV},KR g w H kvs qs→kvs[i]? =some p→∃v,qs[i]? =some (p.1,v)∧VR g w H p.2 v
 | [],_,_,_,_,e=>by simp at e
 | x::kvs,qs,0,p,r,e=>by
  simp only [KR]at r
  obtain⟨v,rest,rfl,r1,r2⟩:=r
  simp at e; subst e
  exact⟨v,rfl,r1⟩
 | x::kvs,qs,i+1,p,r,e=>by
  simp only [KR]at r
  obtain⟨v,rest,rfl,r1,r2⟩:=r
  obtain⟨u,h1,h2⟩:=KR.get (i:=i) r2 (by simpa using e)
  exact⟨u,by simpa using h1,h2⟩
theorem Zgt {g:G} {w:Wd} {H:Hp} {k:Key}:VR g w H (ZeO k) (kV k):=by cases k<;>simp [ZeO,kV,VR]
theorem Sim.df {w:Wd} {H:Hp} {S:Zaa} {m:Nat} {kvs:List (Key × SV)} (s:Sim (gx X n) w H S) (e:S[m]? =some (.dF kvs)):∃od qs,H (w.at_ m)=some (.frz od (.dK qs))∧KR (gx X n) w H kvs qs:=s.at_ e
theorem Zgu {w w1:Wd} {H H1:Hp} {S1:Zaa} {m:Nat} {od:Obj} {qs:List (Key × V)} (hm:m<w.n) (hd:H (w.at_ m)=some (.frz od (.dK qs))) (l:w.Le w1) (k:Zag H H1) (s:Sim (gx X n) w1 H1 S1) {kvs:List (Key × SV)} (q:S1[m]? =some (.dF kvs)):H1 (w.at_ m)=some (.frz od (.dK qs))∧KR (gx X n) w1 H1 kvs qs:=by
 obtain⟨od',qs',h1,kr⟩:=s.df q
 have h2:=k _ _ hd trivial
 rw [l.2 m hm,h2]at h1
 cases h1
 exact⟨h2,kr⟩
theorem ItR.dk {w:Wd} {H:Hp} {m:Nat} {od:Obj} {qs:List (Key × V)} (hm:m<w.n) (hd:H (w.at_ m)=some (.frz od (.dK qs))):ItR (gx X n) w H (Itk (w.at_ m) od qs) (Zgs m):=fun i w1 H1 S1 l k s=>by
 unfold Zgs
 split
 ·rename_i kvs q
  obtain⟨h1,kr⟩:=Zgu hm hd l k s q
  refine⟨fun e=>⟨h1, ?_⟩,fun x e=> ?_⟩
  ·rw [kr.len]
   simpa using e
  ·simp only [Option.some.injEq,YaI]at e
   obtain⟨p,hp,rfl⟩:=e
   obtain⟨v,hv,rv⟩:=kr.get hp
   refine⟨⟨h1,(Yaj.mp hv).1⟩,fun u H2 hy=> ?_⟩
   obtain⟨eH,k',v',h2,eu⟩:=hy
   subst eH eu
   rw [hv]at h2
   cases h2
   exact⟨w1,Wd.Le.refl _,Yb9 _,s,Zgt⟩
 ·exact⟨(fun e=>nomatch e),fun x e=>nomatch e⟩
theorem ItR.dv {w:Wd} {H:Hp} {m:Nat} {od:Obj} {qs:List (Key × V)} (hm:m<w.n) (hd:H (w.at_ m)=some (.frz od (.dK qs))):ItR (gx X n) w H (Itd (w.at_ m) od qs) (Zmo m):=fun i w1 H1 S1 l k s=>by
 unfold Zmo
 split
 ·rename_i kvs q
  obtain⟨h1,kr⟩:=Zgu hm hd l k s q
  refine⟨fun e=>⟨h1, ?_⟩,fun x e=> ?_⟩
  ·rw [kr.len]
   simpa using e
  ·simp only [Option.some.injEq,YaI]at e
   obtain⟨p,hp,rfl⟩:=e
   obtain⟨v,hv,rv⟩:=kr.get hp
   refine⟨⟨h1,(Yaj.mp hv).1⟩,fun u H2 hy=> ?_⟩
   obtain⟨eH,k',h2⟩:=hy
   subst eH
   rw [hv]at h2
   cases h2
   exact⟨w1,Wd.Le.refl _,Yb9 _,s,rv⟩
 ·exact⟨(fun e=>nomatch e),fun x e=>nomatch e⟩
theorem Zdo {I:Nat→IT} {σ:L2.St} {H:Hp} {w:Wd} {S:Zaa} {env:En} {R:It→Hp→Prop} {E:XC→Zaa→Prop} (h:Out (Zdg I me env S) (KI (gx X n) w H R) E):Out (me env S) (fun v S1=>∃m kvs,v= .ref m∧S1[m]? =some (.dF kvs)∧KI (gx X n) w H R (kvs.length+1,I m) S1) E:=by
 refine(Yb5 h).imp (fun v S1 h1=> ?_) fun _ _ z=>z
 split at h1
 ·rename_i m
  split at h1
  ·rename_i kvs q
   exact⟨m,kvs,rfl,q,h1⟩
  ·exact h1.elim
 ·exact h1.elim
theorem RI.dk (hi:RE X n xh W it me):RI X n xh W tg it (Zdg Zgs me):=by
 obtain⟨ti,pi,ci⟩:=hi.ex
 refine⟨_,pi_keys (tg:=tg) pi,fun σ H w S env R s fm h=> ?_⟩
 refine ci σ H w S env _ s fm ((Zdo (σ:=σ) h).imp (fun x S1 h1 w1 H1 v l1 k1 s1 r1=> ?_) fun _ _ z=>z)
 obtain⟨m,kvs,rfl,q,h1⟩:=h1
 simp only [VR]at r1
 obtain⟨hm,rfl⟩:=r1
 obtain⟨od,qs,hd,kr⟩:=s1.df q
 exact⟨_,od,rfl, .inl ⟨qs,hd,h1 w1 H1 _ l1 k1 s1 (ItR.dk hm hd)⟩⟩
theorem RI.dv (hi:RE X n xh W e me) (hbase:attributeBase e "values" X.env (eval e X.env)=eval e X.env:=by rfl) (hline:(apos.endLine==cpos.line)=true:=by rfl):RI X n xh W tg (.Call (.Attribute e "values" apos) [] [] cpos) (Zdg Zmo me):=by
 obtain⟨ti,pi,ci⟩:=hi.ex
 refine⟨_,pi_values (tg:=tg) pi hbase hline,fun σ H w S env R s fm h=> ?_⟩
 refine ci σ H w S env _ s fm ((Zdo (σ:=σ) h).imp (fun x S1 h1 w1 H1 v l1 k1 s1 r1=> ?_) fun _ _ z=>z)
 obtain⟨m,kvs,rfl,q,h1⟩:=h1
 simp only [VR]at r1
 obtain⟨hm,rfl⟩:=r1
 obtain⟨od,qs,hd,kr⟩:=s1.df q
 exact⟨_,od,qs,rfl,hd,h1 w1 H1 _ l1 k1 s1 (ItR.dv hm hd)⟩
def leS (a b:Str):Bool:= !ltCps b.cps.toList a.cps.toList
def ZfH (zs:List Str):List Str:=zs.mergeSort leS
theorem Zdp:∀(p:Str) (l:List Str),risingS p l=true→(∀x∈l,leS p x=true)∧l.Pairwise (fun a b=>leS a b=true)
 | p,[],_=>⟨(fun _ h=>nomatch h),List.Pairwise.nil⟩
 | p,x::r,h=>by
  simp only [risingS,YaK]at h
  obtain⟨h1,h2⟩:=Zdp x r h.2
  have px:leS p x=true:=h.1
  refine⟨fun y hy=> ?_, .cons h1 h2⟩
  rcases Yas.mp hy with e | e
  ·rw [e]; exact px
  ·have xy:=h1 y e
   unfold leS at *
   rw [ltCps_eq]at *
   simp only [Ya4,decide_eq_false_iff_not,Ya5]at *
   exact List.le_trans px xy
theorem ZfI {l:List Str} (h:sortedS l=true):l.Pairwise (fun a b=>leS a b=true):=by
 cases l with
 | nil=>exact .nil
 | cons x r=>obtain⟨h1,h2⟩:=Zdp x r h; exact .cons h1 h2
theorem Zgv:∀a b c:Str,leS a b=true→leS b c=true→leS a c=true:=fun a b c h1 h2=>by
 unfold leS at *
 rw [ltCps_eq]at *
 simp only [Ya4,decide_eq_false_iff_not,Ya5]at *
 exact List.le_trans h1 h2
theorem Zgw:∀a b:Str,(leS a b || leS b a)=true:=fun a b=>by
 unfold leS
 rw [ltCps_eq,ltCps_eq]
 rcases List.le_total a.cps.toList b.cps.toList with h | h
 ·simp [Ya5.mpr h]
 ·simp [Ya5.mpr h]
theorem ZhP {a b:Str} (h1:leS a b=true) (h2:leS b a=true):a=b:=by
 unfold leS at *
 rw [ltCps_eq]at *
 simp only [Ya4,decide_eq_false_iff_not,Ya5]at *
 have e:=List.le_antisymm h1 h2
 cases a; cases b
 simp only at e
 congr
 exact Ya6.mp e
theorem ZhQ (zs:List Str):(ZfH zs).Pairwise (fun a b=>leS a b=true):=Ya7 Zgv Zgw zs
theorem ZfJ (zs:List Str):(ZfH zs).Perm zs:=Ya8 zs leS
theorem Zgx {ys zs:List Str} (h:ys.Perm zs) (hs:ys.Pairwise (fun a b=>leS a b=true)):ys=ZfH zs:=
 List.Perm.eq_of_pairwise (le:=fun a b=>leS a b=true) (fun a b _ _ h1 h2=>ZhP h1 h2) hs (ZhQ zs) (h.trans (ZfJ zs).symm)
def Zdq:List SV→M SV:=fun xs S=>match xs with
 | [.ref m]=>(match (ZaJ S m).bind ZbZ with
  | some zs=>if zs.length<64 then .ok (.ref S.length) (S++[.lst ((ZfH zs).map .str)])else .bad
  | none=> .bad)
 | _=> .bad
theorem VRs.strs {g:G} {w:Wd} {H:Hp} (zs:List Str):VRs g w H (zs.map SV.str) (zs.map V.str):=VRs.ofStrs zs
theorem Za2.sortS_:Za2 X n (.builtin "sorted") Zdq where
 nx:=fun xs S=>by unfold Zdq; split<;>(try split)<;>(try split)<;>trivial
 ex:=by
  refine⟨_,cr_sortedS,fun H w S xs vs Q s rs h=> ?_⟩
  unfold Zdq at h
  split at h
  ·split at h
   ·rename_i zs q
    rw [YaF]at q
    obtain⟨ys,q1,q2⟩:=q
    obtain⟨v,rfl,r⟩:=rs.r1
    obtain⟨us,sq,r2⟩:=s.seq (ZaT q1)
    rw [ZhN r2 q2]at sq
    by_cases c:zs.length<64
    ·rw [if_pos c]at h
     refine⟨_,zs,by rw [r.r.2],sq,c,fun out p hp hs hn=> ?_⟩
     rw [Zgx hp (ZfI hs)]
     exact YcU s (VRs.strs _) h p hn
    ·rw [if_neg c]at h; exact h.elim
   ·exact h.elim
  ·exact h.elim
end
end MP
namespace MP
open PySem PySem.Spec PyProof.Rows L2
section
variable {g:G} {w:Wd} {H H':Hp}
mutual
theorem VR.monoT (k:∀b ys,H b=some (.tup ys)→H' b=some (.tup ys)):∀{x:SV} {v:V},VR g w H x v→VR g w H' x v
 | .non,_,h=>by simpa [VR]using h
 | .bl _,_,h=>by simpa [VR]using h
 | .int _,_,h=>by simpa [VR]using h
 | .str _,_,h=>by simpa [VR]using h
 | .ty _,_,h=>by simpa [VR]using h
 | .cls _,_,h=>by simpa [VR]using h
 | .fn _,_,h=>by simpa [VR]using h
 | .ref n,_,h=>by simpa only [VR]using h
 | .tup xs,_,h=>by
  simp only [VR]at h⊢
  obtain⟨a,ys,e,q,r⟩:=h
  exact⟨a,ys,e,k _ _ q,VRs.monoT k r⟩
theorem VRs.monoT (k:∀b ys,H b=some (.tup ys)→H' b=some (.tup ys)):∀{xs:List SV} {vs:List V},VRs g w H xs vs→VRs g w H' xs vs
 | [],_,h=>by simpa [VRs]using h
 | x::xs,_,h=>by
  simp only [VRs]at h⊢
  obtain⟨y,r,e,q,s⟩:=h
  exact⟨y,r,e,VR.monoT k q,VRs.monoT k s⟩
end
theorem FR.monoT (k:∀b ys,H b=some (.tup ys)→H' b=some (.tup ys)):∀{fs:List (String × SV)} {ys:List (Str × V)},FR g w H fs ys→FR g w H' fs ys
 | [],_,h=>h
 | x::xs,_,⟨v,r,e,q,s⟩=>⟨v,r,e,q.monoT k,FR.monoT k s⟩
theorem KR.monoT {κ:Type} (k:∀b ys,H b=some (.tup ys)→H' b=some (.tup ys)):∀{fs:List (κ × SV)} {ys:List (κ × V)},KR g w H fs ys→KR g w H' fs ys
 | [],_,h=>h
 | x::xs,_,⟨v,r,e,q,s⟩=>⟨v,r,e,q.monoT k,KR.monoT k s⟩
theorem ORl.monoT {a d:Addr} {o:SO} (k:∀b ys,H b=Yah (.tup ys)→H' b=Yah (.tup ys)) (e:∀b,b≠d→H' b=H b) (hd:∀od xs,H d≠Yah (.frz od (.lst xs))) (h:ORl g w H a o) (ne:Nf o→a≠d):ORl g w H' a o:=by
 cases o with
 | lst xs=>obtain⟨ys,h1,h2⟩:=h; exact⟨ys,by rw [e a (ne trivial)]; exact h1,h2.monoT k⟩
 | frz xs=>
  obtain⟨ys,h1,h2⟩:=h
  refine⟨ys, ?_,h2.monoT k⟩
  rcases h1 with ⟨o,h1⟩ | h1
  ·exact .inl ⟨o,by rw [e a (fun z=>hd o ys (by rw [←z]; exact h1))]; exact h1⟩
  ·exact .inr h1
 | dK xs=>obtain⟨ys,h1,h2⟩:=h; exact⟨ys,by rw [e a (ne trivial)]; exact h1,h2.monoT k⟩
 | dT xs=>obtain⟨ys,h1,h2⟩:=h; exact⟨ys,by rw [e a (ne trivial)]; exact h1,h2.monoT k⟩
 | dF xs=>obtain⟨od,ys,h1,h2⟩:=h; exact⟨od,ys,by rw [e a (ne trivial)]; exact h1,h2.monoT k⟩
 | dG xs=>obtain⟨od,ys,h1,h2⟩:=h; exact⟨od,ys,by rw [e a (ne trivial)]; exact h1,h2.monoT k⟩
 | ins c fs=>obtain⟨dx,ys,h1,h2⟩:=h; exact⟨dx,ys,by rw [e a (ne trivial)]; exact h1,h2.monoT k⟩
end
section
variable {X:Cx} {n:Nm} {xh:Xh} {W:WX} {e:Expr} {mp me:EM}
theorem Sim.unlock {w:Wd} {H:Hp} {S:Zaa} {m:Nat} {kvs:List (Key × SV)} {od:Obj} {qs:List (Key × V)} (s:Sim (gx X n) w H S) (q:S[m]? =some (.dF kvs)) (hd:H (w.at_ m)=some (.frz od (.dK qs))) (kr:KR (gx X n) w H kvs qs):
  Sim (gx X n) w (upd H (w.at_ m) (.dK qs)) (S.set m (.dK kvs)):=by
 have kt:∀b ys,H b=some (.tup ys)→upd H (w.at_ m) (.dK qs) b=some (.tup ys):=fun b ys h=>by
  have:b≠w.at_ m:=fun z=>by rw [z,hd]at h; cases h
  rw [upd_ne this]; exact h
 have hlt:m<S.length:=(Yaj.mp q).1
 have old:∀{i:Nat} {x:SO},(S.set m (.dK kvs))[i]? =some x→(i=m∧x= .dK kvs)∨(i≠m∧S[i]? =some x):=fun{i x} e=>by
  by_cases h:i=m
  ·subst h
   rw [Yan hlt]at e
   cases e
   exact .inl ⟨rfl,rfl⟩
  ·rw [Yao (Ne.symm h)]at e
   exact .inr ⟨h,e⟩
 refine⟨by rw [Yap]; exact s.len,fun i j x y hi hj mx my e=> ?_,fun i x hi=> ?_,Zeb s.tab hd trivial⟩
 ·rcases old hi with ⟨h1,e1⟩ | ⟨h1,e1⟩
  ·rcases old hj with ⟨h2,e2⟩ | ⟨h2,e2⟩
   ·omega
   ·exact h1.trans (s.inj m j _ y q e2 trivial my (by rw [←h1]; exact e))
  ·rcases old hj with ⟨h2,e2⟩ | ⟨h2,e2⟩
   ·exact(s.inj i m x _ e1 q mx trivial (by rw [←h2]; exact e)).trans h2.symm
   ·exact s.inj i j x y e1 e2 mx my e
 ·rcases old hi with ⟨h1,e1⟩ | ⟨h1,e1⟩
  ·rw [h1,e1]
   exact⟨qs,upd_same,kr.monoT kt⟩
  ·refine(s.obj i x e1).monoT kt (fun b hb=>upd_ne hb) (fun od' xs z=>by rw [hd]at z; cases z) fun nf z=>h1 (s.inj i m x _ e1 q nf trivial z)
end
end MP
namespace PySem.MPM
open PySem
section
variable {prog:Program} {w:World} {K:Type} [DecidableEq K] {knd:KeyKind prog w K} {A:Around} {E:Value→Shared→Prop} {s:Shared}
end
end PySem.MPM
namespace PySem.MPM
open PySem PyProof.Rows L2
section
variable {prog:Program} {w:World} {A:Around} {E:Value→Shared→Prop} {s:Shared}
end
end PySem.MPM
namespace MP
open PySem PySem.Spec PyProof.Rows L2
section
variable {X:Cx} {n:Nm} {xh:Xh} {W:WX} {ea ek ev:Expr} {ma mk mv:EM} {pos:Pos}
end
end MP
namespace MP
open PySem (Str)
def Zmp (xs:List SV) (S:Zaa):Bool:=match xs with
 | [.ref m]=>((ZaJ S m).bind ZbZ).isSome
 | _=>false
end MP
namespace MP
open PySem PySem.Spec PyProof.Rows L2
section
variable {X:Cx} {n:Nm}
end
end MP
namespace MP
open PySem PySem.Spec PyProof.Rows L2
section
variable {α β:Type}
end
def Zmq (h:Heap) (v:Value) (z:Str):Prop:=∃(a:Addr) (xs:Array Value) (t:Tok),v= .ref a∧IsTup h a xs∧xs[0]? =some (.str z t)
theorem Zmq.keeps {h h':Heap} {v:Value} {z:Str} (x:Zmq h v z) (k:∀b o,h.get? b=some o→o.cls= .type "tuple"→h'.get? b=some o):Zmq h' v z:=by
 obtain⟨a,xs,t,e,⟨o,ho,hc,r⟩,hx⟩:=x
 exact⟨a,xs,t,e,⟨o,k _ _ ho hc,hc,r⟩,hx⟩
def ZoP (h:Heap):Value→Str
 | .ref a=>(match h.get? a with
  | some o=>(match o.data with
   | .seq xs _=>(match xs[0]? with
    | some (Value.str z _)=>z
    | _=>⟨#[]⟩)
   | _=>⟨#[]⟩)
  | none=>⟨#[]⟩)
 | _=>⟨#[]⟩
theorem Zmq.txt {h:Heap} {v:Value} {z:Str} (x:Zmq h v z):ZoP h v=z:=by
 obtain⟨a,xs,t,rfl,⟨o,ho,hc,n,hd⟩,hx⟩:=x
 simp only [ZoP,ho,hd,hx]
section
variable {prog:Program} {w:World} {A:Around} {E:Value→Shared→Prop} {s:Shared}
end
section
variable {X:Cx} {n:Nm}
end
section
variable {X:Cx} {n:Nm}
end
end MP
namespace MP
open PySem PySem.Spec PyProof.Rows L2
def Zbv {α:Type} (kvs more:List (Key × α)):List (Key × α):=more.foldl (fun acc kv=>ZcH acc kv.1 kv.2) kvs
theorem KR.merge {g:G} {w:Wd} {H:Hp}:∀{more:List (Key × SV)} {mv:List (Key × V)} {kvs:List (Key × SV)} {qs:List (Key × V)},KR g w H more mv→KR g w H kvs qs→KR g w H (Zbv kvs more) (mergeK qs mv)
 | [],mv,kvs,qs,r,q=>by simp only [KR]at r; subst r; exact q
 | x::more,mv,kvs,qs,r,q=>by
  simp only [KR]at r
  obtain⟨v,rest,rfl,r1,r2⟩:=r
  have:=KR.merge (more:=more) (mv:=rest) r2 (q.put r1 x.1)
  exact this
def ZcX {α:Type}:List (α × α)→List α
 | []=>[]
 | p::r=>p.1::p.2::ZcX r
def Zdr:List SV→Option (List (Key × SV))
 | []=>some []
 | k::v::r=>(match Zlw k,Zdr r with
  | some kk,some l=>some ((kk,v)::l)
  | _,_=>none)
 | [_]=>none
theorem Zfg {g:G} {w:Wd} {H:Hp}:∀{ps:List (V × V)} {xs:List SV} {kvs:List (Key × SV)},VRs g w H xs (ZcX ps)→Zdr xs=some kvs→∃vs:List (Key × V),ps=vs.map (fun kv=>(kV kv.1,kv.2))∧KR g w H kvs vs
 | [],xs,kvs,r,e=>by
  cases xs with
  | nil=>cases e; exact⟨[],rfl,by simp only [KR]⟩
  | cons x xs=>simp [VRs,ZcX]at r
 | p::ps,xs,kvs,r,e=>by
  match xs,r,e with
  | [],r,_=>simp [VRs,ZcX]at r
  | [x],r,_=>simp [VRs,ZcX]at r
  | x::y::xs,r,e=>
   simp only [ZcX,VRs]at r
   obtain⟨_,_,q1,r1,_,_,q2,r2,r3⟩:=r
   cases q1; cases q2
   simp only [Zdr]at e
   split at e
   ·rename_i kk l e1 e2
    cases e
    obtain⟨vs,e3,e4⟩:=Zfg r3 e2
    refine⟨(kk,p.2)::vs, ?_,by simp only [KR]; exact⟨p.2,vs,rfl,r2,e4⟩⟩
    rw [Ya0,←e3,←Zff e1 r1]
   ·cases e
def eDs (am:AM):EM:=fun env S=>(am env (S++[.dK []])).bind fun xs S1=>match S1[S.length]?,Zdr xs with
 | some (.dK []),some kvs=>if kvs.length≤15 then .ok (.ref S.length) (S1.set S.length (.dK (Zbv [] kvs)))else .bad
 | _,_=> .bad
section
variable {X:Cx} {n:Nm} {xh:Xh} {W:WX} {ek ev:Expr} {mk mv:EM} {m:AM} {pos:Pos} {keys:List (Option Expr)} {values:List Expr}
structure RDs (X:Cx) (n:Nm) (xh:Xh) (W:WX) (keys:List (Option Expr)) (values:List Expr) (m:AM):Prop where
 ex:∃trs:List (TE × TE),(∀pos,PPs X pos keys values trs)∧∀(σ:L2.St) (H:Hp) (w:Wd) (S:Zaa) (env:En) (Q:List (V × V)→Hp→Prop),Sim (gx X n) w H S→Fm (gx X n) xh w H env σ→
  Out (m env S) (fun xs S'=>∀w' H' ps,w.Le w'→Zag H H'→Sim (gx X n) w' H' S'→VRs (gx X n) w' H' xs (ZcX ps)→Q ps H') (KX (gx X n) w H fun cls d H'=>W cls d σ H')→tPairs trs σ H Q
theorem RDs.nil:RDs X n xh W [] [] ZaZ:=⟨[],fun _=>pps_nil,fun σ H w S env Q s f h=>h w H [] (Wd.Le.refl w) (Yb9 H) s YcA⟩
theorem RDs.cons (hk:RE X n xh W ek mk) (hv:RE X n xh W ev mv) (hr:RDs X n xh W keys values m):RDs X n xh W (some ek::keys) (ev::values) (Zac mk (Zac mv m)):=by
 obtain⟨tk,pk,ck⟩:=hk.ex
 obtain⟨tv,pv,cv⟩:=hv.ex
 obtain⟨tr,pr,cr⟩:=hr.ex
 refine⟨_,fun pos=>pps_cons pk pv (pr pos),fun σ H w S env Q s fm h=> ?_⟩
 refine ck σ H w S env _ s fm ((Yb5 h).imp (fun x S1 h1 w1 H1 v l1 k1 s1 r1=> ?_) fun _ _ z=>z)
 have h1':=Yb5 h1
 refine cv σ H1 w1 S1 env _ s1 (fm.mono l1 k1) ((Yb5 h1').imp (fun y S2 h2 w2 H2 v2 l2 k2 s2 r2=> ?_) fun _ _ z=>z.mono l1 k1)
 refine cr σ H2 w2 S2 env _ s2 ((fm.mono l1 k1).mono l2 k2) ((Yb5 h2).imp (fun xs S3 h3 w3 H3 ps l3 k3 s3 r3=> ?_) fun _ _ z=>z.mono (l1.trans l2) (k1.trans k2))
 exact h3 w3 H3 ((v,v2)::ps) ((l1.trans l2).trans l3) ((k1.trans k2).trans k3) s3 (Ycg (r1.mono (l2.trans l3) (k2.trans k3)) (Ycg (r2.mono l3 k3) r3))
theorem RE.ds (h:RDs X n xh W keys values m) (hall:keys.all (·.isSome)=true:=by rfl) (hl:keys.length=values.length:=by rfl) (h0:keys≠ []:=by exact fun z=>nomatch z) (h15:keys.length≤15:=by decide):RE X n xh W (.Dict keys values pos) (eDs m):=by
 obtain⟨trs,pp,c⟩:=h.ex
 refine⟨_,pe_disp (pp pos) hall hl h0 h15,fun σ H w S env Q s fm h=> ?_⟩
 intro p hp
 have kp:Zag H (upd H p (.dK [])):=Ycs hp
 have sp:Sim (gx X n) (w.push p) (upd H p (.dK [])) (S++[.dK []]):=s.new kp hp (fun b u e=>ZaG hp b u e) ⟨[],upd_same,rfl⟩
 have lp:=w.le_push p
 have np:S.length<(w.push p).n:=by rw [s.len]; exact Yaq _
 have ap:(w.push p).at_ S.length=p:=by rw [s.len]; exact w.push_at p
 refine c σ _ _ _ env _ sp (fm.mono lp kp) ((Yb5 h).imp (fun xs S1 h1 w1 H1 ps l1 k1 s1 r1=> ?_) fun _ _ z=>z.mono lp kp)
 have a1:w1.at_ S.length=p:=(l1.2 _ np).trans ap
 have n1:S.length<w1.n:=Yad np l1.1
 split at h1
 ·rename_i kvs e1 e2
  by_cases c15:kvs.length≤15
  ·rw [if_pos c15]at h1
   obtain⟨ys,hy,ry⟩:=s1.dk e1
   simp only [KR]at ry
   subst ry
   rw [a1]at hy
   obtain⟨vs,e3,r3⟩:=Zfg r1 e2
   have kA:Zag H1 (upd H1 p (.dK (mergeK [] vs))):=Yc0 hy (by simp [ZdD])
   have sA:Sim (gx X n) w1 (upd H1 p (.dK (mergeK [] vs))) (S1.set S.length (.dK (Zbv [] kvs))):=by
    have t:=s1.set (u:= .dK (mergeK [] vs)) (o':= .dK (Zbv [] kvs)) e1 trivial trivial (by rw [a1]; exact⟨_,upd_same,KR.mono' (Wd.Le.refl _) kA (KR.merge r3 (show KR _ _ _ [] [] by simp only [KR]))⟩)
    rw [a1]at t
    exact t
   refine⟨hy,vs,e3,by rw [r3.len]; exact c15, ?_⟩
   exact h1 w1 _ _ (lp.trans l1) ((kp.trans k1).trans kA) sA (by simp only [VR]; exact⟨n1,by rw [a1]⟩)
  ·rw [if_neg c15]at h1; exact h1.elim
 ·exact h1.elim
end
section
variable {X:Cx} {n:Nm} {W:WX} {pos:Pos}
end
end MP
namespace MP
open PySem PySem.Spec PyProof.Rows L2
section
variable {X:Cx} {n:Nm} {xh:Xh} {W:WX} {gd:Bool} {k:Nat} {tb:Zap}
end
section
variable {X:Cx} {n:Nm}
end
end MP
namespace MP
open PySem PySem.Spec PyProof.Rows L2
def itZ (I J:IT):IT:=fun i S=>match I i S,J i S with
 | some (some x),some (some y)=>some (some (.tup [x,y]))
 | some none,some _=>some none
 | some (some _),some none=>some none
 | _,_=>none
def Zn9 (a b:EM):IM:=fun env S=>(a env S).bind fun u S1=>(b env S1).bind fun v S2=>match u,v with
 | .ref m, .ref k=>(match ZaJ S2 m,ZaJ S2 k with
  | some xs,some ys=> .ok (min xs.length ys.length+1,itZ (itL m) (itL k)) S2
  | _,_=> .bad)
 | _,_=> .bad
section
variable {X:Cx} {n:Nm} {xh:Xh} {W:WX} {e e2:Expr} {ma mb:EM} {pos p tpos:Pos} {elts:List Expr} {kk:Nat}
theorem Zfh {w1:Wd} {H1:Hp} {S1:Zaa} {m:Nat} {xs:List SV} (s:Sim (gx X n) w1 H1 S1) (h:ZaJ S1 m=some xs):∃ys,SqL X.K H1 (w1.at_ m) ys∧VRs (gx X n) w1 H1 xs ys:=by
 obtain⟨ys,sq,r⟩:=s.seq (ZaT h)
 exact⟨ys,sq,r⟩
theorem ItR.zip {w:Wd} {H:Hp} {m k:Nat} (hm:m<w.n) (hk:k<w.n):ItR (gx X n) w H (Itz X.K (w.at_ m) (w.at_ k)) (itZ (itL m) (itL k)):=fun i w1 H1 S1 l kp s=>by
 have at1:w1.at_ m=w.at_ m:=l.2 m hm
 have at2:w1.at_ k=w.at_ k:=l.2 k hk
 unfold itZ itL
 cases q:ZaJ S1 m with
 | none=>exact⟨fun e=>(nomatch e),fun x e=>(nomatch e)⟩
 | some xs=>
  cases q2:ZaJ S1 k with
  | none=>simp only; exact⟨fun e=>by split at e<;>simp_all,fun x e=>by split at e<;>simp_all⟩
  | some zs=>
   obtain⟨ys,sq,r⟩:=Zfh s q
   obtain⟨us,sq2,r2⟩:=Zfh s q2
   rw [at1]at sq
   rw [at2]at sq2
   simp only
   cases hx:xs[i]? with
   | none=>
    have h1:xs.length≤i:=Yay.mp hx
    refine⟨fun _=>⟨ys,us,sq,sq2, .inl (by rw [r.len]; exact h1)⟩,fun x e=> ?_⟩
    cases h:zs[i]? <;>rw [h]at e<;>cases e
   | some x=>
    cases hy:zs[i]? with
    | none=>
     have h1:zs.length≤i:=Yay.mp hy
     exact⟨fun _=>⟨ys,us,sq,sq2, .inr (by rw [r2.len]; exact h1)⟩,fun x e=>nomatch e⟩
    | some y=>
     refine⟨fun e=>(nomatch e),fun z e=> ?_⟩
     cases e
     obtain⟨u,hu,ru⟩:=r.get hx
     obtain⟨u2,hu2,ru2⟩:=r2.get hy
     refine⟨⟨ys,us,u,u2,sq,sq2,hu,hu2⟩,fun v H2 hyl=> ?_⟩
     obtain⟨T,x',y',ev,hT,eH,f1,f2⟩:=hyl
     have e1:=f1 ys sq
     rw [hu]at e1
     cases e1
     have e2:=f2 us sq2
     rw [hu2]at e2
     cases e2
     subst eH ev
     have kn:Zag H1 (upd H1 T (.tup [u,u2])):=Ycs hT
     refine⟨w1,Wd.Le.refl _,kn,s.grow (fun b u e=>ZaG hT b u e), ?_⟩
     simp only [VR]
     exact⟨T,_,rfl,upd_same,Ycg (ru.mono (Wd.Le.refl _) kn) (YcH (ru2.mono (Wd.Le.refl _) kn))⟩
theorem RI.zip (hg:Gl X "zip") (hm:X.mg "zip"=none) (ha:RE X n xh W e ma) (hb:RE X n xh W e2 mb)
  (hs:starEach [e,e2] X.env=(false,eval e X.env)::starEach [e2] X.env:=by rfl) (hs2:starEach [e2] X.env=[(false,eval e2 X.env)]:=by rfl) (hpl:(backTo pos (starEach [e2] X.env)).any (·.1)=false:=by rfl):
  RI X n xh W (.Tuple elts kk tpos) (.Call (.Name "zip" p) [e,e2] [] pos) (Zn9 ma mb):=by
 obtain⟨ta,pa,ca⟩:=(Yb1 ha (Yb1 hb Yb8 hs2) hs).ex
 refine⟨_,pi_zip hg hm pa hs hpl,fun σ H w S env R s fm h=> ?_⟩
 refine ca σ H w S env _ s fm ?_
 unfold Zn9 at h
 simp only [Zac,ZaZ]
 cases hv:ma env S with
 | bad=>rw [hv]at h; exact h.elim
 | exc x S1=>rw [hv]at h; exact h
 | ok x S1=>
  rw [hv]at h
  simp only [ZbN]at h⊢
  cases hu:mb env S1 with
  | bad=>rw [hu]at h; exact h.elim
  | exc x S1=>rw [hu]at h; exact h
  | ok y S2=>
   rw [hu]at h
   intro w1 H1 vs l1 k1 s1 r1
   simp only [VRs]at r1
   obtain⟨v,t,rfl,r2,v2,t2,rfl,r3,rfl⟩:=r1
   simp only [ZbN]at h
   cases x with
   | ref m=>
    cases y with
    | ref k=>
     simp only at h
     simp only [VR]at r2 r3
     cases q:ZaJ S2 m with
     | none=>rw [q]at h; exact h.elim
     | some xs=>
      cases q2:ZaJ S2 k with
      | none=>rw [q,q2]at h; exact h.elim
      | some zs=>
       rw [q,q2]at h
       obtain⟨ys,sq,_⟩:=Zfh s1 q
       obtain⟨us,sq2,_⟩:=Zfh s1 q2
       exact⟨_,_,ys,us,by rw [r2.2,r3.2],sq,sq2,h w1 H1 _ l1 k1 s1 (ItR.zip r2.1 r3.1)⟩
    | _=>exact h.elim
   | _=>exact h.elim
end
abbrev Zmr:=List (String × (List SV→List SV→M SV))
structure ZhR (X:Cx) (n:Nm) (k:Nat) (gd:Bool) (dn:Str) (ks:List Str) (c:String) (g:List SV→List SV→M SV):Prop where
 ex:∃(f:Addr) (fd:FuncData) (ps:List Str) (np:Nat) (sel:List Sel) (dxs:List SV) (j:Nat) (gc:Bool) (m:List SV→M SV),Meth X.K (n.cl c) dn f∧Cls X.K (n.cl c)∧Fd gc X.prog X.w X.K X.mg X.base n j f fd ps m∧KwB X n fd ps np ks sel dxs∧g=ZiK m sel dxs np ks.length∧j+1≤k∧(gc=true→gd=true)
section
variable {X:Cx} {n:Nm} {xh:Xh} {W:WX} {gd gc:Bool} {k j np nk:Nat} {f:Addr} {fd:FuncData} {ps ks:List Str} {m m':List SV→M SV} {sel:List Sel} {dxs:List SV} {dn:Str} {c:String} {tb:Zmr} {o e:Expr} {es:List Expr} {kws:List Keyword} {mo me:EM} {mr mk:AM} {pos apos:Pos} {pl:Sem Bool}
theorem ZhR.of (hm:Meth X.K (n.cl c) dn f) (hc:Cls X.K (n.cl c)) (F:Fd gc X.prog X.w X.K X.mg X.base n j f fd ps m) (B:KwB X n fd ps np ks sel dxs) (hn:nk=ks.length:=by rfl) (hj:j+1≤k:=by decide) (hg:gc=true→gd=true:=by decide):ZhR X n k gd dn ks c (ZiK m sel dxs np nk):=
 ⟨f,fd,ps,np,sel,dxs,j,gc,m,hm,hc,F,B,by rw [hn],hj,hg⟩
def KTb (X:Cx) (n:Nm) (k:Nat) (gd:Bool) (dn:Str) (ks:List Str) (tb:Zmr):Prop:=∀p∈tb,ZhR X n k gd dn ks p.1 p.2
theorem KTb.nil:KTb X n k gd dn ks []:=fun _ h=>nomatch h
theorem KTb.cons {tb:Zmr} {g:List SV→List SV→M SV} (h:ZhR X n k gd dn ks c g) (t:KTb X n k gd dn ks tb):KTb X n k gd dn ks ((c,g)::tb):=fun p hp=>by
 rcases Yas.mp hp with e | e
 ·rw [e]; exact h
 ·exact t p e
end
section
variable {K:PySem.W.Frag} {n:Nm} {x qual:Str} {params:Arguments} {body:List Stmt} {scope:Scope} {dvs:List V} {kws:List (Str × V)} {f:Addr} {fd:FuncData} {ps:List Str} {dxs:List SV}
theorem Zhl.k0 (F:FunD K x qual params body scope [] kws f fd) (np:Nat) (hk:kws≠ []) (hn:np+kws.length=ps.length) (hd:∀w H,VRs ⟨K,n.cl,n.fn⟩ w H dxs (kws.map (·.2)))
  (h:∀(D:Addr) (doc pm:Value) (an:Option Addr) (cdv ct:Value) (us ks:List Value),us.length=np→ks.length=kws.length→
   KwChain D ((kws.map (·.1)).zip ks) (bindArgs (PySem.W.fnOf x qual params body scope .none (.ref D) doc pm an cdv ct) ⟨us,[]⟩) (ps.zip (us++ks))):Zhl K n fd ps dxs:=by
 obtain⟨ds,r,b⟩:=F.binds0 np hk hn h
 exact⟨_,ds,r,b,hd⟩
theorem Zhl.p1 (F:FunD K x qual params body scope dvs kws f fd) (np j:Nat) (hk:dvs≠ []) (hn:np+(dvs.length - j)=ps.length) (hd:∀w H,VRs ⟨K,n.cl,n.fn⟩ w H dxs (dvs.drop j))
  (h:∀(T:Addr) (kV doc pm:Value) (an:Option Addr) (cdv ct:Value) (us its:List Value),us.length=np→its.length=dvs.length→
   ∃k,bindArgs (PySem.W.fnOf x qual params body scope (.ref T) kV doc pm an cdv ct) ⟨us,[]⟩=seqItems? (.ref T)>>=k∧k (some its.toArray)=pure (ps.zip (us++its.drop j))):Zhl K n fd ps dxs:=by
 obtain⟨ds,r,b⟩:=F.binds1 np j hk hn h
 exact⟨_,ds,r,b,hd⟩
end
end MP
namespace KSet
open PySem PySem.Spec PyProof.Rows L2
section
variable {P:Program} {w:World} {K:Type} [DecidableEq K] (knd:KeyKind P w K)
def ZiL (e f:Int × Value):Prop:=∀k,¬(knd.is k e.2=true∧knd.is k f.2=true)
theorem ZiL.symm {e f:Int × Value} (h:ZiL knd e f):ZiL knd f e:=fun k z=>h k ⟨z.2,z.1⟩
structure ZfU (h:Heap) (a:Addr) (S:K→Bool) (n:Nat):Prop where
 ex:∃o es ep t,h.get? a=some o∧o.ExactSet∧o.data= .set es ep t∧ElemsOf knd es.toList∧es.toList.Pairwise (ZiL knd)∧(∀k,S k=true↔∃e∈es.toList,knd.is k e.2=true)∧
  es.size<scanBound∧t.fits es.size=true∧es.size=n∧Ris t.place.toList∧(w.params.followText "set-order"=true∨t.led=true)
variable {knd} {h h':Heap} {a:Addr} {S:K→Bool} {n:Nat}
theorem ZfU.at (R:ZfU knd h a S n) (k:∀o,h.get? a=some o→h'.get? a=some o):ZfU knd h' a S n:=by
 obtain⟨o,es,ep,t,ho,r⟩:=R
 exact⟨o,es,ep,t,k o ho,r⟩
theorem ZfU.setOf (R:ZfU knd h a S n):h.SetOf knd a S n:=by
 obtain⟨o,es,ep,t,ho,hx,hd,g,_,hm,hb,hf,hn,_⟩:=R
 exact⟨o,es,ep,t,ho,hx,hd,g,hm,hb,hf,hn⟩
theorem fresh:ZfU knd (h.push {cls:= .type "set",dict:=none,data:= .set #[] 0 (.fresh 0 0 (!w.params.followText "set-order"))}) h.objs.size (fun _=>false) 0:=
 ⟨_, #[],0,_,Heap.get?_push_size _ rfl,⟨rfl,rfl,rfl⟩,rfl,(fun e he=>by simp at he),List.Pairwise.nil,(fun k=>by simp),(by decide),(by rfl),rfl,List.Pairwise.nil,by
  show _∨(!w.params.followText "set-order")=true
  cases w.params.followText "set-order"
  ·exact .inr rfl
  ·exact .inl rfl⟩
end
section
variable {P:Program} {w:World} {A:Around} {E:Value→Shared→Prop} {s:Shared} {a:Addr} {K:Type} [DecidableEq K] {knd:KeyKind P w K} {S:K→Bool} {n:Nat}
theorem Zfi {g:Bool→Sem Unit} (hg:∀(b:Bool) (s₁:Shared) (Q':Unit→Shared→Prop),Q' () s₁→wpAny (model P w) A (g b) Q' E s₁)
    {o:Obj} {es:Array (Int × Value)} {ep:Nat} {t:SetTable} (ho:s.heap.get? a=some o) (hex:o.ExactSet) (hd:o.data= .set es ep t)
    {es1:Array (Int × Value)} {t2:SetTable} {S':K→Bool} (g1:ElemsOf knd es1.toList) (nd1:es1.toList.Pairwise (ZiL knd)) (m1:∀k,S' k=true↔∃e∈es1.toList,knd.is k e.2=true)
    (hb1:es1.size<scanBound) (hf2:t2.fits es1.size=true) (hr:Ris t2.place.toList) (hl:w.params.followText "set-order"=true∨t2.led=true) {wasDummy:Bool} {R:Option Bool→Shared→Prop}
    (hR:∀h',Heap.SameBut a s.heap h'→ZfU knd h' a S' es1.size→R (some true) {s with heap:=h'}):
    wpAny (model P w) A (do
        storeSet a es1 t2
        if(!wasDummy&&t2.tooFull)=true then do
           g (relayAll t2 es1 (SetTable.grown es1.size)).2.2
           storeSet a (relayAll t2 es1 (SetTable.grown es1.size)).1 (relayAll t2 es1 (SetTable.grown es1.size)).2.1
           pure (some true)
          else pure (some true)) R E s:=by
  have ho1:=store_at (es':=es1) (t':=t2) ho hd
  have sb1:=Heap.SameBut.update s.heap a (Obj.putSet es1 t2)
  refine wpAny_bind (wpAny_storeSet_of ho hd ?_ (fits_of_scanBound hb1))
  split
  · have pm:=relayAll_perm t2 es1 (SetTable.grown es1.size)
    have hf3:=relayAll_fits t2 es1 (SetTable.grown es1.size)
    have hr3:=relayAll_ris t2 es1 (SetTable.grown es1.size)
    have hl3:=relayAll_led t2 es1 (SetTable.grown es1.size)
    generalize relayAll t2 es1 (SetTable.grown es1.size)=Z at pm hf3 hr3 hl3⊢
    obtain⟨es2,t3,gave⟩:=Z
    dsimp only at pm hf3 hr3 hl3⊢
    have hsz:es2.size=es1.size:=by rw [←Ya9,pm.length_eq,Ya9]
    have hb2:es2.size<scanBound:=by rw [hsz]; exact hb1
    refine wpAny_bind (hg _ _ _ ?_)
    refine wpAny_bind (wpAny_storeSet_of ho1 rfl ?_ (fits_of_scanBound hb2))
    have ho2:=store_at (es':=es2) (t':=t3) ho1 rfl
    refine wpAny_pure (hR _ (sb1.trans (Heap.SameBut.update _ a _)) ?_)
    refine⟨_,es2,_,t3,ho2,hex,rfl,(fun e he=>g1 e (pm.mem_iff.mp he)),(pm.pairwise_iff fun{x y} h=>ZiL.symm knd h).mpr nd1,(fun k=>(m1 k).trans ⟨?_, ?_⟩),hb2,hf3,hsz,hr3,hl.imp id fun z=>by rw [hl3]; exact z⟩
    · rintro⟨e,he,q⟩; exact⟨e,pm.mem_iff.mpr he,q⟩
    · rintro⟨e,he,q⟩; exact⟨e,pm.mem_iff.mp he,q⟩
  · exact wpAny_pure (hR _ sb1 ⟨_,es1,_,t2,ho1,hex,rfl,g1,nd1,m1,hb1,hf2,rfl,hr,hl⟩)
theorem ZfK {k:K} {x:Value} {Q:Bool→Shared→Prop} (hkey:knd.is k x=true) (hsc:x.scannable=true) (R:ZfU knd s.heap a S n) (room:n+1<scanBound)
  (hQ:∀h',Heap.SameBut a s.heap h'→ZfU knd h' a (fun j=>S j || decide (j=k)) (if S k=true then n else n+1)→Q (!S k) {s with heap:=h'}):
  wpAny (model P w) A (setAddHashed a x (knd.hash k)) Q E s:=by
 obtain⟨o,es,ep,t,ho,hex,hd,hel,nd,hm,hb,hf,hn,hr,hl⟩:=R
 unfold setAddHashed setAddHashedIn
 refine wpAny_holding (wpAny_bind (wpAny_setState_of ho hd hf ?_))
 dsimp only
 rw [byScan_of hsc hb hel]
 simp only [↓reduceIte]
 unfold setAddByScan
 refine wpAny_bind ?_
 refine wpAny_bind (wpAny_rule ?_)
 refine wpAny_bind (wpAny_setScan_of hkey ho hd hf hel ?_)
 cases hfi:List.findIdx? (fun e=>knd.is k e.2) es.toList with
 | some j=>
  dsimp only
  obtain⟨hj,pj,_⟩:=List.findIdx?_eq_some_iff_getElem.mp hfi
  have hSk:S k=true:=(hm k).2 ⟨es.toList[j],Yba hj,pj⟩
  refine wpAny_pure (wpAny_pure ?_)
  have q:=hQ s.heap (Heap.SameBut.refl a s.heap) ⟨o,es,ep,t,ho,hex,hd,hel,nd,fun i=>by
   rw [YaO,decide_eq_true_eq,←hm i]
   exact⟨fun z=>z.elim id (fun e=>e▸hSk), .inl⟩,hb,hf,by rw [if_pos hSk]; exact hn,hr,hl⟩
  rw [hSk]at q
  exact q
 | none=>
  dsimp only
  have hnk:∀e∈es.toList,knd.is k e.2≠true:=fun e he q=>by
   have c:=List.findIdx?_eq_none_iff.mp hfi e he
   rw [q]at c
   cases c
  have hSk:S k=false:=by
   cases q:S k with
   | false=>rfl
   | true=>obtain⟨e,he,z⟩:=(hm k).1 q; exact absurd z (hnk e he)
  have hgw:∀(b:Bool) {s₁:Shared} {Q':Unit→Shared→Prop},Q' () s₁→wpAny (model P w) A (match b with | true=>rule "set.scan.the-table-gave-way" | false=>pure ()) Q' E s₁:=
   fun b s₁ Q' q=>by cases b<;>first | exact wpAny_pure q | exact wpAny_rule q
  have pm:=layNew_perm t es (knd.hash k) x
  have hf1:=layNew_fits t es (knd.hash k) x
  have hr1:=layNew_ris t es (knd.hash k) x hr
  have hl1:=layNew_led t es (knd.hash k) x
  generalize layNew t es (knd.hash k) x=Z at pm hf1 hr1 hl1⊢
  obtain⟨es1,t1,wasDummy,gave⟩:=Z
  dsimp only at pm hf1 hr1 hl1⊢
  rw [Array.toList_push]at pm
  have pc:es1.toList.Perm ((knd.hash k,x)::es.toList):=pm.trans (List.perm_append_singleton _ _)
  have g1:ElemsOf knd es1.toList:=fun e he=>by
   rcases Yas.mp (pc.mem_iff.mp he)with z | z
   ·rw [z]; exact⟨⟨k,hkey,rfl⟩,hsc⟩
   ·exact hel e z
  have nd1:es1.toList.Pairwise (ZiL knd):=(pc.pairwise_iff fun{x y} h=>ZiL.symm knd h).mpr (List.pairwise_cons.mpr ⟨fun e he i z=>by
   have:i=k:=knd.inj _ _ _ z.1 hkey
   rw [this]at z
   exact hnk e he z.2,nd⟩)
  have m1:∀i,(S i || decide (i=k))=true↔∃e∈es1.toList,knd.is i e.2=true:=fun i=>by
   rw [YaO,decide_eq_true_eq,hm i]
   constructor
   ·rintro(⟨e,he,q⟩ | rfl)
    ·exact⟨e,pc.mem_iff.mpr (Yau _ he),q⟩
    ·exact⟨_,pc.mem_iff.mpr (Yav ..),hkey⟩
   ·rintro⟨e,he,q⟩
    rcases Yas.mp (pc.mem_iff.mp he)with z | z
    ·right; rw [z]at q; exact knd.inj _ _ _ q hkey
    ·exact .inl ⟨e,z,q⟩
  have hsz:es1.size=n+1:=by rw [←Ya9,pc.length_eq,Yae,Ya9,hn]
  have hb1:es1.size<scanBound:=by rw [hsz]; exact room
  have hled:w.params.followText "set-order"=true∨t1.led=true:=hl.imp id fun z=>by rw [hl1]; exact z
  have fin:∀h',Heap.SameBut a s.heap h'→ZfU knd h' a (fun j=>S j || decide (j=k)) es1.size→Q true {s with heap:=h'}:=fun h' sb r=>by
   have q:=hQ h' sb
   rw [hSk]at q
   rw [hsz]at r
   exact q r
  refine wpAny_bind (hgw _ ?_)
  split
  ·refine wpAny_bind ?_
   rw [hashByValue_scannable 8 hsc]
   refine wpAny_pure ?_
   refine Zfi ?_ ho hex hd g1 nd1 m1 hb1 ?_ ?_ ?_ ?_
   ·intro b s₁ Q' q; cases b<;>first | exact wpAny_pure q | exact wpAny_rule q
   ·first | (split<;>first | exact hf1 | exact SetTable.fits_plain_off hf1) | exact hf1
   ·first | (split<;>exact hr1) | exact hr1
   ·first | (split<;>exact hled) | exact hled
   ·intro h' sb r; dsimp only; exact wpAny_pure (fin h' sb r)
  ·refine wpAny_bind (wpAny_pure ?_)
   simp only [↓reduceIte]
   refine Zfi ?_ ho hex hd g1 nd1 m1 hb1 hf1 hr1 hled ?_
   ·intro b s₁ Q' q; cases b<;>first | exact wpAny_pure q | exact wpAny_rule q
   ·intro h' sb r; dsimp only; exact wpAny_pure (fin h' sb r)
theorem add {k:K} {x:Value} {Q:Value→Shared→Prop} (hkey:knd.is k x=true) (hsc:x.scannable=true) (R:ZfU knd s.heap a S n) (room:n+1<scanBound)
  (hQ:∀h' tk,Heap.SameBut a s.heap h'→ZfU knd h' a (fun j=>S j || decide (j=k)) (if S k=true then n else n+1)→Q .none {s with heap:=h',toks:=tk}):
  wpAny (model P w) A (call (.builtin "set.add") [.ref a,x]) Q E s:=by
 have hS:=R.setOf
 refine wpAny_call_entry F.slot_set_add hS.typeIs F.entry_set_add ?_ (F.args_set_add_2 _ _)
 unfold Builtin.«set.add» Builtin.Frozenset.oneOther
 simp only [List.isEmpty_nil,bind_assoc]
 unfold Builtin.Frozenset.addrOf setAdd
 refine wpAny_bind (wpAny_pure ?_)
 try dsimp only
 refine wpAny_bind (wpAny_pure ?_)
 try dsimp only
 refine wpAny_bind ?_
 refine wpAny_holding ?_
 refine wpAny_bind (knd.pyHash hkey ?_)
 refine ZfK (s:={s with toks:=s.toks+1}) hkey hsc R room fun h' sb r=> ?_
 show wpAny _ _ (ret Value.none) _ _ _
 exact wpAny_pure ⟨_,rfl,hQ h' _ sb r⟩
end
end KSet
namespace KSet
open PySem PySem.Spec PyProof.Rows L2
abbrev sk (P:Program) (w:World):=PySem.strKind P w
section
variable {P:Program} {w:World} {A:Around} {E:Value→Shared→Prop} {s:Shared} {a:Addr} {S:Str→Bool} {n:Nat}
end
section
variable {X:Cx}
end
end KSet
namespace KSet
open PySem PySem.Spec PyProof.Rows L2
section
variable {X:Cx} {O0:Addr→HO} {ad:Addr→V→Hp→(Hp→Prop)→Prop}
end
end KSet
namespace MP
open PySem PySem.Spec PyProof.Rows L2 KSet
def ddA (acc:List Str):List Str→List Str
 | []=>acc
 | z::r=>ddA (if z∈acc then acc else acc++[z]) r
def dd (zs:List Str):List Str:=ddA [] zs
section
variable {X:Cx}
section
variable {iter elt tg:Expr} {scope:Scope} {own:List (Str × Nat)} {i0:Nat} {pos:Pos} {te:TE}
def clo (t:TE):TE:=fun σ H Q=>∃Q':VK,t σ H Q'∧∀v H',Q' v H'→Q v H'
end
end
section
variable {X:Cx} {n:Nm} {xh:Xh} {W:WX} {iter elt tg:Expr} {scope:Scope} {own:List (Str × Nat)} {i0 k:Nat} {gd:Bool} {me:EM} {pos pos2 p1:Pos}
end
end MP
namespace L2
open PySem PySem.Spec PyProof.Rows
end L2
namespace MP
open PySem PySem.Spec PyProof.Rows L2
section
variable {X:Cx} {n:Nm} {xh:Xh} {W:WX} {e:Expr} {ma:EM} {pos p tpos:Pos} {elts:List Expr} {kk:Nat}
end
end MP
namespace L2
open PySem PySem.Spec PyProof.Rows
section
variable {X:Cx}
end
end L2
namespace MP
open PySem PySem.Spec PyProof.Rows L2
section
variable {X:Cx} {n:Nm}
end
end MP
namespace MP
open PySem PySem.Spec PyProof.Rows L2
def Zlx (g:GM) (t:TM) (it1:IM) (g1:GM) (t1:TM) (e:EM) (d:Nat) (env:En) (vs1:List Nat) (I:IT):Nat→Nat→Zaa→Res Unit
 | 0,_,_=> .bad
 | k+1,i,S=>match I i S with
  | none=> .bad
  | some none=> .ok () S
  | some (some x)=>match g x env S with
   | .nx env2 S2=>(match t env2 S2 with
    | .ok true S3=>(match it1 env2 S3 with
     | .ok p S4=>(match lcI g1 t1 e d (Za1 env2 vs1) p.2 p.1 0 S4 with
      | .ok _ S5=>Zlx g t it1 g1 t1 e d env vs1 I k (i+1) S5
      | _=> .bad)
     | _=> .bad)
    | .ok false S3=>Zlx g t it1 g1 t1 e d env vs1 I k (i+1) S3
    | _=> .bad)
   | _=> .bad
def Zo3 (it:IM) (g:GM) (t:TM) (it1:IM) (g1:GM) (t1:TM) (e:EM) (vs vs1:List Nat):EM:=fun env S=>(it env S).bind fun p S1=>(Zlx g t it1 g1 t1 e S1.length (Za1 env vs) vs1 p.2 p.1 0 (S1++[.lst []])).bind fun _ S2=> .ok (.ref S1.length) S2
section
variable {X:Cx} {n:Nm} {xh:Xh} {W:WX}
theorem ZhS {g1:GM} {t1:TM} {me:EM} {w0:Wd} {H0:Hp} {D:Addr} {d:Nat} {vs1:List Nat} {env2:En} {σ2:L2.St} {K':Hp→Prop}
  (nD:d<w0.n) (aD:w0.at_ d=D) {wb:Wd} {Hb:Hp} (lb0:w0.Le wb) (kb0:Zag H0 Hb) (base:Fm (gx X n) none wb Hb (Za1 env2 vs1) (L2.wipe σ2 vs1)) (tm:∀x env S,Zec (g1 x env S))
  {it:IT} {J:It} (hJ:ItR (gx X n) wb Hb J it) {k0:Nat} {S4:Zaa} (s4:Sim (gx X n) wb Hb S4)
  (h:Out (lcI g1 t1 me d (Za1 env2 vs1) it k0 0 S4) (fun _ S5=>∀w' H',wb.Le w'→Zag Hb H'→Sim (gx X n) w' H' S5→K' H') (fun _ _=>True)):
  ∃W1:Nat→Nat→Hp→Prop,(∃m,W1 0 m Hb)∧∀j k H,W1 j k H→
   (J.stop j H∧K' H)∨(J.go j H∧∃Nx1:Hp→Prop,(∀H',Nx1 H'→∃k',k'<k∧W1 (j+1) k' H')∧∀x H',J.yld j H x H'→cG (gx X n) Wno vs1 g1 x (L2.wipe σ2 vs1) H' fun σ3 H5=>L2.wipe σ3 vs1=L2.wipe σ2 vs1∧cTs (gx X n) none Wno t1 σ3 H5 fun b H6=>
    if b=true then cE (gx X n) none Wno me σ3 H6 fun y H7=>∃acc,H7 D=some (.lst acc)∧acc.length<sizeLine∧Nx1 (upd H7 D (.lst (acc++[y])))else Nx1 H6):=by
 refine⟨fun i m H'=>∃w' S',wb.Le w'∧Zag Hb H'∧Sim (gx X n) w' H' S'∧
  Out (lcI g1 t1 me d (Za1 env2 vs1) it m i S') (fun _ S2=>∀w2 H2,w'.Le w2→Zag H' H2→Sim (gx X n) w2 H2 S2→K' H2) (fun _ _=>True),
  ⟨k0,wb,S4,Wd.Le.refl _,Yb9 _,s4,h⟩, ?_⟩
 rintro i m H' ⟨w',S',l',k',s',h'⟩
 cases m with
 | zero=>exact h'.elim
 | succ m=>
  unfold lcI at h'
  obtain⟨z1,z2⟩:=hJ i w' H' S' l' k' s'
  cases q:it i S' with
  | none=>rw [q]at h'; exact h'.elim
  | some o=>
   rw [q]at h'
   cases o with
   | none=>exact .inl ⟨z1 q,h' w' H' (Wd.Le.refl _) (Yb9 _) s'⟩
   | some x=>
    obtain⟨go,z3⟩:=z2 x q
    simp only at h'
    refine .inr ⟨go,fun H3=>∃w3 S3,wb.Le w3∧Zag Hb H3∧Sim (gx X n) w3 H3 S3∧
     Out (lcI g1 t1 me d (Za1 env2 vs1) it m (i+1) S3) (fun _ S2=>∀w2 H2,w3.Le w2→Zag H3 H2→Sim (gx X n) w2 H2 S2→K' H2) (fun _ _=>True),fun H3 z=>⟨m,Yaq m,z⟩,fun y H2 hy=> ?_⟩
    obtain⟨w2,l2,k2,s2,r2⟩:=z3 y H2 hy
    have fm2:=base.mono (l'.trans l2) (k'.trans k2)
    refine⟨w2,S',Za1 env2 vs1,x,s2,fm2.env,r2, ?_⟩
    cases hgx:g1 x (Za1 env2 vs1) S' with
    | nx env3 S2=>
     rw [hgx]at h'
     intro w3 H3 σ3 l3 k3 s3 e3 o3
     refine⟨?_, ?_⟩
     ·rw [Zbr o3]
      exact Zbr (ZbE σ2 _ _ fun _ z=>z)
     refine⟨w3,S2,env3,s3,⟨e3,Ycq⟩, ?_⟩
     simp only at h'
     cases htx:t1 env3 S2 with
     | bad=>rw [htx]at h'; exact h'.elim
     | exc x S3=>rw [htx]at h'; exact h'.elim
     | ok b S3=>
      rw [htx]at h'
      intro w4 H4 l4 k4 s4
      cases b with
      | false=>
       simp only [YaR,if_false]
       exact⟨w4,S3,(l'.trans l2).trans (l3.trans l4),(k'.trans k2).trans (k3.trans k4),s4,h'.imp (fun _ _ z w5 H5 l5 k5 s5=>z w5 H5 ((l2.trans (l3.trans l4)).trans l5) ((k2.trans (k3.trans k4)).trans k5) s5) fun _ _ z=>z⟩
      | true=>
       simp only [if_true]
       refine⟨w4,S3,env3,s4,⟨e3.mono l4 k4,Ycq⟩, ?_⟩
       simp only at h'
       cases hex:me env3 S3 with
       | bad=>rw [hex]at h'; exact h'.elim
       | exc x S3=>rw [hex]at h'; exact h'.elim
       | ok y S4=>
        rw [hex]at h'
        intro w5 H5 v l5 k5 s5 r5
        simp only at h'
        have lall:wb.Le w5:=((l'.trans l2).trans (l3.trans l4)).trans l5
        have kall:Zag Hb H5:=((k'.trans k2).trans (k3.trans k4)).trans k5
        have a5:w5.at_ d=D:=((lb0.trans lall).2 _ nD).trans aD
        split at h'
        ·rename_i acc eacc
         split at h'
         ·rename_i hlt
          obtain⟨ys,hl,rs⟩:=s5.obj _ _ eacc
          rw [a5]at hl
          obtain⟨kk,sk⟩:=s5.setL eacc (rs.append (YcH r5))
          rw [a5]at kk sk
          refine⟨ys,hl,by rw [rs.len]; exact hlt,w5,_,lall,kall.trans kk,sk,h'.imp (fun _ _ z w6 H6 l6 k6 s6=>z w6 H6 (((l2.trans (l3.trans l4)).trans l5).trans l6) ((((k2.trans (k3.trans k4)).trans k5).trans kk).trans k6) s6) fun _ _ z=>z⟩
         ·exact h'.elim
        ·exact h'.elim
    | exc x env2 S2=>rw [hgx]at h'; exact h'.elim
    | bad=>rw [hgx]at h'; exact h'.elim
    | rt v S2=>rw [hgx]at h'; exact h'.elim
    | bk env2 S2=>rw [hgx]at h'; exact h'.elim
    | ct env2 S2=>rw [hgx]at h'; exact h'.elim
def cI (g:G) (xh:Xh) (W:WX) (m:IM):TI:=fun σ H R=>∃w S env,Sim g w H S∧Fm g xh w H env σ∧Out (m env S) (KI g w H R) (KX g w H fun cls d H'=>W cls d σ H')
theorem RI.pi {tg it:Expr} {m:IM} (h:RI X n xh W tg it m):PI X tg it (cI (gx X n) xh W m):=by
 obtain⟨t,p,c⟩:=h.ex
 exact⟨fun pins s σ H R I ⟨w,S,env,h1,h2,h3⟩=>p.run pins s σ H R I (c σ H w S env R h1 h2 h3)⟩
structure Zms (X:Cx) (n:Nm) (xh:Xh) (W:WX) (elt tg iter:Expr) (ifs:List Expr) (tg1 iter1:Expr) (ifs1:List Expr) (scope:Scope) (own:List (Str × Nat)) (vs1:List Nat) (m:EM):Prop where
 calm:X.calm=true
 nd:X.N.Nodup
 ok:BlkOk X.N X.env.scope scope own
 hv:∀i∈vs1,i∈own.map (·.2)
 fold:∀x,foldedSetIterable iter X.env x=pure x
 fold1:∀env x,foldedSetIterable iter1 env x=pure x
 ex:∃(wi:TI) (g:TG) (tt:TT) (wi1:TI) (g1:TG) (tt1:TT) (te:TE),PI X tg iter wi∧(∀(s:Shared) (H:Hp) (C:Addr) (cl:List (Str × Addr)) (fp:List Addr),PG (X.blk s H scope (compEnvC scope cl C X.env) fp) tg g)∧(∀(s:Shared) (H:Hp) (C:Addr) (cl:List (Str × Addr)) (fp:List Addr),PTs (X.blk s H scope (compEnvC scope cl C X.env) fp) ifs tt)∧
  (∀(s:Shared) (H:Hp) (C:Addr) (cl:List (Str × Addr)) (fp:List Addr),PI (X.blk s H scope (compEnvC scope cl C X.env) fp) tg1 iter1 wi1)∧(∀(s:Shared) (H:Hp) (C:Addr) (cl:List (Str × Addr)) (fp:List Addr),PG (X.blk s H scope (compEnvC scope cl C X.env) fp) tg1 g1)∧(∀(s:Shared) (H:Hp) (C:Addr) (cl:List (Str × Addr)) (fp:List Addr),PTs (X.blk s H scope (compEnvC scope cl C X.env) fp) ifs1 tt1)∧
  (∀(s:Shared) (H:Hp) (C:Addr) (cl:List (Str × Addr)) (fp:List Addr),PE (X.blk s H scope (compEnvC scope cl C X.env) fp) elt te)∧
  ∀(σ:L2.St) (H:Hp) (w:Wd) (S:Zaa) (env:En) (Q:VK),Sim (gx X n) w H S→Fm (gx X n) xh w H env σ→Out (m env S) (KV (gx X n) w H Q) (KX (gx X n) w H fun cls d H'=>W cls d σ H')→tLc2 wi g tt wi1 g1 tt1 te (own.map (·.2)) vs1 σ H Q
theorem Zms.mk' {elt tg iter tg1 iter1:Expr} {ifs ifs1:List Expr} {scope:Scope} {own:List (Str × Nat)} {mi mi1:IM} {mg g1:GM} {mt t1:TM} {me:EM} {vs vs1:List Nat} {k:Nat} {gd:Bool} (C:Cok X W k gd) (hi:RI X n xh W tg iter mi) (ok:BlkOk X.N X.env.scope scope own) (hvs:own.map (·.2)=vs) (hv1:∀i∈vs1,i∈vs)
  (hg:∀(s:Shared) (H:Hp) (C:Addr) (cl:List (Str × Addr)) (fp:List Addr),RG (X.blk s H scope (compEnvC scope cl C X.env) fp) n Wno vs tg mg)
  (ht:∀(s:Shared) (H:Hp) (C:Addr) (cl:List (Str × Addr)) (fp:List Addr),Cok (X.blk s H scope (compEnvC scope cl C X.env) fp) Wno k gd→RTs (X.blk s H scope (compEnvC scope cl C X.env) fp) n none Wno ifs mt)
  (hi1:∀(s:Shared) (H:Hp) (C:Addr) (cl:List (Str × Addr)) (fp:List Addr),Cok (X.blk s H scope (compEnvC scope cl C X.env) fp) Wno k gd→RI (X.blk s H scope (compEnvC scope cl C X.env) fp) n none Wno tg1 iter1 mi1)
  (hg1:∀(s:Shared) (H:Hp) (C:Addr) (cl:List (Str × Addr)) (fp:List Addr),RG (X.blk s H scope (compEnvC scope cl C X.env) fp) n Wno vs1 tg1 g1)
  (ht1:∀(s:Shared) (H:Hp) (C:Addr) (cl:List (Str × Addr)) (fp:List Addr),Cok (X.blk s H scope (compEnvC scope cl C X.env) fp) Wno k gd→RTs (X.blk s H scope (compEnvC scope cl C X.env) fp) n none Wno ifs1 t1)
  (he:∀(s:Shared) (H:Hp) (C:Addr) (cl:List (Str × Addr)) (fp:List Addr),Cok (X.blk s H scope (compEnvC scope cl C X.env) fp) Wno k gd→RE (X.blk s H scope (compEnvC scope cl C X.env) fp) n none Wno elt me)
  (hs:∀x,foldedSetIterable iter X.env x=pure x:=by intro _; rfl) (hs1:∀env x,foldedSetIterable iter1 env x=pure x:=by intro _ _; rfl):Zms X n xh W elt tg iter ifs tg1 iter1 ifs1 scope own vs1 (Zo3 mi mg mt mi1 g1 t1 me vs vs1):=by
 subst hvs
 obtain⟨ti,pi,ci⟩:=hi.ex
 refine⟨C.calm,C.nd,ok,hv1,hs,hs1,ti,cG (gx X n) Wno (own.map (·.2)) mg,cTs (gx X n) none Wno mt,cI (gx X n) none Wno mi1,cG (gx X n) Wno vs1 g1,cTs (gx X n) none Wno t1,cE (gx X n) none Wno me,pi,fun s H c cl fp=>(hg s H c cl fp).pg,fun s H c cl fp=>(ht s H c cl fp (C.blk s H scope _ fp)).pts,
  fun s H c cl fp=>(hi1 s H c cl fp (C.blk s H scope _ fp)).pi,fun s H c cl fp=>(hg1 s H c cl fp).pg,fun s H c cl fp=>(ht1 s H c cl fp (C.blk s H scope _ fp)).pts,fun s H c cl fp=>(he s H c cl fp (C.blk s H scope _ fp)).pe,fun σ H w S env Q s fm h=> ?_⟩
 have tm1:∀x env S,Zec (g1 x env S):=by
  have z:=fun s H c cl fp=>(hg1 s H c cl fp).tm
  exact z X.s_0 X.H_0 0 [] []
 refine ci σ H w S env _ s fm ((Yb5 h).imp (fun p S1 h1 w1 H1 J l1 k1 s1 hJ=> ?_) fun _ _ z=>z)
 intro D hD
 have kD:Zag H1 (upd H1 D (.lst [])):=Ycs hD
 have sD:Sim (gx X n) (w1.push D) (upd H1 D (.lst [])) (S1++[.lst []]):=s1.new kD hD (fun b u e=>ZaG hD b u e) ⟨[],upd_same,YcA⟩
 have lD:=w1.le_push D
 have nD:S1.length<(w1.push D).n:=by rw [s1.len]; exact Yaq _
 have aD:(w1.push D).at_ S1.length=D:=by rw [s1.len]; exact w1.push_at D
 have h2:=Zgh (D:=D) nD aD (h1.imp (K':=KV (gx X n) (w1.push D) (upd H1 D (.lst [])) Q) (E':=fun _ _=>True) (fun _ _ z=>Yc1 (l1.trans lD) (k1.trans kD) z) fun _ _ _=>trivial)
 have base:Fm (gx X n) none (w1.push D) (upd H1 D (.lst [])) (Za1 env (own.map (·.2))) (L2.wipe σ (own.map (·.2))):=⟨((fm.env.mono l1 k1).mono lD kD).wipe _,Ycq⟩
 refine⟨fun i m H'=>∃w' S',(w1.push D).Le w'∧Zag (upd H1 D (.lst [])) H'∧Sim (gx X n) w' H' S'∧
  Out (Zlx mg mt mi1 g1 t1 me S1.length (Za1 env (own.map (·.2))) vs1 p.2 m i S') (fun _ S2=>∀w2 H2,w'.Le w2→Zag H' H2→Sim (gx X n) w2 H2 S2→Q (.ref D) H2) (fun _ _=>True),
  ⟨p.1,w1.push D,_,Wd.Le.refl _,Yb9 _,sD,h2⟩, ?_⟩
 rintro i m H' ⟨w',S',l',k',s',h'⟩
 cases m with
 | zero=>exact h'.elim
 | succ m=>
  unfold Zlx at h'
  obtain⟨z1,z2⟩:=hJ i w' H' S' (lD.trans l') (kD.trans k') s'
  cases q:p.2 i S' with
  | none=>rw [q]at h'; exact h'.elim
  | some o=>
   rw [q]at h'
   cases o with
   | none=>exact .inl ⟨z1 q,h' w' H' (Wd.Le.refl _) (Yb9 _) s'⟩
   | some x=>
    obtain⟨go,z3⟩:=z2 x q
    simp only at h'
    refine .inr ⟨go,fun H3=>∃w3 S3,(w1.push D).Le w3∧Zag (upd H1 D (.lst [])) H3∧Sim (gx X n) w3 H3 S3∧
     Out (Zlx mg mt mi1 g1 t1 me S1.length (Za1 env (own.map (·.2))) vs1 p.2 m (i+1) S3) (fun _ S2=>∀w2 H2,w3.Le w2→Zag H3 H2→Sim (gx X n) w2 H2 S2→Q (.ref D) H2) (fun _ _=>True),fun H3 z=>⟨m,Yaq m,z⟩,fun y H2 hy=> ?_⟩
    obtain⟨w2,l2,k2,s2,r2⟩:=z3 y H2 hy
    have fm2:=base.mono (l'.trans l2) (k'.trans k2)
    refine⟨w2,S',Za1 env (own.map (·.2)),x,s2,fm2.env,r2, ?_⟩
    cases hgx:mg x (Za1 env (own.map (·.2))) S' with
    | nx env2 S2=>
     rw [hgx]at h'
     intro w3 H3 σ3 l3 k3 s3 e3 o3
     refine⟨?_, ?_⟩
     ·rw [Zbr o3]
      exact Zbr (ZbE σ _ _ fun _ z=>z)
     refine⟨w3,S2,env2,s3,⟨e3,Ycq⟩, ?_⟩
     simp only at h'
     cases htx:mt env2 S2 with
     | bad=>rw [htx]at h'; exact h'.elim
     | exc x S3=>rw [htx]at h'; exact h'.elim
     | ok b S3=>
      rw [htx]at h'
      intro w4 H4 l4 k4 s4
      cases b with
      | false=>
       simp only [YaR,if_false]
       exact⟨w4,S3,(l'.trans l2).trans (l3.trans l4),(k'.trans k2).trans (k3.trans k4),s4,h'.imp (fun _ _ z w5 H5 l5 k5 s5=>z w5 H5 ((l2.trans (l3.trans l4)).trans l5) ((k2.trans (k3.trans k4)).trans k5) s5) fun _ _ z=>z⟩
      | true=>
       simp only [if_true]
       refine⟨w4,S3,env2,s4,⟨e3.mono l4 k4,Ycq⟩, ?_⟩
       simp only at h'
       cases hix:mi1 env2 S3 with
       | bad=>rw [hix]at h'; exact h'.elim
       | exc x S3=>rw [hix]at h'; exact h'.elim
       | ok p1 S4=>
        rw [hix]at h'
        intro w5 H5 J1 l5 k5 s5 hJ1
        simp only at h'
        have lall:(w1.push D).Le w5:=((l'.trans l2).trans (l3.trans l4)).trans l5
        have kall:Zag (upd H1 D (.lst [])) H5:=((k'.trans k2).trans (k3.trans k4)).trans k5
        refine ZhS (n:=n) (X:=X) (k0:=p1.1) nD aD lall kall ⟨((e3.mono l4 k4).mono l5 k5).wipe _,Ycq⟩ tm1 hJ1 s5 (K':=_) ?_
        cases hl:lcI g1 t1 me S1.length (Za1 env2 vs1) p1.2 p1.1 0 S4 with
        | bad=>rw [hl]at h'; exact h'.elim
        | exc x S5=>rw [hl]at h'; exact h'.elim
        | ok u S5=>
         rw [hl]at h'
         intro w6 H6 l6 k6 s6
         exact⟨w6,S5,lall.trans l6,kall.trans k6,s6,h'.imp (fun _ _ z w7 H7 l7 k7 s7=>z w7 H7 ((((l2.trans (l3.trans l4)).trans l5).trans l6).trans l7) ((((k2.trans (k3.trans k4)).trans k5).trans k6).trans k7) s7) fun _ _ z=>z⟩
    | exc x env2 S2=>rw [hgx]at h'; exact h'.elim
    | bad=>rw [hgx]at h'; exact h'.elim
    | rt v S2=>rw [hgx]at h'; exact h'.elim
    | bk env2 S2=>rw [hgx]at h'; exact h'.elim
    | ct env2 S2=>rw [hgx]at h'; exact h'.elim
end
end MP
namespace GQ
open PySem PySem.Spec PyProof.Rows
open AutoSeq1 (wpAny_loadPart')
section
variable {prog:Program} {w:World} {A:Around} {R:Result→Shared→Prop}
end
section
variable {prog:Program} {w:World} {A:Around} {E:Value→Shared→Prop} {s:Shared}
end
end GQ
namespace MP
open PySem PySem.Spec PyProof.Rows L2
section
variable {X:Cx} {n:Nm} {xh:Xh} {W:WX} {gd:Bool} {k:Nat}
structure ZkK (X:Cx) (j:Nat) (A:Around):Prop where
 room:Room j A
 fr:A.frames=X.A.frames
 gs:A.guards=X.A.guards
theorem ZkK.in1 {j:Nat} {A:Around} (s:ZkK X (j+1) A):ZkK X j A.in1:=⟨s.room.in1,s.fr,s.gs⟩
theorem ZkK.mono {j m:Nat} {A:Around} (s:ZkK X m A) (h:j≤m):ZkK X j A:=⟨s.room.mono h,s.fr,s.gs⟩
def EqR (X:Cx) (n:Nm) (j:Nat) (ev:SV→SV→Zaa→Res Bool):Prop:=
  ∀(A:Around) (pins:List (Addr × Obj)) (s:Shared) (σ:L2.St) (H:Hp) (w:Wd) (S:Zaa) (a b:SV) (x y:V) (u v:Value) (Q:Bool→Hp→Prop),ZkK X j A→Inv X pins σ H s→RelV x u→RelV y v→Sim (gx X n) w H S→VR (gx X n) w H a x→VR (gx X n) w H b y→
    Out (ev a b S) (KB (gx X n) w H Q) (fun _ _=>False)→wpAny (model X.prog X.w) A (eqBool u v) (fun r s'=>∃H',Inv X pins σ H' s'∧Q r H') X.xe s
theorem EqR.mono {i j:Nat} {ev:SV→SV→Zaa→Res Bool} (h:EqR X n i ev) (l:i≤j):EqR X n j ev:=fun A pins s σ H w S a b x y u v Q sb=>h A pins s σ H w S a b x y u v Q (sb.mono l)
end
end MP
namespace MP
open PySem PySem.Spec PyProof.Rows L2
section
variable {X:Cx} {n:Nm}
theorem VRs.keys {g:G} {w:Wd} {H:Hp}:∀ks:List Key,VRs g w H (ks.map ZeO) (ks.map kV)
 | []=>rfl
 | k::ks=>⟨_,_,rfl,Zgt,VRs.keys ks⟩
end
end MP
namespace MP
open PySem PySem.Spec PyProof.Rows L2
section
variable {X:Cx} {n:Nm} {pins:List (Addr × Obj)} {σ:L2.St} {H:Hp} {s:Shared} {w:Wd} {S:Zaa}
end
end MP
namespace KSet
open PySem PySem.Spec PyProof.Rows L2
open MPT (so hp1)
section
variable {P:Program} {w:World} {A:Around} {E:Value→Shared→Prop} {s:Shared}
end
end KSet
namespace MP
open PySem PySem.Spec PyProof.Rows L2
section
variable {X:Cx} {n:Nm} {xh:Xh} {W:WX} {e:Expr} {me:EM} {pos p1 p2 pos2:Pos} {k:Nat} {gd:Bool}
end
end MP
namespace MP
open PySem PySem.Spec PyProof.Rows L2
def Zer:SV→List SV→M SV:=fun x xs S=>match x,xs with
 | .ref m,[]=>(match S[m]? with
  | some (.lst _)=> .ok .non (S.set m (.lst []))
  | _=> .bad)
 | _,_=> .bad
section
variable {X:Cx} {n:Nm}
theorem ZkJ.clear:ZkJ X n "list" "clear" Zer where
 pa:=F.plainAttrs_list
 nx:=fun x xs S=>by unfold Zer; split<;>(try split)<;>trivial
 ex:=by
  refine⟨_,_,F.slot_list_clear,F.type_list_clear,mt_clear,fun H w S x xs v vs Q sm r rs h=> ?_⟩
  unfold Zer at h
  split at h
  ·rename_i m
   have e0:vs=[]:=by
    cases vs with
    | nil=>rfl
    | cons a b=>simp [VRs]at rs
   subst e0
   split at h
   ·rename_i ys q
    obtain⟨us,hu,rv⟩:=sm.at_ q
    have rr:VRs (gx X n) w H [] []:=by simp [VRs]
    obtain⟨kk,s2⟩:=sm.setL q rr
    exact⟨_,us,r.r.2,rfl,hu,h w _ _ (Wd.Le.refl w) kk s2 (by simp [VR])⟩
   ·exact h.elim
  ·exact h.elim
end
end MP
namespace MP
open PySem PySem.Spec PyProof.Rows L2 LamX
def thM (cl:List ClM) (sl:Nat) (ret:SV) (th:Zaa→Res SV):Zaa→Res SV:=fun S=>match Zo1 (fun env S=>(th S).stm env fun _ S1=> .nx env S1) cl (Yaa sl none) S with
 | .rt a S'=> .ok a S'
 | .nx _ S'=> .ok ret S'
 | _=> .bad
section
variable {X:Cx} {pins:List (Addr × Obj)} {σ:L2.St} {H HZ:Hp} {s s1:Shared}
end
end MP
namespace MP
open PySem PySem.Spec PyProof.Rows L2 LamX
def LmF (gd:Bool) (P:Program) (w:World) (K:PySem.W.Frag) (mg:Str→Option Value) (base:Heap) (n:Nm) (k:Nat) (x:Str) (g:Addr) (mf:(Zaa→Res SV)→Zaa→Res SV):Prop:=
  ∃(fd:FuncData) (a qual:Str) (params:Arguments) (scope:Scope) (N:List Str) (h₀:ExceptHandler) (hds:List ExceptHandler) (cl:List ClM) (rs:Str) (j:Nat) (p1 p2 p3 p4 p5 p6:Pos),
    FunD K x qual params [.Try [.Expr (.Call (.Name a p1) [] [] p2) p3] (h₀::hds) [] [] p4, .Return (some (.Constant (.str rs) j p5)) p6] scope [] [] g fd∧FnScope N [a] scope∧L2.Binds K fd [a] []∧
    (∀(X':Cx) (W':WX) (cdv:Value) (A:Around) (outer:List Env) (s:Shared) (H:Hp) (E:XK),X'=cxOf (L2.CX P w) P w K mg base N qual scope g cdv A outer s H E→W'=(fun cls d _ H=>E cls d H)→Cok X' W' k gd→ZkH X' n (h₀::hds) cl)∧
    N[0]? =some a∧Vis scope a∧(a==("__debug__":Str))=false∧(a==("__classdict__":Str))=false∧mf=thM cl N.length (.str rs)
theorem LmF.mono {gd gd':Bool} {P:Program} {w:World} {K:PySem.W.Frag} {mg:Str→Option Value} {base:Heap} {n:Nm} {k k':Nat} {x:Str} {g:Addr} {mf:(Zaa→Res SV)→Zaa→Res SV} (h:LmF gd P w K mg base n k x g mf) (hk:k≤k') (hg:gd=true→gd'=true):LmF gd' P w K mg base n k' x g mf:=by
 obtain⟨fd,a,qual,params,scope,N,h₀,hds,cl,rs,j,p1,p2,p3,p4,p5,p6,F,Sg,hb,hh,r⟩:=h
 exact⟨fd,a,qual,params,scope,N,h₀,hds,cl,rs,j,p1,p2,p3,p4,p5,p6,F,Sg,hb,fun X' W' cdv A outer s H E h1 h2 C=>hh X' W' cdv A outer s H E h1 h2 ⟨C.tk,C.hp,C.calm,C.room.mono hk,fun z=>C.gs (hg z),C.nd⟩,r⟩
end MP
namespace KSet
open PySem PySem.Spec PyProof.Rows L2
section
variable {X:Cx}
end
end KSet
namespace MP
open PySem PySem.Spec PyProof.Rows L2 KSet
section
variable {g:G} {w:Wd} {H:Hp} {S:Zaa} {D:Addr} {od:Obj} {φ:Heap→Prop}
end
section
variable {X:Cx} {n:Nm} {xh:Xh} {W:WX} {iter elt tg:Expr} {ifs:List Expr} {scope:Scope} {own:List (Str × Nat)} {k:Nat} {gd:Bool} {me:EM} {mt:TM} {mg:GM} {pos pos2 p1:Pos}
end
end MP
namespace MS
open PySem PySem.Spec PyProof.Rows L2
open Sem (wp)
section
variable {prog:Program} {w:World} {A:Around} {R:Result→Shared→Prop} {E:Value→Shared→Prop}
end
end MS
namespace MP
open PySem PySem.Spec PyProof.Rows L2
section
variable {X:Cx} {n:Nm}
end
end MP
namespace MG
open PySem PySem.Spec PyProof.Rows L2 GenW
section
variable {M:Model} {A:Around} {R:GenEnd} {Y:Protocol} {n:Nat} {s₀:Shared} {c:Code} {fs:List Frame} {s:Shared} {env:Env}
 {K:Flow→Sem PySem.Fin} {H:Value→Sem PySem.Fin} {gd:Bool→Bool} {lv:List Value→List Value}
theorem ZkL {target iter:Expr} {body orelse:List Stmt} {pos:Pos} (hs:∀x,foldedSetIterable iter env x=pure x)
  (h:wpAny M (A.over c fs) (eval iter env) (fun v s1=>wpAny M (A.over c fs) (pyIter v) (fun itv s2=>∀p,Seg M A R Y n s₀ (.forLoop target itv body orelse env) (M.den (.forLoop target itv body orelse env))
   (.ret (fun r=>((match r with | .ok f=>(.pure f:Sem Flow) | .error e=> .raise e).onRaise fun(x:Value)=>do
    if(←field x 1)==Value.none then unsupported "frame.own-activation:exception-without-traceback"
    setFlight x env.frame).wrap K H gd lv) none (gd false) (lv []) c p []::fs) s2) (fun x s'=>Seg M A R Y n s₀ c (H x) fs s') s1) (fun x s'=>Seg M A R Y n s₀ c (H x) fs s') s):
  Seg M A R Y n s₀ c ((exec (.For target iter body orelse pos) env).wrap K H gd lv) fs s:=by
 show Seg M A R Y n s₀ c (.at pos fun _=>(eval iter env>>=fun v=>(foldedSetIterable iter env v>>=fun x=>(standAt iter.pos>>=fun _=>(holding [x] (pyIter x)>>=fun itv=>runOwn (.forLoop target itv body orelse env) env)))).wrap K H gd lv) fs s
 refine seg_at (seg_bind_wrap (wpAny_mono h (fun v s1 h1=> ?_) fun _ _ z=>z))
 rw [hs v]
 refine seg_bind_wrap (wpAny_pure ?_)
 refine seg_bind_wrap (wpAny_standAt ?_)
 refine seg_bind_wrap (wpAny_holding (wpAny_mono h1 (fun itv s2 h2=> ?_) fun _ _ z=>z))
 exact seg_call h2
end
section
variable {prog:Program} {w:World} {A:Around} {R:GenEnd} {Y:Protocol} {n:Nat} {s₀:Shared} {fs:List Frame} {s:Shared} {env:Env}
abbrev ZkM (env:Env):Value→Sem PySem.Fin:=fun e=>(do noteFrame e env; theTreesLotGoes e:Sem Unit).wrap (fun _=> .raise e) .raise id id
theorem ZeP {target:Expr} {it:Value} {body:List Stmt}
  (h:wpAny (model prog w) (A.over (.forLoop target it body [] env) fs) (pyNext it) (fun r s1=>match r with
    | none=>Seg (model prog w) A R Y n s₀ (.block [] env) ((model prog w).den (.block [] env)) fs s1
    | some v=>wpAny (model prog w) (A.over (.forLoop target it body [] env) fs) (letOwnedTupleGo target it v) (fun _ s2=>
      wpAny (model prog w) (A.over (.forLoop target it body [] env) fs) (assign target env v) (fun _ s3=>
       Seg (model prog w) A R Y n s₀ (.forLoop target it body [] env) ((execs body env).wrap (fun f=>match f with
        | .next | .cont=> .pure (.again (.forLoop target it body [] env))
        | .brk=> .pure (.done .next)
        | .ret v=> .pure (.done (.ret v))) (ZkM env) id id) fs s3)
       (fun x s'=>Seg (model prog w) A R Y n s₀ (.forLoop target it body [] env) (ZkM env x) fs s') s2)
      (fun x s'=>Seg (model prog w) A R Y n s₀ (.forLoop target it body [] env) (ZkM env x) fs s') s1)
   (fun x s'=>Seg (model prog w) A R Y n s₀ (.forLoop target it body [] env) (ZkM env x) fs s') s):
  Seg (model prog w) A R Y n s₀ (.forLoop target it body [] env) ((model prog w).den (.forLoop target it body [] env)) fs s:=by
 show Seg _ A R Y n s₀ _ ((forTurn target it body [] env).onRaise (fun x=>do noteFrame x env; theTreesLotGoes x)) fs s
 have hH:∀x,((do noteFrame x env; theTreesLotGoes x:Sem Unit).bind fun _=>(.raise x:Sem PySem.Fin))=ZkM env x:=fun x=>by rw [Sem.bind_eq_wrap]
 unfold forTurn
 rw [Sem.onRaise_eq_wrap]
 refine seg_bind_wrap (wpAny_standAt ?_)
 refine seg_bind_wrap (wpAny_onRaise (wpAny_mono h (fun r s1 h1=> ?_) fun x s' hx=>wpAny_standAt ?_))
 ·cases r with
  | none=>exact seg_again rfl h1
  | some v=>
   refine seg_bind_wrap (wpAny_mono h1 (fun _ s2 h2=> ?_) fun x s' hx=> ?_)
   ·refine seg_bind_wrap (wpAny_mono h2 (fun _ s3 h3=> ?_) fun x s' hx=> ?_)
    ·rw [Sem.bind_eq_wrap',Sem.wrap_wrap]
     rw [Sem.wrap_congr (execs body env) _ _ (K':=fun f=>match f with
      | .next | .cont=> .pure (.again (.forLoop target it body [] env))
      | .brk=> .pure (.done .next)
      | .ret v=> .pure (.done (.ret v))) (H':=ZkM env) (fun f=>by cases f<;>rfl) (fun e=>by first | exact hH e | rfl)]
     exact h3
    ·first | exact hx | (rw [hH x]; exact hx)
   ·first | exact hx | (rw [hH x]; exact hx)
 ·first | exact hx | (rw [hH x]; exact hx)
end
end MG
namespace MG
open PySem PySem.Spec PyProof.Rows L2 GenW
section
variable {X:Cx} {st:Stmt} {rest:List Stmt}
theorem GI.unpin {S:Addr} {ip pl:List (Addr × Obj)} {ys:List V} {σ:L2.St} {H:Hp} {s:Shared} (h:GI X S (ip++pl) ys σ H s):GI X S ip ys σ H s:=by
 obtain⟨acc,c,r,I⟩:=h
 refine⟨acc,c,r,I.pins_of fun p hp=>I.pin p (Ybb _ ?_)⟩
 rcases Yas.mp hp with hp | hp
 ·rw [hp]; exact Yav
 ·exact Yau _ (Ybc _ hp)
theorem GSP.unpin {S:Addr} {ip pl:List (Addr × Obj)} {D:GEnds} {ys:List V} {f:Flow} {s:Shared} (h:GSP X S (ip++pl) D ys f s):GSP X S ip D ys f s:=by
 cases f with
 | next=>obtain⟨σ,H,I,q⟩:=h; exact⟨σ,H,GI.unpin I,q⟩
 | brk=>obtain⟨σ,H,I,q⟩:=h; exact⟨σ,H,GI.unpin I,q⟩
 | cont=>obtain⟨σ,H,I,q⟩:=h; exact⟨σ,H,GI.unpin I,q⟩
 | ret u=>obtain⟨v,σ,H,I,r,q⟩:=h; exact⟨v,σ,H,GI.unpin I,r,q⟩
def Zoa (wi:TI) (g:TG) (tb:TGn):TGn:=fun D ys σ H=>wi σ H fun J H1=>∃W:Nat→Nat→List V→L2.St→Hp→Prop,(∃m,W 0 m ys σ H1)∧∀i m ys σ H,W i m ys σ H→
 (J.stop i H∧D.nx ys σ H)∨(J.go i H∧∃N:List V→L2.St→Hp→Prop,(∀ys' σ' H',N ys' σ' H'→∃m',m'<m∧W (i+1) m' ys' σ' H')∧∀x H',J.yld i H x H'→g x σ H' fun σ2 H2=>tb {D with nx:=N,ct:=N,bk:=D.nx} ys σ2 H2)
theorem Zmt {tg iter:Expr} {body:List Stmt} {wi:TI} {g:TG} {tb:TGn} {pos:Pos} (hp:PassesOwn (model X.prog X.w) X.A X.env X.xe) (hc:X.calm=true) (hi:PI X tg iter wi) (hg:PG X tg g) (hb:GSs X body tb)
  (hs:∀x,foldedSetIterable iter X.env x=pure x:=by intro _; rfl):GS X (.For tg iter body [] pos) (Zoa wi g tb):=by
 refine⟨fun A S ip R n ys s₀ c fs K J gd lv s σ H D gc hn k hI ht=> ?_⟩
 obtain⟨acc0,cc0,r0,I0⟩:=hI
 refine ZkL hs ?_
 rw [gc.over]
 refine wpAny_mono (hi.run _ s σ H _ I0 ht) (fun v s1 h1=>wpAny_mono h1 (fun itv s2 h2=> ?_) fun x s' hx=>k.exc n s₀ x s' hx) fun x s' hx=>k.exc n s₀ x s' hx
 obtain⟨it,fp,tn,J',H2,e,I2,T,st2,f2,W,⟨m0,w0⟩,turn⟩:=h2
 subst e
 intro p
 have fpS:∀b∈fp,b≠S:=fun b hb z=>by
  obtain⟨_,_,_,_,_,q⟩:=f2 b hb
  exact q (S,lstObj acc0 cc0) (Ybb _ Yav) z.symm
 have stat:∀{acc:Array Value} {cc:Nat} {H':Hp},(∀b∈fp,H' b=none)→∀b∈fp,FpOk X ((S,lstObj acc cc)::ip) H' b:=fun{acc cc H'} hn b hb=>by
  obtain⟨_,q1,q2,q3,q4,q5⟩:=f2 b hb
  refine⟨hn b hb,q1,q2,q3,q4,fun p hp=> ?_⟩
  rcases YaH.mp hp with hp | hp
  ·exact q5 p (Ybc _ hp)
  ·rcases Yas.mp hp with hp | hp
   ·rw [hp]; exact fun z=>fpS b hb z.symm
   ·exact q5 p (Ybb _ (Yau _ hp))
 have gl:=fun(kk:Result→Sem PySem.Fin)=>gc_loop (k:=kk) (c':= .forLoop tg (.ref it) body [] X.env) (l:=lv []) (kp:=[]) (p:=p) gc rfl rfl
 have loop:∀(m n i:Nat) (ys:List V) (s₀ s:Shared) (σ:L2.St) (H:Hp),n+ys.length=sizeLine→W i m ys σ H→GI X S ip ys σ H s→tn i s.heap→(∀b∈fp,H b=none)→
   Seg (model X.prog X.w) A R (GY X S) n s₀ (.forLoop tg (.ref it) body [] X.env) ((model X.prog X.w).den (.forLoop tg (.ref it) body [] X.env))
    (.ret (fun r=>((match r with | .ok f=>(.pure f:Sem Flow) | .error e=> .raise e).onRaise (cameBack X.env)).wrap K J gd lv) none (gd false) (lv []) c p []::fs) s:=by
  intro m
  induction m using Nat.strongRecOn with
  | ind m ih=>
   intro n i ys s₀ s σ H hn w hI st nfp
   have ee:∀(n:Nat) (s₀:Shared) (x:Value) (s':Shared),X.xe x s'→Seg (model X.prog X.w) A R (GY X S) n s₀ (.forLoop tg (.ref it) body [] X.env) (ZkM X.env x)
     (.ret (fun r=>((match r with | .ok f=>(.pure f:Sem Flow) | .error e=> .raise e).onRaise (cameBack X.env)).wrap K J gd lv) none (gd false) (lv []) c p []::fs) s':=fun n s₀ x s' hx=>by
    refine seg_wrap ?_
    rw [(gl _).over]
    refine wpAny_bind (wpAny_mono (hp x s' hx) (fun _ s'' hcb=>wpAny_theTreesLotGoes ?_) fun y s'' hcb=> ?_)
    ·exact seg_leaf (.error x) (seg_cameBack gc k hcb)
    ·exact seg_leaf (.error y) (seg_cameBack gc k hcb)
   refine ZeP ?_
   rw [(gl _).over]
   obtain⟨acc,cc,r,I⟩:=hI
   rcases turn i m ys σ H w with ⟨stop,qn⟩ | ⟨go,N,hN,step⟩
   ·refine wpAny_mono (T.done X rfl rfl rfl hc i _ s σ H X.xe I (stat nfp) st stop) (fun r4 s4 h4=> ?_) fun x s' hx=>ee n s₀ x s' hx
    obtain⟨hr,I4⟩:=h4
    subst hr
    exact seg_leaf (.ok .next) (k.ok n ys s₀ s4 .next hn ⟨σ,H,⟨acc,cc,r,I4⟩,qn⟩)
   ·refine wpAny_mono (T.item X rfl rfl rfl hc i _ s σ H X.xe I (stat nfp) st go) (fun r4 s4 h4=> ?_) fun x s' hx=>ee n s₀ x s' hx
    obtain⟨u,hr,h4⟩:=h4
    subst hr
    refine wpAny_mono h4 (fun _ s5 h5=> ?_) fun x s' hx=>ee n s₀ x s' hx
    obtain⟨x,H5,I5,r5,y5,st5,fr5⟩:=h5
    have I5':=I5.pinned (stat fr5) (T.obj _ _ st5)
    refine wpAny_mono (hg.run _ s5 σ H5 x u _ I5' r5 (step x H5 y5)) (fun _ s6 h6=> ?_) fun x s' hx=>ee n s₀ x s' hx
    obtain⟨σ6,H6,I6,q6⟩:=h6
    have G6:GI X S (ip++pinsAt fp s5.heap) ys σ6 H6 s6:=⟨acc,cc,r,I6⟩
    have gb:GC X S (ip++pinsAt fp s5.heap) A (.forLoop tg (.ref it) body [] X.env) (.ret (fun r=>((match r with | .ok f=>(.pure f:Sem Flow) | .error e=> .raise e).onRaise (cameBack X.env)).wrap K J gd lv) none (gd false) (lv []) c p []::fs) id:=
     ⟨gc.pn,fun q hq=>(YaH.mp hq).elim (gc.ip q) fun z=>fpS q.1 (of_pinsAt z).1,gc.apart,(gl _).over,(gl _).split,(gl _).guard,rfl⟩
    have again:∀{n':Nat} {ys':List V} {s₀' s3:Shared} {σ3:L2.St} {H3:Hp},n'+ys'.length=sizeLine→GI X S (ip++pinsAt fp s5.heap) ys' σ3 H3 s3→N ys' σ3 H3→
      Seg (model X.prog X.w) A R (GY X S) n' s₀' (.forLoop tg (.ref it) body [] X.env) (.pure (.again (.forLoop tg (.ref it) body [] X.env))) (.ret (fun r=>((match r with | .ok f=>(.pure f:Sem Flow) | .error e=> .raise e).onRaise (cameBack X.env)).wrap K J gd lv) none (gd false) (lv []) c p []::fs) s3:=fun{n' ys' s₀' s3 σ3 H3} hn' I3 n3=>by
     obtain⟨m',hm,w3⟩:=hN ys' σ3 H3 n3
     have pin3:∀b∈fp,∀o,s5.heap.get? b=some o→s3.heap.get? b=some o∧H3 b=none:=fun b hb o e=>by
      obtain⟨acc3,c3,_,J3⟩:=I3
      have z:=J3.pin (b,o) (Ybb _ (Yau _ (Ybb _ (mem_pinsAt hb e))))
      exact⟨z.1,z.2.1⟩
     refine seg_again rfl (ih m' hm n' (i+1) ys' s₀' s3 σ3 H3 hn' w3 (GI.unpin I3) (T.keep _ _ _ st5 fun b hb o e=>(pin3 b hb o e).1) fun b hb=> ?_)
     obtain⟨o,e,d⟩:=T.obj _ _ st5 b hb
     exact(pin3 b hb o e).2
    refine hb.run A S (ip++pinsAt fp s5.heap) R n ys s₀ _ _ _ _ id id s6 σ6 H6 {D with nx:=N,ct:=N,bk:=D.nx} gb hn ⟨fun n' ys' s₀' s3 f hn' hs=> ?_,fun n' s₀' x s3 hx=>ee n' s₀' x s3 hx⟩ G6 q6
    cases f with
    | next=>
     obtain⟨σ3,H3,I3,n3⟩:=hs
     exact again hn' I3 n3
    | cont=>
     obtain⟨σ3,H3,I3,n3⟩:=hs
     exact again hn' I3 n3
    | brk=>
     obtain⟨σ3,H3,I3,n3⟩:=hs
     exact seg_leaf (.ok .next) (k.ok n' ys' s₀' s3 .next hn' ⟨σ3,H3,GI.unpin I3,n3⟩)
    | ret v=>
     obtain⟨x3,σ3,H3,I3,r3,n3⟩:=hs
     exact seg_leaf (.ok (.ret v)) (k.ok n' ys' s₀' s3 (.ret v) hn' ⟨x3,σ3,H3,GI.unpin I3,r3,n3⟩)
 exact loop m0 n 0 ys s₀ s2 σ H2 hn w0 ⟨acc0,cc0,r0,I2⟩ st2 fun b hb=>(f2 b hb).1
end
end MG
namespace MP
open PySem PySem.Spec PyProof.Rows L2 MG
inductive Zmu where
 | nx (ys:List SV) (env:En) (S:Zaa)
 | bad
abbrev GSM:=List SV→En→Zaa→Zmu
def gPl (m:SM):GSM:=fun ys env S=>match m env S with
 | .nx env' S'=> .nx ys env' S'
 | _=> .bad
def gSq (a b:GSM):GSM:=fun ys env S=>match a ys env S with
 | .nx ys' env' S'=>b ys' env' S'
 | .bad=> .bad
def gNl:GSM:=fun ys env S=> .nx ys env S
def Zes (g:GM) (body:GSM) (I:IT):Nat→Nat→GSM
 | 0,_=>fun _ _ _=> .bad
 | k+1,i=>fun ys env S=>match I i S with
  | none=> .bad
  | some none=> .nx ys env S
  | some (some x)=>match g x env S with
   | .nx env2 S2=>(match body ys env2 S2 with
    | .nx ys' env3 S3=>Zes g body I k (i+1) ys' env3 S3
    | .bad=> .bad)
   | _=> .bad
def gFr (it:IM) (g:GM) (body:GSM):GSM:=fun ys env S=>match it env S with
 | .ok p S1=>Zes g body p.2 p.1 0 ys env S1
 | _=> .bad
def ZeQ (m:GSM):SM:=fun env S=>match m [] env S with
 | .nx ys _ S'=> .rt (.tup ys) S'
 | .bad=> .bad
def Zdh (g:G) (w:Wd) (H:Hp) (D:GEnds):Zmu→Prop
 | .nx ys env S=>∀w' H' σ' us,w.Le w'→Zag H H'→Sim g w' H' S→ZcC g w' H' env σ'→VRs g w' H' ys us→D.nx us σ' H'
 | .bad=>False
theorem Zdh.mono {g:G} {w w1:Wd} {H H1:Hp} {D:GEnds} {r:Zmu} (l:w.Le w1) (k:Zag H H1) (h:Zdh g w H D r):Zdh g w1 H1 D r:=by
 cases r with
 | nx ys env S=>exact fun w' H' σ' us l' k'=>h w' H' σ' us (l.trans l') (k.trans k')
 | bad=>exact h
structure RGS (X:Cx) (n:Nm) (st:Stmt) (m:GSM):Prop where
 ex:∃t:TGn,GS X st t∧∀(σ:L2.St) (H:Hp) (w:Wd) (S:Zaa) (env:En) (ys:List SV) (us:List V) (D:GEnds),Sim (gx X n) w H S→Fm (gx X n) none w H env σ→VRs (gx X n) w H ys us→Zdh (gx X n) w H D (m ys env S)→t D us σ H
structure ZkN (X:Cx) (n:Nm) (st:List Stmt) (m:GSM):Prop where
 ex:∃t:TGn,GSs X st t∧∀(σ:L2.St) (H:Hp) (w:Wd) (S:Zaa) (env:En) (ys:List SV) (us:List V) (D:GEnds),Sim (gx X n) w H S→Fm (gx X n) none w H env σ→VRs (gx X n) w H ys us→Zdh (gx X n) w H D (m ys env S)→t D us σ H
section
variable {X:Cx} {n:Nm} {W:WX} {st:Stmt} {rest a b:List Stmt} {e c tg it:Expr} {ms:SM} {me:EM} {mt:TM} {mg:GM} {mi:IM} {ma mb:GSM} {pos yp:Pos} {k:Nat} {gd:Bool}
theorem RGS.pl (h:RS X n none W st ms):RGS X n st (gPl ms):=by
 obtain⟨t,p,c⟩:=h.ex
 refine⟨tPlain t,gs_ps p,fun σ H w S env ys us D s fm r o=> ?_⟩
 refine c σ H w S env _ s fm ?_
 unfold gPl at o
 revert o
 cases ms env S with
 | nx env' S'=>exact fun o w' H' σ' l k s' e'=>o w' H' σ' us l k s' e' (r.mono l k)
 | _=>exact fun o=>o.elim
theorem ZkN.nil:ZkN X n [] gNl:=⟨_,gss_nil,fun σ H w S env ys us D s fm r o=>o w H σ us (Wd.Le.refl w) (Yb9 H) s fm.env r⟩
theorem ZkN.cons (h:RGS X n st ma) (h2:ZkN X n rest mb):ZkN X n (st::rest) (gSq ma mb):=by
 obtain⟨t,p,c⟩:=h.ex
 obtain⟨t2,p2,c2⟩:=h2.ex
 refine⟨_,gss_cons p p2,fun σ H w S env ys us D s fm r o=> ?_⟩
 refine c σ H w S env ys us _ s fm r ?_
 unfold gSq at o
 revert o
 cases ma ys env S with
 | nx ys' env' S'=>exact fun o w' H' σ' us' l k s' e' r'=>c2 σ' H' w' S' env' ys' us' D s' ⟨e',Ycq⟩ r' (Zdh.mono l k o)
 | bad=>exact fun o=>o.elim
theorem RGS.for_ {vs:List Nat} (C:Cok X W k gd) (hi:RI X n none W tg it mi) (hg:RG X n W vs tg mg) (hb:ZkN X n a ma) (hs:∀x,foldedSetIterable it X.env x=pure x:=by intro _; rfl):RGS X n (.For tg it a [] pos) (gFr mi mg ma):=by
 obtain⟨ti,pi,ci⟩:=hi.ex
 obtain⟨tm,tt,pg,cg⟩:=hg
 obtain⟨tb,pb,cb⟩:=hb.ex
 refine⟨_,Zmt C.hp C.calm pi pg pb hs,fun σ H w S env ys us D s fm r o=> ?_⟩
 refine ci σ H w S env _ s fm ?_
 unfold gFr at o
 revert o
 cases mi env S with
 | exc x S'=>exact fun o=>o.elim
 | bad=>exact fun o=>o.elim
 | ok p S1=>
  intro o w1 H1 J l1 k1 s1 hJ
  refine⟨fun i k us' σ' H'=>∃w' S' env' ys',w1.Le w'∧Zag H1 H'∧Sim (gx X n) w' H' S'∧Fm (gx X n) none w' H' env' σ'∧VRs (gx X n) w' H' ys' us'∧Zdh (gx X n) w' H' D (Zes mg ma p.2 k i ys' env' S'),
   ⟨p.1,w1,S1,env,ys,Wd.Le.refl w1,Yb9 H1,s1,fm.mono l1 k1,r.mono l1 k1,Zdh.mono l1 k1 o⟩, ?_⟩
  rintro i k us2 σ2 H2 ⟨w2,S2,env2,ys2,l2,k2,s2,fm2,r2,h2⟩
  cases k with
  | zero=>exact h2.elim
  | succ k=>
   unfold Zes at h2
   obtain⟨z1,z2⟩:=hJ i w2 H2 S2 l2 k2 s2
   cases q:p.2 i S2 with
   | none=>rw [q]at h2; exact h2.elim
   | some oo=>
    rw [q]at h2
    cases oo with
    | none=>exact .inl ⟨z1 q,h2 w2 H2 σ2 us2 (Wd.Le.refl _) (Yb9 _) s2 fm2.env r2⟩
    | some x=>
     obtain⟨go,z3⟩:=z2 x q
     simp only at h2
     refine .inr ⟨go,fun us' σ' H'=>∃w' S' env' ys',w1.Le w'∧Zag H1 H'∧Sim (gx X n) w' H' S'∧Fm (gx X n) none w' H' env' σ'∧VRs (gx X n) w' H' ys' us'∧Zdh (gx X n) w' H' D (Zes mg ma p.2 k (i+1) ys' env' S'),fun us' σ' H' z=>⟨k,Yaq k,z⟩,fun y H' hy=> ?_⟩
     obtain⟨w3,l3,k3,s3,r3⟩:=z3 y H' hy
     have h3:=h2
     refine cg σ2 H' w3 S2 env2 x y _ s3 (fm2.mono l3 k3).env r3 ?_
     revert h3
     cases mg x env2 S2 with
     | nx env3 S3=>
      intro h3 w4 H4 σ4 l4 k4 s4 e4 _
      simp only at h3
      refine cb σ4 H4 w4 S3 env3 ys2 us2 _ s4 ⟨e4,Ycq⟩ (r2.mono (l3.trans l4) (k3.trans k4)) ?_
      revert h3
      cases ma ys2 env3 S3 with
      | nx ys5 env5 S5=>exact fun h3 w5 H5 σ5 us5 l5 k5 s5 e5 r5=>⟨w5,S5,env5,ys5,(l2.trans l3).trans (l4.trans l5),(k2.trans k3).trans (k4.trans k5),s5,⟨e5,Ycq⟩,r5,Zdh.mono ((l3.trans l4).trans l5) ((k3.trans k4).trans k5) h3⟩
      | bad=>exact fun h3=>h3.elim
     | exc x env3 S3=>exact fun h3=>h3.elim
     | bad=>exact fun h3=>h3.elim
     | rt v S3=>exact fun h3=>h3.elim
     | bk env3 S3=>exact fun h3=>h3.elim
     | ct env3 S3=>exact fun h3=>h3.elim
end
def Zo4 (g:G) (ar:Nat) (m:List SV→M SV):SpG:=fun vs H Q _=>vs.length=ar∧∃w S xs,Sim g w H S∧VRs g w H xs vs∧Out (m xs S) (fun r S'=>∃ys,r= .tup ys∧∀w' H' us,w.Le w'→Zag H H'→Sim g w' H' S'→VRs g w' H' ys us→Q us H') (fun _ _=>False)
structure GFd (P:Program) (w:World) (K:PySem.W.Frag) (mg:Str→Option Value) (base:Heap) (n:Nm) (k:Nat) (f:Addr) (fd:FuncData) (ps:List Str) (m:List SV→M SV):Prop where
 fn:GFn P w K mg base k f fd ps (Zo4 ⟨K,n.cl,n.fn⟩ ps.length m)
 kp:PySem.W.keepIn K (.ref f)=true
 nx:∀(xs:List SV) (S:Zaa) (x:XC) (S':Zaa),m xs S≠ .exc x S'
 tp:∀(xs:List SV) (S S':Zaa) (r:SV),m xs S= .ok r S'→xs.length=ps.length∧∃ys,r= .tup ys
theorem Zet {sl:Nat} {ms:GSM} {xs:List SV} {S:Zaa}:run sl (ZeQ ms) xs S= .bad∨∃ys S',run sl (ZeQ ms) xs S= .ok (.tup ys) S':=by
 unfold run ZeQ
 cases ms [] (xs.map some++Yaa (sl - xs.length) none) S with
 | nx ys env S'=>exact .inr ⟨ys,S',rfl⟩
 | bad=>exact .inl rfl
theorem GFd.of {P:Program} {w:World} {K:PySem.W.Frag} {mg:Str→Option Value} {base:Heap} {n:Nm} {k:Nat} {f:Addr} {fd:FuncData} {ps:List Str} {x qual:Str} {params:Arguments} {body:List Stmt} {scope:Scope} {dvs:List V} {kws:List (Str × V)}
  {N:List Str} {sl:Nat} {ms:GSM} {m:List SV→M SV} (F:FunD K x qual params body scope dvs kws f fd) (S:GScope N ps scope) (hsl:N.length=sl) (hm:m=fun xs=>if xs.length=ps.length then run sl (ZeQ ms) xs else ZcK)
  (hb:∀(X:Cx) (W:WX) (cdv:Value) (A:Around) (outer:List Env) (s:Shared) (H:Hp) (E:XK) (pn:List (Addr × Obj)),X=gcxOf P w K mg base N qual scope f cdv A outer s H E pn→W=(fun cls d _ H=>E cls d H)→Cok X W k false→ZkN X n body ms):
  GFd P w K mg base n (k+1) f fd ps m:=by
 subst hm
 obtain⟨oc,od,dV,kV,doc,pm,an,cdv,ct,osl,rfl,lk,hcd,_,_⟩:=F.ex
 refine⟨gfn_of lk hcd S (fun vs H Q E h=>h.1) fun A outer s H vs Q E pn hr h=> ?_,F.kp,fun xs S x S' h=> ?_,fun xs S S' r h=> ?_⟩
 rotate_left
 ·split at h
  ·rcases Zet (sl:=N.length) (ms:=ms) (xs:=xs) (S:=S)with z | ⟨ys,S1,z⟩<;>rw [hsl]at z<;>rw [z]at h<;>cases h
  ·cases h
 ·split at h
  ·rename_i hl
   rcases Zet (sl:=N.length) (ms:=ms) (xs:=xs) (S:=S)with z | ⟨ys,S1,z⟩<;>rw [hsl]at z<;>rw [z]at h<;>cases h
   exact⟨hl,ys,rfl⟩
  ·cases h
 obtain⟨hl,wd,st,xs,sm,rs,o⟩:=h
 have hxs:xs.length=ps.length:=by rw [←rs.len]; exact hl
 simp only [hxs,if_true]at o
 have C:Cok (gcxOf P w K mg base N qual scope f cdv A outer s H E pn) (fun cls d _ H=>E cls d H) k false:=
  ⟨takes_gcx,owns_gcx,rfl,hr,(fun z=>nomatch z),S.nd⟩
 obtain⟨t,pt,ct⟩:=(hb _ _ cdv A outer s H E pn rfl rfl C).ex
 refine⟨t,pt,ct (L2.start N vs) H wd st _ [] [] _ sm ⟨Zee rs sl hsl,Ycq⟩ YcA ?_⟩
 unfold run ZeQ at o
 revert o
 cases ms [] (xs.map some++Yaa (sl - xs.length) none) st with
 | nx ys env S'=>
  intro o w' H' σ' us l k s e r
  obtain⟨ys',e1,q⟩:=o
  cases e1
  exact q w' H' us l k s r
 | bad=>exact fun o=>o.elim
section
variable {X:Cx} {n:Nm} {xh:Xh} {W:WX} {gd:Bool} {k j:Nat} {f:Addr} {fd:FuncData} {ps:List Str} {m m1:List SV→M SV} {e:Expr} {es:List Expr} {mr:AM} {pos p pos2 p1:Pos} {x:Str} {dxs:List SV}
end
end MP
namespace MP
open PySem PySem.Spec PyProof.Rows L2 MG
end MP
namespace L2
open PySem PySem.Spec PyProof.Rows
section
variable {X:Cx} {pins:List (Addr × Obj)} {σ:St} {H:Hp} {s:Shared} {d:Addr} {o:Obj}
theorem Inv.frzT2 {kvs:List (List Key × V)} (I:Inv X pins σ H s) (h:H d=some (.frz o (.dT kvs))):
  (d==sysModules)=false∧s.heap.get? d=some o∧o.ExactDict∧∃(es:Array DictEntry) (ep:Nat),o.data= .dict es ep∧es.size=kvs.length∧
   ∀(i:Nat) (k:List Key) (v:V),kvs[i]? =some (k,v)→∃(en:DictEntry) (q:Addr),es[i]? =some en∧en.key= .ref q∧H q=some (.tup (k.map kV))∧RelV v en.val:=by
 obtain⟨hd,z,hs,xs,pr,o',es,ep,ho,hx,hdt,he,_⟩:=I.hok d _ h
 rw [hd]at ho
 cases ho
 refine⟨hs,hd,hx,es,ep,hdt, ?_,fun i k v e=> ?_⟩
 ·have l1:es.size=xs.length:=size_of_entries he
  have l2:kvs.length=xs.length:=Paired.length pr
  omega
 ·obtain⟨b,hb,e1,e2,e3⟩:=paired_get pr e
  have q:=entry_at he i
  rw [hb]at q
  exact⟨_,b.2.1,q,rfl,e2,e3⟩
end
def Zob (d:Addr) (o:Obj) (kvs:List (List Key × V)):It:=
 ⟨fun i H=>H d=some (.frz o (.dT kvs))∧i<kvs.length,fun i H x H'=>H'=H∧∃k,kvs[i]? =some (k,x),fun i H=>H d=some (.frz o (.dT kvs))∧kvs.length≤i⟩
def Zoc (d:Addr) (o:Obj) (kvs:List (List Key × V)):It:=
 ⟨fun i H=>H d=some (.frz o (.dT kvs))∧i<kvs.length,fun i H x H'=>∃T k v q,kvs[i]? =some (k,v)∧x= .ref T∧H q=some (.tup (k.map kV))∧H T=none∧H'=upd H T (.tup [.ref q,v]),fun i H=>H d=some (.frz o (.dT kvs))∧kvs.length≤i⟩
section
variable {P:Program} {w:World} {K:PySem.W.Frag} {tg:Expr} {d:Addr} {o:Obj} {es:Array DictEntry} {ep:Nat}
theorem ZfL {kvs:List (List Key × V)} (it:Addr) (hod:o.data= .dict es ep):Turn P w K tg (Zob d o kvs) [it] it (fun i h=>h.IsValIter it d i kvs.length ep) where
 mem:=by simp
 obj:=fun i h st b hb=>by
  have e:b=it:=by simpa using hb
  subst e
  obtain⟨oi,e,c,dd⟩:=st
  exact⟨oi,e,fun v z=>by rw [dd]at z; cases z⟩
 keep:=fun i h h' st k=>st.at fun oi e=>k it (by simp) oi e
 item:=by
  intro X hP hw hK hc i pins s σ H E I hf st hg
  subst hP hw hK
  obtain⟨hd,hi⟩:=hg
  obtain⟨f0,f1,f2,f3,f4,f5⟩:=hf it (by simp)
  obtain⟨hs,hgd,hx,es',ep',hdt,hsz,ent⟩:=I.frzT2 hd
  obtain⟨rfl,rfl⟩:=dict_ep hod hdt
  obtain⟨⟨k,v⟩,hkv⟩:∃p,kvs[i]? =some p:=⟨kvs[i],YaY hi⟩
  obtain⟨en,q,hen,hkey,hq,rv⟩:=ent i k v hkv
  have hi':i<es'.size:=by omega
  have ee:es'[i]=en:=by rw [Ybd hi']at hen; exact Option.some.inj hen
  rw [←hsz]at st
  refine wpAny_pyNext_values_item_raw st ⟨o,hgd,hx,hod⟩ hi' fun h' st' sb=> ?_
  have I1:Inv X pins σ H {s with heap:=h'}:=I.turned (t':=s.toks) (fun b ob hb e=>(sb.2 b hb).trans e) f0 f1 f3 f4 f5
  obtain⟨oi,e,c,dd⟩:=id st'
  refine⟨_,rfl,go_of (s:={s with heap:=h'}) e c dd (by decide) ⟨v,H,I1,by rw [ee]; exact rv,⟨rfl,k,hkv⟩, ?_,fun b hb=>(hf b hb).1⟩⟩
  show h'.IsValIter it d (i+1) kvs.length _
  rw [←hsz]
  exact st'
 done:=by
  intro X hP hw hK hc i pins s σ H E I hf st hg
  subst hP hw hK
  obtain⟨hd,hi⟩:=hg
  obtain⟨f0,f1,f2,f3,f4,f5⟩:=hf it (by simp)
  obtain⟨hs,hgd,hx,es',ep',hdt,hsz,ent⟩:=I.frzT2 hd
  obtain⟨rfl,rfl⟩:=dict_ep hod hdt
  rw [←hsz]at st
  exact wpAny_pyNext_values_end_raw (I.ok.hd hc) st ⟨o,hgd,hx,hod⟩ (by omega) fun h' eb=>⟨rfl,I.turned (t':=s.toks) (fun b ob hb e=>eb b ob hb e) f0 f1 f3 f4 f5⟩
 self:=fun A i s Q E st h=>wpAny_pyIter_valiter st h
theorem ZeR {kvs:List (List Key × V)} {elts:List Expr} {kk:Nat} {tpos:Pos} (it:Addr) (hod:o.data= .dict es ep):
  Turn P w K (.Tuple elts kk tpos) (Zoc d o kvs) [it] it (fun i h=>∃ok ov,IsItemIter h it d i kvs.length ep ok ov) where
 mem:=by simp
 obj:=fun i h st b hb=>by
  have e:b=it:=by simpa using hb
  subst e
  obtain⟨ok,ov,e⟩:=st
  exact⟨_,e,fun v z=>nomatch z⟩
 keep:=fun i h h' st k=>let ⟨ok,ov,e⟩:=st; ⟨ok,ov,k it (by simp) _ e⟩
 item:=by
  intro X hP hw hK hc i pins s σ H E I hf st hg
  subst hP hw hK
  obtain⟨hd,hi⟩:=hg
  obtain⟨hs,hgd,hx,es',ep',hdt,hsz,ent⟩:=I.frzT2 hd
  obtain⟨rfl,rfl⟩:=dict_ep hod hdt
  obtain⟨⟨k,v⟩,hkv⟩:∃p,kvs[i]? =some p:=⟨kvs[i],YaY hi⟩
  obtain⟨en,q,hen,hkey,hq,rv⟩:=ent i k v hkv
  have hi':i<es'.size:=by omega
  have ee:es'[i]=en:=by rw [Ybd hi']at hen; exact Option.some.inj hen
  obtain⟨ok,ov,he⟩:=st
  rw [←hsz]at he
  have hlt:it<s.heap.objs.size:=Heap.lt_size he
  refine wpAny_pyNext_items_item_raw he ⟨o,hgd,hx,hod⟩ hi' fun h' ho hT hz hk=> ?_
  refine⟨_,rfl,wpAny_letOwnedTupleGo_items (s:={s with heap:=h'}) ho fun h'' he' sb=> ?_⟩
  have hT2:h''.get? s.heap.objs.size=some {cls:= .type "tuple",data:= .seq #[es'[i].key,es'[i].val]}:=(sb.2 _ (Nat.ne_of_gt hlt)).trans hT
  have new:ObjOk X.prog X.w (upd H s.heap.objs.size (.tup [.ref q,v])) h'' s.heap.objs.size (.tup [.ref q,v]):=
   ⟨by show 2≤sizeLine; decide,[es'[i].key,es'[i].val], .cons (by rw [ee]; exact hkey) (.cons (by rw [ee]; exact rv) .nil),⟨_,hT2,rfl,_,rfl⟩⟩
  have I1:Inv X pins σ (upd H s.heap.objs.size (.tup [.ref q,v])) {s with heap:=h''}:=
   I.turnedNew (t':=s.toks) (ch:=[it]) (fun b ob hb e=>(sb.2 b (by simpa using hb)).trans (hk b ob (by simpa using hb) e)) hf (Yab _) new
  refine⟨.ref s.heap.objs.size,_,I1,rfl,⟨_,k,v,q,hkv,rfl,hq,I.hok.fresh (Yab _),rfl⟩,⟨es'[i].key,es'[i].val, ?_⟩,fun b hb=> ?_⟩
  ·rw [←hsz]; exact he'
  ·have e:b=it:=by simpa using hb
   rw [e,upd_ne (Yag hlt)]
   exact(hf it (by simp)).1
 done:=by
  intro X hP hw hK hc i pins s σ H E I hf st hg
  subst hP hw hK
  obtain⟨hd,hi⟩:=hg
  obtain⟨f0,f1,f2,f3,f4,f5⟩:=hf it (by simp)
  obtain⟨hs,hgd,hx,es',ep',hdt,hsz,ent⟩:=I.frzT2 hd
  obtain⟨rfl,rfl⟩:=dict_ep hod hdt
  obtain⟨ok,ov,he⟩:=st
  rw [←hsz]at he
  exact wpAny_pyNext_items_end_raw (I.ok.hd hc) he ⟨o,hgd,hx,hod⟩ (by omega) fun h' eb=>⟨rfl,I.turned (t':=s.toks) (fun b ob hb e=>eb b ob hb e) f0 f1 f3 f4 f5⟩
 self:=fun A i s Q E st h=>let ⟨_,_,e⟩:=st; PySem.W.kcp_self e h
end
def Zmv (td:TE):TI:=fun σ H R=>td σ H fun x H1=>∃d o kvs,x= .ref d∧H1 d=some (.frz o (.dT kvs))∧R (Itkt d o kvs) H1
def Zmw (td:TE):TI:=fun σ H R=>td σ H fun x H1=>∃d o kvs,x= .ref d∧H1 d=some (.frz o (.dT kvs))∧R (Zob d o kvs) H1
def ZkO (td:TE):TI:=fun σ H R=>td σ H fun x H1=>∃d o kvs,x= .ref d∧H1 d=some (.frz o (.dT kvs))∧R (Zoc d o kvs) H1
section
variable {X:Cx} {tg e:Expr} {td:TE} {apos cpos:Pos}
theorem ZhT (he:PE X e td):PI X tg e (Zmv td):=by
 refine⟨fun pins s σ H R I h=> ?_⟩
 refine thn (he.run pins s σ H _ I h) fun u s1 ⟨x,H1,I1,rx,d,o,kvs,ex,hd,q⟩=> ?_
 subst ex
 obtain rfl:u=Value.ref d:=rx
 obtain⟨hs,hgd,hx,es,ep,hdt,hsz,ent⟩:=I1.frzT hd
 refine iter_keys hs hgd hx hdt (pi_one (tk:=s1.toks) I1 _ (turn_keysT _ hdt) ⟨_,Heap.get?_push_size _ rfl,rfl, ?_⟩ q)
 rw [hsz]<;>rfl
theorem ZfM (he:PE X e td) (hbase:attributeBase e "values" X.env (eval e X.env)=eval e X.env:=by rfl) (hline:(apos.endLine==cpos.line)=true:=by rfl):PI X tg (.Call (.Attribute e "values" apos) [] [] cpos) (Zmw td):=by
 refine⟨fun pins s σ H R I h=> ?_⟩
 refine wpAny_Call_method (T:= "dict") (id:= "dict.values") hbase rfl hline F.plainAttrs_dict F.slot_dict_values F.type_dict_values (thn (he.run pins s σ H _ I h) fun u s1 ⟨x,H1,I1,rx,d,o,kvs,ex,hd,q⟩=> ?_)
 subst ex
 obtain rfl:u=Value.ref d:=rx
 obtain⟨hs,hgd,hx,es,ep,hdt,hsz,ent⟩:=I1.frzT2 hd
 have rw_:s1.heap.DictRaw d es ep:=⟨o,hgd,hx,hdt⟩
 refine⟨rw_.typeIs,fun a z=>by cases z; exact⟨o,hgd,hx.2.1⟩, ?_⟩
 have I2:Inv X pins σ H1 {s1 with heap:=s1.heap.push {cls:= .type "dict_values",data:= .fields #[.ref d]}}:=I1.kept (t':=s1.toks) fun b ob q=>Heap.get?_push_of_some _ q
 have fin:wpAny (model X.prog X.w) X.A (pyIter (.ref s1.heap.objs.size)) (PIE X pins σ tg R) X.xe {s1 with heap:=s1.heap.push {cls:= .type "dict_values",data:= .fields #[.ref d]}}:=by
  refine wpAny_pyIter_values_raw (d:=d) ⟨_,Heap.get?_push_size _ rfl,rfl,rfl⟩ (rw_.at fun o q=>Heap.get?_push_of_some _ q) (pi_one (tk:=s1.toks) I2 _ (ZfL _ hdt) ⟨_,Heap.get?_push_size _ rfl,rfl, ?_⟩ q)
  rw [hsz]<;>rfl
 show wpAny _ _ (callWith cpos (.builtin "dict.values") [.ref d] [] []) _ X.xe s1
 exact method_meetsIn F.slot_dict_values F.entry_dict_values rfl (PySem.evalArgs_none ⟨rfl,rw_.typeIs,F.args_dict_values_1 _,_,meets_dict_values_raw d hs,⟨es,ep,rw_⟩,fin⟩)
theorem Zgy {elts:List Expr} {kk:Nat} {tpos:Pos} (he:PE X e td) (hbase:attributeBase e "items" X.env (eval e X.env)=eval e X.env:=by rfl) (hline:(apos.endLine==cpos.line)=true:=by rfl):
  PI X (.Tuple elts kk tpos) (.Call (.Attribute e "items" apos) [] [] cpos) (ZkO td):=by
 refine⟨fun pins s σ H R I h=> ?_⟩
 refine wpAny_Call_method (T:= "dict") (id:= "dict.items") hbase rfl hline F.plainAttrs_dict F.slot_dict_items F.type_dict_items (thn (he.run pins s σ H _ I h) fun u s1 ⟨x,H1,I1,rx,d,o,kvs,ex,hd,q⟩=> ?_)
 subst ex
 obtain rfl:u=Value.ref d:=rx
 obtain⟨hs,hgd,hx,es,ep,hdt,hsz,ent⟩:=I1.frzT2 hd
 have rw_:s1.heap.DictRaw d es ep:=⟨o,hgd,hx,hdt⟩
 refine⟨rw_.typeIs,fun a z=>by cases z; exact⟨o,hgd,hx.2.1⟩, ?_⟩
 have I2:Inv X pins σ H1 {s1 with heap:=s1.heap.push {cls:= .type "dict_items",data:= .fields #[.ref d]}}:=I1.kept (t':=s1.toks) fun b ob q=>Heap.get?_push_of_some _ q
 have fin:wpAny (model X.prog X.w) X.A (pyIter (.ref s1.heap.objs.size)) (PIE X pins σ (.Tuple elts kk tpos) R) X.xe {s1 with heap:=s1.heap.push {cls:= .type "dict_items",data:= .fields #[.ref d]}}:=by
  refine wpAny_pyIter_items_raw (d:=d) ⟨_,Heap.get?_push_size _ rfl,rfl,rfl⟩ (rw_.at fun o q=>Heap.get?_push_of_some _ q) (pi_one (tk:=s1.toks) I2 _ (ZeR _ hdt) ⟨.none, .none, ?_⟩ q)
  rw [←hsz]
  exact Heap.get?_push_size _ rfl
 show wpAny _ _ (callWith cpos (.builtin "dict.items") [.ref d] [] []) _ X.xe s1
 exact method_meetsIn F.slot_dict_items F.entry_dict_items rfl (PySem.evalArgs_none ⟨rfl,rw_.typeIs,F.args_dict_items_1 _,_,meets_dict_items_raw d hs,⟨es,ep,rw_⟩,fin⟩)
end
end L2
namespace MP
open PySem PySem.Spec PyProof.Rows L2
def Zly:List SV→Option (List Key)
 | []=>some []
 | x::r=>match Zlw x,Zly r with
  | some k,some ks=>some (k::ks)
  | _,_=>none
def ZkP:SV→Option (List Key)
 | .tup xs=>Zly xs
 | _=>none
def anyT (S:Zaa) (m:Nat):Option (List (List Key × SV)):=match S[m]? with
 | some (.dT kvs)=>some kvs
 | some (.dG kvs)=>some kvs
 | _=>none
def valT {α:Type} (kvs:List (List Key × α)) (k:List Key):Option α:=(kvs.find? fun kv=>decide (kv.1=k)).map (·.2)
def putT {α:Type} (kvs:List (List Key × α)) (k:List Key) (v:α):List (List Key × α):=if(kvs.any fun kv=>decide (kv.1=k))=true then kvs.map (fun kv=>if kv.1=k then (kv.1,v)else kv)else kvs++[(k,v)]
def isT (x:SV) (S:Zaa):Bool:=match x with
 | .ref n=>(anyT S n).isSome
 | _=>false
def Zfj:SV→SV→SV→M Unit:=fun x y v S=>match x with
 | .ref m=>(match S[m]?,ZkP y with
  | some (.dT kvs),some k=>if kvs.length<sizeLine then .ok () (S.set m (.dT (putT kvs k v)))else .bad
  | _,_=> .bad)
 | _=> .bad
def Zgz:List SV→M SV:=fun xs S=>match xs with
 | [.ref m]=>(match anyT S m with
  | some kvs=> .ok (.int kvs.length) S
  | none=> .bad)
 | _=> .bad
def ZgA (m:Nat):IT:=fun i S=>match S[m]? with
 | some (.dG kvs)=>some (kvs[i]?.map fun p=>SV.tup (p.1.map ZeO))
 | _=>none
def Zmx (m:Nat):IT:=fun i S=>match S[m]? with
 | some (.dG kvs)=>some (kvs[i]?.map fun p=>p.2)
 | _=>none
def Zmy (m:Nat):IT:=fun i S=>match S[m]? with
 | some (.dG kvs)=>some (kvs[i]?.map fun p=>SV.tup [SV.tup (p.1.map ZeO),p.2])
 | _=>none
def ZbK (I:Nat→IT) (e:EM):IM:=fun env S=>(e env S).bind fun v S1=>match v with
 | .ref m=>(match S1[m]? with
  | some (.dG kvs)=> .ok (kvs.length+1,I m) S1
  | _=> .bad)
 | _=> .bad
section
variable {g:G} {w:Wd} {H:Hp}
theorem ZiM:∀{xs:List SV} {ys:List V} {k:List Key},Zly xs=some k→VRs g w H xs ys→ys=k.map kV
 | [],ys,k,e,r=>by cases e; simpa [VRs]using r
 | x::r,ys,k,e,rr=>by
  simp only [VRs]at rr
  obtain⟨y,ys',rfl,r1,r2⟩:=rr
  unfold Zly at e
  split at e
  ·rename_i k1 ks e1 e2
   cases e
   rw [Zff e1 r1,ZiM e2 r2]
   rfl
  ·cases e
theorem Zmz {y:SV} {u:V} {k:List Key} (e:ZkP y=some k) (r:VR g w H y u):∃b,u= .ref b∧H b=some (.tup (k.map kV)):=by
 cases y with
 | tup xs=>
  obtain⟨b,ys,rfl,hb,rs⟩:=r.t
  exact⟨b,rfl,by rw [hb,ZiM e rs]⟩
 | _=>cases e
theorem ZeS:∀k:List Key,VRs g w H (k.map ZeO) (k.map kV)
 | []=>by simp [VRs]
 | a::k=>Ycg Zgt (ZeS k)
theorem KR.valT:∀{kvs:List (List Key × SV)} {qs:List (List Key × V)},KR g w H kvs qs→∀k,(∀x,MP.valT kvs k=some x→∃v,valV qs k=some v∧VR g w H x v)∧(MP.valT kvs k=none→valV qs k=none)
 | [],qs,r,k=>by simp only [KR]at r; subst r; exact⟨fun _ h=>(nomatch h),fun _=>rfl⟩
 | (j,x)::kvs,qs,r,k=>by
  simp only [KR]at r
  obtain⟨v,rest,rfl,r1,r2⟩:=r
  have ih:=KR.valT r2 k
  by_cases h:j=k
  ·rw [valV_pos (p:=(j,v)) h]
   have e:MP.valT ((j,x)::kvs) k=some x:=by simp [MP.valT,h]
   rw [e]
   exact⟨fun y hy=>⟨v,rfl,by cases hy; exact r1⟩,fun h=>nomatch h⟩
  ·rw [valV_neg (p:=(j,v)) h]
   have e:MP.valT ((j,x)::kvs) k=MP.valT kvs k:=by simp [MP.valT,h]
   rw [e]
   exact ih
theorem KR.lenT:∀{kvs:List (List Key × SV)} {qs:List (List Key × V)},KR g w H kvs qs→qs.length=kvs.length
 | [],qs,r=>by simp only [KR]at r; subst r; rfl
 | (j,x)::kvs,qs,r=>by
  simp only [KR]at r
  obtain⟨v,rest,rfl,r1,r2⟩:=r
  simp [KR.lenT r2]
theorem KR.keysT:∀{kvs:List (List Key × SV)} {qs:List (List Key × V)},KR g w H kvs qs→qs.map (·.1)=kvs.map (·.1)
 | [],qs,r=>by simp only [KR]at r; subst r; rfl
 | (j,x)::kvs,qs,r=>by
  simp only [KR]at r
  obtain⟨v,rest,rfl,r1,r2⟩:=r
  simp [KR.keysT r2]
theorem KR.anyT {kvs:List (List Key × SV)} {qs:List (List Key × V)} (r:KR g w H kvs qs) (k:List Key):(qs.any fun kv=>decide (kv.1=k))=(kvs.any fun kv=>decide (kv.1=k)):=by
 have e:=r.keysT
 have a:(qs.any fun kv=>decide (kv.1=k))=(qs.map (·.1)).any fun j=>decide (j=k):=by rw [Ya3]; rfl
 have b:(kvs.any fun kv=>decide (kv.1=k))=(kvs.map (·.1)).any fun j=>decide (j=k):=by rw [Ya3]; rfl
 rw [a,b,e]
theorem KR.putT {kvs:List (List Key × SV)} {qs:List (List Key × V)} (r:KR g w H kvs qs) {x:SV} {v:V} (q:VR g w H x v) (k:List Key):KR g w H (MP.putT kvs k x) (putK qs k v):=by
 have m:∀{kvs:List (List Key × SV)} {qs:List (List Key × V)},KR g w H kvs qs→KR g w H (kvs.map fun kv=>if kv.1=k then (kv.1,x)else kv) (qs.map fun kv=>if kv.1=k then (kv.1,v)else kv):=by
  intro kvs
  induction kvs with
  | nil=>intro qs r; simp only [KR]at r; subst r; simp [KR]
  | cons p kvs ih=>
   intro qs r
   simp only [KR]at r
   obtain⟨u,rest,rfl,r1,r2⟩:=r
   simp only [Ya0,KR]
   by_cases h:p.1=k
   ·simp only [h,if_true]; exact⟨v,_,rfl,q,ih r2⟩
   ·simp only [h,if_false]; exact⟨u,_,rfl,r1,ih r2⟩
 have ap:∀{kvs:List (List Key × SV)} {qs:List (List Key × V)},KR g w H kvs qs→KR g w H (kvs++[(k,x)]) (qs++[(k,v)]):=by
  intro kvs
  induction kvs with
  | nil=>intro qs r; simp only [KR]at r; subst r; exact⟨v,[],rfl,q,rfl⟩
  | cons p kvs ih=>
   intro qs r
   simp only [KR]at r
   obtain⟨u,rest,rfl,r1,r2⟩:=r
   exact⟨u,_,rfl,r1,ih r2⟩
 unfold MP.putT putK
 rw [r.anyT k]
 split
 ·exact m r
 ·exact ap r
theorem KR.monoT' {w':Wd} {H':Hp} (l:w.Le w') (k:Zag H H'):∀{kvs:List (List Key × SV)} {qs:List (List Key × V)},KR g w H kvs qs→KR g w' H' kvs qs
 | [],qs,r=>by simp only [KR]at r⊢; exact r
 | (j,x)::kvs,qs,r=>by
  simp only [KR]at r⊢
  obtain⟨v,rest,rfl,r1,r2⟩:=r
  exact⟨v,rest,rfl,r1.mono l k,KR.monoT' l k r2⟩
theorem KR.getT:∀{kvs:List (List Key × SV)} {qs:List (List Key × V)} {i:Nat} {p:List Key × SV},KR g w H kvs qs→kvs[i]? =some p→∃v,qs[i]? =some (p.1,v)∧VR g w H p.2 v
 | [],_,_,_,_,e=>by simp at e
 | x::kvs,qs,0,p,r,e=>by
  simp only [KR]at r
  obtain⟨v,rest,rfl,r1,r2⟩:=r
  simp at e; subst e
  exact⟨v,rfl,r1⟩
 | x::kvs,qs,i+1,p,r,e=>by
  simp only [KR]at r
  obtain⟨v,rest,rfl,r1,r2⟩:=r
  obtain⟨u,h1,h2⟩:=KR.getT (i:=i) r2 (by simpa using e)
  exact⟨u,by simpa using h1,h2⟩
end
section
variable {X:Cx} {n:Nm} {xh:Xh} {W:WX} {e a b c it tg:Expr} {ma mb mc me:EM} {pos p p' apos cpos:Pos} {k:Nat} {gd:Bool}
theorem Sim.dt {w:Wd} {H:Hp} {S:Zaa} {m:Nat} {kvs:List (List Key × SV)} (s:Sim (gx X n) w H S) (e:S[m]? =some (.dT kvs)):∃qs,H (w.at_ m)=some (.dT qs)∧KR (gx X n) w H kvs qs:=s.at_ e
theorem Sim.dg {w:Wd} {H:Hp} {S:Zaa} {m:Nat} {kvs:List (List Key × SV)} (s:Sim (gx X n) w H S) (e:S[m]? =some (.dG kvs)):∃od qs,H (w.at_ m)=some (.frz od (.dT qs))∧KR (gx X n) w H kvs qs:=s.at_ e
theorem Sim.anyT {w:Wd} {H:Hp} {S:Zaa} {m:Nat} {kvs:List (List Key × SV)} (s:Sim (gx X n) w H S) (e:MP.anyT S m=some kvs):∃qs,L2.Rd H (w.at_ m) (.dT qs)∧KR (gx X n) w H kvs qs:=by
 unfold MP.anyT at e
 split at e
 ·rename_i q; cases e
  obtain⟨qs,h,r⟩:=s.dt q
  exact⟨qs, .inl h,r⟩
 ·rename_i q; cases e
  obtain⟨od,qs,h,r⟩:=s.dg q
  exact⟨qs, .inr ⟨od,h⟩,r⟩
 ·cases e
theorem ZfN:CallR X (.builtin "len") (fun xs H Q=>∃a kvs,xs=[V.ref a]∧L2.Rd H a (.dT kvs)∧Q (.int kvs.length) H):=by
 intro pins s σ H xs us Q I r h
 obtain⟨a,kvs,rfl,ha,q⟩:=h
 obtain⟨u,rfl,ru⟩:=vals1 r
 cases ru
 obtain⟨z,hd,ys,rel,dd⟩:=dt_rd I.hok ha
 have hl:kvs.length=ys.length:=Paired.length rel
 refine call_len_dictH hd dd (by rw [←hl]; rw [sizeLine_eq]at z; omega) ?_
 rw [←hl]
 exact⟨.int ((kvs.length:Nat):Int),H,I.tok _,⟨_,rfl⟩,q⟩
theorem Za2.lenT:Za2 X n (.builtin "len") Zgz where
 nx:=fun xs S=>by unfold Zgz; split<;>(try split)<;>trivial
 ex:=by
  refine⟨_,ZfN,fun H w S xs vs Q s rs h=> ?_⟩
  unfold Zgz at h
  split at h
  ·split at h
   ·rename_i m kvs e
    obtain⟨v,rfl,r⟩:=rs.r1
    obtain⟨qs,h3,kr⟩:=s.anyT e
    exact⟨_,qs,by rw [r.r.2],h3,Ycd s h (by rw [kr.lenT]; exact VR.oi)⟩
   ·exact h.elim
  ·exact h.elim
theorem R3w.dictT (hu:X.A.units+64<cLine):R3w X n W Zfj:=by
 intro pins s σ H x y z v u r w S a b c Q I rx ry rz sm ra rb rc h
 unfold Zfj at h
 split at h
 ·rename_i m
  split at h
  ·rename_i kvs k e1 e2
   by_cases hl:kvs.length<sizeLine
   ·rw [if_pos hl]at h
    simp only [VR]at ra
    obtain⟨hm,rfl⟩:=ra
    obtain rfl:v=Value.ref (w.at_ m):=rx
    obtain⟨qs,h3,kr⟩:=sm.dt e1
    obtain⟨bb,rfl,hbb⟩:=Zmz e2 rb
    have hput:DPut H (w.at_ m) (.ref bb) z (upd H (w.at_ m) (.dT (putK qs k z))):= .inr ⟨qs,k,bb,h3,rfl,hbb,by rw [kr.lenT]; exact hl,rfl⟩
    have kk:Zag H (upd H (w.at_ m) (.dT (putK qs k z))):=Yc0 h3 (by simp [ZdD])
    refine d_setItem (by omega) I hput ry rz fun s' I'=>⟨_,I',h w _ (Wd.Le.refl w) kk ?_⟩
    exact sm.set e1 trivial trivial ⟨putK qs k z,upd_same,KR.monoT' (Wd.Le.refl w) kk (kr.putT rc k)⟩
   ·rw [if_neg hl]at h; exact h.elim
  ·exact h.elim
 ·exact h.elim
theorem ZeT {w w1:Wd} {H H1:Hp} {S1:Zaa} {m:Nat} {od:Obj} {qs:List (List Key × V)} (hm:m<w.n) (hd:H (w.at_ m)=some (.frz od (.dT qs))) (l:w.Le w1) (k:Zag H H1) (s:Sim (gx X n) w1 H1 S1) {kvs:List (List Key × SV)} (q:S1[m]? =some (.dG kvs)):H1 (w.at_ m)=some (.frz od (.dT qs))∧KR (gx X n) w1 H1 kvs qs:=by
 obtain⟨od',qs',h1,kr⟩:=s.dg q
 have h2:=k _ _ hd trivial
 rw [l.2 m hm,h2]at h1
 cases h1
 exact⟨h2,kr⟩
theorem ItR.tk {w:Wd} {H:Hp} {m:Nat} {od:Obj} {qs:List (List Key × V)} (hm:m<w.n) (hd:H (w.at_ m)=some (.frz od (.dT qs))):ItR (gx X n) w H (Itkt (w.at_ m) od qs) (ZgA m):=fun i w1 H1 S1 l k s=>by
 unfold ZgA
 split
 ·rename_i kvs q
  obtain⟨h1,kr⟩:=ZeT hm hd l k s q
  refine⟨fun e=>⟨h1, ?_⟩,fun x e=> ?_⟩
  ·rw [kr.lenT]
   simpa using e
  ·simp only [Option.some.injEq,YaI]at e
   obtain⟨p,hp,rfl⟩:=e
   obtain⟨v,hv,rv⟩:=kr.getT hp
   refine⟨⟨h1,(Yaj.mp hv).1⟩,fun u H2 hy=> ?_⟩
   obtain⟨eH,k',v',qa,h2,eu,hq⟩:=hy
   rw [hv]at h2
   cases h2
   subst eH eu
   refine⟨w1,Wd.Le.refl _,Yb9 _,s, ?_⟩
   simp only [VR]
   exact⟨qa,_,rfl,hq,ZeS _⟩
 ·exact⟨(fun e=>nomatch e),fun x e=>nomatch e⟩
theorem ItR.tv {w:Wd} {H:Hp} {m:Nat} {od:Obj} {qs:List (List Key × V)} (hm:m<w.n) (hd:H (w.at_ m)=some (.frz od (.dT qs))):ItR (gx X n) w H (Zob (w.at_ m) od qs) (Zmx m):=fun i w1 H1 S1 l k s=>by
 unfold Zmx
 split
 ·rename_i kvs q
  obtain⟨h1,kr⟩:=ZeT hm hd l k s q
  refine⟨fun e=>⟨h1, ?_⟩,fun x e=> ?_⟩
  ·rw [kr.lenT]
   simpa using e
  ·simp only [Option.some.injEq,YaI]at e
   obtain⟨p,hp,rfl⟩:=e
   obtain⟨v,hv,rv⟩:=kr.getT hp
   refine⟨⟨h1,(Yaj.mp hv).1⟩,fun u H2 hy=> ?_⟩
   obtain⟨eH,k',h2⟩:=hy
   subst eH
   rw [hv]at h2
   cases h2
   exact⟨w1,Wd.Le.refl _,Yb9 _,s,rv⟩
 ·exact⟨(fun e=>nomatch e),fun x e=>nomatch e⟩
theorem ItR.ti {w:Wd} {H:Hp} {m:Nat} {od:Obj} {qs:List (List Key × V)} (hm:m<w.n) (hd:H (w.at_ m)=some (.frz od (.dT qs))):ItR (gx X n) w H (Zoc (w.at_ m) od qs) (Zmy m):=fun i w1 H1 S1 l k s=>by
 unfold Zmy
 split
 ·rename_i kvs q
  obtain⟨h1,kr⟩:=ZeT hm hd l k s q
  refine⟨fun e=>⟨h1, ?_⟩,fun x e=> ?_⟩
  ·rw [kr.lenT]
   simpa using e
  ·simp only [Option.some.injEq,YaI]at e
   obtain⟨p,hp,rfl⟩:=e
   obtain⟨v,hv,rv⟩:=kr.getT hp
   refine⟨⟨h1,(Yaj.mp hv).1⟩,fun u H2 hy=> ?_⟩
   obtain⟨T,k',v',qa,h2,eu,hq,hT,eH⟩:=hy
   rw [hv]at h2
   cases h2
   subst eH eu
   have kn:Zag H1 (upd H1 T (.tup [.ref qa,v])):=Ycs hT
   refine⟨w1,Wd.Le.refl _,kn,s.grow (fun b u e=>ZaG hT b u e), ?_⟩
   simp only [VR]
   refine⟨T,_,rfl,upd_same,Ycg ?_ (YcH (rv.mono (Wd.Le.refl _) kn))⟩
   simp only [VR]
   exact⟨qa,_,rfl,kn _ _ hq trivial,ZeS _⟩
 ·exact⟨(fun e=>nomatch e),fun x e=>nomatch e⟩
theorem Zb9 {I:Nat→IT} {σ:L2.St} {H:Hp} {w:Wd} {S:Zaa} {env:En} {R:It→Hp→Prop} {E:XC→Zaa→Prop} (h:Out (ZbK I me env S) (KI (gx X n) w H R) E):Out (me env S) (fun v S1=>∃m kvs,v= .ref m∧S1[m]? =some (.dG kvs)∧KI (gx X n) w H R (kvs.length+1,I m) S1) E:=by
 refine(Yb5 h).imp (fun v S1 h1=> ?_) fun _ _ z=>z
 split at h1
 ·rename_i m
  split at h1
  ·rename_i kvs q
   exact⟨m,kvs,rfl,q,h1⟩
  ·exact h1.elim
 ·exact h1.elim
theorem RI.tk (hi:RE X n xh W it me):RI X n xh W tg it (ZbK ZgA me):=by
 obtain⟨ti,pi,ci⟩:=hi.ex
 refine⟨_,ZhT (tg:=tg) pi,fun σ H w S env R s fm h=> ?_⟩
 refine ci σ H w S env _ s fm ((Zb9 (σ:=σ) h).imp (fun x S1 h1 w1 H1 v l1 k1 s1 r1=> ?_) fun _ _ z=>z)
 obtain⟨m,kvs,rfl,q,h1⟩:=h1
 simp only [VR]at r1
 obtain⟨hm,rfl⟩:=r1
 obtain⟨od,qs,hd,kr⟩:=s1.dg q
 exact⟨_,od,qs,rfl,hd,h1 w1 H1 _ l1 k1 s1 (ItR.tk hm hd)⟩
theorem RI.tv (hi:RE X n xh W e me) (hbase:attributeBase e "values" X.env (eval e X.env)=eval e X.env:=by rfl) (hline:(apos.endLine==cpos.line)=true:=by rfl):RI X n xh W tg (.Call (.Attribute e "values" apos) [] [] cpos) (ZbK Zmx me):=by
 obtain⟨ti,pi,ci⟩:=hi.ex
 refine⟨_,ZfM (tg:=tg) pi hbase hline,fun σ H w S env R s fm h=> ?_⟩
 refine ci σ H w S env _ s fm ((Zb9 (σ:=σ) h).imp (fun x S1 h1 w1 H1 v l1 k1 s1 r1=> ?_) fun _ _ z=>z)
 obtain⟨m,kvs,rfl,q,h1⟩:=h1
 simp only [VR]at r1
 obtain⟨hm,rfl⟩:=r1
 obtain⟨od,qs,hd,kr⟩:=s1.dg q
 exact⟨_,od,qs,rfl,hd,h1 w1 H1 _ l1 k1 s1 (ItR.tv hm hd)⟩
theorem RI.ti {elts:List Expr} {kk:Nat} {tpos:Pos} (hi:RE X n xh W e me) (hbase:attributeBase e "items" X.env (eval e X.env)=eval e X.env:=by rfl) (hline:(apos.endLine==cpos.line)=true:=by rfl):RI X n xh W (.Tuple elts kk tpos) (.Call (.Attribute e "items" apos) [] [] cpos) (ZbK Zmy me):=by
 obtain⟨ti,pi,ci⟩:=hi.ex
 refine⟨_,Zgy pi hbase hline,fun σ H w S env R s fm h=> ?_⟩
 refine ci σ H w S env _ s fm ((Zb9 (σ:=σ) h).imp (fun x S1 h1 w1 H1 v l1 k1 s1 r1=> ?_) fun _ _ z=>z)
 obtain⟨m,kvs,rfl,q,h1⟩:=h1
 simp only [VR]at r1
 obtain⟨hm,rfl⟩:=r1
 obtain⟨od,qs,hd,kr⟩:=s1.dg q
 exact⟨_,od,qs,rfl,hd,h1 w1 H1 _ l1 k1 s1 (ItR.ti hm hd)⟩
end
end MP
namespace MP
open PySem PySem.Spec PyProof.Rows PyProof.Rows.G L2
def Znv:Key→Int ⊕ List Nat
 | .inl i=> .inl i
 | .inr z=> .inr z.cps.toList
def okS (f:Nat→Bool):Nat→List Key→Bool
 | _,[]=>true
 | i, .inl _::r=> !f i&&okS f (i+1) r
 | i, .inr _::r=>f i&&okS f (i+1) r
def Znw (h:Heap) (v:Value) (k:List Key):Prop:=∃(a:Addr) (o:Obj) (xs:Array Value) (n:Nat),v= .ref a∧h.get? a=some o∧o.cls= .type "tuple"∧o.data= .seq xs n∧Vals (k.map kV) xs.toList
theorem ZdK {f:Nat→Bool}:∀{k:List Key} {us:List Value} {i:Nat},Vals (k.map kV) us→okS f i k=true→tupItems f i us=some (k.map Znv)
 | [],_,_, .nil,_=>by simp [tupItems]
 | .inl j::k,_,i, .cons ⟨t,e⟩ r,h=>by
  subst e
  simp only [okS,YaK,Ya4]at h
  have ih:=ZdK r h.2
  simp [tupItems,h.1,ih,Znv]
 | .inr z::k,_,i, .cons ⟨t,e⟩ r,h=>by
  subst e
  simp only [okS,YaK]at h
  have ih:=ZdK r h.2
  simp [tupItems,h.1,ih,Znv]
theorem Znw.key {h:Heap} {v:Value} {k:List Key} {f:Nat→Bool} (t:Znw h v k) (o:okS f 0 k=true):tupKeyC h f v=some (k.map Znv):=by
 obtain⟨a,ob,xs,n,rfl,h1,h2,h3,h4⟩:=t
 have e1:isTupObj h (.ref a)=true:=by simp [isTupObj,h1,h2]
 unfold tupKeyC
 rw [if_pos e1]
 simp only [tupKey,h1,h3]
 exact ZdK h4 o
theorem Znw.first {h:Heap} {v:Value} {k:List Key} {f:Nat→Bool} (t:Znw h v k) (ne:k≠ []) (o:okS f 0 k=true):∃u,TupOf h f v u:=by
 obtain⟨a,ob,xs,n,rfl,h1,h2,h3,h4⟩:=t
 cases k with
 | nil=>exact absurd rfl ne
 | cons c k=>
  obtain⟨u,us,e,r⟩:∃u us,xs.toList=u::us∧RelV (kV c) u:=by
   cases q:xs.toList with
   | nil=>rw [q]at h4; cases h4
   | cons u us=>rw [q]at h4; cases h4 with | cons r _=>exact⟨u,us,rfl,r⟩
  refine⟨u,a,ob,xs,n,rfl,h1,h2,h3,by rw [←Array.getElem?_toList,e]; rfl,fun z=> ?_,fun z=> ?_⟩
  ·cases c with
   | inl i=>obtain⟨t,e⟩:=r; exact⟨i,t,e⟩
   | inr s=>simp [okS,z]at o
  ·cases c with
   | inl i=>simp [okS,z]at o
   | inr s=>obtain⟨t,e⟩:=r; exact⟨s,t,e⟩
section
variable {X:Cx} {n:Nm}
end
end MP
namespace MP
open PySem PySem.Spec PyProof.Rows L2
section
variable {X:Cx} {n:Nm}
end
end MP
namespace MP
open PySem PySem.Spec PyProof.Rows L2
section
variable {X:Cx} {n:Nm} {xh:Xh} {W:WX} {e a b c o:Expr} {es:List Expr} {ma mb mc mo me:EM} {mt mu:TM} {mr:AM} {pos p':Pos}
end
end MP
namespace MP
open PySem PySem.Spec PyProof.Rows L2
section
variable {X:Cx} {n:Nm}
end
end MP
namespace MP
open PySem PySem.Spec PyProof.Rows L2
def Zca {α:Type} (I:List Nat) (xs:List α):List α:=I.filterMap fun i=>xs[i]?
def Zcs {α:Type} (k:Nat) (xs:List α):List α:=Zca (PySem.sliceRange 0 (xs.length:Int) (k:Int)) xs
theorem ZgB {α:Type} (I:List Nat) (xs:List α):(Zca I xs).length≤I.length:=List.length_filterMap_le ..
theorem ZgC {n k:Nat} (hk:1≤k):(PySem.sliceRange 0 (n:Int) (k:Int)).length≤n:=by
 unfold PySem.sliceRange
 rw [Yaz,List.length_range]
 have h:(k:Int)>0:=by omega
 simp only [h,if_true]
 split
 ·have:((n:Int) - 0+(k:Int) - 1) / (k:Int)≤n:=by
   refine Int.ediv_le_of_le_mul h ?_
   have:(n:Int) * 1+((k:Int) - 1) * 1≤(n:Int) * k:=by
    have e:(n:Int) * k=n * 1+n * (k - 1):=by rw [←Int.mul_add]; congr 1; omega
    rw [e]
    have:((k:Int) - 1) * 1≤n * ((k:Int) - 1):=by
     rw [Int.mul_one]
     have h2:(1:Int) * ((k:Int) - 1)≤n * ((k:Int) - 1):=Int.mul_le_mul_of_nonneg_right (by omega) (by omega)
     omega
    omega
   omega
  omega
 ·simp
theorem ZgD {its:List Value} {k:Nat} (hk:1≤k):slicePick its.toArray none none (some (k:Int))=(Zcs k its).toArray:=by
 unfold slicePick sliceBounds Zcs Zca
 have h:(k:Int)>0:=by omega
 simp only [Ybe,h,if_true,YaV,List.getElem?_toArray]
theorem Vals.pickI {xs:List V} {us:List Value} (r:Vals xs us):∀I:List Nat,Vals (Zca I xs) (Zca I us)
 | []=> .nil
 | i::I=>by
  unfold Zca
  rw [Ybf,Ybf]
  cases e:xs[i]? with
  | none=>
   have:us[i]? =none:=YaQ (by rw [←r.length]; exact Yay.mp e)
   rw [this]
   exact Vals.pickI r I
  | some x=>
   obtain⟨u,hu,ru⟩:=r.get e
   rw [hu]
   exact .cons ru (Vals.pickI r I)
theorem VRs.pickI {g:G} {w:Wd} {H:Hp} {xs:List SV} {vs:List V} (r:VRs g w H xs vs):∀I:List Nat,VRs g w H (Zca I xs) (Zca I vs)
 | []=>YcA
 | i::I=>by
  unfold Zca
  rw [Ybf,Ybf]
  rcases VRs.getI r i with ⟨e1,e2⟩ | ⟨x,v,e1,e2,q⟩
  ·rw [e1,e2]
   exact VRs.pickI r I
  ·rw [e1,e2]
   exact Ycg q (VRs.pickI r I)
section
variable {X:Cx} {n:Nm} {xh:Xh} {W:WX} {e:Expr} {me:EM} {pos p1 p3:Pos}
def ZmA (K:PySem.W.Frag) (k:Nat) (te:TE):TE:=fun σ H Q=>te σ H fun x H1=>∃a xs,x= .ref a∧SqL K H1 a xs∧∀p,H1 p=none→Q (.ref p) (upd H1 p (.lst (Zcs k xs)))
theorem ZhU {te:TE} {k j:Nat} (hk:1≤k) (he:PE X e te):PE X (.Subscript e (.Slice none none (some (.Constant (.int (k:Int)) j p1)) p3) pos) (ZmA X.K k te):=by
 refine⟨fun pins s σ H Q I h=>Subscript_ (thn (he.run pins s σ H _ I h) fun v s1 ⟨x,H1,I1,r1,a,xs,ex,hx,q⟩=> ?_)⟩
 subst ex
 cases r1
 refine wpAny_Slice (thn (po_none.run pins s1 σ H1 (fun o H2=>o=none∧H2=H1) I1 ⟨rfl,rfl⟩) fun vl s2 ⟨l,H2,I2,pl,el,e2⟩=> ?_)
 cases el
 cases e2
 refine thn (po_none.run pins s2 σ H1 (fun o H3=>o=none∧H3=H1) I2 ⟨rfl,rfl⟩) fun vu s3 ⟨u,H3,I3,pu,eu,e3⟩=> ?_
 cases eu
 cases e3
 refine thn ((po_some (e:= .Constant (.int (k:Int)) j p1) pe_int).run pins s3 σ H1 (fun o H4=>o=some (k:Int)∧H4=H1) I3 ⟨(k:Int),rfl,rfl,rfl⟩) fun vs s4 ⟨o,H4,I4,ps,eo,e4⟩=> ?_
 cases eo
 cases e4
 have I5:Inv X pins σ H1 {s4 with heap:=s4.heap.push {cls:= .type "slice",data:= .fields #[vl,vu,vs]}}:=I4.kept (t':=s4.toks) fun b ob z=>Heap.get?_push_of_some _ z
 obtain⟨its,r,ht,hz⟩:=I5.list hx
 have hl:=r.length
 show wpAny (model X.prog X.w) X.A (subscriptTail e (.Slice none none (some (.Constant (.int (k:Int)) j p1)) p3) (.ref a) (.ref s4.heap.objs.size)) (EP X pins σ Q) X.xe {s4 with heap:=s4.heap.push {cls:= .type "slice",data:= .fields #[vl,vu,vs]}}
 refine tail_any (ops:=[.ref a, .ref s4.heap.objs.size]) ht.isList.typeIs (PySem.slot_list_getitem.lookup) ?_ (by with_unfolding_all rfl)
 refine wpAny_getItem_list_slice ht.isList (Heap.IsSliceOf.new _ vl vu vs) pl pu ps (by intro z; have:=Option.some.inj z; omega) ?_ (by rw [YaV]; omega)
 rw [ZgD hk]
 have el:Zcs k its=Zca (PySem.sliceRange 0 (xs.length:Int) (k:Int)) its:=by unfold Zcs; rw [hl]
 refine⟨.ref _,_,I5.laid (t':=s4.toks) (o:= .lst (Zcs k xs)) (fun b ob z=>Heap.get?_push_of_some _ z) (Yab _) ⟨?_,Zcs k its,0, ?_,Heap.get?_push_size _ rfl⟩,rfl,q _ (I5.hok.fresh (Yab _))⟩
 ·exact Yac (Yac (ZgB _ _) (ZgC hk)) hz
 ·rw [el]
  exact Vals.pickI r _
def ZhV (k:Nat):SV→M SV:=fun x S=>match x with
 | .ref m=>(match ZaJ S m with
  | some xs=> .ok (.ref S.length) (S++[.lst (Zcs k xs)])
  | none=> .bad)
 | _=> .bad
theorem RE.step (k:Nat) {j:Nat} (hk:1≤k) (h:RE X n xh W e me):RE X n xh W (.Subscript e (.Slice none none (some (.Constant (.int (k:Int)) j p1)) p3) pos) (e1 (ZhV k) me):=by
 obtain⟨t,pe,ce⟩:=h.ex
 refine⟨_,ZhU hk pe,fun σ H w S env Q s fm h=>ce σ H w S env _ s fm ((Yb5 h).imp (fun x S1 h1 w1 H1 v l1 k1 s1 r1=> ?_) fun _ _ z=>z)⟩
 unfold ZhV at h1
 split at h1
 ·rename_i m
  split at h1
  ·rename_i xs q
   simp only [VR]at r1
   obtain⟨vs,hv,rv⟩:=s1.seq (ZaT q)
   have el:Zcs k vs=Zca (PySem.sliceRange 0 (xs.length:Int) (k:Int)) vs:=by unfold Zcs; rw [rv.len]
   exact⟨_,vs,r1.2,hv,fun p hp=>YcU s1 (by rw [el]; exact VRs.pickI rv _) (h1.mono l1 k1) p hp⟩
  ·exact h1.elim
 ·exact h1.elim
end
end MP
namespace PySem
namespace F
end F
section
variable {prog:Program} {w:World} {A:Around} {E:Value→Shared→Prop} {s:Shared}
end
section
variable {prog:Program} {w:World} {A:Around} {E:Value→Shared→Prop} {s:Shared}
end
section
variable {prog:Program} {w:World} {A:Around} {E:Value→Shared→Prop} {s:Shared}
end
section
variable {M:Model} {A:Around} {E:Value→Shared→Prop} {s:Shared} {env:Env}
end
end PySem
namespace L2
open PySem PySem.Spec PyProof.Rows
end L2
namespace MP
open PySem PySem.Spec PyProof.Rows L2
section
variable {X:Cx} {n:Nm} {xh:Xh} {W:WX} {e e2:Expr} {ma mb:EM} {pos p tpos kp cp:Pos} {elts:List Expr} {kk j:Nat}
end
end MP
namespace MP
open PySem PySem.Spec PyProof.Rows L2 KSet
def dT:List (List Int)→List (List Int)
 | []=>[]
 | z::r=>if z∈dT r then dT r else z::dT r
end MP
namespace KSet
open PySem PySem.Spec PyProof.Rows L2
section
variable {X:Cx}
end
end KSet
namespace MP
open PySem PySem.Spec PyProof.Rows L2 KSet
section
variable {X:Cx}
section
variable {iter elt tg:Expr} {scope:Scope} {own:List (Str × Nat)} {i0:Nat} {pos:Pos} {te:TE}
end
end
section
variable {X:Cx} {n:Nm} {xh:Xh} {W:WX} {e iter elt tg:Expr} {scope:Scope} {own:List (Str × Nat)} {i0 k:Nat} {gd:Bool} {me:EM} {pos pos2 p1 p2:Pos}
end
section
variable {X:Cx} {n:Nm}
end
end MP
namespace KSet
open PySem PySem.Spec PyProof.Rows L2
section
variable {X:Cx}
end
end KSet
namespace MP
open PySem PySem.Spec PyProof.Rows L2
section
variable {X:Cx} {n:Nm} {xh:Xh} {W:WX} {e:Expr} {me:EM} {pos p1 p2 pos2:Pos} {k:Nat} {gd:Bool}
end
end MP
namespace MP
open PySem PySem.Spec PyProof.Rows L2
section
variable {X:Cx} {n:Nm} {xh:Xh} {W:WX} {ek ev:Expr} {mk mv:EM} {pos:Pos}
end
end MP
namespace MP
open PySem PySem.Spec PyProof.Rows L2
def ZhW (e:EM) (c:SV→Zaa→Bool) (a b:IM):IM:=fun env S=>match e env S with
 | .ok x S1=>if c x S1=true then a env S else b env S
 | .exc x S1=> .exc x S1
 | .bad=> .bad
section
variable {X:Cx} {n:Nm} {xh:Xh} {W:WX} {it tg:Expr} {me:EM}
theorem RI.k2 (hi:RE X n xh W it me):RI X n xh W tg it (ZhW me isT (ZbK ZgA me) (Zdg Zgs me)):=by
 obtain⟨t1,p1,c1⟩:=(RI.tk (tg:=tg) hi).ex
 obtain⟨t2,p2,c2⟩:=(RI.dk (tg:=tg) hi).ex
 refine⟨fun σ H R=>t1 σ H R∨t2 σ H R,⟨fun pins s σ H R I h=>h.elim (p1.run pins s σ H R I) (p2.run pins s σ H R I)⟩,fun σ H w S env R s fm h=> ?_⟩
 unfold ZhW at h
 cases e:me env S with
 | bad=>rw [e]at h; exact h.elim
 | exc x S1=>
  rw [e]at h
  exact .inl (c1 σ H w S env R s fm (by unfold ZbK; rw [e]; exact h))
 | ok x S1=>
  rw [e]at h
  simp only at h
  by_cases c:isT x S1=true
  ·rw [if_pos c]at h
   exact .inl (c1 σ H w S env R s fm h)
  ·rw [if_neg c]at h
   exact .inr (c2 σ H w S env R s fm h)
end
end MP
namespace MP
open PySem PySem.Spec PyProof.Rows L2
section
variable {X:Cx}
end
def ZdL {α:Type} (kvs more:List (List Key × α)):List (List Key × α):=more.foldl (fun acc kv=>putT acc kv.1 kv.2) kvs
end MP
namespace MP
open PySem PySem.Spec PyProof.Rows L2
section
variable {X:Cx} {n:Nm} {xh:Xh} {W:WX} {m:AM} {pos:Pos} {keys:List (Option Expr)} {values:List Expr}
end
end MP
namespace MP
open PySem PySem.Spec PyProof.Rows PyProof.Rows.G L2
def Zo5:PyData→Bool
 | .tuple (_::_)=>true
 | _=>false
def okQ (ds:List PyData):Bool:=(ds.all fun d=>Zo5 d&&decide (d.depth≤12))&&ds.all fun d=>ds.all fun e=>PySem.W.alike d e
def sortQL {α:Type} (ps:List (α × PyData)):List α:=(ps.mergeSort (PySem.W.dataLe false Prod.snd)).map Prod.fst
def ZcY:List SV→M SV:=fun xs S=>match xs with
 | [.ref m]=>(match ZaJ S m with
  | some ys=>(match ys.mapM (Zan 12 S)with
   | some ds=>if okQ ds=true∧ys.length≤sizeLine then Ziw (.lst (sortQL (ys.zip ds))) S else .bad
   | none=> .bad)
  | none=> .bad)
 | _=> .bad
section
variable {X:Cx} {n:Nm}
theorem Zo6 {pins:List (Addr × Obj)} {σ:L2.St} {H:Hp} {s:Shared} {w:Wd} {S:Zaa} (I:Inv X pins σ H s) (sm:Sim (gx X n) w H S):∀(ys:List SV) (vs:List V) (its:List Value) (ds:List PyData),ys.mapM (Zan 12 S)=some ds→VRs (gx X n) w H ys vs→Vals vs its→
  ∃bs:List (SV × V × PyData),bs.map (·.1)=ys∧bs.map (·.2.1)=vs∧bs.map (·.2.2)=ds∧(∀b∈bs,VR (gx X n) w H b.1 b.2.1)∧PySem.W.EachIs (fun u (b:SV × V × PyData)=>RelV b.2.1 u) its bs∧PySem.W.EachIs (fun u (b:SV × V × PyData)=>∃as,Reads s.heap u b.2.2 as) its bs:=by
 intro ys
 induction ys with
 | nil=>
  intro vs its ds e r rv
  simp only [VRs]at r
  simp at e
  subst r
  cases rv
  subst e
  exact⟨[],rfl,rfl,rfl,(fun _ h=>nomatch h), .nil, .nil⟩
 | cons x xs ih=>
  intro vs its ds e r rv
  simp only [VRs]at r
  obtain⟨v,t,rfl,r1,r2⟩:=r
  simp only [YaD,YaE,YaF,YaG,Option.some.injEq]at e
  obtain⟨d,e1,ds',e2,rfl⟩:=e
  cases rv with
  | cons ra rb=>
   obtain⟨as,h1,_⟩:=ZaW I sm 12 x d v _ e1 r1 ra
   obtain⟨bs,p1,p2,p3,p4,p5,p6⟩:=ih t _ ds' e2 r2 rb
   refine⟨(x,v,d)::bs,by rw [Ya0,p1],by rw [Ya0,p2],by rw [Ya0,p3],fun b hb=> ?_, .cons ra p5, .cons ⟨as,h1⟩ p6⟩
   rcases Yas.mp hb with rfl | hb
   ·exact r1
   ·exact p4 b hb
theorem ZiN {g:G} {w:Wd} {H:Hp}:∀{L:List (SV × V × PyData)},(∀b∈L,VR g w H b.1 b.2.1)→VRs g w H (L.map (·.1)) (L.map (·.2.1))
 | [],_=>YcA
 | b::L,h=>Ycg (h b (Yav ..)) (ZiN fun c hc=>h c (Yau _ hc))
theorem ZgE:∀{us:List Value} {L:List (SV × V × PyData)},PySem.W.EachIs (fun u (b:SV × V × PyData)=>RelV b.2.1 u) us L→Vals (L.map (·.2.1)) us
 | _,_, .nil=> .nil
 | _,_, .cons h t=> .cons h (ZgE t)
theorem ZmB {L:List (SV × V × PyData)}:(L.map (·.1)).zip (L.map (·.2.2))=L.map fun b=>(b.1,b.2.2):=by
 induction L with
 | nil=>rfl
 | cons b L ih=>simp only [Ya0,Yat,ih]
theorem Za2.sortQ (hu:X.A.units+100<cLine):Za2 X n (.builtin "sorted") ZcY where
 nx:=fun xs S=>by unfold ZcY; split<;>(try split)<;>(try split)<;>(try split)<;>trivial
 ex:=by
  refine⟨sCR X n ZcY,fun pins s σ H xs us Q I rv ⟨w,S,zs,sm,rs,h⟩=> ?_,fun H w S xs vs Q s rs h=>⟨w,S,xs,s,rs,h⟩⟩
  unfold ZcY at h
  split at h
  ·rename_i m
   split at h
   ·rename_i ys el
    split at h
    ·rename_i ds ed
     split at h
     ·rename_i c
      obtain⟨v,rfl,r⟩:=rs.r1
      rw [r.r.2]at rv
      obtain⟨vs,sq,r2⟩:=sm.seq (ZaT el)
      obtain⟨its,rvs,hl,hz⟩:=I.list sq
      rw [Vals.ref1 rv]
      obtain⟨bs,p1,p2,p3,p4,p5,p6⟩:=Zo6 I sm ys vs its ds ed r2 rvs
      have c1:=c.1
      unfold okQ at c1
      simp only [YaK,YaL,decide_eq_true_eq]at c1
      have hm:∀d,d∈bs.map (fun b:SV × V × PyData=>b.2.2)→d∈ds:=fun d hd=>by rw [←p3]; exact hd
      have hlen:bs.length=ys.length:=by rw [←p1,Yaz]
      have hle:sortQL (ys.zip ds)=(bs.mergeSort (PySem.W.dataLe false fun b=>b.2.2)).map (·.1):=by
       unfold sortQL
       rw [←p1,←p3,ZmB,←Ybg (r:=PySem.W.dataLe false fun b:SV × V × PyData=>b.2.2) (s:=PySem.W.dataLe false Prod.snd) (f:=fun b:SV × V × PyData=>(b.1,b.2.2)) (fun a _ b _=>rfl),YaJ]
       rfl
      rw [hle]at h
      refine PySem.W.sorted_data (R:=fun u b=>RelV b.2.1 u) (enc:=fun b:SV × V × PyData=>b.2.2) hl.isList p5 p6 (fun d hd e he=>c1.2 d (hm d hd) e (hm e he)) (.inl fun d hd=> ?_) (by rw [hlen]; exact c.2) (fun b hb=> ?_) fun out ho eo=> ?_
      ·have t:=(c1.1 d (hm d hd)).1
       cases d with
       | tuple xs=>cases xs with
        | nil=>cases t
        | cons a l=>exact⟨a,l,rfl⟩
       | _=>cases t
      ·have t:=(c1.1 b.2.2 (by rw [←p3]; exact YaW (f:=fun b:SV × V × PyData=>b.2.2) hb)).2
       show X.A.units+2+b.2.2.depth<cLine
       omega
      ·obtain⟨ep,he'⟩:=PyProof.Rows.sortedAll_at s.heap its (Ybh out)
       have hp:=Ya8 bs (PySem.W.dataLe false fun b=>b.2.2)
       have q:=YcU sm (ZiN fun b hb=>p4 b (hp.mem_iff.mp hb)) h (s.heap.objs.size+1) (I.hok.fresh (Yaf _))
       have hln:((bs.mergeSort (PySem.W.dataLe false fun b=>b.2.2)).map (·.2.1)).length≤sizeLine:=by
        rw [Yaz,hp.length_eq,hlen]
        exact c.2
       exact⟨.ref _,upd H (s.heap.objs.size+1) (.lst ((bs.mergeSort (PySem.W.dataLe false fun b=>b.2.2)).map (·.2.1))),I.laid (t':=s.toks) (fun _ _=>PyProof.Rows.sortedAll_old) (Yaf _) ⟨hln,out,ep,ZgE eo,he'⟩,rfl,q⟩
     ·exact h.elim
    ·exact h.elim
   ·exact h.elim
  ·exact h.elim
end
end MP
namespace MP
open PySem PySem.Spec PyProof.Rows PyProof.Rows.G L2
section
variable {X:Cx} {n:Nm}
end
end MP
namespace MP
open PySem PySem.Spec PyProof.Rows PyProof.Rows.G L2
section
variable {X:Cx} {n:Nm}
end
end MP
namespace MP
open PySem PySem.Spec PyProof.Rows PyProof.Rows.G L2
section
variable {X:Cx} {n:Nm} {xh:Xh} {W:WX} {a e:Expr} {ma me:EM} {p2 pos2 pos:Pos}
end
end MP
namespace KSO
open PySem PySem.W PySem.Calls PyProof.Rows
section
variable {prog:Program} {w:World} {A:Around} {E:Value→Shared→Prop} {s:Shared} {a:Addr} {vs:List Value} {T:Value}
def Zct (h:Heap) (a:Addr) (vs:List Value):Heap:=((h.update a (Obj.mapSeq fun _=>(#[]:Array Value))).push (seqObj "tuple" vs.toArray 0)).push (seqObj "list" #[] 0)
def Zdi (vs:List Value) (p:Array Nat):Array Value:=Ybh (p.toList.map fun i=>vs.getD i Value.none)
theorem ZdM {n:Nat} {P:PySem.Fin→Shared→Prop} (ho:s.heap.get? a=some (seqObj "list" vs.toArray n)) (h2:2≤vs.length) (h64:vs.length<64)
  (hT:∀v∈vs,Looks (model prog w) (Zct s.heap a vs) (typeOf v) T) (hT1:(T != Value.type "tuple")=true) (hT2:(T==T)=true)
  (h:∀e1,(Zct s.heap a vs).get? a=some (seqObj "list" #[] e1)→(kas_sort vs.length).kasWp (kas_ask prog w A oneType' vs) (fun p s'=>p.size=vs.length→s'.heap.get? a=some (seqObj "list" #[] e1)∧
   ∀h'' c,Heap.SameBut a s'.heap h''→h''.get? a=some (seqObj "list" (Zdi vs p) c)→P (.done (.ret .none)) {s' with heap:=h''}) {s with heap:=Zct s.heap a vs}):
  wpAny (model prog w) A (Builtin.«list.sort» ⟨[.ref a],[]⟩) P E s:=by
 obtain⟨e1,ho1⟩:∃e1,(s.heap.update a (Obj.mapSeq fun _=>(#[]:Array Value))).get? a=some (seqObj "list" #[] e1):=⟨_,get?_update_seq ho fun _=> #[]⟩
 have ho2:(Zct s.heap a vs).get? a=some (seqObj "list" #[] e1):=Heap.get?_push_of_some _ (Heap.get?_push_of_some _ ho1)
 have ask:=h e1 ho2
 rw [kas_ask_eq]at ask
 rw [list_sort_plain]
 refine wpAny_bind (listItems_at ho rfl ?_)
 refine wpAny_bind (listUpdate_at ho rfl ?_ (by rw [YaV,sizeLine_eq]; omega) (Ybi _))
 refine wpAny_bind (seqEpoch_at ho1 rfl ?_)
 refine wpAny_bind (wpAny_newTuple ?_ (by show vs.length≤_; rw [sizeLine_eq]; omega))
 refine wpAny_bind (wpAny_newList ?_ (Ybi _))
 refine wpAny_holding ?_
 show wpAny (model prog w) A _ P E {s with heap:=Zct s.heap a vs}
 dsimp only
 have hn2:¬vs.toArray.size<2:=by rw [YaV]; omega
 rw [if_neg hn2,if_neg hn2]
 refine wpAny_bind (kas_kind h2 hT hT1 hT2 ?_)
 have est:SortSt.mk' oneType' (vs.toArray.zip vs.toArray) #[] 7 none=kas_st oneType' (pairsOf vs) (Ybh (Ybj vs.length)):=by
  have e:=kas_range (pairsOf vs)
  rw [pairsOf_size]at e
  show SortSt.mk' oneType' (pairsOf vs) #[] 7 none=SortSt.mk' oneType' ((Ybh (Ybj vs.length)).map (kas_item (pairsOf vs))) #[] 7 none
  rw [e]
 have run:=kas_runs (E:=E) (Q:=fun _ st' s'=>∃p:Array Nat,p.size=vs.length∧arrOf st'=p.map (kas_item (pairsOf vs))∧failedOf st'=none∧(s'.heap.get? a=some (seqObj "list" #[] e1)∧
   ∀h'' c,Heap.SameBut a s'.heap h''→h''.get? a=some (seqObj "list" (Zdi vs p) c)→P (.done (.ret .none)) {s' with heap:=h''}))
  h2 h64 (fun p' st' s' a1 a2 a3 a4=>⟨p',a1,a2,a3,a4 a1⟩) ask
 rw [←est]at run
 refine wpAny_bind (wpAny_mono run ?_ fun _ _ e=>e)
 rintro⟨⟨⟩,st'⟩ s' ⟨p,hp,har,hf,na,k⟩
 dsimp only
 have hout:(arrOf st').map (·.2)=Zdi vs p:=by
  apply Ya6.mp
  rw [har,Array.map_map,Array.toList_map]
  exact Ybk fun i _=>by show (kas_item (pairsOf vs) i).2=_; rw [kas_item_eq]
 have hsz:(Zdi vs p).size=vs.length:=by unfold Zdi; rw [YaV,Yaz,Ya9,hp]
 rw [hout]
 have s2:=Heap.SameBut.update s'.heap a (Obj.mapSeq fun _=>Zdi vs p)
 obtain⟨c2,hc2⟩:∃c2,(s'.heap.update a (Obj.mapSeq fun _=>Zdi vs p)).get? a=some (seqObj "list" (Zdi vs p) c2):=⟨_,get?_update_seq na fun _=>Zdi vs p⟩
 refine wpAny_bind (seqEpoch_at na rfl ?_)
 refine wpAny_bind (listUpdate_at na rfl ?_ (Ybi _) (Yac (Nat.le_of_eq hsz) (by rw [sizeLine_eq]; omega)))
 rw [hf]
 simp only [bne_self_eq_false,YaR,if_false]
 exact wpAny_pure (k _ c2 s2 hc2)
theorem sorted_own {l:Addr} {Q:Value→Shared→Prop} (hl:s.heap.IsList l vs.toArray) (h2:2≤vs.length) (h64:vs.length<64)
  (hT:∀h',(∀b o,s.heap.get? b=some o→h'.get? b=some o)→∀v∈vs,Looks (model prog w) h' (typeOf v) T) (hT1:(T != Value.type "tuple"&&(T != Value.type "int"&&T==T))=true)
  (h:∀D e1 h',s.heap.objs.size≤D→(∀b o,s.heap.get? b=some o→h'.get? b=some o)→h'.get? D=some (seqObj "list" #[] e1)→
   (kas_sort vs.length).kasWp (kas_ask prog w A.in1.in1 oneType' vs) (fun p s'=>p.size=vs.length→s'.heap.get? D=some (seqObj "list" #[] e1)∧
    ∀h'' c,Heap.SameBut D s'.heap h''→h''.get? D=some (seqObj "list" (Zdi vs p) c)→Q (.ref D) {s' with heap:=h''}) {s with heap:=h'}):
  wpAny (model prog w) A (call (.builtin "sorted") [.ref l]) Q E s:=by
 simp only [YaK]at hT1
 refine Calls.call_function_entry kind_sorted plain_sorted entry_sorted (args_sorted1 _) ?_
 unfold Builtin.«sorted»
 refine wpAny_bind (m:=checkCount "sorted" 1 1 _) (wpAny_pure ?_)
 refine wpAny_bind (collect_list hl ?_ (by rw [sizeLine_eq]; omega))
 refine wpAny_bind (wpAny_newList ?_ (by rw [sizeLine_eq]; omega))
 have hsz:((s.heap.push (seqObj "list" #[] 0)).update s.heap.objs.size (Obj.mapSeq (· ++vs.toArray))).objs.size=s.heap.objs.size+1:=by
  rw [Heap.size_update,size_push']
 have hoL:(((s.heap.push (seqObj "list" #[] 0)).update s.heap.objs.size (Obj.mapSeq (· ++vs.toArray))).push (seqObj "list" vs.toArray 0)).get? (s.heap.objs.size+1)=some (seqObj "list" vs.toArray 0):=by
  rw [←hsz]; exact Heap.get?_push_size _ rfl
 have keep:∀b o,s.heap.get? b=some o→(((s.heap.push (seqObj "list" #[] 0)).update s.heap.objs.size (Obj.mapSeq (· ++vs.toArray))).push (seqObj "list" vs.toArray 0)).get? b=some o:=fun b o q=>by
  have hlt:b<s.heap.objs.size:=Heap.lt_size q
  rw [Heap.get?_push_ne _ _ _ (by rw [hsz]; exact Yag (Nat.lt_succ_of_lt hlt)),Heap.get?_update_ne _ _ _ _ (Yag hlt),Heap.get?_push_ne _ _ _ (Yag hlt)]
  exact q
 show wpAny _ _ _ _ _ {s with heap:=((s.heap.push (seqObj "list" #[] 0)).update s.heap.objs.size (Obj.mapSeq (· ++vs.toArray))).push (seqObj "list" vs.toArray 0)}
 rw [hsz]
 have keep2:∀b o,s.heap.get? b=some o→(Zct (((s.heap.push (seqObj "list" #[] 0)).update s.heap.objs.size (Obj.mapSeq (· ++vs.toArray))).push (seqObj "list" vs.toArray 0)) (s.heap.objs.size+1) vs).get? b=some o:=fun b o q=>by
  have hlt:b<s.heap.objs.size:=Heap.lt_size q
  refine Heap.get?_push_of_some _ (Heap.get?_push_of_some _ ?_)
  rw [Heap.get?_update_ne _ _ _ _ (Yag (Nat.lt_succ_of_lt hlt))]
  exact keep b o q
 refine wpAny_bind (wpAny_holding (wpAny_call_entry slot_list_sort ⟨_,hoL,rfl⟩ entry_list_sort ?body (args_list_sort _)))
 case body=>
  refine ZdM (s:={s with heap:=((s.heap.push (seqObj "list" #[] 0)).update s.heap.objs.size (Obj.mapSeq (· ++vs.toArray))).push (seqObj "list" vs.toArray 0)}) hoL h2 h64 (hT _ keep2) hT1.1 hT1.2.2 fun e1 he1=> ?_
  have ask:=h _ e1 _ (Yaf _) keep2 he1
  rw [kas_ask_eq]at ask⊢
  exact kas_wp_mono ask fun p s' hk hp=>⟨(hk hp).1,fun h'' c x y=>⟨_,rfl,wpAny_pure ⟨_,rfl,(hk hp).2 h'' c x y⟩⟩⟩
theorem ZdN {n:Nat} {P:PySem.Fin→Shared→Prop} (ho:s.heap.get? a=some (seqObj "list" vs.toArray n)) (h1:vs.length<2) (h:P (.done (.ret .none)) {s with heap:=sortedHeap s.heap a vs vs.toArray}):
  wpAny (model prog w) A (Builtin.«list.sort» ⟨[.ref a],[]⟩) P E s:=by
 rw [list_sort_plain]
 have ha:a<s.heap.objs.size:=Heap.lt_size ho
 refine wpAny_bind (listItems_at ho rfl ?_)
 refine wpAny_bind (listUpdate_at ho rfl ?_ (by rw [YaV,sizeLine_eq]; omega) (Ybi _))
 obtain⟨e1,ho1⟩:∃e1,(s.heap.update a (Obj.mapSeq fun _=>(#[]:Array Value))).get? a=some (seqObj "list" #[] e1):=⟨_,get?_update_seq ho (fun _=> #[])⟩
 refine wpAny_bind (seqEpoch_at ho1 rfl ?_)
 refine wpAny_bind (wpAny_newTuple ?_ (by show vs.length≤_; rw [sizeLine_eq]; omega))
 refine wpAny_bind (wpAny_newList ?_ (Ybi _))
 refine wpAny_holding ?_
 have ho6:(((s.heap.update a (Obj.mapSeq fun _=>(#[]:Array Value))).push (seqObj "tuple" vs.toArray 0)).push (seqObj "list" #[] 0)).get? a=some (seqObj "list" #[] e1):=Heap.get?_push_of_some _ (Heap.get?_push_of_some _ ho1)
 show wpAny (model prog w) A _ P E {s with heap:=((s.heap.update a (Obj.mapSeq fun _=>(#[]:Array Value))).push (seqObj "tuple" vs.toArray 0)).push (seqObj "list" #[] 0)}
 dsimp only
 have hz:(vs.toArray.zip vs.toArray).map (·.2)=vs.toArray:=by
  apply Ya6.mp
  rw [Array.toList_map,Array.toList_zip]
  exact List.map_snd_zip (Yab _)
 have h2:vs.toArray.size<2:=by rw [YaV]; exact h1
 rw [if_pos h2,if_pos h2]
 refine wpAny_bind (wpAny_pure ?_)
 rw [StateT.run_pure]
 refine wpAny_bind (wpAny_pure ?_)
 dsimp only
 refine wpAny_bind (seqEpoch_at ho6 rfl ?_)
 have ez:(arrOf (SortSt.mk' general' (vs.toArray.zip vs.toArray) #[] 7 none)).map (·.2)=vs.toArray:=hz
 rw [ez]
 refine wpAny_bind (listUpdate_at ho6 rfl ?_ (Ybi _) (by rw [YaV,sizeLine_eq]; omega))
 simp only [bne_self_eq_false,YaR,if_false]
 exact wpAny_pure h
theorem sorted_few {l:Addr} {Q:Value→Shared→Prop} (hl:s.heap.IsList l vs.toArray) (h1:vs.length<2) (h:Q (.ref (s.heap.objs.size+1)) {s with heap:=sortedAll s.heap vs vs.toArray}):
  wpAny (model prog w) A (call (.builtin "sorted") [.ref l]) Q E s:=by
 refine Calls.call_function_entry kind_sorted plain_sorted entry_sorted (args_sorted1 _) ?_
 unfold Builtin.«sorted»
 refine wpAny_bind (m:=checkCount "sorted" 1 1 _) (wpAny_pure ?_)
 refine wpAny_bind (collect_list hl ?_ (by rw [sizeLine_eq]; omega))
 refine wpAny_bind (wpAny_newList ?_ (by rw [sizeLine_eq]; omega))
 have hsz:((s.heap.push (seqObj "list" #[] 0)).update s.heap.objs.size (Obj.mapSeq (· ++vs.toArray))).objs.size=s.heap.objs.size+1:=by
  rw [Heap.size_update,size_push']
 have hoL:(((s.heap.push (seqObj "list" #[] 0)).update s.heap.objs.size (Obj.mapSeq (· ++vs.toArray))).push (seqObj "list" vs.toArray 0)).get? (s.heap.objs.size+1)=some (seqObj "list" vs.toArray 0):=by
  rw [←hsz]; exact Heap.get?_push_size _ rfl
 show wpAny _ _ _ _ _ {s with heap:=((s.heap.push (seqObj "list" #[] 0)).update s.heap.objs.size (Obj.mapSeq (· ++vs.toArray))).push (seqObj "list" vs.toArray 0)}
 rw [hsz]
 exact wpAny_bind (wpAny_holding (wpAny_call_entry slot_list_sort ⟨_,hoL,rfl⟩ entry_list_sort (ZdN hoL h1 ⟨_,rfl,wpAny_pure ⟨_,rfl,h⟩⟩) (args_list_sort _)))
theorem lt_own {K:Frag} {x C f:Addr} {ox:Obj} {od:Option Obj} {b:Value} {Q:Bool→Shared→Prop} (hu:A.units<cLine) (kin:K.In s.heap) (I:InstAt s.heap x ox C od) (hs:findIn K (.ref C) "__lt__"=some (some (.ref f))) (hf:isFn K (.ref f)=true)
  (h:wpAny (model prog w) A (call (.ref f) [.ref x,b]) (PySem.W.BoolBack Q) E s):wpAny (model prog w) A (keyLt' oneType' (.ref x) b) Q E s:=by
 rw [keyLt'_oneType,oneLt'_eq]
 simp only [if_true]
 refine wpAny_bind (wpAny_cRoomFor hu ?_)
 refine wpAny_bind (ifBound_K kin I hs hf (wpAny_mono h (fun v s' hv=> ?_) fun _ _ e=>e))
 cases v<;>first | exact hv.elim | skip
 exact wpAny_truthy_bool hv
end
end KSO
namespace MP
open PySem PySem.Spec PyProof.Rows L2
def ZgF (tb:Zap) (x y:SV):Zaa→Res Bool:=fun S=>match Zb6 S x with
 | some c=>(match tb.lookup c with
  | some f=>(ZeN (f [x,y] S)).bind fun v S1=>match v with
   | .bl b=> .ok b S1
   | _=> .bad
  | none=> .bad)
 | none=> .bad
def ZiO {α:Type} (cmp:Nat→Nat→Zaa→Res Bool):PySem.W.KasT α→Zaa→Res α
 | .ret a,S=> .ok a S
 | .ask i j k,S=>(cmp i j S).bind fun b S1=>ZiO cmp (k b) S1
def ZhX (S:Zaa) (ys:List SV):Bool:=match ys with
 | y::_=>(match Zb6 S y with
  | some c=>ys.all fun z=>decide (Zb6 S z=some c)
  | none=>false)
 | []=>false
def ZoQ (ys:List SV) (p:Array Nat):List SV:=p.toList.map fun i=>ys.getD i .non
def sortOwn (tb:Zap):List SV→M SV:=fun xs S=>match xs with
 | [.ref m]=>(match ZaJ S m with
  | some ys=>if ys.length<2 then .ok (.ref S.length) (S++[.lst ys])else if 2≤ys.length∧ys.length<64∧ZhX S ys=true then (ZiO (fun i j=>ZgF tb (ys.getD i .non) (ys.getD j .non)) (PySem.W.kas_sort ys.length) S).bind fun p S1=>if p.size=ys.length∧(∀i∈p.toList,i<ys.length)then .ok (.ref S1.length) (S1++[.lst (ZoQ ys p)])else .bad else .bad
  | none=> .bad)
 | _=> .bad
section
variable {g:G} {w w1:Wd} {H H1:Hp} {S:Zaa} {D:Addr} {od:Obj} {φ:Heap→Prop}
theorem Sim.offD' (s:Sim g w H S) (hD:H D=some (.frz od (.ext φ))) {H2:Hp} (he:∀b,b≠D→H2 b=H b):Sim g w H2 S:=by
 have ne:∀b v,H b=some v→(∀o' φ',v≠ .frz o' (.ext φ'))→b≠D:=fun b v e h z=>by
  rw [z,hD]at e
  cases e
  exact h _ _ rfl
 refine⟨s.len,s.inj,fun i o e=> ?_,fun p hp=> ?_⟩
 ·have a:=s.obj i o e
  refine a.monoT (d:=D) (fun b ys q=> ?_) (fun b hb=>he b hb) (fun od' xs q=> ?_) fun nf z=> ?_
  ·rw [he b (ne _ _ q (fun _ _ z=>nomatch z))]
   exact q
  ·rw [hD]at q
   cases q
  ·rw [z]at a
   cases o with
   | frz xs=>exact nf.elim
   | lst xs=>obtain⟨_,q,_⟩:=a; rw [hD]at q; cases q
   | dK xs=>obtain⟨_,q,_⟩:=a; rw [hD]at q; cases q
   | dT xs=>obtain⟨_,q,_⟩:=a; rw [hD]at q; cases q
   | dF xs=>obtain⟨_,_,q,_⟩:=a; rw [hD]at q; cases q
   | dG xs=>obtain⟨_,_,q,_⟩:=a; rw [hD]at q; cases q
   | ins c fs=>obtain⟨_,_,q,_⟩:=a; rw [hD]at q; cases q
 ·obtain⟨ps,h1,h2,h3⟩:=s.tab p hp
  refine⟨ps,by rw [he _ (ne _ _ h1 (fun _ _ z=>nomatch z))]; exact h1,h2,fun pos cv hc=> ?_⟩
  obtain⟨c,e1,e2⟩:=h3 pos cv hc
  exact⟨c,e1,by rw [he _ (ne _ _ e2 (fun _ _ z=>nomatch z))]; exact e2⟩
end
section
variable {X:Cx} {n:Nm} {W:WX} {gd:Bool} {k:Nat} {tb:Zap} {dn:Str} {c:String} {m:List SV→M SV}
theorem Zcr.run3 (O:Zcr X n k gd dn c m) (C:Cok X W (k+2) gd):∃f,Meth X.K (n.cl c) dn f∧∀{pins:List (Addr × Obj)} {σ:L2.St} {H:Hp} {s:Shared} {Q:VK} {E:Value→Shared→Prop} {us:List Value} {vs:List V} {xs:List SV} {w:Wd} {S:Zaa},Inv X pins σ H s→Vals vs us→Sim (gx X n) w H S→VRs (gx X n) w H xs vs→
  Out (m xs S) (KV (gx X n) w H Q) (fun _ _=>False)→wpAny (model X.prog X.w) X.A.in1.in1 (call (.ref f) us) (EP X pins σ Q) E s:=by
 obtain⟨f,fd,ps,dxs,j,gc,m',hm,F,D,e,hj,hg⟩:=O.ex
 refine⟨f,hm,fun{pins σ H s Q E us vs xs w S} I r sm rs h=> ?_⟩
 rw [e xs]at h
 obtain⟨dvs,ds,rd,hb,hd⟩:=D.ex
 have rs2:=rs.append (hd w H)
 have r2:=r.append rd
 have hl:(vs++dvs).length=ps.length:=by
  refine Classical.byContradiction fun z=> ?_
  rw [F.ar (xs++dxs) S (by rw [←rs2.len]; exact z)]at h
  exact h
 have hl2:(us++ds).length=ps.length:=by rw [←r2.length]; exact hl
 have h':Out (m' (xs++dxs) S) (KV (gx X n) w H Q) (KX (gx X n) w H fun cls d H'=>False):=h.imp (fun _ _ z=>z) fun _ _ z=>z.elim
 refine wpAny_call (codeAny_mono (F.fn.run X.A.in1.in1 X.stack s H ⟨us,[]⟩ _ _ Q (fun cls d H'=>False) (fun z=>C.gs (hg z)) ((show Room (j+1) X.A.in1 from (show Room (j+1+1) X.A from C.room.mono (by omega)).in1).in1) I.env0.in1.in1 (hb s us I.kIn hl2) r2 ⟨hl,w,S,_,sm,rs2,h'⟩) fun r s' hq=> ?_)
 cases r with
 | error e=>
  have z:XE X (fun _ _ _ _=>False) e s':=XE.of_call I (fun _ _ _ h=>h) hq
  obtain⟨_,_,_,_,_,_,_,_,_,_,_,_,_,_,_,_,z⟩:=z
  exact z.elim
 | ok fl=>
  cases fl with
  | ret u=>exact I.after hq
  | next=>exact hq.elim
  | brk=>exact hq.elim
  | cont=>exact hq.elim
theorem ZgG {g:G} {w:Wd} {H:Hp} {ys:List SV} {vs:List V} {us:List Value} (rs:VRs g w H ys vs) (rv:Vals vs us) (i:Nat):∃v,VR g w H (ys.getD i .non) v∧RelV v (us.getD i Value.none):=by
 rw [Ybl,Ybl]
 cases q:ys[i]? with
 | some x=>
  obtain⟨v,h1,r1⟩:=rs.get q
  obtain⟨u,h2,r2⟩:=rv.get h1
  rw [h2]
  exact⟨v,r1,r2⟩
 | none=>
  have h1:us[i]? =none:=by
   rw [Yay]at q⊢
   have:=rv.length
   have:=rs.len
   omega
  rw [h1]
  exact⟨.non,by simp [VR],rfl⟩
theorem ZgH {α:Type} (C:Cok X W (k+2) gd) (T:Zaw X n k gd "__lt__" tb) {pins:List (Addr × Obj)} {σ:L2.St} {ys:List SV} {vs:List V} {us:List Value} {D:Addr} {od:Obj} {φ:Heap→Prop} (G0:α→Shared→Prop) (rv:Vals vs us):∀(t:PySem.W.KasT α) (S:Zaa) (s:Shared) (w:Wd) (H:Hp),Inv X pins σ H s→Sim (gx X n) w H S→VRs (gx X n) w H ys vs→H D=some (.frz od (.ext φ))→
  Out (ZiO (fun i j=>ZgF tb (ys.getD i .non) (ys.getD j .non)) t S) (fun a S1=>∀w1 H1 s1,w.Le w1→Zag H H1→Sim (gx X n) w1 H1 S1→H1 D=some (.frz od (.ext φ))→Inv X pins σ H1 s1→G0 a s1) (fun _ _=>False)→
  t.kasWp (PySem.W.kas_ask X.prog X.w X.A.in1.in1 oneType' us) G0 s
 | .ret a,S,s,w,H,I,sm,rs,hD,h=>h w H s (Wd.Le.refl w) (Yb9 H) sm hD I
 | .ask i j f,S,s,w,H,I,sm,rs,hD,h=>by
  have h:Out ((ZgF tb (ys.getD i .non) (ys.getD j .non) S).bind fun b S1=>ZiO (fun i j=>ZgF tb (ys.getD i .non) (ys.getD j .non)) (f b) S1) (fun a S1=>∀w1 H1 s1,w.Le w1→Zag H H1→Sim (gx X n) w1 H1 S1→H1 D=some (.frz od (.ext φ))→Inv X pins σ H1 s1→G0 a s1) (fun _ _=>False):=h
  have h:=Yb5 h
  obtain⟨v1,r1,u1⟩:=ZgG rs rv i
  obtain⟨v2,r2,u2⟩:=ZgG rs rv j
  show wpAny (model X.prog X.w) X.A.in1.in1 (keyLt' oneType' (us.getD i Value.none) (us.getD j Value.none)) (fun b s'=>(f b).kasWp (PySem.W.kas_ask X.prog X.w X.A.in1.in1 oneType' us) G0 s') (fun _ _=>False) s
  generalize us.getD i Value.none=x1 at *
  generalize us.getD j Value.none=x2 at *
  generalize ys.getD i .non=y1 at h r1
  generalize ys.getD j .non=y2 at h r2
  unfold ZgF at h
  cases q:Zb6 S y1 with
  | none=>rw [q]at h; exact h.elim
  | some c=>
   rw [q]at h
   simp only at h
   cases q2:tb.lookup c with
   | none=>rw [q2]at h; exact h.elim
   | some f0=>
    rw [q2]at h
    simp only at h
    obtain⟨a,dx,fs,ox,od',rfl,rfl,ha,J⟩:=ZeL I sm r1 u1 q
    obtain⟨fa,hm,go⟩:=(T.look q2).run3 C
    have un:X.A.in1.in1.units<cLine:=by
     have:=(show Room k X.A.in1.in1 from (show Room (k+1) X.A.in1 from (show Room (k+1+1) X.A from C.room.mono (by omega)).in1).in1).units
     omega
    refine KSO.lt_own un I.kIn J hm.at_ hm.fn (thn (go (Q:=fun v H2=>∃b,v= .bl b∧∃w1 S1,w.Le w1∧Zag H H2∧Sim (gx X n) w1 H2 S1∧Out (ZiO (fun i j=>ZgF tb (ys.getD i .non) (ys.getD j .non)) (f b) S1) (fun a S1=>∀w1 H1 s1,w.Le w1→Zag H H1→Sim (gx X n) w1 H1 S1→H1 D=some (.frz od (.ext φ))→Inv X pins σ H1 s1→G0 a s1) (fun _ _=>False)) I (us:=[.ref a,x2]) (vs:=[.ref a,v2]) (.cons rfl (.cons u2 .nil)) sm (by
     simp only [VRs]
     exact⟨_,_,rfl,r1,_,_,rfl,r2,rfl⟩) ((Out.bindN h).imp (fun v S2 h2=> ?_) fun _ _ z=>z)) fun u' s2 z=> ?_)
    ·intro w2 H2 u l2 k2 s2 r2
     split at h2
     ·rename_i b
      exact⟨b,r2.b,w2,S2,l2,k2,s2,h2⟩
     ·exact h2.elim
    ·obtain⟨v,H2,I2,rv2,b,rfl,w1,S1,l1,k1,s1',h3⟩:=z
     obtain rfl:u'=Value.bool b:=rv2
     show (f b).kasWp _ _ _
     exact ZgH C T G0 rv (f b) S1 s2 w1 H2 I2 s1' (rs.mono l1 k1) (k1 _ _ hD trivial) (h3.imp (fun a S3 h4 w3 H3 s3 l3 k3=>h4 w3 H3 s3 (l1.trans l3) (k1.trans k3)) fun _ _ z=>z)
theorem NoX.bindR {α β:Type} {r:Res α} {f:α→Zaa→Res β} (h:NoX r) (k:∀x S,NoX (f x S)):NoX (r.bind f):=by
 cases r with
 | ok v S=>exact k v S
 | exc x S=>exact h.elim
 | bad=>trivial
theorem ZkQ (hT:∀{c f},tb.lookup c=some f→True) (x y:SV) (S:Zaa):NoX (ZgF tb x y S):=by
 unfold ZgF
 split
 ·split
  ·exact NoX.of_noExc fun v S=>by split<;>trivial
  ·trivial
 ·trivial
theorem ZgI {α:Type} {cmp:Nat→Nat→Zaa→Res Bool} (hc:∀i j S,NoX (cmp i j S)):∀(t:PySem.W.KasT α) (S:Zaa),NoX (ZiO cmp t S)
 | .ret a,S=>trivial
 | .ask i j k,S=>NoX.bindR (hc i j S) fun b S1=>ZgI hc (k b) S1
theorem ZiP {g:G} {w:Wd} {H:Hp} {ys:List SV} {vs:List V} {us:List Value} (rs:VRs g w H ys vs) (rv:Vals vs us):∀{ps:List Nat},(∀i∈ps,i<ys.length)→∃zs,VRs g w H (ps.map fun i=>ys.getD i .non) zs∧Vals zs (ps.map fun i=>us.getD i Value.none)
 | [],_=>⟨[],YcA, .nil⟩
 | p::ps,h=>by
  obtain⟨v,r1,r2⟩:=ZgG rs rv p
  obtain⟨zs,r3,r4⟩:=ZiP rs rv (ps:=ps) fun i hi=>h i (Yau _ hi)
  exact⟨v::zs,Ycg r1 r3, .cons r2 r4⟩
theorem Za2.sortOwn (C:Cok X W (k+2) gd) (T:Zaw X n k gd "__lt__" tb):Za2 X n (.builtin "sorted") (sortOwn tb) where
 nx:=fun xs S=>by
  unfold MP.sortOwn
  split
  ·split
   ·split
    ·trivial
    ·split
     ·exact NoX.bindR (ZgI (fun i j S=>ZkQ (fun _=>trivial) _ _ S) _ _) fun p S1=>by split<;>trivial
     ·trivial
   ·trivial
  ·trivial
 ex:=by
  refine⟨sCR X n (MP.sortOwn tb),fun pins s σ H xs us Q I rv ⟨w,S,zs,sm,rs,h⟩=> ?_,fun H w S xs vs Q s rs h=>⟨w,S,xs,s,rs,h⟩⟩
  unfold MP.sortOwn at h
  split at h
  ·rename_i m
   split at h
   ·rename_i ys el
    obtain⟨v,rfl,r⟩:=rs.r1
    rw [r.r.2]at rv
    obtain⟨vs,sq,r2⟩:=sm.seq (ZaT el)
    obtain⟨its,rvs,hl,hz⟩:=I.list sq
    rw [Vals.ref1 rv]
    have ZfZ:vs.length=ys.length:=r2.len
    have len2:its.length=ys.length:=by rw [←rvs.length]; exact ZfZ
    split at h
    ·rename_i c1
     refine KSO.sorted_few hl.isList (by rw [len2]; exact c1) ?_
     obtain⟨ep,he'⟩:=PyProof.Rows.sortedAll_at s.heap its its.toArray
     have q:=YcU sm r2 h (s.heap.objs.size+1) (I.hok.fresh (Yaf _))
     exact⟨.ref _,upd H (s.heap.objs.size+1) (.lst vs),I.laid (t':=s.toks) (fun _ _=>PyProof.Rows.sortedAll_old) (Yaf _) ⟨hz,its,ep,rvs,he'⟩,rfl,q⟩
    ·split at h
     ·rename_i c2
      obtain⟨c2,c3,c4⟩:=c2
      obtain⟨c,hc⟩:∃c,∀z∈ys,Zb6 S z=some c:=by
       unfold ZhX at c4
       split at c4
       ·split at c4
        ·rename_i c _
         exact⟨c,fun z hz=>of_decide_eq_true (YaL.mp c4 z hz)⟩
        ·cases c4
       ·cases c4
      have hT:∀h',(∀b o,s.heap.get? b=some o→h'.get? b=some o)→∀u∈its,PySem.W.Looks (model X.prog X.w) h' (typeOf u) (Value.ref (n.cl c)):=fun h' kp u hu=>by
       obtain⟨i,hi,rfl⟩:=List.getElem_of_mem hu
       have hi2:i<ys.length:=by rw [←len2]; exact hi
       obtain⟨v1,e1,q1⟩:=r2.get (YaY hi2)
       obtain⟨u1,e2,q2⟩:=rvs.get e1
       rw [YaY hi]at e2
       cases e2
       obtain⟨a,dx,fs,ox,od',e3,_,_,J⟩:=ZeL I sm q1 q2 (hc _ (Yba hi2))
       rw [e3]
       exact J.type.keeps kp
      refine KSO.sorted_own hl.isList (by rw [len2]; exact c2) (by rw [len2]; exact c3) hT (by simp) fun D e1 h' hge kp hD=> ?_
      rw [len2]
      have hn:H D=none:=I.hok.fresh hge
      have I0:Inv X pins σ (upd H D (.frz (seqObj "list" #[] e1) (.ext fun h=>h.get? D=some (seqObj "list" #[] e1)))) {s with heap:=h'}:=
       I.laid (t':=s.toks) kp hge ⟨hD,hD,⟨_,hD⟩,fun h1 h2 e k=>k _ e⟩
      have sm0:=sm.grow (ZaG (o:= .frz (seqObj "list" #[] e1) (.ext fun h=>h.get? D=some (seqObj "list" #[] e1))) hn)
      have hn0:∀o' u',X.H_0 D≠some (.frz o' u'):=fun o' u' e=>by
       have q:=I.base.frzs D o' u' e
       rw [hn]at q
       cases q
      refine ZgH C T (fun p s'=>p.size=ys.length→_) rvs (PySem.W.kas_sort ys.length) S _ w _ I0 sm0 (r2.mono (Wd.Le.refl w) (Ycs hn)) upd_same ((Yb5 h).imp (fun p S1 h1 w1 H1 s1 l1 k1 sm1 hD1 I1 hp=> ?_) fun _ _ z=>z)
      have g1:s1.heap.get? D=some (seqObj "list" #[] e1):=(I1.hok D _ hD1).1
      refine⟨g1,fun h'' c' sb hc'=> ?_⟩
      split at h1
      ·rename_i c5
       have kv:KV (gx X n) w H Q (.ref S1.length) (S1++[.lst (ZoQ ys p)]):=h1
       have kn:Zag H (fun b=>if b=D then none else H1 b):=fun b o e st=>by
        have ne:b≠D:=fun z=>by rw [z,hn]at e; cases e
        show (if b=D then none else H1 b)=_
        rw [if_neg ne]
        exact k1 b o (by rw [upd_ne ne]; exact e) st
       have smn:Sim (gx X n) w1 (fun b=>if b=D then none else H1 b) S1:=Sim.offD' sm1 hD1 fun b hb=>if_neg hb
       obtain⟨zs,r3,r4⟩:=ZiP (r2.mono l1 kn) rvs c5.2
       have I2:=I1.unlock hD1 hn0
       have hzl:zs.length≤sizeLine:=by
        rw [r4.length,Yaz,Ya9,c5.1,←ZfZ]
        exact hz
       have I3:Inv X pins σ (upd (upd H1 D (.ext fun h=>h.get? D=some (seqObj "list" #[] e1))) D (.lst zs)) {s1 with heap:=h''}:=
        I2.write (x:=D) (e:=D) (t':=s1.toks) (by rw [upd_same]; trivial) (.inl rfl) (fun b u hb e=>(sb.2 b hb).trans e) ⟨_,hc'⟩ ⟨hzl,_,c',r4,hc'⟩
       refine⟨.ref D,_,I3,rfl, ?_⟩
       have q:=YcU smn r3 (Yc1 l1 kn kv) D (if_pos rfl)
       have e3:upd (fun b=>if b=D then none else H1 b) D (.lst zs)=upd (upd H1 D (.ext fun h=>h.get? D=some (seqObj "list" #[] e1))) D (.lst zs):=by
        funext b
        by_cases hb:b=D
        ·rw [hb,upd_same,upd_same]
        ·rw [upd_ne hb,upd_ne hb,upd_ne hb,if_neg hb]
       rw [←e3]
       exact q
      ·exact h1.elim
     ·exact h.elim
   ·exact h.elim
  ·exact h.elim
end
end MP
namespace MP
open PySem PySem.Spec PyProof.Rows L2
def leL (ns ms:List Int):Bool:=Ob.lexAt (fun j=>decide (ns.getD j 0=ms.getD j 0)) (fun j=>decide (ns.getD j 0≤ms.getD j 0)) (decide (ns.length≤ms.length)) 0 (min ns.length ms.length)
def gtL (ns ms:List Int):Bool:=Ob.lexAt (fun j=>decide (ns.getD j 0=ms.getD j 0)) (fun j=>decide (ms.getD j 0<ns.getD j 0)) (decide (ns.length>ms.length)) 0 (min ns.length ms.length)
def geL (ns ms:List Int):Bool:=Ob.lexAt (fun j=>decide (ns.getD j 0=ms.getD j 0)) (fun j=>decide (ms.getD j 0≤ns.getD j 0)) (decide (ns.length≥ms.length)) 0 (min ns.length ms.length)
def tupC (f:List Int→List Int→Bool):SV→SV→M SV:=fun x y S=>match x,y with
 | .tup xs, .tup ys=>(match ZbQ xs,ZbQ ys with
  | some ns,some ms=> .ok (.bl (f ns ms)) S
  | _,_=> .bad)
 | _,_=> .bad
def rCT (f:List Int→List Int→Bool) (K:PySem.W.Frag):R2:=fun x y H Q=>∃(a b:Addr) (ns ms:List Int),x= .ref a∧y= .ref b∧SqT K H a (ns.map V.int)∧SqT K H b (ms.map V.int)∧Q (.bl (f ns ms)) H
section
variable {X:Cx} {n:Nm}
theorem ZkR (hu:X.A.units<cLine):OpR X (compareOp .LtE) (rCT leL X.K):=by
 intro pins s σ H x y v u Q I rx ry h
 obtain⟨a,b,ns,ms,rfl,rfl,ha,hb,q⟩:=h
 cases rx
 cases ry
 obtain⟨its,r1,p1,_⟩:=I.tuple ha
 obtain⟨its2,r2,p2,_⟩:=I.tuple hb
 have i1:IntsAre its ns:=Vals.ints r1
 have i2:IntsAre its2 ms:=Vals.ints r2
 have e1:its.toArray.size=ns.length:=by rw [YaV]; exact i1.length
 have e2:its2.toArray.size=ms.length:=by rw [YaV]; exact i2.length
 have at1:∀j (h1:j<its.toArray.size),∃t,its.toArray[j]= .int (ns.getD j 0) t:=fun j h1=>PyProof.Rows.IntsAre.int_at i1 _ _ (by simp at h1; simp [h1])
 have at2:∀j (h1:j<its2.toArray.size),∃t,its2.toArray[j]= .int (ms.getD j 0) t:=fun j h1=>PyProof.Rows.IntsAre.int_at i2 _ _ (by simp at h1; simp [h1])
 have R:=Ob.RcOp.tuples_le (A:=X.A) (s:=s) (e:=fun j=>decide (ns.getD j 0=ms.getD j 0)) (r:=fun j=>decide (ns.getD j 0≤ms.getD j 0)) p1 p2 hu (fun j h1 h2=>by
  obtain⟨t,et⟩:=at1 j h1
  obtain⟨t',et'⟩:=at2 j h2
  rw [et,et']
  have z:(ns.getD j 0==ms.getD j 0)=decide (ns.getD j 0=ms.getD j 0):=by
   by_cases q:ns.getD j 0=ms.getD j 0
   ·rw [decide_eq_true q]; exact beq_iff_eq.mpr q
   ·rw [decide_eq_false q]; exact beq_eq_false_iff_ne.mpr q
  rw [←z]
  exact SeqAt.EqAt.int_int _ _ _ _) (fun j h1 h2 _=>by
  obtain⟨t,et⟩:=at1 j h1
  obtain⟨t',et'⟩:=at2 j h2
  rw [et,et']
  exact Ob.RcOp.le_int _ _ _ _)
 rw [e1,e2]at R
 have z:wpAny (model X.prog X.w) X.A (compareOp .LtE (.ref a) (.ref b)) (EP X pins σ Q) X.xe s:=R X.prog X.w X.xe (EP X pins σ Q) ⟨.bl _,H,I,rfl,q⟩
 exact z
theorem Zao.leTu (hu:X.A.units<cLine):Zao X n (compareOp .LtE) (tupC leL) where
 nx:=fun x y S=>by unfold tupC; split<;>(try split)<;>trivial
 ex:=by
  refine⟨_,ZkR hu,fun H w S x y v u Q s rx ry h=> ?_⟩
  unfold tupC at h
  split at h
  ·split at h
   ·rename_i xs ys ns ms e1 e2
    obtain⟨a,vs,q1,h1,r1⟩:=rx.t
    obtain⟨b,us,q2,h2,r2⟩:=ry.t
    rw [Zbg r1 e1]at h1
    rw [Zbg r2 e2]at h2
    exact⟨a,b,ns,ms,q1,q2,SqT.of h1,SqT.of h2,Ycd s h YcB⟩
   ·exact h.elim
  ·exact h.elim
theorem ZkS (hu:X.A.units<cLine):OpR X (compareOp .Gt) (rCT gtL X.K):=by
 intro pins s σ H x y v u Q I rx ry h
 obtain⟨a,b,ns,ms,rfl,rfl,ha,hb,q⟩:=h
 cases rx
 cases ry
 obtain⟨its,r1,p1,_⟩:=I.tuple ha
 obtain⟨its2,r2,p2,_⟩:=I.tuple hb
 have i1:IntsAre its ns:=Vals.ints r1
 have i2:IntsAre its2 ms:=Vals.ints r2
 have e1:its.toArray.size=ns.length:=by rw [YaV]; exact i1.length
 have e2:its2.toArray.size=ms.length:=by rw [YaV]; exact i2.length
 have at1:∀j (h1:j<its.toArray.size),∃t,its.toArray[j]= .int (ns.getD j 0) t:=fun j h1=>PyProof.Rows.IntsAre.int_at i1 _ _ (by simp at h1; simp [h1])
 have at2:∀j (h1:j<its2.toArray.size),∃t,its2.toArray[j]= .int (ms.getD j 0) t:=fun j h1=>PyProof.Rows.IntsAre.int_at i2 _ _ (by simp at h1; simp [h1])
 have R:=Ob.RcOp.tuples_gt (A:=X.A) (s:=s) (e:=fun j=>decide (ns.getD j 0=ms.getD j 0)) (r:=fun j=>decide (ms.getD j 0<ns.getD j 0)) p1 p2 hu (fun j h1 h2=>by
  obtain⟨t,et⟩:=at1 j h1
  obtain⟨t',et'⟩:=at2 j h2
  rw [et,et']
  have z:(ns.getD j 0==ms.getD j 0)=decide (ns.getD j 0=ms.getD j 0):=by
   by_cases q:ns.getD j 0=ms.getD j 0
   ·rw [decide_eq_true q]; exact beq_iff_eq.mpr q
   ·rw [decide_eq_false q]; exact beq_eq_false_iff_ne.mpr q
  rw [←z]
  exact SeqAt.EqAt.int_int _ _ _ _) (fun j h1 h2 _=>by
  obtain⟨t,et⟩:=at1 j h1
  obtain⟨t',et'⟩:=at2 j h2
  rw [et,et']
  exact fun prog w E Q h=>PyProof.Rows.gt_int h)
 rw [e1,e2]at R
 have z:wpAny (model X.prog X.w) X.A (compareOp .Gt (.ref a) (.ref b)) (EP X pins σ Q) X.xe s:=R X.prog X.w X.xe (EP X pins σ Q) ⟨.bl _,H,I,rfl,q⟩
 exact z
theorem Zao.gtTu (hu:X.A.units<cLine):Zao X n (compareOp .Gt) (tupC gtL) where
 nx:=fun x y S=>by unfold tupC; split<;>(try split)<;>trivial
 ex:=by
  refine⟨_,ZkS hu,fun H w S x y v u Q s rx ry h=> ?_⟩
  unfold tupC at h
  split at h
  ·split at h
   ·rename_i xs ys ns ms e1 e2
    obtain⟨a,vs,q1,h1,r1⟩:=rx.t
    obtain⟨b,us,q2,h2,r2⟩:=ry.t
    rw [Zbg r1 e1]at h1
    rw [Zbg r2 e2]at h2
    exact⟨a,b,ns,ms,q1,q2,SqT.of h1,SqT.of h2,Ycd s h YcB⟩
   ·exact h.elim
  ·exact h.elim
theorem ZkT (hu:X.A.units<cLine):OpR X (compareOp .GtE) (rCT geL X.K):=by
 intro pins s σ H x y v u Q I rx ry h
 obtain⟨a,b,ns,ms,rfl,rfl,ha,hb,q⟩:=h
 cases rx
 cases ry
 obtain⟨its,r1,p1,_⟩:=I.tuple ha
 obtain⟨its2,r2,p2,_⟩:=I.tuple hb
 have i1:IntsAre its ns:=Vals.ints r1
 have i2:IntsAre its2 ms:=Vals.ints r2
 have e1:its.toArray.size=ns.length:=by rw [YaV]; exact i1.length
 have e2:its2.toArray.size=ms.length:=by rw [YaV]; exact i2.length
 have at1:∀j (h1:j<its.toArray.size),∃t,its.toArray[j]= .int (ns.getD j 0) t:=fun j h1=>PyProof.Rows.IntsAre.int_at i1 _ _ (by simp at h1; simp [h1])
 have at2:∀j (h1:j<its2.toArray.size),∃t,its2.toArray[j]= .int (ms.getD j 0) t:=fun j h1=>PyProof.Rows.IntsAre.int_at i2 _ _ (by simp at h1; simp [h1])
 have R:=Ob.RcOp.tuples_ge (A:=X.A) (s:=s) (e:=fun j=>decide (ns.getD j 0=ms.getD j 0)) (r:=fun j=>decide (ms.getD j 0≤ns.getD j 0)) p1 p2 hu (fun j h1 h2=>by
  obtain⟨t,et⟩:=at1 j h1
  obtain⟨t',et'⟩:=at2 j h2
  rw [et,et']
  have z:(ns.getD j 0==ms.getD j 0)=decide (ns.getD j 0=ms.getD j 0):=by
   by_cases q:ns.getD j 0=ms.getD j 0
   ·rw [decide_eq_true q]; exact beq_iff_eq.mpr q
   ·rw [decide_eq_false q]; exact beq_eq_false_iff_ne.mpr q
  rw [←z]
  exact SeqAt.EqAt.int_int _ _ _ _) (fun j h1 h2 _=>by
  obtain⟨t,et⟩:=at1 j h1
  obtain⟨t',et'⟩:=at2 j h2
  rw [et,et']
  exact fun prog w E Q h=>PyProof.Rows.ge_int h)
 rw [e1,e2]at R
 have z:wpAny (model X.prog X.w) X.A (compareOp .GtE (.ref a) (.ref b)) (EP X pins σ Q) X.xe s:=R X.prog X.w X.xe (EP X pins σ Q) ⟨.bl _,H,I,rfl,q⟩
 exact z
theorem Zao.geTu (hu:X.A.units<cLine):Zao X n (compareOp .GtE) (tupC geL) where
 nx:=fun x y S=>by unfold tupC; split<;>(try split)<;>trivial
 ex:=by
  refine⟨_,ZkT hu,fun H w S x y v u Q s rx ry h=> ?_⟩
  unfold tupC at h
  split at h
  ·split at h
   ·rename_i xs ys ns ms e1 e2
    obtain⟨a,vs,q1,h1,r1⟩:=rx.t
    obtain⟨b,us,q2,h2,r2⟩:=ry.t
    rw [Zbg r1 e1]at h1
    rw [Zbg r2 e2]at h2
    exact⟨a,b,ns,ms,q1,q2,SqT.of h1,SqT.of h2,Ycd s h YcB⟩
   ·exact h.elim
  ·exact h.elim
end
end MP
namespace MPL
open PySem MP
noncomputable section
def Za9:List SV→M SV:=fun xs=>if xs.length=1 then MP.run 3 (ZbO (Zde (e2 Zkz (eF ZaA (Zac (Zai 0) (Zac (eF ZaL (Zac (Zai 0) (Zac (Zf1 (Zac (eC (.int 4)) (Zac (eC (.int 4)) (Zac (e2 ZhB (eC (.int 10)) (eC (.int 50))) (ZaZ))))) (ZaZ)))) (ZaZ)))) (eF ZaL (Zac (Zai 0) (Zac (Zf1 (Zac (eC (.int 0)) (Zac (eC (.int 2)) (Zac (e2 ZhB (eC (.int 10)) (eC (.int 49))) (ZaZ))))) (ZaZ))))) (Zb8 1)) (ZbO (Zde (eF ZaA (Zac (Zai 0) (Zac (eC (.int 6)) (ZaZ)))) (Zb8 2)) (ZbO (sIf (tB (e2 eqM (Zai 2) (eC (.int 0)))) (Zco (ZfS (Zac (Zai 1) (Zac (eC .non) (ZaZ))))) (Zea)) (Zco (ZfS (Zac (Zai 1) (Zac (e2 Zkz (e2 Zfd (Zai 1) (eF ZaA (Zac (Zai 0) (Zac (eF ZaL (Zac (Zai 0) (Zac (Zf1 (Zac (eC (.int 3)) (Zac (e2 ZhB (eC (.int 10)) (eC (.int 40))) (ZaZ)))) (ZaZ)))) (ZaZ))))) (eF Zjg (Zac (e2 eqM (Zai 2) (eC (.int 1))) (ZaZ)))) (ZaZ)))))))) xs else ZcK
def Zba:List SV→M SV:=fun xs=>if xs.length=3 then MP.run 3 (Zco (Zlr (eF (Ze9 ["Range"] ["int","bool","str","list","tuple","dict"]) (Zac (Zai 0) (Zac (eC (.ty "int")) (ZaZ)))) (Zlr (e1 Zn1 (eF (Ze9 ["Range"] ["int","bool","str","list","tuple","dict"]) (Zac (Zai 0) (Zac (eC (.ty "bool")) (ZaZ))))) (Zfb leM leM (Zai 1) (Zai 0) (Zai 2))))) xs else ZcK
def Zbl:List SV→M SV:=fun xs=>if xs.length=1 then MP.run 1 (Zco (eF Zba (Zac (Zai 0) (Zac (e1 ZkB (eC (.int (999999999999999999999999999999999999999999999999999999999999)))) (Zac (eC (.int (999999999999999999999999999999999999999999999999999999999999))) (ZaZ)))))) xs else ZcK
def Zal:List SV→M SV:=fun xs=>if xs.length=3 then MP.run 4 (ZbO (sIf (Zgc (tT (eF Zbl (Zac (Zai 1) (ZaZ))))) (Zem "InvalidRange" "value" (Zai 1)) (Zea)) (ZbO (sIf (Zn2 (tB (e2 ZkC (Zai 2) (eC .non))) (Zgc (tT (eF Zbl (Zac (Zai 2) (ZaZ)))))) (Zem "InvalidRange" "value" (Zai 2)) (Zea)) (ZbO (Zde (Zlr (e2 ZkC (Zai 2) (eC .non)) (e2 ltM (Zai 2) (Zai 1))) (Zb8 3)) (ZbO (Zls ["Range"] "own_first" (Zai 0) (eIf (tT (Zai 3)) (eC .non) (Zai 1))) (ZbO (Zls ["Range"] "own_last" (Zai 0) (eIf (tT (Zai 3)) (eC .non) (Zai 2))) (ZbO (Zls ["Range"] "rank" (Zai 0) (ZfS (Zac (eC (.int 0)) (Zac (eC (.int 0)) (Zac (eC (.int 0)) (Zac (eC (.int 0)) (ZaZ))))))) (sIf (Zgc (tT (Zai 3))) (Zls ["Range"] "rank" (Zai 0) (ZfS (Zac (eC (.int 1)) (Zac (Zai 1) (Zac (eF Zjg (Zac (e2 isM (Zai 2) (eC .non)) (ZaZ))) (Zac (eIf (tB (e2 isM (Zai 2) (eC .non))) (eC (.int 0)) (Zai 2)) (ZaZ))))))) (Zea)))))))) xs else ZcK
def ZaX:List SV→M SV:=fun xs=>if xs.length=1 then MP.run 3 (ZbO (Zde (Zai 0) (Zjd [Zb8 1,Zb8 2])) (ZbO (sIf (tB (e2 isM (Zai 2) (eC .non))) (Zco (ZfS (Zac (eC (.int 1)) (Zac (Zai 1) (Zac (eC (.int 1)) (Zac (eC (.int 0)) (ZaZ))))))) (Zea)) (Zco (eIf (tB (e2 ltM (Zai 2) (Zai 1))) (ZfS (Zac (eC (.int 0)) (Zac (eC (.int 0)) (Zac (eC (.int 0)) (Zac (eC (.int 0)) (ZaZ)))))) (ZfS (Zac (eC (.int 1)) (Zac (Zai 1) (Zac (eC (.int 0)) (Zac (Zai 2) (ZaZ)))))))))) xs else ZcK
def Zaj:List SV→M SV:=fun xs=>if xs.length=2 then MP.run 2 (Zco (Zlr (eF (Ze9 ["Range"] ["int","bool","str","list","tuple","dict"]) (Zac (Zai 1) (Zac (eC (.cls "Range")) (ZaZ)))) (e2 eqM (e1 (Zd8 ["Range"] "rank") (Zai 0)) (e1 (Zd8 ["Range"] "rank") (Zai 1))))) xs else ZcK
def Zax:List SV→M SV:=fun xs=>if xs.length=2 then MP.run 2 (ZbO (sIf (Zgc (tT (eF (Ze9 ["Range"] ["int","bool","str","list","tuple","dict"]) (Zac (Zai 1) (Zac (eC (.cls "Range")) (ZaZ)))))) (Zco (Zma)) (Zea)) (Zco (e2 ltM (e1 (Zd8 ["Range"] "rank") (Zai 0)) (e1 (Zd8 ["Range"] "rank") (Zai 1))))) xs else ZcK
def ZaO:List SV→M SV:=fun xs=>if xs.length=2 then MP.run 2 (ZbO (sIf (Zgc (tT (eF (Ze9 ["Range"] ["int","bool","str","list","tuple","dict"]) (Zac (Zai 1) (Zac (eC (.cls "Range")) (ZaZ)))))) (Zco (Zma)) (Zea)) (Zco (e2 (tupC leL) (e1 (Zd8 ["Range"] "rank") (Zai 0)) (e1 (Zd8 ["Range"] "rank") (Zai 1))))) xs else ZcK
def ZaP:List SV→M SV:=fun xs=>if xs.length=2 then MP.run 2 (ZbO (sIf (Zgc (tT (eF (Ze9 ["Range"] ["int","bool","str","list","tuple","dict"]) (Zac (Zai 1) (Zac (eC (.cls "Range")) (ZaZ)))))) (Zco (Zma)) (Zea)) (Zco (e2 (tupC gtL) (e1 (Zd8 ["Range"] "rank") (Zai 0)) (e1 (Zd8 ["Range"] "rank") (Zai 1))))) xs else ZcK
def ZaQ:List SV→M SV:=fun xs=>if xs.length=2 then MP.run 2 (ZbO (sIf (Zgc (tT (eF (Ze9 ["Range"] ["int","bool","str","list","tuple","dict"]) (Zac (Zai 1) (Zac (eC (.cls "Range")) (ZaZ)))))) (Zco (Zma)) (Zea)) (Zco (e2 (tupC geL) (e1 (Zd8 ["Range"] "rank") (Zai 0)) (e1 (Zd8 ["Range"] "rank") (Zai 1))))) xs else ZcK
def ZaH:List SV→M SV:=fun xs=>if xs.length=2 then MP.run 8 (ZbO (Zde (ZfS (Zac (eF (Zcf "Range" Zal) (Zac (e2 ixM (Zai 0) (eC (.int 0))) (Zac (e2 ixM (Zai 0) (eC (.int 1))) (ZaZ)))) (Zac (eF (Zcf "Range" Zal) (Zac (e2 ixM (Zai 1) (eC (.int 0))) (Zac (e2 ixM (Zai 1) (eC (.int 1))) (ZaZ)))) (Zac (eF ZaX (Zac (Zai 0) (ZaZ))) (Zac (eF ZaX (Zac (Zai 1) (ZaZ))) (ZaZ)))))) (Zjd [Zb8 2,Zb8 3,Zb8 4,Zb8 5])) (ZbO (Zde (Zf1 (Zac (e2 (orL (ownC [("Range",Zaj)] ["Range"]) eqM) (Zai 2) (Zai 3)) (Zac (e2 (orL (ownN [("Range",Zaj)] ["Range"]) neM) (Zai 2) (Zai 3)) (Zac (e2 (orL (ownC [("Range",Zax)] ["Range"]) ltM) (Zai 2) (Zai 3)) (Zac (e2 (orL (ownC [("Range",ZaO)] ["Range"]) (tupC leL)) (Zai 2) (Zai 3)) (Zac (e2 (orL (ownC [("Range",ZaP)] ["Range"]) (tupC gtL)) (Zai 2) (Zai 3)) (Zac (e2 (orL (ownC [("Range",ZaQ)] ["Range"]) (tupC geL)) (Zai 2) (Zai 3)) (ZaZ)))))))) (Zb8 6)) (ZbO (Zde (Zf1 (Zac (e2 (orL (ownC [("Range",Zaj)] ["Range"]) eqM) (Zai 4) (Zai 5)) (Zac (e2 (orL (ownN [("Range",Zaj)] ["Range"]) neM) (Zai 4) (Zai 5)) (Zac (e2 (orL (ownC [("Range",Zax)] ["Range"]) ltM) (Zai 4) (Zai 5)) (Zac (e2 (orL (ownC [("Range",ZaO)] ["Range"]) (tupC leL)) (Zai 4) (Zai 5)) (Zac (e2 (orL (ownC [("Range",ZaP)] ["Range"]) (tupC gtL)) (Zai 4) (Zai 5)) (Zac (e2 (orL (ownC [("Range",ZaQ)] ["Range"]) (tupC geL)) (Zai 4) (Zai 5)) (ZaZ)))))))) (Zb8 7)) (Zco (e2 (orL (ownC [("Range",Zaj)] ["Range"]) eqM) (eF (Zeh true) (Zac (Zai 6) (ZaZ))) (eF (Zeh true) (Zac (Zai 7) (ZaZ)))))))) xs else ZcK
def Zau:List SV→M SV:=fun xs=>if xs.length=1 then MP.run 1 (Zco (e1 (Zd8 ["Range"] "own_first") (Zai 0))) xs else ZcK
def ZaI:List SV→M SV:=fun xs=>if xs.length=1 then MP.run 1 (Zco (e1 (Zd8 ["Range"] "own_last") (Zai 0))) xs else ZcK
def ZdO:EM:=eF Za9 (Zac (Zai 2) (ZaZ))
def ZdP:SM:=sIf (Zgc (tT (eF ZaH (Zac (Zai 4) (Zac (Zai 5) (ZaZ)))))) (Zco (eC (.bl false))) (Zea)
def ZdQ:SM:=Zlt (Zhk (Zai 3)) (Zb8 5) (ZdP)
def ZdR:SM:=sIf (tOr (tB (e2 (orL (ownC [("Range",Zaj)] ["Range"]) eqM) (eF (Zcf "Range" Zal) (Zac (e2 ixM (e2 ixM (Zai 3) (eC (.int 0))) (eC (.int 0))) (Zac (e2 ixM (e2 ixM (Zai 3) (eC (.int 0))) (eC (.int 1))) (ZaZ)))) (Zai 6))) (Zgc (tB (e2 (orL (ownN [("Range",Zaj)] ["Range"]) neM) (eF (Zcf "Range" Zal) (Zac (e2 ixM (e2 ixM (Zai 3) (eC (.int 0))) (eC (.int 0))) (Zac (e2 ixM (e2 ixM (Zai 3) (eC (.int 0))) (eC (.int 1))) (ZaZ)))) (Zai 6))))) (Zco (eC (.bl false))) (Zea)
def ZdS:EM:=eF (Zcf "Range" Zal) (Zac (e2 ixM (Zai 4) (eC (.int 0))) (Zac (e2 ixM (Zai 4) (eC (.int 1))) (ZaZ)))
def ZdT:EM:=eF ZaX (Zac (Zai 4) (ZaZ))
def ZdU:EM:=eF ZaX (Zac (eIf (tB (e2 isM (e1 (ZdH [] "first" [("Range",Zau)]) (Zai 10)) (eC .non))) (ZfS (Zac (eC (.int 0)) (Zac (e1 ZkB (eC (.int 1))) (ZaZ)))) (ZfS (Zac (e1 (ZdH [] "first" [("Range",Zau)]) (Zai 10)) (Zac (e1 (ZdH [] "last" [("Range",ZaI)]) (Zai 10)) (ZaZ))))) (ZaZ))
def ZdV:SM:=ZbO (Zde (eF Za4 (Zac (Zai 0) (Zac (Zai 1) (ZaZ)))) (Zb8 2)) (ZbO (Zde (eLc (iR1 (e2 Zfd (eC (.int 2)) (eF ZaA (Zac (Zai 2) (Zac (eC (.int 8)) (ZaZ)))))) (Zb8 9) (Zlo) (ZdO) [9]) (Zb8 3)) (ZbO (Zlt (Zhk (Zai 3)) (Zb8 4) (ZdQ)) (ZbO (Zlt (Zhk (Zf1 (Zac (eC .non) (Zac (eC (.int 5)) (Zac (eC (.bl true)) (Zac (eC (.str "empty")) (Zac (e2 ixM (Zai 3) (eC (.int 0))) (Zac (Zf1 (Zac (e2 ixM (e2 ixM (Zai 3) (eC (.int 0))) (eC (.int 0))) (Zac (e2 ixM (e2 ixM (Zai 3) (eC (.int 0))) (eC (.int 1))) (ZaZ)))) (Zac (Zgn) (ZaZ)))))))))) (Zb8 6) (ZdR)) (ZbO (Zde (eF (sortOwn [("Range",Zax)]) (Zac (eLc (Zhk (Zai 3)) (Zb8 4) (Zlo) (ZdS) [4]) (ZaZ))) (Zb8 7)) (ZbO (Zde (eF (Zlv (fun xs S=>Zmp xs S) Zdq ZcY) (Zac (eLc (Zhk (Zai 3)) (Zb8 4) (Zlo) (ZdT) [4]) (ZaZ))) (Zb8 8)) (sIf (tB (e2 (orL (ownN [("Range",Zaj)] ["Range"]) neM) (eLc (Zhk (Zai 7)) (Zb8 10) (Zlo) (ZdU) [10]) (Zai 8))) (Zco (eC (.bl false))) (Zea)))))))
def M_law:List SV→M SV:=fun xs=>if xs.length=1 then MP.run 11 (ZbO (Zlt (iR1 (eF Zlp (Zac (eC (.int 1)) (Zac (eF ZlP (Zac (eC (.int 10)) (Zac (eF Zf3 (Zac (Zai 0) (ZaZ))) (ZaZ)))) (ZaZ))))) (Zb8 1) (ZdV)) (Zco (eC (.bl true)))) xs else ZcK
end
end MPL
namespace MPL
open PySem PySem.Spec PyProof.Rows L2 MP LamX
structure Gs (K:PySem.W.Frag) (mg:Str→Option Value):Prop where
 g_InvalidRange:mg "InvalidRange"=some (.ref (He.ga K "InvalidRange"))
 g_Range:mg "Range"=some (.ref (He.ga K "Range"))
 g__law_choose:mg "_law_choose"=some (.ref (He.ga K "_law_choose"))
 g__law_draw:mg "_law_draw"=some (.ref (He.ga K "_law_draw"))
 g__law_drawn:mg "_law_drawn"=some (.ref (He.ga K "_law_drawn"))
 g__law_key:mg "_law_key"=some (.ref (He.ga K "_law_key"))
 g__law_pair_right:mg "_law_pair_right"=some (.ref (He.ga K "_law_pair_right"))
 g__law_stream:mg "_law_stream"=some (.ref (He.ga K "_law_stream"))
 g_is_between:mg "is_between"=some (.ref (He.ga K "is_between"))
 g_is_limit:mg "is_limit"=some (.ref (He.ga K "is_limit"))
 f_bool:mg "bool"=none
 f_int:mg "int"=none
 f_isinstance:mg "isinstance"=none
 f_len:mg "len"=none
 f_max:mg "max"=none
 f_min:mg "min"=none
 f_range:mg "range"=none
 f_repr:mg "repr"=none
 f_sorted:mg "sorted"=none
 f_super:mg "super"=none
 i_MOST_INTEGER:∃t,mg "MOST_INTEGER"=some (.int (999999999999999999999999999999999999999999999999999999999999) t)
theorem gs {K:PySem.W.Frag} {h:Heap} {mg:Str→Option Value} (X:K.In h) (G:h.Ns mainGlobals mg) (Z:Za6 fas dfs K):Gs K mg where
 g_InvalidRange:=He.glo_ok X G (Z.fact 18 rfl)
 g_Range:=He.glo_ok X G (Z.fact 19 rfl)
 g__law_choose:=He.glo_ok X G (Z.fact 20 rfl)
 g__law_draw:=He.glo_ok X G (Z.fact 21 rfl)
 g__law_drawn:=He.glo_ok X G (Z.fact 22 rfl)
 g__law_key:=He.glo_ok X G (Z.fact 23 rfl)
 g__law_pair_right:=He.glo_ok X G (Z.fact 24 rfl)
 g__law_stream:=He.glo_ok X G (Z.fact 25 rfl)
 g_is_between:=He.glo_ok X G (Z.fact 26 rfl)
 g_is_limit:=He.glo_ok X G (Z.fact 27 rfl)
 f_bool:=He.free_ok X G (Z.fact 28 rfl)
 f_int:=He.free_ok X G (Z.fact 29 rfl)
 f_isinstance:=He.free_ok X G (Z.fact 30 rfl)
 f_len:=He.free_ok X G (Z.fact 31 rfl)
 f_max:=He.free_ok X G (Z.fact 32 rfl)
 f_min:=He.free_ok X G (Z.fact 33 rfl)
 f_range:=He.free_ok X G (Z.fact 34 rfl)
 f_repr:=He.free_ok X G (Z.fact 35 rfl)
 f_sorted:=He.free_ok X G (Z.fact 36 rfl)
 f_super:=He.free_ok X G (Z.fact 37 rfl)
 i_MOST_INTEGER:=He.int_ok X G (Z.fact 1 rfl)
def PM (P:Program):Prop:=((P.main.file:Str)==PySem.Challenge.pw_gaplesskeys_k02_ranges_compared.main.file)=true∧(P.main.scope.names.lookup ("super":Str)).isSome=false
section
variable {P:Program} {w:World} {K:PySem.W.Frag} {mg:Str→Option Value} {base:Heap}
theorem sc0:FnScope ["_law_script","_law_k","_law_cell","_law_size","_law_mixed"] ["_law_script","_law_k"] (defScope d0.st):=⟨rfl,rfl,rfl,by decide+kernel,rfl,by decide+kernel,by decide+kernel⟩
theorem t0 (Z:Za6 fas dfs K) (G:Gs K mg):KF false P w K mg base d0 1 ["_law_script","_law_k"] dd0 Za4:=by
 obtain⟨fd,F⟩:=Z.def_ 0 (d:=d0) rfl
 refine⟨fd,F,YcS (k:=0) F sc0 rfl rfl ?_, ?_⟩
 ·intro X W cdv A outer s H E hX hW C
  subst hX hW
  have hu0:=ZiH C.room
  exact Ycc (Ycy (vs:=[2]) (Yb7) (Ycm 2 C.nd rfl)) (Ycc (YcK (YcI ((Zao.lt (by exact hu0)).w) (Yb3 1 rfl) (Ycj (Za2.len) rfl G.f_len Zgl (Yb1 (Yb3 0 rfl) (Yb8)))) (Yce (Ycy (vs:=[2]) (Ycv (Yb3 0 rfl) (Yb3 1 rfl)) (Ycm 2 C.nd rfl))) (Yct)) (Ycc (Ycy (vs:=[3]) (Ycj (Za2.max C.calm) rfl G.f_max ZiG (Yb1 (Yb3 2 rfl) (Yb1 (Ycu Zao.sub (RE.un Zlu.neg (Yb7)) (Yb3 2 rfl)) (Yb8)))) (Ycm 3 C.nd rfl)) (Ycc (Ycy (vs:=[4]) (Ycu Yc7 (Ycu Yc2 (Ycu Yc8 (Ycu Yc8 (Ycu Yc8 (Ycu Yc7 (Yb3 3 rfl) (Yb7)) (Ycu Yc2 (Ycu Yc2 (Yb7) (Yb3 1 rfl)) (Yb3 1 rfl))) (Ycu Yc2 (Yb7) (Yb3 1 rfl))) (Yb7)) (Yb7)) (Yb7)) (Ycm 4 C.nd rfl)) (Yce (Ycn (Yc9 (Yb1 (Ycu Yc2 (Yb3 3 rfl) (RE.callT Za2.int rfl G.f_int Zfe (Yb1 (Ych ((Zao.ge).w) (Yb3 3 rfl) (Ycu Zao.pow (Yb7) (Yb7))) (Yb8)))) (Yb1 (Yb3 4 rfl) (Yb8)))))))))
 ·exact Za8 (F.bindsN fun _ _ _ _ _ _ us hl=>match us,hl with | [_,_],_=>rfl)
theorem sc1:FnScope ["_law_stream_here","_law_count","_law_result"] ["_law_stream_here","_law_count"] (defScope d1.st):=⟨rfl,rfl,rfl,by decide+kernel,rfl,by decide+kernel,by decide+kernel⟩
theorem t1 (Z:Za6 fas dfs K) (G:Gs K mg):KF false P w K mg base d1 1 ["_law_stream_here","_law_count"] dd1 ZaA:=by
 obtain⟨fd,F⟩:=Z.def_ 1 (d:=d1) rfl
 refine⟨fd,F,YcS (k:=0) F sc1 rfl rfl ?_, ?_⟩
 ·intro X W cdv A outer s H E hX hW C
  subst hX hW
  exact Ycc (YcK (YcI ((Zao.gt).w) (Ycv (Yb3 0 rfl) (Yb7)) (Yb7)) (Ycc (Ycy (vs:=[2]) (Ycu Yc7 (Ycv (Yb3 0 rfl) (Yb7)) (Yb3 1 rfl)) (Ycm 2 C.nd rfl)) (Ycc (Ycy (vs:=[]) (Ycu Zao.div (Ycv (Yb3 0 rfl) (Yb7)) (Yb3 1 rfl)) (RG.ix (Yb3 0 rfl) (Yb7))) (Yce (Ycn (Yb3 2 rfl))))) (Yct)) (Ycc (Ycy (vs:=[]) (Ycu Yc7 (Ycu Yc8 (Ycu Yc2 (Ycv (Yb3 0 rfl) (Yb7)) (Yb7)) (Yb7)) (Yb7)) (RG.ix (Yb3 0 rfl) (Yb7))) (Yce (Ycn (Ycu Yc7 (Ycu Zao.div (Ycu Yc7 (Ycu Yc2 (Ycv (Yb3 0 rfl) (Yb7)) (Ycv (Yb3 0 rfl) (Yb7))) (Yb7)) (Yb7)) (Yb3 1 rfl)))))
 ·exact Za8 (F.bindsN fun _ _ _ _ _ _ us hl=>match us,hl with | [_,_],_=>rfl)
theorem sc2:FnScope ["_law_stream_here","_law_items"] ["_law_stream_here","_law_items"] (defScope d2.st):=⟨rfl,rfl,rfl,by decide+kernel,rfl,by decide+kernel,by decide+kernel⟩
theorem t2 (Z:Za6 fas dfs K) (G:Gs K mg) (h0:KF false P w K mg base d1 1 ["_law_stream_here","_law_count"] dd1 ZaA):KF false P w K mg base d2 2 ["_law_stream_here","_law_items"] dd2 ZaL:=by
 obtain⟨fd_h0,KWFD_h0,h0F,h0D⟩:=h0
 obtain⟨fd,F⟩:=Z.def_ 2 (d:=d2) rfl
 refine⟨fd,F,YcS (k:=1) F sc2 rfl rfl ?_, ?_⟩
 ·intro X W cdv A outer s H E hX hW C
  subst hX hW
  exact Yce (Ycn (Ycv (Yb3 1 rfl) (Yci C h0F (h0D [] (.head _)).to rfl G.g__law_draw (Yb1 (Yb3 0 rfl) (Yb1 (Ycj (Za2.len) rfl G.f_len Zgl (Yb1 (Yb3 1 rfl) (Yb8))) (Yb8))))))
 ·exact Za8 (F.bindsN fun _ _ _ _ _ _ us hl=>match us,hl with | [_,_],_=>rfl)
theorem sc3:FnScope ["_law_stream_here","_law_one","_law_way"] ["_law_stream_here"] (defScope d3.st):=⟨rfl,rfl,rfl,by decide+kernel,rfl,by decide+kernel,by decide+kernel⟩
theorem t3 (Z:Za6 fas dfs K) (G:Gs K mg) (h0:KF false P w K mg base d1 1 ["_law_stream_here","_law_count"] dd1 ZaA) (h1:KF false P w K mg base d2 2 ["_law_stream_here","_law_items"] dd2 ZaL):KF false P w K mg base d3 3 ["_law_stream_here"] dd3 Za9:=by
 obtain⟨fd_h0,KWFD_h0,h0F,h0D⟩:=h0
 obtain⟨fd_h1,KWFD_h1,h1F,h1D⟩:=h1
 obtain⟨fd,F⟩:=Z.def_ 3 (d:=d3) rfl
 refine⟨fd,F,YcS (k:=2) F sc3 rfl rfl ?_, ?_⟩
 ·intro X W cdv A outer s H E hX hW C
  subst hX hW
  have hu64:=ZhH C.room
  exact Ycc (Ycy (vs:=[1]) (Ycu Zao.sub (Yci C h0F (h0D [] (.head _)).to rfl G.g__law_draw (Yb1 (Yb3 0 rfl) (Yb1 (Yci C h1F (h1D [] (.head _)).to rfl G.g__law_choose (Yb1 (Yb3 0 rfl) (Yb1 (Yc9 (Yb1 (Yb7) (Yb1 (Yb7) (Yb1 (Ycu Zao.pow (Yb7) (Yb7)) (Yb8))))) (Yb8)))) (Yb8)))) (Yci C h1F (h1D [] (.head _)).to rfl G.g__law_choose (Yb1 (Yb3 0 rfl) (Yb1 (Yc9 (Yb1 (Yb7) (Yb1 (Yb7) (Yb1 (Ycu Zao.pow (Yb7) (Yb7)) (Yb8))))) (Yb8))))) (Ycm 1 C.nd rfl)) (Ycc (Ycy (vs:=[2]) (Yci C h0F (h0D [] (.head _)).to rfl G.g__law_draw (Yb1 (Yb3 0 rfl) (Yb1 (Yb7) (Yb8)))) (Ycm 2 C.nd rfl)) (Ycc (YcK (YcI ((Ydb (by exact hu64)).w) (Yb3 2 rfl) (Yb7)) (Yce (Ycn (YcV (Yb1 (Yb3 1 rfl) (Yb1 (YcW) (Yb8)))))) (Yct)) (Yce (Ycn (YcV (Yb1 (Yb3 1 rfl) (Yb1 (Ycu Zao.sub (Ycu Yc8 (Yb3 1 rfl) (Yci C h0F (h0D [] (.head _)).to rfl G.g__law_draw (Yb1 (Yb3 0 rfl) (Yb1 (Yci C h1F (h1D [] (.head _)).to rfl G.g__law_choose (Yb1 (Yb3 0 rfl) (Yb1 (Yc9 (Yb1 (Yb7) (Yb1 (Ycu Zao.pow (Yb7) (Yb7)) (Yb8)))) (Yb8)))) (Yb8))))) (RE.callT Za2.int rfl G.f_int Zfe (Yb1 (Ych ((Ydb (by exact hu64)).w) (Yb3 2 rfl) (Yb7)) (Yb8)))) (Yb8))))))))
 ·exact Za8 (F.bindsN fun _ _ _ _ _ _ us hl=>match us,hl with | [_],_=>rfl)
theorem sc4:FnScope ["value","least","most"] ["value","least","most"] (defScope d4.st):=⟨rfl,rfl,rfl,by decide+kernel,rfl,by decide+kernel,by decide+kernel⟩
theorem t4 (Z:Za6 fas dfs K) (G:Gs K mg):KF false P w K mg base d4 1 ["value","least","most"] dd4 Zba:=by
 obtain⟨fd,F⟩:=Z.def_ 4 (d:=d4) rfl
 refine⟨fd,F,YcS (k:=0) F sc4 rfl rfl ?_, ?_⟩
 ·intro X W cdv A outer s H E hX hW C
  subst hX hW
  exact Yce (Ycn (RE.and (Ycj (Yc3 (Zbs (Z.fact 0 rfl))) rfl G.f_isinstance ZaK (Yb1 (Yb3 0 rfl) (Yb1 (RE.bty (T:= "int") rfl G.f_int Zfe) (Yb8)))) (RE.and (RE.not (Ycj (Yc3 (Zbs (Z.fact 0 rfl))) rfl G.f_isinstance ZaK (Yb1 (Yb3 0 rfl) (Yb1 (RE.bty (T:= "bool") rfl G.f_bool ZkG) (Yb8))))) (RE.one (RE.chain (Zao.le) (Zao.le) (Yb3 1 rfl) (Yb3 0 rfl) (Yb3 2 rfl))))))
 ·exact Za8 (F.bindsN fun _ _ _ _ _ _ us hl=>match us,hl with | [_,_,_],_=>rfl)
theorem sc5:FnScope ["value"] ["value"] (defScope d5.st):=⟨rfl,rfl,rfl,by decide+kernel,rfl,by decide+kernel,by decide+kernel⟩
theorem t5 (Z:Za6 fas dfs K) (G:Gs K mg) (h0:KF false P w K mg base d4 1 ["value","least","most"] dd4 Zba):KF false P w K mg base d5 2 ["value"] dd5 Zbl:=by
 obtain⟨fd_h0,KWFD_h0,h0F,h0D⟩:=h0
 obtain⟨fd,F⟩:=Z.def_ 5 (d:=d5) rfl
 refine⟨fd,F,YcS (k:=1) F sc5 rfl rfl ?_, ?_⟩
 ·intro X W cdv A outer s H E hX hW C
  subst hX hW
  exact Yce (Ycn (Yci C h0F (h0D [] (.head _)).to rfl G.g_is_between (Yb1 (Yb3 0 rfl) (Yb1 (RE.un Zlu.neg (RE.gint (i:=999999999999999999999999999999999999999999999999999999999999) rfl (G.i_MOST_INTEGER))) (Yb1 (RE.gint (i:=999999999999999999999999999999999999999999999999999999999999) rfl (G.i_MOST_INTEGER)) (Yb8))))))
 ·exact Za8 (F.bindsN fun _ _ _ _ _ _ us hl=>match us,hl with | [_],_=>rfl)
theorem t6 (Z:Za6 fas dfs K) (G:Gs K mg) (HP:PM P):Znu P K mg (nmOf K) "InvalidRange" "value":=
 ZkI (v:= "value") (ZhK MPX.base_ValueError (Z.fact 2 rfl) (Z.raw 6) rfl rfl) ⟨⟨_,_,_,_,_,_,_,_,_,_,_,_,rfl,rfl⟩,⟨_,rfl,rfl⟩,rfl,rfl,rfl,rfl,⟨by decide,by decide⟩,by decide+kernel,rfl,rfl,rfl,fun _ _ _ _ _ _ _ _ _ _ _=>rfl⟩ HP.1 HP.2 G.f_super
theorem sc7:FnScope ["self","first","last","is_none"] ["self","first","last"] (defScope d7.st):=⟨rfl,rfl,rfl,by decide+kernel,rfl,by decide+kernel,by decide+kernel⟩
theorem t7 (Z:Za6 fas dfs K) (G:Gs K mg) (h0:KF false P w K mg base d5 2 ["value"] dd5 Zbl) (h1:Znu P K mg (nmOf K) "InvalidRange" "value"):KF false P w K mg base d7 3 ["self","first","last"] dd7 Zal:=by
 obtain⟨fd_h0,KWFD_h0,h0F,h0D⟩:=h0
 obtain⟨fd,F⟩:=Z.def_ 7 (d:=d7) rfl
 refine⟨fd,F,YcS (k:=2) F sc7 rfl rfl ?_, ?_⟩
 ·intro X W cdv A outer s H E hX hW C
  subst hX hW
  have hu0:=ZiH C.room
  exact Ycc (YcK (Yc4 (YcT (Yci C h0F (h0D [] (.head _)).to rfl G.g_is_limit (Yb1 (Yb3 1 rfl) (Yb8))))) (Yce (RS.raise_ C h1 (Yb3 1 rfl) rfl G.g_InvalidRange)) (Yct)) (Ycc (YcK (RW.pt (RW.and (YcI ((Zao.isn).w) (Yb3 2 rfl) (YcW)) (RW.and1 (Yc4 (YcT (Yci C h0F (h0D [] (.head _)).to rfl G.g_is_limit (Yb1 (Yb3 2 rfl) (Yb8)))))))) (Yce (RS.raise_ C h1 (Yb3 2 rfl) rfl G.g_InvalidRange)) (Yct)) (Ycc (Ycy (vs:=[3]) (RE.and (Ych ((Zao.isn).w) (Yb3 2 rfl) (YcW)) (RE.one (Ych ((Zao.lt (by exact hu0)).w) (Yb3 2 rfl) (Yb3 1 rfl)))) (Ycm 3 C.nd rfl)) (Ycc (RS.fld (f:= "own_first") (cs:=["Range"]) (ZaF (Z.fact 3 rfl)) (Yb3 0 rfl) (RE.ifx (YcT (Yb3 3 rfl)) (YcW) (Yb3 1 rfl))) (Ycc (RS.fld (f:= "own_last") (cs:=["Range"]) (ZaF (Z.fact 4 rfl)) (Yb3 0 rfl) (RE.ifx (YcT (Yb3 3 rfl)) (YcW) (Yb3 2 rfl))) (Ycc (RS.fld (f:= "rank") (cs:=["Range"]) (ZaF (Z.fact 5 rfl)) (Yb3 0 rfl) (YcV (Yb1 (Yb7) (Yb1 (Yb7) (Yb1 (Yb7) (Yb1 (Yb7) (Yb8))))))) (Yce (YcK (Yc4 (YcT (Yb3 3 rfl))) (Yce (RS.fld (f:= "rank") (cs:=["Range"]) (ZaF (Z.fact 5 rfl)) (Yb3 0 rfl) (YcV (Yb1 (Yb7) (Yb1 (Yb3 1 rfl) (Yb1 (RE.callT Za2.int rfl G.f_int Zfe (Yb1 (Ych ((Zao.is_).w) (Yb3 2 rfl) (YcW)) (Yb8))) (Yb1 (RE.ifx (YcI ((Zao.is_).w) (Yb3 2 rfl) (YcW)) (Yb7) (Yb3 2 rfl)) (Yb8)))))))) (Yct))))))))
 ·exact Za8 (F.bindsN fun _ _ _ _ _ _ us hl=>match us,hl with | [_,_,_],_=>rfl)
theorem sc8:FnScope ["_law_ends","_law_one","_law_other"] ["_law_ends"] (defScope d8.st):=⟨rfl,rfl,rfl,by decide+kernel,rfl,by decide+kernel,by decide+kernel⟩
theorem t8 (Z:Za6 fas dfs K) (G:Gs K mg):KF false P w K mg base d8 1 ["_law_ends"] dd8 ZaX:=by
 obtain⟨fd,F⟩:=Z.def_ 8 (d:=d8) rfl
 refine⟨fd,F,YcS (k:=0) F sc8 rfl rfl ?_, ?_⟩
 ·intro X W cdv A outer s H E hX hW C
  subst hX hW
  have hu0:=ZiH C.room
  exact Ycc (Ycy (vs:=[1,2]) (Yb3 0 rfl) (RG.tup C.calm (YcX (Ycm 1 C.nd rfl) (YcX (Ycm 2 C.nd rfl) (RGs.nil))))) (Ycc (YcK (YcI ((Zao.is_).w) (Yb3 2 rfl) (YcW)) (Yce (Ycn (YcV (Yb1 (Yb7) (Yb1 (Yb3 1 rfl) (Yb1 (Yb7) (Yb1 (Yb7) (Yb8)))))))) (Yct)) (Yce (Ycn (RE.ifx (YcI ((Zao.lt (by exact hu0)).w) (Yb3 2 rfl) (Yb3 1 rfl)) (YcV (Yb1 (Yb7) (Yb1 (Yb7) (Yb1 (Yb7) (Yb1 (Yb7) (Yb8)))))) (YcV (Yb1 (Yb7) (Yb1 (Yb3 1 rfl) (Yb1 (Yb7) (Yb1 (Yb3 2 rfl) (Yb8))))))))))
 ·exact Za8 (F.bindsN fun _ _ _ _ _ _ us hl=>match us,hl with | [_],_=>rfl)
theorem sc9:FnScope ["self","other"] ["self","other"] (defScope d9.st):=⟨rfl,rfl,rfl,by decide+kernel,rfl,by decide+kernel,by decide+kernel⟩
theorem t9 (Z:Za6 fas dfs K) (G:Gs K mg):KF false P w K mg base d9 1 ["self","other"] dd9 Zaj:=by
 obtain⟨fd,F⟩:=Z.def_ 9 (d:=d9) rfl
 refine⟨fd,F,YcS (k:=0) F sc9 rfl rfl ?_, ?_⟩
 ·intro X W cdv A outer s H E hX hW C
  subst hX hW
  have hu64:=ZhH C.room
  exact Yce (Ycn (RE.and (Ycj (Yc3 (Zbs (Z.fact 0 rfl))) rfl G.f_isinstance ZaK (Yb1 (Yb3 1 rfl) (Yb1 (RE.gcls (c:= "Range") rfl G.g_Range) (Yb8)))) (RE.one (Ych ((Ydb (by exact hu64)).w) (YcQ (f:= "rank") (cs:=["Range"]) (ZaF (Z.fact 5 rfl)) (Yb3 0 rfl)) (YcQ (f:= "rank") (cs:=["Range"]) (ZaF (Z.fact 5 rfl)) (Yb3 1 rfl))))))
 ·exact Za8 (F.bindsN fun _ _ _ _ _ _ us hl=>match us,hl with | [_,_],_=>rfl)
theorem Zo7:FnScope ["self","other"] ["self","other"] (defScope d10.st):=⟨rfl,rfl,rfl,by decide+kernel,rfl,by decide+kernel,by decide+kernel⟩
theorem t10 (Z:Za6 fas dfs K) (G:Gs K mg):KF false P w K mg base d10 1 ["self","other"] Zn5 Zax:=by
 obtain⟨fd,F⟩:=Z.def_ 10 (d:=d10) rfl
 refine⟨fd,F,YcS (k:=0) F Zo7 rfl rfl ?_, ?_⟩
 ·intro X W cdv A outer s H E hX hW C
  subst hX hW
  have hu0:=ZiH C.room
  exact Ycc (YcK (Yc4 (YcT (Ycj (Yc3 (Zbs (Z.fact 0 rfl))) rfl G.f_isinstance ZaK (Yb1 (Yb3 1 rfl) (Yb1 (RE.gcls (c:= "Range") rfl G.g_Range) (Yb8)))))) (Yce (Ycn (RE.never))) (Yct)) (Yce (Ycn (Ych ((Zao.lt (by exact hu0)).w) (YcQ (f:= "rank") (cs:=["Range"]) (ZaF (Z.fact 5 rfl)) (Yb3 0 rfl)) (YcQ (f:= "rank") (cs:=["Range"]) (ZaF (Z.fact 5 rfl)) (Yb3 1 rfl)))))
 ·exact Za8 (F.bindsN fun _ _ _ _ _ _ us hl=>match us,hl with | [_,_],_=>rfl)
theorem Zo8:FnScope ["self","other"] ["self","other"] (defScope d11.st):=⟨rfl,rfl,rfl,by decide+kernel,rfl,by decide+kernel,by decide+kernel⟩
theorem t11 (Z:Za6 fas dfs K) (G:Gs K mg):KF false P w K mg base d11 1 ["self","other"] ZoD ZaO:=by
 obtain⟨fd,F⟩:=Z.def_ 11 (d:=d11) rfl
 refine⟨fd,F,YcS (k:=0) F Zo8 rfl rfl ?_, ?_⟩
 ·intro X W cdv A outer s H E hX hW C
  subst hX hW
  have hu0:=ZiH C.room
  exact Ycc (YcK (Yc4 (YcT (Ycj (Yc3 (Zbs (Z.fact 0 rfl))) rfl G.f_isinstance ZaK (Yb1 (Yb3 1 rfl) (Yb1 (RE.gcls (c:= "Range") rfl G.g_Range) (Yb8)))))) (Yce (Ycn (RE.never))) (Yct)) (Yce (Ycn (Ych ((Zao.leTu (by exact hu0)).w) (YcQ (f:= "rank") (cs:=["Range"]) (ZaF (Z.fact 5 rfl)) (Yb3 0 rfl)) (YcQ (f:= "rank") (cs:=["Range"]) (ZaF (Z.fact 5 rfl)) (Yb3 1 rfl)))))
 ·exact Za8 (F.bindsN fun _ _ _ _ _ _ us hl=>match us,hl with | [_,_],_=>rfl)
theorem Zo9:FnScope ["self","other"] ["self","other"] (defScope d12.st):=⟨rfl,rfl,rfl,by decide+kernel,rfl,by decide+kernel,by decide+kernel⟩
theorem t12 (Z:Za6 fas dfs K) (G:Gs K mg):KF false P w K mg base d12 1 ["self","other"] ZoE ZaP:=by
 obtain⟨fd,F⟩:=Z.def_ 12 (d:=d12) rfl
 refine⟨fd,F,YcS (k:=0) F Zo9 rfl rfl ?_, ?_⟩
 ·intro X W cdv A outer s H E hX hW C
  subst hX hW
  have hu0:=ZiH C.room
  exact Ycc (YcK (Yc4 (YcT (Ycj (Yc3 (Zbs (Z.fact 0 rfl))) rfl G.f_isinstance ZaK (Yb1 (Yb3 1 rfl) (Yb1 (RE.gcls (c:= "Range") rfl G.g_Range) (Yb8)))))) (Yce (Ycn (RE.never))) (Yct)) (Yce (Ycn (Ych ((Zao.gtTu (by exact hu0)).w) (YcQ (f:= "rank") (cs:=["Range"]) (ZaF (Z.fact 5 rfl)) (Yb3 0 rfl)) (YcQ (f:= "rank") (cs:=["Range"]) (ZaF (Z.fact 5 rfl)) (Yb3 1 rfl)))))
 ·exact Za8 (F.bindsN fun _ _ _ _ _ _ us hl=>match us,hl with | [_,_],_=>rfl)
theorem Zpa:FnScope ["self","other"] ["self","other"] (defScope d13.st):=⟨rfl,rfl,rfl,by decide+kernel,rfl,by decide+kernel,by decide+kernel⟩
theorem t13 (Z:Za6 fas dfs K) (G:Gs K mg):KF false P w K mg base d13 1 ["self","other"] ZoF ZaQ:=by
 obtain⟨fd,F⟩:=Z.def_ 13 (d:=d13) rfl
 refine⟨fd,F,YcS (k:=0) F Zpa rfl rfl ?_, ?_⟩
 ·intro X W cdv A outer s H E hX hW C
  subst hX hW
  have hu0:=ZiH C.room
  exact Ycc (YcK (Yc4 (YcT (Ycj (Yc3 (Zbs (Z.fact 0 rfl))) rfl G.f_isinstance ZaK (Yb1 (Yb3 1 rfl) (Yb1 (RE.gcls (c:= "Range") rfl G.g_Range) (Yb8)))))) (Yce (Ycn (RE.never))) (Yct)) (Yce (Ycn (Ych ((Zao.geTu (by exact hu0)).w) (YcQ (f:= "rank") (cs:=["Range"]) (ZaF (Z.fact 5 rfl)) (Yb3 0 rfl)) (YcQ (f:= "rank") (cs:=["Range"]) (ZaF (Z.fact 5 rfl)) (Yb3 1 rfl)))))
 ·exact Za8 (F.bindsN fun _ _ _ _ _ _ us hl=>match us,hl with | [_,_],_=>rfl)
theorem Zpb:FnScope ["_law_ends","_law_others","_law_one","_law_other","_law_mine","_law_theirs","_law_told","_law_due"] ["_law_ends","_law_others"] (defScope d14.st):=⟨rfl,rfl,rfl,by decide+kernel,rfl,by decide+kernel,by decide+kernel⟩
theorem t14 (Z:Za6 fas dfs K) (G:Gs K mg) (h0:KF false P w K mg base d7 3 ["self","first","last"] dd7 Zal) (h1:KF false P w K mg base d8 1 ["_law_ends"] dd8 ZaX) (h2:KF false P w K mg base d9 1 ["self","other"] dd9 Zaj) (h3:KF false P w K mg base d10 1 ["self","other"] Zn5 Zax) (h4:KF false P w K mg base d11 1 ["self","other"] ZoD ZaO) (h5:KF false P w K mg base d12 1 ["self","other"] ZoE ZaP) (h6:KF false P w K mg base d13 1 ["self","other"] ZoF ZaQ):KF true P w K mg base d14 5 ["_law_ends","_law_others"] ZoG ZaH:=by
 obtain⟨fd_h0,KWFD_h0,h0F,h0D⟩:=h0
 obtain⟨fd_h1,KWFD_h1,h1F,h1D⟩:=h1
 obtain⟨fd_h2,KWFD_h2,h2F,h2D⟩:=h2
 obtain⟨fd_h3,KWFD_h3,h3F,h3D⟩:=h3
 obtain⟨fd_h4,KWFD_h4,h4F,h4D⟩:=h4
 obtain⟨fd_h5,KWFD_h5,h5F,h5D⟩:=h5
 obtain⟨fd_h6,KWFD_h6,h6F,h6D⟩:=h6
 obtain⟨fd,F⟩:=Z.def_ 14 (d:=d14) rfl
 refine⟨fd,F,YcS (k:=4) F Zpb rfl rfl ?_, ?_⟩
 ·intro X W cdv A outer s H E hX hW C
  subst hX hW
  have hu0:=ZiH C.room
  have hu100:=ZiI C.room
  have hu64:=ZhH C.room
  exact Ycc (Ycy (vs:=[2,3,4,5]) (YcV (Yb1 (Yc6 (c:= "Range") C (He.mkr_ok (Z.fact 6 rfl)) h0F (h0D [] (.head _)).to rfl G.g_Range (Yb1 (Ycv (Yb3 0 rfl) (Yb7)) (Yb1 (Ycv (Yb3 0 rfl) (Yb7)) (Yb8)))) (Yb1 (Yc6 (c:= "Range") C (He.mkr_ok (Z.fact 6 rfl)) h0F (h0D [] (.head _)).to rfl G.g_Range (Yb1 (Ycv (Yb3 1 rfl) (Yb7)) (Yb1 (Ycv (Yb3 1 rfl) (Yb7)) (Yb8)))) (Yb1 (Yci C h1F (h1D [] (.head _)).to rfl G.g__law_key (Yb1 (Yb3 0 rfl) (Yb8))) (Yb1 (Yci C h1F (h1D [] (.head _)).to rfl G.g__law_key (Yb1 (Yb3 1 rfl) (Yb8))) (Yb8)))))) (RG.tup C.calm (YcX (Ycm 2 C.nd rfl) (YcX (Ycm 3 C.nd rfl) (YcX (Ycm 4 C.nd rfl) (YcX (Ycm 5 C.nd rfl) (RGs.nil))))))) (Ycc (Ycy (vs:=[6]) (Yc9 (Yb1 (Ych (Ycr (YcC C (fun _ _=>rfl) (Yck (Ycz (He.meth_ok (Z.fact 7 rfl)) h2F (h2D [] (.head _)).to (fun xs=>by simp only [YaS])) (Ycp)) (ZaE (Z.fact 8 rfl)) (by decide)) (Ydb (by exact hu64)).w) (Yb3 2 rfl) (Yb3 3 rfl)) (Yb1 (Ych (Ycr (Yda C (Yck (Ycz (He.meth_ok (Z.fact 7 rfl)) h2F (h2D [] (.head _)).to (fun xs=>by simp only [YaS])) (Ycp)) (ZaE (Z.fact 8 rfl)) (by decide) (neT (Z.fact 9 rfl))) (Zao.ne (by exact hu64)).w) (Yb3 2 rfl) (Yb3 3 rfl)) (Yb1 (Ych (Ycr (YcC C (fun _ _=>rfl) (Yck (Ycz (He.meth_ok (Z.fact 10 rfl)) h3F (h3D [] (.head _)).to (fun xs=>by simp only [YaS])) (Ycp)) (ZaE (Z.fact 8 rfl)) (by decide)) (Zao.lt (by exact hu0)).w) (Yb3 2 rfl) (Yb3 3 rfl)) (Yb1 (Ych (Ycr (YcC C (fun _ _=>rfl) (Yck (Ycz (He.meth_ok (Z.fact 11 rfl)) h4F (h4D [] (.head _)).to (fun xs=>by simp only [YaS])) (Ycp)) (ZaE (Z.fact 8 rfl)) (by decide)) (Zao.leTu (by exact hu0)).w) (Yb3 2 rfl) (Yb3 3 rfl)) (Yb1 (Ych (Ycr (YcC C (fun _ _=>rfl) (Yck (Ycz (He.meth_ok (Z.fact 12 rfl)) h5F (h5D [] (.head _)).to (fun xs=>by simp only [YaS])) (Ycp)) (ZaE (Z.fact 8 rfl)) (by decide)) (Zao.gtTu (by exact hu0)).w) (Yb3 2 rfl) (Yb3 3 rfl)) (Yb1 (Ych (Ycr (YcC C (fun _ _=>rfl) (Yck (Ycz (He.meth_ok (Z.fact 13 rfl)) h6F (h6D [] (.head _)).to (fun xs=>by simp only [YaS])) (Ycp)) (ZaE (Z.fact 8 rfl)) (by decide)) (Zao.geTu (by exact hu0)).w) (Yb3 2 rfl) (Yb3 3 rfl)) (Yb8)))))))) (Ycm 6 C.nd rfl)) (Ycc (Ycy (vs:=[7]) (Yc9 (Yb1 (Ych (Ycr (YcC C (fun _ _=>rfl) (Yck (Ycz (He.meth_ok (Z.fact 7 rfl)) h2F (h2D [] (.head _)).to (fun xs=>by simp only [YaS])) (Ycp)) (ZaE (Z.fact 8 rfl)) (by decide)) (Ydb (by exact hu64)).w) (Yb3 4 rfl) (Yb3 5 rfl)) (Yb1 (Ych (Ycr (Yda C (Yck (Ycz (He.meth_ok (Z.fact 7 rfl)) h2F (h2D [] (.head _)).to (fun xs=>by simp only [YaS])) (Ycp)) (ZaE (Z.fact 8 rfl)) (by decide) (neT (Z.fact 9 rfl))) (Zao.ne (by exact hu64)).w) (Yb3 4 rfl) (Yb3 5 rfl)) (Yb1 (Ych (Ycr (YcC C (fun _ _=>rfl) (Yck (Ycz (He.meth_ok (Z.fact 10 rfl)) h3F (h3D [] (.head _)).to (fun xs=>by simp only [YaS])) (Ycp)) (ZaE (Z.fact 8 rfl)) (by decide)) (Zao.lt (by exact hu0)).w) (Yb3 4 rfl) (Yb3 5 rfl)) (Yb1 (Ych (Ycr (YcC C (fun _ _=>rfl) (Yck (Ycz (He.meth_ok (Z.fact 11 rfl)) h4F (h4D [] (.head _)).to (fun xs=>by simp only [YaS])) (Ycp)) (ZaE (Z.fact 8 rfl)) (by decide)) (Zao.leTu (by exact hu0)).w) (Yb3 4 rfl) (Yb3 5 rfl)) (Yb1 (Ych (Ycr (YcC C (fun _ _=>rfl) (Yck (Ycz (He.meth_ok (Z.fact 12 rfl)) h5F (h5D [] (.head _)).to (fun xs=>by simp only [YaS])) (Ycp)) (ZaE (Z.fact 8 rfl)) (by decide)) (Zao.gtTu (by exact hu0)).w) (Yb3 4 rfl) (Yb3 5 rfl)) (Yb1 (Ych (Ycr (YcC C (fun _ _=>rfl) (Yck (Ycz (He.meth_ok (Z.fact 13 rfl)) h6F (h6D [] (.head _)).to (fun xs=>by simp only [YaS])) (Ycp)) (ZaE (Z.fact 8 rfl)) (by decide)) (Zao.geTu (by exact hu0)).w) (Yb3 4 rfl) (Yb3 5 rfl)) (Yb8)))))))) (Ycm 7 C.nd rfl)) (Yce (Ycn (Ych (Ycr (YcC C (fun _ _=>rfl) (Yck (Ycz (He.meth_ok (Z.fact 7 rfl)) h2F (h2D [] (.head _)).to (fun xs=>by simp only [YaS])) (Ycp)) (ZaE (Z.fact 8 rfl)) (by decide)) (Ydb (by exact hu64)).w) (Ycj (Za2.repr (C.gs rfl) hu100 (fun _=>Zgk (Z.fact 14 rfl))) rfl G.f_repr Zgm (Yb1 (Yb3 6 rfl) (Yb8))) (Ycj (Za2.repr (C.gs rfl) hu100 (fun _=>Zgk (Z.fact 14 rfl))) rfl G.f_repr Zgm (Yb1 (Yb3 7 rfl) (Yb8))))))))
 ·exact Za8 (F.bindsN fun _ _ _ _ _ _ us hl=>match us,hl with | [_,_],_=>rfl)
theorem Zpc:FnScope ["self"] ["self"] (defScope d15.st):=⟨rfl,rfl,rfl,by decide+kernel,rfl,by decide+kernel,by decide+kernel⟩
theorem t15 (Z:Za6 fas dfs K) (G:Gs K mg):KF false P w K mg base d15 1 ["self"] ZoH Zau:=by
 obtain⟨fd,F⟩:=Z.def_ 15 (d:=d15) rfl
 refine⟨fd,F,YcS (k:=0) F Zpc rfl rfl ?_, ?_⟩
 ·intro X W cdv A outer s H E hX hW C
  subst hX hW
  exact Yce (Ycn (YcQ (f:= "own_first") (cs:=["Range"]) (ZaF (Z.fact 3 rfl)) (Yb3 0 rfl)))
 ·exact Za8 (F.bindsN fun _ _ _ _ _ _ us hl=>match us,hl with | [_],_=>rfl)
theorem Zpd:FnScope ["self"] ["self"] (defScope d16.st):=⟨rfl,rfl,rfl,by decide+kernel,rfl,by decide+kernel,by decide+kernel⟩
theorem t16 (Z:Za6 fas dfs K) (G:Gs K mg):KF false P w K mg base d16 1 ["self"] ZoI ZaI:=by
 obtain⟨fd,F⟩:=Z.def_ 16 (d:=d16) rfl
 refine⟨fd,F,YcS (k:=0) F Zpd rfl rfl ?_, ?_⟩
 ·intro X W cdv A outer s H E hX hW C
  subst hX hW
  exact Yce (Ycn (YcQ (f:= "own_last") (cs:=["Range"]) (ZaF (Z.fact 4 rfl)) (Yb3 0 rfl)))
 ·exact Za8 (F.bindsN fun _ _ _ _ _ _ us hl=>match us,hl with | [_],_=>rfl)
theorem Zpe:FnScope ["_law_script","_law_k","_law_stream_here","_law_rows","_law_ends","_law_others","_law_odd","_law_told","_law_due","_law_turn","_law_one"] ["_law_script"] (defScope d17.st):=⟨rfl,rfl,rfl,by decide+kernel,rfl,by decide+kernel,by decide+kernel⟩
theorem t17 (Z:Za6 fas dfs K) (G:Gs K mg) (h0:KF false P w K mg base d0 1 ["_law_script","_law_k"] dd0 Za4) (h1:KF false P w K mg base d1 1 ["_law_stream_here","_law_count"] dd1 ZaA) (h2:KF false P w K mg base d3 3 ["_law_stream_here"] dd3 Za9) (h3:KF true P w K mg base d14 5 ["_law_ends","_law_others"] ZoG ZaH) (h4:KF false P w K mg base d9 1 ["self","other"] dd9 Zaj) (h5:KF false P w K mg base d7 3 ["self","first","last"] dd7 Zal) (h6:KF false P w K mg base d10 1 ["self","other"] Zn5 Zax) (h7:KF false P w K mg base d8 1 ["_law_ends"] dd8 ZaX) (h8:KF false P w K mg base d15 1 ["self"] ZoH Zau) (h9:KF false P w K mg base d16 1 ["self"] ZoI ZaI):KF true P w K mg base d17 6 ["_law_script"] ZoJ M_law:=by
 obtain⟨fd_h0,KWFD_h0,h0F,h0D⟩:=h0
 obtain⟨fd_h1,KWFD_h1,h1F,h1D⟩:=h1
 obtain⟨fd_h2,KWFD_h2,h2F,h2D⟩:=h2
 obtain⟨fd_h3,KWFD_h3,h3F,h3D⟩:=h3
 obtain⟨fd_h4,KWFD_h4,h4F,h4D⟩:=h4
 obtain⟨fd_h5,KWFD_h5,h5F,h5D⟩:=h5
 obtain⟨fd_h6,KWFD_h6,h6F,h6D⟩:=h6
 obtain⟨fd_h7,KWFD_h7,h7F,h7D⟩:=h7
 obtain⟨fd_h8,KWFD_h8,h8F,h8D⟩:=h8
 obtain⟨fd_h9,KWFD_h9,h9F,h9D⟩:=h9
 obtain⟨fd,F⟩:=Z.def_ 17 (d:=d17) rfl
 refine⟨fd,F,YcS (k:=5) F Zpe rfl rfl ?_, ?_⟩
 ·intro X W cdv A outer s H E hX hW C
  subst hX hW
  have hu100:=ZiI C.room
  have hu64:=ZhH C.room
  exact Ycc (RS.for_ (vs:=[1]) C.hp C.calm (RI.r1 rfl G.f_range (Ycj (Za2.max C.calm) rfl G.f_max ZiG (Yb1 (Yb7) (Yb1 (Ycj (Za2.min C.calm) rfl G.f_min Zmg (Yb1 (Yb7) (Yb1 (Ycj (Za2.len) rfl G.f_len Zgl (Yb1 (Yb3 0 rfl) (Yb8))) (Yb8)))) (Yb8))))) (Ycm 1 C.nd rfl) (Ycc (Ycy (vs:=[2]) (Yci C h0F (h0D [] (.head _)).to rfl G.g__law_stream (Yb1 (Yb3 0 rfl) (Yb1 (Yb3 1 rfl) (Yb8)))) (Ycm 2 C.nd rfl)) (Ycc (RS.setLc 3 (ZiF.mk' (own:=[("_law_turn",9)]) (vs:=[9]) C (RI.r1 rfl G.f_range (Ycu Yc8 (Yb7) (Yci C h1F (h1D [] (.head _)).to rfl G.g__law_draw (Yb1 (Yb3 2 rfl) (Yb1 (Yb7) (Yb8)))))) (blkOk_by (by kernel_rfl)) rfl (fun s H C0 cl fp=>Ycm 9 C.nd rfl) (fun s H C0 cl fp C=>RTs.nil) (fun s H C0 cl fp C=>Yci C h2F (h2D [] (.head _)).to rfl G.g__law_drawn (Yb1 (Yb3 2 rfl) (Yb8)))) rfl) (Ycc (RS.for_ (vs:=[4]) C.hp C.calm (RI.seq (Yb3 3 rfl)) (Ycm 4 C.nd rfl) (Yce (RS.for_ (vs:=[5]) C.hp C.calm (RI.seq (Yb3 3 rfl)) (Ycm 5 C.nd rfl) (Yce (YcK (Yc4 (YcT (Yci C h3F (h3D [] (.head _)).to rfl G.g__law_pair_right (Yb1 (Yb3 4 rfl) (Yb1 (Yb3 5 rfl) (Yb8)))))) (Yce (Ycn (RE.bl))) (Yct)))))) (Ycc (RS.for_ (vs:=[6]) C.hp C.calm (RI.seq (Yc9 (Yb1 (YcW) (Yb1 (Yb7) (Yb1 (RE.bl) (Yb1 (RE.str) (Yb1 (Ycv (Yb3 3 rfl) (Yb7)) (Yb1 (Yc9 (Yb1 (Ycv (Ycv (Yb3 3 rfl) (Yb7)) (Yb7)) (Yb1 (Ycv (Ycv (Yb3 3 rfl) (Yb7)) (Yb7)) (Yb8)))) (Yb1 (RE.dict0) (Yb8)))))))))) (Ycm 6 C.nd rfl) (Yce (YcK (RW.pt (RW.or (YcI (Ycr (YcC C (fun _ _=>rfl) (Yck (Ycz (He.meth_ok (Z.fact 7 rfl)) h4F (h4D [] (.head _)).to (fun xs=>by simp only [YaS])) (Ycp)) (ZaE (Z.fact 8 rfl)) (by decide)) (Ydb (by exact hu64)).w) (Yc6 (c:= "Range") C (He.mkr_ok (Z.fact 6 rfl)) h5F (h5D [] (.head _)).to rfl G.g_Range (Yb1 (Ycv (Ycv (Yb3 3 rfl) (Yb7)) (Yb7)) (Yb1 (Ycv (Ycv (Yb3 3 rfl) (Yb7)) (Yb7)) (Yb8)))) (Yb3 6 rfl)) (RW.or1 (Yc4 (YcI (Ycr (Yda C (Yck (Ycz (He.meth_ok (Z.fact 7 rfl)) h4F (h4D [] (.head _)).to (fun xs=>by simp only [YaS])) (Ycp)) (ZaE (Z.fact 8 rfl)) (by decide) (neT (Z.fact 9 rfl))) (Zao.ne (by exact hu64)).w) (Yc6 (c:= "Range") C (He.mkr_ok (Z.fact 6 rfl)) h5F (h5D [] (.head _)).to rfl G.g_Range (Yb1 (Ycv (Ycv (Yb3 3 rfl) (Yb7)) (Yb7)) (Yb1 (Ycv (Ycv (Yb3 3 rfl) (Yb7)) (Yb7)) (Yb8)))) (Yb3 6 rfl)))))) (Yce (Ycn (RE.bl))) (Yct)))) (Ycc (Ycy (vs:=[7]) (Ycj (Za2.sortOwn C (Yck (Ycz (He.meth_ok (Z.fact 10 rfl)) h6F (h6D [] (.head _)).to (fun xs=>by simp only [YaS])) (Ycp))) rfl G.f_sorted Zel (Yb1 (RE.lc (ZiF.mk' (own:=[("_law_ends",4)]) (vs:=[4]) C (RI.seq (Yb3 3 rfl)) (blkOk_by (by kernel_rfl)) rfl (fun s H C0 cl fp=>Ycm 4 C.nd rfl) (fun s H C0 cl fp C=>RTs.nil) (fun s H C0 cl fp C=>Yc6 (c:= "Range") C (He.mkr_ok (Z.fact 6 rfl)) h5F (h5D [] (.head _)).to rfl G.g_Range (Yb1 (Ycv (Yb3 4 rfl) (Yb7)) (Yb1 (Ycv (Yb3 4 rfl) (Yb7)) (Yb8)))))) (Yb8))) (Ycm 7 C.nd rfl)) (Ycc (Ycy (vs:=[8]) (Ycj (Za2.two Za2.sortS_ (Za2.sortQ hu100)) rfl G.f_sorted Zel (Yb1 (RE.lc (ZiF.mk' (own:=[("_law_ends",4)]) (vs:=[4]) C (RI.seq (Yb3 3 rfl)) (blkOk_by (by kernel_rfl)) rfl (fun s H C0 cl fp=>Ycm 4 C.nd rfl) (fun s H C0 cl fp C=>RTs.nil) (fun s H C0 cl fp C=>Yci C h7F (h7D [] (.head _)).to rfl G.g__law_key (Yb1 (Yb3 4 rfl) (Yb8))))) (Yb8))) (Ycm 8 C.nd rfl)) (Yce (YcK (YcI (Ycr (Yda C (Yck (Ycz (He.meth_ok (Z.fact 7 rfl)) h4F (h4D [] (.head _)).to (fun xs=>by simp only [YaS])) (Ycp)) (ZaE (Z.fact 8 rfl)) (by decide) (neT (Z.fact 9 rfl))) (Zao.ne (by exact hu64)).w) (RE.lc (ZiF.mk' (own:=[("_law_one",10)]) (vs:=[10]) C (RI.seq (Yb3 7 rfl)) (blkOk_by (by kernel_rfl)) rfl (fun s H C0 cl fp=>Ycm 10 C.nd rfl) (fun s H C0 cl fp C=>RTs.nil) (fun s H C0 cl fp C=>Yci C h7F (h7D [] (.head _)).to rfl G.g__law_key (Yb1 (RE.ifx (YcI ((Zao.is_).w) (RE.attr (fn:= "first") (cs:=[]) C (ZcG.cons ⟨_,_,_,_,_,_,ZdI (Z.fact 15 rfl),He.cls_ok (Z.fact 16 rfl),h8F,(h8D [] (.head _)).to,by decide,by decide⟩ (ZcG.nil)) (fun _ h=>nomatch h) (Yb3 10 rfl)) (YcW)) (YcV (Yb1 (Yb7) (Yb1 (RE.un Zlu.neg (Yb7)) (Yb8)))) (YcV (Yb1 (RE.attr (fn:= "first") (cs:=[]) C (ZcG.cons ⟨_,_,_,_,_,_,ZdI (Z.fact 15 rfl),He.cls_ok (Z.fact 16 rfl),h8F,(h8D [] (.head _)).to,by decide,by decide⟩ (ZcG.nil)) (fun _ h=>nomatch h) (Yb3 10 rfl)) (Yb1 (RE.attr (fn:= "last") (cs:=[]) C (ZcG.cons ⟨_,_,_,_,_,_,ZdI (Z.fact 17 rfl),He.cls_ok (Z.fact 16 rfl),h9F,(h9D [] (.head _)).to,by decide,by decide⟩ (ZcG.nil)) (fun _ h=>nomatch h) (Yb3 10 rfl)) (Yb8))))) (Yb8))))) (Yb3 8 rfl)) (Yce (Ycn (RE.bl))) (Yct)))))))))) (Yce (Ycn (RE.bl)))
 ·exact Za8 (F.bindsN fun _ _ _ _ _ _ us hl=>match us,hl with | [_],_=>rfl)
end
theorem alldefs {P:Program} {w:World} {K:PySem.W.Frag} {mg:Str→Option Value} {base:Heap} (Z:Za6 fas dfs K) (G:Gs K mg) (HP:PM P):KF true P w K mg base d17 6 ["_law_script"] ZoJ M_law:=by
 have e0:=t0 (P:=P) (w:=w) (base:=base) Z G 
 have e1:=t1 (P:=P) (w:=w) (base:=base) Z G 
 have e2:=t2 (P:=P) (w:=w) (base:=base) Z G e1
 have e3:=t3 (P:=P) (w:=w) (base:=base) Z G e1 e2
 have e4:=t4 (P:=P) (w:=w) (base:=base) Z G 
 have e5:=t5 (P:=P) (w:=w) (base:=base) Z G e4
 have e6:=t6 (P:=P) Z G HP
 have e7:=t7 (P:=P) (w:=w) (base:=base) Z G e5 e6
 have e8:=t8 (P:=P) (w:=w) (base:=base) Z G 
 have e9:=t9 (P:=P) (w:=w) (base:=base) Z G 
 have e10:=t10 (P:=P) (w:=w) (base:=base) Z G 
 have e11:=t11 (P:=P) (w:=w) (base:=base) Z G 
 have e12:=t12 (P:=P) (w:=w) (base:=base) Z G 
 have e13:=t13 (P:=P) (w:=w) (base:=base) Z G 
 have e14:=t14 (P:=P) (w:=w) (base:=base) Z G e7 e8 e9 e10 e11 e12 e13
 have e15:=t15 (P:=P) (w:=w) (base:=base) Z G 
 have e16:=t16 (P:=P) (w:=w) (base:=base) Z G 
 have e17:=t17 (P:=P) (w:=w) (base:=base) Z G e0 e1 e3 e14 e9 e7 e10 e8 e15 e16
 exact e17
end MPL
namespace MP
open PySem (Str PyData sizeLine)
inductive PV where
 | non | bl (b:Bool) | int (i:Int) | str (x:Str) | tup (xs:List PV) | lst (xs:List PV) | frz (xs:List PV) | dK (kvs:List (Key × PV)) | dT (kvs:List (List Key × PV)) | dF (kvs:List (Key × PV)) | dG (kvs:List (List Key × PV)) | ins (c:String) (fs:List (String × PV)) | ty (n:String) | cls (c:String) | fn (c:String) | cell (i:Nat)
 deriving Inhabited
abbrev Cs:=List PV
inductive PX where
 | own (c:String) (fs:List (String × PV)) | blt (n:String)
 deriving Inhabited
inductive ZaR (α:Type) where
 | ok (a:α) (T:Cs) | exc (x:PX) (T:Cs) | bad
def ZaR.bind {α β:Type} (r:ZaR α) (f:α→Cs→ZaR β):ZaR β:=match r with
 | .ok a T=>f a T
 | .exc x T=> .exc x T
 | .bad=> .bad
@[simp] theorem Zaf {α β:Type} (a:α) (T:Cs) (f:α→Cs→ZaR β):(ZaR.ok a T).bind f=f a T:=rfl
@[simp] theorem Zch {α β:Type} (x:PX) (T:Cs) (f:α→Cs→ZaR β):(ZaR.exc x T).bind f= .exc x T:=rfl
@[simp] theorem Zci {α β:Type} (f:α→Cs→ZaR β):(ZaR.bad:ZaR α).bind f= .bad:=rfl
mutual
inductive Rd (μ:List Nat) (W:Nat→Prop) (S:Zaa):SV→PV→Prop
 | non:Rd μ W S .non .non
 | bl (b:Bool):Rd μ W S (.bl b) (.bl b)
 | int (i:Int):Rd μ W S (.int i) (.int i)
 | str (x:Str):Rd μ W S (.str x) (.str x)
 | ty (n:String):Rd μ W S (.ty n) (.ty n)
 | cls (n:String):Rd μ W S (.cls n) (.cls n)
 | fn (n:String):Rd μ W S (.fn n) (.fn n)
 | tup {xs:List SV} {ps:List PV}:Rds μ W S xs ps→Rd μ W S (.tup xs) (.tup ps)
 | node {n:Nat} {o:SO} {p:PV}:W n→S[n]? =some o→RdO μ W S o p→Rd μ W S (.ref n) p
 | cell {i n:Nat}:μ[i]? =some n→Rd μ W S (.ref n) (.cell i)
inductive Rds (μ:List Nat) (W:Nat→Prop) (S:Zaa):List SV→List PV→Prop
 | nil:Rds μ W S [] []
 | cons {x:SV} {p:PV} {xs:List SV} {ps:List PV}:Rd μ W S x p→Rds μ W S xs ps→Rds μ W S (x::xs) (p::ps)
inductive RdO (μ:List Nat) (W:Nat→Prop) (S:Zaa):SO→PV→Prop
 | lst {xs:List SV} {ps:List PV}:Rds μ W S xs ps→RdO μ W S (.lst xs) (.lst ps)
 | frz {xs:List SV} {ps:List PV}:Rds μ W S xs ps→RdO μ W S (.frz xs) (.frz ps)
 | dK {kvs:List (Key × SV)} {qvs:List (Key × PV)}:kvs.map Prod.fst=qvs.map Prod.fst→Rds μ W S (kvs.map Prod.snd) (qvs.map Prod.snd)→RdO μ W S (.dK kvs) (.dK qvs)
 | dT {kvs:List (List Key × SV)} {qvs:List (List Key × PV)}:kvs.map Prod.fst=qvs.map Prod.fst→Rds μ W S (kvs.map Prod.snd) (qvs.map Prod.snd)→RdO μ W S (.dT kvs) (.dT qvs)
 | dF {kvs:List (Key × SV)} {qvs:List (Key × PV)}:kvs.map Prod.fst=qvs.map Prod.fst→Rds μ W S (kvs.map Prod.snd) (qvs.map Prod.snd)→RdO μ W S (.dF kvs) (.dF qvs)
 | dG {kvs:List (List Key × SV)} {qvs:List (List Key × PV)}:kvs.map Prod.fst=qvs.map Prod.fst→Rds μ W S (kvs.map Prod.snd) (qvs.map Prod.snd)→RdO μ W S (.dG kvs) (.dG qvs)
 | ins {c:String} {fs:List (String × SV)} {qs:List (String × PV)}:fs.map Prod.fst=qs.map Prod.fst→Rds μ W S (fs.map Prod.snd) (qs.map Prod.snd)→RdO μ W S (.ins c fs) (.ins c qs)
end
section
variable {μ μ':List Nat} {W W':Nat→Prop} {S S':Zaa}
theorem Rd.mono_all (h1:∀(i n:Nat),μ[i]? =some n→μ'[i]? =some n) (h2:∀(n:Nat) (o:SO),W n→S[n]? =some o→W' n∧S'[n]? =some o):
  (∀{v p},Rd μ W S v p→Rd μ' W' S' v p)∧(∀{v p},Rds μ W S v p→Rds μ' W' S' v p)∧(∀{v p},RdO μ W S v p→RdO μ' W' S' v p):=by
 refine⟨fun h=> ?_,fun h=> ?_,fun h=> ?_⟩
 ·exact Rd.rec (motive_1:=fun v p _=>Rd μ' W' S' v p) (motive_2:=fun v p _=>Rds μ' W' S' v p) (motive_3:=fun v p _=>RdO μ' W' S' v p)
   .non .bl .int .str .ty .cls .fn (fun _ a=> .tup a) (fun w e _ a=> .node (h2 _ _ w e).1 (h2 _ _ w e).2 a) (fun e=> .cell (h1 _ _ e)) .nil (fun _ _ a b=> .cons a b) (fun _ a=> .lst a) (fun _ a=> .frz a) (fun e _ a=> .dK e a) (fun e _ a=> .dT e a) (fun e _ a=> .dF e a) (fun e _ a=> .dG e a) (fun e _ a=> .ins e a) h
 ·exact Rds.rec (motive_1:=fun v p _=>Rd μ' W' S' v p) (motive_2:=fun v p _=>Rds μ' W' S' v p) (motive_3:=fun v p _=>RdO μ' W' S' v p)
   .non .bl .int .str .ty .cls .fn (fun _ a=> .tup a) (fun w e _ a=> .node (h2 _ _ w e).1 (h2 _ _ w e).2 a) (fun e=> .cell (h1 _ _ e)) .nil (fun _ _ a b=> .cons a b) (fun _ a=> .lst a) (fun _ a=> .frz a) (fun e _ a=> .dK e a) (fun e _ a=> .dT e a) (fun e _ a=> .dF e a) (fun e _ a=> .dG e a) (fun e _ a=> .ins e a) h
 ·exact RdO.rec (motive_1:=fun v p _=>Rd μ' W' S' v p) (motive_2:=fun v p _=>Rds μ' W' S' v p) (motive_3:=fun v p _=>RdO μ' W' S' v p)
   .non .bl .int .str .ty .cls .fn (fun _ a=> .tup a) (fun w e _ a=> .node (h2 _ _ w e).1 (h2 _ _ w e).2 a) (fun e=> .cell (h1 _ _ e)) .nil (fun _ _ a b=> .cons a b) (fun _ a=> .lst a) (fun _ a=> .frz a) (fun e _ a=> .dK e a) (fun e _ a=> .dT e a) (fun e _ a=> .dF e a) (fun e _ a=> .dG e a) (fun e _ a=> .ins e a) h
end
def SO.isFrz:SO→Bool
 | .frz _=>true
 | _=>false
structure Sm (μ:List Nat) (W:Nat→Prop) (S:Zaa) (T:Cs):Prop where
 len:μ.length=T.length
 nd:μ.Nodup
 cell:∀(i n:Nat) (p:PV),μ[i]? =some n→T[i]? =some p→∃o,S[n]? =some o∧RdO μ W S o p∧o.isFrz=false
 dis:∀n,W n→n∉μ
 lt:∀n,W n→n<S.length
structure Stp (μ:List Nat) (W:Nat→Prop) (S:Zaa) (μ':List Nat) (W':Nat→Prop) (S':Zaa):Prop where
 pre:∃ν,μ'=μ++ν∧∀n∈ν,S.length≤n
 wk:∀n,W n→W' n
 wn:∀n,W' n→W n∨S.length≤n
 len:S.length≤S'.length
 fr:∀n:Nat,n<S.length→n∉μ→S'[n]? =S[n]?
section
variable {μ μ' μ2:List Nat} {W W' W2:Nat→Prop} {S S' S2:Zaa} {T T':Cs}
theorem Stp.refl (μ:List Nat) (W:Nat→Prop) (S:Zaa):Stp μ W S μ W S:=⟨⟨[],by simp,fun _ h=>nomatch h⟩,fun _ h=>h,fun _ h=> .inl h,Yab _,fun _ _ _=>rfl⟩
theorem Stp.trans (a:Stp μ W S μ' W' S') (b:Stp μ' W' S' μ2 W2 S2):Stp μ W S μ2 W2 S2:=by
 obtain⟨ν,e1,l1⟩:=a.pre
 obtain⟨ν',e2,l2⟩:=b.pre
 refine⟨⟨ν++ν',by rw [e2,e1,List.append_assoc],fun n h=> ?_⟩,fun n h=>b.wk n (a.wk n h),fun n h=> ?_,Yac a.len b.len,fun n h h'=> ?_⟩
 ·rcases YaH.mp h with h | h
  ·exact l1 n h
  ·exact Yac a.len (l2 n h)
 ·rcases b.wn n h with h | h
  ·exact a.wn n h
  ·exact .inr (Yac a.len h)
 ·rw [b.fr n (Yad h a.len) (fun z=>by
   rw [e1]at z
   rcases YaH.mp z with z | z
   ·exact h' z
   ·have:=l1 n z
    omega),a.fr n h h']
theorem Stp.mono_all (s:Sm μ W S T) (x:Stp μ W S μ' W' S'):(∀{v p},Rd μ W S v p→Rd μ' W' S' v p)∧(∀{v p},Rds μ W S v p→Rds μ' W' S' v p)∧(∀{v p},RdO μ W S v p→RdO μ' W' S' v p):=by
 obtain⟨ν,e1,l1⟩:=x.pre
 refine Rd.mono_all (fun i n e=> ?_) fun n o w e=>⟨x.wk n w, ?_⟩
 ·rw [e1,Yai (Yaj.mp e).1]; exact e
 ·rw [x.fr n (s.lt n w) (s.dis n w)]; exact e
theorem Rd.step (s:Sm μ W S T) (x:Stp μ W S μ' W' S') {v p} (h:Rd μ W S v p):Rd μ' W' S' v p:=(Stp.mono_all s x).1 h
theorem Rds.step (s:Sm μ W S T) (x:Stp μ W S μ' W' S') {v p} (h:Rds μ W S v p):Rds μ' W' S' v p:=(Stp.mono_all s x).2.1 h
theorem RdO.step (s:Sm μ W S T) (x:Stp μ W S μ' W' S') {v p} (h:RdO μ W S v p):RdO μ' W' S' v p:=(Stp.mono_all s x).2.2 h
theorem Sm.tree (s:Sm μ W S T) {o:SO} {p:PV} (h:RdO μ W S o p):Stp μ W S μ (fun n=>W n∨n=S.length) (S++[o])∧Sm μ (fun n=>W n∨n=S.length) (S++[o]) T∧Rd μ (fun n=>W n∨n=S.length) (S++[o]) (.ref S.length) p:=by
 have lt:∀n∈μ,n<S.length:=fun n hn=>by
  obtain⟨i,hi⟩:=Ybm hn
  have hl:=(Yaj.mp hi).1
  rw [s.len]at hl
  obtain⟨o,e,_⟩:=s.cell i n _ hi (YaY hl)
  exact(Yaj.mp e).1
 have x:Stp μ W S μ (fun n=>W n∨n=S.length) (S++[o]):=⟨⟨[],by simp,fun _ h=>nomatch h⟩,fun n h=> .inl h,fun n h=>h.imp id (fun e=>by omega),by simp,fun n h _=>Yai h⟩
 refine⟨x,⟨s.len,s.nd,fun i n p e e'=> ?_,fun n h z=> ?_,fun n h=> ?_⟩, .node (.inr rfl) (by simp) (RdO.step s x h)⟩
 ·obtain⟨o',e1,e2,e3⟩:=s.cell i n p e e'
  exact⟨o',by rw [Yai (Yaj.mp e1).1]; exact e1,RdO.step s x e2,e3⟩
 ·rcases h with h | h
  ·exact s.dis n h z
  ·have:=lt n z
   omega
 ·rw [Yak]
  rcases h with h | h
  ·have:=s.lt n h
   simp; omega
  ·simp; omega
theorem Sm.mlt (s:Sm μ W S T):∀n∈μ,n<S.length:=fun n hn=>by
 obtain⟨i,hi⟩:=Ybm hn
 have hl:=(Yaj.mp hi).1
 rw [s.len]at hl
 obtain⟨o,e,_⟩:=s.cell i n _ hi (YaY hl)
 exact(Yaj.mp e).1
theorem Sm.newc (s:Sm μ W S T) {o:SO} {p:PV} (h:RdO μ W S o p) (hf:o.isFrz=false):Stp μ W S (μ++[S.length]) W (S++[o])∧Sm (μ++[S.length]) W (S++[o]) (T++[p])∧Rd (μ++[S.length]) W (S++[o]) (.ref S.length) (.cell T.length):=by
 have lt:=s.mlt
 have x:Stp μ W S (μ++[S.length]) W (S++[o]):=⟨⟨[S.length],rfl,fun n h=>by simp at h; omega⟩,fun n h=>h,fun n h=> .inl h,by simp,fun n h _=>Yai h⟩
 refine⟨x,⟨by simp [s.len], ?_,fun i n q e e'=> ?_,fun n h z=> ?_,fun n h=> ?_⟩, .cell (by rw [←s.len]; simp)⟩
 ·rw [Ybn]
  exact⟨s.nd,by simp,fun a ha b hb=>by have:=lt a ha; simp at hb; omega⟩
 ·by_cases hi:i<μ.length
  ·rw [Yai hi]at e
   rw [Yai (by rw [←s.len]; exact hi)]at e'
   obtain⟨o',e1,e2,e3⟩:=s.cell i n q e e'
   exact⟨o',by rw [Yai (Yaj.mp e1).1]; exact e1,RdO.step s x e2,e3⟩
  ·have hl:=(Yaj.mp e).1
   have:i=μ.length:=by simp at hl; omega
   subst this
   have e':(T++[p])[T.length]? =some q:=by rw [←s.len]; exact e'
   simp at e e'
   subst e; subst e'
   exact⟨o,by simp,RdO.step s x h,hf⟩
 ·rcases YaH.mp z with z | z
  ·exact s.dis n h z
  ·have:=s.lt n h
   simp at z; omega
 ·have:=s.lt n h
  rw [Yak]; omega
theorem Sm.put (s:Sm μ W S T) {i n:Nat} {o:SO} {p:PV} (hi:μ[i]? =some n) (h:RdO μ W S o p) (hf:o.isFrz=false):Stp μ W S μ W (S.set n o)∧Sm μ W (S.set n o) (T.set i p):=by
 have hn:n∈μ:=YaT hi
 have x:Stp μ W S μ W (S.set n o):=⟨⟨[],by simp,fun _ h=>nomatch h⟩,fun n h=>h,fun n h=> .inl h,by simp,fun m _ h'=>Yao (fun z=>h' (by rw [←z]; exact hn))⟩
 refine⟨x,⟨by simp [s.len],s.nd,fun j m q e e'=> ?_,s.dis,fun m h=>by rw [Yap]; exact s.lt m h⟩⟩
 by_cases hj:j=i
 ·subst hj
  rw [hi]at e
  cases e
  have hl:j<T.length:=by rw [←s.len]; exact(Yaj.mp hi).1
  rw [Yan hl]at e'
  cases e'
  exact⟨o,by rw [Yan (s.mlt n hn)],RdO.step s x h,hf⟩
 ·rw [Yao (Ne.symm hj)]at e'
  obtain⟨o',e1,e2,e3⟩:=s.cell j m q e e'
  have ne:n≠m:=fun z=>by
   subst z
   exact hj ((List.getElem?_inj (Yaj.mp e).1 s.nd).mp (e.trans hi.symm))
  exact⟨o',by rw [Yao ne]; exact e1,RdO.step s x e2,e3⟩
end
def RdX (μ:List Nat) (W:Nat→Prop) (S:Zaa):XC→PX→Prop
 | .own c fs, .own d qs=>c=d∧fs.map Prod.fst=qs.map Prod.fst∧Rds μ W S (fs.map Prod.snd) (qs.map Prod.snd)
 | .blt n, .blt m=>n=m
 | _,_=>False
abbrev ZeU (α β:Type):=List Nat→(Nat→Prop)→Zaa→α→β→Prop
def Ag {α β:Type} (μ:List Nat) (W:Nat→Prop) (S:Zaa) (r:Res α) (q:ZaR β) (R:ZeU α β):Prop:=match q with
 | .ok p T'=>∃v S' μ' W',r= .ok v S'∧Stp μ W S μ' W' S'∧Sm μ' W' S' T'∧R μ' W' S' v p
 | .exc x T'=>∃y S' μ' W',r= .exc y S'∧Stp μ W S μ' W' S'∧Sm μ' W' S' T'∧RdX μ' W' S' y x
 | .bad=>True
section
variable {α β γ δ:Type} {μ μ' μ2:List Nat} {W W' W2:Nat→Prop} {S S' S2:Zaa} {T T':Cs} {R R':ZeU α β} {R2:ZeU γ δ}
theorem Ag.bad {r:Res α}:Ag μ W S r (.bad:ZaR β) R:=trivial
theorem Ag.ok (s:Sm μ W S T) {v:α} {p:β} (h:R μ W S v p):Ag μ W S (.ok v S) (.ok p T) R:=⟨v,S,μ,W,rfl, .refl _ _ _,s,h⟩
theorem Ag.okS {μ' W' S'} {v:α} {p:β} (x:Stp μ W S μ' W' S') (s:Sm μ' W' S' T) (h:R μ' W' S' v p):Ag μ W S (.ok v S') (.ok p T) R:=⟨v,S',μ',W',rfl,x,s,h⟩
theorem Ag.trans {r:Res α} {q:ZaR β} (x:Stp μ W S μ' W' S') (h:Ag μ' W' S' r q R):Ag μ W S r q R:=by
 cases q with
 | ok p T'=>obtain⟨v,S1,μ1,W1,e,y,s,k⟩:=h; exact⟨v,S1,μ1,W1,e,x.trans y,s,k⟩
 | exc p T'=>obtain⟨v,S1,μ1,W1,e,y,s,k⟩:=h; exact⟨v,S1,μ1,W1,e,x.trans y,s,k⟩
 | bad=>trivial
theorem Ag.bind {r:Res α} {q:ZaR β} {f:α→Zaa→Res γ} {g:β→Cs→ZaR δ} (h:Ag μ W S r q R)
  (k:∀μ' W' S' T' v p,Stp μ W S μ' W' S'→Sm μ' W' S' T'→R μ' W' S' v p→Ag μ' W' S' (f v S') (g p T') R2):Ag μ W S (r.bind f) (q.bind g) R2:=by
 cases q with
 | ok p T'=>obtain⟨v,S1,μ1,W1,rfl,y,s,z⟩:=h; exact(k _ _ _ _ _ _ y s z).trans y
 | exc p T'=>obtain⟨v,S1,μ1,W1,rfl,y,s,z⟩:=h; exact⟨v,S1,μ1,W1,rfl,y,s,z⟩
 | bad=>trivial
theorem Ag.mono {r:Res α} {q:ZaR β} (h:Ag μ W S r q R) (k:∀μ' W' S' T' v p,Stp μ W S μ' W' S'→Sm μ' W' S' T'→R μ' W' S' v p→R' μ' W' S' v p):Ag μ W S r q R':=by
 cases q with
 | ok p T'=>obtain⟨v,S1,μ1,W1,rfl,y,s,z⟩:=h; exact⟨v,S1,μ1,W1,rfl,y,s,k _ _ _ _ _ _ y s z⟩
 | exc p T'=>exact h
 | bad=>trivial
end
end MP
namespace MP
open PySem (Str PyData sizeLine)
section
variable {μ μ':List Nat} {W W':Nat→Prop} {S S':Zaa} {T T':Cs} {v:SV}
theorem Rd.non_ (h:Rd μ W S v .non):v= .non:=by cases h with | non=>rfl | node _ _ o=>cases o
theorem Rd.bl_ {b:Bool} (h:Rd μ W S v (.bl b)):v= .bl b:=by cases h with | bl=>rfl | node _ _ o=>cases o
theorem Rd.int_ {i:Int} (h:Rd μ W S v (.int i)):v= .int i:=by cases h with | int=>rfl | node _ _ o=>cases o
theorem Rd.str_ {x:Str} (h:Rd μ W S v (.str x)):v= .str x:=by cases h with | str=>rfl | node _ _ o=>cases o
theorem Rd.ty_ {x:String} (h:Rd μ W S v (.ty x)):v= .ty x:=by cases h with | ty=>rfl | node _ _ o=>cases o
theorem Rd.cls_ {x:String} (h:Rd μ W S v (.cls x)):v= .cls x:=by cases h with | cls=>rfl | node _ _ o=>cases o
theorem Rd.tup_ {ps:List PV} (h:Rd μ W S v (.tup ps)):∃xs,v= .tup xs∧Rds μ W S xs ps:=by cases h with | tup h=>exact⟨_,rfl,h⟩ | node _ _ o=>cases o
theorem Rd.cell_ {i:Nat} (h:Rd μ W S v (.cell i)):∃n,v= .ref n∧μ[i]? =some n:=by cases h with | cell h=>exact⟨_,rfl,h⟩ | node _ _ o=>cases o
theorem Rds.len {xs:List SV} {ps:List PV} (h:Rds μ W S xs ps):xs.length=ps.length:=by
 induction ps generalizing xs with
 | nil=>cases h; rfl
 | cons p ps ih=>cases h with | cons a b=>simp [ih b]
theorem Rds.at {xs:List SV} {ps:List PV} (h:Rds μ W S xs ps) {i:Nat} {p:PV} (e:ps[i]? =some p):∃x,xs[i]? =some x∧Rd μ W S x p:=by
 induction ps generalizing xs i with
 | nil=>cases e
 | cons q ps ih=>
  cases h with
  | cons a b=>
   cases i with
   | zero=>simp at e; subst e; exact⟨_,rfl,a⟩
   | succ i=>simpa using ih b (by simpa using e)
theorem Rds.nil_ {xs:List SV} (h:Rds μ W S xs []):xs=[]:=by cases h; rfl
theorem Rds.cons_ {xs:List SV} {p:PV} {ps:List PV} (h:Rds μ W S xs (p::ps)):∃x ys,xs=x::ys∧Rd μ W S x p∧Rds μ W S ys ps:=by cases h with | cons a b=>exact⟨_,_,rfl,a,b⟩
theorem Rds.app {xs ys:List SV} {ps qs:List PV} (h:Rds μ W S xs ps) (k:Rds μ W S ys qs):Rds μ W S (xs++ys) (ps++qs):=by
 induction ps generalizing xs with
 | nil=>cases h; exact k
 | cons p ps ih=>cases h with | cons a b=>exact .cons a (ih b)
theorem Rds.set {xs:List SV} {ps:List PV} (h:Rds μ W S xs ps) {x:SV} {p:PV} (a:Rd μ W S x p) (i:Nat):Rds μ W S (xs.set i x) (ps.set i p):=by
 induction ps generalizing xs i with
 | nil=>cases h; exact .nil
 | cons q ps ih=>
  cases h with
  | cons c b=>
   cases i with
   | zero=>exact .cons a b
   | succ i=>exact .cons c (ih b i)
theorem Rds.drop {xs:List SV} {ps:List PV} (h:Rds μ W S xs ps) (i:Nat):Rds μ W S (xs.drop i) (ps.drop i):=by
 induction ps generalizing xs i with
 | nil=>cases h; simp; exact .nil
 | cons q ps ih=>
  cases h with
  | cons c b=>
   cases i with
   | zero=>exact .cons c b
   | succ i=>exact ih b i
theorem Rds.take {xs:List SV} {ps:List PV} (h:Rds μ W S xs ps) (i:Nat):Rds μ W S (xs.take i) (ps.take i):=by
 induction ps generalizing xs i with
 | nil=>cases h; simp; exact .nil
 | cons q ps ih=>
  cases h with
  | cons c b=>
   cases i with
   | zero=>exact .nil
   | succ i=>exact .cons c (ih b i)
def Zbo (T:Cs):PV→Option PV
 | .cell i=>T[i]?
 | .lst xs=>some (.lst xs)
 | .frz xs=>some (.frz xs)
 | .dK k=>some (.dK k)
 | .dT k=>some (.dT k)
 | .dF k=>some (.dF k)
 | .dG k=>some (.dG k)
 | .ins c fs=>some (.ins c fs)
 | _=>none
theorem Rd.obj (s:Sm μ W S T) {p q:PV} (h:Rd μ W S v p) (e:Zbo T p=some q):∃n o,v= .ref n∧S[n]? =some o∧RdO μ W S o q:=by
 cases h with
 | node w eo o=>cases o<;>(cases e; exact⟨_,_,rfl,eo,by constructor<;>assumption⟩)
 | @cell i n hi=>
  obtain⟨o,e1,e2,e3⟩:=s.cell _ _ _ hi e
  exact⟨n,o,rfl,e1,e2⟩
 | _=>cases e
def ZbL (T:Cs) (p:PV):Option (List PV):=match Zbo T p with
 | some (.lst xs)=>some xs
 | some (.frz xs)=>some xs
 | _=>none
theorem Rd.lst (s:Sm μ W S T) {p:PV} {ps:List PV} (h:Rd μ W S v p) (e:ZbL T p=some ps):∃n xs,v= .ref n∧ZaJ S n=some xs∧Rds μ W S xs ps:=by
 unfold ZbL at e
 split at e
 ·rename_i q eq
  cases e
  obtain⟨n,o,rfl,e1,e2⟩:=h.obj s eq
  cases e2 with
  | lst k=>exact⟨n,_,rfl,Zbq (.inl e1),k⟩
 ·rename_i q eq
  cases e
  obtain⟨n,o,rfl,e1,e2⟩:=h.obj s eq
  cases e2 with
  | frz k=>exact⟨n,_,rfl,Zbq (.inr e1),k⟩
 ·cases e
def ZfV (T:Cs) (p:PV):Option (List PV):=match p with
 | .tup xs=>some xs
 | p=>ZbL T p
theorem Rd.seq (s:Sm μ W S T) {p:PV} {ps:List PV} (h:Rd μ W S v p) (e:ZfV T p=some ps):∃xs,seqOf S v=some xs∧Rds μ W S xs ps:=by
 unfold ZfV at e
 split at e
 ·cases e
  obtain⟨xs,rfl,r⟩:=h.tup_
  exact⟨xs,rfl,r⟩
 ·obtain⟨n,xs,rfl,e1,r⟩:=h.lst s e
  exact⟨xs,e1,r⟩
theorem Rds.lookup {fs:List (String × SV)} {qs:List (String × PV)} (e:fs.map Prod.fst=qs.map Prod.fst) (r:Rds μ W S (fs.map Prod.snd) (qs.map Prod.snd)) (f:String):
  (∀p,qs.lookup f=some p→∃x,fs.lookup f=some x∧Rd μ W S x p)∧(qs.lookup f=none→fs.lookup f=none):=by
 induction qs generalizing fs with
 | nil=>cases fs with | nil=>exact⟨(fun _ h=>nomatch h),fun _=>rfl⟩ | cons a b=>cases e
 | cons q qs ih=>
  cases fs with
  | nil=>cases e
  | cons a b=>
   obtain⟨g,x⟩:=a
   obtain⟨g',p⟩:=q
   simp only [Ya0,List.cons.injEq]at e
   obtain⟨rfl,e⟩:=e
   cases r with
   | cons c d=>
    have ⟨i1,i2⟩:=ih e d
    simp only [Yax]
    cases f==g with
    | true=>exact⟨fun p h=>⟨x,rfl,by cases h; exact c⟩,fun h=>nomatch h⟩
    | false=>exact⟨i1,i2⟩
abbrev PEn:=List (Option PV)
class Gh where
 p:List Nat→(Nat→Prop)→Zaa→Prop
 up:∀{μ μ':List Nat} {W W':Nat→Prop} {S S':Zaa} {T:Cs},Sm μ W S T→Stp μ W S μ' W' S'→p μ W S→p μ' W' S'
 st:∀{μ:List Nat} {W:Nat→Prop} {S:Zaa} {d:Nat} {o:SO},d∉μ→¬W d→p μ W S→p μ W (S.set d o)
variable [Gh]
def RdE (μ:List Nat) (W:Nat→Prop) (S:Zaa) (env:En) (pe:PEn):Prop:=env.length=pe.length∧(∀(i:Nat) (p:PV),pe[i]? =some (some p)→(∃v,env[i]? =some (some v)∧Rd μ W S v p))∧Gh.p μ W S
theorem RdE.step {env:En} {pe:PEn} (s:Sm μ W S T) (x:Stp μ W S μ' W' S') (h:RdE μ W S env pe):RdE μ' W' S' env pe:=⟨h.1,fun i p e=>let ⟨v,a,b⟩:=h.2.1 i p e; ⟨v,a,b.step s x⟩,Gh.up s x h.2.2⟩
theorem RdE.put {env:En} {pe:PEn} (h:RdE μ W S env pe) (i:Nat) {x:SV} {p:PV} (r:Rd μ W S x p):RdE μ W S (env.set i (some x)) (pe.set i (some p)):=by
 refine⟨by simp [h.1],fun j q e=> ?_,h.2.2⟩
 rw [List.getElem?_set]at e⊢
 by_cases hij:i=j
 ·subst hij
  rw [if_pos rfl]at e⊢
  by_cases hl:i<pe.length
  ·rw [if_pos hl]at e
   cases e
   rw [if_pos (by rw [h.1]; exact hl)]
   exact⟨x,rfl,r⟩
  ·rw [if_neg hl]at e; cases e
 ·rw [if_neg hij]at e⊢
  exact h.2.1 j q e
theorem RdE.unset {env:En} {pe:PEn} (h:RdE μ W S env pe) (i:Nat) (o:Option SV):RdE μ W S (env.set i o) (pe.set i none):=by
 refine⟨by simp [h.1],fun j q e=> ?_,h.2.2⟩
 rw [List.getElem?_set]at e⊢
 by_cases hij:i=j
 ·subst hij
  rw [if_pos rfl]at e
  by_cases hl:i<pe.length
  ·rw [if_pos hl]at e; cases e
  ·rw [if_neg hl]at e; cases e
 ·rw [if_neg hij]at e⊢
  exact h.2.1 j q e
end
variable [Gh]
abbrev PE:=PEn→Cs→ZaR PV
abbrev PT:=PEn→Cs→ZaR Bool
abbrev PA:=PEn→Cs→ZaR (List PV)
abbrev PF:=List PV→Cs→ZaR PV
abbrev P1:=PV→Cs→ZaR PV
abbrev P2:=PV→PV→Cs→ZaR PV
def RV:ZeU SV PV:=fun μ W S v p=>Rd μ W S v p
def RVs:ZeU (List SV) (List PV):=fun μ W S v p=>Rds μ W S v p
def RB {α:Type}:ZeU α α:=fun _ _ _ v p=>v=p
def SE (m:EM) (e:PE):Prop:=∀(μ:List Nat) (W:Nat→Prop) (S:Zaa) (T:Cs) (env:En) (pe:PEn),Sm μ W S T→RdE μ W S env pe→Ag μ W S (m env S) (e pe T) RV
def ST (m:TM) (e:PT):Prop:=∀(μ:List Nat) (W:Nat→Prop) (S:Zaa) (T:Cs) (env:En) (pe:PEn),Sm μ W S T→RdE μ W S env pe→Ag μ W S (m env S) (e pe T) RB
def SA (m:AM) (e:PA):Prop:=∀(μ:List Nat) (W:Nat→Prop) (S:Zaa) (T:Cs) (env:En) (pe:PEn),Sm μ W S T→RdE μ W S env pe→Ag μ W S (m env S) (e pe T) RVs
def SF (m:List SV→M SV) (f:PF):Prop:=∀(μ:List Nat) (W:Nat→Prop) (S:Zaa) (T:Cs) (xs:List SV) (ps:List PV),Sm μ W S T→Rds μ W S xs ps→Ag μ W S (m xs S) (f ps T) RV
def S1 (m:SV→M SV) (f:P1):Prop:=∀(μ:List Nat) (W:Nat→Prop) (S:Zaa) (T:Cs) (x:SV) (p:PV),Sm μ W S T→Rd μ W S x p→Ag μ W S (m x S) (f p T) RV
def S2 (m:SV→SV→M SV) (f:P2):Prop:=∀(μ:List Nat) (W:Nat→Prop) (S:Zaa) (T:Cs) (x y:SV) (p q:PV),Sm μ W S T→Rd μ W S x p→Rd μ W S y q→Ag μ W S (m x y S) (f p q T) RV
def Zae (i:Nat):PE:=fun env T=>match env[i]? with | some (some v)=> .ok v T | _=> .bad
def pC (v:PV):PE:=fun _ T=> .ok v T
def ZmC:PE:=fun _ _=> .bad
def Zaq:PA:=fun _ T=> .ok [] T
def Zab (a:PE) (r:PA):PA:=fun env T=>(a env T).bind fun x T1=>(r env T1).bind fun xs T2=> .ok (x::xs) T2
def pF (f:PF) (a:PA):PE:=fun env T=>(a env T).bind fun xs T1=>f xs T1
def p1 (f:P1) (a:PE):PE:=fun env T=>(a env T).bind fun x T1=>f x T1
def p2 (f:P2) (a b:PE):PE:=fun env T=>(a env T).bind fun x T1=>(b env T1).bind fun y T2=>f x y T2
def pIf (t:PT) (a b:PE):PE:=fun env T=>(t env T).bind fun c T1=>if c=true then a env T1 else b env T1
def ZeV (a b:PE):PE:=fun env T=>(a env T).bind fun x T1=>match x with | .bl true=>b env T1 | .bl false=> .ok (.bl false) T1 | _=> .bad
def pOr (a b:PE):PE:=fun env T=>(a env T).bind fun x T1=>match x with | .bl true=> .ok (.bl true) T1 | .bl false=>b env T1 | _=> .bad
def notP:P1:=fun x T=>match x with | .bl b=> .ok (.bl (!b)) T | _=> .bad
def ZcZ (f g:P2) (a b c:PE):PE:=fun env T=>(a env T).bind fun x T1=>(b env T1).bind fun y T2=>(f x y T2).bind fun r T3=>match r with
 | .bl true=>(c env T3).bind fun z T4=>g y z T4
 | .bl false=> .ok (.bl false) T3
 | _=> .bad
def qB (a:PE):PT:=fun env T=>(a env T).bind fun x T1=>match x with | .bl b=> .ok b T1 | _=> .bad
def ZhY (a b:PT):PT:=fun env T=>(a env T).bind fun c T1=>if c=true then b env T1 else .ok false T1
def qOr (a b:PT):PT:=fun env T=>(a env T).bind fun c T1=>if c=true then .ok true T1 else b env T1
def Zc0 (a:PT):PT:=fun env T=>(a env T).bind fun c T1=> .ok (!c) T1
def Zc1:PT:=fun _ T=> .ok true T
def Zpf:PT:=fun _ _=> .bad
def Zcq:PV→Cs→ZaR Bool:=fun x T=>match x with
 | .non=> .ok false T
 | .bl b=> .ok b T
 | .int i=> .ok (i != 0) T
 | .str z=>if z.length≤sizeLine then .ok (z.length != 0) T else .bad
 | .tup xs=> .ok (!xs.isEmpty) T
 | p=>match Zbo T p with
  | some (.lst xs)=> .ok (!xs.isEmpty) T
  | some (.frz xs)=> .ok (!xs.isEmpty) T
  | some (.dK kvs)=> .ok (!kvs.isEmpty) T
  | _=> .bad
def qT (a:PE):PT:=fun env T=>(a env T).bind fun x T1=>Zcq x T1
def ZcI (a:PA):PE:=fun env T=>(a env T).bind fun xs T1=>if xs.length≤sizeLine then .ok (.tup xs) T1 else .bad
def Zds (a:PA):PE:=fun env T=>(a env T).bind fun xs T1=>if xs.length≤sizeLine then .ok (.lst xs) T1 else .bad
def ZfO (a:PA):PE:=fun env T=>(a env T).bind fun xs T1=>if xs.length≤sizeLine then .ok (.cell T1.length) (T1++[.lst xs])else .bad
def Zfk (o:Option PV) (T:Cs):ZaR PV:=match o with | some a=> .ok a T | none=> .bad
def ixP:P2:=fun x y T=>match x,y with
 | .tup xs, .int i=>Zfk (atS xs i) T
 | .str z, .int i=>if z.length≤sizeLine then Zfk ((atS z.cps.toList i).map fun c=>PV.str ⟨#[c]⟩) T else .bad
 | x, .int i=>(match ZbL T x with
  | some xs=>Zfk (atS xs i) T
  | none=> .bad)
 | _,_=> .bad
def ZcJ (cs:List String) (f:String):P1:=fun x T=>match Zbo T x with
 | some (.ins c fs)=>if c∈cs then Zfk (fs.lookup f) T else .bad
 | _=> .bad
section
variable {m m':EM} {e e':PE} {t t':TM} {q q':PT} {a:AM} {r:PA} {f:List SV→M SV} {g:PF}
theorem SE.bad:SE m ZmC:=fun _ _ _ _ _ _ _ _=>trivial
theorem SE.var (i:Nat):SE (Zai i) (Zae i):=by
 intro μ W S T env pe s h
 cases e:pe[i]? with
 | none=>simp only [Zae,e]; trivial
 | some o=>
  cases o with
  | none=>simp only [Zae,e]; trivial
  | some p=>
   obtain⟨v,e1,r⟩:=h.2.1 i p e
   simp only [Zae,Zai,e,e1]
   exact .ok s r
theorem SE.c {v:SV} {p:PV} (h:∀μ W S,Rd μ W S v p):SE (eC v) (pC p):=fun _ _ _ _ _ _ s _=> .ok s (h _ _ _)
theorem SE.non:SE (eC .non) (pC .non):=SE.c fun _ _ _=> .non
theorem SE.bl (b:Bool):SE (eC (.bl b)) (pC (.bl b)):=SE.c fun _ _ _=> .bl _
theorem SE.int (b:Int):SE (eC (.int b)) (pC (.int b)):=SE.c fun _ _ _=> .int _
theorem SE.str (b:Str):SE (eC (.str b)) (pC (.str b)):=SE.c fun _ _ _=> .str _
theorem SE.ty (b:String):SE (eC (.ty b)) (pC (.ty b)):=SE.c fun _ _ _=> .ty _
theorem SE.cls (b:String):SE (eC (.cls b)) (pC (.cls b)):=SE.c fun _ _ _=> .cls _
theorem SA.nil:SA ZaZ Zaq:=fun _ _ _ _ _ _ s _=> .ok s .nil
theorem SA.cons (h:SE m e) (k:SA a r):SA (Zac m a) (Zab e r):=by
 intro μ W S T env pe s n
 refine(h μ W S T env pe s n).bind fun μ1 W1 S1 T1 v p x s1 r1=> ?_
 refine(k μ1 W1 S1 T1 env pe s1 (n.step s x)).bind fun μ2 W2 S2 T2 vs ps x2 s2 r2=> ?_
 exact .ok s2 (.cons (r1.step s1 x2) r2)
theorem SE.F (h:SF f g) (k:SA a r):SE (eF f a) (pF g r):=by
 intro μ W S T env pe s n
 exact(k μ W S T env pe s n).bind fun μ1 W1 S1 T1 v p x s1 r1=>h _ _ _ _ _ _ s1 r1
theorem SE.e1 {f:SV→M SV} {g:P1} (h:S1 f g) (k:SE m e):SE (e1 f m) (p1 g e):=by
 intro μ W S T env pe s n
 exact(k μ W S T env pe s n).bind fun μ1 W1 S1 T1 v p x s1 r1=>h _ _ _ _ _ _ s1 r1
theorem SE.e2 {f:SV→SV→M SV} {g:P2} (h:S2 f g) (k:SE m e) (k':SE m' e'):SE (e2 f m m') (p2 g e e'):=by
 intro μ W S T env pe s n
 refine(k μ W S T env pe s n).bind fun μ1 W1 S1 T1 v p x s1 r1=> ?_
 refine(k' _ _ _ _ env pe s1 (n.step s x)).bind fun μ2 W2 S2 T2 v2 p2 x2 s2 r2=> ?_
 exact h _ _ _ _ _ _ _ _ s2 (r1.step s1 x2) r2
theorem SE.ite (h:ST t q) (k:SE m e) (k':SE m' e'):SE (eIf t m m') (pIf q e e'):=by
 intro μ W S T env pe s n
 refine(h μ W S T env pe s n).bind fun μ1 W1 S1 T1 v p x s1 r1=> ?_
 cases r1
 cases v
 ·exact k' _ _ _ _ _ _ s1 (n.step s x)
 ·exact k _ _ _ _ _ _ s1 (n.step s x)
theorem SE.and (k:SE m e) (k':SE m' e'):SE (Zlr m m') (ZeV e e'):=by
 intro μ W S T env pe s n
 refine(k μ W S T env pe s n).bind fun μ1 W1 S1 T1 v p x s1 r1=> ?_
 cases p with
 | bl b=>
  cases r1.bl_
  cases b
  ·exact .ok s1 (.bl _)
  ·exact k' _ _ _ _ _ _ s1 (n.step s x)
 | _=>trivial
theorem SE.or (k:SE m e) (k':SE m' e'):SE (eOr m m') (pOr e e'):=by
 intro μ W S T env pe s n
 refine(k μ W S T env pe s n).bind fun μ1 W1 S1 T1 v p x s1 r1=> ?_
 cases p with
 | bl b=>
  cases r1.bl_
  cases b
  ·exact k' _ _ _ _ _ _ s1 (n.step s x)
  ·exact .ok s1 (.bl _)
 | _=>trivial
theorem S1.not:S1 Zn1 notP:=by
 intro μ W S T x p s r
 cases p with
 | bl b=>cases r.bl_; exact .ok s (.bl _)
 | _=>trivial
theorem SE.chain {f f':SV→SV→M SV} {g g':P2} {m2:EM} {e2:PE} (h:S2 f g) (h':S2 f' g') (k:SE m e) (k':SE m' e') (k2:SE m2 e2):SE (Zfb f f' m m' m2) (ZcZ g g' e e' e2):=by
 intro μ W S T env pe s n
 refine(k μ W S T env pe s n).bind fun μ1 W1 S1 T1 v p x s1 r1=> ?_
 refine(k' _ _ _ _ env pe s1 (n.step s x)).bind fun μ2 W2 S2 T2 v2 p2 x2 s2 r2=> ?_
 refine(h _ _ _ _ _ _ _ _ s2 (r1.step s1 x2) r2).bind fun μ3 W3 S3 T3 v3 p3 x3 s3 r3=> ?_
 cases p3 with
 | bl b=>
  cases r3.bl_
  cases b
  ·exact .ok s3 (.bl _)
  ·refine(k2 _ _ _ _ env pe s3 (((n.step s x).step s1 x2).step s2 x3)).bind fun μ4 W4 S4 T4 v4 p4 x4 s4 r4=> ?_
   exact h' _ _ _ _ _ _ _ _ s4 ((r2.step s2 x3).step s3 x4) r4
 | _=>trivial
theorem ST.bad:ST t Zpf:=fun _ _ _ _ _ _ _ _=>trivial
theorem ST.yes:ST Zlo Zc1:=fun _ _ _ _ _ _ s _=> .ok s rfl
theorem ST.B (k:SE m e):ST (tB m) (qB e):=by
 intro μ W S T env pe s n
 refine(k μ W S T env pe s n).bind fun μ1 W1 S1 T1 v p x s1 r1=> ?_
 cases p with
 | bl b=>cases r1.bl_; exact .ok s1 rfl
 | _=>trivial
theorem ST.and (k:ST t q) (k':ST t' q'):ST (Zn2 t t') (ZhY q q'):=by
 intro μ W S T env pe s n
 refine(k μ W S T env pe s n).bind fun μ1 W1 S1 T1 v p x s1 r1=> ?_
 cases r1
 cases v
 ·exact .ok s1 rfl
 ·exact k' _ _ _ _ _ _ s1 (n.step s x)
theorem ST.or (k:ST t q) (k':ST t' q'):ST (tOr t t') (qOr q q'):=by
 intro μ W S T env pe s n
 refine(k μ W S T env pe s n).bind fun μ1 W1 S1 T1 v p x s1 r1=> ?_
 cases r1
 cases v
 ·exact k' _ _ _ _ _ _ s1 (n.step s x)
 ·exact .ok s1 rfl
theorem ST.not (k:ST t q):ST (Zgc t) (Zc0 q):=by
 intro μ W S T env pe s n
 refine(k μ W S T env pe s n).bind fun μ1 W1 S1 T1 v p x s1 r1=> ?_
 cases r1
 exact .ok s1 rfl
theorem ZiQ {μ:List Nat} {W:Nat→Prop} {S:Zaa} {T:Cs} {x:SV} {p:PV} (s:Sm μ W S T) (r:Rd μ W S x p):Ag μ W S (Zhm x S) (Zcq p T) RB:=by
 have go:(∀b,Zbo T p=some b→Ag μ W S (Zhm x S) (match some b with | some (.lst xs)=> .ok (!xs.isEmpty) T | some (.frz xs)=> .ok (!xs.isEmpty) T | some (.dK kvs)=> .ok (!kvs.isEmpty) T | _=> .bad) RB):=fun b e=>by
  obtain⟨n,o,rfl,e1,e2⟩:=r.obj s e
  cases e2 with
  | lst k=>simp only [Zhm,e1]; exact .ok s (by show _=_; have:=k.len; rename_i xs ps; cases xs<;>cases ps<;>simp_all)
  | frz k=>simp only [Zhm,e1]; exact .ok s (by show _=_; have:=k.len; rename_i xs ps; cases xs<;>cases ps<;>simp_all)
  | dK k _=>simp only [Zhm,e1]; exact .ok s (by show _=_; have:=congrArg Ybo k; rename_i xs ps _; cases xs<;>cases ps<;>simp_all)
  | _=>trivial
 cases p with
 | non=>cases r.non_; exact .ok s rfl
 | bl b=>cases r.bl_; exact .ok s rfl
 | int b=>cases r.int_; exact .ok s rfl
 | str b=>
  cases r.str_
  simp only [Zhm,Zcq]
  split
  ·exact .ok s rfl
  ·trivial
 | tup ps=>
  obtain⟨xs,rfl,k⟩:=r.tup_
  exact .ok s (by show _=_; have:=k.len; cases xs<;>cases ps<;>simp_all)
 | lst xs=>exact go _ rfl
 | frz xs=>exact go _ rfl
 | dK xs=>exact go _ rfl
 | cell i=>
  simp only [Zcq]
  cases h:Zbo T (.cell i)with
  | none=>trivial
  | some b=>exact go _ h
 | _=>trivial
theorem ST.T (k:SE m e):ST (tT m) (qT e):=by
 intro μ W S T env pe s n
 exact(k μ W S T env pe s n).bind fun μ1 W1 S1 T1 v p x s1 r1=>ZiQ s1 r1
theorem SE.tup (k:SA a r):SE (ZfS a) (ZcI r):=by
 intro μ W S T env pe s n
 refine(k μ W S T env pe s n).bind fun μ1 W1 S1 T1 v p x s1 r1=> ?_
 have:=Rds.len r1
 by_cases h:p.length≤sizeLine
 ·rw [if_pos h,if_pos (by omega)]; exact .ok s1 (.tup r1)
 ·rw [if_neg h]; trivial
theorem SE.lst (k:SA a r):SE (Zf1 a) (Zds r):=by
 intro μ W S T env pe s n
 refine(k μ W S T env pe s n).bind fun μ1 W1 S1 T1 v p x s1 r1=> ?_
 have:=Rds.len r1
 by_cases h:p.length≤sizeLine
 ·rw [if_pos h,if_pos (by omega)]
  obtain⟨y,s2,r2⟩:=s1.tree (.lst r1)
  exact .okS y s2 r2
 ·rw [if_neg h]; trivial
theorem SE.lstC (k:SA a r):SE (Zf1 a) (ZfO r):=by
 intro μ W S T env pe s n
 refine(k μ W S T env pe s n).bind fun μ1 W1 S1 T1 v p x s1 r1=> ?_
 have:=Rds.len r1
 by_cases h:p.length≤sizeLine
 ·rw [if_pos h,if_pos (by omega)]
  obtain⟨y,s2,r2⟩:=s1.newc (.lst r1) rfl
  exact .okS y s2 r2
 ·rw [if_neg h]; trivial
theorem ZkU {μ:List Nat} {W:Nat→Prop} {S:Zaa} {xs:List SV} {ps:List PV} (r:Rds μ W S xs ps) {i:Int} {p:PV} (e:atS ps i=some p):∃x,atS xs i=some x∧Rd μ W S x p:=by
 unfold atS at e⊢
 rw [r.len]
 cases h:Zfc ps.length i with
 | none=>rw [h]at e; cases e
 | some j=>rw [h]at e; exact r.at e
theorem ZiR {μ:List Nat} {W:Nat→Prop} {S:Zaa} {T:Cs} {xs:List SV} {ps:List PV} (s:Sm μ W S T) (r:Rds μ W S xs ps) {i:Int}:Ag μ W S (Zgd (atS xs i) S) (Zfk (atS ps i) T) RV:=by
 cases e:atS ps i with
 | none=>trivial
 | some p=>
  obtain⟨x,e1,r1⟩:=ZkU r e
  rw [e1]
  exact .ok s r1
theorem S2.ix:S2 ixM ixP:=by
 intro μ W S T x y p q s r r'
 have go:∀i xs,ZbL T p=some xs→Ag μ W S (ixM x (.int i) S) (Zfk (atS xs i) T) RV:=fun i xs h=>by
  obtain⟨n,ys,rfl,e1,e2⟩:=r.lst s h
  simp only [ixM,e1]
  exact ZiR s e2
 cases q with
 | int i=>
  cases r'.int_
  cases p with
  | tup ps=>
   obtain⟨xs,rfl,k⟩:=r.tup_
   exact ZiR s k
  | str z=>
   cases r.str_
   simp only [ixM,ixP]
   split
   ·cases atS z.cps.toList i with
    | none=>trivial
    | some c=>exact .ok s (.str _)
   ·trivial
  | lst ps=>exact go _ _ rfl
  | frz ps=>exact go _ _ rfl
  | cell c=>
   simp only [ixP]
   cases h:ZbL T (.cell c)with
   | none=>trivial
   | some ps=>exact go _ _ h
  | _=>trivial
 | _=>cases p<;>trivial
theorem S1.fld {cs:List String} {f:String}:S1 (Zd8 cs f) (ZcJ cs f):=by
 intro μ W S T x p s r
 unfold ZcJ
 split
 ·rename_i c fs h
  split
  ·rename_i hc
   obtain⟨n,o,rfl,e1,e2⟩:=r.obj s h
   cases e2 with
   | ins k l=>
    simp only [Zd8,e1,if_pos hc]
    cases g:fs.lookup f with
    | none=>trivial
    | some z=>
     obtain⟨x,e,r2⟩:=(Rds.lookup k l f).1 z g
     rw [e]
     exact .ok s r2
  ·trivial
 ·trivial
end
end MP
namespace MP
open PySem (Str PyData sizeLine)
inductive Za0 where
 | nx (env:PEn) (T:Cs) | rt (v:PV) (T:Cs) | bk (env:PEn) (T:Cs) | ct (env:PEn) (T:Cs) | exc (x:PX) (env:PEn) (T:Cs) | bad
abbrev PSM:=PEn→Cs→Za0
variable [Gh]
def ZaR.stm {α:Type} (r:ZaR α) (env:PEn) (k:α→Cs→Za0):Za0:=match r with
 | .ok a T=>k a T
 | .exc x T=> .exc x env T
 | .bad=> .bad
@[simp] theorem Zat {α:Type} (a:α) (T:Cs) (env:PEn) (k:α→Cs→Za0):(ZaR.ok a T).stm env k=k a T:=rfl
@[simp] theorem ZcN {α:Type} (x:PX) (T:Cs) (env:PEn) (k:α→Cs→Za0):(ZaR.exc x T:ZaR α).stm env k= .exc x env T:=rfl
@[simp] theorem ZcO {α:Type} (env:PEn) (k:α→Cs→Za0):(ZaR.bad:ZaR α).stm env k= .bad:=rfl
def Za0.seq (r:Za0) (k:PSM):Za0:=match r with
 | .nx env T=>k env T
 | r=>r
@[simp] theorem ZaS (env:PEn) (T:Cs) (k:PSM):(Za0.nx env T).seq k=k env T:=rfl
@[simp] theorem Zcb (v:PV) (T:Cs) (k:PSM):(Za0.rt v T).seq k= .rt v T:=rfl
@[simp] theorem Zod (env:PEn) (T:Cs) (k:PSM):(Za0.bk env T).seq k= .bk env T:=rfl
@[simp] theorem Zoe (env:PEn) (T:Cs) (k:PSM):(Za0.ct env T).seq k= .ct env T:=rfl
@[simp] theorem ZcP (x:PX) (env:PEn) (T:Cs) (k:PSM):(Za0.exc x env T).seq k= .exc x env T:=rfl
@[simp] theorem Znx (k:PSM):Za0.bad.seq k= .bad:=rfl
def Zdj (r:Za0) (k:PSM):Za0:=match r with
 | .nx env T=>k env T
 | .ct env T=>k env T
 | .bk env T=> .nx env T
 | .rt v T=> .rt v T
 | .exc x env T=> .exc x env T
 | .bad=> .bad
@[simp] theorem Zny (env:PEn) (T:Cs) (k:PSM):Zdj (.nx env T) k=k env T:=rfl
@[simp] theorem Znz (env:PEn) (T:Cs) (k:PSM):Zdj (.ct env T) k=k env T:=rfl
@[simp] theorem ZnA (env:PEn) (T:Cs) (k:PSM):Zdj (.bk env T) k= .nx env T:=rfl
@[simp] theorem ZnB (v:PV) (T:Cs) (k:PSM):Zdj (.rt v T) k= .rt v T:=rfl
@[simp] theorem ZmD (x:PX) (env:PEn) (T:Cs) (k:PSM):Zdj (.exc x env T) k= .exc x env T:=rfl
@[simp] theorem ZmE (k:PSM):Zdj .bad k= .bad:=rfl
def AgS (μ:List Nat) (W:Nat→Prop) (S:Zaa) (r:ZbA) (q:Za0):Prop:=match q with
 | .nx pe T'=>∃env S' μ' W',r= .nx env S'∧Stp μ W S μ' W' S'∧Sm μ' W' S' T'∧RdE μ' W' S' env pe
 | .rt p T'=>∃v S' μ' W',r= .rt v S'∧Stp μ W S μ' W' S'∧Sm μ' W' S' T'∧Rd μ' W' S' v p
 | .bk pe T'=>∃env S' μ' W',r= .bk env S'∧Stp μ W S μ' W' S'∧Sm μ' W' S' T'∧RdE μ' W' S' env pe
 | .ct pe T'=>∃env S' μ' W',r= .ct env S'∧Stp μ W S μ' W' S'∧Sm μ' W' S' T'∧RdE μ' W' S' env pe
 | .exc x pe T'=>∃y env S' μ' W',r= .exc y env S'∧Stp μ W S μ' W' S'∧Sm μ' W' S' T'∧RdX μ' W' S' y x∧RdE μ' W' S' env pe
 | .bad=>True
section
variable {α β γ δ:Type} {μ μ' μ2:List Nat} {W W' W2:Nat→Prop} {S S' S2:Zaa} {T T':Cs} {R R':ZeU α β} {R2:ZeU γ δ} {r:ZbA} {q:Za0} {env:En} {pe:PEn}
theorem AgS.trans (x:Stp μ W S μ' W' S') (h:AgS μ' W' S' r q):AgS μ W S r q:=by
 cases q with
 | nx p T'=>obtain⟨v,S1,μ1,W1,e,y,s,k⟩:=h; exact⟨v,S1,μ1,W1,e,x.trans y,s,k⟩
 | rt p T'=>obtain⟨v,S1,μ1,W1,e,y,s,k⟩:=h; exact⟨v,S1,μ1,W1,e,x.trans y,s,k⟩
 | bk p T'=>obtain⟨v,S1,μ1,W1,e,y,s,k⟩:=h; exact⟨v,S1,μ1,W1,e,x.trans y,s,k⟩
 | ct p T'=>obtain⟨v,S1,μ1,W1,e,y,s,k⟩:=h; exact⟨v,S1,μ1,W1,e,x.trans y,s,k⟩
 | exc p e T'=>obtain⟨v,w,S1,μ1,W1,e,y,s,k⟩:=h; exact⟨v,w,S1,μ1,W1,e,x.trans y,s,k⟩
 | bad=>trivial
theorem AgS.nx (s:Sm μ W S T) (n:RdE μ W S env pe):AgS μ W S (.nx env S) (.nx pe T):=⟨env,S,μ,W,rfl, .refl _ _ _,s,n⟩
theorem AgS.rt (s:Sm μ W S T) {v:SV} {p:PV} (n:Rd μ W S v p):AgS μ W S (.rt v S) (.rt p T):=⟨v,S,μ,W,rfl, .refl _ _ _,s,n⟩
theorem AgS.stm {r:Res α} {q:ZaR β} {f:α→Zaa→ZbA} {g:β→Cs→Za0} (h:Ag μ W S r q R) (s:Sm μ W S T) (n:RdE μ W S env pe)
  (k:∀μ' W' S' T' v p,Stp μ W S μ' W' S'→Sm μ' W' S' T'→R μ' W' S' v p→AgS μ' W' S' (f v S') (g p T')):AgS μ W S (r.stm env f) (q.stm pe g):=by
 cases q with
 | ok p T'=>obtain⟨v,S1,μ1,W1,rfl,y,s,z⟩:=h; exact(k _ _ _ _ _ _ y s z).trans y
 | exc p T'=>obtain⟨v,S1,μ1,W1,rfl,y,s1,z⟩:=h; exact⟨v,env,S1,μ1,W1,rfl,y,s1,z,n.step s y⟩
 | bad=>trivial
theorem AgS.seq {k:SM} {k':PSM} (h:AgS μ W S r q) (j:∀μ' W' S' T' env pe,Stp μ W S μ' W' S'→Sm μ' W' S' T'→RdE μ' W' S' env pe→AgS μ' W' S' (k env S') (k' pe T')):AgS μ W S (r.seq k) (q.seq k'):=by
 cases q with
 | nx p T'=>obtain⟨v,S1,μ1,W1,rfl,y,s,z⟩:=h; exact(j _ _ _ _ _ _ y s z).trans y
 | rt p T'=>obtain⟨v,S1,μ1,W1,rfl,y⟩:=h; exact⟨v,S1,μ1,W1,rfl,y⟩
 | bk p T'=>obtain⟨v,S1,μ1,W1,rfl,y⟩:=h; exact⟨v,S1,μ1,W1,rfl,y⟩
 | ct p T'=>obtain⟨v,S1,μ1,W1,rfl,y⟩:=h; exact⟨v,S1,μ1,W1,rfl,y⟩
 | exc p e T'=>obtain⟨v,w,S1,μ1,W1,rfl,y⟩:=h; exact⟨v,w,S1,μ1,W1,rfl,y⟩
 | bad=>trivial
theorem AgS.turn {k:SM} {k':PSM} (h:AgS μ W S r q) (j:∀μ' W' S' T' env pe,Stp μ W S μ' W' S'→Sm μ' W' S' T'→RdE μ' W' S' env pe→AgS μ' W' S' (k env S') (k' pe T')):AgS μ W S (turn r k) (Zdj q k'):=by
 cases q with
 | nx p T'=>obtain⟨v,S1,μ1,W1,rfl,y,s,z⟩:=h; exact(j _ _ _ _ _ _ y s z).trans y
 | rt p T'=>obtain⟨v,S1,μ1,W1,rfl,y⟩:=h; exact⟨v,S1,μ1,W1,rfl,y⟩
 | bk p T'=>obtain⟨v,S1,μ1,W1,rfl,y⟩:=h; exact⟨v,S1,μ1,W1,rfl,y⟩
 | ct p T'=>obtain⟨v,S1,μ1,W1,rfl,y,s,z⟩:=h; exact(j _ _ _ _ _ _ y s z).trans y
 | exc p e T'=>obtain⟨v,w,S1,μ1,W1,rfl,y⟩:=h; exact⟨v,w,S1,μ1,W1,rfl,y⟩
 | bad=>trivial
end
def SS (m:SM) (e:PSM):Prop:=∀(μ:List Nat) (W:Nat→Prop) (S:Zaa) (T:Cs) (env:En) (pe:PEn),Sm μ W S T→RdE μ W S env pe→AgS μ W S (m env S) (e pe T)
abbrev PGM:=PV→PSM
def SG (m:GM) (e:PGM):Prop:=∀(μ:List Nat) (W:Nat→Prop) (S:Zaa) (T:Cs) (x:SV) (p:PV) (env:En) (pe:PEn),Sm μ W S T→Rd μ W S x p→RdE μ W S env pe→AgS μ W S (m x env S) (e p pe T)
abbrev PU:=PV→PV→Cs→ZaR Unit
def RU:ZeU Unit Unit:=fun _ _ _ _ _=>True
def Zb0:PSM:=fun env T=> .nx env T
def Zof:PSM:=fun _ _=> .bad
def Za3 (a b:PSM):PSM:=fun env T=>(a env T).seq b
def ZaU (i:Nat):PGM:=fun v env T=> .nx (env.set i (some v)) T
def ZbB (e:PE) (g:PGM):PSM:=fun env T=>(e env T).stm env fun v T1=>g v env T1
def ZgJ (e:PE):PSM:=fun env T=>(e env T).stm env fun _ T1=> .nx env T1
def Zbe (e:PE):PSM:=fun env T=>(e env T).stm env fun v T1=> .rt v T1
def ZhZ:PSM:=fun _ T=> .rt .non T
def ZbX (t:PT) (a b:PSM):PSM:=fun env T=>(t env T).stm env fun c T1=>if c=true then a env T1 else b env T1
def Zeu:PSM:=fun env T=> .bk env T
def ZgK:PSM:=fun env T=> .ct env T
def ZiS:List PGM→PGM:=fun gs v env T=>match v with
 | .tup xs=>if xs.length=gs.length then (gs.zip xs).foldl (fun r p=>r.seq fun env T=>p.1 p.2 env T) (.nx env T)else .bad
 | _=> .bad
def ZfW (f:String) (v:PV):List (String × PV)→List (String × PV)
 | []=>[(f,v)]
 | (g,x)::r=>if g=f then (g,v)::r else (g,x)::ZfW f v r
def Zbw (cs:List String) (f:String):PU:=fun x v T=>match x with
 | .cell i=>(match T[i]? with
  | some (.ins c fs)=>if c∈cs∧fs.length<1000 then .ok () (T.set i (.ins c (ZfW f v fs)))else .bad
  | _=> .bad)
 | _=> .bad
def ZcE:PV→PV→PV→Cs→ZaR Unit:=fun o i v T=>match o,i with
 | .cell n, .int k=>(match T[n]? with
  | some (.lst xs)=>(match Zfc xs.length k with
   | some j=> .ok () (T.set n (.lst (xs.set j v)))
   | none=> .bad)
  | _=> .bad)
 | _,_=> .bad
def kIx (o i:PE):PGM:=fun v env T=>(o env T).stm env fun x T1=>(i env T1).stm env fun y T2=>(ZcE x y v T2).stm env fun _ T3=> .nx env T3
def ZfX (cs:List String) (f:String) (o e:PE):PSM:=fun env T=>(e env T).stm env fun v T1=>(o env T1).stm env fun x T2=>(Zbw cs f x v T2).stm env fun _ T3=> .nx env T3
def ZnC (i:Nat) (f:P2) (e:PE):PSM:=fun env T=>(Zae i env T).stm env fun x T0=>(e env T0).stm env fun y T1=>(f x y T1).stm env fun z T2=> .nx (env.set i (some z)) T2
def Zh0 (i j:Nat) (a:PA):PSM:=fun env T=>(a env T).stm env fun xs T1=>match xs with
 | [x,y]=> .nx ((env.set i (some x)).set j (some y)) T1
 | _=> .bad
def Zh1 (i j l:Nat) (a:PA):PSM:=fun env T=>(a env T).stm env fun xs T1=>match xs with
 | [x,y,z]=> .nx (((env.set i (some x)).set j (some y)).set l (some z)) T1
 | _=> .bad
section
variable {m m':EM} {e e':PE} {t t':TM} {q q':PT} {a:AM} {r:PA} {b b':SM} {c c':PSM} {g:GM} {k:PGM}
theorem SS.bad:SS b Zof:=fun _ _ _ _ _ _ _ _=>trivial
theorem SS.nop:SS Zea Zb0:=fun _ _ _ _ _ _ s n=> .nx s n
theorem SS.brk:SS Ziy Zeu:=fun _ _ _ _ _ _ s n=>⟨_,_,_,_,rfl, .refl _ _ _,s,n⟩
theorem SS.cont:SS ZlJ ZgK:=fun _ _ _ _ _ _ s n=>⟨_,_,_,_,rfl, .refl _ _ _,s,n⟩
theorem SS.seq (h:SS b c) (h':SS b' c'):SS (ZbO b b') (Za3 c c'):=by
 intro μ W S T env pe s n
 exact(h _ _ _ _ _ _ s n).seq fun _ _ _ _ _ _ _ s1 n1=>h' _ _ _ _ _ _ s1 n1
theorem SG.var (i:Nat):SG (Zb8 i) (ZaU i):=fun _ _ _ _ _ _ _ _ s r n=> .nx s (n.put i r)
theorem SS.asg (h:SE m e) (h':SG g k):SS (Zde m g) (ZbB e k):=by
 intro μ W S T env pe s n
 exact AgS.stm (h _ _ _ _ _ _ s n) s n fun _ _ _ _ _ _ x s1 r=>h' _ _ _ _ _ _ _ _ s1 r (n.step s x)
theorem SS.drop (h:SE m e):SS (ZlI m) (ZgJ e):=by
 intro μ W S T env pe s n
 exact AgS.stm (h _ _ _ _ _ _ s n) s n fun _ _ _ _ _ _ x s1 r=> .nx s1 (n.step s x)
theorem SS.ret (h:SE m e):SS (Zco m) (Zbe e):=by
 intro μ W S T env pe s n
 exact AgS.stm (h _ _ _ _ _ _ s n) s n fun _ _ _ _ _ _ x s1 r=> .rt s1 r
theorem SS.ite (h:ST t q) (h1:SS b c) (h2:SS b' c'):SS (sIf t b b') (ZbX q c c'):=by
 intro μ W S T env pe s n
 refine AgS.stm (h _ _ _ _ _ _ s n) s n fun _ _ _ _ v p x s1 r=> ?_
 cases r
 cases v
 ·exact h2 _ _ _ _ _ _ s1 (n.step s x)
 ·exact h1 _ _ _ _ _ _ s1 (n.step s x)
inductive SGs:List GM→List PGM→Prop
 | nil:SGs [] []
 | cons {g k gs ks}:SG g k→SGs gs ks→SGs (g::gs) (k::ks)
theorem SGs.len {gs ks} (h:SGs gs ks):gs.length=ks.length:=by
 induction h with
 | nil=>rfl
 | cons _ _ ih=>simp [ih]
theorem ZbT:∀(zs:List (PGM × PV)) (r:Za0),(∀env T,r≠ .nx env T)→zs.foldl (fun r p=>r.seq fun env T=>p.1 p.2 env T) r=r
 | [],_,_=>rfl
 | z::zs,r,h=>by
  have e:(r.seq fun env T=>z.1 z.2 env T)=r:=by cases r<;>first | exact absurd rfl (h _ _) | rfl
  rw [Yar,e]
  exact ZbT zs r h
theorem ZbR:∀(zs:List (GM × SV)) (r:ZbA),(∀env T,r≠ .nx env T)→zs.foldl (fun r p=>r.seq fun env T=>p.1 p.2 env T) r=r
 | [],_,_=>rfl
 | z::zs,r,h=>by
  have e:(r.seq fun env T=>z.1 z.2 env T)=r:=by cases r<;>first | exact absurd rfl (h _ _) | rfl
  rw [Yar,e]
  exact ZbR zs r h
theorem SG.tup {gs ks} (h:SGs gs ks):SG (Zjd gs) (ZiS ks):=by
 intro μ W S T x p env pe s r n
 cases p with
 | tup ps=>
  obtain⟨xs,rfl,rr⟩:=r.tup_
  simp only [ZiS,Zjd]
  by_cases hl:ps.length=ks.length
  ·rw [if_pos hl,if_pos (by rw [rr.len,hl,h.len])]
   clear hl r
   induction h generalizing μ W S T env pe xs ps with
   | nil=>exact .nx s n
   | @cons g k gs ks h1 h2 ih=>
    cases rr with
    | nil=>exact .nx s n
    | @cons y q ys qs a b=>
     simp only [Yat,Yar,ZaS,Ze8]
     have z:=h1 _ _ _ _ _ _ _ _ s a n
     cases hq:k q pe T with
     | nx pe' T'=>
      rw [hq]at z
      obtain⟨env',S',μ',W',e1,x1,s1,n1⟩:=z
      rw [e1]
      exact(ih _ _ _ _ _ _ s1 n1 _ _ (b.step s x1)).trans x1
     | rt v T'=>rw [hq]at z; obtain⟨v',S',μ',W',e1,z⟩:=z; rw [e1,ZbT _ (.rt v T') (fun _ _ h=>nomatch h),ZbR _ (.rt v' S') (fun _ _ h=>nomatch h)]; exact⟨v',S',μ',W',rfl,z⟩
     | bk v T'=>rw [hq]at z; obtain⟨v',S',μ',W',e1,z⟩:=z; rw [e1,ZbT _ (.bk v T') (fun _ _ h=>nomatch h),ZbR _ (.bk v' S') (fun _ _ h=>nomatch h)]; exact⟨v',S',μ',W',rfl,z⟩
     | ct v T'=>rw [hq]at z; obtain⟨v',S',μ',W',e1,z⟩:=z; rw [e1,ZbT _ (.ct v T') (fun _ _ h=>nomatch h),ZbR _ (.ct v' S') (fun _ _ h=>nomatch h)]; exact⟨v',S',μ',W',rfl,z⟩
     | exc v w T'=>rw [hq]at z; obtain⟨v',w',S',μ',W',e1,z⟩:=z; rw [e1,ZbT _ (.exc v w T') (fun _ _ h=>nomatch h),ZbR _ (.exc v' w' S') (fun _ _ h=>nomatch h)]; exact⟨v',w',S',μ',W',rfl,z⟩
     | bad=>rw [ZbT _ .bad (fun _ _ h=>nomatch h)]; trivial
  ·rw [if_neg hl]; trivial
 | _=>trivial
theorem ZgL {μ:List Nat} {W:Nat→Prop} {S:Zaa} {f:String} {v:SV} {p:PV} (r:Rd μ W S v p):∀{fs:List (String × SV)} {qs:List (String × PV)},fs.map Prod.fst=qs.map Prod.fst→Rds μ W S (fs.map Prod.snd) (qs.map Prod.snd)→
  (ZiE f v fs).map Prod.fst=(ZfW f p qs).map Prod.fst∧Rds μ W S ((ZiE f v fs).map Prod.snd) ((ZfW f p qs).map Prod.snd)
 | [],[],_,_=>⟨rfl, .cons r .nil⟩
 | [],_::_,e,_=>by cases e
 | _::_,[],e,_=>by cases e
 | (g,x)::fs,(g',y)::qs,e,k=>by
  simp only [Ya0,List.cons.injEq]at e
  obtain⟨rfl,e⟩:=e
  cases k with
  | cons a b=>
   simp only [ZiE,ZfW]
   by_cases h:g=f
   ·rw [if_pos h,if_pos h]; exact⟨by simp [e], .cons r b⟩
   ·rw [if_neg h,if_neg h]
    obtain⟨i1,i2⟩:=ZgL r e b
    exact⟨by simp [i1], .cons a i2⟩
theorem ZgM {cs:List String} {f:String} {μ:List Nat} {W:Nat→Prop} {S:Zaa} {T:Cs} {x v:SV} {p q:PV} (s:Sm μ W S T) (r:Rd μ W S x p) (r':Rd μ W S v q):Ag μ W S (ZdG cs f x v S) (Zbw cs f p q T) RU:=by
 cases p with
 | cell i=>
  obtain⟨n,rfl,hi⟩:=r.cell_
  simp only [Zbw]
  split
  ·rename_i c fs h
   obtain⟨o,e1,e2,e3⟩:=s.cell _ _ _ hi h
   cases e2 with
   | @ins _ gs _ k l=>
    have hl:gs.length=fs.length:=by have:=congrArg Ybo k; simpa using this
    simp only [ZdG,e1,hl]
    split
    ·obtain⟨k1,l1⟩:=ZgL (f:=f) r' k l
     obtain⟨x,s1⟩:=s.put hi (.ins k1 l1) rfl
     exact .okS x s1 trivial
    ·trivial
  ·trivial
 | _=>trivial
theorem SS.fld {cs:List String} {f:String} (h:SE m e) (h':SE m' e'):SS (Zls cs f m m') (ZfX cs f e e'):=by
 intro μ W S T env pe s n
 refine AgS.stm (h' _ _ _ _ _ _ s n) s n fun _ _ _ _ _ _ x s1 r=> ?_
 have n1:=n.step s x
 refine AgS.stm (h _ _ _ _ _ _ s1 n1) s1 n1 fun _ _ _ _ _ _ x2 s2 r2=> ?_
 have n2:=n1.step s1 x2
 refine AgS.stm (ZgM s2 r2 (r.step s1 x2)) s2 n2 fun _ _ _ _ _ _ x3 s3 _=> ?_
 exact .nx s3 (n2.step s2 x3)
theorem Zfl {μ:List Nat} {W:Nat→Prop} {S:Zaa} {T:Cs} {x i v:SV} {p j q:PV} (s:Sm μ W S T) (r:Rd μ W S x p) (ri:Rd μ W S i j) (r':Rd μ W S v q):Ag μ W S (Zdn x i v S) (ZcE p j q T) RU:=by
 cases p with
 | cell c=>
  obtain⟨n,rfl,hi⟩:=r.cell_
  cases j with
  | int k=>
   cases ri.int_
   simp only [ZcE]
   split
   ·rename_i ps h
    obtain⟨o,e1,e2,e3⟩:=s.cell _ _ _ hi h
    cases e2 with
    | lst l=>
     simp only [Zdn,e1,l.len]
     cases hx:Zfc ps.length k with
     | some j=>
      obtain⟨x,s1⟩:=s.put hi (.lst (l.set r' j)) rfl
      exact .okS (R:=RU) x s1 trivial
     | none=>trivial
   ·trivial
  | _=>trivial
 | _=>trivial
theorem SG.ix (h:SE m e) (h':SE m' e'):SG (gIx m m') (kIx e e'):=by
 intro μ W S T v p env pe s rv n
 refine AgS.stm (h _ _ _ _ _ _ s n) s n fun _ _ _ _ _ _ x s1 r=> ?_
 have n1:=n.step s x
 refine AgS.stm (h' _ _ _ _ _ _ s1 n1) s1 n1 fun _ _ _ _ _ _ x2 s2 r2=> ?_
 have n2:=n1.step s1 x2
 refine AgS.stm (Zfl s2 (r.step s1 x2) r2 ((rv.step s x).step s1 x2)) s2 n2 fun _ _ _ _ _ _ x3 s3 _=> ?_
 exact .nx s3 (n2.step s2 x3)
end
end MP
namespace MP
open PySem (Str PyData sizeLine)
variable [Gh]
abbrev PI:=PEn→Cs→ZaR (Option (Nat × PV) × List PV)
def okW:Option (Nat × PV)→List PV→Cs→Prop
 | none,_,_=>True
 | some (c,p),_,T=>T[c]? =some p
open Classical in
def Zdk (g:PGM) (body:PSM) (w:Option (Nat × PV)) (ps0:List PV):List PV→PSM
 | []=>fun env T=>if okW w ps0 T then .nx env T else .bad
 | x::r=>fun env T=>if okW w ps0 T then Zdj ((g x env T).seq body) (Zdk g body w ps0 r)else .bad
def Zev (it:PI) (g:PGM) (body:PSM):PSM:=fun env T=>(it env T).stm env fun p T1=>Zdk g body p.1 p.2 p.2 env T1
def IwR:ZeU (Nat × IT) (Option (Nat × PV) × List PV):=fun μ W S p q=>p.1=q.2.length+1∧∀(μ':List Nat) (W':Nat→Prop) (S':Zaa) (T':Cs),Stp μ W S μ' W' S'→Sm μ' W' S' T'→okW q.1 q.2 T'→∀i:Nat,(q.2[i]? =none→p.2 i S'=some none)∧∀r,q.2[i]? =some r→∃x,p.2 i S'=some (some x)∧Rd μ' W' S' x r
def SI (m:IM) (e:PI):Prop:=∀(μ:List Nat) (W:Nat→Prop) (S:Zaa) (T:Cs) (env:En) (pe:PEn),Sm μ W S T→RdE μ W S env pe→Ag μ W S (m env S) (e pe T) IwR
theorem IwR.step {μ μ':List Nat} {W W':Nat→Prop} {S S':Zaa} {p:Nat × IT} {q:Option (Nat × PV) × List PV} (h:IwR μ W S p q) (x:Stp μ W S μ' W' S'):IwR μ' W' S' p q:=⟨h.1,fun _ _ _ _ y s o=>h.2 _ _ _ _ (x.trans y) s o⟩
theorem IwR.it {μ μ':List Nat} {W W':Nat→Prop} {S S':Zaa} {T':Cs} {k:Nat} {I:IT} {w:Option (Nat × PV)} {ps:List PV} (h:IwR μ W S (k,I) (w,ps)) (y:Stp μ W S μ' W' S') (s:Sm μ' W' S' T') (o:okW w ps T') (i:Nat):(ps[i]? =none→I i S'=some none)∧∀r,ps[i]? =some r→∃x,I i S'=some (some x)∧Rd μ' W' S' x r:=h.2 _ _ _ _ y s o i
theorem ZkV {g:GM} {k:PGM} {b:SM} {c:PSM} (hg:SG g k) (hb:SS b c) {I:IT} {w:Option (Nat × PV)} {ps:List PV}:∀(rest:List PV) (i j:Nat) {μ:List Nat} {W:Nat→Prop} {S:Zaa} {T:Cs} {env:En} {pe:PEn},rest=ps.drop i→j=rest.length+1→IwR μ W S (ps.length+1,I) (w,ps)→Sm μ W S T→RdE μ W S env pe→
  AgS μ W S (Zej g b I j i env S) (Zdk k c w ps rest pe T):=by
 intro rest
 induction rest with
 | nil=>
  intro i j μ W S T env pe hr hj hI s n
  subst hj
  unfold Zdk Zej
  by_cases o:okW w ps T
  ·rw [if_pos o]
   have hl:ps[i]? =none:=by
    have:=congrArg Ybo hr
    simp at this
    exact YaQ (by omega)
   rw [(hI.it (.refl _ _ _) s o i).1 hl]
   exact .nx s n
  ·rw [if_neg o]; trivial
 | cons p rest ih=>
  intro i j μ W S T env pe hr hj hI s n
  subst hj
  unfold Zdk
  simp only [Yae]
  rw [show rest.length+1+1=(rest.length+1)+1 from rfl]
  unfold Zej
  by_cases o:okW w ps T
  ·rw [if_pos o]
   have hl:ps[i]? =some p:=by
    have:=congrArg (fun z=>z[0]?) hr
    simp at this
    exact this.symm
   obtain⟨x,e,r⟩:=(hI.it (.refl _ _ _) s o i).2 _ hl
   rw [e]
   simp only
   have hr':rest=ps.drop (i+1):=by
    have:=congrArg List.tail hr
    simpa using this
   have y:=hg _ _ _ _ _ _ _ _ s r n
   refine AgS.turn (AgS.seq y fun _ _ _ _ _ _ x1 s1 n1=>hb _ _ _ _ _ _ s1 n1) fun _ _ _ _ _ _ x1 s1 n1=> ?_
   exact ih (i+1) _ hr' rfl (hI.step x1) s1 n1
  ·rw [if_neg o]; trivial
theorem SS.for_ {it:IM} {pi:PI} {g:GM} {k:PGM} {b:SM} {c:PSM} (hi:SI it pi) (hg:SG g k) (hb:SS b c):SS (Zlt it g b) (Zev pi k c):=by
 intro μ W S T env pe s n
 refine AgS.stm (hi _ _ _ _ _ _ s n) s n fun _ _ _ _ v p x s1 r=> ?_
 obtain⟨c,I⟩:=v
 obtain⟨w,ps⟩:=p
 obtain⟨h1,h2⟩:=r
 cases h1
 exact ZkV hg hb ps 0 _ rfl rfl ⟨rfl,h2⟩ s1 (n.step s x)
def Zlz (lo:Int) (n:Nat):List PV:=(Ybj n).map fun i=> .int (lo+(i:Nat))
def jR1 (b:PE):PI:=fun env T=>(b env T).bind fun v T1=>match v with
 | .int j=> .ok (none,Zlz 0 j.toNat) T1
 | _=> .bad
def jR2 (a b:PE):PI:=fun env T=>(a env T).bind fun u T0=>(b env T0).bind fun v T1=>match u,v with
 | .int i, .int j=> .ok (none,Zlz i (j - i).toNat) T1
 | _,_=> .bad
def Zb1 (e:PE):PI:=fun env T=>(e env T).bind fun v T1=>match v with
 | .tup xs=> .ok (none,xs) T1
 | .lst xs=> .ok (none,xs) T1
 | .frz xs=> .ok (none,xs) T1
 | .str z=> .ok (none,z.cps.toList.map fun c=>PV.str ⟨#[c]⟩) T1
 | .cell c=>(match T1[c]? with
  | some (.lst xs)=> .ok (some (c, .lst xs),xs) T1
  | _=> .bad)
 | _=> .bad
theorem Zfm {μ:List Nat} {W:Nat→Prop} {S:Zaa} {lo:Int} {n:Nat}:IwR μ W S (n+1,itR lo n) (none,Zlz lo n):=by
 refine⟨by simp [Zlz],fun _ _ _ _ _ _ _ i=>⟨fun h=> ?_,fun r h=> ?_⟩⟩
 ·have:n≤i:=by simpa [Zlz]using h
  simp only [itR]
  rw [if_neg (by omega)]
 ·unfold Zlz at h
  rw [YaB]at h
  by_cases hi:i<n
  ·rw [List.getElem?_range hi]at h
   cases h
   exact⟨_,by simp only [itR]; rw [if_pos hi], .int _⟩
  ·rw [YaQ (by simpa using hi)]at h; cases h
theorem SI.r1 {m:EM} {e:PE} (h:SE m e):SI (iR1 m) (jR1 e):=by
 intro μ W S T env pe s n
 refine(h μ W S T env pe s n).bind fun μ1 W1 S1 T1 v p x s1 r1=> ?_
 cases p with
 | int b=>cases r1.int_; exact .ok s1 Zfm
 | _=>trivial
theorem SI.r2 {m m':EM} {e e':PE} (h:SE m e) (h':SE m' e'):SI (iR2 m m') (jR2 e e'):=by
 intro μ W S T env pe s n
 refine(h μ W S T env pe s n).bind fun μ1 W1 S1 T1 v p x s1 r1=> ?_
 refine(h' _ _ _ _ env pe s1 (n.step s x)).bind fun μ2 W2 S2 T2 v2 p2 x2 s2 r2=> ?_
 cases p with
 | int a=>
  cases p2 with
  | int b=>cases r1.int_; cases r2.int_; exact .ok s2 Zfm
  | _=>trivial
 | _=>trivial
theorem SI.seq {m:EM} {e:PE} (h:SE m e):SI (Zhk m) (Zb1 e):=by
  intro μ W S T env pe s n
  refine(h μ W S T env pe s n).bind fun μ1 W1 S1 T1 v p x s1 r1=> ?_
  cases p with
  | tup ps=>
    obtain⟨xs,rfl,r⟩:=r1.tup_
    refine .ok s1 ⟨by simp [r.len],fun μ' W' S' T' y s2 _ i=>⟨fun z=> ?_,fun q z=> ?_⟩⟩
    · have r':=r.step s1 y
      have:xs[i]? =none:=by
        rw [Yay]at z⊢
        rw [r.len]; exact z
      simp [itV,this]
    · obtain⟨w,a,b⟩:=(r.step s1 y).at z
      exact⟨w,by simp [itV,a],b⟩
  | str z=>
    cases r1.str_
    refine .ok s1 ⟨by simp,fun μ' W' S' T' y s2 _ i=>⟨fun q=> ?_,fun q q'=> ?_⟩⟩
    · have:z.cps[i]? =none:=by simpa using q
      simp [itS,this]
    · simp only [YaB,YaI]at q'
      obtain⟨c,a,rfl⟩:=q'
      have:z.cps[i]? =some c:=by simpa using a
      exact⟨_,by simp only [itS,this]; rfl, .str _⟩
  | lst ps=>
    cases r1 with
    | @node n1 o _ w e r=>
      have hl:∀{S':Zaa} {o'},S'[n1]? =some o'→o'=o→∃xs,ZaJ S' n1=some xs∧Rds μ1 W1 S1 xs ps:=fun a b=>by
        subst b
        cases r with
        | lst k=>exact⟨_,Zbq (.inl a),k⟩
      obtain⟨xs,a,b⟩:=hl e rfl
      simp only [a]
      refine .ok s1 ⟨by simp [b.len],fun μ' W' S' T' y s2 _ i=> ?_⟩
      have e2:S'[n1]? =some o:=by rw [y.fr n1 (s1.lt n1 w) (s1.dis n1 w)]; exact e
      obtain⟨xs',a',b'⟩:=hl e2 rfl
      have b2:=b'.step s1 y
      refine⟨fun z=> ?_,fun q z=> ?_⟩
      · have:xs'[i]? =none:=by
          rw [Yay]at z⊢
          rw [b2.len]; exact z
        simp [itL,a',this]
      · obtain⟨w,a3,b3⟩:=b2.at z
        exact⟨w,by simp [itL,a',a3],b3⟩
  | frz ps=>
    cases r1 with
    | @node n1 o _ w e r=>
      have hl:∀{S':Zaa} {o'},S'[n1]? =some o'→o'=o→∃xs,ZaJ S' n1=some xs∧Rds μ1 W1 S1 xs ps:=fun a b=>by
        subst b
        cases r with
        | frz k=>exact⟨_,Zbq (.inr a),k⟩
      obtain⟨xs,a,b⟩:=hl e rfl
      simp only [a]
      refine .ok s1 ⟨by simp [b.len],fun μ' W' S' T' y s2 _ i=> ?_⟩
      have e2:S'[n1]? =some o:=by rw [y.fr n1 (s1.lt n1 w) (s1.dis n1 w)]; exact e
      obtain⟨xs',a',b'⟩:=hl e2 rfl
      have b2:=b'.step s1 y
      refine⟨fun z=> ?_,fun q z=> ?_⟩
      · have:xs'[i]? =none:=by
          rw [Yay]at z⊢
          rw [b2.len]; exact z
        simp [itL,a',this]
      · obtain⟨w,a3,b3⟩:=b2.at z
        exact⟨w,by simp [itL,a',a3],b3⟩
  | cell c=>
    obtain⟨n1,rfl,hc⟩:=r1.cell_
    simp only
    cases hp:T1[c]? with
    | none=>trivial
    | some q0=>
     cases q0 with
     | lst ps=>
      obtain⟨n2,xs,e2,a,b⟩:=Rd.lst (ps:=ps) s1 (Rd.cell hc) (by simp only [ZbL,Zbo,hp])
      cases e2
      simp only [a]
      refine .ok s1 ⟨by simp [b.len],fun μ' W' S' T' y s2 o i=> ?_⟩
      obtain⟨ν,e1,l1⟩:=y.pre
      have hc':μ'[c]? =some n1:=by rw [e1,Yai (Yaj.mp hc).1]; exact hc
      have o':ZbL T' (.cell c)=some ps:=by
        have o2:T'[c]? =some (.lst ps):=o
        simp only [ZbL,Zbo,o2]
      obtain⟨n3,xs',e3,a',b'⟩:=Rd.lst s2 (Rd.cell hc') o'
      cases e3
      refine⟨fun z=> ?_,fun q z=> ?_⟩
      · have:xs'[i]? =none:=by
          rw [Yay]at z⊢
          rw [b'.len]; exact z
        simp [itL,a',this]
      · obtain⟨w,a3,b3⟩:=b'.at z
        exact⟨w,by simp [itL,a',a3],b3⟩
     | _=>trivial
  | _=>trivial
def ZeW (env:PEn):List Nat→PEn
 | []=>env
 | v::vs=>(ZeW env vs).set v none
theorem RdE.wipe {μ:List Nat} {W:Nat→Prop} {S:Zaa} {env:En} {pe:PEn} (h:RdE μ W S env pe):∀vs,RdE μ W S (Za1 env vs) (ZeW pe vs)
 | []=>h
 | v::vs=>(h.wipe vs).unset v none
open Classical in
def plc (g:PGM) (t:PT) (e:PE) (env:PEn) (w:Option (Nat × PV)) (ps0:List PV):List PV→List PV→Cs→ZaR (List PV)
 | [],acc,T=>if okW w ps0 T then .ok acc T else .bad
 | x::r,acc,T=>if okW w ps0 T then (match g x env T with
  | .nx env2 T2=>(match t env2 T2 with
   | .ok true T3=>(match e env2 T3 with
    | .ok y T4=>if acc.length<sizeLine then plc g t e env w ps0 r (acc++[y]) T4 else .bad
    | _=> .bad)
   | .ok false T3=>plc g t e env w ps0 r acc T3
   | _=> .bad)
  | _=> .bad)else .bad
def pLc (it:PI) (g:PGM) (t:PT) (e:PE) (vs:List Nat):PE:=fun env T=>(it env T).bind fun p T1=>(plc g t e (ZeW env vs) p.1 p.2 p.2 [] T1).bind fun ys T2=> .ok (.lst ys) T2
structure LcI (d:Nat) (μ:List Nat) (W:Nat→Prop) (S:Zaa) (acc:List SV):Prop where
 at_:S[d]? =some (.lst acc)
 w:¬W d
 m:d∉μ
theorem LcI.step {d:Nat} {μ μ':List Nat} {W W':Nat→Prop} {S S':Zaa} {acc:List SV} (h:LcI d μ W S acc) (x:Stp μ W S μ' W' S'):LcI d μ' W' S' acc:=by
 have hl:=(Yaj.mp h.at_).1
 refine⟨by rw [x.fr d hl h.m]; exact h.at_,fun z=> ?_,fun z=> ?_⟩
 ·rcases x.wn d z with z | z
  ·exact h.w z
  ·omega
 ·obtain⟨ν,e,l⟩:=x.pre
  rw [e]at z
  rcases YaH.mp z with z | z
  ·exact h.m z
  ·have:=l d z
   omega
theorem LcI.put {d:Nat} {μ:List Nat} {W:Nat→Prop} {S:Zaa} {T:Cs} {acc acc':List SV} (h:LcI d μ W S acc) (s:Sm μ W S T):
  Sm μ W (S.set d (.lst acc')) T∧LcI d μ W (S.set d (.lst acc')) acc'∧(∀{v p},Rd μ W S v p→Rd μ W (S.set d (.lst acc')) v p)∧(∀{v p},Rds μ W S v p→Rds μ W (S.set d (.lst acc')) v p):=by
 have hl:=(Yaj.mp h.at_).1
 have mo:=Rd.mono_all (μ:=μ) (μ':=μ) (W:=W) (W':=W) (S:=S) (S':=S.set d (.lst acc')) (fun _ _ e=>e) (fun n o w e=>⟨w,by rw [Yao (fun z=>h.w (by rw [z]; exact w))]; exact e⟩)
 refine⟨⟨s.len,s.nd,fun i n p e e'=> ?_,s.dis,fun n w=>by rw [Yap]; exact s.lt n w⟩,⟨Yan hl,h.w,h.m⟩,mo.1,mo.2.1⟩
 obtain⟨o,e1,e2,e3⟩:=s.cell i n p e e'
 exact⟨o,by rw [Yao (fun z=>h.m (by rw [z]; exact YaT e))]; exact e1,mo.2.2 e2,e3⟩
theorem Zog {g:GM} {k:PGM} {t:TM} {q:PT} {m:EM} {e:PE} (hg:SG g k) (ht:ST t q) (he:SE m e) {I:IT} {w:Option (Nat × PV)} {ps:List PV} {d:Nat} {env:En} {pe:PEn} {μ0:List Nat} {W0:Nat→Prop} {S0:Zaa} {T0:Cs}
    (s0:Sm μ0 W0 S0 T0) (hE:RdE μ0 W0 S0 env pe) (hI:IwR μ0 W0 S0 (ps.length+1,I) (w,ps)) (hd:S0.length≤d):
    ∀(rest:List PV) (i j:Nat) {μ:List Nat} {W:Nat→Prop} {S:Zaa} {T:Cs} (acc:List SV) (accp:List PV),rest=ps.drop i→j=rest.length+1→Sm μ W S T→LcI d μ W S acc→Rds μ W S acc accp→Stp μ0 W0 S0 μ W S→
      match plc k q e pe w ps rest accp T with
      | .ok ys T'=>∃S' μ' W' acc',lcI g t m d env I j i S= .ok () S'∧Stp μ0 W0 S0 μ' W' S'∧Sm μ' W' S' T'∧LcI d μ' W' S' acc'∧Rds μ' W' S' acc' ys
      | .exc _ _=>False
      | .bad=>True:=by
  intro rest
  induction rest with
  | nil=>
    intro i j μ W S T acc accp hr hj s lc ra x0
    subst hj
    unfold plc lcI
    by_cases o:okW w ps T
    · rw [if_pos o]
      have hl:ps[i]? =none:=by
        have:=congrArg Ybo hr
        simp at this
        exact YaQ (by omega)
      rw [(hI.it x0 s o i).1 hl]
      exact⟨S,μ,W,acc,rfl,x0,s,lc,ra⟩
    · rw [if_neg o]; trivial
  | cons p rest ih=>
    intro i j μ W S T acc accp hr hj s lc ra x0
    subst hj
    have n:=hE.step s0 x0
    unfold plc
    rw [Yae]
    unfold lcI
    by_cases o:okW w ps T
    · rw [if_pos o]
      have hl:ps[i]? =some p:=by
        have:=congrArg (fun z=>z[0]?) hr
        simp at this
        exact this.symm
      obtain⟨x,ex,r⟩:=(hI.it x0 s o i).2 _ hl
      rw [ex]
      simp only
      have hr':rest=ps.drop (i+1):=by
        have:=congrArg List.tail hr
        simpa using this
      have y:=hg _ _ _ _ _ _ _ _ s r n
      cases hk:k p pe T with
      | nx pe2 T2=>
        rw [hk]at y
        obtain⟨env2,S2,μ2,W2,e1,x1,s1,n1⟩:=y
        simp only [e1]
        have y:=ht _ _ _ _ _ _ s1 n1
        cases hq:q pe2 T2 with
        | ok b T3=>
          rw [hq]at y
          obtain⟨b',S3,μ3,W3,e3,x3,s3,n3⟩:=y
          have n3':b'=b:=n3
          subst n3'
          simp only [e3]
          have xx:=x1.trans x3
          cases b' with
          | true=>
            simp only
            have y:=he _ _ _ _ _ _ s3 (n1.step s1 x3)
            cases hz:e pe2 T3 with
            | ok v T4=>
              rw [hz]at y
              obtain⟨v',S4,μ4,W4,e4,x4,s4,n4⟩:=y
              simp only [e4]
              have x5:=xx.trans x4
              have lc5:=lc.step x5
              have ra5:=ra.step s x5
              have la:acc.length=accp.length:=ra.len
              simp only [lc5.at_,la]
              by_cases hs:accp.length<sizeLine
              · rw [if_pos hs,if_pos hs]
                obtain⟨s6,lc6,r6,rs6⟩:=lc5.put (acc':=acc++[v']) s4
                refine ih (i+1) _ (acc++[v']) (accp++[v]) hr' rfl s6 lc6 (rs6 (ra5.app (.cons n4 .nil))) ?_
                have y:=x0.trans x5
                exact⟨y.pre,y.wk,y.wn,by rw [Yap]; exact y.len,fun n h h'=>by rw [Yao (by omega)]; exact y.fr n h h'⟩
              · rw [if_neg hs]; trivial
            | _=>trivial
          | false=>
            simp only
            exact ih (i+1) _ acc accp hr' rfl s3 (lc.step xx) (ra.step s xx) (x0.trans xx)
        | _=>trivial
      | _=>trivial
    · rw [if_neg o]; trivial
theorem ZkW {it:IM} {pi:PI} {g:GM} {k:PGM} {t:TM} {q:PT} {m:EM} {e:PE} {vs:List Nat} (hi:SI it pi) (hg:SG g k) (ht:ST t q) (he:SE m e) {α:Type} {f:List PV→Cs→ZaR α} {R:ZeU SV α}
  (fin:∀{d:Nat} {μ0:List Nat} {W0:Nat→Prop} {S0:Zaa} {μ:List Nat} {W:Nat→Prop} {S:Zaa} {T:Cs} {acc:List SV} {ys:List PV},S0.length≤d→Stp μ0 W0 S0 μ W S→Sm μ W S T→LcI d μ W S acc→Rds μ W S acc ys→Ag μ0 W0 S0 (.ok (.ref d) S) (f ys T) R):
  ∀(μ:List Nat) (W:Nat→Prop) (S:Zaa) (T:Cs) (env:En) (pe:PEn),Sm μ W S T→RdE μ W S env pe→Ag μ W S (eLc it g t m vs env S) ((pi pe T).bind fun p T1=>(plc k q e (ZeW pe vs) p.1 p.2 p.2 [] T1).bind fun ys T2=>f ys T2) R:=by
 intro μ W S T env pe s n
 refine(hi μ W S T env pe s n).bind fun μ1 W1 S1 T1 v p x s1 r1=> ?_
 obtain⟨c,I⟩:=v
 obtain⟨w,ps⟩:=p
 obtain⟨h1,h2⟩:=r1
 cases h1
 have n1:=(n.step s x).wipe vs
 have hI:IwR μ1 W1 S1 (ps.length+1,I) (w,ps):=⟨rfl,h2⟩
 -- the new list, nobody's
 have x1:Stp μ1 W1 S1 μ1 W1 (S1++[.lst []]):=⟨⟨[],by simp,fun _ h=>nomatch h⟩,fun n h=>h,fun n h=> .inl h,by simp,fun n h _=>Yai h⟩
 have s2:Sm μ1 W1 (S1++[.lst []]) T1:=⟨s1.len,s1.nd,fun i n p e e'=>by
  obtain⟨o,e1,e2,e3⟩:=s1.cell i n p e e'
  exact⟨o,by rw [Yai (Yaj.mp e1).1]; exact e1,e2.step s1 x1,e3⟩,s1.dis,fun n h=>by have:=s1.lt n h; rw [Yak]; omega⟩
 have lc:LcI S1.length μ1 W1 (S1++[.lst []]) []:=⟨by simp,fun z=>by have:=s1.lt _ z; omega,fun z=>by have:=s1.mlt _ z; omega⟩
 have key:=Zog hg ht he s1 n1 hI (Yab _) ps 0 (ps.length+1) [] [] rfl rfl s2 lc .nil x1
 simp only
 cases hp:plc k q e (ZeW pe vs) w ps ps [] T1 with
 | ok ys T'=>
  rw [hp]at key
  obtain⟨S',μ',W',acc',e1,x2,s3,lc3,r3⟩:=key
  rw [e1]
  exact fin (Yab _) x2 s3 lc3 r3
 | exc y T'=>rw [hp]at key; exact key.elim
 | bad=>trivial
theorem SE.lc {it:IM} {pi:PI} {g:GM} {k:PGM} {t:TM} {q:PT} {m:EM} {e:PE} {vs:List Nat} (hi:SI it pi) (hg:SG g k) (ht:ST t q) (he:SE m e):SE (eLc it g t m vs) (pLc pi k q e vs):=by
 refine ZkW hi hg ht he fun{d μ0 W0 S0 μ W S T acc ys} hd x s lc r=> ?_
 have hl:=(Yaj.mp lc.at_).1
 have x':Stp μ W S μ (fun n=>W n∨n=d) S→True:=fun _=>trivial
 have mo:=Rd.mono_all (μ:=μ) (μ':=μ) (W:=W) (W':=fun n=>W n∨n=d) (S:=S) (S':=S) (fun _ _ e=>e) (fun n o w e=>⟨.inl w,e⟩)
 refine .okS (μ':=μ) (W':=fun n=>W n∨n=d) ⟨x.pre,fun n h=> .inl (x.wk n h),fun n h=> ?_,x.len,x.fr⟩ ⟨s.len,s.nd,fun i n p e e'=> ?_,fun n h z=> ?_,fun n h=> ?_⟩ (.node (.inr rfl) lc.at_ (.lst (mo.2.1 r)))
 ·rcases h with h | h
  ·exact x.wn n h
  ·exact .inr (by omega)
 ·obtain⟨o,e1,e2,e3⟩:=s.cell i n p e e'
  exact⟨o,e1,mo.2.2 e2,e3⟩
 ·rcases h with h | h
  ·exact s.dis n h z
  ·subst h; exact lc.m z
 ·rcases h with h | h
  ·exact s.lt n h
  ·subst h; exact hl
end MP
namespace MP
open PySem (Str PyData sizeLine)
mutual
def wf (k:Nat):PV→Bool
 | .cell i=>decide (i<k)
 | .tup xs=>wfs k xs
 | .lst xs=>wfs k xs
 | .frz xs=>wfs k xs
 | .dK kvs=>wfk k kvs
 | .dT kvs=>wft k kvs
 | .dF kvs=>wfk k kvs
 | .dG kvs=>wft k kvs
 | .ins _ fs=>wff k fs
 | _=>true
def wfs (k:Nat):List PV→Bool
 | []=>true
 | x::r=>wf k x&&wfs k r
def wfk (k:Nat):List (Key × PV)→Bool
 | []=>true
 | (_,x)::r=>wf k x&&wfk k r
def wft (k:Nat):List (List Key × PV)→Bool
 | []=>true
 | (_,x)::r=>wf k x&&wft k r
def wff (k:Nat):List (String × PV)→Bool
 | []=>true
 | (_,x)::r=>wf k x&&wff k r
end
theorem Zc2 {k:Nat}:∀kvs,wfk k kvs=wfs k (kvs.map Prod.snd)
 | []=>rfl
 | (_,_)::r=>by simp only [wfk,Ya0,wfs,Zc2 r]
theorem Zc3 {k:Nat}:∀kvs,wft k kvs=wfs k (kvs.map Prod.snd)
 | []=>rfl
 | (_,_)::r=>by simp only [wft,Ya0,wfs,Zc3 r]
theorem Zew {k:Nat}:∀kvs,wff k kvs=wfs k (kvs.map Prod.snd)
 | []=>rfl
 | (_,_)::r=>by simp only [wff,Ya0,wfs,Zew r]
theorem Zcu {k:Nat}:∀xs,wfs k xs=xs.all (wf k)
 | []=>rfl
 | _::r=>by simp only [wfs,Ybp,Zcu r]
section
variable {μ ν:List Nat} {W W':Nat→Prop} {S S':Zaa} {T T':Cs}
theorem Rd.close_all (h2:∀n,W n→W' n):
  (∀{v p},Rd (μ++ν) W S v p→wf μ.length p=true→Rd μ W' S v p)∧(∀{v p},Rds (μ++ν) W S v p→wfs μ.length p=true→Rds μ W' S v p)∧(∀{v p},RdO (μ++ν) W S v p→wf μ.length p=true→RdO μ W' S v p):=by
 have c1:∀{i n:Nat},(μ++ν)[i]? =some n→wf μ.length (.cell i)=true→Rd μ W' S (.ref n) (.cell i):=fun{i n} e h=>by
  simp only [wf,decide_eq_true_eq]at h
  rw [Yai h]at e
  exact .cell e
 have c2:∀{x p xs ps},(wf μ.length p=true→Rd μ W' S x p)→(wfs μ.length ps=true→Rds μ W' S xs ps)→wfs μ.length (p::ps)=true→Rds μ W' S (x::xs) (p::ps):=fun a b h=>by
  simp only [wfs,YaK]at h
  exact .cons (a h.1) (b h.2)
 refine⟨fun h=> ?_,fun h=> ?_,fun h=> ?_⟩
 ·exact Rd.rec (motive_1:=fun v p _=>wf μ.length p=true→Rd μ W' S v p) (motive_2:=fun v p _=>wfs μ.length p=true→Rds μ W' S v p) (motive_3:=fun v p _=>wf μ.length p=true→RdO μ W' S v p)
   (fun _=> .non) (fun b _=> .bl b) (fun b _=> .int b) (fun b _=> .str b) (fun b _=> .ty b) (fun b _=> .cls b) (fun b _=> .fn b) (fun _ a h=> .tup (a h)) (fun w e _ a h=> .node (h2 _ w) e (a h)) (fun e h=>c1 e h) (fun _=> .nil) (fun _ _ a b h=>c2 a b h) (fun _ a h=> .lst (a h)) (fun _ a h=> .frz (a h)) (fun e _ a h=> .dK e (a (by rw [←Zc2]; exact h))) (fun e _ a h=> .dT e (a (by rw [←Zc3]; exact h))) (fun e _ a h=> .dF e (a (by rw [←Zc2]; exact h))) (fun e _ a h=> .dG e (a (by rw [←Zc3]; exact h))) (fun e _ a h=> .ins e (a (by rw [←Zew]; exact h))) h
 ·exact Rds.rec (motive_1:=fun v p _=>wf μ.length p=true→Rd μ W' S v p) (motive_2:=fun v p _=>wfs μ.length p=true→Rds μ W' S v p) (motive_3:=fun v p _=>wf μ.length p=true→RdO μ W' S v p)
   (fun _=> .non) (fun b _=> .bl b) (fun b _=> .int b) (fun b _=> .str b) (fun b _=> .ty b) (fun b _=> .cls b) (fun b _=> .fn b) (fun _ a h=> .tup (a h)) (fun w e _ a h=> .node (h2 _ w) e (a h)) (fun e h=>c1 e h) (fun _=> .nil) (fun _ _ a b h=>c2 a b h) (fun _ a h=> .lst (a h)) (fun _ a h=> .frz (a h)) (fun e _ a h=> .dK e (a (by rw [←Zc2]; exact h))) (fun e _ a h=> .dT e (a (by rw [←Zc3]; exact h))) (fun e _ a h=> .dF e (a (by rw [←Zc2]; exact h))) (fun e _ a h=> .dG e (a (by rw [←Zc3]; exact h))) (fun e _ a h=> .ins e (a (by rw [←Zew]; exact h))) h
 ·exact RdO.rec (motive_1:=fun v p _=>wf μ.length p=true→Rd μ W' S v p) (motive_2:=fun v p _=>wfs μ.length p=true→Rds μ W' S v p) (motive_3:=fun v p _=>wf μ.length p=true→RdO μ W' S v p)
   (fun _=> .non) (fun b _=> .bl b) (fun b _=> .int b) (fun b _=> .str b) (fun b _=> .ty b) (fun b _=> .cls b) (fun b _=> .fn b) (fun _ a h=> .tup (a h)) (fun w e _ a h=> .node (h2 _ w) e (a h)) (fun e h=>c1 e h) (fun _=> .nil) (fun _ _ a b h=>c2 a b h) (fun _ a h=> .lst (a h)) (fun _ a h=> .frz (a h)) (fun e _ a h=> .dK e (a (by rw [←Zc2]; exact h))) (fun e _ a h=> .dT e (a (by rw [←Zc3]; exact h))) (fun e _ a h=> .dF e (a (by rw [←Zc2]; exact h))) (fun e _ a h=> .dG e (a (by rw [←Zc3]; exact h))) (fun e _ a h=> .ins e (a (by rw [←Zew]; exact h))) h
def ZiT (k:Nat) (x:PX):Bool:=match x with
 | .own _ fs=>wff k fs
 | .blt _=>true
def ZkX (k:Nat) (T:Cs) (v:PV):Option PV:=match v with
 | .cell i=>if k≤i then T[i]? else some (.cell i)
 | v=>some v
def Zb2 (k:Nat):ZaR PV→ZaR PV
 | .ok v T=>if T.length=k then .ok v T else (match ZkX k T v with
  | some u=>if(wfs k (T.take k)&&wf k u)=true then .ok u (T.take k)else .bad
  | none=> .bad)
 | .exc x T=>if T.length=k then .exc x T else if(wfs k (T.take k)&&ZiT k x)=true then .exc x (T.take k)else .bad
 | .bad=> .bad
theorem Zfn {μ':List Nat} (x:Stp μ W S μ' W' S') (s:Sm μ W S T) (s':Sm μ' W' S' T') (hw:wfs T.length (T'.take T.length)=true) (hl:T.length≤T'.length):
  ∃ν,μ'=μ++ν∧Stp μ W S μ (fun n=>W' n∨n∈ν) S'∧Sm μ (fun n=>W' n∨n∈ν) S' (T'.take T.length):=by
 obtain⟨ν,e,l⟩:=x.pre
 refine⟨ν,e,⟨⟨[],by simp,fun _ h=>nomatch h⟩,fun n h=> .inl (x.wk n h),fun n h=>h.elim (x.wn n) (fun z=> .inr (l n z)),x.len,x.fr⟩,⟨?_,s.nd,fun i n p e1 e2=> ?_,fun n h z=> ?_,fun n h=> ?_⟩⟩
 ·rw [List.length_take,s.len]; omega
 ·have hi:i<μ.length:=(Yaj.mp e1).1
  have e3:μ'[i]? =some n:=by rw [e,Yai hi]; exact e1
  have hp:p∈T'.take T.length:=YaT e2
  have e4:T'[i]? =some p:=by
   rw [List.getElem?_take]at e2
   split at e2
   ·exact e2
   ·cases e2
  obtain⟨o,a,b,c⟩:=s'.cell i n p e3 e4
  have wp:wf T.length p=true:=by rw [Zcu]at hw; exact YaL.mp hw p hp
  subst e
  exact⟨o,a,(Rd.close_all (μ:=μ) (ν:=ν) (fun n h=> .inl h)).2.2 b (by rw [s.len]; exact wp),c⟩
 ·have hn:n∈μ':=by rw [e]; exact Ybc _ z
  rcases h with h | h
  ·exact s'.dis n h hn
  ·have nd:=s'.nd
   rw [e,Ybn]at nd
   exact nd.2.2 n z n h rfl
 ·rcases h with h | h
  ·exact s'.lt n h
  ·exact s'.mlt n (by rw [e]; exact Ybb _ h)
theorem Stp.mlen {μ':List Nat} (x:Stp μ W S μ' W' S') (s:Sm μ W S T) (s':Sm μ' W' S' T'):T.length≤T'.length:=by
 obtain⟨ν,e,_⟩:=x.pre
 have:=s.len; have:=s'.len
 rw [e,Yak]at *
 omega
theorem Ag.close {r:Res SV} {q:ZaR PV} (s:Sm μ W S T) (h:Ag μ W S r q RV):Ag μ W S r (Zb2 T.length q) RV:=by
 cases q with
 | ok p T'=>
  obtain⟨v,S',μ',W',e,x,s',rd⟩:=h
  unfold Zb2
  simp only
  by_cases hl:T'.length=T.length
  ·rw [if_pos hl]; exact⟨v,S',μ',W',e,x,s',rd⟩
  ·rw [if_neg hl]
   cases ht:ZkX T.length T' p with
   | none=>trivial
   | some u=>
    simp only
    by_cases hw:(wfs T.length (T'.take T.length)&&wf T.length u)=true
    ·rw [if_pos hw]
     simp only [YaK]at hw
     obtain⟨ν,e1,x1,s1⟩:=Zfn x s s' hw.1 (x.mlen s s')
     refine⟨v,S',μ,_,e,x1,s1, ?_⟩
     subst e1
     have cl:=Rd.close_all (μ:=μ) (ν:=ν) (W:=W') (W':=fun n=>W' n∨n∈ν) (S:=S') (fun n h=> .inl h)
     rw [s.len]at cl
     cases p with
     | cell i=>
      simp only [ZkX]at ht
      by_cases hi:T.length≤i
      ·rw [if_pos hi]at ht
       obtain⟨n,rfl,hn⟩:=Rd.cell_ rd
       obtain⟨o,a,b,c⟩:=s'.cell i n u hn ht
       have hmem:n∈ν:=by
        rw [Yal (by rw [s.len]; exact hi)]at hn
        exact YaT hn
       exact .node (.inr hmem) a (cl.2.2 b hw.2)
      ·rw [if_neg hi]at ht
       cases ht
       exact cl.1 rd hw.2
     | _=>cases ht; exact cl.1 rd hw.2
    ·rw [if_neg hw]; trivial
 | exc p T'=>
  obtain⟨v,S',μ',W',e,x,s',rd⟩:=h
  unfold Zb2
  simp only
  by_cases hl:T'.length=T.length
  ·rw [if_pos hl]; exact⟨v,S',μ',W',e,x,s',rd⟩
  ·rw [if_neg hl]
   by_cases hw:(wfs T.length (T'.take T.length)&&ZiT T.length p)=true
   ·rw [if_pos hw]
    simp only [YaK]at hw
    obtain⟨ν,e1,x1,s1⟩:=Zfn x s s' hw.1 (x.mlen s s')
    refine⟨v,S',μ,_,e,x1,s1, ?_⟩
    subst e1
    have cl:=Rd.close_all (μ:=μ) (ν:=ν) (W:=W') (W':=fun n=>W' n∨n∈ν) (S:=S') (fun n h=> .inl h)
    rw [s.len]at cl
    cases v<;>cases p<;>try exact rd.elim
    ·exact⟨rd.1,rd.2.1,cl.2.1 rd.2.2 (by rw [←Zew]; exact hw.2)⟩
    ·exact rd
   ·rw [if_neg hw]; trivial
 | bad=>trivial
end
def ZbF:Za0→ZaR PV
 | .nx _ T=> .ok .non T
 | .rt v T=> .ok v T
 | .exc x _ T=> .exc x T
 | _=> .bad
def Zbx (n:Nat) (body:PSM) (args:List PV):Cs→ZaR PV:=fun T=>ZbF (body (args.map some++Yaa (n - args.length) none) T)
def Zdt (n:Nat) (body:PSM) (args:List PV):Cs→ZaR PV:=fun T=>Zb2 T.length (Zbx n body args T)
def Zby:Cs→ZaR PV:=fun _=> .bad
instance (priority:=low) Gh.triv:Gh:=⟨fun _ _ _=>True,fun _ _ _=>trivial,fun _ _ _=>trivial⟩
theorem RdE.args {μ:List Nat} {W:Nat→Prop} {S:Zaa} {xs:List SV} {ps:List PV} (r:Rds μ W S xs ps) (k:Nat): @RdE Gh.triv μ W S (xs.map some++Yaa k none) (ps.map some++Yaa k none):=by
 refine⟨by simp [r.len],fun i p e=> ?_,trivial⟩
 by_cases hi:i<ps.length
 ·rw [Yai (by simpa using hi),YaB]at e
  rw [Yai (by simpa [r.len]using hi),YaB]
  simp only [YaI,Option.some.injEq,exists_eq_right]at e
  obtain⟨x,a,b⟩:=r.at e
  exact⟨x,by rw [a]; rfl,b⟩
 ·rw [Yal (by simpa using hi),YaC]at e
  split at e<;>cases e
theorem SF.runK {n k:Nat} {b:SM} {c:PSM} (h:∀ [Gh],SS b c):SF (fun xs=>if xs.length=k then run n b xs else ZcK) (fun ps=>if ps.length=k then Zbx n c ps else Zby):=by
 intro μ W S T xs ps s r
 simp only [r.len]
 by_cases hk:ps.length=k
 ·rw [if_pos hk,if_pos hk]
  have y:= @h Gh.triv _ _ _ _ _ _ s (RdE.args r (n - ps.length))
  unfold Zbx run
  rw [r.len]
  cases hc:c (ps.map some++Yaa (n - ps.length) none) T with
  | nx pe T'=>rw [hc]at y; obtain⟨e,S',μ',W',e1,x,s1,z⟩:=y; rw [e1]; exact⟨_,S',μ',W',rfl,x,s1, .non⟩
  | rt pe T'=>rw [hc]at y; obtain⟨e,S',μ',W',e1,x,s1,z⟩:=y; rw [e1]; exact⟨_,S',μ',W',rfl,x,s1,z⟩
  | exc pe e T'=>rw [hc]at y; obtain⟨e,_,S',μ',W',e1,x,s1,z,_⟩:=y; rw [e1]; exact⟨_,S',μ',W',rfl,x,s1,z⟩
  | _=>trivial
 ·simp only [if_neg hk]; trivial
theorem SF.run {n k:Nat} {b:SM} {c:PSM} (h:∀ [Gh],SS b c):SF (fun xs=>if xs.length=k then MP.run n b xs else ZcK) (fun ps=>if ps.length=k then Zdt n c ps else Zby):=by
 intro μ W S T xs ps s r
 have y:=(SF.runK (n:=n) (k:=k) h _ _ _ _ _ _ s r)
 by_cases hk:ps.length=k
 ·simp only [if_pos hk]at y⊢
  exact y.close s
 ·simp only [if_neg hk]at y⊢; trivial
def Zex (c:String) (init:PF):PF:=fun ps T=>(init (.cell T.length::ps) (T++[.ins c []])).bind fun r T'=>match r with
 | .non=> .ok (.cell T.length) T'
 | _=> .bad
def ZdW (c:String) (init:PF):PF:=fun ps T=>Zb2 T.length (Zex c init ps T)
theorem Stp.cellAt {μ μ':List Nat} {W W':Nat→Prop} {S S':Zaa} {i n:Nat} (x:Stp μ W S μ' W' S') (h:μ[i]? =some n):μ'[i]? =some n:=by
 obtain⟨ν,e,_⟩:=x.pre
 rw [e,Yai (Yaj.mp h).1]; exact h
theorem SF.makeK {c:String} {f:List SV→M SV} {g:PF} (h:SF f g):SF (Zcf c f) (Zex c g):=by
 intro μ W S T xs ps s r
 obtain⟨x,s1,rc⟩:=s.newc (o:= .ins c []) (p:= .ins c []) (.ins rfl .nil) rfl
 have y:=h _ _ _ _ _ _ s1 (.cons rc (r.step s x))
 refine(Ag.bind y fun μ' W' S' T' v p x' s' r'=> ?_).trans x
 have hc:μ'[T.length]? =some S.length:=x'.cellAt (by rw [←s.len]; simp)
 cases p with
 | non=>cases Rd.non_ r'; exact .ok s' (.cell hc)
 | _=>trivial
theorem SF.make {c:String} {f:List SV→M SV} {g:PF} (h:SF f g):SF (Zcf c f) (ZdW c g):=fun _ _ _ _ _ _ s r=>(SF.makeK (c:=c) h _ _ _ _ _ _ s r).close s
def Zd9 (T:Cs) (p:PV):Option String:=match Zbo T p with
 | some (.ins c _)=>some c
 | _=>none
def tyP (T:Cs) (p:PV):Option TyN:=match p with
 | .non=>some (.b "NoneType") | .bl _=>some (.b "bool") | .int _=>some (.b "int") | .str _=>some (.b "str") | .tup _=>some (.b "tuple")
 | p=>match Zbo T p with
  | some (.lst _)=>some (.b "list") | some (.frz _)=>some (.b "list") | some (.dK _)=>some (.b "dict") | some (.dT _)=>some (.b "dict") | some (.dF _)=>some (.b "dict") | some (.dG _)=>some (.b "dict") | some (.ins c _)=>some (.o c)
  | _=>none
section
variable {μ:List Nat} {W:Nat→Prop} {S:Zaa} {T:Cs} {v:SV} {p:PV}
theorem Rd.cellT (s:Sm μ W S T) {i:Nat} (r:Rd μ W S v (.cell i)):∃n o q,v= .ref n∧μ[i]? =some n∧T[i]? =some q∧S[n]? =some o∧RdO μ W S o q∧o.isFrz=false:=by
 obtain⟨n,rfl,h⟩:=r.cell_
 have hi:i<T.length:=by rw [←s.len]; exact(Yaj.mp h).1
 obtain⟨o,a,b,c⟩:=s.cell i n _ h (YaY hi)
 exact⟨n,o,_,rfl,h,YaY hi,a,b,c⟩
theorem Zdu (s:Sm μ W S T) (r:Rd μ W S v p):Zb6 S v=Zd9 T p:=by
 cases r with
 | node w e o=>cases o<;>simp only [Zb6,Zd9,Zbo,e]
 | cell h=>
  obtain⟨n,o,q,e0,e1,e2,e3,e4,_⟩:=Rd.cellT s (Rd.cell h)
  cases e0
  cases e4<;>simp only [Zb6,Zd9,Zbo,e2,e3]
 | _=>rfl
theorem ZkY (s:Sm μ W S T) (r:Rd μ W S v p):Ziz S v=tyP T p:=by
 cases r with
 | node w e o=>cases o<;>simp only [Ziz,tyP,Zbo,e]
 | cell h=>
  obtain⟨n,o,q,e0,e1,e2,e3,e4,_⟩:=Rd.cellT s (Rd.cell h)
  cases e0
  cases e4<;>simp only [Ziz,tyP,Zbo,e2,e3]
 | _=>rfl
end
variable [Gh]
abbrev ZdX:=List (String × PF)
inductive Za5:Zap→ZdX→Prop
 | nil:Za5 [] []
 | cons {c f g tb pt}:SF f g→Za5 tb pt→Za5 ((c,f)::tb) ((c,g)::pt)
theorem Za5.look {tb:Zap} {pt:ZdX} (h:Za5 tb pt) (c:String):(∀g,pt.lookup c=some g→∃f,tb.lookup c=some f∧SF f g)∧(pt.lookup c=none→tb.lookup c=none):=by
 induction h with
 | nil=>exact⟨(fun _ h=>nomatch h),fun _=>rfl⟩
 | @cons d f g tb pt a b ih=>
  simp only [Yax]
  cases c==d with
  | true=>exact⟨fun _ h=>⟨f,rfl,by cases h; exact a⟩,fun h=>nomatch h⟩
  | false=>exact ih
def ZeX (pt:ZdX) (T:Cs) (x:PV):Option PF:=(Zd9 T x).bind fun c=>pt.lookup c
theorem own_eq {tb:Zap} {pt:ZdX} (h:Za5 tb pt) {μ:List Nat} {W:Nat→Prop} {S:Zaa} {T:Cs} {v:SV} {p:PV} (s:Sm μ W S T) (r:Rd μ W S v p):(∀g,ZeX pt T p=some g→∃f,Zb7 tb S v=some f∧SF f g)∧(ZeX pt T p=none→Zb7 tb S v=none):=by
 unfold ZeX Zb7
 rw [Zdu s r]
 cases Zd9 T p with
 | none=>exact⟨(fun _ h=>nomatch h),fun _=>rfl⟩
 | some c=>exact h.look c
def Zc4 (cs:List String) (T:Cs) (x:PV):Bool:=match tyP T x with
 | some (.b _)=>true
 | some (.o c)=>cs.contains c
 | none=>false
def ZoR (p:Bool→Bool):PV→Cs→ZaR PV:=fun v T=>match v with
 | .bl b=> .ok (.bl (p b)) T
 | _=> .bad
def Zbh (pt:ZdX) (cs:List String):P2:=fun x y T=>match ZeX pt T x with
 | some f=>if Zc4 cs T y=true then f [x,y] T else .bad
 | none=> .bad
def Zcj (pt:ZdX) (cs:List String):P2:=fun x y T=>match ZeX pt T x with
 | some f=>if Zc4 cs T y=true then (f [x,y] T).bind (ZoR not)else .bad
 | none=> .bad
def ZbM (f g:P2):P2:=fun x y T=>match Zd9 T x with
 | some _=>f x y T
 | none=>g x y T
def Zh2 (pt:ZdX) (m:String) (T:Cs) (x:PV):Option PF:=match Zbo T x with
 | some (.ins c fs)=>if fs.lookup m=none then pt.lookup c else none
 | _=>none
def ZmF (m:String) (pt:ZdX) (o:PE) (a:PA):PE:=fun env T=>(o env T).bind fun x T1=>match Zh2 pt m T1 x with
 | some f=>(a env T1).bind fun xs T2=>f (x::xs) T2
 | none=> .bad
def ZkZ (pt:ZdX):PV→Cs→ZaR Bool:=fun x T=>match Zd9 T x with
 | some c=>(match pt.lookup c with
  | some f=>(f [x] T).bind fun v T1=>(match v with
   | .bl b=> .ok b T1
   | _=> .bad)
  | none=> .bad)
 | none=>Zcq x T
def qTO (pt:ZdX) (a:PE):PT:=fun env T=>(a env T).bind fun x T1=>ZkZ pt x T1
def Zdv (r:ZaR PV):ZaR PV:=match r with
 | .exc _ _=> .bad
 | r=>r
def Zey (cs:List String) (f:String) (pt:ZdX):P1:=fun x T=>match ZeX pt T x with
 | some g=>Zdv (g [x] T)
 | none=>ZcJ cs f x T
section
variable {tb:Zap} {pt:ZdX}
theorem ZmG {μ:List Nat} {W:Nat→Prop} {S:Zaa} {T:Cs} {v:SV} {q:PV} (p:Bool→Bool) (s:Sm μ W S T) (r:Rd μ W S v q):Ag μ W S (blB p v S) (ZoR p q T) RV:=by
 cases q with
 | bl b=>cases r.bl_; exact .ok s (.bl _)
 | _=>trivial
theorem ZgN {μ:List Nat} {W:Nat→Prop} {S:Zaa} {T:Cs} {v:SV} {p:PV} (cs:List String) (s:Sm μ W S T) (r:Rd μ W S v p):ZiA cs S v=Zc4 cs T p:=by
 unfold ZiA Zc4
 rw [ZkY s r]
 try (cases tyP T p with
  | none=>rfl
  | some t=>cases t<;>rfl)
theorem S2.ownC (h:Za5 tb pt) {cs:List String}:S2 (ownC tb cs) (Zbh pt cs):=by
 intro μ W S T x y p q s r r'
 unfold MP.ownC Zbh
 cases e:ZeX pt T p with
 | none=>trivial
 | some g=>
  obtain⟨f,e1,hf⟩:=(own_eq h s r).1 g e
  simp only [e1,ZgN cs s r']
  by_cases z:Zc4 cs T q=true
  ·rw [if_pos z,if_pos z]; exact hf _ _ _ _ _ _ s (.cons r (.cons r' .nil))
  ·simp only [if_neg z]; trivial
theorem S2.ownN (h:Za5 tb pt) {cs:List String}:S2 (ownN tb cs) (Zcj pt cs):=by
 intro μ W S T x y p q s r r'
 unfold MP.ownN Zcj
 cases e:ZeX pt T p with
 | none=>trivial
 | some g=>
  obtain⟨f,e1,hf⟩:=(own_eq h s r).1 g e
  simp only [e1,ZgN cs s r']
  by_cases z:Zc4 cs T q=true
  ·rw [if_pos z,if_pos z]; exact(hf _ _ _ _ _ _ s (.cons r (.cons r' .nil))).bind fun _ _ _ _ _ _ _ s1 r1=>ZmG not s1 r1
  ·simp only [if_neg z]; trivial
theorem S2.orL {f g:SV→SV→M SV} {f' g':P2} (h:S2 f f') (h':S2 g g'):S2 (orL f g) (ZbM f' g'):=by
 intro μ W S T x y p q s r r'
 unfold MP.orL ZbM
 rw [Zdu s r]
 cases Zd9 T p with
 | none=>exact h' _ _ _ _ _ _ _ _ s r r'
 | some c=>exact h _ _ _ _ _ _ _ _ s r r'
theorem Zk0 (h:Za5 tb pt) {m:String} {μ:List Nat} {W:Nat→Prop} {S:Zaa} {T:Cs} {v:SV} {p:PV} (s:Sm μ W S T) (r:Rd μ W S v p) {g:PF} (e:Zh2 pt m T p=some g):∃f,ZcT tb m S v=some f∧SF f g:=by
 unfold Zh2 at e
 split at e
 ·rename_i c fs ho
  obtain⟨n,o,rfl,e1,e2⟩:=r.obj s ho
  split at e
  ·rename_i hl
   cases e2 with
   | ins k l=>
    obtain⟨f,e3,hf⟩:=(h.look c).1 g e
    exact⟨f,by simp only [ZcT,e1,(Rds.lookup k l m).2 hl,if_true]; exact e3,hf⟩
  ·cases e
 ·cases e
theorem SE.methT {m:String} {o:EM} {po:PE} {a:AM} {pa:PA} (h:Za5 tb pt) (ho:SE o po) (ha:SA a pa):SE (Zf6 m tb o a) (ZmF m pt po pa):=by
 intro μ W S T env pe s n
 refine(ho μ W S T env pe s n).bind fun μ1 W1 S1 T1 v p x s1 r1=> ?_
 cases e:Zh2 pt m T1 p with
 | none=>trivial
 | some g=>
  obtain⟨f,e1,hf⟩:=Zk0 h s1 r1 e
  simp only [e1]
  exact(ha _ _ _ _ env pe s1 (n.step s x)).bind fun μ2 W2 S2 T2 vs ps x2 s2 r2=>hf _ _ _ _ _ _ s2 (.cons (Rd.step s1 x2 r1) r2)
theorem Zk1 (h:Za5 tb pt) {μ:List Nat} {W:Nat→Prop} {S:Zaa} {T:Cs} {v:SV} {p:PV} (s:Sm μ W S T) (r:Rd μ W S v p):Ag μ W S (truO tb v S) (ZkZ pt p T) RB:=by
 unfold truO ZkZ
 rw [Zdu s r]
 cases Zd9 T p with
 | none=>exact ZiQ s r
 | some c=>
  simp only
  cases e:pt.lookup c with
  | none=>trivial
  | some g=>
   obtain⟨f,e1,hf⟩:=(h.look c).1 g e
   simp only [e1]
   refine(hf _ _ _ _ _ _ s (.cons r .nil)).bind fun _ _ _ _ v q _ s1 r1=> ?_
   cases q with
   | bl b=>cases Rd.bl_ r1; exact .ok s1 rfl
   | _=>trivial
theorem ST.TO (h:Za5 tb pt) {m:EM} {e:PE} (k:SE m e):ST (tTO tb m) (qTO pt e):=by
 intro μ W S T env pe s n
 exact(k μ W S T env pe s n).bind fun μ1 W1 S1 T1 v p x s1 r1=>Zk1 h s1 r1
theorem Zfo {μ:List Nat} {W:Nat→Prop} {S:Zaa} {r:Res SV} {q:ZaR PV} (h:Ag μ W S r q RV):Ag μ W S (ZeN r) (Zdv q) RV:=by
 cases q with
 | ok p T'=>obtain⟨v,S',μ',W',rfl,z⟩:=h; exact⟨v,S',μ',W',rfl,z⟩
 | _=>trivial
theorem S1.attr (h:Za5 tb pt) {cs:List String} {f:String}:S1 (ZdH cs f tb) (Zey cs f pt):=by
 intro μ W S T x p s r
 unfold ZdH Zey
 cases e:ZeX pt T p with
 | none=>simp only [(own_eq h s r).2 e]; exact S1.fld _ _ _ _ _ _ s r
 | some g=>
  obtain⟨f,e1,hf⟩:=(own_eq h s r).1 g e
  simp only [e1]
  exact Zfo (hf _ _ _ _ _ _ s (.cons r .nil))
end
def pK (f:List PV→PF) (a b:PA):PE:=fun env T=>(a env T).bind fun xs T1=>(b env T1).bind fun zs T2=>f xs zs T2
def ZiU (c:String) (m:PF) (sel:List Sel) (dxs:List PV) (np nk:Nat):List PV→PF:=fun xs zs=>if xs.length=np∧zs.length=nk then ZdW c (fun ys=>m (pick sel ys zs dxs)) xs else Zby
def ZeY (c:String) (m:PF) (sel:List Sel) (dxs:List PV) (np nk:Nat):List PV→PF:=fun xs zs=>if xs.length=np∧zs.length=nk then Zex c (fun ys=>m (pick sel ys zs dxs)) xs else Zby
def SF2 (m:List SV→List SV→M SV) (f:List PV→PF):Prop:=∀(μ:List Nat) (W:Nat→Prop) (S:Zaa) (T:Cs) (xs zs:List SV) (ps qs:List PV),Sm μ W S T→Rds μ W S xs ps→Rds μ W S zs qs→Ag μ W S (m xs zs S) (f ps qs T) RV
theorem Zh3 {μ:List Nat} {W:Nat→Prop} {S:Zaa} {sel:List Sel} {us ws ms:List SV} {us' ws' ms':List PV} (a:Rds μ W S us us') (b:Rds μ W S ws ws') (c:Rds μ W S ms ms'):Rds μ W S (pick sel us ws ms) (pick sel us' ws' ms'):=by
 have one:∀z:Sel,(∀p,Sel.of us' ws' ms' z=some p→∃x,Sel.of us ws ms z=some x∧Rd μ W S x p)∧(Sel.of us' ws' ms' z=none→Sel.of us ws ms z=none):=by
  have g:∀{xs:List SV} {ps:List PV},Rds μ W S xs ps→∀i:Nat,(∀p,ps[i]? =some p→∃x,xs[i]? =some x∧Rd μ W S x p)∧(ps[i]? =none→xs[i]? =none):=fun r i=>⟨fun p e=>r.at e,fun e=>by rw [Yay]at e⊢; rw [r.len]; exact e⟩
  intro z
  cases z with
  | p i=>exact g a i
  | k i=>exact g b i
  | m i=>exact g c i
 unfold pick
 induction sel with
 | nil=>exact .nil
 | cons z sel ih=>
  simp only [Ybf]
  cases e:Sel.of us' ws' ms' z with
  | none=>rw [(one z).2 e]; exact ih
  | some p=>
   obtain⟨x,e1,r⟩:=(one z).1 p e
   rw [e1]
   exact .cons r ih
theorem SE.K {f:List SV→List SV→M SV} {g:List PV→PF} {a b:AM} {pa pb:PA} (h:SF2 f g) (ha:SA a pa) (hb:SA b pb):SE (eK f a b) (pK g pa pb):=by
 intro μ W S T env pe s n
 refine(ha μ W S T env pe s n).bind fun μ1 W1 S1 T1 v p x s1 r1=> ?_
 refine(hb _ _ _ _ env pe s1 (n.step s x)).bind fun μ2 W2 S2 T2 v2 p2 x2 s2 r2=> ?_
 exact h _ _ _ _ _ _ _ _ s2 (Rds.step s1 x2 r1) r2
def Zez (dxs:List SV) (dps:List PV):Prop:=∀μ W S,Rds μ W S dxs dps
theorem Zez.nil:Zez [] []:=fun _ _ _=> .nil
theorem Zez.non {a b} (h:Zez a b):Zez (.non::a) (.non::b):=fun _ _ _=> .cons .non (h _ _ _)
theorem Zez.int {a b} {i:Int} (h:Zez a b):Zez (.int i::a) (.int i::b):=fun _ _ _=> .cons (.int i) (h _ _ _)
theorem Zez.bl {a b} {i:Bool} (h:Zez a b):Zez (.bl i::a) (.bl i::b):=fun _ _ _=> .cons (.bl i) (h _ _ _)
theorem Zez.str {a b} {i:Str} (h:Zez a b):Zez (.str i::a) (.str i::b):=fun _ _ _=> .cons (.str i) (h _ _ _)
theorem SF.makeK' {c:String} {f:List SV→M SV} {g:PF} {μ:List Nat} {W:Nat→Prop} {S:Zaa} {T:Cs} {xs:List SV} {ps:List PV} (s:Sm μ W S T) (r:Rds μ W S xs ps)
  (h:∀{μ' W' S' T' xs ps},Stp μ W S μ' W' S'→Sm μ' W' S' T'→Rds μ' W' S' xs ps→Ag μ' W' S' (f xs S') (g ps T') RV):Ag μ W S (Zcf c f xs S) (Zex c g ps T) RV:=by
 obtain⟨x,s1,rc⟩:=s.newc (o:= .ins c []) (p:= .ins c []) (.ins rfl .nil) rfl
 have y:=h x s1 (.cons rc (r.step s x))
 refine(Ag.bind y fun μ' W' S' T' v p x' s' r'=> ?_).trans x
 have hc:μ'[T.length]? =some S.length:=x'.cellAt (by rw [←s.len]; simp)
 cases p with
 | non=>cases Rd.non_ r'; exact .ok s' (.cell hc)
 | _=>trivial
theorem SF2.makeKK {c:String} {m:List SV→M SV} {f:PF} {sel:List Sel} {dxs:List SV} {dps:List PV} {np nk:Nat} (h:SF m f) (d:Zez dxs dps):SF2 (Zcg c m sel dxs np nk) (ZeY c f sel dps np nk):=by
 intro μ W S T xs zs ps qs s r r'
 unfold Zcg ZeY
 rw [r.len,r'.len]
 by_cases k:ps.length=np∧qs.length=nk
 ·rw [if_pos k,if_pos k]
  exact SF.makeK' s r fun x s1 r1=>h _ _ _ _ _ _ s1 (Zh3 r1 (r'.step s x) (d _ _ _))
 ·simp only [if_neg k]; trivial
theorem SF2.makeK {c:String} {m:List SV→M SV} {f:PF} {sel:List Sel} {dxs:List SV} {dps:List PV} {np nk:Nat} (h:SF m f) (d:Zez dxs dps):SF2 (Zcg c m sel dxs np nk) (ZiU c f sel dps np nk):=by
 intro μ W S T xs zs ps qs s r r'
 have y:=SF2.makeKK (c:=c) (sel:=sel) (np:=np) (nk:=nk) h d _ _ _ _ _ _ _ _ s r r'
 unfold ZeY at y
 unfold ZiU
 by_cases k:ps.length=np∧qs.length=nk
 ·rw [if_pos k]at y⊢; exact y.close s
 ·simp only [if_neg k]; trivial
def ZgO (c f:String) (m:PE):PSM:=fun env T=>(m env T).stm env fun v T1=> .exc (.own c [(f,v)]) env T1
theorem SS.raise_ {c f:String} {m:EM} {e:PE} (h:SE m e):SS (Zem c f m) (ZgO c f e):=by
 intro μ W S T env pe s n
 refine AgS.stm (h _ _ _ _ _ _ s n) s n fun μ' W' S' T' v p x s1 r=> ?_
 exact⟨_,env,S',μ',W',rfl, .refl _ _ _,s1,⟨rfl,rfl, .cons r .nil⟩,n.step s x⟩
def SSx (b:List (String × SV)→SM) (c:List (String × PV)→PSM):Prop:=∀(μ:List Nat) (W:Nat→Prop) (S:Zaa) (T:Cs) (env:En) (pe:PEn) (fs:List (String × SV)) (qs:List (String × PV)),Sm μ W S T→RdE μ W S env pe→fs.map Prod.fst=qs.map Prod.fst→Rds μ W S (fs.map Prod.snd) (qs.map Prod.snd)→AgS μ W S (b fs env S) (c qs pe T)
class GhX (fs:List (String × SV)) (qs:List (String × PV)) extends Gh where
 rd:∀{μ:List Nat} {W:Nat→Prop} {S:Zaa},p μ W S→fs.map Prod.fst=qs.map Prod.fst∧Rds μ W S (fs.map Prod.snd) (qs.map Prod.snd)
theorem SSx.go {b:List (String × SV)→SM} {c:List (String × PV)→PSM} (h:∀fs qs,∀ [i:GhX fs qs], @SS i.toGh (b fs) (c qs)) [g:Gh]:SSx b c:=by
 intro μ W S T env pe fs qs s n e r
 let i:GhX fs qs:={p:=fun μ W S=>g.p μ W S∧fs.map Prod.fst=qs.map Prod.fst∧Rds μ W S (fs.map Prod.snd) (qs.map Prod.snd),up:=fun s x h=>⟨g.up s x h.1,h.2.1,h.2.2.step s x⟩,st:=fun{μ W S d o} hm hw h=>⟨g.st hm hw h.1,h.2.1,(Rd.mono_all (μ:=μ) (μ':=μ) (W:=W) (W':=W) (S:=S) (S':=S.set d o) (fun _ _ e=>e) (fun n o w e=>⟨w,by rw [Yao (fun z=>hw (by rw [z]; exact w))]; exact e⟩)).2.1 h.2.2⟩,rd:=fun h=>h.2}
 have z:= @h fs qs i μ W S T env pe s ⟨n.1,n.2.1,n.2.2,e,r⟩
 cases hq:c qs pe T with
 | nx p T'=>rw [hq]at z; obtain⟨v,S1,μ1,W1,e1,y,s1,n1⟩:=z; exact⟨v,S1,μ1,W1,e1,y,s1,n1.1,n1.2.1,n1.2.2.1⟩
 | rt p T'=>rw [hq]at z; exact z
 | bk p T'=>rw [hq]at z; obtain⟨v,S1,μ1,W1,e1,y,s1,n1⟩:=z; exact⟨v,S1,μ1,W1,e1,y,s1,n1.1,n1.2.1,n1.2.2.1⟩
 | ct p T'=>rw [hq]at z; obtain⟨v,S1,μ1,W1,e1,y,s1,n1⟩:=z; exact⟨v,S1,μ1,W1,e1,y,s1,n1.1,n1.2.1,n1.2.2.1⟩
 | exc p e T'=>rw [hq]at z; obtain⟨v,w,S1,μ1,W1,e1,y,s1,rx,n1⟩:=z; exact⟨v,w,S1,μ1,W1,e1,y,s1,rx,n1.1,n1.2.1,n1.2.2.1⟩
 | bad=>trivial
end MP
namespace MP
theorem SF.dfl {m:List SV→M SV} {f:PF} {dxs:List SV} {dps:List PV} (h:SF m f) (d:Zez dxs dps):SF (fun xs=>m (xs++dxs)) (fun xs=>f (xs++dps)):=fun _ _ _ _ _ _ s r=>h _ _ _ _ _ _ s (r.app (d _ _ _))
theorem SF.pre {m:List SV→M SV} {f:PF} {v:SV} {p:PV} (h:SF m f) (d:∀μ W S,Rd μ W S v p):SF (fun xs=>m (v::xs)) (fun xs=>f (p::xs)):=fun _ _ _ _ _ _ s r=>h _ _ _ _ _ _ s (.cons (d _ _ _) r)
end MP
namespace MP
open PySem (Str PyData sizeLine)
section
variable {μ:List Nat} {W:Nat→Prop} {S:Zaa} {T:Cs} {v:SV} {p:PV}
def ZeJ:P2:=fun x y T=>match x,y with
 | .int i, .int j=> .ok (.int (i+j)) T
 | .str a, .str b=>if a.length+b.length≤sizeLine then .ok (.str (a++b)) T else .bad
 | .tup xs, .tup ys=>if xs≠ []∧ys≠ []∧xs.length+ys.length≤sizeLine then .ok (.tup (xs++ys)) T else .bad
 | x,y=>(match Zbo T x,Zbo T y with
  | some (.lst xs),some (.lst ys)=>if xs.length+ys.length≤sizeLine then .ok (.lst (xs++ys)) T else .bad
  | _,_=> .bad)
def ZiV:P2:=fun x y T=>match x,y with
 | .int i, .int j=> .ok (.int (i - j)) T
 | _,_=> .bad
def Zhn:P2:=fun x y T=>match x,y with
 | .int i, .int j=>if ZbW i j=true then .ok (.int (i * j)) T else .bad
 | _,_=> .bad
def ZmH:P2:=fun x y T=>match x,y with
 | .int i, .int j=>if Zek j=true then .ok (.int (i / j)) T else .bad
 | _,_=> .bad
def ZfY:P2:=fun x y T=>match x,y with
 | .int i, .int j=>if 0<j then .ok (.int (i % j)) T else .bad
 | _,_=> .bad
def ZgP:P2:=fun x y T=>match x,y with
 | .int i, .int j=>if Zgf i j=true then .ok (.int (i^j.toNat)) T else .bad
 | _,_=> .bad
def Zho:P1:=fun x T=>match x with
 | .int i=> .ok (.int (-i)) T
 | _=> .bad
def ipP (f:Int→Int→Int):P2:=fun x y T=>match x,y with
 | .int i, .int j=> .ok (.int (f i j)) T
 | _,_=> .bad
theorem S2.ii {f:SV→SV→M SV} {g:P2} (h:∀{μ W S T} (i j:Int),Sm μ W S T→Ag μ W S (f (.int i) (.int j) S) (g (.int i) (.int j) T) RV) (k:∀p q T,(∀i j,p= .int i→q= .int j→False)→g p q T= .bad):S2 f g:=by
 intro μ W S T x y p q s r r'
 cases p with
 | int i=>
  cases q with
  | int j=>cases r.int_; cases r'.int_; exact h i j s
  | _=>rw [k _ _ _ (fun _ _ a b=>by cases b)]; trivial
 | _=>rw [k _ _ _ (fun _ _ a b=>by cases a)]; trivial
theorem S2.sub:S2 Zkz ZiV:=S2.ii (fun i j s=> .ok s (.int _)) (fun p q T h=>by cases p<;>cases q<;>first | exact(h _ _ rfl rfl).elim | rfl)
theorem S2.mul:S2 ZfT Zhn:=S2.ii (fun i j s=>by
 simp only [ZfT,Zhn]
 split
 ·exact .ok s (.int _)
 ·trivial) (fun p q T h=>by cases p<;>cases q<;>first | exact(h _ _ rfl rfl).elim | rfl)
theorem S2.div:S2 ZkA ZmH:=S2.ii (fun i j s=>by
 simp only [ZkA,ZmH]
 split
 ·exact .ok s (.int _)
 ·trivial) (fun p q T h=>by cases p<;>cases q<;>first | exact(h _ _ rfl rfl).elim | rfl)
theorem S2.mod:S2 Zf2 ZfY:=S2.ii (fun i j s=>by
 simp only [Zf2,ZfY]
 split
 ·exact .ok s (.int _)
 ·trivial) (fun p q T h=>by cases p<;>cases q<;>first | exact(h _ _ rfl rfl).elim | rfl)
theorem S2.pow:S2 ZhB ZgP:=S2.ii (fun i j s=>by
 simp only [ZhB,ZgP]
 split
 ·exact .ok s (.int _)
 ·trivial) (fun p q T h=>by cases p<;>cases q<;>first | exact(h _ _ rfl rfl).elim | rfl)
theorem S2.ip {f:Int→Int→Int}:S2 (ipM f) (ipP f):=S2.ii (fun i j s=> .ok s (.int _)) (fun p q T h=>by cases p<;>cases q<;>first | exact(h _ _ rfl rfl).elim | rfl)
theorem S1.neg:S1 ZkB Zho:=by
 intro μ W S T x p s r
 cases p with
 | int i=>cases r.int_; exact .ok s (.int _)
 | _=>trivial
theorem Rd.olst (s:Sm μ W S T) {ps:List PV} (r:Rd μ W S v p) (e:Zbo T p=some (.lst ps)):∃n xs,v= .ref n∧S[n]? =some (.lst xs)∧Rds μ W S xs ps:=by
 obtain⟨n,o,rfl,e1,e2⟩:=r.obj s e
 cases e2 with
 | lst k=>exact⟨n,_,rfl,e1,k⟩
theorem ZmI {x y:SV} {q:PV} (s:Sm μ W S T) (r:Rd μ W S x p) (r':Rd μ W S y q):Ag μ W S (Zfd x y S) (match Zbo T p,Zbo T q with
  | some (.lst xs),some (.lst ys)=>if xs.length+ys.length≤sizeLine then .ok (.lst (xs++ys)) T else .bad
  | _,_=> .bad) RV:=by
 split
 ·rename_i ps qs e1 e2
  obtain⟨n,xs,rfl,a,b⟩:=r.olst s e1
  obtain⟨m,ys,rfl,a',b'⟩:=r'.olst s e2
  simp only [Zfd,a,a',b.len,b'.len]
  split
  ·obtain⟨x,s1,r1⟩:=s.tree (.lst (b.app b'))
   exact .okS x s1 r1
  ·trivial
 ·trivial
theorem S2.add:S2 Zfd ZeJ:=by
 intro μ W S T x y p q s r r'
 unfold ZeJ
 split
 ·cases r.int_; cases r'.int_; exact .ok s (.int _)
 ·cases r.str_; cases r'.str_
  simp only [Zfd]
  split
  ·exact .ok s (.str _)
  ·trivial
 ·rename_i i j
  obtain⟨xs,rfl,a⟩:=r.tup_
  obtain⟨ys,rfl,b⟩:=r'.tup_
  have e1:xs≠ []↔i≠ []:=by have:=a.len; cases xs<;>cases i<;>simp_all
  have e2:ys≠ []↔j≠ []:=by have:=b.len; cases ys<;>cases j<;>simp_all
  simp only [Zfd,e1,e2,a.len,b.len]
  split
  ·exact .ok s (.tup (a.app b))
  ·trivial
 ·exact ZmI s r r'
def Zdl:List PV→Option (List Int)
 | []=>some []
 | .int i::r=>(Zdl r).map (i:: ·)
 | _::_=>none
def ZeZ:List PV→Option (List Str)
 | []=>some []
 | .str i::r=>(ZeZ r).map (i:: ·)
 | _::_=>none
def ZmJ:List PV→Option (List Bool)
 | []=>some []
 | .bl i::r=>(ZmJ r).map (i:: ·)
 | _::_=>none
theorem ZdY {xs:List SV} {ps:List PV} {ns:List Int} (r:Rds μ W S xs ps) (e:Zdl ps=some ns):ZbQ xs=some ns:=by
 induction ps generalizing xs ns with
 | nil=>cases r; cases e; rfl
 | cons p ps ih=>
  obtain⟨x,ys,rfl,a,b⟩:=r.cons_
  cases p with
  | int i=>
   simp only [Zdl,YaI]at e
   obtain⟨ms,e1,rfl⟩:=e
   cases a.int_
   simp only [ZbQ,ih b e1,Ybq]
  | _=>cases e
theorem Zk2 {xs:List SV} {ps:List PV} {ns:List Str} (r:Rds μ W S xs ps) (e:ZeZ ps=some ns):ZbZ xs=some ns:=by
 induction ps generalizing xs ns with
 | nil=>cases r; cases e; rfl
 | cons p ps ih=>
  obtain⟨x,ys,rfl,a,b⟩:=r.cons_
  cases p with
  | str i=>
   simp only [ZeZ,YaI]at e
   obtain⟨ms,e1,rfl⟩:=e
   cases a.str_
   simp only [ZbZ,ih b e1,Ybq]
  | _=>cases e
theorem ZiW {xs:List SV} {ps:List PV} {ns:List Bool} (r:Rds μ W S xs ps) (e:ZmJ ps=some ns):ZdE xs=some ns:=by
 induction ps generalizing xs ns with
 | nil=>cases r; cases e; rfl
 | cons p ps ih=>
  obtain⟨x,ys,rfl,a,b⟩:=r.cons_
  cases p with
  | bl i=>
   simp only [ZmJ,YaI]at e
   obtain⟨ms,e1,rfl⟩:=e
   cases a.bl_
   simp only [ZdE,ih b e1,Ybq]
  | _=>cases e
def ltP:P2:=fun x y T=>match x,y with
 | .int i, .int j=> .ok (.bl (decide (i<j))) T
 | .str a, .str b=> .ok (.bl (decide (a.cps.toList<b.cps.toList))) T
 | .tup xs, .tup ys=>(match Zdl xs,Zdl ys with
  | some ns,some ms=> .ok (.bl (HT.lexLt ns ms)) T
  | _,_=> .bad)
 | _,_=> .bad
def leP:P2:=fun x y T=>match x,y with
 | .int i, .int j=> .ok (.bl (decide (i≤j))) T
 | _,_=> .bad
def gtP:P2:=fun x y T=>match x,y with
 | .int i, .int j=> .ok (.bl (decide (j<i))) T
 | _,_=> .bad
def geP:P2:=fun x y T=>match x,y with
 | .int i, .int j=> .ok (.bl (decide (j≤i))) T
 | _,_=> .bad
theorem S2.lt:S2 ltM ltP:=by
 intro μ W S T x y p q s r r'
 unfold ltP
 split
 ·cases r.int_; cases r'.int_; exact .ok s (.bl _)
 ·cases r.str_; cases r'.str_; exact .ok s (.bl _)
 ·obtain⟨xs,rfl,a⟩:=r.tup_
  obtain⟨ys,rfl,b⟩:=r'.tup_
  split
  ·rename_i ns ms e1 e2
   simp only [ltM,ZdY a e1,ZdY b e2]
   exact .ok s (.bl _)
  ·trivial
 ·trivial
theorem S2.le:S2 leM leP:=S2.ii (fun i j s=> .ok s (.bl _)) (fun p q T h=>by cases p<;>cases q<;>first | exact(h _ _ rfl rfl).elim | rfl)
theorem S2.gt:S2 gtM gtP:=S2.ii (fun i j s=> .ok s (.bl _)) (fun p q T h=>by cases p<;>cases q<;>first | exact(h _ _ rfl rfl).elim | rfl)
theorem S2.ge:S2 geM geP:=S2.ii (fun i j s=> .ok s (.bl _)) (fun p q T h=>by cases p<;>cases q<;>first | exact(h _ _ rfl rfl).elim | rfl)
def Zc5:PV→Bool
 | .non=>true
 | _=>false
theorem ZiX (r:Rd μ W S v p):ZhC v=Zc5 p:=by
 cases r with
 | node w e o=>cases o<;>rfl
 | _=>rfl
def isP:P2:=fun x y T=>match y with
 | .non=> .ok (.bl (Zc5 x)) T
 | _=> .bad
def Zhp:P2:=fun x y T=>match y with
 | .non=> .ok (.bl (!Zc5 x)) T
 | _=> .bad
theorem S2.is:S2 isM isP:=by
 intro μ W S T x y p q s r r'
 cases q with
 | non=>cases r'.non_; simp only [isM,isP,ZiX r]; exact .ok s (.bl _)
 | _=>trivial
theorem S2.isn:S2 ZkC Zhp:=by
 intro μ W S T x y p q s r r'
 cases q with
 | non=>cases r'.non_; simp only [ZkC,Zhp,ZiX r]; exact .ok s (.bl _)
 | _=>trivial
def ZaV:Nat→Cs→PV→Option PyData
 | 0,_,_=>none
 | k+1,T,x=>match x with
  | .non=>some .none
  | .bl b=>some (.bool b)
  | .int i=>some (.int i)
  | .str z=>some (.str z)
  | .tup xs=>(xs.mapM (ZaV k T)).map .tuple
  | x=>(match Zbo T x with
   | some (.lst xs)=>(xs.mapM (ZaV k T)).map .list
   | some (.frz xs)=>(xs.mapM (ZaV k T)).map .list
   | some (.dK kvs)=>(kvs.mapM fun p=>(ZaV k T p.2).map fun d=>(ZcL p.1,d)).map .dict
   | some (.dF kvs)=>(kvs.mapM fun p=>(ZaV k T p.2).map fun d=>(ZcL p.1,d)).map .dict
   | some (.dT kvs)=>(kvs.mapM fun p=>(ZaV k T p.2).map fun d=>(PyData.tuple (p.1.map ZcL),d)).map .dict
   | some (.dG kvs)=>(kvs.mapM fun p=>(ZaV k T p.2).map fun d=>(PyData.tuple (p.1.map ZcL),d)).map .dict
   | _=>none)
inductive ZlA {α β:Type} (R:α→β→Prop):List α→List β→Prop
 | nil:ZlA R [] []
 | cons {a b as bs}:R a b→ZlA R as bs→ZlA R (a::as) (b::bs)
theorem Zcv {α β γ:Type} {R:α→β→Prop} {f:α→Option γ} {g:β→Option γ} (h:∀a b c,R a b→g b=some c→f a=some c):∀{xs:List α} {ys:List β} {zs:List γ},ZlA R xs ys→ys.mapM g=some zs→xs.mapM f=some zs
 | [],[],zs,_,e=>e
 | x::xs,y::ys,zs, .cons a b,e=>by
  rw [YaD]at e⊢
  simp only [YaE,YaF,YaG,Option.some.injEq]at e⊢
  obtain⟨c,e1,cs,e2,rfl⟩:=e
  exact⟨c,h _ _ _ a e1,cs,Zcv h b e2,rfl⟩
theorem Rds.fa {xs:List SV} {ps:List PV} (r:Rds μ W S xs ps):ZlA (Rd μ W S) xs ps:=by
 induction ps generalizing xs with
 | nil=>cases r; exact .nil
 | cons p ps ih=>cases r with | cons a b=>exact .cons a (ih b)
theorem ZcQ {κ:Type} {xs:List (κ × SV)} {ps:List (κ × PV)} (e:xs.map Prod.fst=ps.map Prod.fst) (r:Rds μ W S (xs.map Prod.snd) (ps.map Prod.snd)):ZlA (fun a b=>a.1=b.1∧Rd μ W S a.2 b.2) xs ps:=by
 induction ps generalizing xs with
 | nil=>cases xs with | nil=>exact .nil | cons a b=>cases e
 | cons p ps ih=>
  cases xs with
  | nil=>cases e
  | cons a b=>
   simp only [Ya0,List.cons.injEq]at e
   cases r with | cons c d=>exact .cons ⟨e.1,c⟩ (ih e.2 d)
theorem Zcw (s:Sm μ W S T):∀(k:Nat) {v:SV} {p:PV} {d:PyData},Rd μ W S v p→ZaV k T p=some d→Zan k S v=some d:=by
 intro k
 induction k with
 | zero=>intro v p d _ e; cases e
 | succ k ih=>
  intro v p d r e
  have seq:∀{xs:List SV} {ps:List PV} {ds},Rds μ W S xs ps→ps.mapM (ZaV k T)=some ds→xs.mapM (Zan k S)=some ds:=fun r e=>Zcv (R:=Rd μ W S) (f:=Zan k S) (g:=ZaV k T) (fun a b c h e=>ih h e) r.fa e
  have go:∀q,Zbo T p=some q→(match some q with
   | some (.lst xs)=>(xs.mapM (ZaV k T)).map .list
   | some (.frz xs)=>(xs.mapM (ZaV k T)).map .list
   | some (.dK kvs)=>(kvs.mapM fun p=>(ZaV k T p.2).map fun d=>(ZcL p.1,d)).map .dict
   | some (.dF kvs)=>(kvs.mapM fun p=>(ZaV k T p.2).map fun d=>(ZcL p.1,d)).map .dict
   | some (.dT kvs)=>(kvs.mapM fun p=>(ZaV k T p.2).map fun d=>(PyData.tuple (p.1.map ZcL),d)).map .dict
   | some (.dG kvs)=>(kvs.mapM fun p=>(ZaV k T p.2).map fun d=>(PyData.tuple (p.1.map ZcL),d)).map .dict
   | _=>none)=some d→Zan (k+1) S v=some d:=fun q h e=>by
   obtain⟨n,o,rfl,e1,e2⟩:=r.obj s h
   cases e2 with
   | lst r=>simp only [YaI]at e; obtain⟨ds,a,rfl⟩:=e; simp only [Zan,e1,seq r a,Ybq]
   | frz r=>simp only [YaI]at e; obtain⟨ds,a,rfl⟩:=e; simp only [Zan,e1,seq r a,Ybq]
   | dK h1 h2=>
    simp only [YaI]at e
    obtain⟨ds,a,rfl⟩:=e
    have z:=Zcv (R:=fun(a:Key × SV) (b:Key × PV)=>a.1=b.1∧Rd μ W S a.2 b.2) (f:=fun p=>(Zan k S p.2).map fun d=>(ZcL p.1,d)) (fun a b c h e=>by
     simp only [YaI]at e⊢
     obtain⟨d,a1,rfl⟩:=e
     exact⟨d,ih h.2 a1,by rw [h.1]⟩) (ZcQ h1 h2) a
    simp only [Zan,e1,z,Ybq]
   | dF h1 h2=>
    simp only [YaI]at e
    obtain⟨ds,a,rfl⟩:=e
    have z:=Zcv (R:=fun(a:Key × SV) (b:Key × PV)=>a.1=b.1∧Rd μ W S a.2 b.2) (f:=fun p=>(Zan k S p.2).map fun d=>(ZcL p.1,d)) (fun a b c h e=>by
     simp only [YaI]at e⊢
     obtain⟨d,a1,rfl⟩:=e
     exact⟨d,ih h.2 a1,by rw [h.1]⟩) (ZcQ h1 h2) a
    simp only [Zan,e1,z,Ybq]
   | dT h1 h2=>
    simp only [YaI]at e
    obtain⟨ds,a,rfl⟩:=e
    have z:=Zcv (R:=fun(a:List Key × SV) (b:List Key × PV)=>a.1=b.1∧Rd μ W S a.2 b.2) (f:=fun p=>(Zan k S p.2).map fun d=>(PyData.tuple (p.1.map ZcL),d)) (fun a b c h e=>by
     simp only [YaI]at e⊢
     obtain⟨d,a1,rfl⟩:=e
     exact⟨d,ih h.2 a1,by rw [h.1]⟩) (ZcQ h1 h2) a
    simp only [Zan,e1,z,Ybq]
   | dG h1 h2=>
    simp only [YaI]at e
    obtain⟨ds,a,rfl⟩:=e
    have z:=Zcv (R:=fun(a:List Key × SV) (b:List Key × PV)=>a.1=b.1∧Rd μ W S a.2 b.2) (f:=fun p=>(Zan k S p.2).map fun d=>(PyData.tuple (p.1.map ZcL),d)) (fun a b c h e=>by
     simp only [YaI]at e⊢
     obtain⟨d,a1,rfl⟩:=e
     exact⟨d,ih h.2 a1,by rw [h.1]⟩) (ZcQ h1 h2) a
    simp only [Zan,e1,z,Ybq]
   | _=>cases e
  cases p with
  | non=>cases r.non_; exact e
  | bl b=>cases r.bl_; exact e
  | int b=>cases r.int_; exact e
  | str b=>cases r.str_; exact e
  | tup ps=>
   obtain⟨xs,rfl,r2⟩:=r.tup_
   simp only [ZaV,YaI]at e
   obtain⟨ds,a,rfl⟩:=e
   simp only [Zan,seq r2 a,Ybq]
  | lst ps=>exact go _ rfl e
  | frz ps=>exact go _ rfl e
  | dK ps=>exact go _ rfl e
  | dF ps=>exact go _ rfl e
  | dT ps=>exact go _ rfl e
  | dG ps=>exact go _ rfl e
  | cell i=>
   simp only [ZaV]at e
   cases h:Zbo T (.cell i)with
   | none=>rw [h]at e; cases e
   | some q=>rw [h]at e; exact go _ h e
  | _=>cases e
def ZmK:P2:=fun x y T=>match ZaV 12 T x,ZaV 12 T y with
 | some d,some e=>if(PySem.SeqAt.shaped d&&PySem.SeqAt.shaped e)=true then .ok (.bl (PyData.eqv d e)) T else .bad
 | _,_=> .bad
def ZmL:P2:=fun x y T=>match ZaV 12 T x,ZaV 12 T y with
 | some d,some e=>if(PySem.SeqAt.shaped d&&PySem.SeqAt.shaped e)=true then .ok (.bl (!PyData.eqv d e)) T else .bad
 | _,_=> .bad
def eqP:P2:=fun x y T=>match x,y with
 | .str a, .str b=> .ok (.bl (decide (a=b))) T
 | .int a, .int b=> .ok (.bl (decide (a=b))) T
 | x,y=>ZmK x y T
def neP:P2:=fun x y T=>match x,y with
 | .str a, .str b=> .ok (.bl (!decide (a=b))) T
 | .int a, .int b=> .ok (.bl (!decide (a=b))) T
 | x,y=>ZmL x y T
theorem Rd.str' {z:Str} (r:Rd μ W S (.str z) p):p= .str z:=by cases r; rfl
theorem Rd.int' {z:Int} (r:Rd μ W S (.int z) p):p= .int z:=by cases r; rfl
theorem S2.eqD:S2 eqD ZmK:=by
 intro μ W S T x y p q s r r'
 unfold ZmK
 split
 ·rename_i d e h1 h2
  simp only [MP.eqD,Zcw s 12 r h1,Zcw s 12 r' h2]
  split
  ·exact .ok s (.bl _)
  ·trivial
 ·trivial
theorem S2.neD:S2 neD ZmL:=by
 intro μ W S T x y p q s r r'
 unfold ZmL
 split
 ·rename_i d e h1 h2
  simp only [MP.neD,Zcw s 12 r h1,Zcw s 12 r' h2]
  split
  ·exact .ok s (.bl _)
  ·trivial
 ·trivial
theorem S2.eq:S2 eqM eqP:=by
 intro μ W S T x y p q s r r'
 unfold eqP
 split
 ·cases r.str_; cases r'.str_; exact .ok s (.bl _)
 ·cases r.int_; cases r'.int_; exact .ok s (.bl _)
 ·rename_i h1 h2
  have e:eqM x y S=MP.eqD x y S:=by
   unfold eqM
   split
   ·exact(h1 _ _ (Rd.str' r) (Rd.str' r')).elim
   ·exact(h2 _ _ (Rd.int' r) (Rd.int' r')).elim
   ·rfl
  rw [e]
  exact S2.eqD _ _ _ _ _ _ _ _ s r r'
theorem S2.ne:S2 neM neP:=by
 intro μ W S T x y p q s r r'
 unfold neP
 split
 ·cases r.str_; cases r'.str_; exact .ok s (.bl _)
 ·cases r.int_; cases r'.int_; exact .ok s (.bl _)
 ·rename_i h1 h2
  have e:neM x y S=MP.neD x y S:=by
   unfold neM
   split
   ·exact(h1 _ _ (Rd.str' r) (Rd.str' r')).elim
   ·exact(h2 _ _ (Rd.int' r) (Rd.int' r')).elim
   ·rfl
  rw [e]
  exact S2.neD _ _ _ _ _ _ _ _ s r r'
end
end MP
namespace MP
open PySem (Str PyData sizeLine)
open PySem L2
section
variable {μ:List Nat} {W:Nat→Prop} {S:Zaa} {T:Cs} {v:SV} {p:PV}
theorem Rds.one {xs:List SV} (r:Rds μ W S xs [p]):∃x,xs=[x]∧Rd μ W S x p:=by
 obtain⟨x,y,rfl,a,b⟩:=r.cons_
 cases b.nil_
 exact⟨x,rfl,a⟩
theorem Rds.two {q:PV} {xs:List SV} (r:Rds μ W S xs [p,q]):∃x y,xs=[x,y]∧Rd μ W S x p∧Rd μ W S y q:=by
 obtain⟨x,y,rfl,a,b⟩:=r.cons_
 obtain⟨y,rfl,c⟩:=b.one
 exact⟨x,y,rfl,a,c⟩
theorem SF.one {f:List SV→M SV} {g:PF} (h:∀{μ W S T x p},Sm μ W S T→Rd μ W S x p→Ag μ W S (f [x] S) (g [p] T) RV) (k:∀ps T,(∀p,ps=[p]→False)→g ps T= .bad):SF f g:=by
 intro μ W S T xs ps s r
 match ps,r with
 | [p],r=>obtain⟨x,rfl,a⟩:=r.one; exact h s a
 | [],_=>rw [k [] T (fun _ h=>nomatch h)]; trivial
 | a::b::c,_=>rw [k (a::b::c) T (fun _ h=>nomatch h)]; trivial
theorem SF.two {f:List SV→M SV} {g:PF} (h:∀{μ W S T x y p q},Sm μ W S T→Rd μ W S x p→Rd μ W S y q→Ag μ W S (f [x,y] S) (g [p,q] T) RV) (k:∀ps T,(∀p q,ps=[p,q]→False)→g ps T= .bad):SF f g:=by
 intro μ W S T xs ps s r
 match ps,r with
 | [p,q],r=>obtain⟨x,y,rfl,a,b⟩:=r.two; exact h s a b
 | [],_=>rw [k [] T (fun _ _ h=>nomatch h)]; trivial
 | [a],_=>rw [k [a] T (fun _ _ h=>nomatch h)]; trivial
 | a::b::c::d,_=>rw [k (a::b::c::d) T (fun _ _ h=>nomatch h)]; trivial
def ZfZ (x:PV) (T:Cs):ZaR PV:=match x with
 | .str z=>if z.length≤sizeLine then .ok (.int z.length) T else .bad
 | x=>(match ZfV T x with
  | some ys=> .ok (.int ys.length) T
  | none=> .bad)
def Zf0:PF:=fun xs T=>match xs with
 | [x]=>ZfZ x T
 | _=> .bad
def ZlB:PF:=fun xs T=>match xs with
 | [.int i]=> .ok (.int (if i<0 then -i else i)) T
 | _=> .bad
def ZgQ:PF:=fun xs T=>match xs with
 | [.int i, .int j]=> .ok (.int (if j>i then j else i)) T
 | _=> .bad
def Zhq:PF:=fun xs T=>match xs with
 | [.int i, .int j]=> .ok (.int (if j<i then j else i)) T
 | _=> .bad
def Zh4:PF:=fun xs T=>match xs with
 | [.int i]=> .ok (.int i) T
 | [.bl k]=> .ok (.int (if k then 1 else 0)) T
 | _=> .bad
def ZfP:PF:=fun xs T=>match xs with
 | [.int i]=> .ok (.bl (i != 0)) T
 | [.bl k]=> .ok (.bl k) T
 | _=> .bad
def Zoh:PF:=fun xs T=>match xs with
 | [.int i]=>if i.natAbs.log2<1920 then .ok (.str (toString i)) T else .bad
 | _=> .bad
def Zk3:PF:=fun xs T=>match xs with
 | [x]=>(match ZfV T x with
  | some ys=> .ok (.lst ys) T
  | none=> .bad)
 | _=> .bad
def Zc6:PF:=fun xs T=>match xs with
 | [x]=>(match ZfV T x with
  | some ys=> .ok (.tup ys) T
  | none=> .bad)
 | _=> .bad
theorem ZgR (s:Sm μ W S T) (r:Rd μ W S v p) {ps:List PV} (e:ZfV T p=some ps):∃xs,seqOf S v=some xs∧Rds μ W S xs ps∧∀z,v≠ .str z:=by
 obtain⟨xs,a,b⟩:=r.seq s e
 exact⟨xs,a,b,fun z h=>by subst h; cases a⟩
theorem Zk4 (s:Sm μ W S T) (r:Rd μ W S v p):Ag μ W S (Zf3 [v] S) (ZfZ p T) RV:=by
 unfold ZfZ
 split
 ·cases r.str_
  simp only [Zf3]
  split
  ·exact .ok s (.int _)
  ·trivial
 ·split
  ·rename_i ys e
   obtain⟨xs,a,b,c⟩:=ZgR s r e
   have e2:Zf3 [v] S= .ok (.int xs.length) S:=by
    cases v<;>first | exact(c _ rfl).elim | simp only [Zf3,a]
   rw [e2,b.len]
   exact .ok s (.int _)
  ·trivial
theorem SF.len:SF Zf3 Zf0:=SF.one (fun s r=>Zk4 s r) (fun ps T h=>by match ps with | []=>rfl | [p]=>exact(h p rfl).elim | _::_::_=>rfl)
theorem SF.abs:SF Znp ZlB:=SF.one (fun{μ W S T x p} s r=>by
 cases p with
 | int i=>cases r.int_; exact .ok s (.int _)
 | _=>trivial) (fun ps T h=>by match ps with | []=>rfl | [p]=>exact(h p rfl).elim | _::_::_=>simp only [ZlB])
theorem SF.max:SF Zlp ZgQ:=SF.two (fun{μ W S T x y p q} s r r'=>by
 cases p with
 | int i=>cases q with
  | int j=>cases r.int_; cases r'.int_; exact .ok s (.int _)
  | _=>trivial
 | _=>trivial) (fun ps T h=>by match ps with | []=>rfl | [p]=>simp only [ZgQ] | [p,q]=>exact(h p q rfl).elim | _::_::_::_=>simp only [ZgQ])
theorem SF.min:SF ZlP Zhq:=SF.two (fun{μ W S T x y p q} s r r'=>by
 cases p with
 | int i=>cases q with
  | int j=>cases r.int_; cases r'.int_; exact .ok s (.int _)
  | _=>trivial
 | _=>trivial) (fun ps T h=>by match ps with | []=>rfl | [p]=>simp only [Zhq] | [p,q]=>exact(h p q rfl).elim | _::_::_::_=>simp only [Zhq])
theorem SF.int:SF Zjg Zh4:=SF.one (fun{μ W S T x p} s r=>by
 cases p with
 | int i=>cases r.int_; exact .ok s (.int _)
 | bl i=>cases r.bl_; exact .ok s (.int _)
 | _=>trivial) (fun ps T h=>by match ps with | []=>rfl | [p]=>exact(h p rfl).elim | _::_::_=>simp only [Zh4])
theorem SF.bool:SF Zhu ZfP:=SF.one (fun{μ W S T x p} s r=>by
 cases p with
 | int i=>cases r.int_; exact .ok s (.bl _)
 | bl i=>cases r.bl_; exact .ok s (.bl _)
 | _=>trivial) (fun ps T h=>by match ps with | []=>rfl | [p]=>exact(h p rfl).elim | _::_::_=>simp only [ZfP])
theorem SF.str:SF ZlQ Zoh:=SF.one (fun{μ W S T x p} s r=>by
 cases p with
 | int i=>
  cases r.int_
  simp only [ZlQ,Zoh]
  split
  ·exact .ok s (.str _)
  ·trivial
 | _=>trivial) (fun ps T h=>by match ps with | []=>rfl | [p]=>exact(h p rfl).elim | _::_::_=>simp only [Zoh])
theorem SF.list:SF Zf4 Zk3:=SF.one (fun{μ W S T x p} s r=>by
 simp only [Zk3]
 split
 ·rename_i ys e
  obtain⟨xs,a,b⟩:=r.seq s e
  simp only [Zf4,a]
  obtain⟨y,s1,r1⟩:=s.tree (.lst b)
  exact .okS y s1 r1
 ·trivial) (fun ps T h=>by match ps with | []=>rfl | [p]=>exact(h p rfl).elim | _::_::_=>simp only [Zk3])
theorem SF.tuple:SF Zeg Zc6:=SF.one (fun{μ W S T x p} s r=>by
 simp only [Zc6]
 split
 ·rename_i ys e
  obtain⟨xs,a,b⟩:=r.seq s e
  simp only [Zeg,a]
  exact .ok s (.tup b)
 ·trivial) (fun ps T h=>by match ps with | []=>rfl | [p]=>exact(h p rfl).elim | _::_::_=>simp only [Zc6])
def Zk5 (cs bs:List String) (t:TyN) (c:PV):Option Bool:=match c with
 | .ty b=>Zf5 cs bs t (.ty b)
 | .cls b=>Zf5 cs bs t (.cls b)
 | _=>none
def ZdZ (cs bs:List String) (t:TyN):List PV→Option Bool
 | []=>some false
 | c::r=>match Zk5 cs bs t c,ZdZ cs bs t r with
  | some b,some k=>some (b || k)
  | _,_=>none
theorem ZgS {cs bs:List String} {t:TyN} {b:Bool} (r:Rd μ W S v p) (e:Zk5 cs bs t p=some b):Zf5 cs bs t v=some b:=by
 cases p with
 | ty n=>cases r.ty_; exact e
 | cls n=>cases r.cls_; exact e
 | _=>cases e
theorem ZgT {cs bs:List String} {t:TyN} {xs:List SV} {ps:List PV} {b:Bool} (r:Rds μ W S xs ps) (e:ZdZ cs bs t ps=some b):ZcD cs bs t xs=some b:=by
 induction ps generalizing xs b with
 | nil=>cases r; exact e
 | cons p ps ih=>
  cases r with
  | cons a c=>
   simp only [ZdZ]at e
   split at e
   ·rename_i b1 b2 e1 e2
    simp only [ZcD,ZgS a e1,ih c e2]
    exact e
   ·cases e
def Zdm (cs bs:List String):PF:=fun xs T=>match xs with
 | [x, .tup (t0::ts)]=>(match tyP T x with
  | some t=>(match ZdZ cs bs t (t0::ts)with
   | some b=> .ok (.bl b) T
   | none=> .bad)
  | none=> .bad)
 | [x,c]=>(match tyP T x with
  | some t=>(match Zk5 cs bs t c with
   | some b=> .ok (.bl b) T
   | none=> .bad)
  | none=> .bad)
 | _=> .bad
theorem SF.isa {cs bs:List String}:SF (Ze9 cs bs) (Zdm cs bs):=SF.two (fun{μ W S T x y p q} s r r'=>by
 unfold Zdm
 split
 ·rename_i t0 ts e
  simp only [List.cons.injEq,and_true]at e
  obtain⟨rfl,rfl⟩:=e
  obtain⟨ys,rfl,rr⟩:=r'.tup_
  obtain⟨y0,ys,rfl,a,b⟩:=rr.cons_
  split
  ·rename_i t h1
   split
   ·rename_i b h2
    simp only [Ze9,ZkY s r,h1,ZgT rr h2]
    exact .ok s (.bl _)
   ·trivial
  ·trivial
 ·rename_i c hc e
  simp only [List.cons.injEq,and_true]at e
  obtain⟨rfl,rfl⟩:=e
  split
  ·rename_i t h1
   split
   ·rename_i b h2
    have e3:Ze9 cs bs [x,y] S= .ok (.bl b) S:=by
     have e4:=ZgS r' h2
     unfold Ze9
     split
     ·rename_i z
      simp only [List.cons.injEq,and_true]at z
      obtain⟨rfl,rfl⟩:=z
      simp [Zf5]at e4
     ·rename_i z
      simp only [List.cons.injEq,and_true]at z
      obtain⟨rfl,rfl⟩:=z
      simp only [ZkY s r,h1,e4]
     ·rename_i z1 z2
      exact(z2 _ _ rfl).elim
    rw [e3]
    exact .ok s (.bl _)
   ·trivial
  ·trivial
 ·rename_i h1 h2
  exact(h2 _ _ rfl).elim) (fun ps T h=>by match ps with | []=>rfl | [p]=>rfl | [p,q]=>exact(h p q rfl).elim | _::_::_::_=>simp only [Zdm])
def ZeA (dk:Bool):PF:=fun xs T=>match xs with
 | [x]=>(match ZaV 12 T x with
  | some d=>if(d.showable&&decide (d.shown.length≤sizeLine)&&decide (d.depth≤64)&&(dk || !d.hasDict))=true then .ok (.str d.shown) T else .bad
  | none=> .bad)
 | _=> .bad
theorem SF.repr {dk:Bool}:SF (Zeh dk) (ZeA dk):=SF.one (fun{μ W S T x p} s r=>by
 simp only [ZeA]
 split
 ·rename_i d e
  simp only [Zeh,Zcw s 12 r e]
  split
  ·exact .ok s (.str _)
  ·trivial
 ·trivial) (fun ps T h=>by match ps with | []=>rfl | [p]=>exact(h p rfl).elim | _::_::_=>simp only [ZeA])
def Zoi:PF:=fun xs T=>match xs with
 | [x]=>(match (ZbL T x).bind ZmJ with
  | some bs=> .ok (.bl (bs.all id)) T
  | none=> .bad)
 | _=> .bad
def Zoj:PF:=fun xs T=>match xs with
 | [x]=>(match (ZbL T x).bind ZmJ with
  | some bs=> .ok (.bl (bs.any id)) T
  | none=> .bad)
 | _=> .bad
theorem SF.all:SF ZlR Zoi:=SF.one (fun{μ W S T x p} s r=>by
 simp only [Zoi]
 split
 ·rename_i d e
  simp only [YaF]at e
  obtain⟨ps,e1,e2⟩:=e
  obtain⟨n,xs,rfl,a,b⟩:=r.lst s e1
  simp only [ZlR,a,Ybr,ZiW b e2]
  exact .ok s (.bl _)
 ·trivial) (fun ps T h=>by match ps with | []=>rfl | [p]=>exact(h p rfl).elim | _::_::_=>simp only [Zoi])
theorem SF.any:SF ZlS Zoj:=SF.one (fun{μ W S T x p} s r=>by
 simp only [Zoj]
 split
 ·rename_i d e
  simp only [YaF]at e
  obtain⟨ps,e1,e2⟩:=e
  obtain⟨n,xs,rfl,a,b⟩:=r.lst s e1
  simp only [ZlS,a,Ybr,ZiW b e2]
  exact .ok s (.bl _)
 ·trivial) (fun ps T h=>by match ps with | []=>rfl | [p]=>exact(h p rfl).elim | _::_::_=>simp only [Zoj])
end
variable [Gh]
abbrev PO:=PEn→Cs→ZaR (Option Int)
def ZmM:PO:=fun _ T=> .ok none T
def ZmN (m:PE):PO:=fun env T=>(m env T).bind fun v T1=>match v with
 | .int i=> .ok (some i) T1
 | _=> .bad
def SO_ (m:OM) (e:PO):Prop:=∀(μ:List Nat) (W:Nat→Prop) (S:Zaa) (T:Cs) (env:En) (pe:PEn),Sm μ W S T→RdE μ W S env pe→Ag μ W S (m env S) (e pe T) RB
theorem SO_.none:SO_ Zmk ZmM:=fun _ _ _ _ _ _ s _=> .ok s rfl
theorem SO_.some {m:EM} {e:PE} (h:SE m e):SO_ (Zml m) (ZmN e):=by
 intro μ W S T env pe s n
 refine(h μ W S T env pe s n).bind fun μ1 W1 S1 T1 v p x s1 r1=> ?_
 cases p with
 | int b=>cases Rd.int_ r1; exact .ok s1 rfl
 | _=>trivial
def ZgU (cell:Bool) (x:PV) (lo hi:Option Int) (T:Cs):ZaR PV:=match x with
 | .tup xs=> .ok (.tup (ZfE xs lo hi)) T
 | .str z=>if z.length≤sizeLine then .ok (.str (cutS z lo hi)) T else .bad
 | x=>(match ZbL T x with
  | some xs=>if cell=true then .ok (.cell T.length) (T++[.lst (ZfE xs lo hi)])else .ok (.lst (ZfE xs lo hi)) T
  | none=> .bad)
def ZmO (cell:Bool) (m:PE) (l u:PO):PE:=fun env T=>(m env T).bind fun x T1=>(l env T1).bind fun a T2=>(u env T2).bind fun b T3=>ZgU cell x a b T3
theorem Rds.cut {μ:List Nat} {W:Nat→Prop} {S:Zaa} {xs:List SV} {ps:List PV} (r:Rds μ W S xs ps) (lo hi:Option Int):Rds μ W S (ZfE xs lo hi) (ZfE ps lo hi):=by
 unfold ZfE
 rw [r.len]
 exact(r.drop _).take _
theorem Zh5 {cell:Bool} {μ:List Nat} {W:Nat→Prop} {S:Zaa} {T:Cs} {x:SV} {p:PV} {lo hi:Option Int} (s:Sm μ W S T) (r:Rd μ W S x p):Ag μ W S (Zeo x lo hi S) (ZgU cell p lo hi T) RV:=by
 unfold ZgU
 split
 ·obtain⟨xs,rfl,a⟩:=r.tup_; exact .ok s (.tup (a.cut lo hi))
 ·cases r.str_
  simp only [Zeo]
  split
  ·exact .ok s (.str _)
  ·trivial
 ·split
  ·rename_i ps e
   obtain⟨n,xs,rfl,a,b⟩:=r.lst s e
   simp only [Zeo,a]
   cases cell with
   | true=>
    obtain⟨y,s1,r1⟩:=s.newc (.lst (b.cut lo hi)) rfl
    rw [if_pos rfl]; exact .okS y s1 r1
   | false=>
    obtain⟨y,s1,r1⟩:=s.tree (.lst (b.cut lo hi))
    rw [if_neg (by decide)]; exact .okS y s1 r1
  ·trivial
theorem SE.slice {cell:Bool} {m:EM} {e:PE} {l u:OM} {l' u':PO} (h:SE m e) (hl:SO_ l l') (hu:SO_ u u'):SE (ZiJ m l u) (ZmO cell e l' u'):=by
 intro μ W S T env pe s n
 refine(h μ W S T env pe s n).bind fun μ1 W1 S1 T1 v p x s1 r1=> ?_
 refine(hl _ _ _ _ env pe s1 (n.step s x)).bind fun μ2 W2 S2 T2 v2 p2 x2 s2 r2=> ?_
 refine(hu _ _ _ _ env pe s2 ((n.step s x).step s1 x2)).bind fun μ3 W3 S3 T3 v3 p3 x3 s3 r3=> ?_
 cases r2; cases r3
 exact Zh5 s3 (Rd.step s2 x3 (Rd.step s1 x2 r1))
def Zdw:PE:=fun _ T=> .ok (.dK []) T
theorem SE.dict0:SE Zgn Zdw:=fun μ W S T env pe s n=>let ⟨y,s1,r1⟩:=s.tree (o:= .dK []) (p:= .dK []) (.dK rfl .nil); .okS y s1 r1
theorem Rds.ofInts {μ:List Nat} {W:Nat→Prop} {S:Zaa}:∀ns:List Int,Rds μ W S (ns.map .int) (ns.map .int)
 | []=> .nil
 | n::r=> .cons (.int n) (Rds.ofInts r)
theorem Rds.ofStrs {μ:List Nat} {W:Nat→Prop} {S:Zaa}:∀ns:List Str,Rds μ W S (ns.map .str) (ns.map .str)
 | []=> .nil
 | n::r=> .cons (.str n) (Rds.ofStrs r)
def ZnD (t:String) (T:Cs):PV→Bool
 | .str _=>t== "str"
 | p=>t== "list"&&(ZbL T p).isSome
def SBM (m:SV→List SV→M SV) (f:PV→PF):Prop:=∀(μ:List Nat) (W:Nat→Prop) (S:Zaa) (T:Cs) (x:SV) (p:PV) (xs:List SV) (ps:List PV),Sm μ W S T→Rd μ W S x p→Rds μ W S xs ps→Ag μ W S (m x xs S) (f p ps T) RV
def pBM (t:String) (f:PV→PF) (o:PE) (a:PA):PE:=fun env T=>(o env T).bind fun x T1=>if ZnD t T1 x=true then (a env T1).bind fun xs T2=>f x xs T2 else .bad
theorem ZmP {t:String} {μ:List Nat} {W:Nat→Prop} {S:Zaa} {T:Cs} {v:SV} {p:PV} (s:Sm μ W S T) (r:Rd μ W S v p) (h:ZnD t T p=true):tyS t S v=true:=by
 unfold ZnD at h
 split at h
 ·cases r.str_; exact h
 ·simp only [YaK]at h
  obtain⟨ps,e⟩:=YaZ.mp h.2
  obtain⟨n,xs,rfl,a,b⟩:=r.lst s e
  simp [tyS,h.1,a]
theorem SE.bm {t:String} {f:SV→List SV→M SV} {g:PV→PF} {o:EM} {po:PE} {a:AM} {pa:PA} (h:SBM f g) (ho:SE o po) (ha:SA a pa):SE (eBM t f o a) (pBM t g po pa):=by
 intro μ W S T env pe s n
 refine(ho μ W S T env pe s n).bind fun μ1 W1 S1 T1 v p x s1 r1=> ?_
 by_cases c:ZnD t T1 p=true
 ·rw [if_pos c,if_pos (ZmP s1 r1 c)]
  exact(ha _ _ _ _ env pe s1 (n.step s x)).bind fun μ2 W2 S2 T2 vs ps x2 s2 r2=>h _ _ _ _ _ _ _ _ s2 (Rd.step s1 x2 r1) r2
 ·simp only [if_neg c]; trivial
def Ze0:PV→PF:=fun x xs T=>match x,xs with
 | .cell n,[y]=>(match T[n]? with
  | some (.lst ys)=>if ys.length<sizeLine then .ok .non (T.set n (.lst (ys++[y])))else .bad
  | _=> .bad)
 | _,_=> .bad
def ZgV:PV→PF:=fun x xs T=>match x,xs with
 | .str a,[.str b]=>if(b.length==0)=false∧a.length+2≤sizeLine then .ok (.lst ((Txt.split a b).map .str)) T else .bad
 | _,_=> .bad
theorem SBM.one {m:SV→List SV→M SV} {f:PV→PF} (h:∀{μ W S T x y p q},Sm μ W S T→Rd μ W S x p→Rd μ W S y q→Ag μ W S (m x [y] S) (f p [q] T) RV) (k:∀p ps T,(∀q,ps=[q]→False)→f p ps T= .bad):SBM m f:=by
 intro μ W S T x p xs ps s r rs
 match ps,rs with
 | [q],rs=>obtain⟨y,rfl,a⟩:=rs.one; exact h s r a
 | [],_=>rw [k p [] T (fun _ h=>nomatch h)]; trivial
 | a::b::c,_=>rw [k p (a::b::c) T (fun _ h=>nomatch h)]; trivial
theorem SBM.append:SBM ZcW Ze0:=SBM.one (fun{μ W S T x y p q} s r r'=>by
 cases p with
 | cell c=>
  obtain⟨n,rfl,hc⟩:=r.cell_
  simp only [Ze0]
  split
  ·rename_i ys e
   obtain⟨o,e1,e2,e3⟩:=s.cell _ _ _ hc e
   cases e2 with
   | lst k=>
    simp only [ZcW,e1,k.len]
    split
    ·obtain⟨x,s1⟩:=s.put hc (.lst (k.app (.cons r' .nil))) rfl
     exact .okS x s1 .non
    ·trivial
  ·trivial
 | _=>trivial) (fun p ps T h=>by cases p<;>first | rfl | (match ps with | []=>rfl | [q]=>exact(h q rfl).elim | _::_::_=>simp only [Ze0]))
theorem SBM.split:SBM Zep ZgV:=SBM.one (fun{μ W S T x y p q} s r r'=>by
 cases p with
 | str a=>
  cases q with
  | str b=>
   cases r.str_; cases r'.str_
   simp only [ZgV,Zep]
   split
   ·obtain⟨y,s1,r1⟩:=s.tree (.lst (Rds.ofStrs (Txt.split a b)))
    exact .okS y s1 r1
   ·trivial
  | _=>trivial
 | _=>trivial) (fun p ps T h=>by cases p<;>first | rfl | (match ps with | []=>rfl | [q]=>exact(h q rfl).elim | _::_::_=>simp only [ZgV]))
end MP
namespace MP
open PySem (Str PyData sizeLine)
theorem law_of {m:List SV→M SV} {f:PF} (h:SF m f) (ns:List Int) (e:∃T',f [.frz (ns.map .int)] []= .ok (.bl true) T'):∃S',m [.ref 0] (scS ns)= .ok (.bl true) S':=by
 obtain⟨T',e⟩:=e
 have s:Sm [] (fun n=>n=0) (scS ns) []:=⟨rfl, .nil,fun _ _ _ e=>(by cases e),fun _ _ h=>(nomatch h),fun n h=>by subst h; exact Nat.zero_lt_one⟩
 have r:Rds [] (fun n=>n=0) (scS ns) [.ref 0] [.frz (ns.map .int)]:= .cons (.node rfl rfl (.frz (Rds.ofInts ns))) .nil
 have z:=h _ _ _ _ _ _ s r
 rw [e]at z
 obtain⟨v,S',μ',W',e1,x,s',rd⟩:=z
 cases Rd.bl_ rd
 exact⟨S',e1⟩
def wP {α:Type} (r:ZaR α) (Q:α→Cs→Prop):Prop:=match r with
 | .ok a T=>Q a T
 | _=>False
structure Pps where
 nx:PEn→Cs→Prop
 rt:PV→Cs→Prop
 bk:PEn→Cs→Prop:=fun _ _=>False
 ct:PEn→Cs→Prop:=fun _ _=>False
def wQ (r:Za0) (D:Pps):Prop:=match r with
 | .nx e T=>D.nx e T
 | .rt v T=>D.rt v T
 | .bk e T=>D.bk e T
 | .ct e T=>D.ct e T
 | _=>False
section
variable {α β:Type} {r:ZaR α} {Q Q':α→Cs→Prop} {T:Cs} {D:Pps} {env:PEn}
theorem Zcx {a:α}:wP (.ok a T) Q=Q a T:=rfl
theorem Zfp:wP (.bad:ZaR α) Q=False:=rfl
theorem Zcc {f:α→Cs→ZaR β} {Q:β→Cs→Prop}:wP (r.bind f) Q=wP r fun a T=>wP (f a T) Q:=by cases r<;>rfl
theorem Zh6 {c:Prop} [Decidable c] {a b:ZaR α}:wP (if c then a else b) Q=if c then wP a Q else wP b Q:=by split<;>rfl
theorem wP.mono (h:wP r Q) (k:∀a T,Q a T→Q' a T):wP r Q':=by
 cases r with
 | ok a T=>exact k a T h
 | exc x T=>exact h
 | bad=>exact h
theorem wP.ex (h:wP r Q):∃a T,r= .ok a T∧Q a T:=by
 cases r with
 | ok a T=>exact⟨a,T,rfl,h⟩
 | exc x T=>exact h.elim
 | bad=>exact h.elim
theorem wP.of {a:α} (h:r= .ok a T) (q:Q a T):wP r Q:=by rw [h]; exact q
theorem Zd0:wQ (.nx env T) D=D.nx env T:=rfl
theorem Ze1 {v:PV}:wQ (.rt v T) D=D.rt v T:=rfl
theorem Zh7:wQ (.bk env T) D=D.bk env T:=rfl
theorem Zh8:wQ (.ct env T) D=D.ct env T:=rfl
theorem Zfq:wQ .bad D=False:=rfl
theorem ZcF {k:α→Cs→Za0}:wQ (r.stm env k) D=wP r fun a T=>wQ (k a T) D:=by cases r<;>rfl
theorem Zdx {r:Za0} {k:PSM}:wQ (r.seq k) D=wQ r {D with nx:=fun e T=>wQ (k e T) D}:=by cases r<;>rfl
theorem Zk6 {r:Za0} {k:PSM}:wQ (Zdj r k) D=wQ r {nx:=fun e T=>wQ (k e T) D,rt:=D.rt,bk:=D.nx,ct:=fun e T=>wQ (k e T) D}:=by cases r<;>rfl
theorem Zh9 {c:Prop} [Decidable c] {a b:Za0}:wQ (if c then a else b) D=if c then wQ a D else wQ b D:=by split<;>rfl
theorem wQ.mono {r:Za0} {D':Pps} (h:wQ r D) (k1:∀e T,D.nx e T→D'.nx e T) (k2:∀e T,D.rt e T→D'.rt e T) (k3:∀e T,D.bk e T→D'.bk e T) (k4:∀e T,D.ct e T→D'.ct e T):wQ r D':=by
 cases r with
 | nx e T=>exact k1 e T h
 | rt e T=>exact k2 e T h
 | bk e T=>exact k3 e T h
 | ct e T=>exact k4 e T h
 | _=>exact h.elim
theorem Zia {r:ZaR PV} {Q:PV→Cs→Prop} {k:Nat} (h:wP r fun v T'=>if T'.length=k then Q v T' else ∃u,ZkX k T' v=some u∧wfs k (T'.take k)=true∧wf k u=true∧Q u (T'.take k)):wP (Zb2 k r) Q:=by
 cases r with
 | ok v T'=>
  simp only [Zb2,wP]at h⊢
  by_cases hk:T'.length=k
  ·rw [if_pos hk]at h⊢; exact h
  ·rw [if_neg hk]at h⊢
   obtain⟨u,a,b,c,d⟩:=h
   rw [a]
   simp only
   rw [if_pos (by simp [b,c])]
   exact d
 | exc x T=>exact h.elim
 | bad=>exact h.elim
theorem Zcy {n:Nat} {body:PSM} {args:List PV} {Q:PV→Cs→Prop}:wP (Zbx n body args T) Q=wQ (body (args.map some++Yaa (n - args.length) none) T) {nx:=fun _ T=>Q .non T,rt:=Q}:=by
 unfold Zbx
 cases body (args.map some++Yaa (n - args.length) none) T<;>rfl
def clQ (k:Nat) (Q:PV→Cs→Prop):PV→Cs→Prop:=fun v T'=>if T'.length=k then Q v T' else ∃u,ZkX k T' v=some u∧wfs k (T'.take k)=true∧wf k u=true∧Q u (T'.take k)
theorem Zd1 {k:Nat} {Q:PV→Cs→Prop} {v:PV} {T':Cs} (h:T'.length=k):clQ k Q v T'=Q v T':=if_pos h
theorem ZgW {n:Nat} {body:PSM} {args:List PV} {Q:PV→Cs→Prop} (h:wQ (body (args.map some++Yaa (n - args.length) none) T) {nx:=fun _ T'=>clQ T.length Q .non T',rt:=clQ T.length Q}):wP (Zdt n body args T) Q:=by
 unfold Zdt
 refine Zia ?_
 rw [Zcy]
 exact h
theorem ZbC {n:Nat} {body:PSM} {args:List PV} {v:PV} {T':Cs} (h:Zbx n body args T= .ok v T') (hl:T'.length=T.length):Zdt n body args T= .ok v T':=by
 unfold Zdt
 rw [h]
 exact if_pos hl
end
section
variable {g:PGM} {body:PSM} {D:Pps} {env:PEn} {T:Cs} {w:Option (Nat × PV)} {ps0:List PV}
abbrev Pps.turn (D:Pps) (P:PEn→Cs→Prop):Pps:={nx:=P,rt:=D.rt,bk:=D.nx,ct:=P}
theorem Zcz {α:Type} (f:α→PV):∀(xs:List α) (P:List α→PEn→Cs→Prop) {env:PEn} {T:Cs},P xs env T→(∀r env T,P r env T→okW w ps0 T)→(∀x r env T,P (x::r) env T→wQ ((g (f x) env T).seq body) (D.turn (P r)))→(∀env T,P [] env T→D.nx env T)→wQ (Zdk g body w ps0 (xs.map f) env T) D
 | [],P,env,T,h,o,st,fin=>by
  unfold Zdk
  simp only [Ybs]
  rw [if_pos (o _ _ _ h)]
  exact fin env T h
 | x::xs,P,env,T,h,o,st,fin=>by
  simp only [Ya0]
  unfold Zdk
  rw [if_pos (o _ _ _ h),Zk6]
  exact(st x xs env T h).mono (fun e T q=>Zcz f xs P q o st fin) (fun _ _ q=>q) (fun _ _ q=>q) (fun e T q=>Zcz f xs P q o st fin)
theorem Zib:∀(xs:List PV) (P:List PV→PEn→Cs→Prop) {env:PEn} {T:Cs},P xs env T→(∀r env T,P r env T→okW w ps0 T)→(∀x r env T,P (x::r) env T→wQ ((g x env T).seq body) (D.turn (P r)))→(∀env T,P [] env T→D.nx env T)→wQ (Zdk g body w ps0 xs env T) D:=fun xs P env T h o st fin=>by
 have:=Zcz (w:=w) (ps0:=ps0) (g:=g) (body:=body) (D:=D) (fun x=>x) xs P h o st fin
 rwa [List.map_id']at this
theorem Zic (P:PEn→Cs→Prop) (xs:List PV) (h:P env T) (o:∀env T,P env T→okW w ps0 T) (st:∀x∈xs,∀env T,P env T→wQ ((g x env T).seq body) (D.turn P)) (fin:∀env T,P env T→D.nx env T):wQ (Zdk g body w ps0 xs env T) D:=by
 refine Zib xs (fun r env T=>P env T∧∀x∈r,x∈xs) ⟨h,fun _ h=>h⟩ (fun r env T h=>o env T h.1) (fun x r env T h=> ?_) (fun env T h=>fin env T h.1)
 exact(st x (h.2 x (Yav ..)) env T h.1).mono (fun e T q=>⟨q,fun y hy=>h.2 y (Yau _ hy)⟩) (fun _ _ q=>q) (fun _ _ q=>q) (fun e T q=>⟨q,fun y hy=>h.2 y (Yau _ hy)⟩)
end
section
variable {g:PGM} {t:PT} {e:PE} {env:PEn} {T:Cs} {w:Option (Nat × PV)} {ps0:List PV}
theorem Zd2 {α:Type} (f:α→PV) (p:α→Bool) (h:α→PV) (o:okW w ps0 T):∀(xs:List α) (acc:List PV),(∀x∈xs,∃env2,g (f x) env T= .nx env2 T∧t env2 T= .ok (p x) T∧(p x=true→e env2 T= .ok (h x) T))→acc.length+xs.length≤sizeLine→
  plc g t e env w ps0 (xs.map f) acc T= .ok (acc++(xs.filter p).map h) T
 | [],acc,hg,hs=>by
  simp only [Ybs]
  unfold plc
  rw [if_pos o]
  simp
 | x::xs,acc,hg,hs=>by
  obtain⟨env2,g1,g2,g3⟩:=hg x (Yav ..)
  simp only [Ya0]
  unfold plc
  rw [if_pos o]
  simp only [g1,g2]
  simp only [Yae]at hs
  cases q:p x with
  | false=>
   simp only
   rw [Zd2 f p h o xs acc (fun y hy=>hg y (Yau _ hy)) (by omega),List.filter_cons,q]
   rfl
  | true=>
   simp only
   rw [g3 q]
   simp only
   rw [if_pos (by omega),Zd2 f p h o xs (acc++[h x]) (fun y hy=>hg y (Yau _ hy)) (by simp; omega),List.filter_cons,q]
   simp
theorem Zfr {α:Type} {it:PI} {vs:List Nat} (f:α→PV) (p:α→Bool) (h:α→PV) (xs:List α) {env0:PEn} {T0:Cs} (hi:it env0 T0= .ok (w,xs.map f) T) (o:okW w (xs.map f) T)
  (hg:∀x∈xs,∃env2,g (f x) (ZeW env0 vs) T= .nx env2 T∧t env2 T= .ok (p x) T∧(p x=true→e env2 T= .ok (h x) T)) (hs:xs.length≤sizeLine):pLc it g t e vs env0 T0= .ok (.lst ((xs.filter p).map h)) T:=by
 unfold pLc
 rw [hi]
 simp only [Zaf]
 rw [Zd2 f p h o xs [] hg (by simpa using hs)]
 simp
theorem ZgX {α:Type} (f:α→PV) (P:List α→List PV→Cs→Prop) {Q:List PV→Cs→Prop} (o:∀r acc T,P r acc T→okW w ps0 T) (fin:∀acc T,P [] acc T→Q acc T)
  (step:∀x r acc T,P (x::r) acc T→∃env2,g (f x) env T= .nx env2 T∧wP (t env2 T) fun b T2=>if b=true then wP (e env2 T2) fun y T3=>acc.length<sizeLine∧P r (acc++[y]) T3 else P r acc T2):
  ∀(xs:List α) (acc:List PV) (T:Cs),P xs acc T→wP (plc g t e env w ps0 (xs.map f) acc T) Q
 | [],acc,T,h=>by
  simp only [Ybs]
  unfold plc
  rw [if_pos (o _ _ _ h)]
  exact fin acc T h
 | x::xs,acc,T,h=>by
  obtain⟨env2,g1,g2⟩:=step x xs acc T h
  simp only [Ya0]
  unfold plc
  rw [if_pos (o _ _ _ h)]
  obtain⟨b,T2,e2,g2⟩:=g2.ex
  simp only [g1,e2]
  cases b with
  | false=>exact ZgX f P o fin step xs acc T2 (by simpa using g2)
  | true=>
   rw [if_pos rfl]at g2
   obtain⟨y,T3,e3,hs,g3⟩:=g2.ex
   simp only [e3]
   rw [if_pos hs]
   exact ZgX f P o fin step xs (acc++[y]) T3 g3
theorem ZmQ {α:Type} {it:PI} {vs:List Nat} (f:α→PV) (xs:List α) {env0:PEn} {T0:Cs} (hi:it env0 T0= .ok (w,xs.map f) T) (P:List α→List PV→Cs→Prop) {Q:PV→Cs→Prop} (h:P xs [] T) (o:∀r acc T,P r acc T→okW w (xs.map f) T) (fin:∀acc T,P [] acc T→Q (.lst acc) T)
  (step:∀x r acc T,P (x::r) acc T→∃env2,g (f x) (ZeW env0 vs) T= .nx env2 T∧wP (t env2 T) fun b T2=>if b=true then wP (e env2 T2) fun y T3=>acc.length<sizeLine∧P r (acc++[y]) T3 else P r acc T2):wP (pLc it g t e vs env0 T0) Q:=by
 unfold pLc
 rw [hi]
 simp only [Zaf]
 rw [Zcc]
 exact ZgX f P o (fun acc T h=>fin acc T h) step xs [] T h
end
mutual
def toD:PV→Option PyData
 | .non=>some .none
 | .bl b=>some (.bool b)
 | .int i=>some (.int i)
 | .str z=>some (.str z)
 | .tup xs=>(ZiY xs).map .tuple
 | .lst xs=>(ZiY xs).map .list
 | .frz xs=>(ZiY xs).map .list
 | _=>none
def ZiY:List PV→Option (List PyData)
 | []=>some []
 | x::r=>match toD x,ZiY r with
  | some a,some b=>some (a::b)
  | _,_=>none
end
mutual
theorem Zfs (T:Cs):∀(p:PV) (D:PyData) (k:Nat),toD p=some D→D.depth<k→ZaV k T p=some D
 | p,D,0,e,h=>by omega
 | .non,D,k+1,e,h=>e
 | .bl b,D,k+1,e,h=>e
 | .int b,D,k+1,e,h=>e
 | .str b,D,k+1,e,h=>e
 | .tup xs,D,k+1,e,h=>by
  simp only [toD,YaI]at e
  obtain⟨ds,a,rfl⟩:=e
  simp only [PyData.depth]at h
  simp only [ZaV,Zck T xs ds k a (by omega),Ybq]
 | .lst xs,D,k+1,e,h=>by
  simp only [toD,YaI]at e
  obtain⟨ds,a,rfl⟩:=e
  simp only [PyData.depth]at h
  simp only [ZaV,Zbo,Zck T xs ds k a (by omega),Ybq]
 | .frz xs,D,k+1,e,h=>by
  simp only [toD,YaI]at e
  obtain⟨ds,a,rfl⟩:=e
  simp only [PyData.depth]at h
  simp only [ZaV,Zbo,Zck T xs ds k a (by omega),Ybq]
 | .dK _,D,k+1,e,h=>nomatch e
 | .dT _,D,k+1,e,h=>nomatch e
 | .dG _,D,k+1,e,h=>nomatch e
 | .ins _ _,D,k+1,e,h=>nomatch e
 | .ty _,D,k+1,e,h=>nomatch e
 | .cls _,D,k+1,e,h=>nomatch e
 | .fn _,D,k+1,e,h=>nomatch e
 | .cell _,D,k+1,e,h=>nomatch e
theorem Zck (T:Cs):∀(ps:List PV) (ds:List PyData) (k:Nat),ZiY ps=some ds→PyData.depthAll ds<k→ps.mapM (ZaV k T)=some ds
 | [],ds,k,e,h=>by cases e; rfl
 | p::ps,ds,k,e,h=>by
  simp only [ZiY]at e
  split at e
  ·rename_i a b e1 e2
   cases e
   simp only [PyData.depthAll]at h
   rw [YaD,Zfs T p a k e1 (by omega),Zck T ps b k e2 (by omega)]
   rfl
  ·cases e
end
structure Zbt (p:PV) (d w:Nat):Prop where
 ex:∃D,toD p=some D∧D.depth≤d∧D.weight≤w∧D.leavesShort 301=true∧D.showable=true∧D.canLay0=true
structure ZbS (ps:List PV) (d w:Nat):Prop where
 ex:∃ds,ZiY ps=some ds∧PyData.depthAll ds≤d∧PyData.weightAll ds≤w∧PyData.leavesShortAll 301 ds=true∧PyData.showableAll ds=true∧PyData.canLayAll0 ds=true
def shw (p:PV):Str:=((toD p).getD .none).shown
def eqT (p q:PV):Bool:=PyData.eqv ((toD p).getD .none) ((toD q).getD .none)
section
variable {p q:PV} {ps:List PV} {d w d' w' a:Nat}
theorem Zbt.non:Zbt .non d w:=⟨.none,rfl,Ybi _,Ybi _,rfl,rfl,rfl⟩
theorem Zbt.bl {b:Bool}:Zbt (.bl b) d w:=⟨.bool b,rfl,Ybi _,Ybi _,rfl,rfl,rfl⟩
theorem Zbt.int {i:Int} (h: -(10^80)≤i∧i≤10^80) (hw:300≤w):Zbt (.int i) d w:=by
 have h1:=h.1
 have h2:=h.2
 have a:i.natAbs.log2<300:=by
  by_cases z:i.natAbs=0
  ·rw [z]; decide
  ·refine(Ybt z).mpr (Yad (m:=10^80+1) (by omega) (by decide+kernel))
 have b:(PyData.shown (.int i)).length≤301:=by
  show (Str.ofString (toString i)).length≤301
  rw [PySem.ofString_length]
  exact PySem.int_text_length_le (by decide) a
 refine⟨.int i,rfl,Ybi _, ?_,by simp [PyData.leavesShort,b],by simp [PyData.showable]; omega,rfl⟩
 simp only [PyData.weight]
 split<;>omega
def asc (z:Str):Prop:=∀c∈z.cps.toList,c<128
theorem Zbt.str {z:Str} (h:asc z) (hw:z.length≤w):Zbt (.str z) d w:=by
 refine⟨.str z,rfl,Ybi _,hw, ?_,rfl, ?_⟩
 ·simp only [PyData.leavesShort,YaL,decide_eq_true_eq]
  intro c hc
  have:=h c hc
  have e:(16:Nat)^8=4294967296:=by decide
  omega
 ·show PySem.PyData.strOk z=true
  unfold PySem.PyData.strOk
  simp only [Array.all_eq_true',decide_eq_true_eq]
  intro c hc
  have:=h c (by simpa using hc)
  omega
theorem ZbS.nil:ZbS [] d w:=⟨[],rfl,Ybi _,Ybi _,rfl,rfl,rfl⟩
theorem ZbS.cons (h:Zbt p d a) (k:ZbS ps d w):ZbS (p::ps) d (a+1+w):=by
 obtain⟨D,e1,e2,e3,e4,e5,e6⟩:=h
 obtain⟨ds,f1,f2,f3,f4,f5,f6⟩:=k
 refine⟨D::ds,by simp only [ZiY,e1,f1], ?_, ?_, ?_, ?_, ?_⟩
 ·simp only [PyData.depthAll]; omega
 ·simp only [PyData.weightAll]; omega
 ·simp only [PyData.leavesShortAll,e4,f4,Ybu]
 ·simp only [PyData.showableAll,e5,f5,Ybu]
 ·simp only [PyData.canLayAll0,e6,f6,Ybu]
theorem ZbS.map {α:Type} {f:α→PV}:∀{xs:List α},(∀x∈xs,Zbt (f x) d a)→ZbS (xs.map f) d (xs.length * (a+1))
 | [],_=> .nil
 | x::xs,h=>by
  have:=ZbS.cons (h x (Yav ..)) (ZbS.map (xs:=xs) fun y hy=>h y (Yau _ hy))
  have e:(x::xs).length * (a+1)=a+1+xs.length * (a+1):=by rw [Yae,Nat.add_mul,Nat.one_mul,Nat.add_comm]
  rw [e]
  exact this
theorem Zbt.mono (h:Zbt p d w) (hd:d≤d') (hw:w≤w'):Zbt p d' w':=let ⟨D,e1,e2,e3,r⟩:=h.ex; ⟨D,e1,Yac e2 hd,Yac e3 hw,r⟩
theorem ZbS.mono (h:ZbS ps d w) (hd:d≤d') (hw:w≤w'):ZbS ps d' w':=let ⟨D,e1,e2,e3,r⟩:=h.ex; ⟨D,e1,Yac e2 hd,Yac e3 hw,r⟩
theorem Zbt.tup (h:ZbS ps d w):Zbt (.tup ps) (d+1) w:=by
 obtain⟨ds,f1,f2,f3,f4,f5,f6⟩:=h
 exact⟨.tuple ds,by simp only [toD,f1,Ybq],by simp only [PyData.depth]; omega,by simpa only [PyData.weight]using f3,by simpa only [PyData.leavesShort]using f4,by simpa only [PyData.showable]using f5,by simpa only [PyData.canLay0]using f6⟩
theorem Zbt.lst (h:ZbS ps d w):Zbt (.lst ps) (d+1) w:=by
 obtain⟨ds,f1,f2,f3,f4,f5,f6⟩:=h
 exact⟨.list ds,by simp only [toD,f1,Ybq],by simp only [PyData.depth]; omega,by simpa only [PyData.weight]using f3,by simpa only [PyData.leavesShort]using f4,by simpa only [PyData.showable]using f5,by simpa only [PyData.canLay0]using f6⟩
theorem Zbt.data {T:Cs} (h:Zbt p d w) (hd:d≤11):ZaV 12 T p=some ((toD p).getD .none):=by
 obtain⟨D,e1,e2,r⟩:=h
 rw [e1]
 exact Zfs T p D 12 e1 (by omega)
theorem Zbt.repr {T:Cs} (h:Zbt p d w) (hd:d≤11) (hw:w≤50000):ZeA true [p] T= .ok (.str (shw p)) T:=by
 have e:=h.data (T:=T) hd
 obtain⟨D,e1,e2,e3,e4,e5,e6⟩:=h
 rw [e1]at e
 have a:=PyData.shown_le 301 (by decide) D e4
 have b:D.shown.length≤sizeLine:=by rw [PySem.sizeLine_eq]; omega
 unfold ZeA shw
 simp only [e,e1]
 rw [if_pos (by simp [e5,b]; omega)]
theorem Zbt.shaped (h:Zbt p d w) (hd:d≤11):PySem.SeqAt.shaped ((toD p).getD .none)=true:=by
 obtain⟨D,e1,e2,e3,e4,e5,e6⟩:=h
 rw [e1]
 simp only [PySem.SeqAt.shaped,Ybe,e6,Bool.true_and,decide_eq_true_eq]
 omega
theorem Zbt.eqD {T:Cs} (h:Zbt p d w) (k:Zbt q d' w') (hd:d≤11) (hd':d'≤11):ZmK p q T= .ok (.bl (eqT p q)) T:=by
 unfold ZmK
 simp only [h.data (T:=T) hd,k.data (T:=T) hd',h.shaped hd,k.shaped hd',Ybu,if_true]
 rfl
theorem Zbt.neD {T:Cs} (h:Zbt p d w) (k:Zbt q d' w') (hd:d≤11) (hd':d'≤11):ZmL p q T= .ok (.bl (!eqT p q)) T:=by
 unfold ZmL
 simp only [h.data (T:=T) hd,k.data (T:=T) hd',h.shaped hd,k.shaped hd',Ybu,if_true]
 rfl
theorem Zbt.eq {T:Cs} (h:Zbt p d w) (k:Zbt q d' w') (hd:d≤11) (hd':d'≤11):eqP p q T= .ok (.bl (eqT p q)) T:=by
 unfold eqP
 split
 ·simp only [eqT,toD,PyData.eqv,Ybe]; rfl
 ·simp only [eqT,toD,PyData.eqv,Ybe]; rfl
 ·exact h.eqD k hd hd'
theorem Zbt.ne {T:Cs} (h:Zbt p d w) (k:Zbt q d' w') (hd:d≤11) (hd':d'≤11):neP p q T= .ok (.bl (!eqT p q)) T:=by
 unfold neP
 split
 ·simp only [eqT,toD,PyData.eqv,Ybe]; rfl
 ·simp only [eqT,toD,PyData.eqv,Ybe]; rfl
 ·exact h.neD k hd hd'
theorem Zbt.self (h:Zbt p d w):eqT p p=true:=by
 obtain⟨D,e1,e2,e3,e4,e5,e6⟩:=h
 unfold eqT
 rw [e1]
 exact PySem.SeqAt.eqv_refl_plain D (PySem.PyData.plain_of_canLay0 D e6)
end
end MP
namespace MP
open PySem (Str PyData sizeLine)
section
variable {μ:List Nat} {W:Nat→Prop} {S:Zaa} {T:Cs} {v:SV} {p:PV}
def ZmR (T:Cs) (p:PV):Option (List (Key × PV)):=match Zbo T p with
 | some (.dK kvs)=>some kvs
 | some (.dF kvs)=>some kvs
 | _=>none
def RdK (μ:List Nat) (W:Nat→Prop) (S:Zaa) (kvs:List (Key × SV)) (qs:List (Key × PV)):Prop:=kvs.map Prod.fst=qs.map Prod.fst∧Rds μ W S (kvs.map Prod.snd) (qs.map Prod.snd)
theorem Rd.dict (s:Sm μ W S T) (r:Rd μ W S v p) {qs:List (Key × PV)} (e:ZmR T p=some qs):∃n kvs,v= .ref n∧anyD S n=some kvs∧RdK μ W S kvs qs:=by
 unfold ZmR at e
 split at e
 ·rename_i q h
  cases e
  obtain⟨n,o,rfl,e1,e2⟩:=r.obj s h
  cases e2 with
  | dK a b=>exact⟨n,_,rfl,by simp only [anyD,e1],a,b⟩
 ·rename_i q h
  cases e
  obtain⟨n,o,rfl,e1,e2⟩:=r.obj s h
  cases e2 with
  | dF a b=>exact⟨n,_,rfl,by simp only [anyD,e1],a,b⟩
 ·cases e
def ZnE:PV→Option Key
 | .int i=>some (.inl i)
 | .str z=>some (.inr z)
 | _=>none
theorem ZgY (r:Rd μ W S v p) {k:Key} (e:ZnE p=some k):Zlw v=some k:=by
 cases p with
 | int i=>cases r.int_; exact e
 | str i=>cases r.str_; exact e
 | _=>cases e
theorem RdK.val {kvs:List (Key × SV)} {qs:List (Key × PV)} (r:RdK μ W S kvs qs) (k:Key):(∀q,Zdf qs k=some q→∃x,Zdf kvs k=some x∧Rd μ W S x q)∧(Zdf qs k=none→Zdf kvs k=none):=by
 obtain⟨e,r⟩:=r
 induction qs generalizing kvs with
 | nil=>cases kvs with | nil=>exact⟨(fun _ h=>nomatch h),fun _=>rfl⟩ | cons a b=>cases e
 | cons q qs ih=>
  cases kvs with
  | nil=>cases e
  | cons a b=>
   simp only [Ya0,List.cons.injEq]at e
   cases r with
   | cons c d=>
    have i:=ih e.2 d
    by_cases h:q.1=k
    ·have h':a.1=k:=e.1.trans h
     have e1:Zdf (q::qs) k=some q.2:=by simp [Zdf,h]
     have e2:Zdf (a::b) k=some a.2:=by simp [Zdf,h']
     rw [e1,e2]
     exact⟨fun z hz=>⟨_,rfl,by cases hz; exact c⟩,fun h=>nomatch h⟩
    ·have h':¬a.1=k:=fun z=>h (e.1.symm.trans z)
     have e1:Zdf (q::qs) k=Zdf qs k:=by simp [Zdf,h]
     have e2:Zdf (a::b) k=Zdf b k:=by simp [Zdf,h']
     rw [e1,e2]
     exact i
theorem RdK.len {kvs:List (Key × SV)} {qs:List (Key × PV)} (r:RdK μ W S kvs qs):kvs.length=qs.length:=by simpa using congrArg Ybo r.1
theorem ZgZ {α:Type} (k:Key) (l:List (Key × α)):(l.any fun kv=>decide (kv.1=k))=(l.map Prod.fst).any fun j=>decide (j=k):=by rw [Ya3]; rfl
theorem RdK.put {kvs:List (Key × SV)} {qs:List (Key × PV)} (r:RdK μ W S kvs qs) {x:SV} {q:PV} (h:Rd μ W S x q) (k:Key):RdK μ W S (ZcH kvs k x) (ZcH qs k q):=by
 unfold ZcH
 rw [ZgZ,ZgZ k qs,r.1]
 split
 ·rename_i hsp
  clear hsp
  have m1:∀{α:Type} (l:List (Key × α)) (z:α),(l.map fun kv=>if kv.1=k then (kv.1,z)else kv).map Prod.fst=l.map Prod.fst:=fun l z=>by
   rw [YaJ]
   refine Ybk fun a _=> ?_
   simp only [Function.comp]
   split<;>rfl
  refine⟨by rw [m1,m1]; exact r.1, ?_⟩
  obtain⟨e,r⟩:=r
  induction qs generalizing kvs with
  | nil=>cases kvs with | nil=>exact .nil | cons a b=>cases e
  | cons p qs ih=>
   cases kvs with
   | nil=>cases e
   | cons a b=>
    simp only [Ya0,List.cons.injEq]at e
    cases r with
    | cons c d=>
     simp only [Ya0]
     by_cases hk:p.1=k
     ·rw [if_pos hk,if_pos (e.1.trans hk)]; exact .cons h (ih e.2 d)
     ·rw [if_neg hk,if_neg (fun z=>hk (e.1.symm.trans z))]; exact .cons c (ih e.2 d)
 ·exact⟨by simp [r.1],by simp only [List.map_append,Ya0,Ybs]; exact r.2.app (.cons h .nil)⟩
def ZoS (c:PV→PV→Cs→Bool) (f g:P2):P2:=fun x y T=>if c x y T=true then f x y T else g x y T
theorem S2.two {c:SV→SV→Zaa→Bool} {c':PV→PV→Cs→Bool} {f g:SV→SV→M SV} {f' g':P2} (hc:∀{μ W S T x y p q},Sm μ W S T→Rd μ W S x p→Rd μ W S y q→c x y S=c' p q T) (h:S2 f f') (h':S2 g g'):S2 (Zgr c f g) (ZoS c' f' g'):=by
 intro μ W S T x y p q s r r'
 unfold Zgr ZoS
 rw [hc s r r']
 split
 ·exact h _ _ _ _ _ _ _ _ s r r'
 ·exact h' _ _ _ _ _ _ _ _ s r r'
def Ze2 (c:List PV→Cs→Bool) (f g:PF):PF:=fun xs T=>if c xs T=true then f xs T else g xs T
theorem SF.two' {c:List SV→Zaa→Bool} {c':List PV→Cs→Bool} {f g:List SV→M SV} {f' g':PF} (hc:∀{μ W S T xs ps},Sm μ W S T→Rds μ W S xs ps→c xs S=c' ps T) (h:SF f f') (h':SF g g'):SF (Zlv c f g) (Ze2 c' f' g'):=by
 intro μ W S T xs ps s r
 unfold Zlv Ze2
 rw [hc s r]
 split
 ·exact h _ _ _ _ _ _ s r
 ·exact h' _ _ _ _ _ _ s r
def Ze3 (ps:List PV) (T:Cs):Bool:=match ps with
 | [p]=>((ZbL T p).bind ZeZ).isSome
 | _=>false
theorem Zid {xs:List SV} {ps:List PV} (r:Rds μ W S xs ps):(ZbZ xs).isSome=(ZeZ ps).isSome:=by
 induction ps generalizing xs with
 | nil=>cases r; rfl
 | cons p ps ih=>
  cases r with
  | @cons x _ xs _ a b=>
   have e:=ih b
   cases p with
   | str z=>cases a.str_; simpa [ZbZ,ZeZ]using e
   | _=>cases x<;>first | rfl | (cases a)
theorem ZmS {xs:List SV} {ps:List PV} (s:Sm μ W S T) (r:Rds μ W S xs ps):Zmp xs S=Ze3 ps T:=by
 match ps,r with
 | [],r=>cases r.nil_; rfl
 | p::q::t,r=>obtain⟨x,y,rfl,a,b⟩:=r.cons_; obtain⟨x',y',rfl,a',b'⟩:=b.cons_; cases x<;>rfl
 | [p],r=>
  obtain⟨x,rfl,a⟩:=r.one
  simp only [Ze3]
  cases e:ZbL T p with
  | some zs=>
   obtain⟨n,ys,rfl,e1,e2⟩:=a.lst s e
   simp only [Zmp,e1,Ybr,Zid e2]
  | none=>
   cases a with
   | @node n o _ w eo ro=>cases ro<;>simp only [ZbL,Zbo]at e<;>first | (cases e; done) | simp only [Zmp,ZaJ,eo]<;>rfl
   | cell h=>
    obtain⟨n,o,q,e0,e1,e2,e3,e4,_⟩:=Rd.cellT s (Rd.cell h)
    cases e0
    cases e4<;>simp only [ZbL,Zbo,e2]at e<;>first | (cases e; done) | simp only [Zmp,ZaJ,e3]<;>rfl
   | _=>rfl
def Zc7:PF:=fun xs T=>match xs with
 | [x]=>(match (ZbL T x).bind ZeZ with
  | some zs=>if zs.length<64 then .ok (.lst ((ZfH zs).map .str)) T else .bad
  | _=> .bad)
 | _=> .bad
theorem SF.sortS_:SF Zdq Zc7:=SF.one (fun{μ W S T x p} s r=>by
 simp only [Zc7]
 split
 ·rename_i zs e
  simp only [YaF]at e
  obtain⟨ps,e1,e2⟩:=e
  obtain⟨n,xs,rfl,a,b⟩:=r.lst s e1
  simp only [Zdq,a,Ybr,Zk2 b e2]
  split
  ·obtain⟨y,s1,r1⟩:=s.tree (.lst (Rds.ofStrs (ZfH zs)))
   exact .okS y s1 r1
  ·trivial
 ·trivial) (fun ps T h=>by match ps with | []=>rfl | [p]=>exact(h p rfl).elim | _::_::_=>simp only [Zc7])
end
section
variable [Gh] {tb:Zap} {pt:ZdX}
abbrev PU3:=PV→PV→PV→Cs→ZaR Unit
def S3u (m:SV→SV→SV→M Unit) (f:PU3):Prop:=∀(μ:List Nat) (W:Nat→Prop) (S:Zaa) (T:Cs) (x y z:SV) (p q r:PV),Sm μ W S T→Rd μ W S x p→Rd μ W S y q→Rd μ W S z r→Ag μ W S (m x y z S) (f p q r T) RU
theorem S3u.lst:S3u Zdn ZcE:=fun _ _ _ _ _ _ _ _ _ _ s a b c=>Zfl s a b c
def ZmT:PU3:=fun x y v T=>match x with
 | .cell c=>(match T[c]?,ZnE y with
  | some (.dK kvs),some k=>if kvs.length<sizeLine then .ok () (T.set c (.dK (ZcH kvs k v)))else .bad
  | _,_=> .bad)
 | _=> .bad
theorem S3u.dict:S3u ZhO ZmT:=by
 intro μ W S T x y z p q r s ra rb rc
 cases p with
 | cell c=>
  obtain⟨n,rfl,hi⟩:=ra.cell_
  simp only [ZmT]
  split
  ·rename_i kvs k e1 e2
   obtain⟨o,f1,f2,f3⟩:=s.cell _ _ _ hi e1
   cases f2 with
   | dK a b=>
    have rk:RdK μ W S _ kvs:=⟨a,b⟩
    simp only [ZhO,f1,ZgY rb e2,rk.len]
    split
    ·have rp:=rk.put rc k
     obtain⟨x,s1⟩:=s.put hi (.dK rp.1 rp.2) rfl
     exact .okS (R:=RU) x s1 trivial
    ·trivial
  ·trivial
 | _=>trivial
def Zg0 (pt:ZdX):PU3:=fun x y v T=>match ZeX pt T x with
 | some f=>(f [x,y,v] T).bind fun _ T'=> .ok () T'
 | none=> .bad
theorem S3u.own (h:Za5 tb pt):S3u (ZdJ tb) (Zg0 pt):=by
 intro μ W S T x y z p q r s ra rb rc
 unfold ZdJ Zg0
 cases e:ZeX pt T p with
 | none=>trivial
 | some g=>
  obtain⟨f,e1,hf⟩:=(MP.own_eq h s ra).1 g e
  simp only [e1]
  exact(hf _ _ _ _ _ _ s (.cons ra (.cons rb (.cons rc .nil)))).bind fun _ _ _ _ _ _ _ s1 _=> .ok (R:=RU) s1 trivial
def ZmU (c:PV→Cs→Bool) (f g:PU3):PU3:=fun x y v T=>if c x T=true then f x y v T else g x y v T
theorem S3u.two {c:SV→Zaa→Bool} {c':PV→Cs→Bool} {f g:SV→SV→SV→M Unit} {f' g':PU3} (hc:∀{μ W S T x p},Sm μ W S T→Rd μ W S x p→c x S=c' p T) (h:S3u f f') (h':S3u g g'):S3u (ZoM c f g) (ZmU c' f' g'):=by
 intro μ W S T x y z p q r s ra rb rc
 unfold ZoM ZmU
 rw [hc s ra]
 split
 ·exact h _ _ _ _ _ _ _ _ _ _ s ra rb rc
 ·exact h' _ _ _ _ _ _ _ _ _ _ s ra rb rc
end
end MP
namespace MP
open PySem (Str PyData sizeLine)
structure Nb (d:Nat) (μ:List Nat) (W:Nat→Prop) (S:Zaa) (o:SO):Prop where
 at_:S[d]? =some o
 w:¬W d
 m:d∉μ
section
variable {d:Nat} {μ μ' μ0:List Nat} {W W' W0:Nat→Prop} {S S' S0:Zaa} {T:Cs} {o o':SO} {p:PV}
theorem Nb.lt (h:Nb d μ W S o):d<S.length:=(Yaj.mp h.at_).1
theorem Nb.step (h:Nb d μ W S o) (x:Stp μ W S μ' W' S'):Nb d μ' W' S' o:=by
 have hl:=h.lt
 refine⟨by rw [x.fr d hl h.m]; exact h.at_,fun z=> ?_,fun z=> ?_⟩
 ·rcases x.wn d z with z | z
  ·exact h.w z
  ·omega
 ·obtain⟨ν,e,l⟩:=x.pre
  rw [e]at z
  rcases YaH.mp z with z | z
  ·exact h.m z
  ·have:=l d z
   omega
theorem Nb.mono (h:Nb d μ W S o) (o':SO):(∀{v p},Rd μ W S v p→Rd μ W (S.set d o') v p)∧(∀{v p},Rds μ W S v p→Rds μ W (S.set d o') v p)∧(∀{v p},RdO μ W S v p→RdO μ W (S.set d o') v p):=Rd.mono_all (fun _ _ e=>e) (fun n o w e=>⟨w,by rw [Yao (fun z=>h.w (by rw [z]; exact w))]; exact e⟩)
theorem Nb.put (h:Nb d μ W S o) (s:Sm μ W S T) (o':SO):Sm μ W (S.set d o') T∧Nb d μ W (S.set d o') o':=by
 refine⟨⟨s.len,s.nd,fun i n p e e'=> ?_,s.dis,fun n w=>by rw [Yap]; exact s.lt n w⟩,⟨Yan h.lt,h.w,h.m⟩⟩
 obtain⟨o,e1,e2,e3⟩:=s.cell i n p e e'
 exact⟨o,by rw [Yao (fun z=>h.m (by rw [z]; exact YaT e))]; exact e1,(h.mono o').2.2 e2,e3⟩
theorem Nb.other {k:Nat} (h:Nb d μ W S o) (ne:k≠d) (o':SO):Nb d μ W (S.set k o') o:=⟨by rw [Yao ne]; exact h.at_,h.w,h.m⟩
theorem Sm.nobody (s:Sm μ W S T) (o:SO):Stp μ W S μ W (S++[o])∧Sm μ W (S++[o]) T∧Nb S.length μ W (S++[o]) o:=by
 have x1:Stp μ W S μ W (S++[o]):=⟨⟨[],by simp,fun _ h=>nomatch h⟩,fun n h=>h,fun n h=> .inl h,by simp,fun n h _=>Yai h⟩
 refine⟨x1,⟨s.len,s.nd,fun i n p e e'=> ?_,s.dis,fun n h=>by have:=s.lt n h; rw [Yak]; omega⟩,⟨by simp,fun z=>by have:=s.lt _ z; omega,fun z=>by have:=s.mlt _ z; omega⟩⟩
 obtain⟨o,e1,e2,e3⟩:=s.cell i n p e e'
 exact⟨o,by rw [Yai (Yaj.mp e1).1]; exact e1,e2.step s x1,e3⟩
theorem Stp.setNew (x:Stp μ0 W0 S0 μ W S) (h:S0.length≤d) (o:SO):Stp μ0 W0 S0 μ W (S.set d o):=⟨x.pre,x.wk,x.wn,by rw [Yap]; exact x.len,fun n h1 h2=>by rw [Yao (by omega)]; exact x.fr n h1 h2⟩
theorem Nb.tree (h:Nb d μ W S o) (s:Sm μ W S T) (x:Stp μ0 W0 S0 μ W S) (hd:S0.length≤d) (r:RdO μ W S o p):Stp μ0 W0 S0 μ (fun n=>W n∨n=d) S∧Sm μ (fun n=>W n∨n=d) S T∧Rd μ (fun n=>W n∨n=d) S (.ref d) p:=by
 have hl:=h.lt
 have mo:=Rd.mono_all (μ:=μ) (μ':=μ) (W:=W) (W':=fun n=>W n∨n=d) (S:=S) (S':=S) (fun _ _ e=>e) (fun n o w e=>⟨.inl w,e⟩)
 refine⟨⟨x.pre,fun n h=> .inl (x.wk n h),fun n h=> ?_,x.len,x.fr⟩,⟨s.len,s.nd,fun i n p e e'=> ?_,fun n h' z=> ?_,fun n h=> ?_⟩, .node (.inr rfl) h.at_ (mo.2.2 r)⟩
 ·rcases h with h | h
  ·exact x.wn n h
  ·exact .inr (by omega)
 ·obtain⟨o,e1,e2,e3⟩:=s.cell i n p e e'
  exact⟨o,e1,mo.2.2 e2,e3⟩
 ·rcases h' with h' | h'
  ·exact s.dis n h' z
  ·subst h'; exact h.m z
 ·rcases h with h | h
  ·exact s.lt n h
  ·subst h; exact hl
theorem Nb.cell (h:Nb d μ W S o) (s:Sm μ W S T) (x:Stp μ0 W0 S0 μ W S) (hd:S0.length≤d) (r:RdO μ W S o p) (hf:o.isFrz=false):Stp μ0 W0 S0 (μ++[d]) W S∧Sm (μ++[d]) W S (T++[p])∧Rd (μ++[d]) W S (.ref d) (.cell T.length):=by
 have mo:=Rd.mono_all (μ:=μ) (μ':=μ++[d]) (W:=W) (W':=W) (S:=S) (S':=S) (fun i n e=>by rw [Yai (Yaj.mp e).1]; exact e) (fun n o w e=>⟨w,e⟩)
 refine⟨⟨?_,x.wk,x.wn,x.len,x.fr⟩,⟨by simp [s.len], ?_,fun i n q e e'=> ?_,fun n h' z=> ?_,s.lt⟩,(.cell (by rw [←s.len]; simp))⟩
 ·obtain⟨ν,e1,l1⟩:=x.pre
  exact⟨ν++[d],by rw [e1,List.append_assoc],fun n h=>by
   rcases YaH.mp h with h | h
   ·exact l1 n h
   ·simp at h; omega⟩
 ·rw [Ybn]
  exact⟨s.nd,by simp,fun a ha b hb z=>by simp at hb; subst hb; subst z; exact h.m ha⟩
 ·by_cases hi:i<μ.length
  ·rw [Yai hi]at e
   rw [Yai (by rw [←s.len]; exact hi)]at e'
   obtain⟨o',e1,e2,e3⟩:=s.cell i n q e e'
   exact⟨o',e1,mo.2.2 e2,e3⟩
  ·have hl':=(Yaj.mp e).1
   have:i=μ.length:=by simp at hl'; omega
   subst this
   have e':(T++[p])[T.length]? =some q:=by rw [←s.len]; exact e'
   simp at e e'
   subst e; subst e'
   exact⟨_,h.at_,mo.2.2 r,hf⟩
 ·rcases YaH.mp z with z | z
  ·exact s.dis n h' z
  ·simp at z; subst z; exact h.w h'
theorem Rd.own (r:Rd μ W S (.ref d) p):W d∨d∈μ:=by
 cases r with
 | node w e o=>exact .inl w
 | cell h=>exact .inr (YaT h)
theorem Ag.bindB {α β γ δ:Type} {R:ZeU α β} {R2:ZeU γ δ} {r:Res α} {q:ZaR β} {f:α→Zaa→Res γ} {g:β→Cs→ZaR δ} (b:Stp μ0 W0 S0 μ W S) (h:Ag μ W S r q R)
  (k:∀μ' W' S' T' v p,Stp μ W S μ' W' S'→Sm μ' W' S' T'→R μ' W' S' v p→Ag μ0 W0 S0 (f v S') (g p T') R2):Ag μ0 W0 S0 (r.bind f) (q.bind g) R2:=by
 cases q with
 | ok p T'=>obtain⟨v,S1,μ1,W1,rfl,y,s,z⟩:=h; exact k _ _ _ _ _ _ y s z
 | exc p T'=>obtain⟨v,S1,μ1,W1,rfl,y,s,z⟩:=h; exact⟨v,S1,μ1,W1,rfl,b.trans y,s,z⟩
 | bad=>trivial
end
variable [Gh]
def RFr (L:Nat):ZeU SV (List (Key × PV)):=fun μ W S v kvs=>∃d qs,v= .ref d∧L≤d∧Nb d μ W S (.dK qs)∧RdK μ W S qs kvs
abbrev PFr:=PEn→Cs→ZaR (List (Key × PV))
def SFr (m:EM) (f:PFr):Prop:=∀(μ:List Nat) (W:Nat→Prop) (S:Zaa) (T:Cs) (env:En) (pe:PEn),Sm μ W S T→RdE μ W S env pe→Ag μ W S (m env S) (f pe T) (RFr S.length)
def pDk (f:PFr):PE:=fun env T=>(f env T).bind fun kvs T1=> .ok (.dK kvs) T1
section
variable {m:EM} {f:PFr}
theorem SE.dk (h:SFr m f):SE m (pDk f):=by
 intro μ W S T env pe s n
 have z:=h μ W S T env pe s n
 unfold pDk
 cases e:f pe T with
 | ok kvs T1=>
  rw [e]at z
  obtain⟨v,S1,μ1,W1,e1,x,s1,d,qs,rfl,hd,nb,a,b⟩:=z
  rw [e1]
  obtain⟨x3,s3,r3⟩:=nb.tree s1 x hd (.dK a b)
  exact .okS x3 s3 r3
 | exc y T1=>rw [e]at z; exact z
 | bad=>trivial
end
def Ze4:Key→PV
 | .inl i=> .int i
 | .inr z=> .str z
theorem ZcR {μ:List Nat} {W:Nat→Prop} {S:Zaa} (k:Key):Rd μ W S (ZeO k) (Ze4 k):=by cases k<;>constructor
def jk (q:Key × PV):PV:=Ze4 q.1
def jv (q:Key × PV):PV:=q.2
def ji (q:Key × PV):PV:= .tup [Ze4 q.1,q.2]
def ZmV (J:Key × PV→PV) (e:PE):PI:=fun env T=>(e env T).bind fun v T1=>match v with
 | .dF kvs=> .ok (none,kvs.map J) T1
 | .cell c=>(match T1[c]? with
  | some (.dF kvs)=> .ok (some (c, .dF kvs),kvs.map J) T1
  | _=> .bad)
 | _=> .bad
structure Itm (I:Nat→IT) (J:Key × PV→PV):Prop where
 ex:∃J':Key × SV→SV,(∀(m i:Nat) (S:Zaa) (kvs:List (Key × SV)),S[m]? =some (.dF kvs)→I m i S=some (kvs[i]?.map J'))∧∀(μ:List Nat) (W:Nat→Prop) (S:Zaa) (k:Key) (x:SV) (q:PV),Rd μ W S x q→Rd μ W S (J' (k,x)) (J (k,q))
theorem Itm.k:Itm Zgs jk:=⟨fun p=>ZeO p.1,fun m i S kvs h=>by simp only [Zgs,h],fun _ _ _ k _ _ _=>ZcR k⟩
theorem Itm.v:Itm Zmo jv:=⟨fun p=>p.2,fun m i S kvs h=>by simp only [Zmo,h],fun _ _ _ k _ _ r=>r⟩
theorem Itm.i:Itm ZoO ji:=⟨fun p=> .tup [ZeO p.1,p.2],fun m i S kvs h=>by simp only [ZoO,h],fun _ _ _ k _ _ r=> .tup (.cons (ZcR k) (.cons r .nil))⟩
theorem RdK.nth {μ:List Nat} {W:Nat→Prop} {S:Zaa} {kvs:List (Key × SV)} {qs:List (Key × PV)} (r:RdK μ W S kvs qs) (i:Nat):(qs[i]? =none→kvs[i]? =none)∧∀q,qs[i]? =some q→∃x,kvs[i]? =some (q.1,x)∧Rd μ W S x q.2:=by
 refine⟨fun h=> ?_,fun q h=> ?_⟩
 ·rw [Yay]at h⊢
  rw [r.len]; exact h
 ·have h1:(qs.map Prod.snd)[i]? =some q.2:=by rw [YaB,h]; rfl
  obtain⟨x,a,b⟩:=r.2.at h1
  rw [YaB,YaI]at a
  obtain⟨y,a1,a2⟩:=a
  have h2:=congrArg (fun l=>l[i]?) r.1
  simp only [YaB,a1,h,Ybq,Option.some.injEq]at h2
  exact⟨x,by rw [a1,←a2,←h2],b⟩
theorem ZiZ {I:Nat→IT} {J:Key × PV→PV} (h:Itm I J) {μ:List Nat} {W:Nat→Prop} {S:Zaa} {m i:Nat} {kvs:List (Key × SV)} {qs:List (Key × PV)} (e:S[m]? =some (.dF kvs)) (r:RdK μ W S kvs qs):((qs.map J)[i]? =none→I m i S=some none)∧∀q,(qs.map J)[i]? =some q→∃x,I m i S=some (some x)∧Rd μ W S x q:=by
 obtain⟨J',h1,h2⟩:=h.ex
 rw [h1 m i S kvs e,YaB]
 refine⟨fun z=> ?_,fun q z=> ?_⟩
 ·rw [(r.nth i).1 (by simpa using z)]; rfl
 ·obtain⟨q0,a,rfl⟩:=YaI.mp z
  obtain⟨x,b,c⟩:=(r.nth i).2 q0 a
  exact⟨_,by rw [b]; rfl,h2 _ _ _ _ _ _ c⟩
theorem SI.dict {I:Nat→IT} {J:Key × PV→PV} (hI:Itm I J) {m:EM} {e:PE} (h:SE m e):SI (Zdg I m) (ZmV J e):=by
 intro μ W S T env pe s n
 refine(h μ W S T env pe s n).bind fun μ1 W1 S1 T1 v p x s1 r1=> ?_
 cases p with
 | dF kvs=>
  cases r1 with
  | @node k o _ w eo ro=>
   cases ro with
   | @dF qs _ a b=>
    simp only [eo]
    have rk:RdK μ1 W1 S1 qs kvs:=⟨a,b⟩
    refine .ok s1 ⟨by simp [rk.len],fun μ' W' S' T' y s2 _ i=> ?_⟩
    have e2:S'[k]? =some (.dF qs):=by rw [y.fr k (s1.lt k w) (s1.dis k w)]; exact eo
    exact ZiZ hI e2 ⟨a,b.step s1 y⟩
 | cell c=>
  obtain⟨k,rfl,hc⟩:=r1.cell_
  simp only
  cases ec:T1[c]? with
  | none=>trivial
  | some q0=>
   obtain⟨o,f1,f2,f3⟩:=s1.cell _ _ _ hc ec
   cases f2 with
   | @dF qs kvs a b=>
    simp only [f1]
    have rk:RdK μ1 W1 S1 qs kvs:=⟨a,b⟩
    refine .ok s1 ⟨by simp [rk.len],fun μ' W' S' T' y s2 o i=> ?_⟩
    obtain⟨ν,e1,l1⟩:=y.pre
    have hc':μ'[c]? =some k:=by rw [e1,Yai (Yaj.mp hc).1]; exact hc
    obtain⟨o',g1,g2,g3⟩:=s2.cell _ _ _ hc' o
    cases g2 with
    | dF a' b'=> 
     have z:=ZiZ (i:=i) hI g1 ⟨a',b'⟩
     exact z
   | _=>trivial
 | _=>trivial
end MP
namespace MP
open PySem (Str PyData sizeLine)
section
variable {μ:List Nat} {W:Nat→Prop} {S:Zaa} {T:Cs}
end
theorem Zk7 {k j:Nat} (h:k≤j):(∀p,wf k p=true→wf j p=true)∧(∀ps,wfs k ps=true→wfs j ps=true):=by
 have main:∀p,wf k p=true→wf j p=true:=by
  intro p
  refine PV.rec (motive_1:=fun p=>wf k p=true→wf j p=true) (motive_2:=fun ps=>wfs k ps=true→wfs j ps=true) (motive_3:=fun ps=>wfk k ps=true→wfk j ps=true) (motive_4:=fun ps=>wft k ps=true→wft j ps=true) (motive_5:=fun ps=>wff k ps=true→wff j ps=true) (motive_6:=fun p=>wf k p.2=true→wf j p.2=true) (motive_7:=fun p=>wf k p.2=true→wf j p.2=true) (motive_8:=fun p=>wf k p.2=true→wf j p.2=true)
   (fun h=>rfl) (fun _ h=>rfl) (fun _ h=>rfl) (fun _ h=>rfl) (fun _ ih h=>ih h) (fun _ ih h=>ih h) (fun _ ih h=>ih h) (fun _ ih h=>ih h) (fun _ ih h=>ih h) (fun _ ih h=>ih h) (fun _ ih h=>ih h) (fun _ _ ih h=>ih h) (fun _ h=>rfl) (fun _ h=>rfl) (fun _ h=>rfl) (fun i h'=>by simp only [wf,decide_eq_true_eq]at h'⊢; omega)
   (fun _=>rfl) (fun a b ia ib h=>by simp only [wfs,YaK]at h⊢; exact⟨ia h.1,ib h.2⟩)
   (fun _=>rfl) (fun a b ia ib h=>by simp only [wfk,YaK]at h⊢; exact⟨ia h.1,ib h.2⟩)
   (fun _=>rfl) (fun a b ia ib h=>by simp only [wft,YaK]at h⊢; exact⟨ia h.1,ib h.2⟩)
   (fun _=>rfl) (fun a b ia ib h=>by simp only [wff,YaK]at h⊢; exact⟨ia h.1,ib h.2⟩)
   (fun _ _ ih h=>ih h) (fun _ _ ih h=>ih h) (fun _ _ ih h=>ih h) p
 refine⟨main,fun ps h=> ?_⟩
 rw [Zcu]at h⊢
 exact YaL.mpr fun p hp=>main p (YaL.mp h p hp)
theorem Zk8 {k:Nat} {xs ys:List PV}:wfs k (xs++ys)=(wfs k xs&&wfs k ys):=by simp only [Zcu,List.all_append]
theorem Zk9 {k i:Nat} {xs:List PV} {p:PV} (h:wfs k xs=true) (hp:wf k p=true):wfs k (xs.set i p)=true:=by
 rw [Zcu]at h⊢
 refine YaL.mpr fun q hq=> ?_
 rcases List.mem_or_eq_of_mem_set hq with h1 | h1
 ·exact YaL.mp h q h1
 ·rw [h1]; exact hp
def Cl (T:Cs):Prop:=wfs T.length T=true
theorem Cl.set {T:Cs} {i:Nat} {p:PV} (h:Cl T) (hp:wf T.length p=true):Cl (T.set i p):=by
 unfold Cl
 rw [Yap]
 exact Zk9 h hp
theorem Cl.app {T:Cs} {ps:List PV} (h:Cl T) (hp:wfs (T.length+ps.length) ps=true):Cl (T++ps):=by
 unfold Cl
 rw [Yak,Zk8,(Zk7 (Nat.le_add_right _ _)).2 _ h,hp]
 rfl
theorem Cl.take {T:Cs} {ps:List PV} (h:Cl T):wfs T.length ((T++ps).take T.length)=true:=by rw [List.take_left]; exact h
theorem ZfQ {T ps:Cs} {v u:PV} (h:Cl T) (hv:ZkX T.length (T++ps) v=some u) (hu:wf T.length u=true) (hn:v=u∨ps≠ []):Zb2 T.length (.ok v (T++ps))= .ok u T:=by
 unfold Zb2
 by_cases hp:ps=[]
 ·subst hp
  rcases hn with rfl | hn
  ·simp
  ·exact(hn rfl).elim
 ·have hl:¬(T++ps).length=T.length:=fun e=>hp (by simpa using e)
  simp only [if_neg hl,hv,List.take_left,show wfs T.length T=true from h,hu,Ybu,if_true]
end MP
namespace MP
open PySem (Str PyData sizeLine)
section
variable {μ:List Nat} {W:Nat→Prop} {S:Zaa} {T:Cs} {v:SV} {p:PV}
end
end MP
namespace MP
open PySem (Str PyData sizeLine)
section
variable {μ:List Nat} {W:Nat→Prop} {S:Zaa} {T:Cs} {v:SV} {p:PV}
theorem RdK.merge:∀{more:List (Key × SV)} {mp:List (Key × PV)} {kvs:List (Key × SV)} {qs:List (Key × PV)},RdK μ W S more mp→RdK μ W S kvs qs→RdK μ W S (Zbv kvs more) (Zbv qs mp)
 | [],mp,kvs,qs,r,q=>by
  cases mp with
  | nil=>exact q
  | cons a b=>exact absurd r.1 (by simp)
 | x::more,mp,kvs,qs,r,q=>by
  cases mp with
  | nil=>exact absurd r.1 (by simp)
  | cons y mp=>
   have e:=r.1
   simp only [Ya0,List.cons.injEq]at e
   have r2:=r.2
   simp only [Ya0]at r2
   cases r2 with
   | cons a b=>
    have:=RdK.merge (more:=more) (mp:=mp) ⟨e.2,b⟩ (q.put a x.1)
    have e3:Zbv (ZcH qs x.1 y.2) mp=Zbv qs (y::mp):=by rw [e.1]; rfl
    rw [e3]at this
    exact this
def Zc8:List PV→Option (List (Key × PV))
 | []=>some []
 | k::v::r=>(match ZnE k,Zc8 r with
  | some kk,some l=>some ((kk,v)::l)
  | _,_=>none)
 | [_]=>none
theorem ZeB:∀{ps:List PV} {xs:List SV} {qs:List (Key × PV)},Rds μ W S xs ps→Zc8 ps=some qs→∃kvs,Zdr xs=some kvs∧RdK μ W S kvs qs∧kvs.length=qs.length
 | [],xs,_,r,e=>by cases e; cases r; exact⟨[],rfl,⟨rfl, .nil⟩,rfl⟩
 | [_],_,_,_,e=>nomatch e
 | p::q::ps,xs,qs,r,e=>by
  obtain⟨x,xs',rfl,a,b⟩:=r.cons_
  obtain⟨y,xs2,rfl,a2,b2⟩:=b.cons_
  simp only [Zc8]at e
  split at e
  ·rename_i kk l e1 e2
   cases e
   obtain⟨kvs,e3,e4,e5⟩:=ZeB b2 e2
   refine⟨(kk,y)::kvs,by simp only [Zdr,ZgY a e1,e3],⟨by simp [e4.1],by simp only [Ya0]; exact .cons a2 e4.2⟩,by simp [e5]⟩
  ·cases e
end
variable [Gh]
def pDs (pa:PA):PFr:=fun env T=>(pa env T).bind fun ps T1=>match Zc8 ps with
 | some kvs=>if kvs.length≤15 then .ok (Zbv [] kvs) T1 else .bad
 | none=> .bad
theorem SFr.ds {m:AM} {a:PA} (h:SA m a):SFr (eDs m) (pDs a):=by
 intro μ W S T env pe s n
 obtain⟨x0,s0,nb0⟩:=s.nobody (.dK [])
 refine Ag.bindB x0 (h _ _ _ _ _ _ s0 (n.step s x0)) fun μ1 W1 S1 T1 xs ps x1 s1 r1=> ?_
 cases e:Zc8 ps with
 | none=>trivial
 | some qs=>
  obtain⟨kvs,e1,e2,e3⟩:=ZeB r1 e
  have nb1:=nb0.step x1
  simp only [nb1.at_,e1,e3]
  by_cases c:qs.length≤15
  ·rw [if_pos c,if_pos c]
   have rk:=RdK.merge e2 (show RdK μ1 W1 S1 [] []from ⟨rfl, .nil⟩)
   obtain⟨s2,nb2⟩:=nb1.put s1 (.dK (Zbv [] kvs))
   refine .okS ((x0.trans x1).setNew (Yab S.length) _) s2 ⟨S.length,_,rfl,Yab _,nb2,rk.1,(nb1.mono _).2.1 rk.2⟩
  ·rw [if_neg c,if_neg c]; trivial
end MP
namespace MP
open PySem (Str PyData sizeLine)
end MP
namespace MP
open PySem (Str PyData sizeLine)
variable [Gh]
def lsq (v:PV) (T:Cs):Option (Option (Nat × PV) × List PV):=match v with
 | .lst xs=>some (none,xs)
 | .frz xs=>some (none,xs)
 | .cell c=>(match T[c]? with
  | some (.lst xs)=>some (some (c, .lst xs),xs)
  | _=>none)
 | _=>none
theorem Zi0 {μ1:List Nat} {W1:Nat→Prop} {S1:Zaa} {T1:Cs} {v:SV} {p:PV} {w:Option (Nat × PV)} {ps:List PV} (s1:Sm μ1 W1 S1 T1) (r1:Rd μ1 W1 S1 v p) (e:lsq p T1=some (w,ps)):
    ∃m xs,v= .ref m∧ZaJ S1 m=some xs∧xs.length=ps.length∧IwR μ1 W1 S1 (ps.length+1,itL m) (w,ps):=by
  unfold lsq at e
  cases p with
  | lst qs=>
    cases e
    cases r1 with
    | @node n1 o _ w e r=>
      have hl:∀{S':Zaa} {o'},S'[n1]? =some o'→o'=o→∃xs,ZaJ S' n1=some xs∧Rds μ1 W1 S1 xs ps:=fun a b=>by
        subst b
        cases r with
        | lst k=>exact⟨_,Zbq (.inl a),k⟩
      obtain⟨xs,a,b⟩:=hl e rfl
      refine⟨n1,xs,rfl,a,b.len,rfl,fun μ' W' S' T' y s2 _ i=> ?_⟩
      have e2:S'[n1]? =some o:=by rw [y.fr n1 (s1.lt n1 w) (s1.dis n1 w)]; exact e
      obtain⟨xs',a',b'⟩:=hl e2 rfl
      have b2:=b'.step s1 y
      refine⟨fun z=> ?_,fun q z=> ?_⟩
      · have:xs'[i]? =none:=by
          rw [Yay]at z⊢
          rw [b2.len]; exact z
        simp [itL,a',this]
      · obtain⟨w,a3,b3⟩:=b2.at z
        exact⟨w,by simp [itL,a',a3],b3⟩
  | frz qs=>
    cases e
    cases r1 with
    | @node n1 o _ w e r=>
      have hl:∀{S':Zaa} {o'},S'[n1]? =some o'→o'=o→∃xs,ZaJ S' n1=some xs∧Rds μ1 W1 S1 xs ps:=fun a b=>by
        subst b
        cases r with
        | frz k=>exact⟨_,Zbq (.inr a),k⟩
      obtain⟨xs,a,b⟩:=hl e rfl
      refine⟨n1,xs,rfl,a,b.len,rfl,fun μ' W' S' T' y s2 _ i=> ?_⟩
      have e2:S'[n1]? =some o:=by rw [y.fr n1 (s1.lt n1 w) (s1.dis n1 w)]; exact e
      obtain⟨xs',a',b'⟩:=hl e2 rfl
      have b2:=b'.step s1 y
      refine⟨fun z=> ?_,fun q z=> ?_⟩
      · have:xs'[i]? =none:=by
          rw [Yay]at z⊢
          rw [b2.len]; exact z
        simp [itL,a',this]
      · obtain⟨w,a3,b3⟩:=b2.at z
        exact⟨w,by simp [itL,a',a3],b3⟩
  | cell c=>
    obtain⟨n1,rfl,hc⟩:=r1.cell_
    simp only at e
    cases hp:T1[c]? with
    | none=>rw [hp]at e; cases e
    | some q0=>
     rw [hp]at e
     cases q0 with
     | lst qs=>
      cases e
      obtain⟨n2,xs,e2,a,b⟩:=Rd.lst (ps:=ps) s1 (Rd.cell hc) (by simp only [ZbL,Zbo,hp])
      cases e2
      refine⟨n1,xs,rfl,a,b.len,rfl,fun μ' W' S' T' y s2 o i=> ?_⟩
      obtain⟨ν,e1,l1⟩:=y.pre
      have hc':μ'[c]? =some n1:=by rw [e1,Yai (Yaj.mp hc).1]; exact hc
      have o':ZbL T' (.cell c)=some ps:=by
        have o2:T'[c]? =some (.lst ps):=o
        simp only [ZbL,Zbo,o2]
      obtain⟨n3,xs',e3,a',b'⟩:=Rd.lst s2 (Rd.cell hc') o'
      cases e3
      refine⟨fun z=> ?_,fun q z=> ?_⟩
      · have:xs'[i]? =none:=by
          rw [Yay]at z⊢
          rw [b'.len]; exact z
        simp [itL,a',this]
      · obtain⟨w,a3,b3⟩:=b'.at z
        exact⟨w,by simp [itL,a',a3],b3⟩
     | _=>cases e
  | _=>cases e
def Zla (xs ys:List PV):List PV:=(xs.zip ys).map fun p=> .tup [p.1,p.2]
def Zpg (a b:PE):PI:=fun env T=>(a env T).bind fun u T1=>(b env T1).bind fun v T2=>match lsq u T2,lsq v T2 with
 | some (none,xs),some (w,ys)=> .ok (w,Zla xs ys) T2
 | some (w,xs),some (none,ys)=> .ok (w,Zla xs ys) T2
 | _,_=> .bad
theorem Zie (xs ys:List PV):(Zla xs ys).length=min xs.length ys.length:=by simp [Zla]
theorem Zg1 {μ:List Nat} {W:Nat→Prop} {S:Zaa} {I J:IT} {xs ys:List PV} {w w1 w2:Option (Nat × PV)} (h1:IwR μ W S (xs.length+1,I) (w1,xs)) (h2:IwR μ W S (ys.length+1,J) (w2,ys)) (a1:∀T,okW w xs T→okW w1 xs T) (a2:∀T,okW w xs T→okW w2 ys T):
  IwR μ W S (min xs.length ys.length+1,itZ I J) (w,Zla xs ys):=by
 have hw:∀T ps,okW w ps T→okW w xs T:=fun T ps h=>by cases w<;>exact h
 refine⟨by rw [Zie],fun μ' W' S' T' y s o i=> ?_⟩
 obtain⟨b1,c1⟩:=h1.it y s (a1 _ (hw _ _ o)) i
 obtain⟨b2,c2⟩:=h2.it y s (a2 _ (hw _ _ o)) i
 have hz:(Zla xs ys)[i]? =(match xs[i]?,ys[i]? with | some x,some y=>some (.tup [x,y]) | _,_=>none):=by
  unfold Zla
  rw [YaB,List.zip,List.getElem?_zipWith]
  cases xs[i]? <;>cases ys[i]? <;>rfl
 rw [hz]
 cases hx:xs[i]? with
 | none=>
  refine⟨fun _=> ?_,fun r e=>nomatch e⟩
  simp only [itZ]
  rw [b1 hx]
  cases hy:ys[i]? with
  | none=>rw [b2 hy]
  | some y=>obtain⟨z,e,_⟩:=c2 _ hy; rw [e]
 | some x=>
  obtain⟨x',e1,r1⟩:=c1 _ hx
  cases hy:ys[i]? with
  | none=>
   refine⟨fun _=> ?_,fun r e=>nomatch e⟩
   simp only [itZ]
   rw [b2 hy,e1]
  | some y=>
   obtain⟨y',e2,r2⟩:=c2 _ hy
   refine⟨fun e=>(nomatch e),fun r e=> ?_⟩
   cases e
   exact⟨_,by simp only [itZ]; rw [e1,e2], .tup (.cons r1 (.cons r2 .nil))⟩
theorem SI.zip {m m':EM} {e e':PE} (h:SE m e) (h':SE m' e'):SI (Zn9 m m') (Zpg e e'):=by
 intro μ W S T env pe s n
 refine(h μ W S T env pe s n).bind fun μ1 W1 S1 T1 v p x s1 r1=> ?_
 refine(h' _ _ _ _ env pe s1 (n.step s x)).bind fun μ2 W2 S2 T2 v2 p2 x2 s2 r2=> ?_
 have r1':=r1.step s1 x2
 cases q:lsq p T2 with
 | none=>trivial
 | some u=>
  cases q':lsq p2 T2 with
  | none=>obtain⟨w,xs⟩:=u; cases w<;>trivial
  | some u'=>
   obtain⟨w,xs⟩:=u
   obtain⟨w',ys⟩:=u'
   obtain⟨m1,zs,rfl,a1,l1,i1⟩:=Zi0 s2 r1' q
   obtain⟨m2,zs2,rfl,a2,l2,i2⟩:=Zi0 s2 r2 q'
   simp only [a1,a2,l1,l2]
   cases w with
   | none=>exact .ok s2 (Zg1 i1 i2 (fun _ _=>trivial) (fun T h=>by cases w'<;>exact h))
   | some w=>
    cases w' with
    | none=>exact .ok s2 (Zg1 i1 i2 (fun _ h=>h) (fun T h=>trivial))
    | some w'=>trivial
abbrev ZmW:=List (String × (List PV→PF))
def Zg2 (tb:Zmr) (pt:ZmW):Prop:=∀c:String,∀g,pt.lookup c=some g→∃f,tb.lookup c=some f∧SF2 f g
theorem Zg2.nil:Zg2 [] []:=fun _ _ h=>nomatch h
theorem Zg2.cons {c:String} {f:List SV→List SV→M SV} {g:List PV→PF} {tb:Zmr} {pt:ZmW} (h:SF2 f g) (t:Zg2 tb pt):Zg2 ((c,f)::tb) ((c,g)::pt):=by
 intro d g' e
 rw [Yax]at e⊢
 cases hd:d==c with
 | true=>rw [hd]at e; cases e; exact⟨f,rfl,h⟩
 | false=>rw [hd]at e; exact t d g' e
end MP
open MP.SA renaming cons → Yb2, nil → Yca
open MP.SE renaming var → Yb4, int → Yb6, e2 → Ycb, F → YcJ, e1 → YcO, tup → YcY, non → YcZ, lst → Ydd
open MP.SS renaming seq → Ycf, ret → Yco, asg → Ycw, ite → YcL, nop → YcM
open MP.SG renaming var → Ycl
open MP.S2 renaming ix → Ycx, orL → YcD, ownC → YcE, mul → Ydc
open MP.SF renaming run → YcG, isa → Yde
open MP.S1 renaming fld → YcN
open MP.ST renaming not → Yc5
namespace MPL
open PySem MP
def ZaY:PF:=fun xs=>if xs.length=2 then Zbx 5 (Za3 (ZbB (pC (.int 0)) (ZaU 2)) (Za3 (ZbX (qB (p2 (ltP) (Zae 1) (pF (Zf0) (Zab (Zae 0) (Zaq))))) (ZbB (p2 (ixP) (Zae 0) (Zae 1)) (ZaU 2)) (Zb0)) (Za3 (ZbB (pF (ZgQ) (Zab (Zae 2) (Zab (p2 (ZiV) (p1 (Zho) (pC (.int 1))) (Zae 2)) (Zaq)))) (ZaU 3)) (Za3 (ZbB (p2 (ZfY) (p2 (Zhn) (p2 (ZeJ) (p2 (ZeJ) (p2 (ZeJ) (p2 (ZfY) (Zae 3) (pC (.int 2147483629))) (p2 (Zhn) (p2 (Zhn) (pC (.int 7919)) (Zae 1)) (Zae 1))) (p2 (Zhn) (pC (.int 31)) (Zae 1))) (pC (.int 17))) (pC (.int 48271))) (pC (.int 2147483647))) (ZaU 4)) (Zbe (ZfO (Zab (p2 (Zhn) (Zae 3) (pF (Zh4) (Zab (p2 (geP) (Zae 3) (p2 (ZgP) (pC (.int 10)) (pC (.int 18)))) (Zaq)))) (Zab (Zae 4) (Zaq))))))))) xs else Zby
theorem Zd3:SF Za4 ZaY:=by unfold Za4 ZaY; exact SF.runK (Ycf (Ycw (Yb6 _) (Ycl _)) (Ycf (YcL (ST.B (Ycb (S2.lt) (Yb4 _) (YcJ (SF.len) (Yb2 (Yb4 _) (Yca))))) (Ycw (Ycb (Ycx) (Yb4 _) (Yb4 _)) (Ycl _)) (YcM)) (Ycf (Ycw (YcJ (SF.max) (Yb2 (Yb4 _) (Yb2 (Ycb (S2.sub) (YcO (S1.neg) (Yb6 _)) (Yb4 _)) (Yca)))) (Ycl _)) (Ycf (Ycw (Ycb (S2.mod) (Ycb (Ydc) (Ycb (S2.add) (Ycb (S2.add) (Ycb (S2.add) (Ycb (S2.mod) (Yb4 _) (Yb6 _)) (Ycb (Ydc) (Ycb (Ydc) (Yb6 _) (Yb4 _)) (Yb4 _))) (Ycb (Ydc) (Yb6 _) (Yb4 _))) (Yb6 _)) (Yb6 _)) (Yb6 _)) (Ycl _)) (Yco (SE.lstC (Yb2 (Ycb (Ydc) (Yb4 _) (YcJ (SF.int) (Yb2 (Ycb (S2.ge) (Yb4 _) (Ycb (S2.pow) (Yb6 _) (Yb6 _))) (Yca)))) (Yb2 (Yb4 _) (Yca)))))))))
def Zav:PF:=fun xs=>if xs.length=2 then Zdt 3 (Za3 (ZbX (qB (p2 (gtP) (p2 (ixP) (Zae 0) (pC (.int 0))) (pC (.int 0)))) (Za3 (ZbB (p2 (ZfY) (p2 (ixP) (Zae 0) (pC (.int 0))) (Zae 1)) (ZaU 2)) (Za3 (ZbB (p2 (ZmH) (p2 (ixP) (Zae 0) (pC (.int 0))) (Zae 1)) (kIx (Zae 0) (pC (.int 0)))) (Zbe (Zae 2)))) (Zb0)) (Za3 (ZbB (p2 (ZfY) (p2 (ZeJ) (p2 (Zhn) (p2 (ixP) (Zae 0) (pC (.int 1))) (pC (.int 39373))) (pC (.int 7))) (pC (.int 2147483647))) (kIx (Zae 0) (pC (.int 1)))) (Zbe (p2 (ZfY) (p2 (ZmH) (p2 (ZfY) (p2 (Zhn) (p2 (ixP) (Zae 0) (pC (.int 1))) (p2 (ixP) (Zae 0) (pC (.int 1)))) (pC (.int 2147483629))) (pC (.int 32))) (Zae 1))))) xs else Zby
theorem Zbn:SF ZaA Zav:=by unfold ZaA Zav; exact YcG (Ycf (YcL (ST.B (Ycb (S2.gt) (Ycb (Ycx) (Yb4 _) (Yb6 _)) (Yb6 _))) (Ycf (Ycw (Ycb (S2.mod) (Ycb (Ycx) (Yb4 _) (Yb6 _)) (Yb4 _)) (Ycl _)) (Ycf (Ycw (Ycb (S2.div) (Ycb (Ycx) (Yb4 _) (Yb6 _)) (Yb4 _)) (SG.ix (Yb4 _) (Yb6 _))) (Yco (Yb4 _)))) (YcM)) (Ycf (Ycw (Ycb (S2.mod) (Ycb (S2.add) (Ycb (Ydc) (Ycb (Ycx) (Yb4 _) (Yb6 _)) (Yb6 _)) (Yb6 _)) (Yb6 _)) (SG.ix (Yb4 _) (Yb6 _))) (Yco (Ycb (S2.mod) (Ycb (S2.div) (Ycb (S2.mod) (Ycb (Ydc) (Ycb (Ycx) (Yb4 _) (Yb6 _)) (Ycb (Ycx) (Yb4 _) (Yb6 _))) (Yb6 _)) (Yb6 _)) (Yb4 _)))))
def ZaM:PF:=fun xs=>if xs.length=2 then Zdt 2 (Zbe (p2 (ixP) (Zae 1) (pF (Zav) (Zab (Zae 0) (Zab (pF (Zf0) (Zab (Zae 1) (Zaq))) (Zaq)))))) xs else Zby
theorem ZbG:SF ZaL ZaM:=by unfold ZaL ZaM; exact YcG (Yco (Ycb (Ycx) (Yb4 _) (YcJ (Zbn) (Yb2 (Yb4 _) (Yb2 (YcJ (SF.len) (Yb2 (Yb4 _) (Yca))) (Yca))))))
end MPL
namespace MP
open PySem (Str PyData sizeLine)
open MPL
theorem Zdy {i j:Int} {T:Cs}:eqP (.int i) (.int j) T= .ok (.bl (decide (i=j))) T:=rfl
theorem Zft {i j:Int} {T:Cs}:neP (.int i) (.int j) T= .ok (.bl (!decide (i=j))) T:=rfl
theorem Zfu {i j:Str} {T:Cs}:eqP (.str i) (.str j) T= .ok (.bl (decide (i=j))) T:=rfl
theorem Zfv {i j:Str} {T:Cs}:neP (.str i) (.str j) T= .ok (.bl (!decide (i=j))) T:=rfl
theorem Zc9 {b:Bool} {T:Cs}:Zh4 [.bl b] T= .ok (.int (b2i b)) T:=rfl
theorem ZcS {i:Int} {T:Cs}:Zh4 [.int i] T= .ok (.int i) T:=rfl
theorem Zbd {i j:Int} {T:Cs} (h:ZbW i j=true):Zhn (.int i) (.int j) T= .ok (.int (i * j)) T:=if_pos h
theorem Zg3 {i j:Int} {T:Cs} (h:Zek j=true):ZmH (.int i) (.int j) T= .ok (.int (i / j)) T:=if_pos h
theorem Zd4 {i j:Int} {T:Cs} (h:Zgf i j=true):ZgP (.int i) (.int j) T= .ok (.int (i^j.toNat)) T:=if_pos h
theorem Zg4 {T:Cs}:ZgP (.int 10) (.int 18) T= .ok (.int 1000000000000000000) T:=by rw [Zd4 (by decide)]; rfl
theorem fit {n:Nat} (h:n≤16777216):n≤sizeLine:=by rw [PySem.sizeLine_eq]; exact h
def StO (p:PV):Prop:=∃a b:Int,p= .lst [.int a, .int b]∧0≤a∧0≤b∧b<2147483647
theorem StO.wf {p:PV} {k:Nat} (h:StO p):wf k p=true:=by
 obtain⟨a,b,rfl,_⟩:=h
 rfl
theorem ZmX {T:Cs} {s:Nat} {p:PV} (h:s<T.length):(T.set s p)[s]? =some p:=by rw [Yan h]
local macro_rules | `(tactic| simp! only [zP] $[$loc:location]?) => `(tactic| simp -implicitDefEqProofs (maxSteps := 2000000) only [Za3, ZbB, ZgJ, Zbe, ZhZ, ZbX, Zb0, Zeu, ZgK, ZaU, kIx, ZfX, ZnC, Zh0, Zh1, Zae, pC, Zaq, Zab, pF, p1, p2, pIf, ZeV, pOr, MP.notP, ZcZ, qB, ZhY, qOr, Zc0, qT, Zc1, Zcq, ZcI, Zds, ZfO, ixP, Zfk, ZcE, Zbw, ZfW, ZbL, Zbo, ZfV, Zcx, Zfp, Zcc, Zh6, Zcy, Zd0, Ze1, Zh7, Zh8, Zfq, ZcF, Zdx, Zh9, Zaf, Zci, Zch, Zat, ZcN, ZcO, ZaS, Zcb, ZcP, ZeJ, ZiV, ZfY, Zho, ltP, leP, gtP, geP, ipP, isP, Zhp, Zdy, Zft, Zfu, Zfv, Zc5, Zf0, ZfZ, ZlB, ZgQ, Zhq, Zc9, ZcS, ZfP, Zc6, Zb1, jR1, jR2, Zev, ZbF, Ya0, Ybs, Yaa, Yae, Ybv, YaS, Ybw, Ybx, Yby, Ybz, YbA, YbB, YbC, YbD, YbE, YbF, YaM, if_true, if_false, ite_true, ite_false, reduceIte, YaR, YbG, YbH, YbI, Yam, YbJ, reduceCtorEq, decide_eq_true_eq, decide_true, decide_false, YbK, YbL, Yap, Yak] $[$loc]?)
local macro_rules | `(tactic| simp! only [zP, $as,*] $[$loc:location]?) => `(tactic| simp -implicitDefEqProofs (maxSteps := 2000000) only [Za3, ZbB, ZgJ, Zbe, ZhZ, ZbX, Zb0, Zeu, ZgK, ZaU, kIx, ZfX, ZnC, Zh0, Zh1, Zae, pC, Zaq, Zab, pF, p1, p2, pIf, ZeV, pOr, MP.notP, ZcZ, qB, ZhY, qOr, Zc0, qT, Zc1, Zcq, ZcI, Zds, ZfO, ixP, Zfk, ZcE, Zbw, ZfW, ZbL, Zbo, ZfV, Zcx, Zfp, Zcc, Zh6, Zcy, Zd0, Ze1, Zh7, Zh8, Zfq, ZcF, Zdx, Zh9, Zaf, Zci, Zch, Zat, ZcN, ZcO, ZaS, Zcb, ZcP, ZeJ, ZiV, ZfY, Zho, ltP, leP, gtP, geP, ipP, isP, Zhp, Zdy, Zft, Zfu, Zfv, Zc5, Zf0, ZfZ, ZlB, ZgQ, Zhq, Zc9, ZcS, ZfP, Zc6, Zb1, jR1, jR2, Zev, ZbF, Ya0, Ybs, Yaa, Yae, Ybv, YaS, Ybw, Ybx, Yby, Ybz, YbA, YbB, YbC, YbD, YbE, YbF, YaM, if_true, if_false, ite_true, ite_false, reduceIte, YaR, YbG, YbH, YbI, Yam, YbJ, reduceCtorEq, decide_eq_true_eq, decide_true, decide_false, YbK, YbL, Yap, Yak, $as,*] $[$loc]?)
theorem Zdz {T:Cs} {s:Nat} {st:PV} {c:Int} {Q:PV→Cs→Prop} (hs:s<T.length) (h:StO st) (hc:0<c) (hl:c.natAbs.log2<9000)
  (q:∀r st',0≤r→r<c→StO st'→Q (.int r) (T.set s st')):wP (Zav [.cell s, .int c] (T.set s st)) Q:=by
 obtain⟨a,b,rfl,ha,hb,hb2⟩:=h
 have hd:Zek c=true:=by unfold Zek; simp [hc,hl]
 have hd2:Zek 32=true:=by decide
 unfold Zav
 simp only [Yae,Ybv,YaM,if_true]
 refine ZgW ?_
 have e1:∀p,(T.set s p)[s]? =some p:=fun p=>ZmX hs
 by_cases hp:0<a
 ·simp! only [zP,e1,at0,at1,hp,hc,Zg3 hd,Zn6,YbM,clQ,if_pos]
  exact q _ _ (YbN _ (by omega)) (YbO _ hc) ⟨a / c,b,rfl,Int.ediv_nonneg ha (by omega),hb,hb2⟩
 ·have hm1:ZbW b 39373=true:=ZcV (by omega) (by omega)
  have r0:0≤(b * 39373+7) % 2147483647:=YbN _ (by omega)
  have r1:(b * 39373+7) % 2147483647<2147483647:=YbO _ (by omega)
  have hm2:ZbW ((b * 39373+7) % 2147483647) ((b * 39373+7) % 2147483647)=true:=ZcV (by omega) (by omega)
  simp! only [zP,e1,at0,at1,hp,hc,Zg3 hd2,Zbd hm1,Zbd hm2,Zn7,YbM,clQ,if_pos,YbP]
  exact q _ _ (YbN _ (by omega)) (YbO _ hc) ⟨a,_,rfl,ha,r0,r1⟩
theorem Zif {ns:List Int} {k:Nat} (h:k<ns.length):atS (ns.map PV.int) (k:Int)=some (.int ns[k]):=Zgp (by rw [YaB,YaY h]; rfl)
theorem Zig {T:Cs} {k:Nat} {ns:List Int} {Q:PV→Cs→Prop} (hk:k<64)
  (q:∀st,StO st→Q (.cell T.length) (T++[st])):wP (ZaY [.frz (ns.map PV.int), .int k] T) Q:=by
 have m1:ZbW 7919 (k:Int)=true:=ZcV (by omega) (by omega)
 have m2:ZbW (7919 * (k:Int)) (k:Int)=true:=ZcV (by omega) (by omega)
 have m3:ZbW 31 (k:Int)=true:=ZcV (by omega) (by omega)
 have m4:∀x:Int,ZbW x 48271=true:=fun x=>Zgo (by omega) (by omega)
 have m5:∀(z:Int) (b:Bool),ZbW z (b2i b)=true:=fun z b=>Zgo (by have:=ZhM b; omega) (by have:=Zmi b; omega)
 have kk:0≤7919 * (k:Int) * k:=YbQ (by omega) (by omega)
 have f2:2≤sizeLine:=fit (by decide)
 have z0:∀c:Int,0≤(if -1 - c>c then -1 - c else c):=fun c=>by split<;>omega
 have hl:(ns.map PV.int).length=ns.length:=Yaz ..
 unfold ZaY
 by_cases hc:k<ns.length
 ·have hi:(k:Int)<(ns.length:Int):=by omega
  simp! only [zP,hl,hi,Zif hc,Zbd m1,Zbd m2,Zbd m3,Zbd (m4 _),Zg4,Zbd (m5 _ _),YbP,f2]
  exact q _ ⟨_,_,rfl,YbQ (z0 _) (ZhM _),YbN _ (by omega),YbO _ (by omega)⟩
 ·have hi:¬(k:Int)<(ns.length:Int):=by omega
  simp! only [zP,hl,hi,Zbd m1,Zbd m2,Zbd m3,Zbd (m4 _),Zg4,Zbd (m5 _ _),YbP,f2]
  exact q _ ⟨_,_,rfl,YbQ (z0 _) (ZhM _),YbN _ (by omega),YbO _ (by omega)⟩
theorem Zg5 {n:Nat} (h0:0<n) (hl:n<2^60):((n:Int)).natAbs.log2<9000:=by
 have e:((n:Int)).natAbs=n:=by omega
 rw [e]
 have:=(Ybt (by omega)).mpr hl
 omega
theorem Zd5 {T:Cs} {s:Nat} {st:PV} {v:PV} {xs:List PV} {Q:PV→Cs→Prop} (hs:s<T.length) (h:StO st) (hv:v= .lst xs∨v= .tup xs) (h0:0<xs.length) (hl:xs.length<2^60)
  (q:∀x st',x∈xs→StO st'→Q x (T.set s st')):wP (ZaM [.cell s,v] (T.set s st)) Q:=by
 unfold ZaM
 simp only [Yae,Ybv,YaM,if_true]
 refine ZgW ?_
 have fin:∀r st',0≤r→r<(xs.length:Int)→StO st'→wP (ixP v (.int r) (T.set s st')) fun x T'=>clQ (T.set s st).length Q x T':=fun r st' h1 h2 h3=>by
  obtain⟨x,e1,e2⟩:=Zmj (xs:=xs) h1 h2
  have e3:ixP v (.int r) (T.set s st')= .ok x (T.set s st'):=by
   rcases hv with rfl | rfl<;>simp only [ixP,ZbL,Zbo,e2,Zfk]
  rw [e3,Zcx,Zd1 (by simp)]
  exact q x st' (YaT e1) h3
 rcases hv with rfl | rfl
 ·simp only [Zbe,Zae,p2,pF,Zab,Zaq,ZcF,Zcc,Zcx,Ya0,Ybs,Yae,Ybv,YbD,YbE,Yam,Yaa,YaS,Yby,Ybz,Zf0,ZfZ,ZfV,ZbL,Zbo,Ze1]
  exact Zdz hs h (by omega) (Zg5 h0 hl) fin
 ·simp only [Zbe,Zae,p2,pF,Zab,Zaq,ZcF,Zcc,Zcx,Ya0,Ybs,Yae,Ybv,YbD,YbE,Yam,Yaa,YaS,Yby,Ybz,Zf0,ZfZ,ZfV,ZbL,Zbo,Ze1]
  exact Zdz hs h (by omega) (Zg5 h0 hl) fin
end MP
open PySem MP 
local macro_rules | `(tactic| simp! only [zP] $[$loc:location]?) => `(tactic| simp -implicitDefEqProofs (maxSteps := 2000000) only [Za3, ZbB, ZgJ, Zbe, ZhZ, ZbX, Zb0, Zeu, ZgK, ZaU, kIx, ZfX, ZnC, Zh0, Zh1, Zae, pC, Zaq, Zab, pF, p1, p2, pIf, ZeV, pOr, MP.notP, ZcZ, qB, ZhY, qOr, Zc0, qT, Zc1, Zcq, ZcI, Zds, ZfO, ixP, Zfk, ZcE, Zbw, ZfW, ZbL, Zbo, ZfV, Zcx, Zfp, Zcc, Zh6, Zcy, Zd0, Ze1, Zh7, Zh8, Zfq, ZcF, Zdx, Zh9, Zaf, Zci, Zch, Zat, ZcN, ZcO, ZaS, Zcb, ZcP, ZeJ, ZiV, ZfY, Zho, ltP, leP, gtP, geP, ipP, isP, Zhp, Zdy, Zft, Zfu, Zfv, Zc5, Zf0, ZfZ, ZlB, ZgQ, Zhq, Zc9, ZcS, ZfP, Zc6, Zb1, jR1, jR2, Zev, ZbF, Ya0, Ybs, Yaa, Yae, Ybv, YaS, Ybw, Ybx, Yby, Ybz, YbA, YbB, YbC, YbD, YbE, YbF, YaM, if_true, if_false, ite_true, ite_false, reduceIte, YaR, YbG, YbH, YbI, Yam, YbJ, reduceCtorEq, decide_eq_true_eq, decide_true, decide_false, YbK, YbL, Yap, Yak] $[$loc]?)
local macro_rules | `(tactic| simp! only [zP, $as,*] $[$loc:location]?) => `(tactic| simp -implicitDefEqProofs (maxSteps := 2000000) only [Za3, ZbB, ZgJ, Zbe, ZhZ, ZbX, Zb0, Zeu, ZgK, ZaU, kIx, ZfX, ZnC, Zh0, Zh1, Zae, pC, Zaq, Zab, pF, p1, p2, pIf, ZeV, pOr, MP.notP, ZcZ, qB, ZhY, qOr, Zc0, qT, Zc1, Zcq, ZcI, Zds, ZfO, ixP, Zfk, ZcE, Zbw, ZfW, ZbL, Zbo, ZfV, Zcx, Zfp, Zcc, Zh6, Zcy, Zd0, Ze1, Zh7, Zh8, Zfq, ZcF, Zdx, Zh9, Zaf, Zci, Zch, Zat, ZcN, ZcO, ZaS, Zcb, ZcP, ZeJ, ZiV, ZfY, Zho, ltP, leP, gtP, geP, ipP, isP, Zhp, Zdy, Zft, Zfu, Zfv, Zc5, Zf0, ZfZ, ZlB, ZgQ, Zhq, Zc9, ZcS, ZfP, Zc6, Zb1, jR1, jR2, Zev, ZbF, Ya0, Ybs, Yaa, Yae, Ybv, YaS, Ybw, Ybx, Yby, Ybz, YbA, YbB, YbC, YbD, YbE, YbF, YaM, if_true, if_false, ite_true, ite_false, reduceIte, YaR, YbG, YbH, YbI, Yam, YbJ, reduceCtorEq, decide_eq_true_eq, decide_true, decide_false, YbK, YbL, Yap, Yak, $as,*] $[$loc]?)
namespace MP
open PySem (Str PyData sizeLine)
variable [Gh]
end MP
namespace MP
open PySem (Str PyData sizeLine)
variable [Gh]
end MP
namespace MP
open PySem (Str PyData sizeLine)
variable [Gh]
end MP
namespace MP
open PySem (Str PyData sizeLine)
section
variable {f:Nat→PV} {k:Nat}
end
section
variable {μ ν:List Nat} {W W':Nat→Prop} {S S':Zaa} {T T':Cs}
end
section
variable {T:Cs}
end
end MP
namespace MP
open PySem (Str PyData sizeLine)
variable [Gh]
def IwL:ZeU (Nat × IT) (Option (Nat × PV) × List PV):=fun μ W S p q=>IwR μ W S p q∧∀d,d∉μ→¬W d→∀(i:Nat) (S':Zaa) (o:SO),p.2 i (S'.set d o)=p.2 i S'
def SIL (m:IM) (e:PI):Prop:=∀(μ:List Nat) (W:Nat→Prop) (S:Zaa) (T:Cs) (env:En) (pe:PEn),Sm μ W S T→RdE μ W S env pe→Ag μ W S (m env S) (e pe T) IwL
section
variable {m m':EM} {e e':PE}
theorem SIL.r1 (h:SE m e):SIL (iR1 m) (jR1 e):=by
 intro μ W S T env pe s n
 refine(h μ W S T env pe s n).bind fun μ1 W1 S1 T1 v p x s1 r1=> ?_
 cases p with
 | int b=>cases r1.int_; exact .ok s1 ⟨Zfm,fun _ _ _ _ _ _=>rfl⟩
 | _=>trivial
theorem SIL.r2 (h:SE m e) (h':SE m' e'):SIL (iR2 m m') (jR2 e e'):=by
 intro μ W S T env pe s n
 refine(h μ W S T env pe s n).bind fun μ1 W1 S1 T1 v p x s1 r1=> ?_
 refine(h' _ _ _ _ env pe s1 (n.step s x)).bind fun μ2 W2 S2 T2 v2 p2 x2 s2 r2=> ?_
 cases p with
 | int a=>
  cases p2 with
  | int b=>cases r1.int_; cases r2.int_; exact .ok s2 ⟨Zfm,fun _ _ _ _ _ _=>rfl⟩
  | _=>trivial
 | _=>trivial
theorem Ze5 {n d:Nat} (h:n≠d) (i:Nat) (S:Zaa) (o:SO):itL n i (S.set d o)=itL n i S:=by
 unfold itL ZaJ
 rw [Yao (Ne.symm h)]
theorem SIL.seq {m:EM} {e:PE} (h:SE m e):SIL (Zhk m) (Zb1 e):=by
  intro μ W S T env pe s n
  refine(h μ W S T env pe s n).bind fun μ1 W1 S1 T1 v p x s1 r1=> ?_
  cases p with
  | tup ps=>
    obtain⟨xs,rfl,r⟩:=r1.tup_
    refine .ok s1 ⟨⟨by simp [r.len],fun μ' W' S' T' y s2 _ i=>⟨fun z=> ?_,fun q z=> ?_⟩⟩,fun _ _ _ _ _ _=>rfl⟩
    · have r':=r.step s1 y
      have:xs[i]? =none:=by
        rw [Yay]at z⊢
        rw [r.len]; exact z
      simp [itV,this]
    · obtain⟨w,a,b⟩:=(r.step s1 y).at z
      exact⟨w,by simp [itV,a],b⟩
  | str z=>
    cases r1.str_
    refine .ok s1 ⟨⟨by simp,fun μ' W' S' T' y s2 _ i=>⟨fun q=> ?_,fun q q'=> ?_⟩⟩,fun _ _ _ _ _ _=>rfl⟩
    · have:z.cps[i]? =none:=by simpa using q
      simp [itS,this]
    · simp only [YaB,YaI]at q'
      obtain⟨c,a,rfl⟩:=q'
      have:z.cps[i]? =some c:=by simpa using a
      exact⟨_,by simp only [itS,this]; rfl, .str _⟩
  | lst ps=>
    cases r1 with
    | @node n1 o _ w e r=>
      have hl:∀{S':Zaa} {o'},S'[n1]? =some o'→o'=o→∃xs,ZaJ S' n1=some xs∧Rds μ1 W1 S1 xs ps:=fun a b=>by
        subst b
        cases r with
        | lst k=>exact⟨_,Zbq (.inl a),k⟩
      obtain⟨xs,a,b⟩:=hl e rfl
      simp only [a]
      refine .ok s1 ⟨⟨by simp [b.len],fun μ' W' S' T' y s2 _ i=> ?_⟩,fun d hm hw i S' o=>Ze5 (fun z=>hw (by rw [←z]; exact w)) i S' o⟩
      have e2:S'[n1]? =some o:=by rw [y.fr n1 (s1.lt n1 w) (s1.dis n1 w)]; exact e
      obtain⟨xs',a',b'⟩:=hl e2 rfl
      have b2:=b'.step s1 y
      refine⟨fun z=> ?_,fun q z=> ?_⟩
      · have:xs'[i]? =none:=by
          rw [Yay]at z⊢
          rw [b2.len]; exact z
        simp [itL,a',this]
      · obtain⟨w,a3,b3⟩:=b2.at z
        exact⟨w,by simp [itL,a',a3],b3⟩
  | frz ps=>
    cases r1 with
    | @node n1 o _ w e r=>
      have hl:∀{S':Zaa} {o'},S'[n1]? =some o'→o'=o→∃xs,ZaJ S' n1=some xs∧Rds μ1 W1 S1 xs ps:=fun a b=>by
        subst b
        cases r with
        | frz k=>exact⟨_,Zbq (.inr a),k⟩
      obtain⟨xs,a,b⟩:=hl e rfl
      simp only [a]
      refine .ok s1 ⟨⟨by simp [b.len],fun μ' W' S' T' y s2 _ i=> ?_⟩,fun d hm hw i S' o=>Ze5 (fun z=>hw (by rw [←z]; exact w)) i S' o⟩
      have e2:S'[n1]? =some o:=by rw [y.fr n1 (s1.lt n1 w) (s1.dis n1 w)]; exact e
      obtain⟨xs',a',b'⟩:=hl e2 rfl
      have b2:=b'.step s1 y
      refine⟨fun z=> ?_,fun q z=> ?_⟩
      · have:xs'[i]? =none:=by
          rw [Yay]at z⊢
          rw [b2.len]; exact z
        simp [itL,a',this]
      · obtain⟨w,a3,b3⟩:=b2.at z
        exact⟨w,by simp [itL,a',a3],b3⟩
  | cell c=>
    obtain⟨n1,rfl,hc⟩:=r1.cell_
    simp only
    cases hp:T1[c]? with
    | none=>trivial
    | some q0=>
     cases q0 with
     | lst ps=>
      obtain⟨n2,xs,e2,a,b⟩:=Rd.lst (ps:=ps) s1 (Rd.cell hc) (by simp only [ZbL,Zbo,hp])
      cases e2
      simp only [a]
      refine .ok s1 ⟨⟨by simp [b.len],fun μ' W' S' T' y s2 o i=> ?_⟩,fun d hm hw i S' o=>Ze5 (fun z=>hm (by rw [←z]; exact YaT hc)) i S' o⟩
      obtain⟨ν,e1,l1⟩:=y.pre
      have hc':μ'[c]? =some n1:=by rw [e1,Yai (Yaj.mp hc).1]; exact hc
      have o':ZbL T' (.cell c)=some ps:=by
        have o2:T'[c]? =some (.lst ps):=o
        simp only [ZbL,Zbo,o2]
      obtain⟨n3,xs',e3,a',b'⟩:=Rd.lst s2 (Rd.cell hc') o'
      cases e3
      refine⟨fun z=> ?_,fun q z=> ?_⟩
      · have:xs'[i]? =none:=by
          rw [Yay]at z⊢
          rw [b'.len]; exact z
        simp [itL,a',this]
      · obtain⟨w,a3,b3⟩:=b'.at z
        exact⟨w,by simp [itL,a',a3],b3⟩
     | _=>trivial
  | _=>trivial
end
theorem RdE.set {μ:List Nat} {W:Nat→Prop} {S:Zaa} {T:Cs} {d:Nat} {acc acc':List SV} {env:En} {pe:PEn} (s:Sm μ W S T) (lc:LcI d μ W S acc) (n:RdE μ W S env pe):RdE μ W (S.set d (.lst acc')) env pe:=
 ⟨n.1,fun i p e=>let ⟨v,a,b⟩:=n.2.1 i p e; ⟨v,a,(lc.put (acc':=acc') s).2.2.1 b⟩,Gh.st lc.m lc.w n.2.2⟩
end MP
namespace MP
open PySem (Str PyData sizeLine)
section
variable {μ:List Nat} {W:Nat→Prop} {S:Zaa} {T:Cs}
end
section
variable {tb:Zap} {pt:ZdX} {cs:List String}
end
end MP
namespace MP
open PySem (Str PyData sizeLine)
section
variable {μ:List Nat} {W:Nat→Prop} {S:Zaa} {T:Cs}
theorem Rds.keys:∀ks:List Key,Rds μ W S (ks.map ZeO) (ks.map Ze4)
 | []=> .nil
 | k::ks=> .cons (ZcR k) (Rds.keys ks)
end
end MP
namespace MP
open PySem (Str PyData sizeLine)
section
variable {μ:List Nat} {W:Nat→Prop} {S:Zaa} {T:Cs}
end
end MP
namespace MP
open PySem (Str PyData sizeLine)
end MP
namespace MP
open PySem (Str PyData sizeLine)
def Zfw:PV→PF:=fun x xs T=>match x,xs with
 | .cell n,[]=>(match T[n]? with
  | some (.lst _)=> .ok .non (T.set n (.lst []))
  | _=> .bad)
 | _,_=> .bad
theorem SBM.clear:SBM Zer Zfw:=by
 intro μ W S T x p xs ps s r rs
 cases p with
 | cell c=>
  obtain⟨n,rfl,hc⟩:=r.cell_
  cases ps with
  | nil=>
   cases rs
   simp only [Zfw]
   split
   ·rename_i ys e
    obtain⟨o,e1,e2,e3⟩:=s.cell _ _ _ hc e
    cases e2 with
    | lst k=>
     simp only [Zer,e1]
     obtain⟨x,s1⟩:=s.put hc (.lst .nil) rfl
     exact .okS x s1 .non
   ·trivial
  | cons q l=>simp only [Zfw]; trivial
 | _=>simp only [Zfw]; trivial
end MP
namespace MP
section
variable [Gh]
end
end MP
namespace MP
open PySem (Str PyData sizeLine)
variable [Gh]
end MP
namespace MP
open PySem (Str PyData sizeLine)
inductive ZbY where
 | nx (ys:List PV) (env:PEn) (T:Cs)
 | bad
abbrev ZeC:=List PV→PEn→Cs→ZbY
variable [Gh]
def ZbY.seq (r:ZbY) (k:ZeC):ZbY:=match r with
 | .nx ys env T=>k ys env T
 | .bad=> .bad
@[simp] theorem Zih (ys:List PV) (env:PEn) (T:Cs) (k:ZeC):(ZbY.nx ys env T).seq k=k ys env T:=rfl
@[simp] theorem ZmY (k:ZeC):ZbY.bad.seq k= .bad:=rfl
def Za0.gen (r:Za0) (k:PEn→Cs→ZbY):ZbY:=match r with
 | .nx env T=>k env T
 | _=> .bad
@[simp] theorem Zii (env:PEn) (T:Cs) (k:PEn→Cs→ZbY):(Za0.nx env T).gen k=k env T:=rfl
@[simp] theorem ZmZ (k:PEn→Cs→ZbY):Za0.bad.gen k= .bad:=rfl
def ZaR.gen {α:Type} (r:ZaR α) (k:α→Cs→ZbY):ZbY:=match r with
 | .ok a T=>k a T
 | _=> .bad
@[simp] theorem Zok {α:Type} (a:α) (T:Cs) (k:α→Cs→ZbY):(ZaR.ok a T).gen k=k a T:=rfl
@[simp] theorem ZnF {α:Type} (k:α→Cs→ZbY):(ZaR.bad:ZaR α).gen k= .bad:=rfl
def ZoT (m:PSM):ZeC:=fun ys env T=>(m env T).gen fun env' T'=> .nx ys env' T'
def ZoU (a b:ZeC):ZeC:=fun ys env T=>(a ys env T).seq b
def Zph:ZeC:=fun ys env T=> .nx ys env T
open Classical in
def ZeD (g:PGM) (body:ZeC) (w:Option (Nat × PV)) (ps0:List PV):List PV→ZeC
 | []=>fun ys env T=>if okW w ps0 T then .nx ys env T else .bad
 | x::r=>fun ys env T=>if okW w ps0 T then (g x env T).gen fun env2 T2=>(body ys env2 T2).seq (ZeD g body w ps0 r)else .bad
def Zm0 (it:PI) (g:PGM) (body:ZeC):ZeC:=fun ys env T=>(it env T).gen fun p T1=>ZeD g body p.1 p.2 p.2 ys env T1
def Zi1 (m:ZeC):PSM:=fun env T=>match m [] env T with
 | .nx ys _ T'=> .rt (.tup ys) T'
 | .bad=> .bad
def AgG (μ:List Nat) (W:Nat→Prop) (S:Zaa) (r:Zmu) (q:ZbY):Prop:=match q with
 | .nx ps pe T'=>∃xs env S' μ' W',r= .nx xs env S'∧Stp μ W S μ' W' S'∧Sm μ' W' S' T'∧RdE μ' W' S' env pe∧Rds μ' W' S' xs ps
 | .bad=>True
def SGS (m:GSM) (e:ZeC):Prop:=∀(μ:List Nat) (W:Nat→Prop) (S:Zaa) (T:Cs) (env:En) (pe:PEn) (xs:List SV) (ps:List PV),Sm μ W S T→RdE μ W S env pe→Rds μ W S xs ps→AgG μ W S (m xs env S) (e ps pe T)
section
variable {μ μ':List Nat} {W W':Nat→Prop} {S S':Zaa} {T T':Cs} {r:Zmu} {q:ZbY} {env:En} {pe:PEn} {xs:List SV} {ps:List PV}
theorem AgG.trans (x:Stp μ W S μ' W' S') (h:AgG μ' W' S' r q):AgG μ W S r q:=by
 cases q with
 | nx p e T'=>obtain⟨v,e1,S1,μ1,W1,e,y,s,k⟩:=h; exact⟨v,e1,S1,μ1,W1,e,x.trans y,s,k⟩
 | bad=>trivial
theorem AgG.nx (s:Sm μ W S T) (n:RdE μ W S env pe) (r:Rds μ W S xs ps):AgG μ W S (.nx xs env S) (.nx ps pe T):=⟨xs,env,S,μ,W,rfl, .refl _ _ _,s,n,r⟩
end
theorem SGS.pl {m:SM} {e:PSM} (h:SS m e):SGS (gPl m) (ZoT e):=by
 intro μ W S T env pe xs ps s n r
 have y:=h _ _ _ _ _ _ s n
 unfold gPl ZoT
 cases hq:e pe T with
 | nx pe2 T2=>
  rw [hq]at y
  obtain⟨env2,S2,μ2,W2,e1,x1,s1,n1⟩:=y
  rw [e1]
  exact⟨xs,env2,S2,μ2,W2,rfl,x1,s1,n1,r.step s x1⟩
 | _=>trivial
theorem SGS.nil:SGS gNl Zph:=fun _ _ _ _ _ _ _ _ s n r=> .nx s n r
theorem SGS.cons {a b:GSM} {p q:ZeC} (h:SGS a p) (h2:SGS b q):SGS (gSq a b) (ZoU p q):=by
 intro μ W S T env pe xs ps s n r
 have y:=h _ _ _ _ _ _ _ _ s n r
 unfold gSq ZoU
 cases hq:p ps pe T with
 | nx ps2 pe2 T2=>
  rw [hq]at y
  obtain⟨xs2,env2,S2,μ2,W2,e1,x1,s1,n1,r1⟩:=y
  rw [e1]
  exact(h2 _ _ _ _ _ _ _ _ s1 n1 r1).trans x1
 | bad=>trivial
theorem Zij {g:GM} {k:PGM} {b:GSM} {c:ZeC} (hg:SG g k) (hb:SGS b c) {I:IT} {w:Option (Nat × PV)} {ps:List PV}:∀(rest:List PV) (i j:Nat) {μ:List Nat} {W:Nat→Prop} {S:Zaa} {T:Cs} {env:En} {pe:PEn} {xs:List SV} {qs:List PV},rest=ps.drop i→j=rest.length+1→IwR μ W S (ps.length+1,I) (w,ps)→Sm μ W S T→RdE μ W S env pe→Rds μ W S xs qs→
  AgG μ W S (Zes g b I j i xs env S) (ZeD k c w ps rest qs pe T):=by
 intro rest
 induction rest with
 | nil=>
  intro i j μ W S T env pe xs qs hr hj hI s n rq
  subst hj
  unfold ZeD Zes
  by_cases o:okW w ps T
  ·rw [if_pos o]
   have hl:ps[i]? =none:=by
    have:=congrArg Ybo hr
    simp at this
    exact YaQ (by omega)
   rw [(hI.it (.refl _ _ _) s o i).1 hl]
   exact .nx s n rq
  ·rw [if_neg o]; trivial
 | cons p rest ih=>
  intro i j μ W S T env pe xs qs hr hj hI s n rq
  subst hj
  unfold ZeD
  simp only [Yae]
  rw [show rest.length+1+1=(rest.length+1)+1 from rfl]
  unfold Zes
  by_cases o:okW w ps T
  ·rw [if_pos o]
   have hl:ps[i]? =some p:=by
    have:=congrArg (fun z=>z[0]?) hr
    simp at this
    exact this.symm
   obtain⟨x,e,r⟩:=(hI.it (.refl _ _ _) s o i).2 _ hl
   rw [e]
   simp only
   have hr':rest=ps.drop (i+1):=by
    have:=congrArg List.tail hr
    simpa using this
   have y:=hg _ _ _ _ _ _ _ _ s r n
   cases hk:k p pe T with
   | nx pe2 T2=>
    rw [hk]at y
    obtain⟨env2,S2,μ2,W2,e1,x1,s1,n1⟩:=y
    simp only [e1,Zii]
    have y2:=hb _ _ _ _ _ _ _ _ s1 n1 (rq.step s x1)
    cases hc:c qs pe2 T2 with
    | nx qs3 pe3 T3=>
     rw [hc]at y2
     obtain⟨xs3,env3,S3,μ3,W3,e3,x3,s3,n3,r3⟩:=y2
     simp only [e3,Zih]
     exact(ih (i+1) _ hr' rfl (hI.step (x1.trans x3)) s3 n3 r3).trans (x1.trans x3)
    | bad=>trivial
   | _=>trivial
  ·rw [if_neg o]; trivial
theorem SGS.for_ {it:IM} {pi:PI} {g:GM} {k:PGM} {b:GSM} {c:ZeC} (hi:SI it pi) (hg:SG g k) (hb:SGS b c):SGS (gFr it g b) (Zm0 pi k c):=by
 intro μ W S T env pe xs qs s n rq
 have y:=hi _ _ _ _ _ _ s n
 unfold gFr Zm0
 cases hq:pi pe T with
 | ok v T2=>
  rw [hq]at y
  obtain⟨v2,S2,μ2,W2,e1,x1,s1,h1,h2⟩:=y
  obtain⟨c1,I⟩:=v2
  obtain⟨w,ps⟩:=v
  cases h1
  rw [e1]
  exact(Zij hg hb ps 0 _ rfl rfl ⟨rfl,h2⟩ s1 (n.step s x1) (rq.step s x1)).trans x1
 | _=>trivial
theorem SS.gen {m:GSM} {e:ZeC} (h:SGS m e):SS (ZeQ m) (Zi1 e):=by
 intro μ W S T env pe s n
 have y:=h _ _ _ _ _ _ _ _ s n .nil
 unfold ZeQ Zi1
 cases hq:e [] pe T with
 | nx ps2 pe2 T2=>
  rw [hq]at y
  obtain⟨xs2,env2,S2,μ2,W2,e1,x1,s1,n1,r1⟩:=y
  rw [e1]
  exact⟨_,S2,μ2,W2,rfl,x1,s1, .tup r1⟩
 | bad=>trivial
end MP
namespace MP
open PySem (Str PyData sizeLine)
end MP
namespace MP
open PySem (Str PyData sizeLine)
variable [Gh]
end MP
namespace MP
open PySem (Str PyData sizeLine)
section
variable {μ:List Nat} {W:Nat→Prop} {S:Zaa} {T:Cs} {v:SV} {p:PV}
def ZfR (T:Cs) (p:PV):Option (List (List Key × PV)):=match Zbo T p with
 | some (.dT kvs)=>some kvs
 | some (.dG kvs)=>some kvs
 | _=>none
def RdT (μ:List Nat) (W:Nat→Prop) (S:Zaa) (kvs:List (List Key × SV)) (qs:List (List Key × PV)):Prop:=kvs.map Prod.fst=qs.map Prod.fst∧Rds μ W S (kvs.map Prod.snd) (qs.map Prod.snd)
theorem Rd.dictT (s:Sm μ W S T) (r:Rd μ W S v p) {qs:List (List Key × PV)} (e:ZfR T p=some qs):∃n kvs,v= .ref n∧anyT S n=some kvs∧RdT μ W S kvs qs:=by
 unfold ZfR at e
 split at e
 ·rename_i q h
  cases e
  obtain⟨n,o,rfl,e1,e2⟩:=r.obj s h
  cases e2 with
  | dT a b=>exact⟨n,_,rfl,by simp only [anyT,e1],a,b⟩
 ·rename_i q h
  cases e
  obtain⟨n,o,rfl,e1,e2⟩:=r.obj s h
  cases e2 with
  | dG a b=>exact⟨n,_,rfl,by simp only [anyT,e1],a,b⟩
 ·cases e
def Zm1 (T:Cs) (p:PV):Bool:=(ZfR T p).isSome
theorem Zm2 (s:Sm μ W S T) (r:Rd μ W S v p):isT v S=Zm1 T p:=by
 cases r with
 | node w e o=>cases o<;>simp only [isT,anyT,Zm1,ZfR,Zbo,e]<;>rfl
 | cell h=>
  obtain⟨n,o,q,e0,e1,e2,e3,e4,_⟩:=Rd.cellT s (Rd.cell h)
  cases e0
  cases e4<;>simp only [isT,anyT,Zm1,ZfR,Zbo,e2,e3]<;>rfl
 | _=>rfl
def Zik:List PV→Option (List Key)
 | []=>some []
 | x::r=>match ZnE x,Zik r with
  | some k,some ks=>some (k::ks)
  | _,_=>none
def Zm3:PV→Option (List Key)
 | .tup xs=>Zik xs
 | _=>none
theorem Zg6:∀{xs:List SV} {ps:List PV} {k:List Key},Rds μ W S xs ps→Zik ps=some k→Zly xs=some k
 | _,_,k, .nil,e=>e
 | _,_,k, .cons a b,e=>by
  unfold Zik at e
  split at e
  ·rename_i k1 ks e1 e2
   cases e
   unfold Zly
   rw [ZgY a e1,Zg6 b e2]
  ·cases e
theorem Zlb (r:Rd μ W S v p) {k:List Key} (e:Zm3 p=some k):ZkP v=some k:=by
 cases p with
 | tup ps=>
  cases r with
  | tup h=>exact Zg6 h e
  | node w e0 o=>cases o
 | _=>cases e
theorem RdT.val {kvs:List (List Key × SV)} {qs:List (List Key × PV)} (r:RdT μ W S kvs qs) (k:List Key):(∀q,valT qs k=some q→∃x,valT kvs k=some x∧Rd μ W S x q)∧(valT qs k=none→valT kvs k=none):=by
 obtain⟨e,r⟩:=r
 induction qs generalizing kvs with
 | nil=>cases kvs with | nil=>exact⟨(fun _ h=>nomatch h),fun _=>rfl⟩ | cons a b=>cases e
 | cons q qs ih=>
  cases kvs with
  | nil=>cases e
  | cons a b=>
   simp only [Ya0,List.cons.injEq]at e
   cases r with
   | cons c d=>
    have i:=ih e.2 d
    by_cases h:q.1=k
    ·have h':a.1=k:=e.1.trans h
     have e1:valT (q::qs) k=some q.2:=by simp [valT,h]
     have e2:valT (a::b) k=some a.2:=by simp [valT,h']
     rw [e1,e2]
     exact⟨fun z hz=>⟨_,rfl,by cases hz; exact c⟩,fun h=>nomatch h⟩
    ·have h':¬a.1=k:=fun z=>h (e.1.symm.trans z)
     have e1:valT (q::qs) k=valT qs k:=by simp [valT,h]
     have e2:valT (a::b) k=valT b k:=by simp [valT,h']
     rw [e1,e2]
     exact i
theorem RdT.len {kvs:List (List Key × SV)} {qs:List (List Key × PV)} (r:RdT μ W S kvs qs):kvs.length=qs.length:=by simpa using congrArg Ybo r.1
theorem Zfx {α:Type} (k:List Key) (l:List (List Key × α)):(l.any fun kv=>decide (kv.1=k))=(l.map Prod.fst).any fun j=>decide (j=k):=by rw [Ya3]; rfl
theorem RdT.put {kvs:List (List Key × SV)} {qs:List (List Key × PV)} (r:RdT μ W S kvs qs) {x:SV} {q:PV} (h:Rd μ W S x q) (k:List Key):RdT μ W S (putT kvs k x) (putT qs k q):=by
 unfold putT
 rw [Zfx,Zfx k qs,r.1]
 split
 ·rename_i hsp
  clear hsp
  have m1:∀{α:Type} (l:List (List Key × α)) (z:α),(l.map fun kv=>if kv.1=k then (kv.1,z)else kv).map Prod.fst=l.map Prod.fst:=fun l z=>by
   rw [YaJ]
   refine Ybk fun a _=> ?_
   simp only [Function.comp]
   split<;>rfl
  refine⟨by rw [m1,m1]; exact r.1, ?_⟩
  obtain⟨e,r⟩:=r
  induction qs generalizing kvs with
  | nil=>cases kvs with | nil=>exact .nil | cons a b=>cases e
  | cons p qs ih=>
   cases kvs with
   | nil=>cases e
   | cons a b=>
    simp only [Ya0,List.cons.injEq]at e
    cases r with
    | cons c d=>
     simp only [Ya0]
     by_cases hk:p.1=k
     ·rw [if_pos hk,if_pos (e.1.trans hk)]; exact .cons h (ih e.2 d)
     ·rw [if_neg hk,if_neg (fun z=>hk (e.1.symm.trans z))]; exact .cons c (ih e.2 d)
 ·exact⟨by simp [r.1],by simp only [List.map_append,Ya0,Ybs]; exact r.2.app (.cons h .nil)⟩
end
variable [Gh]
section
def Zlc:PF:=fun xs T=>match xs with
 | [x]=>(match ZfR T x with
  | some kvs=> .ok (.int kvs.length) T
  | none=> .bad)
 | _=> .bad
theorem SF.lenT:SF Zgz Zlc:=SF.one (fun{μ W S T x p} s r=>by
 simp only [Zlc]
 split
 ·rename_i kvs e
  obtain⟨n,qs,rfl,a,b⟩:=r.dictT s e
  simp only [Zgz,a]
  rw [b.len]
  exact .ok s (.int _)
 ·trivial) (fun ps T h=>by match ps with | []=>rfl | [p]=>exact(h p rfl).elim | _::_::_=>simp only [Zlc])
def Zi2:PU3:=fun x y v T=>match x with
 | .cell c=>(match T[c]?,Zm3 y with
  | some (.dT kvs),some k=>if kvs.length<sizeLine then .ok () (T.set c (.dT (putT kvs k v)))else .bad
  | _,_=> .bad)
 | _=> .bad
theorem S3u.dictT:S3u Zfj Zi2:=by
 intro μ W S T x y z p q r s ra rb rc
 cases p with
 | cell c=>
  obtain⟨n,rfl,hi⟩:=ra.cell_
  simp only [Zi2]
  split
  ·rename_i kvs k e1 e2
   obtain⟨o,f1,f2,f3⟩:=s.cell _ _ _ hi e1
   cases f2 with
   | dT a b=>
    have rk:RdT μ W S _ kvs:=⟨a,b⟩
    simp only [Zfj,f1,Zlb rb e2,rk.len]
    split
    ·have rp:=rk.put rc k
     obtain⟨x,s1⟩:=s.put hi (.dT rp.1 rp.2) rfl
     exact .okS (R:=RU) x s1 trivial
    ·trivial
  ·trivial
 | _=>trivial
def jtk (q:List Key × PV):PV:= .tup (q.1.map Ze4)
def jtv (q:List Key × PV):PV:=q.2
def jti (q:List Key × PV):PV:= .tup [.tup (q.1.map Ze4),q.2]
def Zi3 (J:List Key × PV→PV) (e:PE):PI:=fun env T=>(e env T).bind fun v T1=>match v with
 | .dG kvs=> .ok (none,kvs.map J) T1
 | .cell c=>(match T1[c]? with
  | some (.dG kvs)=> .ok (some (c, .dG kvs),kvs.map J) T1
  | _=> .bad)
 | _=> .bad
structure Zil (I:Nat→IT) (J:List Key × PV→PV):Prop where
 ex:∃J':List Key × SV→SV,(∀(m i:Nat) (S:Zaa) (kvs:List (List Key × SV)),S[m]? =some (.dG kvs)→I m i S=some (kvs[i]?.map J'))∧∀(μ:List Nat) (W:Nat→Prop) (S:Zaa) (k:List Key) (x:SV) (q:PV),Rd μ W S x q→Rd μ W S (J' (k,x)) (J (k,q))
theorem Zda {μ:List Nat} {W:Nat→Prop} {S:Zaa}:∀k:List Key,Rds μ W S (k.map ZeO) (k.map Ze4)
 | []=> .nil
 | a::k=> .cons (ZcR a) (Zda k)
theorem Zil.k:Zil ZgA jtk:=⟨fun p=> .tup (p.1.map ZeO),fun m i S kvs h=>by simp only [ZgA,h],fun _ _ _ k _ _ _=> .tup (Zda k)⟩
theorem Zil.v:Zil Zmx jtv:=⟨fun p=>p.2,fun m i S kvs h=>by simp only [Zmx,h],fun _ _ _ k _ _ r=>r⟩
theorem Zil.i:Zil Zmy jti:=⟨fun p=> .tup [.tup (p.1.map ZeO),p.2],fun m i S kvs h=>by simp only [Zmy,h],fun _ _ _ k _ _ r=> .tup (.cons (.tup (Zda k)) (.cons r .nil))⟩
theorem RdT.nth {μ:List Nat} {W:Nat→Prop} {S:Zaa} {kvs:List (List Key × SV)} {qs:List (List Key × PV)} (r:RdT μ W S kvs qs) (i:Nat):(qs[i]? =none→kvs[i]? =none)∧∀q,qs[i]? =some q→∃x,kvs[i]? =some (q.1,x)∧Rd μ W S x q.2:=by
 refine⟨fun h=> ?_,fun q h=> ?_⟩
 ·rw [Yay]at h⊢
  rw [r.len]; exact h
 ·have h1:(qs.map Prod.snd)[i]? =some q.2:=by rw [YaB,h]; rfl
  obtain⟨x,a,b⟩:=r.2.at h1
  rw [YaB,YaI]at a
  obtain⟨y,a1,a2⟩:=a
  have h2:=congrArg (fun l=>l[i]?) r.1
  simp only [YaB,a1,h,Ybq,Option.some.injEq]at h2
  exact⟨x,by rw [a1,←a2,←h2],b⟩
theorem Zg7 {I:Nat→IT} {J:List Key × PV→PV} (h:Zil I J) {μ:List Nat} {W:Nat→Prop} {S:Zaa} {m i:Nat} {kvs:List (List Key × SV)} {qs:List (List Key × PV)} (e:S[m]? =some (.dG kvs)) (r:RdT μ W S kvs qs):((qs.map J)[i]? =none→I m i S=some none)∧∀q,(qs.map J)[i]? =some q→∃x,I m i S=some (some x)∧Rd μ W S x q:=by
 obtain⟨J',h1,h2⟩:=h.ex
 rw [h1 m i S kvs e,YaB]
 refine⟨fun z=> ?_,fun q z=> ?_⟩
 ·rw [(r.nth i).1 (by simpa using z)]; rfl
 ·obtain⟨q0,a,rfl⟩:=YaI.mp z
  obtain⟨x,b,c⟩:=(r.nth i).2 q0 a
  exact⟨_,by rw [b]; rfl,h2 _ _ _ _ _ _ c⟩
theorem SI.dictT {I:Nat→IT} {J:List Key × PV→PV} (hI:Zil I J) {m:EM} {e:PE} (h:SE m e):SI (ZbK I m) (Zi3 J e):=by
 intro μ W S T env pe s n
 refine(h μ W S T env pe s n).bind fun μ1 W1 S1 T1 v p x s1 r1=> ?_
 cases p with
 | dG kvs=>
  cases r1 with
  | @node k o _ w eo ro=>
   cases ro with
   | @dG qs _ a b=>
    simp only [eo]
    have rk:RdT μ1 W1 S1 qs kvs:=⟨a,b⟩
    refine .ok s1 ⟨by simp [rk.len],fun μ' W' S' T' y s2 _ i=> ?_⟩
    have e2:S'[k]? =some (.dG qs):=by rw [y.fr k (s1.lt k w) (s1.dis k w)]; exact eo
    exact Zg7 hI e2 ⟨a,b.step s1 y⟩
 | cell c=>
  obtain⟨k,rfl,hc⟩:=r1.cell_
  simp only
  cases ec:T1[c]? with
  | none=>trivial
  | some q0=>
   obtain⟨o,f1,f2,f3⟩:=s1.cell _ _ _ hc ec
   cases f2 with
   | @dG qs kvs a b=>
    simp only [f1]
    have rk:RdT μ1 W1 S1 qs kvs:=⟨a,b⟩
    refine .ok s1 ⟨by simp [rk.len],fun μ' W' S' T' y s2 o i=> ?_⟩
    obtain⟨ν,e1,l1⟩:=y.pre
    have hc':μ'[c]? =some k:=by rw [e1,Yai (Yaj.mp hc).1]; exact hc
    obtain⟨o',g1,g2,g3⟩:=s2.cell _ _ _ hc' o
    cases g2 with
    | dG a' b'=>
     have z:=Zg7 (i:=i) hI g1 ⟨a',b'⟩
     exact z
   | _=>trivial
 | _=>trivial
end
end MP
namespace MP
open PySem (Str PyData sizeLine)
section
variable {μ:List Nat} {W:Nat→Prop} {S:Zaa} {T:Cs} {v:SV} {p:PV}
end
variable [Gh]
end MP
namespace MP
open PySem PySem.Spec PyProof.Rows
end MP
namespace MP
open PySem PySem.Spec PyProof.Rows
end MP
namespace MP
theorem Rds.pickI {μ:List Nat} {W:Nat→Prop} {S:Zaa} {xs:List SV} {ps:List PV} (r:Rds μ W S xs ps):∀I:List Nat,Rds μ W S (Zca I xs) (Zca I ps)
 | []=> .nil
 | i::I=>by
  unfold Zca
  rw [Ybf,Ybf]
  cases e:ps[i]? with
  | none=>
   have:xs[i]? =none:=YaQ (by rw [r.len]; exact Yay.mp e)
   rw [this]
   exact Rds.pickI r I
  | some p=>
   obtain⟨v,hv,rv⟩:=r.at e
   rw [hv]
   exact .cons rv (Rds.pickI r I)
def Zm4 (k:Nat):P1:=fun x T=>match ZbL T x with
 | some xs=> .ok (.lst (Zcs k xs)) T
 | none=> .bad
theorem S1.step {k:Nat}:S1 (ZhV k) (Zm4 k):=by
 intro μ W S T x p s r
 unfold Zm4
 split
 ·rename_i ps e
  obtain⟨n,xs,rfl,a,b⟩:=r.lst s e
  simp only [ZhV,a]
  have el:Zcs k xs=Zca (PySem.sliceRange 0 (ps.length:Int) (k:Int)) xs:=by unfold Zcs; rw [b.len]
  rw [el]
  obtain⟨y,s1,r1⟩:=s.tree (.lst (b.pickI _))
  exact .okS y s1 r1
 ·trivial
end MP
namespace MP
open PySem (Str PyData sizeLine)
variable [Gh]
end MP
namespace MP
open PySem (Str PyData sizeLine)
variable [Gh]
end MP
namespace MP
open PySem (Str PyData sizeLine)
variable [Gh]
end MP
namespace MP
open PySem (Str PyData sizeLine)
variable [Gh]
def ZoV (e:PE) (c:PV→Cs→Bool) (a b:PI):PI:=fun env T=>match e env T with
 | .ok x T1=>if c x T1=true then a env T else b env T
 | .exc x T1=> .exc x T1
 | .bad=> .bad
theorem SI.k2 {m:EM} {e:PE} (h:SE m e):SI (ZhW m isT (ZbK ZgA m) (Zdg Zgs m)) (ZoV e (fun x T=>Zm1 T x) (Zi3 jtk e) (ZmV jk e)):=by
 intro μ W S T env pe s n
 have z:=h μ W S T env pe s n
 have z1:=SI.dictT Zil.k h μ W S T env pe s n
 have z2:=SI.dict Itm.k h μ W S T env pe s n
 unfold ZoV
 cases q:e pe T with
 | bad=>trivial
 | exc p T1=>
  rw [q]at z
  obtain⟨v,S1,μ1,W1,e1,x,s1,r⟩:=z
  have:ZhW m isT (ZbK ZgA m) (Zdg Zgs m) env S= .exc v S1:=by unfold ZhW; rw [e1]
  rw [this]
  exact⟨v,S1,μ1,W1,rfl,x,s1,r⟩
 | ok p T1=>
  rw [q]at z
  obtain⟨v,S1,μ1,W1,e1,x,s1,r⟩:=z
  have hc:=Zm2 s1 r
  simp only
  by_cases c:Zm1 T1 p=true
  ·rw [if_pos c]
   have:ZhW m isT (ZbK ZgA m) (Zdg Zgs m) env S=ZbK ZgA m env S:=by
    unfold ZhW
    rw [e1]
    simp only
    rw [hc,if_pos c]
   rw [this]
   exact z1
  ·rw [if_neg c]
   have:ZhW m isT (ZbK ZgA m) (Zdg Zgs m) env S=Zdg Zgs m env S:=by
    unfold ZhW
    rw [e1]
    simp only
    rw [hc,if_neg c]
   rw [this]
   exact z2
end MP
namespace MP
open PySem (Str PyData sizeLine)
section
variable {μ:List Nat} {W:Nat→Prop} {S:Zaa}
theorem RdT.merge:∀{ms:List (List Key × SV)} {ns:List (List Key × PV)} {kvs:List (List Key × SV)} {qs:List (List Key × PV)},RdT μ W S ms ns→RdT μ W S kvs qs→RdT μ W S (ZdL kvs ms) (ZdL qs ns)
 | [],[],_,_,_,k=>k
 | [],_::_,_,_,r,_=>nomatch r.1
 | _::_,[],_,_,r,_=>nomatch r.1
 | m::ms,n::ns,kvs,qs,r,k=>by
  obtain⟨e,r⟩:=r
  simp only [Ya0,List.cons.injEq]at e
  cases r with
  | cons c d=>
   have z:=RdT.merge (ms:=ms) (ns:=ns) ⟨e.2,d⟩ (k.put c m.1)
   show RdT μ W S (ZdL (putT kvs m.1 m.2) ms) (ZdL (putT qs n.1 n.2) ns)
   rw [←e.1]
   exact z
end
variable [Gh]
end MP
namespace MP
open PySem
section
variable {μ:List Nat} {W:Nat→Prop} {S:Zaa} {T:Cs}
theorem Zg8 (s:Sm μ W S T):∀{ps:List PV} {xs:List SV} {ds:List PyData},Rds μ W S xs ps→ps.mapM (ZaV 12 T)=some ds→xs.mapM (Zan 12 S)=some ds∧ds.length=ps.length
 | [],xs,ds,r,e=>by
  cases r
  simp at e
  subst e
  exact⟨rfl,rfl⟩
 | p::ps,xs,ds,r,e=>by
  cases r with
  | cons a b=>
   simp only [YaD,YaE,YaF,YaG,Option.some.injEq]at e
   obtain⟨d,e1,ds',e2,rfl⟩:=e
   obtain⟨h1,h2⟩:=Zg8 s b e2
   refine⟨?_,by rw [Yae,Yae,h2]⟩
   rw [YaD,Zcw s 12 a e1,h1]
   rfl
theorem Zg9:∀{ps:List PV} {xs:List SV} {ds:List PyData},Rds μ W S xs ps→ds.length=ps.length→∃L:List (SV × PV × PyData),L.map (fun b=>(b.1,b.2.2))=xs.zip ds∧L.map (fun b=>(b.2.1,b.2.2))=ps.zip ds∧∀b∈L,Rd μ W S b.1 b.2.1
 | [],xs,ds,r,e=>by
  cases r
  exact⟨[],rfl,rfl,fun _ h=>nomatch h⟩
 | p::ps,xs,[],r,e=>by simp at e
 | p::ps,xs,d::ds,r,e=>by
  cases r with
  | @cons x _ xs _ a b=>
   obtain⟨L,h1,h2,h3⟩:=Zg9 (ds:=ds) b (by simpa using e)
   refine⟨(x,p,d)::L,by simp only [Ya0,Yat,h1],by simp only [Ya0,Yat,h2],fun c hc=> ?_⟩
   rcases Yas.mp hc with rfl | hc
   ·exact a
   ·exact h3 c hc
theorem Zha:∀{L:List (SV × PV × PyData)},(∀b∈L,Rd μ W S b.1 b.2.1)→Rds μ W S (L.map (·.1)) (L.map (·.2.1))
 | [],_=> .nil
 | b::L,h=> .cons (h b (Yav ..)) (Zha fun c hc=>h c (Yau _ hc))
theorem Rds.sortQL {ps:List PV} {xs:List SV} {ds:List PyData} (r:Rds μ W S xs ps) (e:ds.length=ps.length):Rds μ W S (MP.sortQL (xs.zip ds)) (MP.sortQL (ps.zip ds)):=by
 obtain⟨L,h1,h2,h3⟩:=Zg9 r e
 have k1:MP.sortQL (xs.zip ds)=(L.mergeSort (PySem.W.dataLe false fun b=>b.2.2)).map (·.1):=by
  unfold MP.sortQL
  rw [←h1,←Ybg (r:=PySem.W.dataLe false fun b:SV × PV × PyData=>b.2.2) (s:=PySem.W.dataLe false Prod.snd) (f:=fun b:SV × PV × PyData=>(b.1,b.2.2)) (fun a _ b _=>rfl),YaJ]
  rfl
 have k2:MP.sortQL (ps.zip ds)=(L.mergeSort (PySem.W.dataLe false fun b=>b.2.2)).map (·.2.1):=by
  unfold MP.sortQL
  rw [←h2,←Ybg (r:=PySem.W.dataLe false fun b:SV × PV × PyData=>b.2.2) (s:=PySem.W.dataLe false Prod.snd) (f:=fun b:SV × PV × PyData=>(b.2.1,b.2.2)) (fun a _ b _=>rfl),YaJ]
  rfl
 rw [k1,k2]
 exact Zha fun b hb=>h3 b ((Ya8 _ _).mem_iff.mp hb)
end
variable [Gh]
def Zcl:PF:=fun xs T=>match xs with
 | [p]=>(match ZbL T p with
  | some ps=>(match ps.mapM (ZaV 12 T)with
   | some ds=>if okQ ds=true∧ps.length≤sizeLine then .ok (.lst (sortQL (ps.zip ds))) T else .bad
   | none=> .bad)
  | none=> .bad)
 | _=> .bad
theorem SF.sortQ:SF ZcY Zcl:=SF.one (fun{μ W S T x p} s r=>by
 simp only [Zcl]
 split
 ·rename_i ps e
  obtain⟨n,xs,rfl,a,b⟩:=r.lst s e
  split
  ·rename_i ds ed
   obtain⟨k1,k2⟩:=Zg8 s b ed
   have kl:xs.length=ps.length:=b.len
   simp only [ZcY,a,k1,kl]
   split
   ·obtain⟨y,s1,r1⟩:=s.tree (.lst (b.sortQL k2))
    exact .okS y s1 r1
   ·trivial
  ·trivial
 ·trivial) (fun ps T h=>by match ps with | []=>rfl | [p]=>exact(h p rfl).elim | _::_::_=>simp only [Zcl])
end MP
namespace MP
open PySem
variable [Gh]
end MP
namespace MP
open PySem
variable [Gh]
end MP
namespace MP
open PySem
variable [Gh]
end MP
namespace MP
open PySem
variable [Gh]
def Zi4 (pt:ZdX) (x y:PV):Cs→ZaR Bool:=fun T=>match Zd9 T x with
 | some c=>(match pt.lookup c with
  | some f=>(Zdv (f [x,y] T)).bind fun v T1=>match v with
   | .bl b=> .ok b T1
   | _=> .bad
  | none=> .bad)
 | none=> .bad
def ZlC {α:Type} (cmp:Nat→Nat→Cs→ZaR Bool):PySem.W.KasT α→Cs→ZaR α
 | .ret a,T=> .ok a T
 | .ask i j k,T=>(cmp i j T).bind fun b T1=>ZlC cmp (k b) T1
def Zhb (T:Cs) (ps:List PV):Bool:=match ps with
 | p::_=>(match Zd9 T p with
  | some c=>ps.all fun z=>decide (Zd9 T z=some c)
  | none=>false)
 | []=>false
def ZnG (ps:List PV) (p:Array Nat):List PV:=p.toList.map fun i=>ps.getD i .non
def Za7 (pt:ZdX):PF:=fun xs T=>match xs with
 | [p]=>(match ZbL T p with
  | some ps=>if ps.length<2 then .ok (.lst ps) T else if 2≤ps.length∧ps.length<64∧Zhb T ps=true then (ZlC (fun i j=>Zi4 pt (ps.getD i .non) (ps.getD j .non)) (PySem.W.kas_sort ps.length) T).bind fun p T1=>if p.size=ps.length∧(∀i∈p.toList,i<ps.length)then .ok (.lst (ZnG ps p)) T1 else .bad else .bad
  | none=> .bad)
 | _=> .bad
section
variable {tb:Zap} {pt:ZdX}
theorem Zd6 {μ:List Nat} {W:Nat→Prop} {S:Zaa}:∀{xs:List SV} {ps:List PV},Rds μ W S xs ps→∀i,Rd μ W S (xs.getD i .non) (ps.getD i .non)
 | _,_, .nil,i=> .non
 | _,_, .cons a b,0=>a
 | _,_, .cons a b,i+1=>Zd6 b i
theorem Zol (h:Za5 tb pt) {μ:List Nat} {W:Nat→Prop} {S:Zaa} {T:Cs} {x y:SV} {p q:PV} (s:Sm μ W S T) (r:Rd μ W S x p) (r2:Rd μ W S y q):Ag μ W S (ZgF tb x y S) (Zi4 pt p q T) fun μ W S a b=>a=b:=by
 unfold ZgF Zi4
 rw [Zdu s r]
 cases Zd9 T p with
 | none=>trivial
 | some c=>
  simp only
  cases e:pt.lookup c with
  | none=>trivial
  | some g=>
   obtain⟨f,e1,hf⟩:=(h.look c).1 g e
   simp only [e1]
   refine(Zfo (hf _ _ _ _ _ _ s (.cons r (.cons r2 .nil)))).bind fun _ _ _ _ v q _ s1 r1=> ?_
   cases q with
   | bl b=>cases Rd.bl_ r1; exact .ok s1 rfl
   | _=>trivial
theorem Zi5 {α:Type} (h:Za5 tb pt) {xs:List SV} {ps:List PV}:∀(t:PySem.W.KasT α) {μ:List Nat} {W:Nat→Prop} {S:Zaa} {T:Cs},Sm μ W S T→Rds μ W S xs ps→
  Ag μ W S (ZiO (fun i j=>ZgF tb (xs.getD i .non) (xs.getD j .non)) t S) (ZlC (fun i j=>Zi4 pt (ps.getD i .non) (ps.getD j .non)) t T) fun μ W S a b=>a=b
 | .ret a,μ,W,S,T,s,r=> .ok s rfl
 | .ask i j k,μ,W,S,T,s,r=>by
  unfold ZiO ZlC
  refine(Zol h s (Zd6 r i) (Zd6 r j)).bind fun μ' W' S' T' v p x s1 e=> ?_
  subst e
  exact Zi5 h (k v) s1 (r.step s x)
theorem Zld {μ:List Nat} {W:Nat→Prop} {S:Zaa} {T:Cs} (s:Sm μ W S T) {xs:List SV} {ps:List PV} (r:Rds μ W S xs ps):ZhX S xs=Zhb T ps:=by
 have al:∀(c:String) {xs:List SV} {ps:List PV},Rds μ W S xs ps→(xs.all fun z=>decide (Zb6 S z=some c))=ps.all fun z=>decide (Zd9 T z=some c):=fun c=>by
  intro xs ps r
  induction ps generalizing xs with
  | nil=>cases r; rfl
  | cons p ps ih=>
   cases r with
   | cons a b=>rw [Ybp,Ybp,ih b,Zdu s a]
 cases r with
 | nil=>rfl
 | @cons x p xs ps a b=>
  simp only [ZhX,Zhb]
  rw [Zdu s a]
  cases Zd9 T p with
  | none=>rfl
  | some c=>exact al c (.cons a b)
theorem Zhc {μ:List Nat} {W:Nat→Prop} {S:Zaa} {xs:List SV} {ps:List PV} (r:Rds μ W S xs ps):∀l:List Nat,Rds μ W S (l.map fun i=>xs.getD i .non) (l.map fun i=>ps.getD i .non)
 | []=> .nil
 | i::l=> .cons (Zd6 r i) (Zhc r l)
theorem SF.sortOwn (h:Za5 tb pt):SF (sortOwn tb) (Za7 pt):=SF.one (fun{μ W S T x p} s r=>by
 simp only [Za7]
 split
 ·rename_i ps e
  obtain⟨n,xs,rfl,a,b⟩:=r.lst s e
  have kl:xs.length=ps.length:=b.len
  simp only [MP.sortOwn,a,kl,Zld s b]
  split
  ·obtain⟨y,s1,r1⟩:=s.tree (.lst b)
   exact .okS y s1 r1
  ·split
   ·refine(Zi5 h _ s b).bind fun μ' W' S' T' v p x s1 e=> ?_
    subst e
    split
    ·obtain⟨y,s2,r2⟩:=s1.tree (.lst (Zhc (b.step s x) v.toList))
     exact .okS y s2 r2
    ·trivial
   ·trivial
 ·trivial) (fun ps T h=>by match ps with | []=>rfl | [p]=>exact(h p rfl).elim | _::_::_=>simp only [Za7])
end
def Zbp (f:List Int→List Int→Bool):P2:=fun x y T=>match x,y with
 | .tup xs, .tup ys=>(match Zdl xs,Zdl ys with
  | some ns,some ms=> .ok (.bl (f ns ms)) T
  | _,_=> .bad)
 | _,_=> .bad
theorem S2.tupC {f:List Int→List Int→Bool}:S2 (tupC f) (Zbp f):=by
 intro μ W S T x y p q s r r'
 unfold Zbp
 split
 ·obtain⟨xs,rfl,a⟩:=r.tup_
  obtain⟨ys,rfl,b⟩:=r'.tup_
  split
  ·rename_i ns ms e1 e2
   simp only [MP.tupC,ZdY a e1,ZdY b e2]
   exact .ok s (.bl _)
  ·trivial
 ·trivial
end MP
namespace MP
open PySem
def rkN (n:Nat) (lt:Nat→Nat→Bool) (i:Nat):Int:=((Ybj n).countP fun m=>lt m i:Nat)
theorem Zdb {α:Type} {p q:α→Bool}:∀{l:List α},(∀x∈l,p x=true→q x=true)→(∃x∈l,p x=false∧q x=true)→l.countP p<l.countP q
 | [],_,h=>by obtain⟨_,h,_⟩:=h; cases h
 | x::l,h1,h2=>by
  have mono:∀{l:List α},(∀x∈l,p x=true→q x=true)→l.countP p≤l.countP q:=fun h=>YbR h
  have hl:∀y∈l,p y=true→q y=true:=fun y hy=>h1 y (Yau _ hy)
  obtain⟨y,hy,a,b⟩:=h2
  rcases Yas.mp hy with e | hy
  ·rw [←e,YbS (by simp [a]),YbT b]
   have:=mono hl
   omega
  ·have:=Zdb hl ⟨y,hy,a,b⟩
   cases px:p x with
   | true=>rw [YbT px,YbT (h1 x (Yav ..) px)]; omega
   | false=>
    rw [YbS (by simp [px])]
    cases qx:q x with
    | true=>rw [YbT qx]; omega
    | false=>rw [YbS (by simp [qx])]; exact this
theorem Zi6 {n:Nat} {lt:Nat→Nat→Bool} (O:SrtO.Swo lt) {i j:Nat} (hi:i<n):decide (rkN n lt i<rkN n lt j)=lt i j:=by
 unfold rkN
 cases e:lt i j with
 | true=>
  have:=Zdb (l:=Ybj n) (p:=fun m=>lt m i) (q:=fun m=>lt m j) (fun m _ h=>by
   cases z:lt m j with
   | true=>rfl
   | false=>
    have a:=O.ltle h (O.asym _ _ e)
    rw [z]at a; cases a) ⟨i,YbU.mpr hi,O.refl i,e⟩
  exact decide_eq_true (by omega)
 | false=>
  have:(Ybj n).countP (fun m=>lt m j)≤(Ybj n).countP (fun m=>lt m i):=YbR fun m _ h=>by
   have h:lt m j=true:=h
   show lt m i=true
   exact O.ltle h e
  exact decide_eq_false (by omega)
theorem Zi7 {α:Type} {r:Nat→Int} {n:Nat} {cmp:Nat→Nat→Cs→ZaR Bool} {T:Cs} {Q:α→Prop} (hc:∀i j,i<n→j<n→cmp i j T= .ok (decide (r i<r j)) T):∀t:PySem.W.KasT α,KSR.Go r n Q t→∃a,ZlC cmp t T= .ok a T∧Q a
 | .ret a,q=>⟨a,rfl,q⟩
 | .ask i j k,q=>by
  obtain⟨h1,h2,h3⟩:=q
  obtain⟨a,e,q⟩:=Zi7 hc (k (decide (r i<r j))) h3
  refine⟨a, ?_,q⟩
  unfold ZlC
  rw [hc i j h1 h2]
  exact e
variable [Gh]
theorem Zhd {pt:ZdX} {T:Cs} {v:PV} {ps:List PV} {lt:PV→PV→Bool} (hv:ZbL T v=some ps) (O:SrtO.Swo lt) (h64:ps.length<64) (hs:2≤ps.length→Zhb T ps=true) (hc:∀p∈ps,∀q∈ps,Zi4 pt p q T= .ok (lt p q) T):
  ∃qs:List PV,Za7 pt [v] T= .ok (.lst qs) T∧qs.Perm ps∧qs.Pairwise fun p q=>lt q p=false:=by
 simp only [Za7,hv]
 by_cases c:ps.length<2
 ·rw [if_pos c]
  refine⟨ps,rfl, .refl _, ?_⟩
  match ps,c with
  | [],_=>exact .nil
  | [p],_=>exact List.pairwise_singleton ..
  | _::_::_,c=>simp at c; omega
 rw [if_neg c,if_pos ⟨by omega,h64,hs (by omega)⟩]
 have mem:∀i,i<ps.length→ps.getD i .non∈ps:=fun i hi=>by
  rw [Ybl,YaY hi]
  exact Yba hi
 have O2:SrtO.Swo fun i j=>lt (ps.getD i .non) (ps.getD j .non):=⟨fun x y h=>O.asym _ _ h,fun x y z h1 h2=>O.tr _ _ _ h1 h2⟩
 obtain⟨p,e,ok,up⟩:=Zi7 (T:=T) (cmp:=fun i j=>Zi4 pt (ps.getD i .non) (ps.getD j .non)) (r:=rkN ps.length fun i j=>lt (ps.getD i .non) (ps.getD j .non)) (n:=ps.length) (fun i j hi hj=>by rw [Zi6 O2 hi]; exact hc _ (mem i hi) _ (mem j hj)) _ (KSR.sort_go (r:=rkN ps.length fun i j=>lt (ps.getD i .non) (ps.getD j .non)) (n:=ps.length) (by omega))
 rw [e]
 have sz:=ok.size
 have inr:∀i∈p.toList,i<ps.length:=fun i hi=>YbU.mp ((List.Perm.mem_iff ok).mp hi)
 refine⟨ZnG ps p, ?_, ?_, ?_⟩
 ·simp only [Zaf]
  rw [if_pos ⟨sz,inr⟩]
 ·unfold ZnG
  have z:(Ybj ps.length).map (fun i=>ps.getD i .non)=ps:=by
   apply List.ext_getElem
   ·simp
   ·intro i h1 h2
    simp only [List.getElem_map,List.getElem_range]
    rw [Ybl,YaY h2]
    rfl
  have k:=List.Perm.map (fun i=>ps.getD i PV.non) ok
  rw [z]at k
  exact k
 ·unfold ZnG
  rw [List.pairwise_map,List.pairwise_iff_getElem]
  intro i j hi hj hij
  have hj2:j<ps.length:=by rw [Ya9,sz]at hj; exact hj
  have u:=up i j (by omega) hj2
  unfold KSR.R at u
  have g:∀k (hk:k<p.toList.length),p.getD k 0=p.toList[k]:=fun k hk=>by
   have hk':k<p.size:=by rw [Ya9]at hk; exact hk
   simp [Array.getD,hk']
  rw [g i hi,g j hj]at u
  have l:=Zi6 O2 (i:=p.toList[j]) (j:=p.toList[i]) (inr _ (Yba hj))
  rw [decide_eq_false (by omega)]at l
  exact l.symm
end MP
open MP.S2 renaming tupC → YcR
namespace MPL
open PySem MP
def Zbb:PF:=fun xs=>if xs.length=1 then Zdt 3 (Za3 (ZbB (p2 (ZiV) (pF (Zav) (Zab (Zae 0) (Zab (pF (ZaM) (Zab (Zae 0) (Zab (Zds (Zab (pC (.int 4)) (Zab (pC (.int 4)) (Zab (p2 (ZgP) (pC (.int 10)) (pC (.int 50))) (Zaq))))) (Zaq)))) (Zaq)))) (pF (ZaM) (Zab (Zae 0) (Zab (Zds (Zab (pC (.int 0)) (Zab (pC (.int 2)) (Zab (p2 (ZgP) (pC (.int 10)) (pC (.int 49))) (Zaq))))) (Zaq))))) (ZaU 1)) (Za3 (ZbB (pF (Zav) (Zab (Zae 0) (Zab (pC (.int 6)) (Zaq)))) (ZaU 2)) (Za3 (ZbX (qB (p2 (eqP) (Zae 2) (pC (.int 0)))) (Zbe (ZcI (Zab (Zae 1) (Zab (pC .non) (Zaq))))) (Zb0)) (Zbe (ZcI (Zab (Zae 1) (Zab (p2 (ZiV) (p2 (ZeJ) (Zae 1) (pF (Zav) (Zab (Zae 0) (Zab (pF (ZaM) (Zab (Zae 0) (Zab (Zds (Zab (pC (.int 3)) (Zab (p2 (ZgP) (pC (.int 10)) (pC (.int 40))) (Zaq)))) (Zaq)))) (Zaq))))) (pF (Zh4) (Zab (p2 (eqP) (Zae 2) (pC (.int 1))) (Zaq)))) (Zaq)))))))) xs else Zby
theorem ZeE:SF Za9 Zbb:=by unfold Za9 Zbb; exact YcG (Ycf (Ycw (Ycb (S2.sub) (YcJ (Zbn) (Yb2 (Yb4 _) (Yb2 (YcJ (ZbG) (Yb2 (Yb4 _) (Yb2 (Ydd (Yb2 (Yb6 _) (Yb2 (Yb6 _) (Yb2 (Ycb (S2.pow) (Yb6 _) (Yb6 _)) (Yca))))) (Yca)))) (Yca)))) (YcJ (ZbG) (Yb2 (Yb4 _) (Yb2 (Ydd (Yb2 (Yb6 _) (Yb2 (Yb6 _) (Yb2 (Ycb (S2.pow) (Yb6 _) (Yb6 _)) (Yca))))) (Yca))))) (Ycl _)) (Ycf (Ycw (YcJ (Zbn) (Yb2 (Yb4 _) (Yb2 (Yb6 _) (Yca)))) (Ycl _)) (Ycf (YcL (ST.B (Ycb (S2.eq) (Yb4 _) (Yb6 _))) (Yco (YcY (Yb2 (Yb4 _) (Yb2 (YcZ) (Yca))))) (YcM)) (Yco (YcY (Yb2 (Yb4 _) (Yb2 (Ycb (S2.sub) (Ycb (S2.add) (Yb4 _) (YcJ (Zbn) (Yb2 (Yb4 _) (Yb2 (YcJ (ZbG) (Yb2 (Yb4 _) (Yb2 (Ydd (Yb2 (Yb6 _) (Yb2 (Ycb (S2.pow) (Yb6 _) (Yb6 _)) (Yca)))) (Yca)))) (Yca))))) (YcJ (SF.int) (Yb2 (Ycb (S2.eq) (Yb4 _) (Yb6 _)) (Yca)))) (Yca))))))))
def Zbc:PF:=fun xs=>if xs.length=3 then Zdt 3 (Zbe (ZeV (pF (Zdm ["Range"] ["int","bool","str","list","tuple","dict"]) (Zab (Zae 0) (Zab (pC (.ty "int")) (Zaq)))) (ZeV (p1 (notP) (pF (Zdm ["Range"] ["int","bool","str","list","tuple","dict"]) (Zab (Zae 0) (Zab (pC (.ty "bool")) (Zaq))))) (ZcZ (leP) (leP) (Zae 1) (Zae 0) (Zae 2))))) xs else Zby
theorem ZeF:SF Zba Zbc:=by unfold Zba Zbc; exact YcG (Yco (SE.and (YcJ (Yde) (Yb2 (Yb4 _) (Yb2 (SE.ty _) (Yca)))) (SE.and (YcO (S1.not) (YcJ (Yde) (Yb2 (Yb4 _) (Yb2 (SE.ty _) (Yca))))) (SE.chain (S2.le) (S2.le) (Yb4 _) (Yb4 _) (Yb4 _)))))
def Zbm:PF:=fun xs=>if xs.length=1 then Zdt 1 (Zbe (pF (Zbc) (Zab (Zae 0) (Zab (p1 (Zho) (pC (.int (999999999999999999999999999999999999999999999999999999999999)))) (Zab (pC (.int (999999999999999999999999999999999999999999999999999999999999))) (Zaq)))))) xs else Zby
theorem ZdA:SF Zbl Zbm:=by unfold Zbl Zbm; exact YcG (Yco (YcJ (ZeF) (Yb2 (Yb4 _) (Yb2 (YcO (S1.neg) (Yb6 _)) (Yb2 (Yb6 _) (Yca))))))
def Zam:PF:=fun xs=>if xs.length=3 then Zdt 4 (Za3 (ZbX (Zc0 (qT (pF (Zbm) (Zab (Zae 1) (Zaq))))) (ZgO "InvalidRange" "value" (Zae 1)) (Zb0)) (Za3 (ZbX (ZhY (qB (p2 (Zhp) (Zae 2) (pC .non))) (Zc0 (qT (pF (Zbm) (Zab (Zae 2) (Zaq)))))) (ZgO "InvalidRange" "value" (Zae 2)) (Zb0)) (Za3 (ZbB (ZeV (p2 (Zhp) (Zae 2) (pC .non)) (p2 (ltP) (Zae 2) (Zae 1))) (ZaU 3)) (Za3 (ZfX ["Range"] "own_first" (Zae 0) (pIf (qT (Zae 3)) (pC .non) (Zae 1))) (Za3 (ZfX ["Range"] "own_last" (Zae 0) (pIf (qT (Zae 3)) (pC .non) (Zae 2))) (Za3 (ZfX ["Range"] "rank" (Zae 0) (ZcI (Zab (pC (.int 0)) (Zab (pC (.int 0)) (Zab (pC (.int 0)) (Zab (pC (.int 0)) (Zaq))))))) (ZbX (Zc0 (qT (Zae 3))) (ZfX ["Range"] "rank" (Zae 0) (ZcI (Zab (pC (.int 1)) (Zab (Zae 1) (Zab (pF (Zh4) (Zab (p2 (isP) (Zae 2) (pC .non)) (Zaq))) (Zab (pIf (qB (p2 (isP) (Zae 2) (pC .non))) (pC (.int 0)) (Zae 2)) (Zaq))))))) (Zb0)))))))) xs else Zby
theorem ZaN:SF Zal Zam:=by unfold Zal Zam; exact YcG (Ycf (YcL (Yc5 (ST.T (YcJ (ZdA) (Yb2 (Yb4 _) (Yca))))) (SS.raise_ (Yb4 _)) (YcM)) (Ycf (YcL (ST.and (ST.B (Ycb (S2.isn) (Yb4 _) (YcZ))) (Yc5 (ST.T (YcJ (ZdA) (Yb2 (Yb4 _) (Yca)))))) (SS.raise_ (Yb4 _)) (YcM)) (Ycf (Ycw (SE.and (Ycb (S2.isn) (Yb4 _) (YcZ)) (Ycb (S2.lt) (Yb4 _) (Yb4 _))) (Ycl _)) (Ycf (SS.fld (Yb4 _) (SE.ite (ST.T (Yb4 _)) (YcZ) (Yb4 _))) (Ycf (SS.fld (Yb4 _) (SE.ite (ST.T (Yb4 _)) (YcZ) (Yb4 _))) (Ycf (SS.fld (Yb4 _) (YcY (Yb2 (Yb6 _) (Yb2 (Yb6 _) (Yb2 (Yb6 _) (Yb2 (Yb6 _) (Yca))))))) (YcL (Yc5 (ST.T (Yb4 _))) (SS.fld (Yb4 _) (YcY (Yb2 (Yb6 _) (Yb2 (Yb4 _) (Yb2 (YcJ (SF.int) (Yb2 (Ycb (S2.is) (Yb4 _) (YcZ)) (Yca))) (Yb2 (SE.ite (ST.B (Ycb (S2.is) (Yb4 _) (YcZ))) (Yb6 _) (Yb4 _)) (Yca))))))) (YcM))))))))
def Zar:PF:=fun xs=>if xs.length=1 then Zdt 3 (Za3 (ZbB (Zae 0) (ZiS [ZaU 1,ZaU 2])) (Za3 (ZbX (qB (p2 (isP) (Zae 2) (pC .non))) (Zbe (ZcI (Zab (pC (.int 1)) (Zab (Zae 1) (Zab (pC (.int 1)) (Zab (pC (.int 0)) (Zaq))))))) (Zb0)) (Zbe (pIf (qB (p2 (ltP) (Zae 2) (Zae 1))) (ZcI (Zab (pC (.int 0)) (Zab (pC (.int 0)) (Zab (pC (.int 0)) (Zab (pC (.int 0)) (Zaq)))))) (ZcI (Zab (pC (.int 1)) (Zab (Zae 1) (Zab (pC (.int 0)) (Zab (Zae 2) (Zaq)))))))))) xs else Zby
theorem ZbU:SF ZaX Zar:=by unfold ZaX Zar; exact YcG (Ycf (Ycw (Yb4 _) (SG.tup (SGs.cons (Ycl _) (SGs.cons (Ycl _) (SGs.nil))))) (Ycf (YcL (ST.B (Ycb (S2.is) (Yb4 _) (YcZ))) (Yco (YcY (Yb2 (Yb6 _) (Yb2 (Yb4 _) (Yb2 (Yb6 _) (Yb2 (Yb6 _) (Yca))))))) (YcM)) (Yco (SE.ite (ST.B (Ycb (S2.lt) (Yb4 _) (Yb4 _))) (YcY (Yb2 (Yb6 _) (Yb2 (Yb6 _) (Yb2 (Yb6 _) (Yb2 (Yb6 _) (Yca)))))) (YcY (Yb2 (Yb6 _) (Yb2 (Yb4 _) (Yb2 (Yb6 _) (Yb2 (Yb4 _) (Yca))))))))))
def Zad:PF:=fun xs=>if xs.length=2 then Zdt 2 (Zbe (ZeV (pF (Zdm ["Range"] ["int","bool","str","list","tuple","dict"]) (Zab (Zae 1) (Zab (pC (.cls "Range")) (Zaq)))) (p2 (eqP) (p1 (ZcJ ["Range"] "rank") (Zae 0)) (p1 (ZcJ ["Range"] "rank") (Zae 1))))) xs else Zby
theorem Zay:SF Zaj Zad:=by unfold Zaj Zad; exact YcG (Yco (SE.and (YcJ (Yde) (Yb2 (Yb4 _) (Yb2 (SE.cls _) (Yca)))) (Ycb (S2.eq) (YcO (YcN) (Yb4 _)) (YcO (YcN) (Yb4 _)))))
def Zah:PF:=fun xs=>if xs.length=2 then Zdt 2 (Za3 (ZbX (Zc0 (qT (pF (Zdm ["Range"] ["int","bool","str","list","tuple","dict"]) (Zab (Zae 1) (Zab (pC (.cls "Range")) (Zaq)))))) (Zbe (ZmC)) (Zb0)) (Zbe (p2 (ltP) (p1 (ZcJ ["Range"] "rank") (Zae 0)) (p1 (ZcJ ["Range"] "rank") (Zae 1))))) xs else Zby
theorem Zbz:SF Zax Zah:=by unfold Zax Zah; exact YcG (Ycf (YcL (Yc5 (ST.T (YcJ (Yde) (Yb2 (Yb4 _) (Yb2 (SE.cls _) (Yca)))))) (Yco (SE.bad)) (YcM)) (Yco (Ycb (S2.lt) (YcO (YcN) (Yb4 _)) (YcO (YcN) (Yb4 _)))))
def ZaB:PF:=fun xs=>if xs.length=2 then Zdt 2 (Za3 (ZbX (Zc0 (qT (pF (Zdm ["Range"] ["int","bool","str","list","tuple","dict"]) (Zab (Zae 1) (Zab (pC (.cls "Range")) (Zaq)))))) (Zbe (ZmC)) (Zb0)) (Zbe (p2 (Zbp leL) (p1 (ZcJ ["Range"] "rank") (Zae 0)) (p1 (ZcJ ["Range"] "rank") (Zae 1))))) xs else Zby
theorem Zb3:SF ZaO ZaB:=by unfold ZaO ZaB; exact YcG (Ycf (YcL (Yc5 (ST.T (YcJ (Yde) (Yb2 (Yb4 _) (Yb2 (SE.cls _) (Yca)))))) (Yco (SE.bad)) (YcM)) (Yco (Ycb (YcR) (YcO (YcN) (Yb4 _)) (YcO (YcN) (Yb4 _)))))
def ZaC:PF:=fun xs=>if xs.length=2 then Zdt 2 (Za3 (ZbX (Zc0 (qT (pF (Zdm ["Range"] ["int","bool","str","list","tuple","dict"]) (Zab (Zae 1) (Zab (pC (.cls "Range")) (Zaq)))))) (Zbe (ZmC)) (Zb0)) (Zbe (p2 (Zbp gtL) (p1 (ZcJ ["Range"] "rank") (Zae 0)) (p1 (ZcJ ["Range"] "rank") (Zae 1))))) xs else Zby
theorem Zb4:SF ZaP ZaC:=by unfold ZaP ZaC; exact YcG (Ycf (YcL (Yc5 (ST.T (YcJ (Yde) (Yb2 (Yb4 _) (Yb2 (SE.cls _) (Yca)))))) (Yco (SE.bad)) (YcM)) (Yco (Ycb (YcR) (YcO (YcN) (Yb4 _)) (YcO (YcN) (Yb4 _)))))
def ZaD:PF:=fun xs=>if xs.length=2 then Zdt 2 (Za3 (ZbX (Zc0 (qT (pF (Zdm ["Range"] ["int","bool","str","list","tuple","dict"]) (Zab (Zae 1) (Zab (pC (.cls "Range")) (Zaq)))))) (Zbe (ZmC)) (Zb0)) (Zbe (p2 (Zbp geL) (p1 (ZcJ ["Range"] "rank") (Zae 0)) (p1 (ZcJ ["Range"] "rank") (Zae 1))))) xs else Zby
theorem Zb5:SF ZaQ ZaD:=by unfold ZaQ ZaD; exact YcG (Ycf (YcL (Yc5 (ST.T (YcJ (Yde) (Yb2 (Yb4 _) (Yb2 (SE.cls _) (Yca)))))) (Yco (SE.bad)) (YcM)) (Yco (Ycb (YcR) (YcO (YcN) (Yb4 _)) (YcO (YcN) (Yb4 _)))))
def Zaz:PF:=fun xs=>if xs.length=2 then Zdt 8 (Za3 (ZbB (ZcI (Zab (pF (ZdW "Range" (Zam)) (Zab (p2 (ixP) (Zae 0) (pC (.int 0))) (Zab (p2 (ixP) (Zae 0) (pC (.int 1))) (Zaq)))) (Zab (pF (ZdW "Range" (Zam)) (Zab (p2 (ixP) (Zae 1) (pC (.int 0))) (Zab (p2 (ixP) (Zae 1) (pC (.int 1))) (Zaq)))) (Zab (pF (Zar) (Zab (Zae 0) (Zaq))) (Zab (pF (Zar) (Zab (Zae 1) (Zaq))) (Zaq)))))) (ZiS [ZaU 2,ZaU 3,ZaU 4,ZaU 5])) (Za3 (ZbB (Zds (Zab (p2 (ZbM (Zbh [("Range",Zad)] ["Range"]) (eqP)) (Zae 2) (Zae 3)) (Zab (p2 (ZbM (Zcj [("Range",Zad)] ["Range"]) (neP)) (Zae 2) (Zae 3)) (Zab (p2 (ZbM (Zbh [("Range",Zah)] ["Range"]) (ltP)) (Zae 2) (Zae 3)) (Zab (p2 (ZbM (Zbh [("Range",ZaB)] ["Range"]) (Zbp leL)) (Zae 2) (Zae 3)) (Zab (p2 (ZbM (Zbh [("Range",ZaC)] ["Range"]) (Zbp gtL)) (Zae 2) (Zae 3)) (Zab (p2 (ZbM (Zbh [("Range",ZaD)] ["Range"]) (Zbp geL)) (Zae 2) (Zae 3)) (Zaq)))))))) (ZaU 6)) (Za3 (ZbB (Zds (Zab (p2 (ZbM (Zbh [("Range",Zad)] ["Range"]) (eqP)) (Zae 4) (Zae 5)) (Zab (p2 (ZbM (Zcj [("Range",Zad)] ["Range"]) (neP)) (Zae 4) (Zae 5)) (Zab (p2 (ZbM (Zbh [("Range",Zah)] ["Range"]) (ltP)) (Zae 4) (Zae 5)) (Zab (p2 (ZbM (Zbh [("Range",ZaB)] ["Range"]) (Zbp leL)) (Zae 4) (Zae 5)) (Zab (p2 (ZbM (Zbh [("Range",ZaC)] ["Range"]) (Zbp gtL)) (Zae 4) (Zae 5)) (Zab (p2 (ZbM (Zbh [("Range",ZaD)] ["Range"]) (Zbp geL)) (Zae 4) (Zae 5)) (Zaq)))))))) (ZaU 7)) (Zbe (p2 (ZbM (Zbh [("Range",Zad)] ["Range"]) (eqP)) (pF (ZeA true) (Zab (Zae 6) (Zaq))) (pF (ZeA true) (Zab (Zae 7) (Zaq)))))))) xs else Zby
theorem ZcA:SF ZaH Zaz:=by unfold ZaH Zaz; exact YcG (Ycf (Ycw (YcY (Yb2 (YcJ (SF.make (ZaN)) (Yb2 (Ycb (Ycx) (Yb4 _) (Yb6 _)) (Yb2 (Ycb (Ycx) (Yb4 _) (Yb6 _)) (Yca)))) (Yb2 (YcJ (SF.make (ZaN)) (Yb2 (Ycb (Ycx) (Yb4 _) (Yb6 _)) (Yb2 (Ycb (Ycx) (Yb4 _) (Yb6 _)) (Yca)))) (Yb2 (YcJ (ZbU) (Yb2 (Yb4 _) (Yca))) (Yb2 (YcJ (ZbU) (Yb2 (Yb4 _) (Yca))) (Yca)))))) (SG.tup (SGs.cons (Ycl _) (SGs.cons (Ycl _) (SGs.cons (Ycl _) (SGs.cons (Ycl _) (SGs.nil))))))) (Ycf (Ycw (Ydd (Yb2 (Ycb (YcD (YcE (Za5.cons (Zay) (Za5.nil))) (S2.eq)) (Yb4 _) (Yb4 _)) (Yb2 (Ycb (YcD (S2.ownN (Za5.cons (Zay) (Za5.nil))) (S2.ne)) (Yb4 _) (Yb4 _)) (Yb2 (Ycb (YcD (YcE (Za5.cons (Zbz) (Za5.nil))) (S2.lt)) (Yb4 _) (Yb4 _)) (Yb2 (Ycb (YcD (YcE (Za5.cons (Zb3) (Za5.nil))) (YcR)) (Yb4 _) (Yb4 _)) (Yb2 (Ycb (YcD (YcE (Za5.cons (Zb4) (Za5.nil))) (YcR)) (Yb4 _) (Yb4 _)) (Yb2 (Ycb (YcD (YcE (Za5.cons (Zb5) (Za5.nil))) (YcR)) (Yb4 _) (Yb4 _)) (Yca)))))))) (Ycl _)) (Ycf (Ycw (Ydd (Yb2 (Ycb (YcD (YcE (Za5.cons (Zay) (Za5.nil))) (S2.eq)) (Yb4 _) (Yb4 _)) (Yb2 (Ycb (YcD (S2.ownN (Za5.cons (Zay) (Za5.nil))) (S2.ne)) (Yb4 _) (Yb4 _)) (Yb2 (Ycb (YcD (YcE (Za5.cons (Zbz) (Za5.nil))) (S2.lt)) (Yb4 _) (Yb4 _)) (Yb2 (Ycb (YcD (YcE (Za5.cons (Zb3) (Za5.nil))) (YcR)) (Yb4 _) (Yb4 _)) (Yb2 (Ycb (YcD (YcE (Za5.cons (Zb4) (Za5.nil))) (YcR)) (Yb4 _) (Yb4 _)) (Yb2 (Ycb (YcD (YcE (Za5.cons (Zb5) (Za5.nil))) (YcR)) (Yb4 _) (Yb4 _)) (Yca)))))))) (Ycl _)) (Yco (Ycb (YcD (YcE (Za5.cons (Zay) (Za5.nil))) (S2.eq)) (YcJ (SF.repr) (Yb2 (Yb4 _) (Yca))) (YcJ (SF.repr) (Yb2 (Yb4 _) (Yca))))))))
def Zak:PF:=fun xs=>if xs.length=1 then Zdt 1 (Zbe (p1 (ZcJ ["Range"] "own_first") (Zae 0))) xs else Zby
theorem Zbu:SF Zau Zak:=by unfold Zau Zak; exact YcG (Yco (YcO (YcN) (Yb4 _)))
def Zas:PF:=fun xs=>if xs.length=1 then Zdt 1 (Zbe (p1 (ZcJ ["Range"] "own_last") (Zae 0))) xs else Zby
theorem ZcB:SF ZaI Zas:=by unfold ZaI Zas; exact YcG (Yco (YcO (YcN) (Yb4 _)))
def ZbV:PE:=pF (Zbb) (Zab (Zae 2) (Zaq))
theorem Zim [Gh]:SE ZdO ZbV:=by unfold ZdO ZbV; exact YcJ (ZeE) (Yb2 (Yb4 _) (Yca))
def Zcm:PSM:=ZbX (Zc0 (qT (pF (Zaz) (Zab (Zae 4) (Zab (Zae 5) (Zaq)))))) (Zbe (pC (.bl false))) (Zb0)
theorem Zin [Gh]:SS ZdP Zcm:=by unfold ZdP Zcm; exact YcL (Yc5 (ST.T (YcJ (ZcA) (Yb2 (Yb4 _) (Yb2 (Yb4 _) (Yca)))))) (Yco (SE.bl _)) (YcM)
def ZbH:PSM:=Zev (Zb1 (Zae 3)) (ZaU 5) (Zcm)
theorem Zio [Gh]:SS ZdQ ZbH:=by unfold ZdQ ZbH; exact SS.for_ (SI.seq (Yb4 _)) (Ycl _) (Zin)
def ZbI:PSM:=ZbX (qOr (qB (p2 (ZbM (Zbh [("Range",Zad)] ["Range"]) (eqP)) (pF (ZdW "Range" (Zam)) (Zab (p2 (ixP) (p2 (ixP) (Zae 3) (pC (.int 0))) (pC (.int 0))) (Zab (p2 (ixP) (p2 (ixP) (Zae 3) (pC (.int 0))) (pC (.int 1))) (Zaq)))) (Zae 6))) (Zc0 (qB (p2 (ZbM (Zcj [("Range",Zad)] ["Range"]) (neP)) (pF (ZdW "Range" (Zam)) (Zab (p2 (ixP) (p2 (ixP) (Zae 3) (pC (.int 0))) (pC (.int 0))) (Zab (p2 (ixP) (p2 (ixP) (Zae 3) (pC (.int 0))) (pC (.int 1))) (Zaq)))) (Zae 6))))) (Zbe (pC (.bl false))) (Zb0)
theorem Ziq [Gh]:SS ZdR ZbI:=by unfold ZdR ZbI; exact YcL (ST.or (ST.B (Ycb (YcD (YcE (Za5.cons (Zay) (Za5.nil))) (S2.eq)) (YcJ (SF.make (ZaN)) (Yb2 (Ycb (Ycx) (Ycb (Ycx) (Yb4 _) (Yb6 _)) (Yb6 _)) (Yb2 (Ycb (Ycx) (Ycb (Ycx) (Yb4 _) (Yb6 _)) (Yb6 _)) (Yca)))) (Yb4 _))) (Yc5 (ST.B (Ycb (YcD (S2.ownN (Za5.cons (Zay) (Za5.nil))) (S2.ne)) (YcJ (SF.make (ZaN)) (Yb2 (Ycb (Ycx) (Ycb (Ycx) (Yb4 _) (Yb6 _)) (Yb6 _)) (Yb2 (Ycb (Ycx) (Ycb (Ycx) (Yb4 _) (Yb6 _)) (Yb6 _)) (Yca)))) (Yb4 _))))) (Yco (SE.bl _)) (YcM)
def Zbi:PE:=pF (ZdW "Range" (Zam)) (Zab (p2 (ixP) (Zae 4) (pC (.int 0))) (Zab (p2 (ixP) (Zae 4) (pC (.int 1))) (Zaq)))
theorem Zir [Gh]:SE ZdS Zbi:=by unfold ZdS Zbi; exact YcJ (SF.make (ZaN)) (Yb2 (Ycb (Ycx) (Yb4 _) (Yb6 _)) (Yb2 (Ycb (Ycx) (Yb4 _) (Yb6 _)) (Yca)))
def Zbj:PE:=pF (Zar) (Zab (Zae 4) (Zaq))
theorem Zis [Gh]:SE ZdT Zbj:=by unfold ZdT Zbj; exact YcJ (ZbU) (Yb2 (Yb4 _) (Yca))
def Zbk:PE:=pF (Zar) (Zab (pIf (qB (p2 (isP) (p1 (Zey [] "first" [("Range",Zak)]) (Zae 10)) (pC .non))) (ZcI (Zab (pC (.int 0)) (Zab (p1 (Zho) (pC (.int 1))) (Zaq)))) (ZcI (Zab (p1 (Zey [] "first" [("Range",Zak)]) (Zae 10)) (Zab (p1 (Zey [] "last" [("Range",Zas)]) (Zae 10)) (Zaq))))) (Zaq))
theorem Zit [Gh]:SE ZdU Zbk:=by unfold ZdU Zbk; exact YcJ (ZbU) (Yb2 (SE.ite (ST.B (Ycb (S2.is) (YcO (S1.attr (Za5.cons (Zbu) (Za5.nil))) (Yb4 _)) (YcZ))) (YcY (Yb2 (Yb6 _) (Yb2 (YcO (S1.neg) (Yb6 _)) (Yca)))) (YcY (Yb2 (YcO (S1.attr (Za5.cons (Zbu) (Za5.nil))) (Yb4 _)) (Yb2 (YcO (S1.attr (Za5.cons (ZcB) (Za5.nil))) (Yb4 _)) (Yca))))) (Yca))
def ZbJ:PSM:=Za3 (ZbB (pF (ZaY) (Zab (Zae 0) (Zab (Zae 1) (Zaq)))) (ZaU 2)) (Za3 (ZbB (pLc (jR1 (p2 (ZeJ) (pC (.int 2)) (pF (Zav) (Zab (Zae 2) (Zab (pC (.int 8)) (Zaq)))))) (ZaU 9) (Zc1) (ZbV) [9]) (ZaU 3)) (Za3 (Zev (Zb1 (Zae 3)) (ZaU 4) (ZbH)) (Za3 (Zev (Zb1 (Zds (Zab (pC .non) (Zab (pC (.int 5)) (Zab (pC (.bl true)) (Zab (pC (.str "empty")) (Zab (p2 (ixP) (Zae 3) (pC (.int 0))) (Zab (Zds (Zab (p2 (ixP) (p2 (ixP) (Zae 3) (pC (.int 0))) (pC (.int 0))) (Zab (p2 (ixP) (p2 (ixP) (Zae 3) (pC (.int 0))) (pC (.int 1))) (Zaq)))) (Zab (Zdw) (Zaq)))))))))) (ZaU 6) (ZbI)) (Za3 (ZbB (pF (Za7 [("Range",Zah)]) (Zab (pLc (Zb1 (Zae 3)) (ZaU 4) (Zc1) (Zbi) [4]) (Zaq))) (ZaU 7)) (Za3 (ZbB (pF (Ze2 (fun xs T=>Ze3 xs T) (Zc7) (Zcl)) (Zab (pLc (Zb1 (Zae 3)) (ZaU 4) (Zc1) (Zbj) [4]) (Zaq))) (ZaU 8)) (ZbX (qB (p2 (ZbM (Zcj [("Range",Zad)] ["Range"]) (neP)) (pLc (Zb1 (Zae 7)) (ZaU 10) (Zc1) (Zbk) [10]) (Zae 8))) (Zbe (pC (.bl false))) (Zb0)))))))
theorem Ziu [Gh]:SS ZdV ZbJ:=by unfold ZdV ZbJ; exact Ycf (Ycw (YcJ (Zd3) (Yb2 (Yb4 _) (Yb2 (Yb4 _) (Yca)))) (Ycl _)) (Ycf (Ycw (SE.lc (SI.r1 (Ycb (S2.add) (Yb6 _) (YcJ (Zbn) (Yb2 (Yb4 _) (Yb2 (Yb6 _) (Yca)))))) (Ycl _) (ST.yes) (Zim)) (Ycl _)) (Ycf (SS.for_ (SI.seq (Yb4 _)) (Ycl _) (Zio)) (Ycf (SS.for_ (SI.seq (Ydd (Yb2 (YcZ) (Yb2 (Yb6 _) (Yb2 (SE.bl _) (Yb2 (SE.str _) (Yb2 (Ycb (Ycx) (Yb4 _) (Yb6 _)) (Yb2 (Ydd (Yb2 (Ycb (Ycx) (Ycb (Ycx) (Yb4 _) (Yb6 _)) (Yb6 _)) (Yb2 (Ycb (Ycx) (Ycb (Ycx) (Yb4 _) (Yb6 _)) (Yb6 _)) (Yca)))) (Yb2 (SE.dict0) (Yca)))))))))) (Ycl _) (Ziq)) (Ycf (Ycw (YcJ (SF.sortOwn (Za5.cons (Zbz) (Za5.nil))) (Yb2 (SE.lc (SI.seq (Yb4 _)) (Ycl _) (ST.yes) (Zir)) (Yca))) (Ycl _)) (Ycf (Ycw (YcJ (SF.two' (fun s r=>ZmS s r) (SF.sortS_) (SF.sortQ)) (Yb2 (SE.lc (SI.seq (Yb4 _)) (Ycl _) (ST.yes) (Zis)) (Yca))) (Ycl _)) (YcL (ST.B (Ycb (YcD (S2.ownN (Za5.cons (Zay) (Za5.nil))) (S2.ne)) (SE.lc (SI.seq (Yb4 _)) (Ycl _) (ST.yes) (Zit)) (Yb4 _))) (Yco (SE.bl _)) (YcM)))))))
def Zhe:PF:=fun xs=>if xs.length=1 then Zbx 11 (Za3 (Zev (jR1 (pF (ZgQ) (Zab (pC (.int 1)) (Zab (pF (Zhq) (Zab (pC (.int 10)) (Zab (pF (Zf0) (Zab (Zae 0) (Zaq))) (Zaq)))) (Zaq))))) (ZaU 1) (ZbJ)) (Zbe (pC (.bl true)))) xs else Zby
theorem S_law:SF M_law Zhe:=by unfold M_law Zhe; exact SF.runK (Ycf (SS.for_ (SI.r1 (YcJ (SF.max) (Yb2 (Yb6 _) (Yb2 (YcJ (SF.min) (Yb2 (Yb6 _) (Yb2 (YcJ (SF.len) (Yb2 (Yb4 _) (Yca))) (Yca)))) (Yca))))) (Ycl _) (Ziu)) (Yco (SE.bl _)))
end MPL
namespace FL
open PySem
open MP MPL
def oI:Option Int→PV
 | none=> .non
 | some i=> .int i
theorem Zje {e:PEn} {T:Cs} {k:PSM}:Zdj (.nx e T) k=k e T:=rfl
theorem at2 {α:Type} (x y z:α) (r:List α):atS (x::y::z::r) 2=some z:=Zgp (i:=2) rfl
theorem ZeG {α:Type} {T:List α} {a:α}:(T++[a])[T.length]? =some a:=by simp
theorem Ze6 {α:Type} {T:List α} {a b:α}:(T++[a]).set T.length b=T++[b]:=by simp
def Zm5 (cs ds:List Nat) (c:Nat):Str:=(⟨cs.toArray⟩:Str)++⟨#[c]⟩++⟨ds.toArray⟩
def wd (cs ds:List Nat) (r st:Int) (i:Nat):Str:=Zm5 cs ds (97+((r+st * (0+(i:Nat))) % 26).toNat)
theorem Zle {k:Nat} {l:List Str}:wf k (.lst (l.map .str))=true:=by
 show wfs k _=true
 rw [Zcu]
 simp [wf]
theorem Cl.one {T:Cs} {p:PV} (h:Cl T) (hp:wf (T.length+1) p=true):Cl (T++[p]):=h.app (by simp [wfs,hp])
theorem Cl.strs {T:Cs} (h:Cl T) {l:List Str}:Cl (T++[.lst (l.map .str)]):=FL.Cl.one h Zle
end FL
namespace K02
open PySem
open MP MPL FL
abbrev Zcn:Int:=999999999999999999999999999999999999999999999999999999999999
def rgE:PV:= .ins "Range" [("own_first", .non),("own_last", .non),("rank", .tup [.int 0, .int 0, .int 0, .int 0])]
def rgV (f:Int):Option Int→PV
 | none=> .ins "Range" [("own_first", .int f),("own_last", .non),("rank", .tup [.int 1, .int f, .int 1, .int 0])]
 | some l=>if l<f then rgE else .ins "Range" [("own_first", .int f),("own_last", .int l),("rank", .tup [.int 1, .int f, .int 0, .int l])]
def rkL (f:Int):Option Int→List Int
 | none=>[1,f,1,0]
 | some l=>if l<f then [0,0,0,0]else [1,f,0,l]
def Lim (f:Int) (o:Option Int):Prop:=(-Zcn≤f∧f≤Zcn)∧∀l,o=some l→ -Zcn≤l∧l≤Zcn
section
variable {T:Cs} {f g:Int} {o p:Option Int}
theorem Zom {k:Nat}:wf k (rgV f o)=true:=by
 unfold rgV
 split
 ·simp [wf,wfs,wff]
 ·split
  ·simp [rgE,wf,wfs,wff]
  ·simp [wf,wfs,wff]
theorem Zdc {i:Int} (h: -Zcn≤i∧i≤Zcn) {T:Cs}:Zbm [.int i] T= .ok (.bl true) T:=by
 have b:∀T:Cs,Zbc [.int i, .int (-999999999999999999999999999999999999999999999999999999999999), .int 999999999999999999999999999999999999999999999999999999999999] T= .ok (.bl true) T:=fun T=>by
  have i1:∀T:Cs,Zdm ["Range"] ["int","bool","str","list","tuple","dict"] [.int i, .ty "int"] T= .ok (.bl true) T:=fun _=>rfl
  have i2:∀T:Cs,Zdm ["Range"] ["int","bool","str","list","tuple","dict"] [.int i, .ty "bool"] T= .ok (.bl false) T:=fun _=>rfl
  have c1:decide ((-999999999999999999999999999999999999999999999999999999999999:Int)≤i)=true:=decide_eq_true h.1
  have c2:decide (i≤(999999999999999999999999999999999999999999999999999999999999:Int))=true:=decide_eq_true h.2
  generalize (-999999999999999999999999999999999999999999999999999999999999:Int)=lo at *
  generalize (999999999999999999999999999999999999999999999999999999999999:Int)=hi at *
  unfold Zbc
  simp only [Yae,Ybv,YaM,if_true]
  refine ZbC ?_ rfl
  unfold Zbx
  simp only [Zbe,ZeV,ZcZ,pF,p1,Zae,pC,Zab,Zaq,Ya0,Ybs,YaS,Ybx,Ybw,Yaa,Yae,Ybv,Yam,Yby,Ybz,Zaf,i1,i2,MP.notP,Zcq,leP,c1,c2,YbH,if_true,Zat,ZbF]
 have ng:∀T:Cs,Zho (.int 999999999999999999999999999999999999999999999999999999999999) T= .ok (.int (-999999999999999999999999999999999999999999999999999999999999)) T:=fun _=>rfl
 unfold Zbm
 simp only [Yae,Ybv,YaM,if_true]
 refine ZbC ?_ rfl
 unfold Zbx
 simp only [Zbe,pF,p1,Zae,pC,Zab,Zaq,Ya0,Ybs,YaS,Ybx,Ybw,Yaa,Yae,Ybv,Yam,Yby,Ybz,Zaf,ng,b,Zat,ZbF]
theorem Zlf (h:Lim f o):Zam [.cell T.length, .int f,oI o] (T++[.ins "Range" []])= .ok .non (T++[rgV f o]):=by
 obtain⟨hf,ho⟩:=h
 have m: "Range"∈ ["Range"]:=List.mem_singleton.mpr rfl
 unfold Zam
 simp only [Yae,Ybv,YaM,if_true]
 refine ZbC ?_ (by simp)
 unfold Zbx
 cases o with
 | none=>
  have o1:∀T:Cs,Zhp (.non) .non T= .ok (.bl false) T:=fun _=>rfl
  have o2:∀T:Cs,isP (.non) .non T= .ok (.bl true) T:=fun _=>rfl
  have i1:∀T:Cs,Zh4 [.bl true] T= .ok (.int 1) T:=fun _=>rfl
  have h4:4≤sizeLine:=fit (by decide)
  simp only [oI,Za3,ZbX,ZbB,ZfX,ZcI,ZeV,pIf,Zc0,ZhY,qT,qB,p2,p1,pF,Zae,pC,Zab,Zaq,Zb0,ZaU,YbB,YbA,Ya0,Ybs,YaS,Ybx,Ybw,Yaa,Yae,Ybv,YbD,YbE,Yam,YaM,Yby,Ybz,Zaf,Zat,ZaS,Zdc hf,Zcq,YbG,YbH,YaR,if_false,if_true,o1,o2,i1,h4,
   Zbw,ZeG,Ze6,m,true_and,YbF,ZfW,String.reduceEq,YbF]
  rfl
 | some l=>
  have hl:=ho l rfl
  have o1:∀T:Cs,Zhp (.int l) .non T= .ok (.bl true) T:=fun _=>rfl
  have o2:∀T:Cs,isP (.int l) .non T= .ok (.bl false) T:=fun _=>rfl
  have i1:∀T:Cs,Zh4 [.bl false] T= .ok (.int 0) T:=fun _=>rfl
  have h4:4≤sizeLine:=fit (by decide)
  by_cases c:l<f
  ·have l1:∀T:Cs,ltP (.int l) (.int f) T= .ok (.bl true) T:=fun T=>by
    show ZaR.ok (PV.bl (decide (l<f))) T=_
    rw [decide_eq_true c]
   have e:rgV f (some l)=rgE:=if_pos c
   rw [e]
   simp only [oI,Za3,ZbX,ZbB,ZfX,ZcI,ZeV,pIf,Zc0,ZhY,qT,qB,p2,p1,pF,Zae,pC,Zab,Zaq,Zb0,ZaU,YbB,YbA,Ya0,Ybs,YaS,Ybx,Ybw,Yaa,Yae,Ybv,YbD,YbE,Yam,YaM,Yby,Ybz,Zaf,Zat,ZaS,Zdc hf,Zdc hl,Zcq,YbG,YbH,YaR,if_false,if_true,o1,o2,i1,l1,h4,
    Zbw,ZeG,Ze6,m,true_and,YbF,ZfW,String.reduceEq,YbF]
   rfl
  ·have l1:∀T:Cs,ltP (.int l) (.int f) T= .ok (.bl false) T:=fun T=>by
    show ZaR.ok (PV.bl (decide (l<f))) T=_
    rw [decide_eq_false c]
   have e:rgV f (some l)= .ins "Range" [("own_first", .int f),("own_last", .int l),("rank", .tup [.int 1, .int f, .int 0, .int l])]:=if_neg c
   rw [e]
   simp only [oI,Za3,ZbX,ZbB,ZfX,ZcI,ZeV,pIf,Zc0,ZhY,qT,qB,p2,p1,pF,Zae,pC,Zab,Zaq,Zb0,ZaU,YbB,YbA,Ya0,Ybs,YaS,Ybx,Ybw,Yaa,Yae,Ybv,YbD,YbE,Yam,YaM,Yby,Ybz,Zaf,Zat,ZaS,Zdc hf,Zdc hl,Zcq,YbG,YbH,YaR,if_false,if_true,o1,o2,i1,l1,h4,
    Zbw,ZeG,Ze6,m,true_and,YbF,ZfW,String.reduceEq,YbF]
   rfl
theorem Zd7 (h:Lim f o) (hT:Cl T):ZdW "Range" Zam [.int f,oI o] T= .ok (rgV f o) T:=by
 unfold ZdW Zex
 rw [Zlf h]
 show Zb2 _ _= .ok (rgV f o) T
 refine ZfQ hT ?_ Zom (.inr (by simp))
 simp only [ZkX]
 rw [if_pos (Yab _)]
 exact ZeG
theorem ZeH:ZcJ ["Range"] "rank" (rgV f o) T= .ok (.tup ((rkL f o).map .int)) T:=by
 cases o with
 | none=>rfl
 | some l=>
  unfold rgV rkL
  simp only
  split<;>rfl
theorem isR:Zdm ["Range"] ["int","bool","str","list","tuple","dict"] [rgV f o, .cls "Range"] T= .ok (.bl true) T:=by
 cases o with
 | none=>rfl
 | some l=>
  unfold rgV
  simp only
  split<;>rfl
theorem ZlD:Zd9 T (rgV f o)=some "Range":=by
 cases o with
 | none=>rfl
 | some l=>
  unfold rgV
  simp only
  split<;>rfl
theorem tyR:Zc4 ["Range"] T (rgV f o)=true:=by
 cases o with
 | none=>rfl
 | some l=>
  unfold rgV
  simp only
  split<;>rfl
theorem Ziv:Zar [.tup [.int f,oI o]] T= .ok (.tup ((rkL f o).map .int)) T:=by
 have h4:4≤sizeLine:=fit (by decide)
 unfold Zar
 simp only [Yae,Ybv,YaM,if_true]
 refine ZbC ?_ rfl
 unfold Zbx
 cases o with
 | none=>
  have o2:∀T:Cs,isP (.non) .non T= .ok (.bl true) T:=fun _=>rfl
  simp only [oI,Za3,ZbX,ZbB,ZcI,Zbe,Zb0,qB,p2,Zae,pC,Zab,Zaq,ZiS,ZaU,Yat,YbV,Yar,YbW,YbB,YbA,Ya0,Ybs,YaS,Ybx,Ybw,Yaa,Yae,Ybv,YbD,YbE,YaM,Yby,Ybz,Zaf,Zat,ZaS,Zcb,Zcq,o2,h4,if_true,ZbF,rkL]
 | some l=>
  have o2:∀T:Cs,isP (.int l) .non T= .ok (.bl false) T:=fun _=>rfl
  have l1:∀T:Cs,ltP (.int l) (.int f) T= .ok (.bl (decide (l<f))) T:=fun T=>rfl
  by_cases c:l<f
  ·have l2:decide (l<f)=true:=decide_eq_true c
   have e:rkL f (some l)=[0,0,0,0]:=if_pos c
   rw [e]
   simp only [oI,Za3,ZbX,pIf,ZbB,ZcI,Zbe,Zb0,qB,p2,Zae,pC,Zab,Zaq,ZiS,ZaU,Yat,YbV,Yar,YbW,YbB,YbA,Ya0,Ybs,YaS,Ybx,Ybw,Yaa,Yae,Ybv,YbD,YbE,YaM,Yby,Ybz,Zaf,Zat,ZaS,Zcb,Zcq,o2,l1,l2,h4,if_true,YaR,if_false,ZbF]
  ·have l2:decide (l<f)=false:=decide_eq_false c
   have e:rkL f (some l)=[1,f,0,l]:=if_neg c
   rw [e]
   simp only [oI,Za3,ZbX,pIf,ZbB,ZcI,Zbe,Zb0,qB,p2,Zae,pC,Zab,Zaq,ZiS,ZaU,Yat,YbV,Yar,YbW,YbB,YbA,Ya0,Ybs,YaS,Ybx,Ybw,Yaa,Yae,Ybv,YbD,YbE,YaM,Yby,Ybz,Zaf,Zat,ZaS,Zcb,Zcq,o2,l1,l2,h4,if_true,YaR,if_false,ZbF]
theorem Zfy (ns:List Int):Zdl (ns.map .int)=some ns:=by
 induction ns with
 | nil=>rfl
 | cons n ns ih=>simp only [Ya0,Zdl,ih,Ybq]
theorem Zm6 {ns ms:List Int}:ltP (.tup (ns.map .int)) (.tup (ms.map .int)) T= .ok (.bl (HT.lexLt ns ms)) T:=by simp only [ltP,Zfy]
theorem ZlE {c:List Int→List Int→Bool} {ns ms:List Int}:Zbp c (.tup (ns.map .int)) (.tup (ms.map .int)) T= .ok (.bl (c ns ms)) T:=by simp only [Zbp,Zfy]
def rkP (f:Int) (o:Option Int):PV:= .tup ((rkL f o).map .int)
theorem Zm7 (h:Lim f o):∀n∈rkL f o, -Zcn≤n∧n≤Zcn:=by
 obtain⟨hf,ho⟩:=h
 have l0:(0:Int)≤Zcn:=by decide
 have l1:(1:Int)≤Zcn:=by decide
 intro n hn
 unfold rkL at hn
 split at hn
 ·simp only [Yas,YbX,or_false]at hn
  omega
 ·rename_i l
  have:=ho l rfl
  split at hn
  ·simp only [Yas,YbX,or_false]at hn
   omega
  ·simp only [Yas,YbX,or_false]at hn
   omega
theorem Zhf:(rkL f o).length=4:=by
 unfold rkL
 split
 ·rfl
 ·split<;>rfl
theorem Zcd (h:Lim f o):Zbt (rkP f o) 1 2000:=by
 refine(Zbt.tup (ZbS.map (d:=0) (a:=300) fun n hn=>Zbt.int (by have:=Zm7 h n hn; unfold Zcn at this; omega) (Yab _))).mono (Yab _) ?_
 rw [Zhf]
 omega
theorem Zm8 (h:Lim f o) (k:Lim g p):Zad [rgV f o,rgV g p] T= .ok (.bl (eqT (rkP f o) (rkP g p))) T:=by
 have e:∀T:Cs,eqP (rkP f o) (rkP g p) T= .ok (.bl (eqT (rkP f o) (rkP g p))) T:=fun T=>(Zcd h).eq (Zcd k) (by decide) (by decide)
 have i1:∀T:Cs,Zdm ["Range"] ["int","bool","str","list","tuple","dict"] [rgV g p, .cls "Range"] T= .ok (.bl true) T:=fun T=>isR
 have f1:∀(f:Int) (o:Option Int) (T:Cs),ZcJ ["Range"] "rank" (rgV f o) T= .ok (rkP f o) T:=fun f o T=>ZeH
 unfold Zad
 simp only [Yae,Ybv,YaM,if_true]
 refine ZbC ?_ rfl
 unfold Zbx
 simp only [Zbe,ZeV,pF,p1,p2,Zae,pC,Zab,Zaq,Ya0,Ybs,YaS,Ybx,Ybw,Yaa,Yae,Ybv,Yam,YbD,Yby,Ybz,Zaf,i1,f1,e,Zcq,if_true,Zat,ZbF]
theorem Zi8 {x:PV} (h:∀T:Cs,Zdm ["Range"] ["int","bool","str","list","tuple","dict"] [x, .cls "Range"] T= .ok (.bl false) T):Zad [rgV f o,x] T= .ok (.bl false) T:=by
 unfold Zad
 simp only [Yae,Ybv,YaM,if_true]
 refine ZbC ?_ rfl
 unfold Zbx
 simp only [Zbe,ZeV,pF,p1,p2,Zae,pC,Zab,Zaq,Ya0,Ybs,YaS,Ybx,Ybw,Yaa,Yae,Ybv,Yam,YbD,Yby,Ybz,Zaf,h,Zcq,YaR,if_false,Zat,ZbF]
theorem Zm9:Zah [rgV f o,rgV g p] T= .ok (.bl (HT.lexLt (rkL f o) (rkL g p))) T:=by
 have e:∀T:Cs,ltP (rkP f o) (rkP g p) T= .ok (.bl (HT.lexLt (rkL f o) (rkL g p))) T:=fun T=>Zm6
 have i1:∀T:Cs,Zdm ["Range"] ["int","bool","str","list","tuple","dict"] [rgV g p, .cls "Range"] T= .ok (.bl true) T:=fun T=>isR
 have f1:∀(f:Int) (o:Option Int) (T:Cs),ZcJ ["Range"] "rank" (rgV f o) T= .ok (rkP f o) T:=fun f o T=>ZeH
 unfold Zah
 simp only [Yae,Ybv,YaM,if_true]
 refine ZbC ?_ rfl
 unfold Zbx
 simp only [Za3,ZbX,Zb0,Zc0,qT,Zbe,pF,p1,p2,Zae,pC,Zab,Zaq,Ya0,Ybs,YaS,Ybx,Ybw,Yaa,Yae,Ybv,Yam,YbD,Yby,Ybz,Zaf,i1,f1,e,Zcq,YbG,YaR,if_false,ZaS,Zat,ZbF]
theorem Zon:ZaB [rgV f o,rgV g p] T= .ok (.bl (leL (rkL f o) (rkL g p))) T:=by
 have e:∀T:Cs,Zbp leL (rkP f o) (rkP g p) T= .ok (.bl (leL (rkL f o) (rkL g p))) T:=fun T=>ZlE
 have i1:∀T:Cs,Zdm ["Range"] ["int","bool","str","list","tuple","dict"] [rgV g p, .cls "Range"] T= .ok (.bl true) T:=fun T=>isR
 have f1:∀(f:Int) (o:Option Int) (T:Cs),ZcJ ["Range"] "rank" (rgV f o) T= .ok (rkP f o) T:=fun f o T=>ZeH
 unfold ZaB
 simp only [Yae,Ybv,YaM,if_true]
 refine ZbC ?_ rfl
 unfold Zbx
 simp only [Za3,ZbX,Zb0,Zc0,qT,Zbe,pF,p1,p2,Zae,pC,Zab,Zaq,Ya0,Ybs,YaS,Ybx,Ybw,Yaa,Yae,Ybv,Yam,YbD,Yby,Ybz,Zaf,i1,f1,e,Zcq,YbG,YaR,if_false,ZaS,Zat,ZbF]
theorem Zoo:ZaC [rgV f o,rgV g p] T= .ok (.bl (gtL (rkL f o) (rkL g p))) T:=by
 have e:∀T:Cs,Zbp gtL (rkP f o) (rkP g p) T= .ok (.bl (gtL (rkL f o) (rkL g p))) T:=fun T=>ZlE
 have i1:∀T:Cs,Zdm ["Range"] ["int","bool","str","list","tuple","dict"] [rgV g p, .cls "Range"] T= .ok (.bl true) T:=fun T=>isR
 have f1:∀(f:Int) (o:Option Int) (T:Cs),ZcJ ["Range"] "rank" (rgV f o) T= .ok (rkP f o) T:=fun f o T=>ZeH
 unfold ZaC
 simp only [Yae,Ybv,YaM,if_true]
 refine ZbC ?_ rfl
 unfold Zbx
 simp only [Za3,ZbX,Zb0,Zc0,qT,Zbe,pF,p1,p2,Zae,pC,Zab,Zaq,Ya0,Ybs,YaS,Ybx,Ybw,Yaa,Yae,Ybv,Yam,YbD,Yby,Ybz,Zaf,i1,f1,e,Zcq,YbG,YaR,if_false,ZaS,Zat,ZbF]
theorem Zop:ZaD [rgV f o,rgV g p] T= .ok (.bl (geL (rkL f o) (rkL g p))) T:=by
 have e:∀T:Cs,Zbp geL (rkP f o) (rkP g p) T= .ok (.bl (geL (rkL f o) (rkL g p))) T:=fun T=>ZlE
 have i1:∀T:Cs,Zdm ["Range"] ["int","bool","str","list","tuple","dict"] [rgV g p, .cls "Range"] T= .ok (.bl true) T:=fun T=>isR
 have f1:∀(f:Int) (o:Option Int) (T:Cs),ZcJ ["Range"] "rank" (rgV f o) T= .ok (rkP f o) T:=fun f o T=>ZeH
 unfold ZaD
 simp only [Yae,Ybv,YaM,if_true]
 refine ZbC ?_ rfl
 unfold Zbx
 simp only [Za3,ZbX,Zb0,Zc0,qT,Zbe,pF,p1,p2,Zae,pC,Zab,Zaq,Ya0,Ybs,YaS,Ybx,Ybw,Yaa,Yae,Ybv,Yam,YbD,Yby,Ybz,Zaf,i1,f1,e,Zcq,YbG,YaR,if_false,ZaS,Zat,ZbF]
theorem Zhg {P:PF} {q:P2} {v:PV} (h:P [rgV f o,rgV g p] T= .ok v T):ZbM (Zbh [("Range",P)] ["Range"]) q (rgV f o) (rgV g p) T= .ok v T:=by
 unfold ZbM Zbh ZeX
 rw [ZlD]
 simp only [Ybr,YaX,beq_self_eq_true,tyR,if_true]
 exact h
theorem Zoq {P:PF} {q:P2} {b:Bool} (h:P [rgV f o,rgV g p] T= .ok (.bl b) T):ZbM (Zcj [("Range",P)] ["Range"]) q (rgV f o) (rgV g p) T= .ok (.bl (!b)) T:=by
 unfold ZbM Zcj ZeX
 rw [ZlD]
 simp only [Ybr,YaX,beq_self_eq_true,tyR,if_true]
 rw [h]
 rfl
theorem Zna {P:PF} {q:P2} {v x:PV} (k:Zc4 ["Range"] T x=true) (h:P [rgV f o,x] T= .ok v T):ZbM (Zbh [("Range",P)] ["Range"]) q (rgV f o) x T= .ok v T:=by
 unfold ZbM Zbh ZeX
 rw [ZlD]
 simp only [Ybr,YaX,beq_self_eq_true,k,if_true]
 exact h
theorem Znb {P:PF} {q:P2} {b:Bool} {x:PV} (k:Zc4 ["Range"] T x=true) (h:P [rgV f o,x] T= .ok (.bl b) T):ZbM (Zcj [("Range",P)] ["Range"]) q (rgV f o) x T= .ok (.bl (!b)) T:=by
 unfold ZbM Zcj ZeX
 rw [ZlD]
 simp only [Ybr,YaX,beq_self_eq_true,k,if_true]
 rw [h]
 rfl
theorem Znc:Zi4 [("Range",Zah)] (rgV f o) (rgV g p) T= .ok (HT.lexLt (rkL f o) (rkL g p)) T:=by
 unfold Zi4
 rw [ZlD]
 simp only [YaX,beq_self_eq_true,Zm9,Zdv,Zaf]
def Zlg (f:Int) (o:Option Int):PV:= .tup [.int f,oI o]
theorem Znd (h:Lim f o) (k:Lim g p) (hT:Cl T):Zaz [Zlg f o,Zlg g p] T= .ok (.bl true) T:=by
 have x0:∀(f:Int) (o:Option Int) (T:Cs),ixP (Zlg f o) (.int 0) T= .ok (.int f) T:=fun _ _ _=>rfl
 have x1:∀(f:Int) (o:Option Int) (T:Cs),ixP (Zlg f o) (.int 1) T= .ok (oI o) T:=fun _ _ _=>rfl
 have m1:=Zd7 h hT
 have m2:=Zd7 k hT
 have k1:Zar [Zlg f o] T= .ok (rkP f o) T:=Ziv
 have k2:Zar [Zlg g p] T= .ok (rkP g p) T:=Ziv
 have h4:4≤sizeLine:=fit (by decide)
 have h6:6≤sizeLine:=fit (by decide)
 have a1:=Zhg (q:=eqP) (Zm8 (T:=T) h k)
 have a2:=Zoq (q:=neP) (Zm8 (T:=T) h k)
 have a3:=Zhg (q:=ltP) (Zm9 (T:=T) (f:=f) (o:=o) (g:=g) (p:=p))
 have a4:=Zhg (q:=Zbp leL) (Zon (T:=T) (f:=f) (o:=o) (g:=g) (p:=p))
 have a5:=Zhg (q:=Zbp gtL) (Zoo (T:=T) (f:=f) (o:=o) (g:=g) (p:=p))
 have a6:=Zhg (q:=Zbp geL) (Zop (T:=T) (f:=f) (o:=o) (g:=g) (p:=p))
 have b1:ZbM (Zbh [("Range",Zad)] ["Range"]) eqP (rkP f o) (rkP g p) T= .ok (.bl (eqT (rkP f o) (rkP g p))) T:=(Zcd h).eq (Zcd k) (by decide) (by decide)
 have b2:ZbM (Zcj [("Range",Zad)] ["Range"]) neP (rkP f o) (rkP g p) T= .ok (.bl (!eqT (rkP f o) (rkP g p))) T:=(Zcd h).ne (Zcd k) (by decide) (by decide)
 have b3:ZbM (Zbh [("Range",Zah)] ["Range"]) ltP (rkP f o) (rkP g p) T= .ok (.bl (HT.lexLt (rkL f o) (rkL g p))) T:=Zm6
 have b4:ZbM (Zbh [("Range",ZaB)] ["Range"]) (Zbp leL) (rkP f o) (rkP g p) T= .ok (.bl (leL (rkL f o) (rkL g p))) T:=ZlE
 have b5:ZbM (Zbh [("Range",ZaC)] ["Range"]) (Zbp gtL) (rkP f o) (rkP g p) T= .ok (.bl (gtL (rkL f o) (rkL g p))) T:=ZlE
 have b6:ZbM (Zbh [("Range",ZaD)] ["Range"]) (Zbp geL) (rkP f o) (rkP g p) T= .ok (.bl (geL (rkL f o) (rkL g p))) T:=ZlE
 have rp:∀bs:List Bool,bs.length=6→ZeA true [.lst (bs.map .bl)] T= .ok (.str (shw (.lst (bs.map .bl)))) T:=fun bs hb=>((Zbt.lst (ZbS.map (d:=0) (a:=300) fun n hn=>Zbt.bl)).repr (by decide) (by rw [hb]; decide))
 have rq:=rp [eqT (rkP f o) (rkP g p), !eqT (rkP f o) (rkP g p),HT.lexLt (rkL f o) (rkL g p),leL (rkL f o) (rkL g p),gtL (rkL f o) (rkL g p),geL (rkL f o) (rkL g p)] rfl
 simp only [Ya0,Ybs]at rq
 have eqs:∀z:Str,ZbM (Zbh [("Range",Zad)] ["Range"]) eqP (.str z) (.str z) T= .ok (.bl true) T:=fun z=>by
  show ZaR.ok (PV.bl (decide (z=z))) T=_
  rw [decide_eq_true rfl]
 generalize rgV f o=R1 at *
 generalize rgV g p=R2 at *
 generalize rkP f o=V1 at *
 generalize rkP g p=V2 at *
 generalize HT.lexLt (rkL f o) (rkL g p)=c3 at *
 generalize leL (rkL f o) (rkL g p)=c4 at *
 generalize gtL (rkL f o) (rkL g p)=c5 at *
 generalize geL (rkL f o) (rkL g p)=c6 at *
 unfold Zaz
 simp only [Yae,Ybv,YaM,if_true]
 refine ZbC ?_ rfl
 unfold Zbx
 simp only [Za3,ZbB,ZcI,Zds,Zbe,pF,p1,p2,Zae,pC,Zab,Zaq,ZiS,ZaU,Yat,YbV,Yar,YbW,YbB,YbA,Ya0,Ybs,YaS,Ybx,Ybw,Yaa,Yae,Ybv,YbD,YbE,YaM,Yby,Ybz,Zaf,Zat,ZaS,x0,x1,m1,m2,k1,k2,h4,h6,if_true,a1,a2,a3,a4,a5,a6,b1,b2,b3,b4,b5,b6,rq,eqs,ZbF]
end
end K02
namespace K02
open PySem
open MP MPL FL
def eP (e:Int × Option Int):PV:=Zlg e.1 e.2
def rP (e:Int × Option Int):PV:=rgV e.1 e.2
def kL (e:Int × Option Int):List Int:=rkL e.1 e.2
theorem Zlh {c:Int} (h0:0<c) (h:c≤10^50):c.natAbs.log2<9000:=by
 have a:c.natAbs≤10^50:=by omega
 have:c.natAbs.log2<200:=(Ybt (by omega)).mpr (Nat.lt_of_le_of_lt a (by decide))
 omega
theorem Zli {T:Cs} {s:Nat} {st:PV} {Q:PV→Cs→Prop} (hs:s<T.length) (h:StO st) (q:∀e st',Lim e.1 e.2→StO st'→Q (eP e) (T.set s st')):wP (Zbb [.cell s] (T.set s st)) Q:=by
 have f2:2≤sizeLine:=fit (by decide)
 have f3:3≤sizeLine:=fit (by decide)
 have p50:∀T:Cs,ZgP (.int 10) (.int 50) T= .ok (.int (10^50)) T:=fun T=>by rw [Zd4 (by decide)]; rfl
 have p49:∀T:Cs,ZgP (.int 10) (.int 49) T= .ok (.int (10^49)) T:=fun T=>by rw [Zd4 (by decide)]; rfl
 have p40:∀T:Cs,ZgP (.int 10) (.int 40) T= .ok (.int (10^40)) T:=fun T=>by rw [Zd4 (by decide)]; rfl
 have l60:(10:Int)^50+10^50≤Zcn:=by decide
 have l40:(10:Int)^40≤10^49:=by decide
 have l49:(10:Int)^49≤10^50:=by decide
 have z3:(3:Int)≤10^40:=by decide
 have z4:(4:Int)≤10^50:=by decide
 have z2:(2:Int)≤10^49:=by decide
 have k40:(10:Int)^40≤10^50:=by decide
 unfold Zbb
 simp only [Yae,Ybv,YaM,if_true]
 refine ZgW ?_
 simp! only [zP,f2,f3,p50]
 refine Zd5 hs h (.inl rfl) (by simp) (by simp) fun v st1 hv g1=> ?_
 obtain⟨c,rfl,c0,c1⟩:∃c:Int,v= .int c∧4≤c∧c≤10^50:=by
  simp only [Yas,YbX,or_false]at hv
  rcases hv with e | e | e
  ·exact⟨_,e,by omega,z4⟩
  ·exact⟨_,e,by omega,z4⟩
  ·exact⟨_,e,z4,YbY _⟩
 refine Zdz hs g1 (by omega) (Zlh (by omega) c1) fun r st2 r0 r1 g2=> ?_
 simp only [p49,Zcx]
 refine Zd5 hs g2 (.inl rfl) (by simp) (by simp) fun v st3 hv g3=> ?_
 obtain⟨d,rfl,d0,d1⟩:∃d:Int,v= .int d∧0≤d∧d≤10^49:=by
  simp only [Yas,YbX,or_false]at hv
  rcases hv with e | e | e
  ·exact⟨_,e,by omega,by omega⟩
  ·exact⟨_,e,by omega,by omega⟩
  ·exact⟨_,e,by omega,YbY _⟩
 simp only [Zcx]
 refine Zdz hs g3 (c:=6) (by omega) (Zlh (by omega) (by omega)) fun w st4 w0 w1 g4=> ?_
 simp only [Zdy,Zcx]
 have lf: -Zcn≤r - d∧r - d≤Zcn:=by omega
 by_cases e:w=0
 ·rw [if_pos (decide_eq_true e),Zd1 (by simp)]
  exact q (r - d,none) st4 ⟨lf,fun _ h=>nomatch h⟩ g4
 ·rw [if_neg (by simpa using e)]
  simp only [p40,Zcx]
  refine Zd5 hs g4 (.inl rfl) (by simp) (by simp) fun v st5 hv g5=> ?_
  obtain⟨m,rfl,m0,m1⟩:∃m:Int,v= .int m∧3≤m∧m≤10^40:=by
   simp only [Yas,YbX,or_false]at hv
   rcases hv with e | e
   ·exact⟨_,e,by omega,z3⟩
   ·exact⟨_,e,z3,YbY _⟩
  refine Zdz hs g5 (by omega) (Zlh (by omega) (by omega)) fun x st6 x0 x1 g6=> ?_
  have b0:=ZhM (decide (w=1))
  have b1:=Zmi (decide (w=1))
  simp only [Zdy,Zcx,Zc9]
  rw [Zd1 (by simp)]
  exact q (r - d,some (r - d+x - b2i (decide (w=1)))) st6 ⟨lf,fun l h=>by cases h; omega⟩ g6
theorem Zne {T:Cs} {s:Nat} {st:PV} {a0 a1 a3 a4 a5 a6 a7 a8 a9 a10:Option PV} {Q:PV→Cs→Prop} (hs:s<T.length) (h:StO st)
  (q:∀(xs:List (Int × Option Int)) st',2≤xs.length→xs.length≤9→(∀e∈xs,Lim e.1 e.2)→StO st'→Q (.lst (xs.map eP)) (T.set s st')):
  wP (pLc (jR1 (p2 (ZeJ) (pC (.int 2)) (pF (Zav) (Zab (Zae 2) (Zab (pC (.int 8)) (Zaq)))))) (ZaU 9) (Zc1) (ZbV) [9] [a0,a1,some (.cell s),a3,a4,a5,a6,a7,a8,a9,a10] (T.set s st)) Q:=by
 obtain⟨v,T1,ed,⟨j,st1,rfl,j1,j2,h1,rfl⟩⟩:=(Zdz (Q:=fun v T'=>∃(j:Int) (st':PV),v= .int j∧0≤j∧j<8∧StO st'∧T'=T.set s st') hs h (c:=8) (by decide) (by decide) fun r st' a1 a2 a3=>⟨r,st',rfl,a1,a2,a3,rfl⟩).ex
 have hit:jR1 (p2 (ZeJ) (pC (.int 2)) (pF (Zav) (Zab (Zae 2) (Zab (pC (.int 8)) (Zaq))))) [a0,a1,some (.cell s),a3,a4,a5,a6,a7,a8,a9,a10] (T.set s st)= .ok (none,(Ybj (2+j).toNat).map fun i:Nat=>PV.int (0+(i:Nat))) (T.set s st1):=by
  have ad:∀T:Cs,ZeJ (.int 2) (.int j) T= .ok (.int (2+j)) T:=fun _=>rfl
  unfold jR1
  simp only [p2,pF,Zae,pC,Zab,Zaq,Yby,Ybz,Zaf,ed,ad]
  rfl
 refine ZmQ (fun i:Nat=>PV.int (0+(i:Nat))) (Ybj (2+j).toNat) hit (fun r acc T'=>∃(xs:List (Int × Option Int)) (st':PV),acc=xs.map eP∧xs.length+r.length=(2+j).toNat∧(∀e∈xs,Lim e.1 e.2)∧StO st'∧T'=T.set s st') ⟨[],st1,rfl,by simp,(fun _ h=>nomatch h),h1,rfl⟩ (fun _ _ _ _=>trivial) (fun acc T' p=> ?_) (fun i r acc T' p=> ?_)
 ·obtain⟨xs,st',rfl,hl,hc,hst,rfl⟩:=p
  simp only [Ybv,Nat.add_zero]at hl
  exact q xs st' (by omega) (by omega) hc hst
 ·obtain⟨xs,st',rfl,hl,hc,hst,rfl⟩:=p
  refine⟨[a0,a1,some (.cell s),a3,a4,a5,a6,a7,a8,some (.int (0+(i:Nat))),a10],rfl, ?_⟩
  show wP (.ok true _) _
  rw [Zcx]
  simp only [if_true]
  simp only [Yae]at hl
  unfold ZbV
  simp only [pF,Zae,Zab,Zaq,Yby,Ybz,Zaf]
  refine Zli hs hst fun e st2 he h2=>⟨fit (by simp; omega),xs++[e],st2,by simp,by simp; omega,fun x hx=> ?_,h2,rfl⟩
  rcases YaH.mp hx with z | z
  ·exact hc x z
  ·rw [List.mem_singleton.mp z]; exact he
theorem Zi9:∀ns ms:List Int,ns.length=ms.length→HT.lexLt ns ms=false→HT.lexLt ms ns=false→ns=ms
 | [],[],_,_,_=>rfl
 | [],_::_,h,_,_=>by simp at h
 | _::_,[],h,_,_=>by simp at h
 | n::ns,m::ms,h,a,b=>by
  rw [HT.lexLt_cons]at a b
  by_cases e:n=m
  ·rw [if_pos e]at a
   rw [if_pos e.symm]at b
   rw [e,Zi9 ns ms (by simpa using h) a b]
  ·rw [if_neg e]at a
   rw [if_neg (Ne.symm e)]at b
   have:=of_decide_eq_false a
   have:=of_decide_eq_false b
   omega
theorem ZeI:∀ns ms:List Int,ns.length=ms.length→PyProof.Rows.lexLt PyProof.Rows.itemOrd (PySem.W.keyToksAll (ns.map .int)) (PySem.W.keyToksAll (ms.map .int))=HT.lexLt ns ms
 | [],[],_=>rfl
 | [],_::_,h=>by simp at h
 | _::_,[],h=>by simp at h
 | n::ns,m::ms,h=>by
  simp only [Ya0]
  rw [HT.lexLt_cons]
  by_cases e:n=m
  ·rw [if_pos e,PySem.W.dataLt_all_yes (by simp [PySem.W.alike]) (by simp [PyData.eqv,e])]
   exact ZeI ns ms (by simpa using h)
  ·rw [if_neg e,PySem.W.dataLt_all_no (by simp [PySem.W.alike]) (by simp [PyData.eqv,e]),PySem.W.dataLt_int]
def tD (ns:List Int):PyData:= .tuple (ns.map .int)
def tI (ns:List Int):PV:= .tup (ns.map .int)
theorem Zor {ns ms:List Int} (h:ns.length=ms.length):PySem.W.dataLt (tD ns) (tD ms)=HT.lexLt ns ms:=by
 unfold tD
 rw [PySem.W.dataLt_tuple]
 exact ZeI ns ms h
def leK (a b:List Int):Bool:= !HT.lexLt b a
theorem ZdB:∀ns ms:List Int,ns.length=ms.length→PySem.W.alikeAll (ns.map .int) (ms.map .int)=true
 | [],[],_=>rfl
 | [],_::_,h=>by simp at h
 | _::_,[],h=>by simp at h
 | n::ns,m::ms,h=>by
  simp only [Ya0,PySem.W.alikeAll,PySem.W.alike,Bool.true_and]
  exact ZdB ns ms (by simpa using h)
theorem ZdC:∀ns:List Int,PyData.depthAll (ns.map .int)=0
 | []=>rfl
 | n::ns=>by simp only [Ya0,PyData.depthAll,PyData.depth,ZdC ns]; rfl
theorem Zlj {T:Cs} {K:List (List Int)} (h4:∀k∈K,k.length=4) (hl:K.length≤64):Zcl [.lst (K.map tI)] T= .ok (.lst ((K.mergeSort leK).map tI)) T:=by
 have dt:∀ns:List Int,ZaV 12 T (tI ns)=some (tD ns):=fun ns=>by
  have z:∀ns:List Int,(ns.map PV.int).mapM (ZaV 11 T)=some (ns.map PyData.int):=fun ns=>by
   induction ns with
   | nil=>rfl
   | cons n ns ih=>rw [Ya0,YaD,ih]; rfl
  show (List.mapM (ZaV 11 T) _).map PyData.tuple=_
  rw [z]
  rfl
 have dm:(K.map tI).mapM (ZaV 12 T)=some (K.map tD):=by
  clear h4 hl
  induction K with
  | nil=>rfl
  | cons k K ih=>rw [Ya0,YaD,dt,ih]; rfl
 have ok:okQ (K.map tD)=true:=by
  unfold okQ
  simp only [YaK,YaL,decide_eq_true_eq,YaU]
  refine⟨?_, ?_⟩
  ·rintro d ⟨k,hk,rfl⟩
   have:=h4 k hk
   match k,this with
   | [a,b,c,e],_=>exact⟨rfl,by unfold tD; rw [PyData.depth,ZdC]; decide⟩
  ·rintro d ⟨k,hk,rfl⟩ e ⟨m,hm,rfl⟩
   unfold tD
   simp only [PySem.W.alike]
   exact ZdB k m (by rw [h4 k hk,h4 m hm])
 have z:(K.map tI).zip (K.map tD)=K.map fun k=>(tI k,tD k):=List.zip_map' ..
 have s:sortQL ((K.map tI).zip (K.map tD))=(K.mergeSort leK).map tI:=by
  unfold sortQL
  rw [z,←Ybg (r:=leK) (s:=PySem.W.dataLe false Prod.snd) (f:=fun k=>(tI k,tD k)) (fun a ha b hb=> ?_),YaJ]
  ·rfl
  ·show (!HT.lexLt b a)= !PySem.W.dataLt (tD b) (tD a)
   rw [Zor (by rw [h4 b hb,h4 a ha])]
 simp only [Zcl,ZbL,Zbo,dm]
 rw [if_pos ⟨ok,fit (by simp; omega)⟩,s]
theorem Zhh (a b:List Int):(leK a b || leK b a)=true:=by
 unfold leK
 cases e:HT.lexLt b a with
 | false=>rfl
 | true=>rw [NtL.lex_asym _ _ e]; rfl
theorem Zhi (a b c:List Int) (h1:leK a b=true) (h2:leK b c=true):leK a c=true:=by
 unfold leK at *
 simp only [Ya4]at *
 exact NtL.lex_tr _ _ _ h1 h2
theorem Zhj {A K:List (List Int)} (h4:∀k∈K,k.length=4) (hp:A.Perm K) (hs:A.Pairwise fun a b=>HT.lexLt b a=false):A=K.mergeSort leK:=by
 refine List.Perm.eq_of_pairwise (le:=fun a b=>leK a b=true) (fun a b ha hb h1 h2=> ?_) (hs.imp fun h=>by unfold leK; rw [h]; rfl) (Ya7 Zhi Zhh K) (hp.trans (Ya8 K leK).symm)
 have ha:=hp.mem_iff.mp ha
 have hb:=(Ya8 K leK).mem_iff.mp hb
 unfold leK at h1 h2
 simp only [Ya4]at h1 h2
 exact Zi9 a b (by rw [h4 a ha,h4 b hb]) h2 h1
def kOf:PV→List Int
 | .ins _ [_,_,(_, .tup l)]=>(Zdl l).getD []
 | _=>[]
theorem Zlk (e:Int × Option Int):kOf (rP e)=kL e:=by
 obtain⟨f,o⟩:=e
 unfold rP kL rgV rkL
 cases o with
 | none=>rfl
 | some l=>
  simp only
  split<;>rfl
theorem Znf {xs:List (Int × Option Int)}:∀{qs:List PV},(∀q∈qs,q∈xs.map rP)→∃ys:List (Int × Option Int),qs=ys.map rP∧∀e∈ys,e∈xs
 | [],_=>⟨[],rfl,fun _ h=>nomatch h⟩
 | q::qs,h=>by
  obtain⟨e,he,e2⟩:=YaU.mp (h q (Yav ..))
  obtain⟨ys,e3,h3⟩:=Znf fun q hq=>h q (Yau _ hq)
  refine⟨e::ys,by rw [Ya0,e2,e3],fun x hx=> ?_⟩
  rcases Yas.mp hx with rfl | hx
  ·exact he
  ·exact h3 x hx
theorem Zng {T:Cs} {v:PV} {xs:List (Int × Option Int)} (hv:ZbL T v=some (xs.map rP)) (hl:xs.length<64):∃ys:List (Int × Option Int),Za7 [("Range",Zah)] [v] T= .ok (.lst (ys.map rP)) T∧(∀e∈ys,e∈xs)∧ys.map kL=(xs.map kL).mergeSort leK:=by
 obtain⟨qs,h1,h2,h3⟩:=Zhd (pt:=[("Range",Zah)]) (T:=T) (v:=v) (ps:=xs.map rP) (lt:=fun p q=>HT.lexLt (kOf p) (kOf q)) hv (NtL.swo_lexL kOf) (by rw [Yaz]; exact hl) (fun _=>by
  cases xs with
  | nil=>simp at *
  | cons x xs=>
   have i:∀e,Zd9 T (rP e)=some "Range":=fun e=>ZlD
   simp only [Ya0,Zhb,i]
   rw [YaL]
   intro z hz
   rw [←Ya0]at hz
   obtain⟨e,_,rfl⟩:=YaU.mp hz
   rw [i]
   exact decide_eq_true rfl) (fun p hp q hq=>by
  obtain⟨e,_,rfl⟩:=YaU.mp hp
  obtain⟨e',_,rfl⟩:=YaU.mp hq
  rw [Zlk,Zlk]
  exact Znc)
 obtain⟨ys,rfl,hy⟩:=Znf fun q hq=>h2.mem_iff.mp hq
 refine⟨ys,h1,hy, ?_⟩
 have km:∀zs:List (Int × Option Int),(zs.map rP).map kOf=zs.map kL:=fun zs=>by rw [YaJ]; exact Ybk fun e _=>Zlk e
 refine Zhj (fun k hk=> ?_) ?_ ?_
 ·obtain⟨e,_,rfl⟩:=YaU.mp hk
  exact Zhf
 ·rw [←km,←km]
  exact h2.map kOf
 ·rw [←km,List.pairwise_map]
  exact h3
end K02
namespace K02
open PySem
open MP MPL FL
theorem Znh {T:Cs} {s:Nat} {st:PV} (h:T[s]? =some st):T.set s st=T:=by
 obtain⟨hs,e⟩:=Yaj.mp h
 rw [←e]
 exact List.set_getElem_self hs
theorem Zfz {a b:PSM} {env:PEn} {T:Cs} {D:Pps} (Mid:PEn→Cs→Prop) (h1:wQ (a env T) {D with nx:=Mid}) (h2:∀e T',Mid e T'→wQ (b e T') D):wQ (Za3 a b env T) D:=by
 unfold Za3
 rw [Zdx]
 exact h1.mono (fun e T' h=>h2 e T' h) (fun _ _ h=>h) (fun _ _ h=>h) (fun _ _ h=>h)
theorem Zja {x:PE} {k:PGM} {env e:PEn} {T T1 T2:Cs} {v:PV} (h:x env T= .ok v T1) (g:k v env T1= .nx e T2):ZbB x k env T= .nx e T2:=by
 unfold ZbB
 rw [h]
 exact g
theorem Zll {t:PT} {a:PSM} {env:PEn} {T T':Cs} (h:t env T= .ok false T'):ZbX t a Zb0 env T= .nx env T':=by
 unfold ZbX
 rw [h]
 rfl
def ev (a0 a1:Option PV) (s:Nat) (xs:List (Int × Option Int)) (v4 v5 v6 v7 v8 v9 v10:Option PV):PEn:=[a0,a1,some (.cell s),some (.lst (xs.map eP)),v4,v5,v6,v7,v8,v9,v10]
section
variable {T:Cs} {s:Nat} {xs:List (Int × Option Int)} {a0 a1 v4 v5 v6 v7 v8 v9 v10 v7' v8':Option PV}
theorem Zpi {x y:Int × Option Int} (hT:Cl T) (hx:Lim x.1 x.2) (hy:Lim y.1 y.2):Zcm (ev a0 a1 s xs (some (eP x)) (some (eP y)) v6 v7 v8 v9 v10) T= .nx (ev a0 a1 s xs (some (eP x)) (some (eP y)) v6 v7 v8 v9 v10) T:=by
 have p:Zaz [eP x,eP y] T= .ok (.bl true) T:=Znd hx hy hT
 unfold Zcm
 refine Zll ?_
 unfold ev
 simp only [Zc0,qT,pF,Zae,Zab,Zaq,Yby,Ybz,Zaf,p,Zcq,YbG]
theorem kv5 {v:PV} {B:PSM}:(ZaU 5 v (ev a0 a1 s xs v4 v5 v6 v7 v8 v9 v10) T).seq B=B (ev a0 a1 s xs v4 (some v) v6 v7 v8 v9 v10) T:=rfl
theorem kv4 {v:PV} {B:PSM}:(ZaU 4 v (ev a0 a1 s xs v4 v5 v6 v7 v8 v9 v10) T).seq B=B (ev a0 a1 s xs (some v) v5 v6 v7 v8 v9 v10) T:=rfl
theorem kv6 {v:PV} {B:PSM}:(ZaU 6 v (ev a0 a1 s xs v4 v5 v6 v7 v8 v9 v10) T).seq B=B (ev a0 a1 s xs v4 v5 (some v) v7 v8 v9 v10) T:=rfl
theorem Zpj {x:Int × Option Int} (hT:Cl T) (hx:Lim x.1 x.2) (hxs:∀e∈xs,Lim e.1 e.2) {D:Pps} (q:∀v5,D.nx (ev a0 a1 s xs (some (eP x)) v5 v6 v7 v8 v9 v10) T):wQ (ZbH (ev a0 a1 s xs (some (eP x)) v5 v6 v7 v8 v9 v10) T) D:=by
 unfold ZbH Zev
 rw [show Zb1 (Zae 3) (ev a0 a1 s xs (some (eP x)) v5 v6 v7 v8 v9 v10) T= .ok (none,xs.map eP) T from rfl]
 simp only [Zat]
 refine Zcz eP xs (fun r env T'=>T'=T∧(∀e∈r,Lim e.1 e.2)∧∃v5,env=ev a0 a1 s xs (some (eP x)) v5 v6 v7 v8 v9 v10) ⟨rfl,hxs,_,rfl⟩ (fun _ _ _ _=>trivial) (fun y r env T' p=> ?_) (fun env T' p=> ?_)
 ·obtain⟨rfl,hr,v5,rfl⟩:=p
  rw [kv5,Zpi hT hx (hr y (Yav ..)),Zd0]
  exact⟨rfl,fun e he=>hr e (Yau _ he),_,rfl⟩
 ·obtain⟨rfl,_,v5,rfl⟩:=p
  exact q v5
theorem Zlm (hT:Cl T) (hxs:∀e∈xs,Lim e.1 e.2) {D:Pps} (q:∀v4 v5,D.nx (ev a0 a1 s xs v4 v5 v6 v7 v8 v9 v10) T):wQ (Zev (Zb1 (Zae 3)) (ZaU 4) ZbH (ev a0 a1 s xs v4 v5 v6 v7 v8 v9 v10) T) D:=by
 unfold Zev
 rw [show Zb1 (Zae 3) (ev a0 a1 s xs v4 v5 v6 v7 v8 v9 v10) T= .ok (none,xs.map eP) T from rfl]
 simp only [Zat]
 refine Zcz eP xs (fun r env T'=>T'=T∧(∀e∈r,Lim e.1 e.2)∧∃v4 v5,env=ev a0 a1 s xs v4 v5 v6 v7 v8 v9 v10) ⟨rfl,hxs,_,_,rfl⟩ (fun _ _ _ _=>trivial) (fun y r env T' p=> ?_) (fun env T' p=> ?_)
 ·obtain⟨rfl,hr,v4,v5,rfl⟩:=p
  rw [kv4]
  exact Zpj hT (hr y (Yav ..)) hxs fun v5=>⟨rfl,fun e he=>hr e (Yau _ he),_,_,rfl⟩
 ·obtain⟨rfl,_,v4,v5,rfl⟩:=p
  exact q v4 v5
theorem Zjb {x:Int × Option Int} {r:List (Int × Option Int)}:ixP (.lst ((x::r).map eP)) (.int 0) T= .ok (eP x) T:=by simp only [ixP,ZbL,Zbo,Ya0,at0,Zfk]
theorem Zpk {x:Int × Option Int} {r:List (Int × Option Int)} {z:PV} (hT:Cl T) (hx:Lim x.1 x.2) (h1:∀T:Cs,Zdm ["Range"] ["int","bool","str","list","tuple","dict"] [z, .cls "Range"] T= .ok (.bl false) T) (h2:Zc4 ["Range"] T z=true):ZbI (ev a0 a1 s (x::r) v4 v5 (some z) v7 v8 v9 v10) T= .nx (ev a0 a1 s (x::r) v4 v5 (some z) v7 v8 v9 v10) T:=by
 have i0:∀T:Cs,ixP (.lst ((x::r).map eP)) (.int 0) T= .ok (eP x) T:=fun T=>Zjb
 have j0:∀T:Cs,ixP (eP x) (.int 0) T= .ok (.int x.1) T:=fun T=>rfl
 have j1:∀T:Cs,ixP (eP x) (.int 1) T= .ok (oI x.2) T:=fun T=>rfl
 have m:=Zd7 hx hT
 have e1:=Zna (q:=eqP) (T:=T) h2 (Zi8 (f:=x.1) (o:=x.2) h1)
 have e2:=Znb (q:=neP) (T:=T) h2 (Zi8 (f:=x.1) (o:=x.2) h1)
 simp only [YbH]at e2
 unfold ZbI
 refine Zll ?_
 unfold ev
 generalize (x::r).map eP=L at *
 simp only [qOr,Zc0,qB,p2,pF,Zae,pC,Zab,Zaq,Yby,Ybz,Zaf,i0,j0,j1,m,e1,e2,Zcq,YbG,YaR,if_false]
theorem Zni {f:Int × Option Int→PV} {e:PE} (he:∀x∈xs,∀v5 v6 v7 v8 v9 v10,e (ev a0 a1 s xs (some (eP x)) v5 v6 v7 v8 v9 v10) T= .ok (f x) T) (hl:xs.length≤64):pLc (Zb1 (Zae 3)) (ZaU 4) (Zc1) e [4] (ev a0 a1 s xs v4 v5 v6 v7 v8 v9 v10) T= .ok (.lst (xs.map f)) T:=by
 have z:=Zfr (it:=Zb1 (Zae 3)) (g:=ZaU 4) (t:=Zc1) (e:=e) (vs:=[4]) (env0:=ev a0 a1 s xs v4 v5 v6 v7 v8 v9 v10) (T0:=T) (T:=T) (w:=none) eP (fun _=>true) f xs rfl trivial (fun x hx=>⟨ev a0 a1 s xs (some (eP x)) v5 v6 v7 v8 v9 v10,rfl,rfl,fun _=>he x hx _ _ _ _ _ _⟩) (fit (by omega))
 rw [z,YbZ.mpr fun _ _=>rfl]
theorem Zpl {x:Int × Option Int} (hT:Cl T) (hx:Lim x.1 x.2):Zbi (ev a0 a1 s xs (some (eP x)) v5 v6 v7 v8 v9 v10) T= .ok (rP x) T:=by
 have j0:∀T:Cs,ixP (eP x) (.int 0) T= .ok (.int x.1) T:=fun T=>rfl
 have j1:∀T:Cs,ixP (eP x) (.int 1) T= .ok (oI x.2) T:=fun T=>rfl
 have m:=Zd7 hx hT
 unfold Zbi ev
 simp only [p2,pF,Zae,pC,Zab,Zaq,Yby,Ybz,Zaf,j0,j1,m]
 rfl
theorem Zpm {x:Int × Option Int}:Zbj (ev a0 a1 s xs (some (eP x)) v5 v6 v7 v8 v9 v10) T= .ok (tI (kL x)) T:=by
 have k:Zar [eP x] T= .ok (tI (kL x)) T:=Ziv
 unfold Zbj ev
 simp only [pF,Zae,Zab,Zaq,Yby,Ybz,Zaf,k]
theorem Ze7 {v:PV} {fs:List (String × PV)} (h:fs.lookup "own_first"=some v):Zey [] "first" [("Range",Zak)] (.ins "Range" fs) T= .ok v T:=by
 have f1:∀T:Cs,ZcJ ["Range"] "own_first" (.ins "Range" fs) T= .ok v T:=fun T=>by
  simp [ZcJ,Zbo,h,Zfk]
 have p:Zak [.ins "Range" fs] T= .ok v T:=by
  unfold Zak
  simp only [Yae,Ybv,YaM,if_true]
  refine ZbC ?_ rfl
  unfold Zbx
  simp only [Zbe,p1,Zae,Ya0,Ybs,YaS,Ybx,Ybw,Yaa,Yae,Ybv,Yam,YbD,Yby,Zaf,f1,Zat,ZbF]
 show Zdv (Zak [.ins "Range" fs] T)=_
 rw [p]
 rfl
theorem Zjc {v:PV} {fs:List (String × PV)} (h:fs.lookup "own_last"=some v):Zey [] "last" [("Range",Zas)] (.ins "Range" fs) T= .ok v T:=by
 have f1:∀T:Cs,ZcJ ["Range"] "own_last" (.ins "Range" fs) T= .ok v T:=fun T=>by
  simp [ZcJ,Zbo,h,Zfk]
 have p:Zas [.ins "Range" fs] T= .ok v T:=by
  unfold Zas
  simp only [Yae,Ybv,YaM,if_true]
  refine ZbC ?_ rfl
  unfold Zbx
  simp only [Zbe,p1,Zae,Ya0,Ybs,YaS,Ybx,Ybw,Yaa,Yae,Ybv,Yam,YbD,Yby,Zaf,f1,Zat,ZbF]
 show Zdv (Zas [.ins "Range" fs] T)=_
 rw [p]
 rfl
theorem Zpn {x:Int × Option Int}:Zbk (ev a0 a1 s xs v4 v5 v6 v7 v8 v9 (some (rP x))) T= .ok (tI (kL x)) T:=by
 have f2:2≤sizeLine:=fit (by decide)
 have ng:∀T:Cs,Zho (.int 1) T= .ok (.int (-1)) T:=fun _=>rfl
 have k:∀(f:Int) (o:Option Int),Zar [.tup [.int f,oI o]] T= .ok (tI (rkL f o)) T:=fun f o=>Ziv
 obtain⟨f,o⟩:=x
 unfold Zbk ev rP kL
 cases o with
 | none=>
  have a1:=Ze7 (T:=T) (v:= .int f) (fs:=[("own_first", .int f),("own_last", .non),("rank", .tup [.int 1, .int f, .int 1, .int 0])]) rfl
  have a2:=Zjc (T:=T) (v:= .non) (fs:=[("own_first", .int f),("own_last", .non),("rank", .tup [.int 1, .int f, .int 1, .int 0])]) rfl
  have n1:isP (.int f) .non T= .ok (.bl false) T:=rfl
  have kk:Zar [.tup [.int f, .non]] T= .ok (tI (rkL f none)) T:=k f none
  simp only [rgV,pF,pIf,qB,p2,p1,ZcI,Zae,pC,Zab,Zaq,Yby,Ybz,Zaf,a1,a2,n1,Zcq,YaR,if_false,Yae,Ybv,YbD,f2,if_true,kk]
 | some l=>
  by_cases c:l<f
  ·have e:rgV f (some l)=rgE:=if_pos c
   have e2:rkL f (some l)=rkL 0 (some (-1)):=if_pos c
   have a1:Zey [] "first" [("Range",Zak)] rgE T= .ok .non T:=Ze7 rfl
   have n1:isP .non .non T= .ok (.bl true) T:=rfl
   have kk:Zar [.tup [.int 0, .int (-1)]] T= .ok (tI (rkL 0 (some (-1)))) T:=k 0 (some (-1))
   simp only [e,e2,pF,pIf,qB,p2,p1,ZcI,Zae,pC,Zab,Zaq,Yby,Ybz,Zaf,a1,n1,Zcq,Yae,Ybv,YbD,f2,if_true,ng,kk]
  ·have e:rgV f (some l)= .ins "Range" [("own_first", .int f),("own_last", .int l),("rank", .tup [.int 1, .int f, .int 0, .int l])]:=if_neg c
   have a1:=Ze7 (T:=T) (v:= .int f) (fs:=[("own_first", .int f),("own_last", .int l),("rank", .tup [.int 1, .int f, .int 0, .int l])]) rfl
   have a2:=Zjc (T:=T) (v:= .int l) (fs:=[("own_first", .int f),("own_last", .int l),("rank", .tup [.int 1, .int f, .int 0, .int l])]) rfl
   have n1:isP (.int f) .non T= .ok (.bl false) T:=rfl
   have kk:Zar [.tup [.int f, .int l]] T= .ok (tI (rkL f (some l))) T:=k f (some l)
   simp only [e,pF,pIf,qB,p2,p1,ZcI,Zae,pC,Zab,Zaq,Yby,Ybz,Zaf,a1,a2,n1,Zcq,YaR,if_false,Yae,Ybv,YbD,f2,if_true,kk]
theorem Znj {D:Pps} (hT:Cl T) (h2:2≤xs.length) (hxs:∀e∈xs,Lim e.1 e.2) (q:∀v6,D.nx (ev a0 a1 s xs v4 v5 v6 v7 v8 v9 v10) T):wQ (Zev (Zb1 (Zds (Zab (pC .non) (Zab (pC (.int 5)) (Zab (pC (.bl true)) (Zab (pC (.str "empty")) (Zab (p2 (ixP) (Zae 3) (pC (.int 0))) (Zab (Zds (Zab (p2 (ixP) (p2 (ixP) (Zae 3) (pC (.int 0))) (pC (.int 0))) (Zab (p2 (ixP) (p2 (ixP) (Zae 3) (pC (.int 0))) (pC (.int 1))) (Zaq)))) (Zab (Zdw) (Zaq)))))))))) (ZaU 6) (ZbI) (ev a0 a1 s xs v4 v5 v6 v7 v8 v9 v10) T) D:=by
 match xs,h2 with
 | x::r,_=>
  have hx:=hxs x (Yav ..)
  have f2:2≤sizeLine:=fit (by decide)
  have f7:7≤sizeLine:=fit (by decide)
  have j0:∀T:Cs,ixP (eP x) (.int 0) T= .ok (.int x.1) T:=fun T=>rfl
  have j1:∀T:Cs,ixP (eP x) (.int 1) T= .ok (oI x.2) T:=fun T=>rfl
  have i0:∀T:Cs,ixP (.lst ((x::r).map eP)) (.int 0) T= .ok (eP x) T:=fun T=>Zjb
  have it:Zb1 (Zds (Zab (pC .non) (Zab (pC (.int 5)) (Zab (pC (.bl true)) (Zab (pC (.str "empty")) (Zab (p2 (ixP) (Zae 3) (pC (.int 0))) (Zab (Zds (Zab (p2 (ixP) (p2 (ixP) (Zae 3) (pC (.int 0))) (pC (.int 0))) (Zab (p2 (ixP) (p2 (ixP) (Zae 3) (pC (.int 0))) (pC (.int 1))) (Zaq)))) (Zab (Zdw) (Zaq))))))))) (ev a0 a1 s (x::r) v4 v5 v6 v7 v8 v9 v10) T= .ok (none,[.non, .int 5, .bl true, .str "empty",eP x, .lst [.int x.1,oI x.2], .dK []]) T:=by
   unfold ev
   generalize (x::r).map eP=L at *
   simp only [Zb1,Zds,p2,Zae,pC,Zab,Zaq,Zdw,Yby,Ybz,Zaf,i0,j0,j1,f2,f7,Yae,Ybv,YbD,if_true]
  unfold Zev
  rw [it]
  simp only [Zat]
  refine Zic (fun env T'=>T'=T∧∃v6,env=ev a0 a1 s (x::r) v4 v5 v6 v7 v8 v9 v10) _ ⟨rfl,_,rfl⟩ (fun _ _ _=>trivial) (fun z hz env T' p=> ?_) (fun env T' p=> ?_)
  ·obtain⟨rfl,v6,rfl⟩:=p
   have hz:(∀T:Cs,Zdm ["Range"] ["int","bool","str","list","tuple","dict"] [z, .cls "Range"] T= .ok (.bl false) T)∧Zc4 ["Range"] T' z=true:=by
    simp only [Yas,YbX,or_false]at hz
    rcases hz with rfl | rfl | rfl | rfl | rfl | rfl | rfl<;>exact⟨fun _=>rfl,rfl⟩
   rw [kv6,Zpk hT hx hz.1 hz.2,Zd0]
   exact⟨rfl,_,rfl⟩
  ·obtain⟨rfl,v6,rfl⟩:=p
   exact q v6
theorem kv7 {v:PV}:ZaU 7 v (ev a0 a1 s xs v4 v5 v6 v7 v8 v9 v10) T= .nx (ev a0 a1 s xs v4 v5 v6 (some v) v8 v9 v10) T:=rfl
theorem kv8 {v:PV}:ZaU 8 v (ev a0 a1 s xs v4 v5 v6 v7 v8 v9 v10) T= .nx (ev a0 a1 s xs v4 v5 v6 v7 (some v) v9 v10) T:=rfl
theorem Zos (hT:Cl T) (h2:2≤xs.length) (h9:xs.length≤9) (hxs:∀e∈xs,Lim e.1 e.2):∃v7 v8,Za3 (ZbB (pF (Za7 [("Range",Zah)]) (Zab (pLc (Zb1 (Zae 3)) (ZaU 4) (Zc1) (Zbi) [4]) (Zaq))) (ZaU 7)) (Za3 (ZbB (pF (Ze2 (fun xs T=>Ze3 xs T) (Zc7) (Zcl)) (Zab (pLc (Zb1 (Zae 3)) (ZaU 4) (Zc1) (Zbj) [4]) (Zaq))) (ZaU 8)) (ZbX (qB (p2 (ZbM (Zcj [("Range",Zad)] ["Range"]) (neP)) (pLc (Zb1 (Zae 7)) (ZaU 10) (Zc1) (Zbk) [10]) (Zae 8))) (Zbe (pC (.bl false))) (Zb0))) (ev a0 a1 s xs v4 v5 v6 v7' v8' v9 v10) T= .nx (ev a0 a1 s xs v4 v5 v6 v7 v8 v9 v10) T:=by
 obtain⟨ys,t1,t2,t3⟩:=Zng (T:=T) (v:= .lst (xs.map rP)) (xs:=xs) rfl (by omega)
 have ky:ys.length≤64:=by
  have:=congrArg Ybo t3
  rw [Yaz,Yb0,Yaz]at this
  omega
 refine⟨some (.lst (ys.map rP)),some (.lst ((xs.map kL).mergeSort leK |>.map tI)), ?_⟩
 have s5:ZbB (pF (Za7 [("Range",Zah)]) (Zab (pLc (Zb1 (Zae 3)) (ZaU 4) (Zc1) (Zbi) [4]) (Zaq))) (ZaU 7) (ev a0 a1 s xs v4 v5 v6 v7' v8' v9 v10) T= .nx (ev a0 a1 s xs v4 v5 v6 (some (.lst (ys.map rP))) v8' v9 v10) T:=by
  refine Zja (v:= .lst (ys.map rP)) (T1:=T) ?_ kv7
  have l:=Zni (s:=s) (T:=T) (xs:=xs) (a0:=a0) (a1:=a1) (v4:=v4) (v5:=v5) (v6:=v6) (v7:=v7') (v8:=v8') (v9:=v9) (v10:=v10) (f:=rP) (e:=Zbi) (fun x hx _ _ _ _ _ _=>Zpl hT (hxs x hx)) (by omega)
  simp only [pF,Zab,Zaq,Zaf,l,t1]
 have s6:ZbB (pF (Ze2 (fun xs T=>Ze3 xs T) (Zc7) (Zcl)) (Zab (pLc (Zb1 (Zae 3)) (ZaU 4) (Zc1) (Zbj) [4]) (Zaq))) (ZaU 8) (ev a0 a1 s xs v4 v5 v6 (some (.lst (ys.map rP))) v8' v9 v10) T= .nx (ev a0 a1 s xs v4 v5 v6 (some (.lst (ys.map rP))) (some (.lst ((xs.map kL).mergeSort leK |>.map tI))) v9 v10) T:=by
  refine Zja (v:= .lst ((xs.map kL).mergeSort leK |>.map tI)) (T1:=T) ?_ kv8
  have l:=Zni (s:=s) (T:=T) (xs:=xs) (a0:=a0) (a1:=a1) (v4:=v4) (v5:=v5) (v6:=v6) (v7:=some (.lst (ys.map rP))) (v8:=v8') (v9:=v9) (v10:=v10) (f:=fun x=>tI (kL x)) (e:=Zbj) (fun x hx _ _ _ _ _ _=>Zpm) (by omega)
  have l2:(xs.map fun x=>tI (kL x))=(xs.map kL).map tI:=by rw [YaJ]; rfl
  rw [l2]at l
  have ns:Ze3 [.lst ((xs.map kL).map tI)] T=false:=by
   match xs,h2 with
   | x::r,_=>rfl
  have so:=Zlj (T:=T) (K:=xs.map kL) (fun k hk=>by obtain⟨e,_,rfl⟩:=YaU.mp hk; exact Zhf) (by rw [Yaz]; omega)
  simp only [pF,Zab,Zaq,Zaf,l,Ze2,ns,YaR,if_false,so]
 unfold Za3
 rw [s5]
 show Za0.seq _ _=_
 rw [ZaS,s6,ZaS]
 refine Zll ?_
 have lc:pLc (Zb1 (Zae 7)) (ZaU 10) (Zc1) (Zbk) [10] (ev a0 a1 s xs v4 v5 v6 (some (.lst (ys.map rP))) (some (.lst ((xs.map kL).mergeSort leK |>.map tI))) v9 v10) T= .ok (.lst ((xs.map kL).mergeSort leK |>.map tI)) T:=by
  have z:=Zfr (it:=Zb1 (Zae 7)) (g:=ZaU 10) (t:=Zc1) (e:=Zbk) (vs:=[10]) (env0:=ev a0 a1 s xs v4 v5 v6 (some (.lst (ys.map rP))) (some (.lst ((xs.map kL).mergeSort leK |>.map tI))) v9 v10) (T0:=T) (T:=T) (w:=none) rP (fun _=>true) (fun x=>tI (kL x)) ys rfl trivial (fun x hx=>⟨ev a0 a1 s xs v4 v5 v6 (some (.lst (ys.map rP))) (some (.lst ((xs.map kL).mergeSort leK |>.map tI))) v9 (some (rP x)),rfl,rfl,fun _=>Zpn⟩) (fit (by omega))
  rw [z,YbZ.mpr fun _ _=>rfl,←t3,YaJ]
  rfl
 have nice:Zbt (.lst ((xs.map kL).mergeSort leK |>.map tI)) 2 40000:=by
  refine(Zbt.lst (ZbS.map (d:=1) (a:=2000) fun k hk=> ?_)).mono (Yab _) ?_
  ·obtain⟨e,he,rfl⟩:=YaU.mp ((Ya8 _ leK).mem_iff.mp hk)
   exact Zcd (hxs e he)
  ·rw [Yb0,Yaz]
   omega
 have ne:ZbM (Zcj [("Range",Zad)] ["Range"]) neP (.lst ((xs.map kL).mergeSort leK |>.map tI)) (.lst ((xs.map kL).mergeSort leK |>.map tI)) T= .ok (.bl false) T:=by
  have i:∀L:List PV,Zd9 T (.lst L)=none:=fun _=>rfl
  unfold ZbM
  rw [i]
  simp only
  rw [nice.ne nice (by decide) (by decide),nice.self]
  rfl
 have g8:Zae 8 (ev a0 a1 s xs v4 v5 v6 (some (.lst (ys.map rP))) (some (.lst ((xs.map kL).mergeSort leK |>.map tI))) v9 v10) T= .ok (.lst ((xs.map kL).mergeSort leK |>.map tI)) T:=rfl
 simp only [qB,p2,Zaf,lc,g8,ne,Zcq]
theorem Zln:ZbJ=Za3 (ZbB (pF (ZaY) (Zab (Zae 0) (Zab (Zae 1) (Zaq)))) (ZaU 2)) (Za3 (ZbB (pLc (jR1 (p2 (ZeJ) (pC (.int 2)) (pF (Zav) (Zab (Zae 2) (Zab (pC (.int 8)) (Zaq)))))) (ZaU 9) (Zc1) (ZbV) [9]) (ZaU 3)) (Za3 (Zev (Zb1 (Zae 3)) (ZaU 4) (ZbH)) (Za3 (Zev (Zb1 (Zds (Zab (pC .non) (Zab (pC (.int 5)) (Zab (pC (.bl true)) (Zab (pC (.str "empty")) (Zab (p2 (ixP) (Zae 3) (pC (.int 0))) (Zab (Zds (Zab (p2 (ixP) (p2 (ixP) (Zae 3) (pC (.int 0))) (pC (.int 0))) (Zab (p2 (ixP) (p2 (ixP) (Zae 3) (pC (.int 0))) (pC (.int 1))) (Zaq)))) (Zab (Zdw) (Zaq)))))))))) (ZaU 6) (ZbI)) (Za3 (ZbB (pF (Za7 [("Range",Zah)]) (Zab (pLc (Zb1 (Zae 3)) (ZaU 4) (Zc1) (Zbi) [4]) (Zaq))) (ZaU 7)) (Za3 (ZbB (pF (Ze2 (fun xs T=>Ze3 xs T) (Zc7) (Zcl)) (Zab (pLc (Zb1 (Zae 3)) (ZaU 4) (Zc1) (Zbj) [4]) (Zaq))) (ZaU 8)) (ZbX (qB (p2 (ZbM (Zcj [("Range",Zad)] ["Range"]) (neP)) (pLc (Zb1 (Zae 7)) (ZaU 10) (Zc1) (Zbk) [10]) (Zae 8))) (Zbe (pC (.bl false))) (Zb0))))))):=by
 unfold ZbJ
 rfl
end
theorem Znk {T:Cs} (hT:Cl T) {ns_:List Int} {k:Nat} (hk:k<64) {v1 v2 v3 v4 v5 v6 v7 v8 v9 v10:Option PV} {D:Pps} (q:∀v1 v2 v3 v4 v5 v6 v7 v8 v9 v10 T',Cl T'→D.nx [some (.frz (ns_.map .int)),v1,v2,v3,v4,v5,v6,v7,v8,v9,v10] T'):
  wQ ((ZaU 1 (.int (0+(k:Nat))) [some (.frz (ns_.map .int)),v1,v2,v3,v4,v5,v6,v7,v8,v9,v10] T).seq ZbJ) D:=by
 rw [Int.zero_add]
 show wQ (ZbJ [some (.frz (ns_.map .int)),some (.int (k:Int)),v2,v3,v4,v5,v6,v7,v8,v9,v10] T) D
 rw [Zln]
 refine Zfz (fun e T'=>∃st,StO st∧e=[some (.frz (ns_.map .int)),some (.int (k:Int)),some (.cell T.length),v3,v4,v5,v6,v7,v8,v9,v10]∧T'=T++[st]) ?_ ?_
 ·simp only [ZbB,pF,Zab,Zaq,Zae,Yby,Ybz,Zaf,ZcF]
  refine Zig hk fun st hst=> ?_
  simp only [ZaU,YbB,YbA,Zd0]
  exact⟨st,hst,by trivial,by trivial⟩
 rintro e T' ⟨st,hst,rfl,rfl⟩
 have hc:Cl (T++[st]):=FL.Cl.one hT hst.wf
 have hs:T.length<(T++[st]).length:=by simp
 have e0:T++[st]=(T++[st]).set T.length st:=(Znh ZeG).symm
 refine Zfz (fun e T'=>∃xs st',2≤Ybo xs∧Ybo xs≤9∧(∀e∈xs,Lim e.1 e.2)∧StO st'∧T'=(T++[st]).set T.length st'∧e=ev (some (.frz (ns_.map .int))) (some (.int (k:Int))) T.length xs v4 v5 v6 v7 v8 v9 v10) ?_ ?_
 ·rw [e0]
  unfold ZbB
  rw [ZcF]
  refine Zne hs hst fun xs st3 l2 l9 hx g3=> ?_
  simp only [ZaU,YbB,YbA,Zd0]
  exact⟨xs,st3,l2,l9,hx,g3,by rw [YbM],rfl⟩
 rintro e T' ⟨xs,st3,l2,l9,hx,g3,eT,rfl⟩
 have cT:Cl T':=by rw [eT]; exact Cl.set hc g3.wf
 clear eT
 refine Zfz (fun e T2=>T2=T'∧∃v4 v5,e=ev (some (.frz (ns_.map .int))) (some (.int (k:Int))) T.length xs v4 v5 v6 v7 v8 v9 v10) (Zlm cT hx fun v4 v5=>⟨rfl,_,_,rfl⟩) ?_
 rintro e T2 ⟨rfl,v4,v5,rfl⟩
 refine Zfz (fun e T3=>T3=T2∧∃v6,e=ev (some (.frz (ns_.map .int))) (some (.int (k:Int))) T.length xs v4 v5 v6 v7 v8 v9 v10) (Znj cT l2 hx fun v6=>⟨rfl,_,rfl⟩) ?_
 rintro e T3 ⟨rfl,v6,rfl⟩
 obtain⟨v7',v8',e7⟩:=Zos (s:=T.length) (a0:=some (.frz (ns_.map .int))) (a1:=some (.int (k:Int))) (v4:=v4) (v5:=v5) (v6:=v6) (v7':=v7) (v8':=v8) (v9:=v9) (v10:=v10) cT l2 l9 hx
 rw [e7,Zd0]
 exact q _ _ _ _ _ _ _ _ _ _ _ cT
theorem law_P (ns:List Int):∃T',Zhe [.frz (ns.map .int)] []= .ok (.bl true) T':=by
 have w:wP (Zhe [.frz (ns.map .int)] []) fun v _=>v= .bl true:=by
  unfold Zhe
  simp only [Yae,Ybv,YaM,if_true]
  rw [Zcy]
  unfold Za3
  rw [Zdx]
  have it:∃n:Nat,n≤10∧(jR1 (pF ZgQ (Zab (pC (.int 1)) (Zab (pF Zhq (Zab (pC (.int 10)) (Zab (pF Zf0 (Zab (Zae 0) Zaq)) Zaq))) Zaq)))) ([.frz (ns.map .int)].map some++Yaa (11 - [PV.frz (ns.map .int)].length) none) []= .ok (none,(Ybj n).map fun i:Nat=>PV.int (0+(i:Nat))) []:=by
   have l1:∀T,Zf0 [.frz (ns.map .int)] T= .ok (.int ((ns.map PV.int).length:Int)) T:=fun T=>by simp! only [zP]
   obtain⟨m,m1⟩:∃m:Int,∀T,Zhq [.int 10, .int ((ns.map PV.int).length:Int)] T= .ok (.int m) T∧m≤10:=by
    refine⟨if((ns.map PV.int).length:Int)<10 then ((ns.map PV.int).length:Int)else 10,fun T=>⟨rfl, ?_⟩⟩
    split<;>omega
   obtain⟨j,j1⟩:∃j:Int,∀T,ZgQ [.int 1, .int m] T= .ok (.int j) T∧j≤10:=by
    refine⟨if m>1 then m else 1,fun T=>⟨rfl, ?_⟩⟩
    have:=(m1 []).2
    split<;>omega
   refine⟨j.toNat,by have:=(j1 []).2; omega, ?_⟩
   unfold jR1
   simp only [Ya0,Ybs,Yae,Ybv,Ybx,pF,Zab,Zaq,pC,Zae,Yby,Zaf,l1,fun T=>(m1 T).1,fun T=>(j1 T).1]
   rfl
  obtain⟨n,hn,it⟩:=it
  unfold Zev
  rw [it]
  simp only [Zat]
  refine Zcz (fun i:Nat=>PV.int (0+(i:Nat))) (Ybj n) (fun rest env T=>Cl T∧(∀i∈rest,i<64)∧∃v1 v2 v3 v4 v5 v6 v7 v8 v9 v10,env=[some (.frz (ns.map .int)),v1,v2,v3,v4,v5,v6,v7,v8,v9,v10]) ⟨rfl,fun i hi=>by have:=YbU.mp hi; omega,_,_,_,_,_,_,_,_,_,_,rfl⟩ (fun _ _ _ _=>trivial) (fun i r env T p=> ?_) (fun env T p=> ?_)
  ·obtain⟨hT,hr,v1,v2,v3,v4,v5,v6,v7,v8,v9,v10,rfl⟩:=p
   exact Znk hT (hr i (Yav ..)) fun v1 v2 v3 v4 v5 v6 v7 v8 v9 v10 T' hT'=>⟨hT',fun j hj=>hr j (Yau _ hj),_,_,_,_,_,_,_,_,_,_,rfl⟩
  ·obtain⟨hT,hr,v1,v2,v3,v4,v5,v6,v7,v8,v9,v10,rfl⟩:=p
   simp only [Zbe,pC,Zat,Ze1]
 obtain⟨v,T',e,rfl⟩:=w.ex
 exact⟨T',e⟩
end K02
theorem MPL.law_true (ns:List Int) (hn:ns.length≤63):∃S',MPL.M_law [.ref 0] (MP.scS ns)= .ok (.bl true) S':=MP.law_of MPL.S_law ns (K02.law_P ns)
open PySem PySem.W PySem.Calls PyProof.Rows
theorem PySem.Challenge.cw_gaplesskeys_k02_ranges_compared_holds : PySem.Challenge.rw_gaplesskeys_k02_ranges_compared.Holds := by
 w_on; o_law
 refine HandSHeadRun.head_any (r:=OpenLaw.row PySem.Challenge.rw_gaplesskeys_k02_ranges_compared) (q:=view (OpenLaw.row PySem.Challenge.rw_gaplesskeys_k02_ranges_compared).prog [18]) (H:=MPL.hk) (ob:=MPL.ob) (M:=15000) (loose:=MPL.loose) (d:=HandSHeadRun.topDef (OpenLaw.row PySem.Challenge.rw_gaplesskeys_k02_ranges_compared).prog 18) (kwd:=[]) MPL.ob_eq
  (by kernel_rfl) (fun s=>by kernel_rfl) MPL.hrun (by kernel_rfl) (by kernel_rfl) (by kernel_rfl) (by rfl) (by first | assumption | decide+kernel) (by decide+kernel) ⟨rfl,rfl,rfl,rfl,rfl,by decide+kernel⟩ ?hw ?hc
 case hw=>w_witness2
 case hc=>
  refine MP.walk_M (l:=PySem.Challenge.rw_gaplesskeys_k02_ranges_compared) (mx:=63) (k:=6) (x:= "_law_script") rfl (by rw [PySem.sizeLine_eq]; omega) (by kernel_rfl) ⟨rfl,by decide,by decide⟩ ?F
  intro w mg fa h Y G hmg0
  obtain⟨K,KX,Z,ZT⟩:=Y
  have hmg:mg ("law":PySem.Str)=some (.ref fa):=by
   have e:(HandSHeadRun.topDef (OpenLaw.row PySem.Challenge.rw_gaplesskeys_k02_ranges_compared).prog 18).name=("law":PySem.Str):=by kernel_rfl
   rw [←e]
   exact hmg0
  have e:=hmg.symm.trans (He.glo_ok (x:= "law") KX G (Z.fact 38 rfl))
  cases e
  have Gs:=MPL.gs KX G Z
  obtain⟨fd,F0⟩:=Z.def_ 17 (d:=MPL.d17) rfl
  refine⟨K,MP.nmOf K,fd,MPL.M_law,KX,ZT, ?_,fun ns hn hb=>MPL.law_true ns hn,fun base _ _ TB=> ?_⟩
  ·intro s u
   exact F0.bindsA (ps:=["_law_script"]) (fun _ _ _ _ _ _ us hl=>match us,hl with | [_],_=>rfl) s [u] rfl
  ·obtain⟨fd',F1,F2,_⟩:=MPL.alldefs (P:=PySem.Challenge.rw_gaplesskeys_k02_ranges_compared.prog) (w:=w) (base:=base) Z Gs ⟨by kernel_rfl,by kernel_rfl⟩
   obtain⟨_,_,_,_,_,_,_,_,_,_,a1,a2,_⟩:=F0.ex
   obtain⟨_,_,_,_,_,_,_,_,_,_,b1,b2,_⟩:=F1.ex
   rw [a2]at b2
   cases b2
   exact F2
end
