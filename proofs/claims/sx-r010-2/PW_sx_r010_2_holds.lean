import PyProof.Rows.All
import PyProof.Claim2
import PyProof.CodeObjX
import PyProof.ForAny
import PyProof.ToksMono
import PyProof.StrWalks
import PyProof.CompFree
import PyProof.DictWalks
import PyProof.EqAt
import PyProof.EqKinds
import PyProof.P3Statements
import PyProof.ExcFactsAll.ValueError
import PyProof.StrBlockL
import PyProof.WalksMore
import PyProof.GenComp
import PyProof.GenArm
import PyProof.LetGo
import PyProof.Rows.Rebase
import PyProof.Rows.Catch
import PyProof.StrCalls6
import PyProof.Rows.StrItems
import PyProof.StrLawsTight
import PyProof.StrLawsReplace
import PyProof.Rows.EqDataRows
import PyProof.StrReplace2
import Wide.Well
import Open.Head
import OpenK.KWalk
import OpenK.KRaise
import OpenK.KOwn
import Wide.All
import OpenK.AllK
import KE.KIntText
import KE.KDictList
import KE.KSortTup
import Wide.FinOn
import PySem.Challenge.RW_sx_r010_2
open Array renaming length_toList→yB,getElem?_toList→zaq,toList_append→zaF,getElem?_eq_getElem→zaI
open Bool renaming casesOn→tZ,and_eq_true→uU,false_eq_true→vQ,not_eq_true→xB,eq_false_or_eq_true→xW,eq_iff_iff→xX,or_eq_true→xY
open Eq renaming symm→vR
open ForInStep renaming yield→zbi
open Int renaming natCast_nonneg→wS,add_zero→xZ,emod_nonneg→y0,emod_lt_of_pos→yH,le_of_lt→yS,toNat_of_nonneg→zaa,eq_ofNat_of_zero_le→zab,le_trans→zaJ,toNat_lt→zbj
open List renaming mem_cons_of_mem→u0,mem_cons_self→u4,getElem?_eq_getElem→uA,casesOn→uB,length_append→uE,all_eq_true→uF,getD_eq_getElem?_getD→uH,cons_ne_nil→uI,length_map→uJ,append_assoc→uN,range→v5,getElem?_map→v6,mem_of_getElem?→v9,length_cons→vB,not_mem_nil→vJ,lookup_cons→vM,append_nil→vS,map_append→vU,replicate→vX,map_cons→vZ,zip_cons_cons→w7,drop_drop→wG,drop_eq_nil_of_le→wJ,contains_iff_mem→wN,getElem?_eq_none→wO,nodup_cons→wR,drop_eq_getElem_cons→wW,foldl_cons→wX,filterMap_cons→xK,cons_append→xN,length_drop→xO,mem_append_right→xQ,getElem?_append_left→xV,mem_of_mem_take→y1,nil_append→y2,size_toArray→y5,getElem?_take_of_lt→yT,map_map→yU,take_append_drop→zat,toArray→zau,take_length→zav,getElem?_append_right→zaB,range'→zaC,mem_map_of_mem→zaG,takeWhile_cons→zaH,flatMap_cons→zaZ,foldl_append→za0,getElem?_set→za1,all_append→zbk,forIn_cons→zbl,length_set→zbm,mem_append_left→zbn,range_eq_range'→zbo
open Nat renaming add_le_add_left→uD,le_refl→uK,succ_le_succ→uL,add_le_add_right→uM,add_le_add→uR,lt_trans→uS,le_add_right→uV,zero_le→uZ,ne_of_lt→vA,le_of_eq→vC,add_assoc→vD,mul_le_mul_left→vF,le_succ_of_le→vN,add_comm→vO,le_max_right→vP,le_max_left→vV,le_sub_of_add_le→vW,le_add_left→vY,casesOn→w3,le_succ→w4,lt_succ_self→w9,add_right_comm→wT,le_of_lt_succ→wV,not_lt_zero→wY,succ_add_eq_add_succ→xC,zero_add→xD,lt_of_succ_lt→xG,le_of_ble_eq_true→xR,le_antisymm→y3,lt_of_succ_le→y6,lt_of_succ_lt_succ→yF,le_of_not_lt→yV,succ_ne_zero→yW,succ_pos→yX,lt_irrefl→zad,sub_add_cancel→zaf,lt_succ_of_lt→zam,min_le_right→zaw,lt_of_lt_of_eq→zaK,ne_of_gt→zaL,pos_of_ne_zero→zaM,lt_add_of_pos_right→zaW,le_of_succ_le→za2,lt_succ_of_le→za3,le_of_succ_le_succ→za5,zero_lt_succ→zbd,ble_eq_true_of_le→zbe,le_of_sub_eq_zero→zbf,mul_le_mul_right→zbp,sub_le→zbq,add_lt_add_left→zbu
open Nat.succ renaming inj→zbD
open Ne renaming symm→y7
open Option renaming casesOn→uW,map→yN
open Option.some renaming inj→wZ
open Or renaming inr→wF,inl→xS
open PyProof.Rows renaming AllBare→vT,seqObj→wQ,subscriptTail→zae,add_str→zbr,get?_update_seq→zbs,getItem_tuple→zbB
open PySem renaming Shared→tX,wpAny_bind→tY,wpAny_pure→uC,Program→uP,Around→uY,exec→vH,wpAny_mono→vI,seg_bind_wrap→vL,mainGlobals→w5,wpAny_standAt→wH,wpAny_loadPart'→wI,builtinsNs→wM,bootBuiltins→wP,Comprehension→xE,foldedSetIterable→xH,wpAny_truthy_bool→xI,compEnvC→xP,intKind→xT,isTrue→xU,compareOp→y8,wpAny_holding→y9,wpAny_typeNameOfWhole_keyiter→yA,sizeLine→yD,wpAny_call_entry→yE,letOwnedTupleGo→yJ,wpAny_execs_nil→yK,wpAny_newObj_type→yL,typeIs_str→yP,cStatics→yY,wpAny_execs_cons→yZ,codeAny_builtin→zah,starEach→zal,wpAny_Assign_Name→zao,wpAny_assign_Name→zap,assignEach→zax,binaryOp→zay,compTurn→zaA,codeAny→zaD,standAt→zaE,cellsFrom→zaR,seqIndex?→zaS,wpAny_Constant_int→zaT,recursionLimit→zaV,sizeLine_eq→za8,wpAny_of_eq→za9,strLen_append→zba,swapsWithSole→zbb,strValues→zbg,wpAny_storeName_local→zbh,wpAny_with_toks→zbt
open PySem.Around renaming under_plainId→yM
open PySem.Builtin.Dict_items renaming ownsTuple→zar
open PySem.Builtin.Str renaming glued→zbC
open PySem.Calls renaming spliced_cons→xL,Constant_str→yR,spliced_nil→zak,callWith_builtin→zaz
open PySem.Expr renaming casesOn→v4
open PySem.F renaming slot_dict_keyiterator_next→wL,slot_str_split→zaj,args_dict_keyiterator_next_1→zaO,args_str_split_2→zaP,args_tuple_add_2→zaQ,entry_dict_keyiterator_next→zaU,entry_str_split→zaX,entry_tuple_add→zaY,plainAttrs_str→za6,slot_tuple_add→za7,plain_any_loop→zbc
open PySem.GenOnly renaming setGen→zbx
open PySem.Heap renaming get?_push_of_some→uO,get?_push_size→uX,SameBut→w6,lt_size→wU,get?_none_of_le→xF,get?_update_self→yI,get?_update_other→zai,size_push→zas
open PySem.Heap.SameBut renaming update→xJ
open PySem.NameKind renaming free→zac
open PySem.Obj renaming mapSeq→y4,data_mapFields→zaN
open PySem.PyData renaming casesOn→uG,int→uT,depth→v7,strOk→v8,bool→vE,depthAll→vG,eqv→vK,list→w8,eqvAll→xM,canLayAll0→zan
open PySem.Sem renaming onRaise_eq_wrap→yC
open PySem.SeqAt.EqAt renaming int_int→zbE
open PySem.Stmt renaming casesOn→zbz
open PySem.Str renaming ofString→uQ,join→wK,cps_append→yQ,length_append→za4
open PySem.StrLaws renaming glued_eq_join→xA,dbl→yG
open PySem.Txt renaming replace→wE,split→zag
open PySem.Value renaming none→wC,type→yO,casesOn→zbv,isInt→zby,ref→zbA
open PySem.W renaming KdlKeysView→zbw
set_option Elab.async false
set_option linter.all false
set_option tactic.hygienic false
set_option backward.defeqAttrib.useBackward true
set_option backward.isDefEq.respectTransparency.types false
set_option genSizeOf false
noncomputable section
namespace Mine
open PySem
abbrev D:=PyData
inductive R(α:Type) where
 |ok(a:α)
 |ve
 |stuck
namespace R
noncomputable def bind{α β:Type}:R α->(α->R β)->R β
 |.ok a,f=>f a
 |.ve,_=>.ve
 |.stuck,_=>.stuck
@[simp] theorem bind_ok{α β:Type}(a:α)(f:α->R β):(R.bind (.ok a) f)=f a:=rfl
@[simp] theorem bind_ve{α β:Type}(f:α->R β):(R.bind .ve f)=.ve:=rfl
@[simp] theorem Yu{α β:Type}(f:α->R β):(R.bind .stuck f)=.stuck:=rfl
end R
theorem qA{a b c:Nat}(h:a<=b)(k:b<=c):a<=c:=Nat.le_trans h k
theorem qB{a b c:Nat}(h:a<=b)(k:b<c):a<c:=Nat.lt_of_le_of_lt h k
theorem qC{a b:Nat}(h:a<b):a<=b:=Nat.le_of_lt h
theorem qD{a b c:Nat}(h:a<b)(k:b<=c):a<c:=Nat.lt_of_lt_of_le h k
noncomputable abbrev O:D:=.none
theorem bs{x k N:Nat}(h:x<=k)(d:Nat.blt k N=true):x<N:=qB h (xR d)
theorem W5{x k N:Nat}(h:x<=k)(d:Nat.ble k N=true):x<=N:=qA h (xR d)
theorem nn{α:Type}{x:α}{C:Prop}(h:(none:Option α)=some x):C:=nomatch h
theorem sn{α:Type}{x:α}{C:Prop}(h:some x=(none:Option α)):C:=nomatch h
theorem ff{C:Prop}(h:false=true):C:=nomatch h
theorem tf{C:Prop}(h:true=false):C:=nomatch h
theorem jg{a b:Bool}(h:(a&&b)=true):a=true:=by cases a<;>first|rfl|exact ff h
theorem z7{a b:Bool}(h:(a&&b)=true):b=true:=by cases a<;>first|exact h|exact ff h
theorem iN{a:Bool}(h:(!a)=true):a=false:=by cases a<;>first|rfl|exact ff h
theorem zP{α:Type}{a b:α}(h:some a=some b):a=b:=wZ h
section
variable{α:Type}{r:α}
theorem ns{C:Prop}(h:(R.stuck:R α)=.ok r):C:=nomatch h
theorem nv{C:Prop}(h:(R.ve:R α)=.ok r):C:=nomatch h
theorem os{C:Prop}(h:R.ok r=.stuck):C:=nomatch h
theorem ov{C:Prop}(h:R.ok r=.ve):C:=nomatch h
theorem sv{C:Prop}(h:(R.stuck:R α)=.ve):C:=nomatch h
theorem nT{C:Prop}(h:(R.ve:R α)=.stuck):C:=nomatch h
theorem jz{a b:α}(h:R.ok a=.ok b):a=b:=R.ok.inj h
end
set_option genInjectivity false
set_option genCtorIdx false in
inductive No where
 |none
 |bool(b:Bool)
 |int(i:Int)
 |str(x:Str)
noncomputable def No.d:No->D
 |.none=>.none
 |.bool b=>.bool b
 |.int i=>.int i
 |.str x=>.str x
inductive Un where
 |not|neg|len|int|isNone|tyB
 |keys
inductive GD where
 |add|sub|mul|mod|fdiv
 |eq|ne|lt|gt|mem|nmem
 |idx|upto|from_
 |max|min
set_option genCtorIdx false in
inductive o5 where
 |slice
inductive M1 where
 |join|split|index
set_option genCtorIdx false in
inductive M2 where
 |get
set_option genCtorIdx false in
inductive Tg where
 |one(i:Nat)
 |many(is:List Nat)
set_option genCtorIdx false in
mutual
inductive PE where
 |lit(l:No)
 |var(i:Nat)
 |glob(i:Nat)
 |un(o:Un)(a:PE)
 |bin(o:GD)(a b:PE)
 |tri(o:o5)(a b c:PE)
 |m1(o:M1)(a b:PE)
 |m2(o:M2)(a b c:PE)
 |and_(a b:PE)
 |or_(a b:PE)
 |tup(es:PEs)
 |list(es:PEs)
 |call(f:Nat)(es:PEs)
 |comp(caps:List (Option Nat))(rg:Bool)(it:PE)(t:Tg)(g:PG)
inductive PEs where
 |nil
 |cons(a:PE)(r:PEs)
inductive PG where
 |elt(c:PE)(e:PE)
end
set_option genCtorIdx false in
inductive PS where
 |skip
 |seq(a b:PS)
 |assign(t:Tg)(e:PE)
 |newl(x:Nat)(es:PEs)
 |newd(x:Nat)
 |app(x:Nat)(e:PE)
 |put(x:Nat)(k v:PE)
 |ifs(c:PE)(a b:PS)
 |whil(c:PE)(b:PS)
 |forr(t:Tg)(rg:Bool)(e:PE)(b:PS)
 |ret(e:PE)
 |raise
 |brk
 |cont
 |exp(e:PE)
 |io(f:Nat)(es:PEs)(x:Nat)
 |tryv(b:PS)(x:Nat)(l:No)
abbrev zg:=List D
noncomputable def zv:Nat:=2 ^ 20
noncomputable def z9:D->R Bool
 |.bool b=>.ok b
 |_=>.stuck
theorem Tb:∀(b:Bool),z9 (vE b)=R.ok b:=λ_=>rfl
noncomputable def sub(x:Str)(i j:Nat):Str:=⟨x.cps.extract i j⟩
theorem D5{d:D}{C:Prop}(h:z9 d=.ve):C:=by
 induction d using uG with
 |bool=>exact ov h
 |_=>exact sv h
theorem mQ{β:Type}{x:R D}{k:Bool->R β}(h:R.bind x z9=.stuck):(R.bind x λy=>R.bind (z9 y) k)=.stuck:=by
 induction x using R.casesOn with
 |stuck=>rfl
 |ve=>exact nT h
 |ok d=>induction d using uG with
  |bool=>exact os h
  |_=>rfl
theorem mR{β γ:Type}{x:R D}{k:Bool->R β}{g:β->R γ}(h:R.bind x z9=.stuck):R.bind (R.bind x λy=>R.bind (z9 y) k) g=.stuck:=by rw[mQ h];rfl
noncomputable def Ka{α:Type}(f:Int->R α):D->R α
 |.int i=>f i
 |_=>.stuck
noncomputable def TA{α:Type}(f:Str->R α):D->R α
 |.str x=>f x
 |_=>.stuck
noncomputable def Vs{α:Type}(f:List D->R α):D->R α
 |.list xs=>f xs
 |_=>.stuck
noncomputable def nM{α:Type}(f:List D->R α):D->R α
 |.tuple xs=>f xs
 |_=>.stuck
noncomputable def qE{α:Type}(f:D->R α):List D->R α
 |[]=>.stuck
 |x::r=>bif r.isEmpty then f x else .stuck
def nL{α:Type}(f:D->D->R α):List D->R α
 |[]=>.stuck
 |x::r=>qE (f x) r
noncomputable def Zd:D->Bool
 |.int i=>decide (i=0\/i=1)
 |_=>false
def oX:List D->Bool
 |[]=>false
 |x::r=>Zd x&&r.isEmpty
def QS:List D->Bool
 |[]=>false
 |x::r=>Zd x&&oX r
def JP:D->Bool
 |.int i=>decide (0<=i/\i<1000000)
 |.tuple xs=>QS xs
 |_=>false
noncomputable def mV(i:Int):D->Bool
 |.int j=>i==j
 |_=>false
noncomputable def r9(x:Str):D->Bool
 |.str y=>x==y
 |_=>false
def lA:D->D->Bool
 |.int i=>mV i
 |_=>λ_=>false
noncomputable def So:List D->List D->Bool
 |[]=>λys=>ys.isEmpty
 |x::r=>λys=>match ys with
  |[]=>false
  |y::t=>lA x y&&So r t
def sP(xs:List D):D->Bool
 |.tuple ys=>So xs ys
 |_=>false
def jk:D->D->Bool
 |.int i=>mV i
 |.tuple xs=>sP xs
 |_=>λ_=>false
noncomputable def Bz:D->Nat
 |.int _=>1
 |.tuple _=>3
 |_=>0
def zX(a b:D):Bool:=(Bz a==Bz b)&&(Bz a != 0)
noncomputable def jY:List (D×D)->D->Option D
 |[],_=>none
 |(k,v)::r,x=>if jk k x then some v else jY r x
theorem BH:∀(x k v:D) (r:List (D×D)),jY ((k,v)::r) x=if jk k x=true then some v else jY r x:=λ_ _ _ _=>rfl
noncomputable def BI:List (D×D)->D->D->List (D×D)
 |[],x,y=>[(x,y)]
 |(k,v)::r,x,y=>if jk k x then(k,y)::r else(k,v)::BI r x y
theorem H5:∀(x x_1 k v:D) (r:List (D×D)),BI ((k,v)::r) x x_1=if jk k x=true then(k,x_1)::r else(k,v)::BI r x x_1:=λ_ _ _ _ _=>rfl
def pR(x:Str):R D:=if x.length<=zv then .ok (.str x) else .stuck
def Vg(xs:List D):R D:=if xs.length<=zv then .ok (.list xs) else .stuck
noncomputable def Cy:List (Int×Int):=[(0,0),(0,1),(1,0),(1,1)]
noncomputable def AG(p:Int×Int):D:=.tuple [.int p.1,.int p.2]
def Az:D->Bool
 |.tuple xs=>QS xs
 |_=>false
def Gs(kvs:List (D×D)):R D:=
 if kvs.all λkv=>Az kv.1 then
  .ok (.list ((Cy.filter λp=>(jY kvs (AG p)).isSome).map AG))
 else .stuck
noncomputable def MO(x:Str):Option Int:=
 if x=⟨#[48]⟩ then some 0 else if x=⟨#[49]⟩ then some 1 else if x=⟨#[50]⟩ then some 2 else if x=⟨#[49,48]⟩ then some 10 else none
noncomputable def fO:D->Option Int
 |.int i=>some i
 |_=>none
noncomputable def lK:D->Option Str
 |.str i=>some i
 |_=>none
noncomputable def A7:List D->Option (List Int)
 |[]=>some []
 |d::r=>(fO d).bind λi=>(A7 r).bind λl=>some (i::l)
noncomputable def A8:List D->Option (List Str)
 |[]=>some []
 |d::r=>(lK d).bind λi=>(A8 r).bind λl=>some (i::l)
noncomputable def ji{α:Type}:Option α->R α
 |some a=>.ok a
 |none=>.stuck
noncomputable def isNone:D->Bool
 |.none=>true
 |_=>false
noncomputable def Ii:D->Bool
 |.bool _=>true
 |_=>false
noncomputable def Lh:D->Bool
 |.int _=>true
 |_=>false
noncomputable def isDict:D->Bool
 |.dict _=>true
 |_=>false
noncomputable def Vm:D->R D
 |.bool b=>.ok (.bool !b)
 |_=>.stuck
def pX:D->R D:=Ka λi=>.ok (.int (-i))
noncomputable def JS:D->R D
 |.str x=>.ok (.int x.length)
 |.list xs=>.ok (.int xs.length)
 |.tuple xs=>.ok (.int xs.length)
 |_=>.stuck
def fP:D->R D:=TA λx=>R.bind (ji (MO x)) λi=>.ok (.int i)
def Q3:D->R D
 |.dict kvs=>Gs kvs
 |_=>.stuck
def un:Un->D->R D
 |.not=>Vm
 |.neg=>pX
 |.len=>JS
 |.int=>fP
 |.isNone=>λd=>.ok (.bool (isNone d))
 |.tyB=>λd=>.ok (.bool (Ii d))
 |.keys=>Q3
theorem XZ(a:D):un Un.len a=JS a:=rfl
noncomputable def deep(a b:D):Bool:=decide (4000<min a.depth b.depth)
def Oj(x:D):D->R Bool
 |.list xs=>if isDict x||decide (4000<min (vG xs) x.depth) then .stuck else .ok (xs.any λy=>vK y x)
 |.tuple xs=>if isDict x||decide (4000<min (vG xs) x.depth) then .stuck else .ok (xs.any λy=>vK y x)
 |.str y=>TA (λz=>if z.length=1 then .ok (y.cps.contains (z.cps.getD 0 0)) else .stuck) x
 |.dict kvs=>if Lh x&&(kvs.all λkv=>zX kv.1 x) then .ok (jY kvs x).isSome else .stuck
 |_=>.stuck
noncomputable def jo:List Int->List Int->Bool
 |_,[]=>false
 |[],_::_=>true
 |i::r,j::t=>if i=j then jo r t else decide (i<j)
theorem ZB:∀(head:Int) (tail:List Int),jo [] (head::tail)=true:=λ_ _=>rfl
theorem Ro:∀(i:Int) (r:List Int) (j:Int) (t:List Int),jo (i::r) (j::t)=if i=j then jo r t else decide (i<j):=λ_ _ _ _=>rfl
def gQ(i j:Int)(xs ys:List D):R Bool:=R.bind (ji (A7 xs)) λa=>R.bind (ji (A7 ys)) λb=>.ok (if i=j then jo a b else decide (i<j))
def gS(xs ys:List D):R Bool:=nL (λp q=>Ka (λi=>Vs (λa=>nL (λp' q'=>Ka (λj=>Vs (λb=>gQ i j a b) q') p') ys) q) p) xs
def Ri:D->D->R Bool
 |.int i=>Ka λj=>.ok (decide (i<j))
 |.tuple xs=>nM λys=>gS xs ys
 |_=>λ_=>.stuck
noncomputable def M0(i:Int):Bool:=decide (i.natAbs<2 ^ 60)
def tH(xs ys:List D):R D:=if xs.length+ys.length<=zv then .ok (.tuple (xs++ys)) else .stuck
def E6:D->D->R D
 |.int i=>Ka λj=>.ok (.int (i+j))
 |.str x=>TA λy=>pR (x++y)
 |.list xs=>Vs λys=>Vg (xs++ys)
 |.tuple xs=>nM λys=>tH xs ys
 |_=>λ_=>.stuck
def Ih{α:Type}(f:Int->Int->R α)(a b:D):R α:=Ka (λi=>Ka (f i) b) a
def aY:D->D->R D:=Ih λi j=>.ok (.int (i - j))
def J8:D->D->R D:=Ih λi j=>if M0 i&&M0 j then .ok (.int (i*j)) else .stuck
def Om:D->D->R D:=Ih λi j=>if 0<j then .ok (.int (i % j)) else .stuck
def Xf:D->D->R D:=Ih λi j=>if 0<j/\j<1000 then .ok (.int (i / j)) else .stuck
def I3(a b:D):R D:=if isDict a||isDict b||deep a b then .stuck else .ok (.bool (vK a b))
def FA(a b:D):R D:=if isDict a||isDict b||deep a b then .stuck else .ok (.bool !(vK a b))
def U6(a b:D):R D:=R.bind (Ri a b) λc=>.ok (.bool c)
def fE:D->D->R D:=Ih λi j=>.ok (.bool (decide (j<i)))
def QK(a b:D):R D:=R.bind (Oj a b) λc=>.ok (.bool c)
def Ct(a b:D):R D:=if isDict b then .stuck else R.bind (Oj a b) λc=>.ok (.bool !c)
def cP(xs:List D):Int->R D
 |.ofNat k=>ji xs[k]?
 |.negSucc k=>ji ((zaS (.negSucc k) xs.length).bind (xs[·]?))
def Vo(x:Str):Int->R Nat
 |.ofNat k=>ji x.cps.toList[k]?
 |_=>.stuck
def jd:D->D->R D
 |.list xs=>Ka (cP xs)
 |.tuple xs=>Ka (cP xs)
 |.str x=>Ka λi=>R.bind (Vo x i) λc=>.ok (.str ⟨#[c]⟩)
 |.dict kvs=>λk=>if JP k then ji (jY kvs k) else .stuck
 |_=>λ_=>.stuck
def X0(a b:D):R D:=Vs (λxs=>Ka (λi=>if 0<=i then .ok (.list (xs.take i.toNat)) else .stuck) b) a
def Xg(a b:D):R D:=Vs (λxs=>Ka (λi=>if 0<=i then .ok (.list (xs.drop i.toNat)) else .stuck) b) a
def ZJ:D->D->R D:=Ih λi j=>.ok (.int (max i j))
def ZM:D->D->R D:=Ih λi j=>.ok (.int (min i j))
def Xv(x:Str)(ts:List Str):R D:=if(ts.map (·.length)).sum+ts.length*x.length<=zv then .ok (.str (Txt.join x ts)) else .stuck
def JM(a b:D):R D:=TA (λx=>Vs (λys=>R.bind (ji (A8 ys)) (Xv x)) b) a
def Ex(a b:D):R D:=TA (λx=>TA (λy=>if y.length=1/\x.length<zv then .ok (.list ((zag x y).map .str)) else .stuck) b) a
noncomputable def QM(y:Str)(ts:List Str):R D:=if ts.contains y then .ok (.int (ts.idxOf y)) else .stuck
def Ig(a b:D):R D:=Vs (λxs=>TA (λy=>R.bind (ji (A8 xs)) (QM y)) b) a
def bin:GD->D->D->R D
 |.add=>E6
 |.sub=>aY
 |.mul=>J8
 |.mod=>Om
 |.fdiv=>Xf
 |.eq=>I3
 |.ne=>FA
 |.lt=>U6
 |.gt=>fE
 |.mem=>QK
 |.nmem=>Ct
 |.idx=>jd
 |.upto=>X0
 |.from_=>Xg
 |.max=>ZJ
 |.min=>ZM
theorem Yr(a b:D):bin GD.add a b=E6 a b:=rfl
theorem Ys(a b:D):bin GD.eq a b=I3 a b:=rfl
theorem Yt(a b:D):bin GD.ne a b=FA a b:=rfl
theorem Pv(a b:D):bin GD.lt a b=U6 a b:=rfl
theorem T2(a b:D):bin GD.mem a b=QK a b:=rfl
theorem T4(a b:D):bin GD.nmem a b=Ct a b:=rfl
theorem L7(a b:D):bin GD.idx a b=jd a b:=rfl
noncomputable def Lj:D->Bool
 |.str _=>true
 |_=>false
noncomputable def DI:D->Bool
 |.list _=>true
 |_=>false
def R5:M1->D->Bool
 |.join=>Lj
 |.split=>Lj
 |.index=>DI
def Hu:M1->D->D->R D
 |.join=>JM
 |.split=>Ex
 |.index=>Ig
def aM(x:Str)(i j:Int):R D:=if 0<=i/\i<=j/\j<=x.length then .ok (.str (sub x i.toNat j.toNat)) else .stuck
def IK(a b c:D):R D:=TA (λx=>Ka (λi=>Ka (λj=>aM x i j) c) b) a
def Hm:D->D->D->R D
 |.dict kvs=>λk v=>if Az k&&!isDict v&&(kvs.all λkv=>zX kv.1 k) then .ok ((jY kvs k).getD v) else .stuck
 |_=>λ_ _=>.stuck
def tri:o5->D->D->D->R D
 |.slice=>IK
def R6:M2->D->Bool
 |.get=>isDict
def J4:M2->D->D->D->R D
 |.get=>Hm
noncomputable def noVe{α:Type}:R α->R α
 |.ok a=>.ok a
 |_=>.stuck
def Zi:D->R (List D)
 |.list xs=>.ok xs
 |.tuple xs=>.ok xs
 |.str x=>.ok (x.cps.toList.map λc=>.str ⟨#[c]⟩)
 |.dict kvs=>if(kvs.all λkv=>Lh kv.1) then .ok (kvs.map (·.1)) else .stuck
 |_=>.stuck
def zA:Bool->D->R (List D)
 |false=>Zi
 |true=>Ka λi=>if 0<=i/\i<=zv then .ok ((v5 i.toNat).map λ(k:Nat)=>uT k) else .stuck
noncomputable def tR(ρ:zg)(i:Nat)(d:D):zg:=ρ.set i d
noncomputable def DZ:zg->List Nat->List D->R zg
 |ρ,[],[]=>.ok ρ
 |ρ,i::is,d::ds=>DZ (ρ.set i d) is ds
 |_,_,_=>.stuck
def jy(ρ:zg):Tg->D->R zg
 |.one i,d=>.ok (ρ.set i d)
 |.many is,.tuple ds=>DZ ρ is ds
 |.many _,_=>.stuck
noncomputable def zq(ρ:zg)(i:Nat):D:=ρ.getD i .none
noncomputable def kP(turn:zg->D->R (List D×zg)):zg->List D->R (List D×zg)
 |σ,[]=>.ok ([],σ)
 |σ,d::ds=>R.bind (turn σ d) λr=>R.bind (kP turn r.2 ds) λq=>.ok (r.1++q.1,q.2)
theorem W6:∀(turn:zg->D->R (List D×zg)) (x:zg) (d:D) (ds:List D),kP turn x (d::ds)=(turn x d).bind λ(r:List D×zg)=>(kP turn r.snd ds).bind λ(q:List D×zg)=>R.ok (r.fst++q.fst,q.snd):=λ_ _ _ _=>rfl
mutual
noncomputable def ev(G:List D)(cf:Nat->List D->R D):PE->zg->R D
 |.lit l,_=>.ok l.d
 |.var i,ρ=>.ok (zq ρ i)
 |.glob i,_=>.ok (G.getD i .none)
 |.un o a,ρ=>R.bind (ev G cf a ρ) (un o)
 |.bin o a b,ρ=>R.bind (ev G cf a ρ) λx=>R.bind (ev G cf b ρ) λy=>bin o x y
 |.tri o a b c,ρ=>R.bind (ev G cf a ρ) λx=>R.bind (ev G cf b ρ) λy=>R.bind (ev G cf c ρ) λz=>tri o x y z
 |.m1 o a b,ρ=>R.bind (ev G cf a ρ) λx=>if R5 o x then R.bind (ev G cf b ρ) λy=>Hu o x y else .stuck
 |.m2 o a b c,ρ=>R.bind (ev G cf a ρ) λx=>if R6 o x then R.bind (ev G cf b ρ) λy=>R.bind (ev G cf c ρ) λz=>J4 o x y z else .stuck
 |.and_ a b,ρ=>R.bind (ev G cf a ρ) λx=>R.bind (z9 x) λt=>if t then R.bind (ev G cf b ρ) λy=>R.bind (z9 y) λu=>.ok (.bool u) else .ok (.bool false)
 |.or_ a b,ρ=>R.bind (ev G cf a ρ) λx=>R.bind (z9 x) λt=>if t then .ok (.bool true) else R.bind (ev G cf b ρ) λy=>R.bind (z9 y) λu=>.ok (.bool u)
 |.tup es,ρ=>R.bind (evs G cf es ρ) λds=>if ds.any isDict then .stuck else .ok (.tuple ds)
 |.list es,ρ=>R.bind (evs G cf es ρ) λds=>if ds.any isDict then .stuck else .ok (.list ds)
 |.call f es,ρ=>R.bind (evs G cf es ρ) λds=>cf f ds
 |.comp caps rg it t g,ρ=>noVe <| R.bind (ev G cf it ρ) λx=>R.bind (zA rg x) λxs=>
   R.bind (kP (λσ d=>R.bind (jy σ t d) λσ'=>evG G cf g σ') (caps.map λc=>match c with|some i=>zq ρ i|none=>.none) xs) λr=>
    if r.1.length<=zv then .ok (.list r.1) else .stuck
noncomputable def evs(G:List D)(cf:Nat->List D->R D):PEs->zg->R (List D)
 |.nil,_=>.ok []
 |.cons a r,ρ=>R.bind (ev G cf a ρ) λx=>R.bind (evs G cf r ρ) λxs=>.ok (x::xs)
noncomputable def evG(G:List D)(cf:Nat->List D->R D):PG->zg->R (List D×zg)
 |.elt c e,σ=>R.bind (ev G cf c σ) λx=>R.bind (z9 x) λt=>if t then R.bind (ev G cf e σ) λd=>if isDict d then .stuck else .ok ([d],σ) else .ok ([],σ)
end
inductive Fl where
 |next|brk|cont
 |ret(d:D)
noncomputable def Cp(test:zg->R Bool)(body:zg->R (Fl×zg)):Nat->zg->R (Fl×zg)
 |0,_=>.stuck
 |n+1,ρ=>R.bind (test ρ) λt=>if t then R.bind (body ρ) λr=>match r.1 with
   |.next|.cont=>Cp test body n r.2
   |.brk=>.ok (.next,r.2)
   |.ret d=>.ok (.ret d,r.2)
  else .ok (.next,ρ)
theorem gM:∀(test:zg->R Bool) (body:zg->R (Fl×zg)) (x:zg) (n:Nat),Cp test body (n+1) x=(test x).bind λ(t:Bool)=>if t=true then(body x).bind λ(r:Fl×zg)=>match r.fst with|Fl.next=>Cp test body n r.snd|Fl.cont=>Cp test body n r.snd|Fl.brk=>R.ok (Fl.next,r.snd)|Fl.ret d=>R.ok (Fl.ret d,r.snd) else R.ok (Fl.next,x):=λ_ _ _ _=>rfl
noncomputable def AF(bd:zg->D->R zg)(body:zg->R (Fl×zg)):List D->zg->R (Fl×zg)
 |[],ρ=>.ok (.next,ρ)
 |d::ds,ρ=>R.bind (bd ρ d) λρ'=>R.bind (body ρ') λr=>match r.1 with
   |.next|.cont=>AF bd body ds r.2
   |.brk=>.ok (.next,r.2)
   |.ret v=>.ok (.ret v,r.2)
theorem gK:∀(bd:zg->D->R zg) (body:zg->R (Fl×zg)) (x:zg),AF bd body [] x=R.ok (Fl.next,x):=λ_ _ _=>rfl
theorem gL:∀(bd:zg->D->R zg) (body:zg->R (Fl×zg)) (x:zg) (d:D) (ds:List D),AF bd body (d::ds) x=(bd x d).bind λ(ρ':zg)=>(body ρ').bind λ(r:Fl×zg)=>match r.fst with|Fl.next=>AF bd body ds r.snd|Fl.cont=>AF bd body ds r.snd|Fl.brk=>R.ok (Fl.next,r.snd)|Fl.ret v=>R.ok (Fl.ret v,r.snd):=λ_ _ _ _ _=>rfl
def TQ(d:D)(x:D):R D:=match d with
 |.list xs=>if isDict x||decide (zv<=xs.length) then .stuck else .ok (.list (xs++[x]))
 |_=>.stuck
def GQ(d k v:D):R D:=match d with
 |.dict kvs=>if JP k&&!isDict v&&decide (kvs.length<zv)&&(kvs.all λkv=>zX kv.1 k) then .ok (.dict (BI kvs k v)) else .stuck
 |_=>.stuck
noncomputable def exec(G:List D)(cf cio:Nat->List D->R D)(wf:Nat):PS->zg->R (Fl×zg)
 |.skip,ρ=>.ok (.next,ρ)
 |.seq a b,ρ=>R.bind (exec G cf cio wf a ρ) λr=>match r.1 with
  |.next=>exec G cf cio wf b r.2
  |f=>.ok (f,r.2)
 |.assign t e,ρ=>R.bind (ev G cf e ρ) λd=>R.bind (jy ρ t d) λρ'=>.ok (.next,ρ')
 |.newl x es,ρ=>R.bind (evs G cf es ρ) λds=>if ds.any isDict then .stuck else .ok (.next,ρ.set x (.list ds))
 |.newd x,ρ=>.ok (.next,ρ.set x (.dict []))
 |.app x e,ρ=>if DI (zq ρ x) then R.bind (ev G cf e ρ) λd=>R.bind (TQ (zq ρ x) d) λl=>.ok (.next,ρ.set x l) else .stuck
 |.put x k v,ρ=>R.bind (ev G cf v ρ) λd=>R.bind (ev G cf k ρ) λi=>R.bind (GQ (zq ρ x) i d) λl=>.ok (.next,ρ.set x l)
 |.ifs c a b,ρ=>R.bind (ev G cf c ρ) λx=>R.bind (z9 x) λt=>if t then exec G cf cio wf a ρ else exec G cf cio wf b ρ
 |.whil c b,ρ=>Cp (λσ=>R.bind (ev G cf c σ) z9) (λσ=>exec G cf cio wf b σ) wf ρ
 |.forr t rg e b,ρ=>R.bind (ev G cf e ρ) λx=>R.bind (zA rg x) λxs=>AF (λσ d=>jy σ t d) (λσ=>exec G cf cio wf b σ) xs ρ
 |.ret e,ρ=>R.bind (ev G cf e ρ) λd=>.ok (.ret d,ρ)
 |.raise,_=>.ve
 |.brk,ρ=>.ok (.brk,ρ)
 |.cont,ρ=>.ok (.cont,ρ)
 |.exp e,ρ=>R.bind (ev G cf e ρ) λ_=>.ok (.next,ρ)
 |.io f es x,ρ=>R.bind (evs G cf es ρ) λds=>R.bind (noVe (cio f (ds++[zq ρ x]))) λd=>.ok (.next,ρ.set x d)
 |.tryv b x l,ρ=>match exec G cf cio wf b ρ with
  |.ve=>.ok (.next,ρ.set x l.d)
  |r=>r
set_option genCtorIdx false in
structure jt where
 np:Nat
 nv:Nat
 io:Bool
 body:PS
noncomputable def Bx(T:List jt)(f:Nat):Bool:=match T[f]? with|some fd=>fd.io|none=>false
noncomputable def Ce(G:List D)(T:List jt)(wf:Nat):Nat->Nat->List D->R (D×D)
 |0,_,_=>.stuck
 |n+1,f,args=>match T[f]? with
  |none=>.stuck
  |some fd=>if args.length=fd.np then
    R.bind (exec G (λg as=>if Bx T g then .stuck else R.bind (Ce G T wf n g as) λr=>.ok r.1) (λg as=>if Bx T g then R.bind (Ce G T wf n g as) λr=>.ok r.2 else .stuck) wf fd.body (args++vX (fd.nv - fd.np) .none)) λr=>
     match r.1 with
     |.ret d=>.ok (d,zq r.2 (fd.np - 1))
     |.next=>.ok (.none,zq r.2 (fd.np - 1))
     |_=>.stuck
   else .stuck
theorem Ma:∀(G:List D) (T:List jt) (wf x:Nat) (x_1:List D) (n:Nat),Ce G T wf (n+1) x x_1=match T[x]? with|none=>R.stuck|some fd=>if x_1.length=fd.np then(exec G (λ(g:Nat) (as:List D)=>if Bx T g=true then R.stuck else(Ce G T wf n g as).bind λ(r:D×D)=>R.ok r.fst) (λ(g:Nat) (as:List D)=>if Bx T g=true then(Ce G T wf n g as).bind λ(r:D×D)=>R.ok r.snd else R.stuck) wf fd.body (x_1++vX (fd.nv - fd.np) PyData.none)).bind λ(r:Fl×zg)=>match r.fst with|Fl.ret d=>R.ok (d,zq r.snd (fd.np - 1))|Fl.next=>R.ok (PyData.none,zq r.snd (fd.np - 1))|x=>R.stuck else R.stuck:=λ_ _ _ _ _ _=>rfl
def zd(G:List D)(T:List jt)(wf n f:Nat)(args:List D):R D:=if Bx T f then .stuck else R.bind (Ce G T wf n f args) λr=>.ok r.1
def zj(G:List D)(T:List jt)(wf n f:Nat)(args:List D):R D:=if Bx T f then R.bind (Ce G T wf n f args) λr=>.ok r.2 else .stuck
section rules
variable{G:List D}{cf cio:Nat->List D->R D}{wf:Nat}{ρ:zg}
theorem Tn{o:Un}{a:PE}:ev G cf (.un o a) ρ=R.bind (ev G cf a ρ) (un o):=rfl
theorem bC{o:GD}{a b:PE}:ev G cf (.bin o a b) ρ=R.bind (ev G cf a ρ) λx=>R.bind (ev G cf b ρ) λy=>bin o x y:=rfl
theorem bE{o:o5}{a b c:PE}:ev G cf (.tri o a b c) ρ=R.bind (ev G cf a ρ) λx=>R.bind (ev G cf b ρ) λy=>R.bind (ev G cf c ρ) λz=>tri o x y z:=rfl
theorem mA{o:M1}{a b:PE}:ev G cf (.m1 o a b) ρ=R.bind (ev G cf a ρ) λx=>if R5 o x then R.bind (ev G cf b ρ) λy=>Hu o x y else .stuck:=rfl
theorem mB{o:M2}{a b c:PE}:ev G cf (.m2 o a b c) ρ=R.bind (ev G cf a ρ) λx=>if R6 o x then R.bind (ev G cf b ρ) λy=>R.bind (ev G cf c ρ) λz=>J4 o x y z else .stuck:=rfl
theorem Tm{a b:PE}:ev G cf (.and_ a b) ρ=R.bind (ev G cf a ρ) λx=>R.bind (z9 x) λt=>if t then R.bind (ev G cf b ρ) λy=>R.bind (z9 y) λu=>.ok (.bool u) else .ok (.bool false):=rfl
theorem X1{a b:PE}:ev G cf (.or_ a b) ρ=R.bind (ev G cf a ρ) λx=>R.bind (z9 x) λt=>if t then .ok (.bool true) else R.bind (ev G cf b ρ) λy=>R.bind (z9 y) λu=>.ok (.bool u):=rfl
theorem bG{es:PEs}:ev G cf (.tup es) ρ=R.bind (evs G cf es ρ) λds=>if ds.any isDict then .stuck else .ok (.tuple ds):=rfl
theorem WB{es:PEs}:ev G cf (.list es) ρ=R.bind (evs G cf es ρ) λds=>if ds.any isDict then .stuck else .ok (.list ds):=rfl
theorem WA{f:Nat}{es:PEs}:ev G cf (.call f es) ρ=R.bind (evs G cf es ρ) λds=>cf f ds:=rfl
theorem bD:evs G cf .nil ρ=.ok []:=rfl
theorem IW{a:PE}{r:PEs}:evs G cf (.cons a r) ρ=R.bind (ev G cf a ρ) λx=>R.bind (evs G cf r ρ) λxs=>.ok (x::xs):=rfl
theorem bU{a b:PS}:exec G cf cio wf (.seq a b) ρ=R.bind (exec G cf cio wf a ρ) λr=>match r.1 with|.next=>exec G cf cio wf b r.2|f=>.ok (f,r.2):=rfl
theorem EH{t:Tg}{e:PE}:exec G cf cio wf (.assign t e) ρ=R.bind (ev G cf e ρ) λd=>R.bind (jy ρ t d) λρ'=>.ok (.next,ρ'):=rfl
theorem WP{x:Nat}{es:PEs}:exec G cf cio wf (.newl x es) ρ=R.bind (evs G cf es ρ) λds=>if ds.any isDict then .stuck else .ok (.next,ρ.set x (.list ds)):=rfl
theorem WO{x:Nat}:exec G cf cio wf (.newd x) ρ=.ok (.next,ρ.set x (.dict [])):=rfl
theorem bP{x:Nat}{e:PE}:exec G cf cio wf (.app x e) ρ=if DI (zq ρ x) then R.bind (ev G cf e ρ) λd=>R.bind (TQ (zq ρ x) d) λl=>.ok (.next,ρ.set x l) else .stuck:=rfl
theorem bS{x:Nat}{k v:PE}:exec G cf cio wf (.put x k v) ρ=R.bind (ev G cf v ρ) λd=>R.bind (ev G cf k ρ) λi=>R.bind (GQ (zq ρ x) i d) λl=>.ok (.next,ρ.set x l):=rfl
theorem bR{c:PE}{a b:PS}:exec G cf cio wf (.ifs c a b) ρ=R.bind (ev G cf c ρ) λx=>R.bind (z9 x) λt=>if t then exec G cf cio wf a ρ else exec G cf cio wf b ρ:=rfl
theorem WR{c:PE}{b:PS}:exec G cf cio wf (.whil c b) ρ=Cp (λσ=>R.bind (ev G cf c σ) z9) (λσ=>exec G cf cio wf b σ) wf ρ:=rfl
theorem WN{t:Tg}{rg:Bool}{e:PE}{b:PS}:exec G cf cio wf (.forr t rg e b) ρ=R.bind (ev G cf e ρ) λx=>R.bind (zA rg x) λxs=>AF (λσ d=>jy σ t d) (λσ=>exec G cf cio wf b σ) xs ρ:=rfl
theorem bT{e:PE}:exec G cf cio wf (.ret e) ρ=R.bind (ev G cf e ρ) λd=>.ok (.ret d,ρ):=rfl
theorem bQ{e:PE}:exec G cf cio wf (.exp e) ρ=R.bind (ev G cf e ρ) λ_=>.ok (.next,ρ):=rfl
theorem mI{f x:Nat}{es:PEs}:exec G cf cio wf (.io f es x) ρ=R.bind (evs G cf es ρ) λds=>R.bind (noVe (cio f (ds++[zq ρ x]))) λd=>.ok (.next,ρ.set x d):=rfl
theorem I0{b:PS}{x:Nat}{l:No}:exec G cf cio wf (.tryv b x l) ρ=match exec G cf cio wf b ρ with|.ve=>.ok (.next,ρ.set x l.d)|r=>r:=rfl
end rules
end Mine
namespace Mine
open PySem PyProof.Rows
mutual
inductive jG(P:Addr->Prop)(h:Heap):Value->D->Prop
 |none:jG P h .none .none
 |bool(b:Bool):jG P h (.bool b) (.bool b)
 |int(i:Int)(t:Tok):jG P h (.int i t) (.int i)
 |str(x:Str)(t:Tok):v8 x=true->x.length<=zv->jG P h (.str x t) (.str x)
 |list{a:Addr}{o:Obj}{vs:Array Value}{n:Nat}{xs:List D}:P a->h.get? a=some o->o.cls=.type "list"->o.dict=none->o.data=.seq vs n->
   zk P h vs.toList xs->xs.length<=zv->jG P h (.ref a) (.list xs)
 |tuple{a:Addr}{o:Obj}{vs:Array Value}{n:Nat}{xs:List D}:P a->h.get? a=some o->o.cls=.type "tuple"->o.data=.seq vs n->
   zk P h vs.toList xs->xs.length<=zv->jG P h (.ref a) (.tuple xs)
inductive zk(P:Addr->Prop)(h:Heap):List Value->List D->Prop
 |nil:zk P h [] []
 |cons{v:Value}{vs:List Value}{d:D}{ds:List D}:jG P h v d->zk P h vs ds->zk P h (v::vs) (d::ds)
end
def Dy(P:Addr->Prop)(h h':Heap):Prop:=∀a o,P a->h.get? a=some o->∃o',h'.get? a=some o'/\o'.cls=o.cls/\o'.dict=o.dict/\o'.data=o.data
section
variable{P P':Addr->Prop}{h h':Heap}
theorem Dy.refl:Dy P h h:=λ_ o _ e=>⟨o,e,rfl,rfl,rfl⟩
theorem Dy.of_keep(k:∀a o,h.get? a=some o->h'.get? a=some o):Dy P h h':=λa o _ e=>⟨o,k a o e,rfl,rfl,rfl⟩
theorem Dy.trans(x:Dy P h h')(y:Dy P h' h₂):Dy P h h₂:=λa o p e=>by
 obtain⟨o',e',c1,c2,c3⟩:=x a o p e;obtain⟨o₂,e₂,d1,d2,d3⟩:=y a o' p e';exact⟨o₂,e₂,d1.trans c1,d2.trans c2,d3.trans c3⟩
theorem Dy.sub(x:Dy P' h h')(hp:∀a,P a->P' a):Dy P h h':=λa o p e=>x a o (hp a p) e
theorem MW(hp:∀a,P a->P' a)(hs:Dy P h h'):(∀{v:Value} {d:D},jG P h v d->jG P' h' v d)/\∀{vs:List Value} {ds:List D},zk P h vs ds->zk P' h' vs ds:=by
 constructor
 all_goals intro v d x
 ·refine jG.rec (motive_1:=λv d _=>jG P' h' v d) (motive_2:=λvs ds _=>zk P' h' vs ds) .none .bool .int .str ?_ ?_ .nil (λ_ _ a r=>.cons a r) x
  ·intro a o vs n xs p ho hc hd hda _ hz r;obtain⟨o',e',c1,c2,c3⟩:=hs _ o p ho;exact .list (hp _ p) e' (c1.trans hc) (c2.trans hd) (c3.trans hda) r hz
  ·intro a o vs n xs p ho hc hda _ hz r;obtain⟨o',e',c1,c2,c3⟩:=hs _ o p ho;exact .tuple (hp _ p) e' (c1.trans hc) (c3.trans hda) r hz
 ·refine zk.rec (motive_1:=λv d _=>jG P' h' v d) (motive_2:=λvs ds _=>zk P' h' vs ds) .none .bool .int .str ?_ ?_ .nil (λ_ _ a r=>.cons a r) x
  ·intro a o vs n xs p ho hc hd hda _ hz r;obtain⟨o',e',c1,c2,c3⟩:=hs _ o p ho;exact .list (hp _ p) e' (c1.trans hc) (c2.trans hd) (c3.trans hda) r hz
  ·intro a o vs n xs p ho hc hda _ hz r;obtain⟨o',e',c1,c2,c3⟩:=hs _ o p ho;exact .tuple (hp _ p) e' (c1.trans hc) (c3.trans hda) r hz
theorem jG.mono(hp:∀a,P a->P' a)(hs:Dy P h h')(x:jG P h v d):jG P' h' v d:=(MW hp hs).1 x
theorem zk.mono(hp:∀a,P a->P' a)(hs:Dy P h h')(x:zk P h vs ds):zk P' h' vs ds:=(MW hp hs).2 x
theorem jG.keep(k:∀a o,h.get? a=some o->h'.get? a=some o)(x:jG P h v d):jG P h' v d:=x.mono (λ_ p=>p) (.of_keep k)
theorem zk.keep(k:∀a o,h.get? a=some o->h'.get? a=some o)(x:zk P h v d):zk P h' v d:=x.mono (λ_ p=>p) (.of_keep k)
theorem jG.sub(hp:∀a,P a->P' a)(x:jG P h v d):jG P' h v d:=x.mono hp .refl
theorem zk.sub(hp:∀a,P a->P' a)(x:zk P h v d):zk P' h v d:=x.mono hp .refl
theorem jG.reads(r:jG P h v d):∃as,Reads h v d as:=
 jG.rec (motive_1:=λv d _=>∃as,Reads h v d as) (motive_2:=λvs ds _=>∃as,ReadsAll h vs ds as) ⟨_,.none⟩ (λb=>⟨_,.bool b⟩) (λi t=>⟨_,.int i t⟩) (λx t _ _=>⟨_,.str x t⟩)
  (λ_ ho hc _ hda _ _ ih=>ih.elim λ_ q=>⟨_,.list ho hc hda q⟩) (λ_ ho hc hda _ _ ih=>ih.elim λ_ q=>⟨_,.tuple ho hc hda q⟩) ⟨_,.nil⟩ (λ_ _ ia ir=>ia.elim λ_ q=>ir.elim λ_ p=>⟨_,.cons q p⟩) r
theorem zk.reads(r:zk P h vs ds):∃as,ReadsAll h vs ds as:=
 zk.rec (motive_1:=λ_ _ _=>True) (motive_2:=λvs ds _=>∃as,ReadsAll h vs ds as) trivial (λ_=>trivial) (λ_ _=>trivial) (λ_ _ _ _=>trivial)
  (λ_ _ _ _ _ _ _ _=>trivial) (λ_ _ _ _ _ _ _=>trivial) ⟨_,.nil⟩ (λa _ _ ir=>(jG.reads a).elim λ_ q=>ir.elim λ_ p=>⟨_,.cons q p⟩) r
theorem jG.lay(r:jG P h v d):d.canLay0=true:=
 jG.rec (motive_1:=λ_ d _=>d.canLay0=true) (motive_2:=λ_ ds _=>zan ds=true) rfl (λ_=>rfl) (λ_ _=>rfl) (λ_ _ h1 _=>h1)
  (λ_ _ _ _ _ _ _ ih=>ih) (λ_ _ _ _ _ _ ih=>ih) rfl (λ_ _ ia ir=>Bool.and_eq_true_iff.mpr ⟨ia,ir⟩) r
theorem zk.lay(r:zk P h vs ds):zan ds=true:=
 zk.rec (motive_1:=λ_ _ _=>True) (motive_2:=λ_ ds _=>zan ds=true) trivial (λ_=>trivial) (λ_ _=>trivial) (λ_ _ _ _=>trivial)
  (λ_ _ _ _ _ _ _ _=>trivial) (λ_ _ _ _ _ _ _=>trivial) rfl (λa _ _ ir=>Bool.and_eq_true_iff.mpr ⟨jG.lay a,ir⟩) r
theorem zk.length:∀{ds:List D},zk P h vs ds->vs.length=ds.length:=by
 induction vs with
 |nil=>intro ds r;cases r;rfl
 |cons v vs ih=>intro ds r;cases r with|cons _ r=>exact congrArg (·+1) (ih r)
theorem zk.get:∀{ds:List D},zk P h vs ds->∀{i:Nat} {d:D},ds[i]?=some d->∃v,vs[i]?=some v/\jG P h v d:=by
 induction vs with
 |nil=>intro ds r i d e;cases r;exact nn e
 |cons v vs ih=>
  intro ds r i d e;cases r with
  |cons a r=>induction i using w3 with
   |zero=>(obtain rfl:=zP e;clear e);exact⟨v,rfl,a⟩
   |succ i=>exact ih r e
theorem zk.append:∀{ds:List D},zk P h vs ds->∀{ws:List Value} {es:List D},zk P h ws es->zk P h (vs++ws) (ds++es):=by
 induction vs with
 |nil=>intro ds r ws es q;cases r;exact q
 |cons v vs ih=>intro ds r ws es q;cases r with|cons a r=>exact .cons a (ih r q)
theorem zk.take:∀{ds:List D},zk P h vs ds->∀n,zk P h (vs.take n) (ds.take n):=by
 induction vs with
 |nil=>intro ds r n;cases r;cases n<;>exact .nil
 |cons v vs ih=>
  intro ds r n;cases r with
  |cons a r=>induction n using w3 with
   |zero=>exact .nil
   |succ n=>exact .cons a (ih r n)
theorem zk.drop:∀{ds:List D},zk P h vs ds->∀n,zk P h (vs.drop n) (ds.drop n):=by
 induction vs with
 |nil=>intro ds r n;cases r;cases n<;>exact .nil
 |cons v vs ih=>
  intro ds r n;cases r with
  |cons a r=>induction n using w3 with
   |zero=>exact .cons a r
   |succ n=>exact ih r n
theorem zk.one(x:jG P h v d):zk P h [v] [d]:=.cons x .nil
end
end Mine
set_option backward.match.sparseCases false
namespace Mine
open PySem
set_option genCtorIdx false in
set_option genInjectivity false in
structure Cx where
 names:List (Str×NameKind)
 funs:List Str
 ios:List Str
 consts:List Str
noncomputable def Cx.kind(cx:Cx)(x:Str):Option NameKind:=cx.names.lookup x
noncomputable def zZ:NameKind->Bool
 |.local|.cell|.free=>true
 |_=>false
noncomputable def zE(x:Str):Bool:=!(x==("__debug__" : Str))&&!(x==("__classdict__" : Str))&&!(x==("__name__" : Str))
def Cx.var?(cx:Cx)(x:Str):Option Nat:=
 match cx.names.lookup x with
 |some k=>if zZ k&&zE x then cx.names.findIdx? (·.1==x) else none
 |none=>none
def Cx.isGlob(cx:Cx)(x:Str):Bool:=cx.names.lookup x==some .globalImplicit&&zE x
noncomputable def Cx.fun?(cx:Cx)(x:Str):Option Nat:=if cx.isGlob x then cx.funs.findIdx? (·==x) else none
noncomputable def Cx.const?(cx:Cx)(x:Str):Option Nat:=if cx.isGlob x then cx.consts.findIdx? (·==x) else none
noncomputable def Cx.isB(cx:Cx)(x:Str)(b:String):Bool:=cx.isGlob x&&x==uQ b
noncomputable def HT:Operator->Option GD
 |.Add=>some .add
 |.Sub=>some .sub
 |.Mult=>some .mul
 |.Mod=>some .mod
 |.FloorDiv=>some .fdiv
 |_=>none
noncomputable def HW:CmpOp->Option GD
 |.Eq=>some .eq
 |.NotEq=>some .ne
 |.Lt=>some .lt
 |.Gt=>some .gt
 |.In=>some .mem
 |.NotIn=>some .nmem
 |_=>none
def JT:Const->Option No
 |.none=>some .none
 |.bool b=>some (.bool b)
 |.int i=>some (.int i)
 |.str x=>if v8 x&&decide (x.length<=zv) then some (.str x) else none
 |_=>none
inductive sG{α β:Type}(o:Option α)(f:α->Option β)(b:β):Prop
 |mk(a:α)(h:o=some a)(k:f a=some b)
theorem ob{α β:Type}{o:Option α}{f:α->Option β}{b:β}(h:o.bind f=some b):sG o f b:=by
 induction o using uW with
 |none=>exact nn h
 |some a=>exact⟨a,rfl,h⟩
theorem Ci{α:Type}{c:Prop}[Decidable c]{x:Option α}{y:α}(h:(if c then x else none)=some y):c/\x=some y:=
 if hc:c then⟨hc,(if_pos hc).symm.trans h⟩ else nn ((if_neg hc).symm.trans h)
theorem O9{α:Type}{c:Prop}[Decidable c]{x z:Option α}{y:α}(h:(if c then x else z)=some y):(c/\x=some y)\/(¬c/\z=some y):=
 if hc:c then .inl ⟨hc,(if_pos hc).symm.trans h⟩ else .inr ⟨hc,(if_neg hc).symm.trans h⟩
theorem Mg{α:Type}{l:List α}(h:l.isEmpty=true):l=[]:=by cases l<;>first|rfl|exact ff h
inductive MM{α β:Type}(f:α->Option β)(a:α)(as:List α):List β->Prop
 |mk(b:β)(bs:List β)(h:f a=some b)(k:as.mapM f=some bs):MM f a as (b::bs)
theorem mm{α β:Type}{f:α->Option β}{a:α}{as:List α}{bs:List β}(h:(a::as).mapM f=some bs):MM f a as bs:=by
 rw[List.mapM_cons] at h;replace h:=ob h;obtain⟨b,h1,h⟩:=h;replace h:=ob h;obtain⟨W5,h2,h⟩:=h
 (obtain rfl:=zP h;clear h)
 exact⟨b,W5,h1,h2⟩
theorem iH{α β:Type}{f:α->Option β}{bs:List β}(h:[].mapM f=some bs):bs=[]:=by
 rw[List.mapM_nil] at h;(obtain rfl:=zP h;clear h);rfl
noncomputable def Fd{α:Type}:List α->Option α
 |[]=>none
 |a::r=>if r.isEmpty then some a else none
inductive dM{α:Type}(a:α):List α->Prop
 |mk:dM a [a]
theorem kU{α:Type}{a:α}{l:List α}(h:Fd l=some a):dM a l:=by
 induction l using uB with
 |nil=>exact nn h
 |cons b r=>
  obtain⟨h1,h2⟩:=Ci h
  (obtain rfl:=zP h2;clear h2);cases Mg h1;exact⟨⟩
noncomputable def BW:Expr->Option Str
 |.Name x _=>some x
 |_=>none
inductive dE(x:Str):Expr->Prop
 |mk(p:Pos):dE x (.Name x p)
theorem kD{e:Expr}{x:Str}(h:BW e=some x):dE x e:=by
 induction e using v4 with
 |Name=>cases zP h;exact⟨_⟩
 |_=>exact nn h
noncomputable def Ug:Expr->Option Const
 |.Constant c _ _=>some c
 |_=>none
inductive WX(c:Const):Expr->Prop
 |mk(k:Nat)(p:Pos):WX c (.Constant c k p)
theorem Md{e:Expr}{x:Const}(h:Ug e=some x):WX x e:=by
 induction e using v4 with
 |Constant=>cases zP h;exact⟨_,_⟩
 |_=>exact nn h
noncomputable def QT:Const->Bool
 |.str _=>true
 |_=>false
inductive dF:Const->Prop
 |mk(s:Str):dF (.str s)
theorem S3{c:Const}(h:QT c=true):dF c:=by
 cases c<;>first|exact ff h|exact⟨_⟩
noncomputable def Wv:Expr->Option (List Expr)
 |.Tuple es _ _=>some es
 |_=>none
inductive nV(es:List Expr):Expr->Prop
 |mk(k:Nat)(p:Pos):nV es (.Tuple es k p)
noncomputable def ZA:Expr->Option (List Expr)
 |.List es _=>some es
 |_=>none
inductive dA(es:List Expr):Expr->Prop
 |mk(p:Pos):dA es (.List es p)
theorem U5{e:Expr}{x:List Expr}(h:ZA e=some x):dA x e:=by
 induction e using v4 with
 |List=>cases zP h;exact⟨_⟩
 |_=>exact nn h
noncomputable def fQ:Expr->Bool
 |.Dict ks vs _=>ks.isEmpty&&vs.isEmpty
 |_=>false
inductive d7:Expr->Prop
 |mk(p:Pos):d7 (.Dict [] [] p)
theorem YE{e:Expr}(h:fQ e=true):d7 e:=by
 induction e using v4 with
 |Dict ks vs p=>
  have h1:=Mg (jg h);have h2:=Mg (z7 h);subst h1 h2;exact⟨_⟩
 |_=>exact ff h
noncomputable def Jf:Expr->Option (Expr×List Expr×Pos)
 |.Call f args kws p=>if kws.isEmpty then some (f,args,p) else none
 |_=>none
inductive d6(q:Expr×List Expr×Pos):Expr->Prop
 |mk:d6 q (.Call q.1 q.2.1 [] q.2.2)
theorem DC{e:Expr}{q:Expr×List Expr×Pos}(h:Jf e=some q):d6 q e:=by
 induction e using v4 with
 |Call f args kws p=>obtain⟨h1,h2⟩:=Ci h;(obtain rfl:=zP h2;clear h2);cases Mg h1;exact⟨⟩
 |_=>exact nn h
def HU(e:Expr):Option (Str×Expr):=(Jf e).bind λq=>(BW q.1).bind λf=>(Fd q.2.1).bind λx=>some (f,x)
inductive d5(q:Str×Expr):Expr->Prop
 |mk(p pos:Pos):d5 q (.Call (.Name q.1 p) [q.2] [] pos)
theorem Ei{e:Expr}{q:Str×Expr}(h:HU e=some q):d5 q e:=by
 replace h:=ob h;obtain⟨⟨a,b,c⟩,h1,h⟩:=h;replace h:=ob h;obtain⟨f,h2,h⟩:=h;replace h:=ob h;obtain⟨x,h3,h⟩:=h
 (obtain rfl:=zP h;clear h);cases DC h1;cases kD h2
 have h3:=kU h3;dsimp only at h3 ⊢;cases h3;exact⟨_,_⟩
noncomputable def Cx.tv?(cx:Cx)(x:Str):Option Nat:=
 match cx.names.lookup x with
 |some .local=>cx.var? x
 |some .cell=>cx.var? x
 |_=>none
def DN(cx:Cx)(e:Expr):Option Nat:=(BW e).bind cx.tv?
def B7(cx:Cx):Expr->Option Tg
 |.Name x _=>(cx.tv? x).bind λi=>some (.one i)
 |.Tuple es _ _=>(es.mapM (DN cx)).bind λis=>some (.many is)
 |_=>none
inductive Yc(cx:Cx):Expr->Tg->Prop
 |one{x:Str}{p:Pos}{i:Nat}(h:cx.tv? x=some i):Yc cx (.Name x p) (.one i)
 |many{es:List Expr}{k:Nat}{p:Pos}{is:List Nat}(h:es.mapM (DN cx)=some is):Yc cx (.Tuple es k p) (.many is)
theorem Wp{cx:Cx}{e:Expr}{t:Tg}(h:B7 cx e=some t):Yc cx e t:=by
 induction e using v4 with
 |Name x p=>replace h:=ob h;obtain⟨i,h1,h⟩:=h;(obtain rfl:=zP h;clear h);exact .one h1
 |Tuple es k p=>replace h:=ob h;obtain⟨i,h1,h⟩:=h;(obtain rfl:=zP h;clear h);exact .many h1
 |_=>exact nn h
noncomputable def eP(cx:Cx)(p:Str×NameKind):Option (Option Nat):=match p.2 with
 |.free=>if cx.kind p.1==some .cell||cx.kind p.1==some .free then(cx.var? p.1).map some else none
 |_=>some none
def Dd(cx:Cx)(names:List (Str×NameKind)):Option (List (Option Nat)):=names.mapM (eP cx)
noncomputable def AT:List PE->Option PE
 |[]=>none
 |[a]=>some a
 |a::r=>(AT r).map (.and_ a)
noncomputable def Cw:List PE->Option PE
 |[]=>none
 |[a]=>some a
 |a::r=>(Cw r).map (.or_ a)
noncomputable def kl:List PE->PEs
 |[]=>.nil
 |a::r=>.cons a (kl r)
def JH(cx:Cx)(e:Expr):Option Expr:=(HU e).bind λq=>if cx.isB q.1 "range"=true then some q.2 else none
noncomputable def BP(sc:Scope):Bool:=sc.kind==.function&&(sc.names.all λp=>p.2 != .cell)&&decide ((sc.names.map (·.1)).Nodup)
noncomputable def fJ(tr:Cx->Expr->Option PE)(cx:Cx):List Expr->Option PE
 |[]=>some (.lit (.bool true))
 |c::r=>if r.isEmpty then tr cx c else none
noncomputable def sU(tr:Cx->Expr->Option PE)(cx:Cx)(e:Expr):Option Expr->Option (Bool×PE)
 |some x=>(tr cx x).bind λp=>some (true,p)
 |none=>(tr cx e).bind λp=>some (false,p)
def Xu(tr:Cx->Expr->Option PE)(cx:Cx)(e:Expr):Option (Bool×PE):=sU tr cx e (JH cx e)
def IV(tr:Cx->Expr->Option PE)(cx:Cx)(elt:Expr):List Expr->List xE->Option PG
 |ifs,[]=>(fJ tr cx ifs).bind λc=>(tr cx elt).bind λe=>some (.elt c e)
 |_,_::_=>none
def j7:Expr->Bool
 |.Call f args kws _=>(BW f).isSome&&args.isEmpty&&kws.isEmpty
 |_=>false
noncomputable def pO(m:Str):Option M1:=if m==("join" : Str) then some .join else if m==("split" : Str) then some .split else if m==("index" : Str) then some .index else none
def ZL(tr:Cx->Expr->Option PE)(cx:Cx)(m:Str)(x p:PE):List Expr->Option PE
 |[]=>(pO m).bind λk=>some (.m1 k x p)
 |b::r=>if(m==("get" : Str)&&r.isEmpty)=true then(tr cx b).bind λq=>some (.m2 .get x p q) else none
def iF(tr:Cx->Expr->Option PE)(cx:Cx)(m:Str)(x:PE):List Expr->Option PE
 |[]=>none
 |a::r=>(tr cx a).bind λp=>ZL tr cx m x p r
noncomputable def Yp(cx:Cx)(f:Str):Option Un:=if cx.isB f "len"=true then some .len else if cx.isB f "int"=true then some .int else none
noncomputable def Yq(cx:Cx)(f:Str):Option GD:=if cx.isB f "max"=true then some .max else if cx.isB f "min"=true then some .min else none
def oG(tr:Cx->Expr->Option PE)(cx:Cx)(f:Str)(p:PE):List Expr->Option PE
 |[]=>(Yp cx f).bind λu=>some (.un u p)
 |b::r=>if r.isEmpty then(Yq cx f).bind λo=>(tr cx b).bind λq=>some (.bin o p q) else none
def sM(tr:Cx->Expr->Option PE)(cx:Cx)(f:Str):List Expr->Option PE
 |[]=>none
 |a::r=>(tr cx a).bind λp=>oG tr cx f p r
noncomputable def UK:Const->Bool
 |.none=>true
 |_=>false
def rG(tr:Cx->Expr->Option PE)(cx:Cx)(l:Expr):Expr->Option PE
 |.Constant c _ _=>if UK c=true then(tr cx l).bind λp=>some (.un .isNone p) else none
 |.Name b _=>(HU l).bind λq=>if(cx.isB q.1 "type"&&cx.isB b "bool")=true then(tr cx q.2).bind λp=>some (.un .tyB p) else none
 |_=>none
def W8(tr:Cx->Expr->Option PE)(cx:Cx)(l:Expr)(op:CmpOp)(r:Expr):Option PE:=
 (HW op).bind λo=>(tr cx l).bind λp=>(tr cx r).bind λq=>some (.bin o p q)
def eR(tr:Cx->Expr->Option PE)(cx:Cx)(l:Expr)(op:CmpOp)(r:Expr):Option PE:=
 match op with
 |.Is=>rG tr cx l r
 |op=>W8 tr cx l op r
noncomputable def tV(tr:Cx->Expr->Option PE)(cx:Cx)(v:Expr):Option Expr->Option PE
 |none=>none
 |some u=>(tr cx v).bind λp=>(tr cx u).bind λq=>some (.bin .upto p q)
noncomputable def tU(tr:Cx->Expr->Option PE)(cx:Cx)(v l:Expr):Option Expr->Option PE
 |none=>(tr cx v).bind λp=>(tr cx l).bind λq=>some (.bin .from_ p q)
 |some u=>(tr cx v).bind λp=>(tr cx l).bind λq=>(tr cx u).bind λr=>some (.tri .slice p q r)
noncomputable def tS(tr:Cx->Expr->Option PE)(cx:Cx)(v:Expr)(u:Option Expr):Option Expr->Option PE
 |none=>tV tr cx v u
 |some l=>tU tr cx v l u
noncomputable def oY:Expr->Bool
 |.Slice ..=>true
 |_=>false
noncomputable def tT(tr:Cx->Expr->Option PE)(cx:Cx)(v:Expr):Expr->Option PE
 |.Slice l u s _=>if s.isNone=true then tS tr cx v u l else none
 |_=>none
def lL(tr:Cx->Expr->Option PE)(cx:Cx)(v i:Expr):Option PE:=
 if oY i=true then tT tr cx v i else(tr cx v).bind λp=>(tr cx i).bind λq=>some (.bin .idx p q)
noncomputable def Q2(p:Pos):Expr->Option Expr
 |.Attribute o k ap=>if(k==("keys" : Str)&&(ap.endLine==p.line&&!j7 o))=true then some o else none
 |_=>none
def Zs(e:Expr):Option Expr:=(Jf e).bind λq=>if q.2.1.isEmpty=true then Q2 q.2.2 q.1 else none
def XA(l:List Expr):Option Expr:=(Fd l).bind Zs
def Yx(tr:Cx->Expr->Option PE)(cx:Cx)(f:Str)(args:List Expr):Option Nat->Option PE
 |some i=>if args.isEmpty=false then(args.mapM (tr cx)).bind λxs=>some (.call i (kl xs)) else none
 |none=>sM tr cx f args
def PK(tr:Cx->Expr->Option PE)(cx:Cx)(f:Str)(args:List Expr):Option PE:=
 if cx.isB f "sorted"=true then(XA args).bind λo=>(tr cx o).bind λp=>some (.un .keys p)
 else Yx tr cx f args (cx.fun? f)
def PH(tr:Cx->Expr->Option PE)(cx:Cx)(args:List Expr)(p:Pos):Expr->Option PE
 |.Name f _=>PK tr cx f args
 |.Attribute o m ap=>if(ap.endLine==p.line&&!j7 o)=true then(tr cx o).bind λx=>iF tr cx m x args else none
 |_=>none
def RA(cx:Cx)(x:Str):Option Nat->Option PE
 |some i=>some (.var i)
 |none=>(cx.const? x).bind λi=>some (.glob i)
def Yv(es:List PE):BoolOp->Option PE
 |.And=>AT es
 |.Or=>Cw es
noncomputable def lY:UnaryOp->Option Un
 |.Not=>some .not
 |.USub=>some .neg
 |_=>none
def P8(tr:Cx->Expr->Option PE)(cx:Cx)(elt:Expr)(scope:Scope):List xE->Option PE
 |[]=>none
 |⟨t,it,ifs,a⟩::r=>if a=0/\BP scope=true then(Xu tr cx it).bind λq=>(Dd cx scope.names).bind λcaps=>(B7 {cx with names:=scope.names} t).bind λt=>
    (IV tr {cx with names:=scope.names} elt ifs r).bind λg=>some (.comp caps q.1 q.2 t g)
   else none
noncomputable def z6:Nat->Cx->Expr->Option PE
 |0,_,_=>none
 |n+1,cx,e=>match e with
  |.Constant c _ _=>(JT c).bind λl=>some (.lit l)
  |.Name x _=>RA cx x (cx.var? x)
  |.BoolOp op vs _=>if 2<=vs.length then(vs.mapM (z6 n cx)).bind λes=>Yv es op else none
  |.BinOp l op r _=>(HT op).bind λo=>(z6 n cx l).bind λp=>(z6 n cx r).bind λq=>some (.bin o p q)
  |.UnaryOp op x _=>(lY op).bind λo=>(z6 n cx x).bind λp=>some (.un o p)
  |.List es _=>if es.length<=1000 then(es.mapM (z6 n cx)).bind λxs=>some (.list (kl xs)) else none
  |.Tuple es _ _=>if es.length<=1000 then(es.mapM (z6 n cx)).bind λxs=>some (.tup (kl xs)) else none
  |.Compare l ops rs _=>(Fd ops).bind λop=>(Fd rs).bind λr=>eR (z6 n) cx l op r
  |.Call f args kws p=>if kws.isEmpty=true then PH (z6 n) cx args p f else none
  |.Subscript v i _=>lL (z6 n) cx v i
  |.ListComp elt gens scope _=>P8 (z6 n) cx elt scope gens
  |_=>none
noncomputable def kJ:List PS->PS
 |[]=>.skip
 |[a]=>a
 |a::r=>.seq a (kJ r)
def Xc(cx:Cx)(f:Str)(p:Pos)(args:List Expr)(q:Pos):Option PS:=
 if cx.ios.any (·==f)=true then(cx.fun? f).bind λi=>(args.dropLast.mapM (z6 40 cx)).bind λes=>args.getLast?.bind λl=>(BW l).bind λx=>(cx.tv? x).bind λv=>some (.io i (kl es) v)
 else(z6 40 cx (.Call (.Name f p) args [] q)).bind λe=>some (.exp e)
def Hv(e:Expr):Option Str:=(Jf e).bind λq=>BW q.1
def lR(cx:Cx):Stmt->Option PS
 |.Assign ts e _=>(Hv e).bind λ_=>(Fd ts).bind λt=>(BW t).bind λx=>(cx.tv? x).bind λi=>(z6 40 cx e).bind λp=>some (.assign (.one i) p)
 |_=>none
def XX(cx:Cx)(b:List Stmt):Option PS:=(Fd b).bind (lR cx)
def dY(cx:Cx)(i:Nat)(v:Expr):Option (List Expr)->Option PS
 |some es=>if es.length<=1000 then(es.mapM (z6 40 cx)).bind λxs=>some (.newl i (kl xs)) else none
 |none=>if fQ v=true then some (.newd i) else(z6 40 cx v).bind λp=>some (.assign (.one i) p)
def W3(cx:Cx)(t v:Expr):Option (List Expr)->Option PS
 |some _=>none
 |none=>(B7 cx t).bind λt=>(z6 40 cx v).bind λp=>some (.assign t p)
def dX(cx:Cx)(t v:Expr):Option PS:=
 match t with
 |.Name x _=>(cx.tv? x).bind λi=>dY cx i v (ZA v)
 |.Subscript o k _=>(BW o).bind λx=>(cx.tv? x).bind λi=>(z6 40 cx k).bind λp=>(z6 40 cx v).bind λq=>some (.put i p q)
 |.Tuple _ _ _=>W3 cx t v (Wv v)
 |_=>none
def Qp(cx:Cx)(args:List Expr)(q:Pos):Expr->Option PS
 |.Attribute o m ap=>if(m==("append" : Str)&&ap.endLine==q.line)=true then(BW o).bind λx=>(Fd args).bind λe=>(cx.tv? x).bind λi=>(z6 40 cx e).bind λp=>some (.app i p) else none
 |.Name f p=>Xc cx f p args q
 |_=>none
def Sb(cx:Cx)(e:Expr):Option PS:=(HU e).bind λq=>(Ug q.2).bind λc=>if(QT c&&cx.isB q.1 "ValueError")=true then some .raise else none
def Xj:Stmt->Option (Str×Const)
 |.Assign ts v _=>(Fd ts).bind λt=>(BW t).bind λy=>(Ug v).bind λc=>some (y,c)
 |_=>none
inductive d8(q:Str×Const):Stmt->Prop
 |mk(p p2 pos:Pos)(k:Nat):d8 q (.Assign [.Name q.1 p] (.Constant q.2 k p2) pos)
theorem QD{s:Stmt}{q:Str×Const}(h:Xj s=some q):d8 q s:=by
 induction s using zbz with
 |Assign ts v pos=>
  replace h:=ob h;obtain⟨t,h1,h⟩:=h;replace h:=ob h;obtain⟨y,h2,h⟩:=h;replace h:=ob h;obtain⟨c,h3,h⟩:=h
  (obtain rfl:=zP h;clear h);cases kU h1;cases kD h2;cases Md h3
  exact⟨_,_,_,_⟩
 |_=>exact nn h
def XY(cx:Cx)(b:List Stmt):ExceptHandler->Option PS
 |.ExceptHandler ty nm body _=>if nm.isNone=true then ty.bind λt=>(BW t).bind λx=>(Fd body).bind λs=>(Xj s).bind λq=>if cx.isB x "ValueError"=true then(XX cx b).bind λb=>(cx.tv? q.1).bind λi=>(JT q.2).bind λl=>some (.tryv b i l) else none else none
noncomputable def LY:Nat->Cx->Stmt->Option PS
 |0,_,_=>none
 |n+1,cx,st=>match st with
  |.Expr e _=>(Jf e).bind λq=>Qp cx q.2.1 q.2.2 q.1
  |.Assign ts v _=>(Fd ts).bind λt=>dX cx t v
  |.If c a b _=>(z6 40 cx c).bind λc=>(a.mapM (LY n cx)).bind λa=>(b.mapM (LY n cx)).bind λb=>some (.ifs c (kJ a) (kJ b))
  |.While c b o _=>if o.isEmpty=true then(z6 40 cx c).bind λc=>(b.mapM (LY n cx)).bind λb=>some (.whil c (kJ b)) else none
  |.For t it b o _=>if o.isEmpty=true then(B7 cx t).bind λt=>(Xu (z6 40) cx it).bind λq=>(b.mapM (LY n cx)).bind λb=>some (.forr t q.1 q.2 (kJ b)) else none
  |.Return e _=>e.bind λe=>(z6 40 cx e).bind λp=>some (.ret p)
  |.Raise e c _=>if c.isNone=true then e.bind (Sb cx) else none
  |.Break _=>some .brk
  |.Continue _=>some .cont
  |.Try b hs o f _=>if(o.isEmpty&&f.isEmpty)=true then(Fd hs).bind λh=>XY cx b h else none
  |_=>none
def KO(cx:Cx)(body:List Stmt):Option PS:=(body.mapM (LY 40 cx)).map kJ
inductive VS where
 |u|f|o
 deriving DecidableEq
noncomputable def VS.at(st:List VS)(i:Nat):VS:=st.getD i .u
noncomputable def jv(st:List VS):Tg->List VS
 |.one i=>st.set i .f
 |.many is=>is.foldl (λs i=>s.set i .f) st
mutual
noncomputable def k8(st:List VS)(b:Bool):PE->Bool
 |.lit _=>true
 |.var i=>match VS.at st i with|.u=>false|.f=>true|.o=>b
 |.glob _=>true
 |.un _ a=>k8 st true a
 |.bin _ x y=>k8 st true x&&k8 st true y
 |.tri _ x y z=>k8 st true x&&k8 st true y&&k8 st true z
 |.m1 _ x y=>k8 st true x&&k8 st true y
 |.m2 _ x y z=>k8 st true x&&k8 st true y&&k8 st false z
 |.and_ x y=>k8 st true x&&k8 st true y
 |.or_ x y=>k8 st true x&&k8 st true y
 |.tup es=>It st es
 |.list es=>It st es
 |.call _ es=>It st es
 |.comp caps rg it t g=>k8 st rg it&&lkG (jv (caps.map λc=>match c with|some i=>VS.at st i|none=>.u) t) g
noncomputable def It(st:List VS):PEs->Bool
 |.nil=>true
 |.cons a r=>k8 st false a&&It st r
noncomputable def lkG(st:List VS):PG->Bool
 |.elt c e=>k8 st true c&&k8 st false e
end
end Mine
set_option backward.match.sparseCases true
namespace Mine
open PySem PyProof.Rows PySem.Calls
def zx(h h':Heap):Prop:=∀a o,h.get? a=some o->h'.get? a=some o
theorem zx.refl(h:Heap):zx h h:=λ_ _ e=>e
theorem zx.trans(x:zx h h')(y:zx h' h₂):zx h h₂:=λa o e=>y a o (x a o e)
theorem zx.push(h:Heap)(o:Obj):zx h (h.push o):=λ_ _ e=>uO o e
def Ae(P:Addr->Prop)(h:Heap):Prop:=∀a,h.get? a=none->P a
theorem Ae.keep(x:Ae P h)(k:zx h h'):Ae P h':=λa e=>x a (by
 cases q:h.get? a with
 |none=>rfl
 |some o=>rw[k a o q] at e;exact sn e)
theorem Ae.at_size(x:Ae P h):P h.objs.size:=x _ (xF (uK _))
inductive Dx(P:Addr->Prop)(h:Heap){K:Type}(enc:K->D):List (K×Value)->List (D×D)->Prop
 |nil:Dx P h enc [] []
 |cons{k:K}{v:Value}{d:D}{l:List (K×Value)}{kvs:List (D×D)}:jG P h v d->Dx P h enc l kvs->Dx P h enc ((k,v)::l) ((enc k,d)::kvs)
inductive Ee(P:Addr->Prop)(h:Heap):List (List Int×Addr×Value)->List (D×D)->Prop
 |nil:Ee P h [] []
 |cons{i j:Int}{a:Addr}{v:Value}{d:D}{l:List (List Int×Addr×Value)}{kvs:List (D×D)}:P a->jG P h v d->Ee P h l kvs->Ee P h (([i,j],a,v)::l) ((.tuple [.int i,.int j],d)::kvs)
section
variable(H:uP)(w:World)
def zS(P:Addr->Prop)(h:Heap)(a:Addr)(kvs:List (D×D)):Prop:=
 (a==sysModules)=false/\kvs.length<=zv/\
 ((∃l,h.DictOf (xT H w) a l/\Dx P h uT l kvs)\/(∃l,h.DictOfH (tupleKind (xT H w)) a l/\Ee P h l kvs))
inductive zo(T P:Addr->Prop)(h:Heap):Value->D->Prop
 |rep{v:Value}{d:D}:jG P h v d->zo T P h v d
 |list{a:Addr}{o:Obj}{vs:Array Value}{n:Nat}{xs:List D}:T a->h.get? a=some o->o.cls=.type "list"->o.dict=none->o.data=.seq vs n->
   zk P h vs.toList xs->xs.length<=zv->zo T P h (.ref a) (.list xs)
 |dict{a:Addr}{kvs:List (D×D)}:T a->zS H w P h a kvs->zo T P h (.ref a) (.dict kvs)
end
theorem CH:zv<=yD:=by decide
section
variable{H:uP}{w:World}{A:uY}{E:Value->tX->Prop}{s:tX}{P T:Addr->Prop}
theorem zo.of(x:jG P s.heap v d):zo H w T P s.heap v d:=.rep x
inductive II(i:Int)(v:Value):Prop
 |mk(t:Tok)(e:v=.int i t)
inductive IS(x:Str)(v:Value):Prop
 |mk(t:Tok)(e:v=.str x t)(h1:v8 x=true)(h2:x.length<=zv)
inductive IL(P:Addr->Prop)(h:Heap)(xs:List D)(v:Value):Prop
 |mk(a:Addr)(o:Obj)(vs:Array Value)(n:Nat)(e:v=.ref a)(ho:h.get? a=some o)(hc:o.cls=.type "list")(hd:o.dict=none)(hda:o.data=.seq vs n)(hr:zk P h vs.toList xs)(hz:xs.length<=zv)
inductive IT(P:Addr->Prop)(h:Heap)(xs:List D)(v:Value):Prop
 |mk(a:Addr)(o:Obj)(vs:Array Value)(n:Nat)(e:v=.ref a)(p:P a)(ho:h.get? a=some o)(hc:o.cls=.type "tuple")(hda:o.data=.seq vs n)(hr:zk P h vs.toList xs)(hz:xs.length<=zv)
inductive sF(H:uP)(w:World)(P:Addr->Prop)(h:Heap)(kvs:List (D×D))(v:Value):Prop
 |mk(a:Addr)(e:v=.ref a)(r:zS H w P h a kvs)
theorem zo.inv_int{h:Heap}{v:Value}{i:Int}(x:zo H w T P h v (.int i)):II i v:=by
 cases x with
 |rep r=>cases r;exact⟨_,rfl⟩
theorem zo.inv_bool(x:zo H w T P h v (.bool i)):v=.bool i:=by
 cases x with
 |rep r=>cases r;rfl
theorem zo.inv_none(x:zo H w T P h v .none):v=.none:=by
 cases x with
 |rep r=>cases r;rfl
theorem zo.inv_str{h:Heap}{v:Value}{x:Str}(r:zo H w T P h v (.str x)):IS x v:=by
 cases r with
 |rep r=>cases r with|str _ _ h1 h2=>exact⟨_,rfl,h1,h2⟩
theorem zo.inv_list{h:Heap}{v:Value}{xs:List D}(r:zo H w T P h v (.list xs)):IL P h xs v:=by
 cases r with
 |rep r=>cases r with|list _ ho hc hd hda hr hz=>exact⟨_,_,_,_,rfl,ho,hc,hd,hda,hr,hz⟩
 |list _ ho hc hd hda hr hz=>exact⟨_,_,_,_,rfl,ho,hc,hd,hda,hr,hz⟩
theorem zo.inv_tuple{h:Heap}{v:Value}{xs:List D}(r:zo H w T P h v (.tuple xs)):IT P h xs v:=by
 cases r with
 |rep r=>cases r with|tuple p ho hc hda hr hz=>exact⟨_,_,_,_,rfl,p,ho,hc,hda,hr,hz⟩
theorem zo.inv_dict(r:zo H w T P h v (.dict kvs)):sF H w P h kvs v:=by
 cases r with
 |rep r=>cases r
 |dict _ r=>exact⟨_,rfl,r⟩
theorem AP(k:zx h h')(e:h'.get? a=none):h.get? a=none:=by
 cases q:h.get? a with
 |none=>rfl
 |some o=>exact sn ((k a o q).symm.trans e)
section
variable{α β:Type}{r:α}
inductive OI(f:Int->R α)(r:α)(d:D):Prop
 |mk(i:Int)(e:d=.int i)(h:f i=.ok r)
theorem kT{f:Int->R α}{d:D}(h:Ka f d=.ok r):OI f r d:=by
 induction d using uG with
 |int i=>exact⟨i,rfl,h⟩
 |_=>exact ns h
inductive OS(f:Str->R α)(r:α)(d:D):Prop
 |mk(i:Str)(e:d=.str i)(h:f i=.ok r)
theorem Cv{f:Str->R α}{d:D}(h:TA f d=.ok r):OS f r d:=by
 induction d using uG with
 |str i=>exact⟨i,rfl,h⟩
 |_=>exact ns h
inductive OL(f:List D->R α)(r:α)(d:D):Prop
 |mk(i:List D)(e:d=.list i)(h:f i=.ok r)
theorem Do{f:List D->R α}{d:D}(h:Vs f d=.ok r):OL f r d:=by
 induction d using uG with
 |list i=>exact⟨i,rfl,h⟩
 |_=>exact ns h
inductive OT(f:List D->R α)(r:α)(d:D):Prop
 |mk(i:List D)(e:d=.tuple i)(h:f i=.ok r)
theorem RT{f:List D->R α}{d:D}(h:nM f d=.ok r):OT f r d:=by
 induction d using uG with
 |tuple i=>exact⟨i,rfl,h⟩
 |_=>exact ns h
inductive O1(f:D->R α)(r:α)(l:List D):Prop
 |mk(x:D)(e:l=[x])(h:f x=.ok r)
theorem ZY(h:qE f l=.ok r):O1 f r l:=by
 induction l using uB with
 |nil=>exact ns h
 |cons x t=>induction t using uB with
  |nil=>exact⟨x,rfl,h⟩
  |cons=>exact ns h
inductive O2(f:D->D->R α)(r:α)(l:List D):Prop
 |mk(x y:D)(e:l=[x,y])(h:f x y=.ok r)
theorem RR(h:nL f l=.ok r):O2 f r l:=by
 induction l using uB with
 |nil=>exact ns h
 |cons x t=>replace h:=ZY h;obtain⟨y,rfl,h⟩:=h;exact⟨x,y,rfl,h⟩
inductive sH(f:Int->Int->R α)(r:α)(a b:D):Prop
 |mk(i j:Int)(e:a=.int i)(e':b=.int j)(h:f i j=.ok r)
theorem BM(h:Ih f a b=.ok r):sH f r a b:=by
 obtain⟨i,e,h⟩:=kT h;obtain⟨j,e',h⟩:=kT h;exact⟨i,j,e,e',h⟩
inductive RB(x:R β)(f:β->R α)(r:α):Prop
 |mk(a:β)(h:x=.ok a)(k:f a=.ok r)
theorem rb{x:R β}{f:β->R α}(h:R.bind x f=.ok r):RB x f r:=by
 induction x using R.casesOn with
 |ok a=>exact⟨a,rfl,h⟩
 |ve=>exact nv h
 |stuck=>exact ns h
theorem GM{c:Prop}[Decidable c]{x:R α}(h:(if c then x else .stuck)=.ok r):c/\x=.ok r:=
 if hc:c then⟨hc,(if_pos hc).symm.trans h⟩ else ns ((if_neg hc).symm.trans h)
theorem QJ{c:Prop}[Decidable c]{x:R α}(h:(if c then .stuck else x)=.ok r):¬c/\x=.ok r:=
 if hc:c then ns ((if_pos hc).symm.trans h) else⟨hc,(if_neg hc).symm.trans h⟩
theorem jQ(h:ji o=.ok r):o=some r:=by
 induction o using uW with
 |none=>exact ns h
 |some y=>(obtain rfl:=jz h;clear h);rfl
end
theorem zo.reads(r:zo H w T P h v d)(hd:isDict d=false):(∃as,Reads h v d as)/\d.canLay0=true:=by
 induction r using zo.casesOn with
 |rep r=>exact⟨r.reads,r.lay⟩
 |list _ ho hc _ hda hr _=>exact⟨let ⟨_,q⟩:=hr.reads;⟨_,.list ho hc hda q⟩,by exact hr.lay⟩
 |dict _ _=>exact tf hd
theorem k5{x y:Str}(h1:v8 x=true)(h2:v8 y=true):v8 (x++y)=true:=by
 unfold v8 at *;rw[yQ,Array.all_append,h1,h2];rfl
def z0(P:Addr->Prop)(d:D)(Q:Value->tX->Prop)(s:tX):Prop:=
 ∀v h' tk,zx s.heap h'->jG P h' v d->Q v {s with heap:=h',toks:=tk}
theorem z0.here{d:D}{Q:Value->tX->Prop}(g:z0 P d Q s){v:Value}(r:jG P s.heap v d)(tk:Nat):Q v {s with toks:=tk}:=g v s.heap tk (zx.refl _) r
theorem OE(h:(M0 i&&M0 j)=true):IntMulOk i j:=
 have e:(i.natAbs:Int)<2 ^ 64:=Int.lt_trans (Int.ofNat_lt.mpr (of_decide_eq_true (jg h))) (by decide)
 .of_left (intBits_le_64 (Int.lt_of_lt_of_le (Int.neg_lt_neg e) (Int.neg_le_of_neg_le (zaJ (Int.le_natAbs) (Int.le_of_eq (congrArg _ (Int.natAbs_neg i)))))) (Int.lt_of_le_of_lt Int.le_natAbs e))
theorem Ah{h:Heap}{a:Addr}{o:Obj}{vs:Array Value}{n:Nat}(ho:h.get? a=some o)(hc:o.cls=.type "list")(hd:o.data=.seq vs n):h.IsList a vs:=⟨o,ho,hc,n,hd⟩
theorem Ck(ho:h.get? a=some o)(hc:o.cls=.type "tuple")(hd:o.data=.seq vs n):IsTup h a vs:=⟨o,ho,hc,n,hd⟩
theorem jc{h:Heap}{vs:Array Value}{xs:List D}(r:zk P h vs.toList xs):vs.size=xs.length:=by rw[<-r.length];rfl
theorem kY(hP:Ae P h)(r:zk P h vs.toList xs)(hz:xs.length<=zv):
  jG P (h.push {cls:=.type "list",data:=.seq vs}) (.ref h.objs.size) (.list xs):=
 .list hP.at_size (uX _ rfl) rfl rfl rfl (r.keep (zx.push _ _)) hz
theorem C8(hP:Ae P h)(r:zk P h vs.toList xs)(hz:xs.length<=zv):
  jG P (h.push {cls:=.type "tuple",data:=.seq vs}) (.ref h.objs.size) (.tuple xs):=
 .tuple hP.at_size (uX _ rfl) rfl rfl (r.keep (zx.push _ _)) hz
theorem FP{a b:Addr}{oa ob:Obj}{va vb:Array Value}{na nb:Nat}{xs ys:List D}{Q:Value->tX->Prop}(hP:Ae P s.heap)
  (ha:s.heap.get? a=some oa)(ca:oa.cls=.type "list")(da:oa.data=.seq va na)(ra:zk P s.heap va.toList xs)
  (hb:s.heap.get? b=some ob)(cb:ob.cls=.type "list")(db:ob.data=.seq vb nb)(rb:zk P s.heap vb.toList ys)
  (hz:(xs++ys).length<=zv)(g:z0 P (.list (xs++ys)) Q s):wpAny (model H w) A (zay .Add (.ref a) (.ref b)) Q E s:=by
 obtain⟨cls,dd,data,sl⟩:=oa;obtain⟨cls2,dd2,data2,sl2⟩:=ob;simp only at ca da cb db;subst ca da cb db;have hz':va.size+vb.size<=yD:=by
  rw[jc ra,jc rb];simp only[uE] at hz;exact qA hz CH
 refine concat_meets ⟨_,ha,rfl⟩ ⟨_,hb,rfl⟩ noFill_list_add seq_list_add PySem.F.slot_list_add PySem.F.entry_list_add (PySem.F.args_list_add_2 _ _) (list_addW a b va vb na nb dd dd2 sl sl2 hz') ⟨ha,hb,?_⟩;exact g _ _ s.toks (zx.push _ _) (kY hP (by simpa using ra.append rb) hz)
theorem E7{a b:Addr}{oa ob:Obj}{va vb:Array Value}{na nb:Nat}{xs ys:List D}{Q:Value->tX->Prop}(hP:Ae P s.heap)(pa:P a)(pb:P b)
  (ha:s.heap.get? a=some oa)(ca:oa.cls=.type "tuple")(da:oa.data=.seq va na)(ra:zk P s.heap va.toList xs)
  (hb:s.heap.get? b=some ob)(cb:ob.cls=.type "tuple")(db:ob.data=.seq vb nb)(rb:zk P s.heap vb.toList ys)
  (hz:xs.length+ys.length<=zv)(g:z0 P (.tuple (xs++ys)) Q s):wpAny (model H w) A (zay .Add (.ref a) (.ref b)) Q E s:=by
 have ia:=Ck ha ca da;have ib:=Ck hb cb db;obtain⟨cls,dd,data,sl⟩:=oa;obtain⟨cls2,dd2,data2,sl2⟩:=ob;simp only at ca da cb db;subst ca da cb db;have la:=jc ra;have lb:=jc rb;by_cases hv:va=#[]
 ·have e:xs=[]:=by rw[hv] at la;exact List.eq_nil_of_length_eq_zero la.symm
  refine concat_meets ⟨_,ha,rfl⟩ ⟨_,hb,rfl⟩ noFill_tuple_add seq_tuple_add za7 zaY (zaQ _ _)
   (tuple_addW0 a b va vb na nb dd dd2 sl sl2 (by simp[hv])) ⟨ha,hb,?_⟩
  exact g.here (by rw[e];exact .tuple pb hb rfl rfl rb (by simp;exact qA (vY _ _) ‹_›)) s.toks
 ·by_cases hw:vb=#[]
  ·have e:ys=[]:=by rw[hw] at lb;exact List.eq_nil_of_length_eq_zero lb.symm
   refine concat_meets ⟨_,ha,rfl⟩ ⟨_,hb,rfl⟩ noFill_tuple_add seq_tuple_add za7 zaY (zaQ _ _)
    (tuple_addW1 a b va vb na nb dd dd2 sl sl2 (by simpa using hv) (by simp[hw])) ⟨ha,hb,?_⟩
   exact g.here (by rw[e,vS];exact .tuple pa ha rfl rfl ra (by exact qA (uV _ _) ‹_›)) s.toks
  ·refine concat_meets ⟨_,ha,rfl⟩ ⟨_,hb,rfl⟩ noFill_tuple_add seq_tuple_add za7 zaY (zaQ _ _)
    (tuple_addW2 a b va vb na nb dd dd2 sl sl2 (by simpa using hv) (by simpa using hw) (by rw[la,lb];exact qA hz CH)) ⟨ha,hb,?_⟩
   exact g _ _ s.toks (zx.push _ _) (C8 hP (by simpa using ra.append rb) (by simpa using hz))
theorem Nr{a b:Value}{da db d:D}{Q:Value->tX->Prop}(hP:Ae P s.heap)(ra:zo H w T P s.heap a da)(rb:zo H w T P s.heap b db)
  (h:E6 da db=.ok d)(g:z0 P d Q s):wpAny (model H w) A (zay .Add a b) Q E s:=by
 induction da using uG with
 |int i=>
  obtain⟨j,rfl,h⟩:=kT h;clear h
  (obtain rfl:=jz h;clear h)
  obtain⟨t,rfl⟩:=ra.inv_int;obtain⟨u,rfl⟩:=rb.inv_int;exact wpAny_add_int (g.here (.int _ _) _)
 |str x=>
  obtain⟨y,rfl,h⟩:=Cv h;clear h;obtain⟨hz,h⟩:=GM h
  (obtain rfl:=jz h;clear h)
  obtain⟨t,rfl,h1,_⟩:=ra.inv_str;obtain⟨u,rfl,h2,_⟩:=rb.inv_str;exact zbr (λt' tk=>g.here (.str _ _ (k5 h1 h2) hz) _) (by
   rw[za4] at hz;exact qA hz CH)
 |list xs=>
  obtain⟨ys,rfl,h⟩:=Do h;clear h;obtain⟨hz,h⟩:=GM h
  (obtain rfl:=jz h;clear h)
  obtain⟨a,oa,va,na,rfl,ha,ca,_,da,ra,_⟩:=ra.inv_list;clear ra;obtain⟨b,ob,vb,nb,rfl,hb,cb,_,db,rb,_⟩:=rb.inv_list;clear rb;exact FP hP ha ca da ra hb cb db rb hz g
 |tuple xs=>
  obtain⟨ys,rfl,h⟩:=RT h;clear h;obtain⟨hz,h⟩:=GM h
  (obtain rfl:=jz h;clear h)
  obtain⟨a,oa,va,na,rfl,pa,ha,ca,da,ra,_⟩:=ra.inv_tuple;clear ra;obtain⟨b,ob,vb,nb,rfl,pb,hb,cb,db,rb,_⟩:=rb.inv_tuple;clear rb;exact E7 hP pa pb ha ca da ra hb cb db rb hz g
 |_=>exact ns h
end
section
variable{H:uP}{w:World}{A:uY}{E:Value->tX->Prop}{s:tX}{P T T':Addr->Prop}{Q:Value->tX->Prop}{a b:Value}{da db d:D}
theorem Nv(ra:zo H w T P s.heap a da)(rb:zo H w T' P s.heap b db)(h:aY da db=.ok d)(g:z0 P d Q s):
  wpAny (model H w) A (zay .Sub a b) Q E s:=by
 obtain⟨i,j,rfl,rfl,h⟩:=BM h;clear h
 (obtain rfl:=jz h;clear h)
 obtain⟨t,rfl⟩:=ra.inv_int;obtain⟨u,rfl⟩:=rb.inv_int;exact PyProof.Rows.sub_int (g.here (.int _ _) _)
theorem Nt(ra:zo H w T P s.heap a da)(rb:zo H w T' P s.heap b db)(h:Om da db=.ok d)(g:z0 P d Q s):
  wpAny (model H w) A (zay .Mod a b) Q E s:=by
 obtain⟨i,j,rfl,rfl,h⟩:=BM h;clear h;obtain⟨hj,h⟩:=GM h
 (obtain rfl:=jz h;clear h)
 obtain⟨t,rfl⟩:=ra.inv_int;obtain⟨u,rfl⟩:=rb.inv_int;refine PyProof.Rows.mod_int (Int.ne_of_gt hj) ?_;rw[Int.fmod_eq_emod_of_nonneg i (by exact yS ‹_›)];exact g.here (.int _ _) _
theorem KU(ra:zo H w T P s.heap a da)(rb:zo H w T' P s.heap b db)(h:Xf da db=.ok d)(g:z0 P d Q s):
  wpAny (model H w) A (zay .FloorDiv a b) Q E s:=by
 obtain⟨i,j,rfl,rfl,h⟩:=BM h;clear h;obtain⟨hj,h⟩:=GM h
 (obtain rfl:=jz h;clear h)
 obtain⟨t,rfl⟩:=ra.inv_int;obtain⟨u,rfl⟩:=rb.inv_int;refine AutoIntOps.floordiv_1 (by simp;exact Int.ne_of_gt hj.1) ?_ ?_
 ·have:=PyProof.noPylong_small (x:=i) (y:=j) (by exact qD (by have:=Int.natAbs_of_nonneg (yS hj.1);exact Int.ofNat_lt.mp (this▸hj.2)) (xR rfl));rw[this];trivial
 ·rw[Int.fdiv_eq_ediv_of_nonneg i (by exact yS hj.1)];exact g.here (.int _ _) _
theorem Nu(ra:zo H w T P s.heap a da)(rb:zo H w T' P s.heap b db)(h:J8 da db=.ok d)(g:z0 P d Q s):
  wpAny (model H w) A (zay .Mult a b) Q E s:=by
 obtain⟨i,j,rfl,rfl,h⟩:=BM h;clear h;obtain⟨hs,h⟩:=GM h
 (obtain rfl:=jz h;clear h)
 obtain⟨t,rfl⟩:=ra.inv_int;obtain⟨u,rfl⟩:=rb.inv_int;exact PyProof.Rows.mul_int (g.here (.int _ _) _) (OE hs)
theorem I7(hP:Ae P s.heap)(hop:HT op=some o)(ra:zo H w T P s.heap a da)(rb:zo H w T P s.heap b db)
  (h:bin o da db=.ok d)(g:z0 P d Q s):wpAny (model H w) A (zay op a b) Q E s:=by
 induction op using PySem.Operator.casesOn with
 |Add=>(obtain rfl:=zP hop;clear hop);exact Nr hP ra rb h g
 |Sub=>(obtain rfl:=zP hop;clear hop);exact Nv ra rb h g
 |Mult=>(obtain rfl:=zP hop;clear hop);exact Nu ra rb h g
 |Mod=>(obtain rfl:=zP hop;clear hop);exact Nt ra rb h g
 |FloorDiv=>(obtain rfl:=zP hop;clear hop);exact KU ra rb h g
 |_=>exact nn hop
theorem Yz(hu:A.units+4001<cLine)(ra:zo H w T P s.heap a da)(rb:zo H w T' P s.heap b db)(h:I3 da db=.ok d)(g:z0 P d Q s):
  wpAny (model H w) A (y8 .Eq a b) Q E s:=by
 obtain⟨hc,h⟩:=QJ h
 (obtain rfl:=jz h;clear h)
 simp only[xY,not_or,xB,deep,decide_eq_false_iff_not] at hc;obtain⟨⟨_,q1⟩,l1⟩:=ra.reads hc.1.1;obtain⟨⟨_,q2⟩,l2⟩:=rb.reads hc.1.2;exact PySem.SeqAt.compareEq_reads q1 q2 l1 l2 (by exact qB (uD (vN (Nat.not_lt.mp hc.2)) _) hu) (g.here (.bool _) s.toks)
theorem YC(hu:A.units+4001<cLine)(ra:zo H w T P s.heap a da)(rb:zo H w T' P s.heap b db)(h:FA da db=.ok d)(g:z0 P d Q s):
  wpAny (model H w) A (y8 .NotEq a b) Q E s:=by
 obtain⟨hc,h⟩:=QJ h
 (obtain rfl:=jz h;clear h)
 simp only[xY,not_or,xB,deep,decide_eq_false_iff_not] at hc;obtain⟨⟨_,q1⟩,l1⟩:=ra.reads hc.1.1;obtain⟨⟨_,q2⟩,l2⟩:=rb.reads hc.1.2;exact PySem.SeqAt.compareNe_reads q1 q2 l1 l2 (by exact qB (uD (vN (Nat.not_lt.mp hc.2)) _) hu) (g.here (.bool _) s.toks)
theorem YA(ra:zo H w T P s.heap a da)(rb:zo H w T' P s.heap b db)(h:fE da db=.ok d)(g:z0 P d Q s):
  wpAny (model H w) A (y8 .Gt a b) Q E s:=by
 obtain⟨i,j,rfl,rfl,h⟩:=BM h;clear h
 (obtain rfl:=jz h;clear h)
 obtain⟨t,rfl⟩:=ra.inv_int;obtain⟨u,rfl⟩:=rb.inv_int;exact PyProof.Rows.gt_int (g.here (.bool _) s.toks)
theorem DD(x:Str)(c:Nat):Txt.contains x ⟨#[c]⟩=x.cps.contains c:=by
 unfold Txt.contains;rw[StrLaws.found_one];obtain⟨⟨l⟩⟩:=x;simp
theorem Dx.get{K:Type}[DecidableEq K]{enc:K->D}{l:List (K×Value)}{kvs:List (D×D)}(r:Dx P h enc l kvs)(hs:∀i j,jk (enc i) (enc j)=decide (i=j))(k:K):
  (valueAt l k=none/\jY kvs (enc k)=none)\/∃v d,valueAt l k=some v/\jY kvs (enc k)=some d/\jG P h v d:=by
 induction r with
 |nil=>exact .inl ⟨rfl,rfl⟩
 |@cons k' v' d' l' kvs' rr r ih=>
  by_cases e:k'=k
  ·refine .inr ⟨v',d',?_,?_,rr⟩
   ·simp[valueAt,e]
   ·simp[BH,hs,e]
  ·have e1:valueAt ((k',v')::l') k=valueAt l' k:=by simp[valueAt,e]
   have e2:jY ((enc k',d')::kvs') (enc k)=jY kvs' (enc k):=by simp[BH,hs,e]
   rw[e1,e2];exact ih
theorem Ee.get(r:Ee P h l kvs)(i j:Int):
  (atKey l [i,j]=none/\jY kvs (.tuple [.int i,.int j])=none)\/∃a v d,atKey l [i,j]=some (a,v)/\jY kvs (.tuple [.int i,.int j])=some d/\jG P h v d:=by
 induction r with
 |nil=>exact .inl ⟨rfl,rfl⟩
 |@cons i' j' a' v' d' l' kvs' _ rr r ih=>
  by_cases e:i'=i/\j'=j
  ·refine .inr ⟨a',v',d',?_,?_,rr⟩
   ·simp[atKey,e]
   ·show(if(i'==i&&(j'==j&&true))=true then some d' else _)=_;rw[e.1,e.2];simp
  ·have e1:atKey (([i',j'],a',v')::l') [i,j]=atKey l' [i,j]:=by
    have:decide ([i',j']=[i,j])=false:=by simpa using e
    unfold atKey;rw[List.find?_cons];simp only[this]
   have e2:jY ((.tuple [.int i',.int j'],d')::kvs') (.tuple [.int i,.int j])=jY kvs' (.tuple [.int i,.int j]):=by
    show(if(i'==i&&(j'==j&&true))=true then some d' else _)=_;rw[if_neg (by simpa using e)]
   rw[e1,e2];exact ih
theorem Dx.nil_inv{h:Heap}{K:Type}{enc:K->D}{l:List (K×Value)}(r:Dx P h enc l []):l=[]:=by cases r;rfl
theorem Ee.nil_inv{h:Heap}{l:List (List Int×Addr×Value)}(r:Ee P h l []):l=[]:=by cases r;rfl
theorem Dx.kind{h:Heap}{K:Type}{enc:K->D}{l:List (K×Value)}{kvs:List (D×D)}{k:D}(r:Dx P h enc l kvs)(hk:(kvs.all λkv=>zX kv.1 k)=true)(hn:∀x,zX (enc x) k=false):kvs=[]:=by
 induction r using Dx.casesOn with
 |nil=>rfl
 |cons _ _=>exact ff ((hn _).symm.trans (jg hk))
theorem Ee.kind{h:Heap}{l:List (List Int×Addr×Value)}{kvs:List (D×D)}{k:D}(r:Ee P h l kvs)(hk:(kvs.all λkv=>zX kv.1 k)=true)(hn:∀x,zX (.tuple x) k=false):kvs=[]:=by
 induction r using Ee.casesOn with
 |nil=>rfl
 |cons _ _=>exact ff ((hn _).symm.trans (jg hk))
theorem GJ{K K':Type}[DecidableEq K][DecidableEq K']{knd:KeyKind H w K}{knd':HeapKind H w K'}{h:Heap}{x:Addr}(m:h.DictOf knd x []):h.DictOfH knd' x []:=by
 obtain⟨o,es,ep,ho,he,hd,hk,hp,hn⟩:=m;have e:es.toList=[]:=by generalize es.toList=l at hp;cases hp;rfl
 exact⟨o,es,ep,ho,he,hd,by exact e,λ_ hx=>by exact absurd hx vJ,by simp⟩
theorem GI{K K':Type}[DecidableEq K][DecidableEq K']{knd:HeapKind H w K}{knd':KeyKind H w K'}{h:Heap}{x:Addr}(m:h.DictOfH knd x []):h.DictOf knd' x []:=by
 obtain⟨o,es,ep,ho,he,hd,hp,hi,hn⟩:=m;have e:es=#[]:=Array.toList_inj.mp (hp);subst e;exact⟨o,#[],ep,ho,he,hd,λe he=>by simp at he,.nil,by simp⟩
theorem zS.int{h:Heap}{x:Addr}{kvs:List (D×D)}{i:Int}(r:zS H w P h x kvs)(hk:(kvs.all λkv=>zX kv.1 (.int i))=true):
  ∃l,h.DictOf (xT H w) x l/\Dx P h uT l kvs:=by
 obtain⟨_,_,⟨l,m,q⟩|⟨l,m,q⟩⟩:=r
 ·exact⟨l,m,q⟩
 ·have e:=q.kind hk (λ_=>rfl);subst e;have e:=q.nil_inv;subst e;exact⟨[],GI m,.nil⟩
theorem zS.tup{h:Heap}{x:Addr}{kvs:List (D×D)}{i:List D}(r:zS H w P h x kvs)(hk:(kvs.all λkv=>zX kv.1 (.tuple i))=true):
  ∃l,h.DictOfH (tupleKind (xT H w)) x l/\Ee P h l kvs:=by
 obtain⟨_,_,⟨l,m,q⟩|⟨l,m,q⟩⟩:=r
 ·have e:=q.kind hk (λ_=>rfl);subst e;have e:=q.nil_inv;subst e;exact⟨[],GJ m,.nil⟩
 ·exact⟨l,m,q⟩
theorem IG{a b:D}(h:jk a b=true):Bz a=Bz b/\Bz a≠0:=by
 induction a using uG with
 |int i=>induction b using uG with
  |int=>exact⟨rfl,nofun⟩
  |_=>exact ff h
 |tuple i=>induction b using uG with
  |tuple=>exact⟨rfl,nofun⟩
  |_=>exact ff h
 |_=>exact ff h
theorem UU{a b:D}(h:Bz a=Bz b)(h0:Bz a≠0):zX a b=true:=by
 simp[zX,h0,<-h]
theorem Qg{k d:D}{kvs:List (D×D)}(h:jY kvs k=some d):∃kv∈kvs,jk kv.1 k=true:=by
 induction kvs with
 |nil=>exact nn h
 |cons kv r ih=>
  rcases O9 h with⟨e,_⟩|⟨_,h⟩
  ·exact⟨_,.head _,e⟩
  ·obtain⟨kv,hm,hs⟩:=ih h;exact⟨kv,.tail _ hm,hs⟩
theorem Dx.kinds{h:Heap}{K:Type}{enc:K->D}{c:Nat}(hc:∀k,Bz (enc k)=c){l:List (K×Value)}{kvs:List (D×D)}(r:Dx P h enc l kvs):∀kv∈kvs,Bz kv.1=c:=by
 induction r with
 |nil=>exact nofun
 |cons _ _ ih=>
  intro kv hm;cases hm with
  |head=>exact hc _
  |tail _ hm=>exact ih kv hm
theorem Ee.kinds{h:Heap}{l:List (List Int×Addr×Value)}{kvs:List (D×D)}(r:Ee P h l kvs):∀kv∈kvs,Bz kv.1=3:=by
 induction r with
 |nil=>exact nofun
 |cons _ _ _ ih=>
  intro kv hm;cases hm with
  |head=>rfl
  |tail _ hm=>exact ih kv hm
theorem zS.kind_of_get{h:Heap}{x:Addr}{kvs:List (D×D)}{k d:D}(r:zS H w P h x kvs)(hg:jY kvs k=some d):(kvs.all λkv=>zX kv.1 k)=true:=by
 obtain⟨kv,hm,hs⟩:=Qg hg;have ⟨e1,e2⟩:=IG hs;have key:∀c,(∀kv∈kvs,Bz kv.1=c)->(kvs.all λkv=>zX kv.1 k)=true:=λc hc=>
  uF.mpr λkv' hm'=>UU (((hc _ hm').trans (hc _ hm).symm).trans e1) (by rw[hc _ hm',<-hc _ hm];exact e2)
 obtain⟨_,_,⟨l,_,q⟩|⟨l,_,q⟩⟩:=r
 ·exact key 1 (Dx.kinds (c:=1) (λ_=>rfl) q)
 ·exact key 3 q.kinds
theorem CE(i j:Int):jk (.int i) (.int j)=decide (i=j):=rfl
theorem O3{n:Nat}(h:n<=zv):(n:Int)<2 ^ 63:=by
 have e:zv=1048576:=by decide
 have e':(2:Int) ^ 63=9223372036854775808:=by decide
 lia
theorem Oa(ra:zo H w T P s.heap a da)(h:JS da=.ok d)(g:z0 P d Q s):
  wpAny (model H w) A (call (.builtin "len") [a]) Q E s:=by
 induction da using uG with
 |str x=>
  (obtain rfl:=jz h;clear h)
  obtain⟨t,rfl,_,hz⟩:=ra.inv_str;exact PyProof.Rows.len_str (by have:=O3 hz;exact Int.not_le.mpr ‹_›) (g.here (.int _ _) _)
 |list xs=>
  (obtain rfl:=jz h;clear h)
  obtain⟨a,oa,va,na,rfl,ha,ca,_,da,rr,hz⟩:=ra.inv_list;refine call_len_list (Ah ha ca da) (by rw[jc rr];exact O3 hz) ?_;rw[jc rr];exact g.here (.int _ _) _
 |tuple xs=>
  (obtain rfl:=jz h;clear h)
  obtain⟨a,oa,va,na,rfl,_,ha,ca,da,rr,hz⟩:=ra.inv_tuple;refine PyProof.Rows.len_tuple (Ck ha ca da) (by rw[jc rr];exact O3 hz) ?_;rw[jc rr];exact g.here (.int _ _) _
 |_=>exact ns h
theorem AA{i:Int}{n j:Nat}(h:zaS i n=some j):-(n:Int)<=i/\i<n/\j<n/\(0<=i->j=i.toNat)/\(i<0->j=(i+n).toNat):=by
 unfold zaS at h;dsimp only at h;by_cases hi:i<0
 ·rw[if_pos hi] at h;by_cases c:(decide (0<=i+(n:Int))&&decide (i+(n:Int)<n))=true
  ·rw[if_pos c] at h;have e:=zP h;have c1:=of_decide_eq_true (jg c);have c2:=of_decide_eq_true (z7 c);clear h c;exact⟨by clear c2 e hi;exact Int.le_of_sub_nonneg (by rw[Int.sub_neg];exact c1),Int.lt_of_lt_of_le hi (wS n),e▸(zbj c1).mpr c2,λh0=>absurd hi (Int.not_lt.mpr h0),λ_=>e.symm⟩
  ·rw[if_neg c] at h;exact nn h
 ·rw[if_neg hi] at h;by_cases c:(decide (0<=i)&&decide (i<(n:Int)))=true
  ·rw[if_pos c] at h;have e:=zP h;have c1:=of_decide_eq_true (jg c);have c2:=of_decide_eq_true (z7 c);exact⟨zaJ (Int.neg_nonpos_of_nonneg (wS n)) c1,c2,e▸(zbj c1).mpr c2,λ_=>e.symm,λh=>absurd h hi⟩
  ·rw[if_neg c] at h;exact nn h
theorem GT(p len:Nat):zaS (p:Int) len=if p<len then some p else none:=by
 unfold zaS;have h:¬((p:Int)<0):=Int.not_lt.mpr (wS _);simp only[h,if_false];by_cases hp:p<len
 ·rw[if_pos hp,if_pos (by simp;assumption)];rfl
 ·rw[if_neg hp,if_neg (by simp;exact Nat.not_lt.mp ‹_›)]
inductive NI{α:Type}(xs:List α)(i:Int)(d:α):Prop
 |mk(j:Nat)(hj:zaS i xs.length=some j)(hx:xs[j]?=some d)
theorem RF{α:Type}{xs:List α}{k:Nat}{d:α}(h:xs[k]?=some d):NI xs (k:Nat) d:=
 ⟨k,by rw[GT,if_pos (List.getElem?_eq_some_iff.mp h).1],h⟩
theorem RK{xs:List D}{i:Int}{d:D}(h:cP xs i=.ok d):NI xs i d:=by
 induction i using Int.casesOn with
 |ofNat k=>exact RF (jQ h)
 |negSucc k=>
  obtain⟨j,h1,h2⟩:=ob (jQ h);exact⟨j,h1,h2⟩
theorem Vq{x:Str}{i:Int}{c:Nat}(h:Vo x i=.ok c):NI x.cps.toList i c:=by
 induction i using Int.casesOn with
 |ofNat k=>exact RF (jQ h)
 |negSucc k=>exact ns h
theorem UQ(r:zS H w P s.heap x kvs)(hkd:(kvs.all λkv=>zX kv.1 (.int i))=true)(h:jY kvs (.int i)=some d)(g:z0 P d Q s):wpAny (model H w) A (getItem (.ref x) (.int i t)) Q E s:=by
 obtain⟨l,m,q⟩:=r.int hkd;rcases q.get CE _ with⟨_,e⟩|⟨v,d',e1,e2,rv⟩
 ·rw[h] at e;exact sn e
 ·rw[h] at e2;(obtain rfl:=zP e2;clear e2);exact wpAny_getItem_of (knd:=xT H w) (by simp[xT,zby]) m.mapOf e1 (g.here rv _)
inductive K2(xs:List D):Prop
 |mk(i j:Int)(e:xs=[.int i,.int j])(h:(i=0\/i=1)/\(j=0\/j=1))
theorem Mq(h:Zd d=true):∃i,d=.int i/\(i=0\/i=1):=by
 induction d using uG with
 |int i=>exact⟨i,rfl,of_decide_eq_true h⟩
 |_=>exact ff h
theorem Fu(h:QS xs=true):K2 xs:=by
 induction xs using uB with
 |nil=>exact ff h
 |cons x r=>induction r using uB with
  |nil=>exact ff (z7 h)
  |cons y r=>
   obtain⟨i,rfl,hi⟩:=Mq (jg h);obtain⟨j,rfl,hj⟩:=Mq (jg (z7 h));cases Mg (z7 (z7 h));exact⟨i,j,rfl,hi,hj⟩
theorem Sa(r:zk P h l (.int i::ds)):∃t l',l=.int i t::l'/\zk P h l' ds:=by
 cases r with
 |cons r1 r2=>cases r1;exact⟨_,_,rfl,r2⟩
theorem Z8(r:zk P h l []):l=[]:=by cases r;rfl
theorem CI(ho:h.get? x=some o)(hc:o.cls=.type "tuple")(hd:o.data=.seq vk n)(r:zk P h vk.toList [.int i,.int j]):
  (tupleKind (xT H w)).is h [i,j] x:=by
 obtain⟨t,l,e1,r1⟩:=Sa r;obtain⟨u,l',e2,r2⟩:=Sa r1;refine⟨o,vk,n,ho,hc,hd,?_⟩;rw[e1,e2,Z8 r2];exact .cons (by simp[xT,zby]) (.cons (by simp[xT,zby]) .nil)
theorem UR(hu:A.units+1<cLine)(rb:zo H w T' P s.heap b (.tuple xs))(hk:QS xs=true)(r:zS H w P s.heap x kvs)(hkd:(kvs.all λkv=>zX kv.1 (.tuple xs))=true)(h:jY kvs (.tuple xs)=some d)(g:z0 P d Q s):wpAny (model H w) A (getItem (.ref x) b) Q E s:=by
 obtain⟨i,j,rfl,_⟩:=Fu hk;obtain⟨kb,ok,vk,nk,rfl,_,hok,cok,dok,rk,_⟩:=rb.inv_tuple;obtain⟨l,m,q⟩:=r.tup hkd;rcases q.get i j with⟨_,e⟩|⟨ka,v,d',e1,e2,rv⟩
 ·rw[h] at e;exact sn e
 ·rw[h] at e2;(obtain rfl:=zP e2;clear e2);exact wpAny_getItem_heap (knd:=tupleKind (xT H w)) (k:=[i,j]) (tupleKind_room_in1 hu) (CI hok cok dok rk) m e1 (g.here rv _)
theorem QI{a:Addr}{oa:Obj}{va:Array Value}{na:Nat}{xs:List D}{i:Int}{t:Tok}(ha:s.heap.get? a=some oa)(ca:oa.cls=.type "list")(da:oa.data=.seq va na)(ra:zk P s.heap va.toList xs)(hz:xs.length<=zv)(h:cP xs i=.ok d)(g:z0 P d Q s):
  wpAny (model H w) A (getItem (.ref a) (.int i t)) Q E s:=by
 obtain⟨j,hj,hx⟩:=RK h;obtain⟨v,hv,rv⟩:=ra.get hx;have hb:=AA hj;have h63:=O3 hz;have hv':va[j]?=some v:=by simpa using hv
 have hn:=jc ra;by_cases h0:0<=i
 ·refine wpAny_getItem_list (Ah ha ca da) h0 (Int.lt_trans hb.2.1 h63) ?_ (g.here rv s.toks);rw[<-hb.2.2.2.1 h0];exact hv'
 ·refine wpAny_getItem_list_neg (Ah ha ca da) (Int.not_le.mp h0) (by rw[hn];exact hb.1) (by exact zaJ (Int.neg_le_neg (yS h63)) hb.1) ?_ (g.here rv s.toks);rw[hn,<-hb.2.2.2.2 (Int.not_le.mp h0)];exact hv'
theorem N1{a:Addr}{oa:Obj}{va:Array Value}{na:Nat}{xs:List D}{i:Int}{t:Tok}(ha:s.heap.get? a=some oa)(ca:oa.cls=.type "tuple")(da:oa.data=.seq va na)(ra:zk P s.heap va.toList xs)(hz:xs.length<=zv)(h:cP xs i=.ok d)(g:z0 P d Q s):
  wpAny (model H w) A (getItem (.ref a) (.int i t)) Q E s:=by
 obtain⟨j,hj,hx⟩:=RK h;obtain⟨v,hv,rv⟩:=ra.get hx;have hb:=AA hj;have h63:=O3 hz;exact zbB (Ck ha ca da) (by exact zaJ (Int.neg_le_neg (yS h63)) hb.1) (by exact Int.lt_trans hb.2.1 h63) (by rw[jc ra];exact hj) (by simpa using hv) (g.here rv s.toks)
theorem UE(h1:v8 x=true)(hz:x.length<=zv)(h:Vo x i=.ok c)(g:z0 P (.str ⟨#[c]⟩) Q s):
  wpAny (model H w) A (getItem (.str x t) (.int i u)) Q E s:=by
 obtain⟨j,hj,hx⟩:=Vq h;have hb:=AA hj;have h63:=O3 hz;have hl:x.cps.toList.length=x.length:=by rfl
 have hc:(zaS i x.length).bind (x.cps[·]?)=some c:=by rw[<-hl,hj];simpa using hx
 refine PyProof.Rows.getItem_str (by simp;exact⟨zaJ (Int.neg_le_neg (yS h63)) hb.1,Int.lt_trans hb.2.1 h63⟩) hc (g.here (.str _ _ ?_ (show 1<=zv by decide)) _);have q:c<0x110000:=by
  have:=Array.all_eq_true.mp h1 j (hb.2.2.1);obtain⟨hlt,hx⟩:=List.getElem?_eq_some_iff.mp hx;subst hx
  simpa using this
 simpa [v8] using q
theorem N0(hu:A.units+1<cLine)(ra:zo H w T P s.heap a da)(rb:zo H w T' P s.heap b db)(h:jd da db=.ok d)(g:z0 P d Q s):
  wpAny (model H w) A (getItem a b) Q E s:=by
 induction da using uG with
 |list xs=>
  obtain⟨i,rfl,h⟩:=kT h;clear h;obtain⟨a,oa,va,na,rfl,ha,ca,_,da,rr,hz⟩:=ra.inv_list;obtain⟨t,rfl⟩:=rb.inv_int;exact QI ha ca da rr hz h g
 |tuple xs=>
  obtain⟨i,rfl,h⟩:=kT h;clear h;obtain⟨a,oa,va,na,rfl,_,ha,ca,da,rr,hz⟩:=ra.inv_tuple;obtain⟨t,rfl⟩:=rb.inv_int;exact N1 ha ca da rr hz h g
 |str x=>
  obtain⟨i,rfl,h⟩:=kT h;clear h;obtain⟨c,h1,h⟩:=Mine.rb h
  (obtain rfl:=jz h;clear h)
  obtain⟨t,rfl,h2,hz⟩:=ra.inv_str;obtain⟨u,rfl⟩:=rb.inv_int;exact UE h2 hz h1 g
 |dict kvs=>
  replace h:=GM h;obtain⟨hk,h⟩:=h;have h:=jQ h;obtain⟨x,rfl,r⟩:=ra.inv_dict;have hkd:=r.kind_of_get h;induction db using uG with
  |int i=>obtain⟨t,rfl⟩:=rb.inv_int;exact UQ r hkd h g
  |tuple xs=>exact UR hu rb hk r hkd h g
  |_=>exact ff hk
 |_=>exact ns h
theorem Zb(r:zS H w P s.heap x kvs)(hkd:(kvs.all λkv=>zX kv.1 (.int i))=true)(g:z0 P (.bool (jY kvs (.int i)).isSome) Q s):wpAny (model H w) A (y8 .In (.int i t) (.ref x)) Q E s:=by
 obtain⟨l,m,q⟩:=r.int hkd;refine wpAny_in_of (knd:=xT H w) (k:=i) (by simp[xT,zby]) r.1 m.mapOf ?_;rcases q.get CE _ with⟨e1,e2⟩|⟨v,d',e1,e2,rv⟩<;>(rw[e1];rw[e2] at g;exact g.here (.bool _) _)
theorem qO{z:Str}(hz:z.length=1):∃c,z=⟨#[c]⟩:=by
 obtain⟨⟨l⟩⟩:=z;obtain⟨c,rfl⟩:=List.length_eq_one_iff.mp hz;exact⟨c,rfl⟩
theorem Ge{op:CmpOp}(f:Bool->Bool)(hop:(op=.In/\f=id)\/(op=.NotIn/\f=not))(hu:A.units+4002<cLine)(hnd:op=.NotIn->isDict db=false){c:Bool}(ra:zo H w T P s.heap a da)(rb:zo H w T' P s.heap b db)(h:Oj da db=.ok c)(g:z0 P (.bool (f c)) Q s):
  wpAny (model H w) A (y8 op a b) Q E s:=by
 induction db using uG with
 |list xs=>
  obtain⟨hc,h⟩:=QJ h
  (obtain rfl:=jz h;clear h)
  simp only[xY,not_or,xB,decide_eq_true_eq] at hc;obtain⟨⟨_,q1⟩,l1⟩:=ra.reads hc.1;obtain⟨⟨_,q2⟩,l2⟩:=rb.reads rfl;have l2:zan xs=true:=l2;rcases hop with⟨rfl,rfl⟩|⟨rfl,rfl⟩
  ·exact PySem.SeqAt.in_list_reads q2 q1 l2 l1 (by exact qB (vD ..▸uD (qA (uD (Nat.not_lt.mp hc.2) 1) (by decide)) _) hu) (g.here (.bool _) s.toks)
  ·exact PySem.SeqAt.notIn_list_reads q2 q1 l2 l1 (by exact qB (vD ..▸uD (qA (uD (Nat.not_lt.mp hc.2) 1) (by decide)) _) hu) (g.here (.bool _) s.toks)
 |tuple xs=>
  obtain⟨hc,h⟩:=QJ h
  (obtain rfl:=jz h;clear h)
  simp only[xY,not_or,xB,decide_eq_true_eq] at hc;obtain⟨⟨_,q1⟩,l1⟩:=ra.reads hc.1;obtain⟨⟨_,q2⟩,l2⟩:=rb.reads rfl;have l2:zan xs=true:=l2;rcases hop with⟨rfl,rfl⟩|⟨rfl,rfl⟩
  ·exact PySem.SeqAt.in_tuple_reads q2 q1 l2 l1 (by exact qB (vD ..▸uD (qA (uD (Nat.not_lt.mp hc.2) 1) (by decide)) _) hu) (g.here (.bool _) s.toks)
  ·exact PySem.SeqAt.notIn_tuple_reads q2 q1 l2 l1 (by exact qB (vD ..▸uD (qA (uD (Nat.not_lt.mp hc.2) 1) (by decide)) _) hu) (g.here (.bool _) s.toks)
 |str y=>
  clear hnd hu;obtain⟨z,rfl,h⟩:=Cv h;clear h;clear db;obtain⟨hz,h⟩:=GM h
  (obtain rfl:=jz h;clear h)
  (replace ra:=ra.inv_str;obtain⟨t,rfl,_⟩:=ra)
  (replace rb:=rb.inv_str;obtain⟨u,rfl,_⟩:=rb)
  (replace hz:=qO hz;obtain⟨c,rfl⟩:=hz)
  clear h T' T;rcases hop with⟨rfl,rfl⟩|⟨rfl,rfl⟩
  ·exact SB.contains (by rw[DD];exact g.here (.bool _) s.toks)
  ·exact SB.notContains (by rw[DD];exact g.here (.bool _) s.toks)
 |dict kvs=>
  obtain⟨hk,h⟩:=GM h
  (obtain rfl:=jz h;clear h)
  (replace rb:=rb.inv_dict;obtain⟨x,rfl,r⟩:=rb)
  clear h db T';rcases hop with⟨rfl,rfl⟩|⟨rfl,rfl⟩
  ·clear hnd;induction da using uG with
   |int i=>(replace ra:=ra.inv_int;obtain⟨t,rfl⟩:=ra);exact Zb r (z7 hk) g
   |_=>exact ff hk
  ·exact nomatch hnd rfl
 |_=>exact ns h
inductive sJ(s:tX)(a:Value)(da:D):Prop
 |mk(X:String)(h:s.TypeIs a X)(h1:(yO X==yO "builtin_function_or_method")=false)(h2:(X=="bool")=Ii da)(h4:plainIs a .none=true)(h5:(a==wC)=isNone da)
theorem Gy(ra:zo H w T P s.heap a da):sJ s a da:=by
 induction da using uG with
 |none=>rw[ra.inv_none];exact⟨"NoneType",rfl,by decide,rfl,rfl,rfl⟩
 |bool b=>rw[ra.inv_bool];exact⟨"bool",rfl,by decide,rfl,rfl,rfl⟩
 |int i=>(replace ra:=ra.inv_int;obtain⟨t,rfl⟩:=ra);exact⟨"int",rfl,by decide,rfl,rfl,rfl⟩
 |str x=>(replace ra:=ra.inv_str;obtain⟨t,rfl,_⟩:=ra);exact⟨"str",rfl,by decide,rfl,rfl,rfl⟩
 |list xs=>(replace ra:=ra.inv_list;obtain⟨a,oa,va,na,rfl,ha,ca,_⟩:=ra);exact⟨"list",⟨_,ha,ca⟩,by decide,rfl,rfl,rfl⟩
 |tuple xs=>(replace ra:=ra.inv_tuple;obtain⟨a,oa,va,na,rfl,_,ha,ca,_⟩:=ra);exact⟨"tuple",⟨_,ha,ca⟩,by decide,rfl,rfl,rfl⟩
 |dict kvs=>
  (replace ra:=ra.inv_dict;obtain⟨a,rfl,r⟩:=ra)
  have ht:s.TypeIs (.ref a) "dict":=by
   obtain⟨_,_,⟨l,m,_⟩|⟨l,m,_⟩⟩:=r
   ·exact m.typeIs
   ·exact m.typeIs
  exact⟨"dict",ht,by decide,rfl,rfl,rfl⟩
theorem zo.plain_none(ra:zo H w T P s.heap a da):plainIs a .none=true:=(Gy ra).casesOn λ_ _ _ _ h _=>h
theorem zo.eq_none(ra:zo H w T P s.heap a da):(a==wC)=isNone da:=(Gy ra).casesOn λ_ _ _ _ _ h=>h
theorem GN(ra:zo H w T P s.heap a da)(g:z0 P (.bool (isNone da)) Q s):wpAny (model H w) A (y8 .Is a .none) Q E s:=
 wpAny_is_plain (ra.plain_none) (by rw[ra.eq_none];exact g.here (.bool _) s.toks)
theorem Oi(hh:A.handled=none)(ra:zo H w T P s.heap a da)(rb:zo H w T' P s.heap b db)(h:ZJ da db=.ok d)(g:z0 P d Q s):
  wpAny (model H w) A (call (.builtin "max") [a,b]) Q E s:=by
 obtain⟨i,j,rfl,rfl,h⟩:=BM h;clear h
 (obtain rfl:=jz h;clear h)
 (replace ra:=ra.inv_int;obtain⟨t,rfl⟩:=ra)
 (replace rb:=rb.inv_int;obtain⟨u,rfl⟩:=rb)
 refine max_two_ints hh λh' tk k=>g _ h' tk k ?_;split
 ·rw[Int.max_eq_right (by exact yS ‹_›)];exact .int _ _
 ·rw[Int.max_eq_left (by exact Int.not_lt.mp ‹_›)];exact .int _ _
theorem Ol(hh:A.handled=none)(ra:zo H w T P s.heap a da)(rb:zo H w T' P s.heap b db)(h:ZM da db=.ok d)(g:z0 P d Q s):
  wpAny (model H w) A (call (.builtin "min") [a,b]) Q E s:=by
 obtain⟨i,j,rfl,rfl,h⟩:=BM h;clear h
 (obtain rfl:=jz h;clear h)
 obtain⟨t,rfl⟩:=ra.inv_int;obtain⟨u,rfl⟩:=rb.inv_int;refine min_two_ints hh λh' tk k=>g _ h' tk k ?_;split
 ·rw[Int.min_eq_right (by exact yS ‹_›)];exact .int _ _
 ·rw[Int.min_eq_left (by exact Int.not_lt.mp ‹_›)];exact .int _ _
end
set_option genCtorIdx false in
set_option genInjectivity false in
structure zL where
 name:Str
 params:Arguments
 body:List Stmt
 scope:Scope
noncomputable def jH:List Str:=["len","str","int","max","min","type","range","sorted","ValueError","bool","any"]
structure kq(F:List zL)(K:List (Str×D))(mg mb:Str->Option Value)(zc:Heap):Prop where
 g:zc.Ns w5 mg
 b:zc.Ns wM mb
 nolimit:zc.NoLimit
 bi:∀x:Str,x≠"__name__"->mb x=wP x
 fn:∀(i:Nat) (fi:zL),F[i]?=some fi->∃a o pm cd doc,mg fi.name=some (.ref a)/\zc.get? a=some o/\o.data=.func (docDef fi.name fi.params fi.body fi.scope pm cd doc)/\zc.CodeRec cd fi.name
 const:∀(i:Nat) (x:Str) (d:D),K[i]?=some (x,d)->∃v,mg x=some v/\jG (λa=>∃o,zc.get? a=some o) zc v d
 free:∀x∈jH,mg x=none
inductive zz(env:Env)(h:Heap)(x:Str)(v:Value):Prop
 |loc(m:Str->Option Value):env.kindOf x=some .local->h.Ns env.locals m->m x=some v->zz env h x v
 |cell(c:Addr):(env.kindOf x=some .cell\/env.kindOf x=some .free)->env.cells.lookup x=some c->h.IsCell c (some v)->zz env h x v
theorem zz.keep(r:zz env h x v)(k:zx h h'):zz env h' x v:=by
 induction r using zz.casesOn with
 |loc m a b c=>exact .loc m a (b.keeps k) c
 |cell c a b d=>exact .cell c a b (d.keeps k)
structure Ch(s s':tX):Prop where
 keep:zx s.heap s'.heap
 os:s'.os=s.os
 gens:vT s.gens->vT s'.gens
theorem Ch.refl(s:tX):Ch s s:=⟨zx.refl _,rfl,λx=>x⟩
theorem Ch.trans(x:Ch s s')(y:Ch s' s₂):Ch s s₂:=⟨x.keep.trans y.keep,y.os.trans x.os,λg=>y.gens (x.gens g)⟩
theorem Ch.of(tk:Nat)(k:zx s.heap h'):Ch s {s with heap:=h',toks:=tk}:=⟨k,rfl,λx=>x⟩
theorem Ch.tok(tk:Nat):Ch s {s with toks:=tk}:=⟨zx.refl _,rfl,λx=>x⟩
noncomputable def Bl(fs:List Env):List Addr:=fs.filterMap (·.frame)
def Bn(fs:List Env)(s:tX)(x:Value)(s':tX):Prop:=
 ∃(e:Addr) (B:Heap) (a0:Value),x=.ref e/\(∀a o,s.heap.get? a=some o->a∉Bl fs->B.get? a=some o)/\Heap.FlyingW B fs e (.type "ValueError") a0 s'.heap/\s.heap.UpToSlots s'.heap/\
  s'.os=s.os/\(vT s.gens->vT s'.gens)
theorem Bn.after(c:Ch s s₁)(r:Bn fs s₁ x s'):Bn fs s x s':=by
 obtain⟨e,B,a0,h1,h2,h3,h4,h5,h6⟩:=r;exact⟨e,B,a0,h1,λa o q n=>h2 a o (c.keep a o q) n,h3,(Heap.UpToSlots.of_keeps c.keep).trans h4,h5.trans c.os,λg=>h6 (c.gens g)⟩
def Aq(env:Env)(a:Addr):Prop:=a=env.locals\/∃x,env.cells.lookup x=some a
def bX(names:List (Str×NameKind))(env:Env)(a:Addr):Prop:=a=env.locals\/∃x,names.lookup x=some .cell/\env.cells.lookup x=some a
theorem bX.own(h:bX names env a):Aq env a:=h.elim .inl λ⟨x,_,e⟩=>.inr ⟨x,e⟩
structure EC(zc:Heap)(P:Addr->Prop)(A:uY)(fs:List Env)(n:Nat)(env:Env)(h:Heap):Prop where
 stays:zc.StaysIn h
 pnew:Ae P h
 pbase:∀a o,zc.get? a=some o->P a
 handled:A.handled=none
 frames:A.frames=some fs
 funs:h.FunFrames zc fs
 depth:A.depth+n<1000
 units:A.units+3*n+4100<cLine
 kind:env.scope.kind=.function
 globals:env.globals=w5
 builtins:env.builtins=wM
 own:∀a,P a->¬Aq env a
 nofr:∀a,P a->a∉Bl fs
 inj:∀x y c,env.cells.lookup x=some c->env.cells.lookup y=some c->x=y
theorem EC.keep(e:EC zc P A fs n env h)(k:zx h h'):EC zc P A fs n env h':=
 {e with stays:=λa o q=>k a o (e.stays a o q),pnew:=e.pnew.keep k,funs:=e.funs.of_keeps λb o hb _=>⟨o,k b o hb,rfl⟩}
def Ta(b:Bool)(P:Addr->Prop):Addr->Prop:=if b then λ_=>True else P
section
variable(H:uP)(w:World)
theorem zS.mono(hp:∀a,P a->P' a)(k:zx h h')(r:zS H w P h a kvs):zS H w P' h' a kvs:=by
 have kk:∀{K:Type} {enc:K->D} {l:List (K×Value)} {kvs:List (D×D)},Dx P h enc l kvs->Dx P' h' enc l kvs:=by
  intro K enc l kvs r;induction r with
  |nil=>exact .nil
  |cons a _ ih=>exact .cons (a.mono hp (.of_keep k)) ih
 have kh:∀{l:List (List Int×Addr×Value)} {kvs:List (D×D)},Ee P h l kvs->Ee P' h' l kvs:=by
  intro l kvs r;induction r with
  |nil=>exact .nil
  |cons p a _ ih=>exact .cons (hp _ p) (a.mono hp (.of_keep k)) ih
 have dk:∀{K:Type} [DecidableEq K] {knd:PySem.KeyKind H w K} {l},h.DictOf knd a l->h'.DictOf knd a l:=λm=>let ⟨o,es,ep,ho,r⟩:=m;⟨o,es,ep,k _ _ ho,r⟩;obtain⟨h1,h2,⟨l,m,q⟩|⟨l,m,q⟩⟩:=r
 ·exact⟨h1,h2,.inl ⟨l,dk m,kk q⟩⟩
 ·refine⟨h1,h2,.inr ⟨l,?_,kh q⟩⟩;obtain⟨o,es,ep,ho,he,hd,hp',hi,hn⟩:=m;refine⟨o,es,ep,k _ _ ho,he,hd,hp',λx hx=>?_,hn⟩;obtain⟨o',its,n,ho',hc',hd',r'⟩:=hi x hx;exact⟨o',its,n,k _ _ ho',hc',hd',r'⟩
theorem zo.mono(ht:∀a,T a->T' a)(hp:∀a,P a->P' a)(k:zx h h')(r:zo H w T P h v d):zo H w T' P' h' v d:=by
 induction r using zo.casesOn with
 |rep r=>exact .rep (r.mono hp (.of_keep k))
 |list t ho hc hd hda hr hz=>exact .list (ht _ t) (k _ _ ho) hc hd hda (hr.mono hp (.of_keep k)) hz
 |dict t r=>exact .dict (ht _ t) (r.mono H w hp k)
theorem zo.keep(k:zx h h')(r:zo H w T P h v d):zo H w T P h' v d:=r.mono H w (λ_ x=>x) (λ_ x=>x) k
theorem zo.top(r:zo H w T P h v d):zo H w (λ_=>True) P h v d:=r.mono H w (λ_ _=>trivial) (λ_ x=>x) (zx.refl _)
theorem zo.toRep(r:zo H w P P h v d)(hd:isDict d=false):jG P h v d:=by
 induction r using zo.casesOn with
 |rep r=>exact r
 |list t ho hc hd' hda hr hz=>exact .list t ho hc hd' hda hr hz
 |dict t r=>exact tf hd
def Np(env:Env)(names:List (Str×NameKind))(st:List VS)(ρ:zg)(P:Addr->Prop)(h:Heap):Prop:=
 ∀(i:Nat) (x:Str) (k:NameKind),names[i]?=some (x,k)->zZ k=true->VS.at st i≠.u->
  ∃v,zz env h x v/\zo H w (if VS.at st i=.o then(λa=>¬Aq env a) else P) P h v (zq ρ i)
theorem Np.keep{env:Env}{names:List (Str×NameKind)}{st:List VS}{ρ:zg}{P:Addr->Prop}{h h':Heap}(r:Np H w env names st ρ P h)(k:zx h h'):Np H w env names st ρ P h':=
 λi x kk e v u=>by
  obtain⟨y,h1,h2⟩:=r i x kk e v u;exact⟨y,h1.keep k,h2.keep H w k⟩
structure CY(cx:Cx)(env:Env):Prop where
 glob:∀x,cx.names.lookup x=some .globalImplicit->env.kindOf x=some .globalImplicit
 cell:∀x,(cx.names.lookup x=some .cell\/cx.names.lookup x=some .free)->(env.kindOf x=some .cell\/env.kindOf x=some .free)/\∃c,env.cells.lookup x=some c
variable(zc:Heap)(G:List D)(cf:Nat->List D->R D)(n:Nat)
def zH(names:List (Str×NameKind))(st:List VS)(b:Bool)(env:Env)(t:Sem Value)(pe:PE):Prop:=
 ∀(P:Addr->Prop) (A:uY) (fs:List Env) (s:tX) (ρ:zg) (Q E:Value->tX->Prop),EC zc P A fs n env s.heap->Np H w env names st ρ P s.heap->
  (∀d v s',ev G cf pe ρ=.ok d->Ch s s'->zo H w (Ta b P) P s'.heap v d->Q v s')->
  (ev G cf pe ρ=.ve->∀x s',Bn fs s x s'->E x s')->ev G cf pe ρ≠.stuck->wpAny (model H w) A t Q E s
def CT(names:List (Str×NameKind))(st:List VS)(env:Env)(t:Sem Bool)(pe:PE):Prop:=
 ∀(P:Addr->Prop) (A:uY) (fs:List Env) (s:tX) (ρ:zg) (Q:Bool->tX->Prop) (E:Value->tX->Prop),EC zc P A fs n env s.heap->Np H w env names st ρ P s.heap->
  (∀c s',ev G cf pe ρ=.ok (.bool c)->Ch s s'->Q c s')->
  (ev G cf pe ρ=.ve->∀x s',Bn fs s x s'->E x s')->R.bind (ev G cf pe ρ) z9≠.stuck->wpAny (model H w) A t Q E s
end
section
variable{α β:Type}
theorem B8{a:α}:R.ok a≠.ve:=nofun
theorem BC:(R.stuck:R α)≠.ve:=nofun
theorem kH{f:Int->R α}{d:D}(h:∀i,f i≠.ve):Ka f d≠.ve:=by
 induction d using uG with
 |int i=>exact h i
 |_=>exact BC
theorem Cu{f:Str->R α}{d:D}(h:∀i,f i≠.ve):TA f d≠.ve:=by
 induction d using uG with
 |str i=>exact h i
 |_=>exact BC
theorem Dn{f:List D->R α}{d:D}(h:∀i,f i≠.ve):Vs f d≠.ve:=by
 induction d using uG with
 |list i=>exact h i
 |_=>exact BC
theorem RS{f:List D->R α}{d:D}(h:∀i,f i≠.ve):nM f d≠.ve:=by
 induction d using uG with
 |tuple i=>exact h i
 |_=>exact BC
theorem ZX{f:D->R α}{l:List D}(h:∀x,f x≠.ve):qE f l≠.ve:=by
 induction l using uB with
 |nil=>exact BC
 |cons x r=>induction r using uB with
  |nil=>exact h x
  |cons=>exact BC
theorem RO{f:D->D->R α}{l:List D}(h:∀x y,f x y≠.ve):nL f l≠.ve:=by
 induction l using uB with
 |nil=>exact BC
 |cons x r=>exact ZX (h x)
theorem F5{f:Int->Int->R α}{a b:D}(h:∀i j,f i j≠.ve):Ih f a b≠.ve:=kH λi=>kH (h i)
theorem jT{c:Prop}[Decidable c]{x y:R α}(h:x≠.ve)(h2:y≠.ve):(if c then x else y)≠.ve:=by split<;>assumption
theorem DU{x:R β}{f:β->R α}(h:x≠.ve)(h2:∀a,f a≠.ve):R.bind x f≠.ve:=by
 induction x using R.casesOn with
 |ok a=>exact h2 a
 |ve=>exact absurd rfl h
 |stuck=>exact BC
theorem EY{o:Option α}:ji o≠.ve:=by cases o<;>exact nofun
end
theorem Yj{x y:D}:E6 x y≠.ve:=by
 induction x using uG with
 |int i=>exact kH λ_=>B8
 |str i=>exact Cu λ_=>jT B8 BC
 |list i=>exact Dn λ_=>jT B8 BC
 |tuple i=>exact RS λ_=>jT B8 BC
 |_=>exact BC
theorem U0{x y:D}:Ri x y≠.ve:=by
 induction x using uG with
 |int i=>exact kH λ_=>B8
 |tuple i=>exact RS λ_=>RO λ_ _=>kH λ_=>Dn λ_=>RO λ_ _=>kH λ_=>Dn λ_=>DU EY λ_=>DU EY λ_=>B8
 |_=>exact BC
theorem Rw{x y:D}:Oj x y≠.ve:=by
 induction y using uG with
 |list i=>exact jT BC B8
 |tuple i=>exact jT BC B8
 |str i=>exact Cu λ_=>jT B8 BC
 |dict i=>exact jT B8 BC
 |_=>exact BC
theorem RJ{xs:List D}{i:Int}:cP xs i≠.ve:=by cases i<;>exact EY
theorem Vp{x:Str}{i:Int}:Vo x i≠.ve:=by
 cases i<;>first|exact EY|exact BC
theorem Za{x y:D}:jd x y≠.ve:=by
 induction x using uG with
 |list i=>exact kH λ_=>RJ
 |tuple i=>exact kH λ_=>RJ
 |str i=>exact kH λ_=>DU Vp λ_=>B8
 |dict i=>exact jT EY BC
 |_=>exact BC
theorem Ny{o:GD}{x y:D}(h:bin o x y=.ve):False:=by
 induction o using GD.casesOn with
 |add=>exact Yj h
 |sub=>exact F5 (λ_ _=>B8) h
 |mul=>exact F5 (λ_ _=>jT B8 BC) h
 |mod=>exact F5 (λ_ _=>jT B8 BC) h
 |fdiv=>exact F5 (λ_ _=>jT B8 BC) h
 |eq=>exact jT BC B8 h
 |ne=>exact jT BC B8 h
 |lt=>exact DU U0 (λ_=>B8) h
 |gt=>exact F5 (λ_ _=>B8) h
 |mem=>exact DU Rw (λ_=>B8) h
 |nmem=>exact jT BC (DU Rw (λ_=>B8)) h
 |idx=>exact Za h
 |upto=>exact Dn (λ_=>kH λ_=>jT B8 BC) h
 |from_=>exact Dn (λ_=>kH λ_=>jT B8 BC) h
 |max=>exact F5 (λ_ _=>B8) h
 |min=>exact F5 (λ_ _=>B8) h
theorem Gb{names:List (Str×NameKind)}{x:Str}{k:NameKind}{i:Nat}(h1:names.lookup x=some k)(h2:names.findIdx? (·.1==x)=some i):names[i]?=some (x,k):=by
 induction names generalizing i with
 |nil=>exact nn h1
 |cons p r ih=>
  obtain⟨y,l⟩:=p;by_cases e:x=y
  ·subst e;rw[List.findIdx?_cons] at h2;simp at h1 h2;subst h1;subst h2;rfl
  ·have e':(x==y)=false:=by exact if_neg ‹_›
   have e2:(y==x)=false:=by simpa using y7 e
   rw[vM,e'] at h1;rw[List.findIdx?_cons] at h2;simp only[e2] at h2;cases hj:r.findIdx? (·.1==x) with
   |none=>rw[hj] at h2;exact nn h2
   |some j=>
    rw[hj] at h2;simp at h2;subst h2;exact ih h1 hj
set_option tactic.hygienic true in
theorem AQ{cx:Cx}{x:Str}{i:Nat}(h:cx.var? x=some i):∃k,cx.names[i]?=some (x,k)/\zZ k=true/\zE x=true:=by
 unfold Cx.var? at h;split at h
 ·rename_i k hk;split at h
  ·rename_i hc;simp only[uU] at hc;exact⟨k,Gb hk h,hc.1,hc.2⟩
  ·exact nn h
 ·exact nn h
theorem Aw{x:Str}(h:zE x=true):(x==("__debug__" : Str))=false/\(x==("__classdict__" : Str))=false/\x≠("__name__" : Str):=by
 unfold zE at h;simp only[uU,Bool.not_eq_true'] at h;exact⟨h.1.1,h.1.2,λe=>by rw[e] at h;exact absurd h (by decide)⟩
section
variable{H:uP}{w:World}{zc:Heap}{G:List D}{cf:Nat->List D->R D}{n:Nat}{names:List (Str×NameKind)}{st:List VS}{b:Bool}{env:Env}
theorem kR{A:uY}{E:Value->tX->Prop}{s:tX}{x:Str}{pos:Pos}{v:Value}{Q:Value->tX->Prop}(hk:env.scope.kind=.function)(hp:zE x=true)(hv:zz env s.heap x v)(h:Q v s):
  wpAny (model H w) A (eval (.Name x pos) env) Q E s:=by
 refine wpAny_Name ?_ (Aw hp).1;induction hv using zz.casesOn with
 |loc m h1 h2 h3=>exact wpAny_loadName_local hk h1 h2 h3 h
 |cell c h1 h2 h3=>
  rcases h1 with h1|h1
  ·exact wpAny_loadName_cell hk h1 h2 h3 h
  ·exact wpAny_loadName_free hk h1 h2 h3 h (Aw hp).2.1
theorem V0(h:JT c=some l):
  zH H w zc G cf n names st b env (eval (.Constant c k pos) env) (.lit l):=by
 intro P A fs s ρ Q E ec vo hok _ _;induction c using PySem.Const.casesOn with
 |none=>(obtain rfl:=zP h;clear h);exact Constant_none (hok _ _ s rfl (Ch.refl s) (.rep .none))
 |bool b=>(obtain rfl:=zP h;clear h);exact Constant_bool (hok _ _ s rfl (Ch.refl s) (.rep (.bool _)))
 |int i=>(obtain rfl:=zP h;clear h);exact zaT (hok _ _ _ rfl (Ch.tok _) (.rep (.int _ _)))
 |str x=>
  obtain⟨hz,h⟩:=Ci h
  (obtain rfl:=zP h;clear h)
  exact yR (hok _ _ _ rfl (Ch.tok _) (.rep (.str _ _ (jg hz) (of_decide_eq_true (z7 hz)))))
 |_=>exact nn h
theorem V7{cx:Cx}{x:Str}{pos:Pos}{i:Nat}(h:cx.var? x=some i)(hl:k8 st b (.var i)=true):
  zH H w zc G cf n cx.names st b env (eval (.Name x pos) env) (.var i):=by
 intro P A fs s ρ Q E ec vo hok _ _;obtain⟨k,h1,h2,h3⟩:=AQ h;have hl:(match VS.at st i with|.u=>false|.f=>true|.o=>b)=true:=hl;have hu:VS.at st i≠.u:=λe=>by rw[e] at hl;exact ff hl
 obtain⟨v,hv,rv⟩:=vo i x k h1 h2 hu;refine kR ec.kind h3 hv (hok _ _ s rfl (Ch.refl s) ?_);cases hs:VS.at st i with
 |u=>exact absurd hs hu
 |f=>rw[hs,if_neg (by trivial)] at rv;exact rv.mono H w (λa x=>by cases b<;>first|exact x|trivial) (λ_ x=>x) (zx.refl _)
 |o=>
  rw[hs] at hl;have hb:b=true:=hl
  (replace hb:=vR hb;subst hb)
  exact rv.top
theorem kq.load{F:List zL}{K:List (Str×D)}{mg mb:Str->Option Value}(B:kq F K mg mb zc){A:uY}{E:Value->tX->Prop}{s:tX}{x:Str}{pos:Pos}{v:Value}{Q:Value->tX->Prop}
  (hs:zc.StaysIn s.heap)(hk:env.scope.kind=.function)(hg:env.globals=w5)(hx:env.kindOf x=some .globalImplicit)(hp:zE x=true)(hv:mg x=some v)(h:Q v s):
  wpAny (model H w) A (eval (.Name x pos) env) Q E s:=
 Name_function_global hk hx (loadGlobal_global (by rw[hg];exact B.g.keeps hs) hv h) (Aw hp).1
theorem kq.loadB{F:List zL}{K:List (Str×D)}{mg mb:Str->Option Value}(B:kq F K mg mb zc){A:uY}{E:Value->tX->Prop}{s:tX}{x:Str}{pos:Pos}{v:Value}{Q:Value->tX->Prop}
  (hs:zc.StaysIn s.heap)(hk:env.scope.kind=.function)(hg:env.globals=w5)(hb:env.builtins=wM)(hx:env.kindOf x=some .globalImplicit)(hp:zE x=true)(hm:x∈jH)(hv:wP x=some v)(h:Q v s):
  wpAny (model H w) A (eval (.Name x pos) env) Q E s:=
 Name_function_global hk hx (loadGlobal_builtin (by rw[hg];exact B.g.keeps hs) (B.free x hm) (by rw[hb];exact B.b.keeps hs) (by rw[B.bi x (Aw hp).2.2];exact hv) h) (Aw hp).1
theorem Cj{cx:Cx}{x:Str}(h:cx.isGlob x=true):cx.names.lookup x=some .globalImplicit/\zE x=true:=by
 unfold Cx.isGlob at h;simp only[uU,beq_iff_eq] at h;exact h
set_option tactic.hygienic true in
theorem SG{F:List zL}{K:List (Str×D)}{mg mb:Str->Option Value}(B:kq F K mg mb zc)(hG:G=K.map (·.2)){cx:Cx}(hC:cx.consts=K.map (·.1))(hL:CY cx env){x:Str}{pos:Pos}{i:Nat}(h:cx.const? x=some i):
  zH H w zc G cf n names st b env (eval (.Name x pos) env) (.glob i):=by
 intro P A fs s ρ Q E ec vo hok _ _;unfold Cx.const? at h;split at h
 ·rename_i hg;obtain⟨hg1,hg2⟩:=Cj hg;rw[hC] at h;obtain⟨hi,hx⟩:=List.findIdx?_eq_some_iff_getElem.mp h;simp only[List.getElem_map,uJ] at hi hx;obtain⟨v,hv,rv⟩:=B.const i K[i].1 K[i].2 (by rw[uA hi]);have e:K[i].1=x:=by simpa using hx.1
  rw[e] at hv;refine B.load ec.stays ec.kind ec.globals (hL.glob x hg1) hg2 hv (hok _ _ s rfl (Ch.refl s) (.rep ?_));have e2:G.getD i .none=K[i].2:=by rw[hG];simp[hi]
  rw[e2];exact rv.mono (λa ⟨o,q⟩=>ec.pbase a o q) (.of_keep ec.stays)
 ·exact nn h
theorem z0.mk'(h:∀v s',Ch s s'->zo H w T P s'.heap v d->Q v s'):z0 P d Q s:=
 λv h' tk k r=>h v {s with heap:=h',toks:=tk} (Ch.of tk k) (.rep r)
theorem BQ{x y t:Sem Value}{o:GD}{a c:PE}{W:uY->(Value->tX->Prop)->(Value->tX->Prop)->Value->Value->tX->Prop}
  (hrule:∀{A E s Q P fs},EC zc P A fs n env s.heap->wpAny (model H w) A x (λu s₁=>wpAny (model H w) A y (λv s₂=>W A Q E u v s₂) E s₁) E s->wpAny (model H w) A t Q E s)
  (hprim:∀{A:uY} {P:Addr->Prop} {fs:List Env} {Q E:Value->tX->Prop} {s:tX} {u v:Value} {du dv d:D},EC zc P A fs n env s.heap->zo H w (λ_=>True) P s.heap u du->zo H w (λ_=>True) P s.heap v dv->
   bin o du dv=.ok d->(∀v s',Ch s s'->jG P s'.heap v d->Q v s')->W A Q E u v s)
  (ha:zH H w zc G cf n names st true env x a)(hc:zH H w zc G cf n names st true env y c):
  zH H w zc G cf n names st b env t (.bin o a c):=by
 intro P A fs s ρ Q E ec vo hok hve hns;simp only[bC] at hok hve hns;refine hrule ec (ha P A fs s ρ _ E ec vo (λx v s₁ hx c1 rx=>?_) (λhx=>?_) (λhx=>hns (by rw[hx];rfl)))
 ·rw[hx] at hok hve hns;refine hc P A fs s₁ ρ _ E (ec.keep c1.keep) (vo.keep H w c1.keep) (λy u s₂ hy c2 ry=>?_) (λhy x s' he=>?_) (λhy=>hns (by rw[hy];rfl))
  ·rw[hy] at hok hve hns;cases hd:bin o x y with
   |stuck=>exact absurd hd hns
   |ve=>exact(Ny hd).elim
   |ok d=>exact hprim ((ec.keep c1.keep).keep c2.keep) (rx.keep H w c2.keep) ry hd λv' s' c3 r3=>hok d v' s' hd ((c1.trans c2).trans c3) (.rep r3)
  ·exact hve (by rw[hy];rfl) x s' (he.after c1)
 ·intro x s' he;exact hve (by rw[hx];rfl) x s' he
theorem kr(h:∀v s',Ch s s'->jG P s'.heap v d->Q v s'):z0 P d Q s:=
 λv h' tk k r=>h v {s with heap:=h',toks:=tk} (Ch.of tk k) r
theorem OJ(hop:HT op=some o)
  (ha:zH H w zc G cf n names st true env (eval l env) a)(hc:zH H w zc G cf n names st true env (eval r env) c):
  zH H w zc G cf n names st b env (eval (.BinOp l op r pos) env) (.bin o a c):=
 BQ (W:=λA Q E u v s=>wpAny (model H w) A (zay op u v) Q E s) (λ_ h=>wpAny_BinOp h) (λec ru rv hd g=>I7 ec.pnew hop ru rv hd (kr g)) ha hc
theorem U1(h:Q () s):wpAny (model H w) A (letTemporaryGo e o r) Q E s:=wpAny_letTemporaryGo h
theorem NY{P T:Addr->Prop}{s:tX}{u:Value}{du dv d:D}(r:zo H w T P s.heap u du)(h:jd du dv=.ok d):∃X id,s.TypeIs u X/\typeLookup (.type X) "__getitem__"=pure (some (.builtin id)):=by
 induction du using uG with
 |list xs=>obtain⟨a,oa,va,na,rfl,ha,ca,_⟩:=r.inv_list;exact⟨"list",_,⟨_,ha,ca⟩,slot_list_getitem.lookup⟩
 |tuple xs=>obtain⟨a,oa,va,na,rfl,_,ha,ca,_⟩:=r.inv_tuple;exact⟨"tuple",_,⟨_,ha,ca⟩,slot_tuple_getitem.lookup⟩
 |str x=>obtain⟨t,rfl,_⟩:=r.inv_str;exact⟨"str",_,yP _ _ _,PySem.F.slot_str_getitem.lookup⟩
 |dict kvs=>
  obtain⟨a,rfl,_,_,⟨l,m,_⟩|⟨l,m,_⟩⟩:=r.inv_dict
  ·exact⟨"dict",_,m.typeIs,slot_dict_getitem.lookup⟩
  ·exact⟨"dict",_,m.typeIs,slot_dict_getitem.lookup⟩
 |_=>exact ns h
theorem D4{A:uY}{E:Value->tX->Prop}{s:tX}{value slice:Expr}{o i:Value}{X id:String}{Q:Value->tX->Prop}(hT:s.TypeIs o X)
  (hl:typeLookup (.type X) "__getitem__"=pure (some (.builtin id)))(h:wpAny (model H w) A (getItem o i) Q E s):wpAny (model H w) A (zae value slice o i) Q E s:=by
 unfold zae;refine tY ?_;rw[getitemInPython_of_ne hT.not_modules];refine tY (wpAny_specialOf hT hl ?_);have fin:wpAny (model H w) A (subscripted slice false o i) (λr s₃=>wpAny (model H w) A (letTemporaryGo value o r >>= λ_=>pure r) Q E s₃) E s:=by
  have key:∀l,wpAny (model H w) A (operate l (getItem o i)) (λr s₃=>wpAny (model H w) A (letTemporaryGo value o r >>= λ_=>pure r) Q E s₃) E s:=λl=>wpAny_operating (vI h (λr s₃ h₃=>tY (U1 (uC h₃))) λ_ _ x=>x);induction slice using v4 with
  |Slice _ _ st=>induction st using uW with
   |none=>exact key _
   |some=>exact key _
  |_=>exact key _
 first
  |exact uC (tY fin)
  |exact tY (uC (tY fin))
  |exact tY fin
theorem VX
  (ha:zH H w zc G cf n names st true env (eval l env) a)(hc:zH H w zc G cf n names st true env (eval r env) c):
  zH H w zc G cf n names st b env (eval (.Subscript l r pos) env) (.bin .idx a c):=
 BQ (W:=λA Q E u v s=>wpAny (model H w) A (zae l r u v) Q E s) (λ_ h=>Subscript_ h) (λec ru rv hd g=>by
  obtain⟨X,id,hT,hl⟩:=NY ru hd;exact D4 hT hl (N0 (by have:=ec.units;exact qB (uR (uV _ _) (by decide)) this) ru rv hd (kr g))) ha hc
end
end Mine
namespace Mine
open PySem PyProof.Rows PySem.Calls PySem.SeqAt PySem.MeetsSeq PySem.MeetsSeq3
def IA(zA:Array Value)(xs:List Int):Prop:=zA.size=xs.length/\∀(j:Nat) (x:Int),xs[j]?=some x->∃t,zA[j]?=some (Value.int x t)
theorem IA.none{zA:Array Value}{xs:List Int}{i:Nat}(h:IA zA xs)(hi:i<=zA.size)(e:zA[i]?=none):xs.drop i=[]/\i=zA.size:=by
 have:zA.size<=i:=by simpa using e
 exact⟨wJ (by rw[<-h.1];exact this),by exact y3 ‹_› ‹_›⟩
theorem IA.some{zA:Array Value}{xs:List Int}{i:Nat}{v:Value}(h:IA zA xs)(e:zA[i]?=some v):∃x t,v=.int x t/\xs.drop i=x::xs.drop (i+1)/\i<zA.size:=by
 obtain⟨hi,_⟩:=Array.getElem?_eq_some_iff.mp e;have hi':i<xs.length:=by rw[<-h.1];exact hi
 obtain⟨t,ht⟩:=h.2 i xs[i] (uA hi');rw[e] at ht;exact⟨xs[i],t,by(obtain rfl:=zP ht;clear ht);rfl,wW hi',hi⟩
theorem Og(l b:Addr)(zA items2:Array Value)(n n2:Nat)(dd dd2:Option Addr)(sl sl2:Array (Option Value))(xs ys:List Int)(hx:IA zA xs)(hy:IA items2 ys)(k:Nat):
  ∀i:Nat,zA.size - i=k->i<=zA.size->i<=items2.size->Meets (Builtin.«list.__eq__.loop» ⟨[.ref l,.ref b,rawInt i,rawInt 0],[]⟩)
   (λA R s=>s.heap.get? l=some {cls:=.type "list",dict:=dd,data:=.seq zA n,slots:=sl}/\s.heap.get? b=some {cls:=.type "list",dict:=dd2,data:=.seq items2 n2,slots:=sl2}/\
    R (.ok (.ret (.bool (jo (xs.drop i) (ys.drop i))))) s):=by
 induction k using Nat.strongRecOn with
 |_ k ih=>
  intro i hk h1 h2 H w A R s h;obtain⟨hp,g,d,tk,os⟩:=s;obtain⟨hl,hb,h⟩:=h
  wp_walk using wI hl,wI hb
  have hii:((i:Nat):Int).toNat=i:=by rfl
  have hc:((i:Int)+1)=((i+1:Nat):Int):=by push_cast;rfl
  rw[hii];cases e1:zA[i]? with
  |none=>
   obtain⟨d1,q1⟩:=hx.none h1 e1;rw[d1] at h;cases e2:items2[i]? with
   |none=>
    obtain⟨d2,q2⟩:=hy.none h2 e2;rw[d2] at h
    wp_walk using wI hl,wI hb
    show R (.ok (.ret (.bool (decide (zA.size<items2.size))))) _;have:decide (zA.size<items2.size)=jo [] []:=by rw[<-q1,<-q2];simp[jo]
    rw[this];exact h
   |some v2=>
    obtain⟨x2,t2,rfl,d2,q2⟩:=hy.some e2;rw[d2] at h
    wp_walk using wI hl,wI hb
    show R (.ok (.ret (.bool (decide (zA.size<items2.size))))) _;have:decide (zA.size<items2.size)=jo [] (x2::ys.drop (i+1)):=by simp[ZB];exact q1▸q2
    rw[this];exact h
  |some v1=>
   obtain⟨x1,t1,rfl,d1,q1⟩:=hx.some e1;rw[d1] at h;cases e2:items2[i]? with
   |none=>
    obtain⟨d2,q2⟩:=hy.none h2 e2;rw[d2] at h
    wp_walk using wI hl,wI hb
    show R (.ok (.ret (.bool (decide (zA.size<items2.size))))) _;have:decide (zA.size<items2.size)=jo (x1::xs.drop (i+1)) []:=by simp[jo];exact q2▸h1
    rw[this];exact h
   |some v2=>
    obtain⟨x2,t2,rfl,d2,q2⟩:=hy.some e2;rw[d2] at h;refine tY (EqAt.int_int x1 t1 x2 t2 H w _ _ ?_);by_cases hxy:x1=x2
    ·have hb':(x1==x2)=true:=by exact if_pos ‹_›
     have hl':jo (x1::xs.drop (i+1)) (x2::ys.drop (i+1))=jo (xs.drop (i+1)) (ys.drop (i+1)):=by exact if_pos ‹_›
     rw[hl'] at h;rw[hb']
     wp_walk
     rw[hc];exact⟨plainId_quiet plain_eq_loop _,zah entry_eq_loop (by
      rw[yM plain_eq_loop _];exact ih (zA.size - (i+1)) (hk▸Nat.sub_succ_lt_self _ _ q1) (i+1) rfl (by assumption) (by assumption) H w A R _ ⟨hl,hb,h⟩)⟩
    ·have hb':(x1==x2)=false:=by exact if_neg ‹_›
     have hl':jo (x1::xs.drop (i+1)) (x2::ys.drop (i+1))=decide (x1<x2):=by exact if_neg ‹_›
     rw[hl'] at h;rw[hb']
     wp_walk using wI hl,wI hb
     rw[e1,e2];refine tY ?_;exact lt_int (s:=⟨hp,g,d,tk,os⟩) (uC h)
theorem Oc(l b:Addr)(zA items2:Array Value)(n n2:Nat)(dd dd2:Option Addr)(sl sl2:Array (Option Value))(xs ys:List Int)(hx:IA zA xs)(hy:IA items2 ys):
  Meets (Builtin.«list.__lt__» ⟨[.ref l,.ref b],[]⟩)
   (λA R s=>s.heap.get? l=some {cls:=.type "list",dict:=dd,data:=.seq zA n,slots:=sl}/\s.heap.get? b=some {cls:=.type "list",dict:=dd2,data:=.seq items2 n2,slots:=sl2}/\
    R (.ok (.ret (.bool (jo xs ys)))) s):=by
 intro H w A R s h;obtain⟨hp,g,d,tk,os⟩:=s;obtain⟨hl,hb,h⟩:=h;have f3:=AutoSeq1.sub_list_list
 wp_walk using wI hl,wI hb
 exact⟨plainId_quiet plain_eq_loop _,zah entry_eq_loop (by
  rw[yM plain_eq_loop _];exact Og l b zA items2 n n2 dd dd2 sl sl2 xs ys hx hy _ 0 rfl (uZ _) (uZ _) H w A R _ ⟨hl,hb,by exact h⟩)⟩
section
variable{H:uP}{w:World}{A:uY}{E:Value->tX->Prop}{s:tX}
theorem U2{l b:Addr}{o1 o2:Obj}{zA items2:Array Value}{n n2:Nat}{xs ys:List Int}{Q:Value->tX->Prop}(h1:s.heap.get? l=some o1)(c1:o1.cls=.type "list")(d1:o1.data=.seq zA n)(h2:s.heap.get? b=some o2)(c2:o2.cls=.type "list")(d2:o2.data=.seq items2 n2)
  (hx:IA zA xs)(hy:IA items2 ys)(hu:A.units<cLine)(h:Q (.bool (jo xs ys)) s):wpAny (model H w) A (richCompare .Lt (.ref l) (.ref b)) Q E s:=by
 obtain⟨cls,dd,data,sl⟩:=o1;obtain⟨cls2,dd2,data2,sl2⟩:=o2;simp only at c1 d1 c2 d2;subst c1 d1 c2 d2;exact richCompare_meets_room (op:=.Lt) ⟨_,h1,rfl⟩ ⟨_,h2,rfl⟩ F.slot_list_lt F.entry_list_lt (F.args_list_lt_2 _ _) (Oc l b zA items2 n n2 dd dd2 sl sl2 xs ys hx hy)
  ⟨h1,h2,show Value.bool (jo xs ys)≠Value.notImplemented/\Q (.bool (jo xs ys)) s from⟨(λx=>nomatch x),h⟩⟩ hu
theorem Th{a b:Addr}{oa ob:Obj}{xs ys:Array Value}{na nb:Nat}{i j:Int}{t u:Tok}{l m:Value}{e c:Bool}{Q:Value->tX->Prop}(ha:s.heap.get? a=some oa)(ca:oa.cls=.type "tuple")(da:oa.data=.seq xs na)(hb:s.heap.get? b=some ob)(cb:ob.cls=.type "tuple")(db:ob.data=.seq ys nb)
  (hx:xs.toList=[.int i t,l])(hy:ys.toList=[.int j u,m])(hu:A.units<cLine)
  (he:∀A':uY,A'.units<=A.units+2->EqAt A' s l m e)(hc:e=false->∀(A':uY) (E:Value->tX->Prop) (Q:Value->tX->Prop),A'.units<=A.units+2->Q (.bool c) s->wpAny (model H w) A' (richCompare .Lt l m) Q E s)
  (h:Q (.bool (if i=j then(if e then false else c) else decide (i<j))) s):wpAny (model H w) A (richCompare .Lt (.ref a) (.ref b)) Q E s:=by
 refine wpAny_richCompare_same_room (op:=.Lt) ⟨oa,ha,ca⟩ ⟨ob,hb,cb⟩ F.slot_tuple_lt (yE F.slot_tuple_lt ⟨oa,ha,ca⟩ F.entry_tuple_lt ?_ (F.args_tuple_lt_2 _ _)) hu;show wpAny _ _ (isInstance (.ref b) (.type "tuple") >>= _) _ _ s
 refine tY (wpAny_isInstance ⟨ob,hb,cb⟩ isSubtype_tuple_tuple ?_);refine tY (wpAny_tupleItemsOf ha da ?_);refine tY (wpAny_tupleItemsOf hb db ?_);rw[hx,hy];have hsz:Builtin.Tuple.tupleCompareSizes CmpOp.Lt xs.size ys.size=.bool false:=by
  have e1:xs.size=2:=by rw[<-yB,hx];rfl
  have e2:ys.size=2:=by rw[<-yB,hy];rfl
  rw[e1,e2];rfl
 rw[w7,w7,List.zip_nil_left,zbl];refine tY (tY (tY (EqAt.int_int i t j u H w _ _ ?_)));by_cases hij:i=j
 ·have q1:(i==j)=true:=by exact if_pos ‹_›
  rw[q1];refine uC ?_;simp only[if_pos hij] at h;dsimp only;rw[zbl];refine tY (tY (he _ (by show A.units+1<=A.units+2;exact w4 _) H w _ _ ?_));induction e using tZ with
  |true=>
   simp only[Bool.not_true,vQ,if_false,if_true] at h ⊢;refine uC ?_;dsimp only;rw[List.forIn_nil];refine uC ?_;dsimp only;rw[hsz];exact uC ⟨_,rfl,(λx=>nomatch x),h⟩
  |false=>
   refine tY (wpAny_rule (tY (hc rfl _ _ _ (by show A.units+1<=A.units+2;exact w4 _) ?_)));exact tY (uC (uC (uC (uC ⟨_,rfl,(λx=>nomatch x),h⟩))))
 ·have q1:(i==j)=false:=by exact if_neg ‹_›
  rw[q1];simp only[if_neg hij] at h;simp only[Bool.not_false,if_true];refine tY (wpAny_rule (tY ?_));exact lt_int (tY (uC (uC (uC (uC ⟨_,rfl,(λx=>nomatch x),h⟩)))))
end
end Mine
namespace Mine
open PySem PyProof.Rows PySem.Calls
section
variable{H:uP}{w:World}{A:uY}{E:Value->tX->Prop}{s:tX}{P T T':Addr->Prop}{Q:Value->tX->Prop}{a b:Value}{da db d:D}
theorem UJ(h:fO d=some i):d=.int i:=by
 induction d using uG with
 |int j=>(obtain rfl:=zP h;clear h);rfl
 |_=>exact nn h
theorem EK:∀{a:List Int},A7 xs=some a->xs=a.map .int:=by
 induction xs with
 |nil=>intro a h;(obtain rfl:=zP h;clear h);rfl
 |cons d r ih=>
  intro a h;replace h:=ob h;obtain⟨i,h1,h⟩:=h;replace h:=ob h;obtain⟨l,h2,h⟩:=h
  (obtain rfl:=zP h;clear h);rw[UJ h1,ih h2];rfl
theorem fH{h:Heap}{a:List Int}:∀{vs:List Value},zk P h vs (a.map .int)->vs.length=a.length/\∀(j:Nat) (x:Int),a[j]?=some x->∃t,vs[j]?=some (Value.int x t):=by
 induction a with
 |nil=>intro vs r;cases r;exact⟨rfl,λj x e=>nomatch e⟩
 |cons i a ih=>
  intro vs r;cases r with
  |cons r1 r2=>
   cases r1 with
   |int i t=>
    obtain⟨g1,g2⟩:=ih r2;refine⟨congrArg (·+1) g1,λj x e=>?_⟩;induction j using w3 with
    |zero=>(obtain rfl:=zP e;clear e);exact⟨t,rfl⟩
    |succ j=>exact g2 j x e
theorem GO(a:List Int):jo a a=false:=by
 induction a with
 |nil=>
  exact rfl
 |cons i r ih=>
  simp[Ro,ih]
theorem Jv{a:List Int}:∀{b:List Int},xM (a.map .int) (b.map .int)=true->a=b:=by
 induction a with
 |nil=>intro b h;induction b using uB with
  |nil=>rfl
  |cons=>exact ff h
 |cons i a ih=>intro b h;induction b using uB with
  |nil=>exact ff h
  |cons j b=>rw[eq_of_beq (show(i==j)=true from jg h),ih (z7 h)]
theorem La(a:List Int):vG (a.map .int)<=1:=by
 induction a with
 |nil=>exact uZ _
 |cons i a ih=>exact Nat.max_le.mpr ⟨uZ _,ih⟩
inductive dP(P:Addr->Prop)(h:Heap)(i:Int)(l:List D)(vs:List Value):Prop
 |mk(t:Tok)(z:Addr)(o:Obj)(its:Array Value)(m:Nat)(e:vs=[.int i t,.ref z])(ho:h.get? z=some o)(hc:o.cls=.type "list")(hd:o.data=.seq its m)(r:zk P h its.toList l)(r':jG P h (.ref z) (.list l))
theorem XM{h:Heap}{vs:List Value}{i:Int}{l:List D}(r:zk P h vs [.int i,.list l]):dP P h i l vs:=by
 cases r with
 |cons r1 r2=>cases r2 with
  |cons r3 r4=>
   cases r4
   cases r1
   have r3':=r3;cases r3 with
   |list p ho hc hd hda hr hz=>exact⟨_,_,_,_,_,rfl,ho,hc,hda,hr,r3'⟩
set_option tactic.hygienic true in
theorem Qm(la lb:List Int){i j:Int}:(if i=j then(if vK (.list (la.map .int)) (.list (lb.map .int))=true then false else jo la lb) else decide (i<j))=(if i=j then jo la lb else decide (i<j)):=by
 congr 1
 split
 ·rename_i he;have:la=lb:=Jv he;rw[this,GO]
 ·rfl
theorem QG{h:Heap}{its:Array Value}{a:List Int}(r:zk P h its.toList (a.map .int)):IA its a:=by
 obtain⟨g1,g2⟩:=fH r;exact⟨by exact g1,λj x e=>by simpa using g2 j x e⟩
theorem Rp(hu:A.units+100<cLine){a b:Addr}{oa ob:Obj}{va vb:Array Value}{na nb:Nat}{i j:Int}{la lb:List Int}(hoa:s.heap.get? a=some oa)(hca:oa.cls=.type "tuple")(hda:oa.data=.seq va na)(rra:zk P s.heap va.toList [.int i,.list (la.map .int)])
  (hob:s.heap.get? b=some ob)(hcb:ob.cls=.type "tuple")(hdb:ob.data=.seq vb nb)(rrb:zk P s.heap vb.toList [.int j,.list (lb.map .int)])(h:Q (.bool (if i=j then jo la lb else decide (i<j))) s):
  wpAny (model H w) A (y8 .Lt (.ref a) (.ref b)) Q E s:=by
 obtain⟨t,za,oza,ia,ma,ea,hza,cza,dza,rza,rpa⟩:=XM rra;obtain⟨u,zb,ozb,ib,mb,eb,hzb,czb,dzb,rzb,rpb⟩:=XM rrb;obtain⟨_,q1⟩:=rpa.reads;obtain⟨_,q2⟩:=rpb.reads;have hdep:min (w8 (la.map .int)).depth (w8 (lb.map .int)).depth<=3:=qA (Nat.min_le_left _ _) (qA (uL (La la)) (by decide));refine Th (e:=vK (.list (la.map .int)) (.list (lb.map .int))) (c:=jo la lb) hoa hca hda hob hcb hdb ea eb (by exact qB (uV _ _) ‹_›) (λA' hA=>PySem.SeqAt.eqAt_reads _ _ A' s _ _ _ _ q1 q2 rpa.lay rpb.lay (by exact qB (uR hA hdep) (qB (uD (show 2+3<=100 by decide) A.units) hu))) (λ_ A' E' Q' hA hq=>U2 hza cza dza hzb czb dzb (QG rza) (QG rzb) (by exact qB hA (qB (uD (show 2<=100 by decide) A.units) hu)) hq) ?_;rw[Qm];exact h
theorem Lu(hu:A.units+100<cLine){c:Bool}(ra:zo H w T P s.heap a da)(rb:zo H w T' P s.heap b db)(h:Ri da db=.ok c)(g:z0 P (.bool c) Q s):
  wpAny (model H w) A (y8 .Lt a b) Q E s:=by
 induction da using uG with
 |int i=>
  obtain⟨j,rfl,h⟩:=kT h;clear h
  (obtain rfl:=jz h;clear h)
  obtain⟨t,rfl⟩:=ra.inv_int;obtain⟨u,rfl⟩:=rb.inv_int;exact lt_int (g.here (.bool _) s.toks)
 |tuple xs=>
  obtain⟨ys,rfl,h⟩:=RT h;clear h;obtain⟨p,q,rfl,h⟩:=RR h;clear h;obtain⟨i,rfl,h⟩:=kT h;clear h;obtain⟨a',rfl,h⟩:=Do h;clear h;obtain⟨p',q',rfl,h⟩:=RR h;clear h;obtain⟨j,rfl,h⟩:=kT h;clear h;obtain⟨b',rfl,h⟩:=Do h;clear h;obtain⟨la,h1,h⟩:=Mine.rb h;replace h:=Mine.rb h;obtain⟨lb,h2,h⟩:=h
  (obtain rfl:=jz h;clear h)
  have ex:=EK (jQ h1);have ey:=EK (jQ h2);subst ex ey;obtain⟨xa,oa,va,na,rfl,_,hoa,hca,hda,rra,_⟩:=ra.inv_tuple;obtain⟨xb,ob,vb,nb,rfl,_,hob,hcb,hdb,rrb,_⟩:=rb.inv_tuple;exact Rp hu hoa hca hda rra hob hcb hdb rrb (g.here (.bool _) s.toks)
 |_=>exact ns h
theorem YB(hu:A.units+100<cLine)(ra:zo H w T P s.heap a da)(rb:zo H w T' P s.heap b db)(h:U6 da db=.ok d)(g:z0 P d Q s):
  wpAny (model H w) A (y8 .Lt a b) Q E s:=by
 replace h:=Mine.rb h;obtain⟨c,h1,h⟩:=h
 (obtain rfl:=jz h;clear h)
 exact Lu hu ra rb h1 g
theorem NE(hu:A.units+4090<cLine)(hh:A.handled=none)(hop:HW op=some o)(ra:zo H w T P s.heap a da)(rb:zo H w T' P s.heap b db)
  (h:bin o da db=.ok d)(g:z0 P d Q s):wpAny (model H w) A (y8 op a b) Q E s:=by
 induction op using PySem.CmpOp.casesOn with
 |Eq=>(obtain rfl:=zP hop;clear hop);exact Yz (by exact qB (uD (by decide) _) hu) ra rb h g
 |NotEq=>(obtain rfl:=zP hop;clear hop);exact YC (by exact qB (uD (by decide) _) hu) ra rb h g
 |Lt=>(obtain rfl:=zP hop;clear hop);exact YB (by exact qB (uD (by decide) _) hu) ra rb h g
 |Gt=>(obtain rfl:=zP hop;clear hop);exact YA ra rb h g
 |In=>
  (obtain rfl:=zP hop;clear hop)
  obtain⟨c,hm,h⟩:=Mine.rb h
  (obtain rfl:=jz h;clear h);exact Ge id (.inl ⟨rfl,rfl⟩) (by exact qB (uD (by decide) _) hu) (λe=>by cases e) ra rb hm g
 |NotIn=>
  (obtain rfl:=zP hop;clear hop)
  obtain⟨hn,h⟩:=QJ h;obtain⟨c,hm,h⟩:=Mine.rb h
  (obtain rfl:=jz h;clear h);exact Ge not (.inr ⟨rfl,rfl⟩) (by exact qB (uD (by decide) _) hu) (λ_=>by simpa using hn) ra rb hm g
 |_=>exact nn hop
end
inductive BD(f:Bool->D)(x d:D):Prop
 |mk(b:Bool)(e:x=.bool b)(h:d=f b)
theorem Vn(h:Vm x=.ok d):BD (λb=>.bool !b) x d:=by
 induction x using uG with
 |bool b=>(obtain rfl:=jz h;clear h);exact⟨b,rfl,rfl⟩
 |_=>exact ns h
theorem ZU:Vm x≠.ve:=by cases x<;>exact nofun
theorem Zw:JS x≠.ve:=by cases x<;>exact nofun
theorem US:Q3 x≠.ve:=by
 induction x using uG with
 |dict kvs=>exact jT B8 BC
 |_=>exact BC
theorem Tj{o:Un}{x:D}(h:un o x=.ve):False:=by
 induction o using Un.casesOn with
 |not=>exact ZU h
 |neg=>exact kH (λ_=>B8) h
 |len=>exact Zw h
 |int=>exact Cu (λ_=>DU EY λ_=>B8) h
 |keys=>exact US h
 |_=>exact ov h
section
variable{H:uP}{w:World}{zc:Heap}{G:List D}{cf:Nat->List D->R D}{n:Nat}{names:List (Str×NameKind)}{st:List VS}{b:Bool}{env:Env}
theorem C1(h:∀es k p,r≠.Set es k p):behindInMarks op r=false:=by
 induction r using v4 with
 |Set=>exact absurd rfl (h _ _ _)
 |_=>rfl
theorem P7(hn:∀es k p,r≠.Set es k p)
  (h:wpAny (model H w) A (eval l env) (λu s₁=>wpAny (model H w) A (eval r env) (λv s₂=>wpAny (model H w) A (y8 op u v) Q E s₂) E s₁) E s):
  wpAny (model H w) A (eval (.Compare l [op] [r] pos) env) Q E s:=
 wpAny_Compare1 h (C1 hn)
theorem VV(hop:HW op=some o)(hn:∀es k p,r≠.Set es k p)
  (ha:zH H w zc G cf n names st true env (eval l env) a)(hc:zH H w zc G cf n names st true env (eval r env) c):
  zH H w zc G cf n names st b env (eval (.Compare l [op] [r] pos) env) (.bin o a c):=
 BQ (W:=λA Q E u v s=>wpAny (model H w) A (y8 op u v) Q E s) (λ_ h=>P7 hn h) (λec ru rv hd g=>NE (by have:=ec.units;exact qB (uR (uV _ _) (by decide)) this) ec.handled hop ru rv hd (kr g)) ha hc
theorem C5(hn:∀es k p,r≠.Set es k p)
  (h:wpAny (model H w) A (eval (.Compare l [op] [r] pos) env) (λc s₃=>wpAny (model H w) A (truthy c) Q E s₃) E s):
  wpAny (model H w) A (xU (.Compare l [op] [r] pos) env whole) Q E s:=fun Γ p hΓ=>by
 have h':=h Γ p hΓ;have hm:=C1 (op:=op) hn;simp only[isTrue_Compare1,eval_Compare1,markedBehindIn_of_false hm,Sem.wp_bind',Sem.wp_holding,Sem.wp_cmd_standAt,Sem.wp_operate] at h' ⊢;exact Sem.wp_mono _ Γ _ (λa p₁ s₁ h₁=>Sem.wp_mono _ Γ _ (λb _ s₂ h₂=>Sem.wp_mono _ Γ _ (λc p₃ s₃ h₃=>h₃ Γ p₃ hΓ) (λ_ _ _ h'=>h') _ _ h₂) (λ_ _ _ h'=>h') _ _ h₁) (λ_ _ _ h'=>h') _ _ h'
theorem Kq(h:zH H w zc G cf n names st true env t pe)
  (hr:∀{A E s Q},wpAny (model H w) A t (λc s₃=>wpAny (model H w) A (truthy c) Q E s₃) E s->wpAny (model H w) A tb Q E s):CT H w zc G cf n names st env tb pe:=by
 intro P A fs s ρ Q E ec vo hok hve hns;refine hr (h P A fs s ρ _ E ec vo (λd v s' hd c r=>?_) hve (λhd=>hns (by rw[hd];rfl)));rw[hd] at hns;induction d using uG with
 |bool x=>
  rw[r.inv_bool];exact xI (hok x s' hd c)
 |_=>exact absurd rfl hns
theorem CS{x t:Sem Value}{o:Un}{a:PE}{W:uY->(Value->tX->Prop)->(Value->tX->Prop)->Value->tX->Prop}
  (hrule:∀{A E s Q P fs},EC zc P A fs n env s.heap->wpAny (model H w) A x (λu s₁=>W A Q E u s₁) E s->wpAny (model H w) A t Q E s)
  (hprim:∀{A:uY} {P:Addr->Prop} {fs:List Env} {Q E:Value->tX->Prop} {s:tX} {u:Value} {du d:D},EC zc P A fs n env s.heap->zo H w (λ_=>True) P s.heap u du->
   un o du=.ok d->(∀v s',Ch s s'->jG P s'.heap v d->Q v s')->W A Q E u s)
  (ha:zH H w zc G cf n names st true env x a):zH H w zc G cf n names st b env t (.un o a):=by
 intro P A fs s ρ Q E ec vo hok hve hns;simp only[Tn] at hok hve hns;refine hrule ec (ha P A fs s ρ _ E ec vo (λx v s₁ hx c1 rx=>?_) (λhx=>?_) (λhx=>hns (by rw[hx];rfl)))
 ·rw[hx] at hok hve hns;simp only[R.bind_ok] at hok hve hns;cases hd:un o x with
  |stuck=>exact absurd hd hns
  |ve=>exact(Tj hd).elim
  |ok d=>exact hprim (ec.keep c1.keep) rx hd λv' s' c3 r3=>hok d v' s' hd (c1.trans c3) (.rep r3)
 ·intro x s' he;exact hve (by rw[hx];rfl) x s' he
theorem V4{x:Expr}{pos:Pos}{a:PE}(ha:zH H w zc G cf n names st true env (eval x env) a):
  zH H w zc G cf n names st b env (eval (.UnaryOp .Not x pos) env) (.un .not a):=
 CS (W:=λA Q E u s=>wpAny (model H w) A (unaryOp .Not u) Q E s) (λ_ h=>UnaryOp_ h) (λ_ ru hd g=>by
  obtain⟨z,rfl,rfl⟩:=Vn hd;rw[ru.inv_bool];exact not_of (xI (g _ _ (Ch.refl _) (.bool _)))) ha
theorem V3{x:Expr}{pos:Pos}{a:PE}(ha:zH H w zc G cf n names st true env (eval x env) a):
  zH H w zc G cf n names st b env (eval (.UnaryOp .USub x pos) env) (.un .neg a):=
 CS (W:=λA Q E u s=>wpAny (model H w) A (unaryOp .USub u) Q E s) (λ_ h=>UnaryOp_ h) (λ_ ru hd g=>by
  obtain⟨i,rfl,hd⟩:=kT hd;clear hd
  (obtain rfl:=jz hd;clear hd)
  obtain⟨t,rfl⟩:=ru.inv_int;exact PyProof.Rows.neg_int (g _ _ (Ch.tok _) (.int _ _))) ha
theorem sN(h:R.bind x z9=.stuck):R.bind (R.bind x (un .not)) z9=.stuck:=by
 induction x using R.casesOn with
 |stuck=>rfl
 |ve=>exact nT h
 |ok d=>induction d using uG with
  |bool=>exact os h
  |_=>rfl
theorem Sy(ha:CT H w zc G cf n names st env (xU x env (eval x env)) a):
  CT H w zc G cf n names st env (xU (.UnaryOp .Not x pos) env whole) (.un .not a):=by
 intro P A fs s ρ Q E ec vo hok hve hns;simp only[Tn] at hok hve hns;refine PyProof.Rows.isTrue_not (ha P A fs s ρ _ E ec vo (λc s' hd ch=>?_) (λhd=>hve (by rw[hd];rfl)) (λhd=>hns ?_))
 ·exact hok (!c) s' (by rw[hd];rfl) ch
 ·exact sN hd
end
inductive A3{α β:Type}(R:α->β->Prop):List α->List β->Prop
 |nil:A3 R [] []
 |cons{a:α}{b:β}{as:List α}{bs:List β}:R a b->A3 R as bs->A3 R (a::as) (b::bs)
theorem A3.length{α β:Type}{R:α->β->Prop}{as:List α}{bs:List β}(r:A3 R as bs):as.length=bs.length:=by
 induction r with
 |nil=>rfl
 |cons _ _ ih=>exact congrArg (·+1) ih
section
variable{H:uP}{w:World}{zc:Heap}{G:List D}{cf:Nat->List D->R D}{n:Nat}{names:List (Str×NameKind)}{st:List VS}{b:Bool}{env:Env}
def X8(H:uP)(w:World)(zc:Heap)(G:List D)(cf:Nat->List D->R D)(n:Nat)(names:List (Str×NameKind))(st:List VS)(env:Env)(e:Expr)(pe:PE):Prop:=
 zH H w zc G cf n names st true env (eval e env) pe/\CT H w zc G cf n names st env (xU e env (eval e env)) pe
theorem AY(h:z9 d=.ok c):d=.bool c:=by
 cases d<;>first|(cases h;rfl)|exact ns h
theorem SD(ha:zH H w zc G cf n names st true env (eval x env) a)
  (hc:zH H w zc G cf n names st true env (eval (.BoolOp .And (e₂::rest) pos) env) c):zH H w zc G cf n names st b env (eval (.BoolOp .And (x::e₂::rest) pos) env) (.and_ a c):=by
 intro P A fs s ρ Q E ec vo hok hve hns;simp only[Tm] at hok hve hns;refine BoolOp_and (ha P A fs s ρ _ E ec vo (λd v s₁ hd c1 r1=>?_) (λhd=>hve (by rw[hd];rfl)) (λhd=>hns (by rw[hd];rfl)));rw[hd] at hok hve hns;simp only[R.bind_ok] at hok hve hns;cases ht:z9 d with
 |stuck=>rw[ht] at hns;exact absurd rfl hns
 |ve=>exact D5 ht
 |ok t=>
  have e:=AY ht;subst e;rw[ht] at hok hve hns;simp only[R.bind_ok] at hok hve hns;rw[r1.inv_bool];refine xI ?_;induction t using tZ with
  |false=>
   simp only[vQ,if_false] at hok ⊢;exact hok _ _ s₁ rfl c1 (.rep (.bool _))
  |true=>
   simp only[if_true] at hok hve hns ⊢;refine hc P A fs s₁ ρ _ E (ec.keep c1.keep) (vo.keep H w c1.keep) (λd2 v2 s₂ hd2 c2 r2=>?_) (λhd2 x s' he=>hve (by rw[hd2];rfl) x s' (he.after c1)) (λhd2=>hns (by rw[hd2];rfl));rw[hd2] at hok hve hns;simp only[R.bind_ok] at hok hve hns;cases ht2:z9 d2 with
   |stuck=>rw[ht2] at hns;exact absurd rfl hns
   |ve=>exact D5 ht2
   |ok t2=>
    have e:=AY ht2;subst e;rw[ht2] at hok;rw[r2.inv_bool];exact hok _ _ s₂ rfl (c1.trans c2) (.rep (.bool _))
theorem V5(ha:zH H w zc G cf n names st true env (eval x env) a)
  (hc:zH H w zc G cf n names st true env (eval (.BoolOp .Or (e₂::rest) pos) env) c):zH H w zc G cf n names st b env (eval (.BoolOp .Or (x::e₂::rest) pos) env) (.or_ a c):=by
 intro P A fs s ρ Q E ec vo hok hve hns;simp only[X1] at hok hve hns;refine BoolOp_or (ha P A fs s ρ _ E ec vo (λd v s₁ hd c1 r1=>?_) (λhd=>hve (by rw[hd];rfl)) (λhd=>hns (by rw[hd];rfl)));rw[hd] at hok hve hns;simp only[R.bind_ok] at hok hve hns;cases ht:z9 d with
 |stuck=>rw[ht] at hns;exact absurd rfl hns
 |ve=>exact D5 ht
 |ok t=>
  have e:=AY ht;subst e;rw[ht] at hok hve hns;rw[r1.inv_bool];refine xI ?_;induction t using tZ with
  |true=>
   exact hok _ _ s₁ rfl c1 (.rep (.bool _))
  |false=>
   refine hc P A fs s₁ ρ _ E (ec.keep c1.keep) (vo.keep H w c1.keep) (λd2 v2 s₂ hd2 c2 r2=>?_) (λhd2 x s' he=>hve (by rw[hd2];rfl) x s' (he.after c1)) (λhd2=>hns (by rw[hd2];rfl));rw[hd2] at hok hve hns;simp only[R.bind_ok] at hok hve hns;cases ht2:z9 d2 with
   |stuck=>rw[ht2] at hns;exact absurd rfl hns
   |ve=>exact D5 ht2
   |ok t2=>
    have e:=AY ht2;subst e;rw[ht2] at hok;rw[r2.inv_bool];exact hok _ _ s₂ rfl (c1.trans c2) (.rep (.bool _))
theorem OH(ha:CT H w zc G cf n names st env (xU x env (eval x env)) a)
  (hc:CT H w zc G cf n names st env (xU (.BoolOp .And rest pos) env whole) c):CT H w zc G cf n names st env (xU (.BoolOp .And (x::rest) pos) env whole) (.and_ a c):=by
 intro P A fs s ρ Q E ec vo hok hve hns;simp only[Tm] at hok hve hns;refine PyProof.Rows.isTrue_and (ha P A fs s ρ _ E ec vo (λt s₁ hd c1=>?_) (λhd=>hve (by rw[hd];rfl)) (λhd=>hns ?_))
 ·rw[hd] at hok hve hns;simp only[R.bind_ok,Tb] at hok hve hns;induction t using tZ with
  |false=>simp only[vQ,if_false] at hok ⊢;exact hok _ s₁ rfl c1
  |true=>
   simp only[if_true] at hok hve hns ⊢;refine hc P A fs s₁ ρ _ E (ec.keep c1.keep) (vo.keep H w c1.keep) (λt2 s₂ hd2 c2=>?_) (λhd2 x s' he=>hve (by rw[hd2];rfl) x s' (he.after c1)) (λhd2=>hns ?_)
   ·exact hok t2 s₂ (by rw[hd2];rfl) (c1.trans c2)
   ·exact mR hd2
 ·first|exact mR hd|exact mQ hd
theorem SA(ha:CT H w zc G cf n names st env (xU x env (eval x env)) a)
  (hc:CT H w zc G cf n names st env (xU (.BoolOp .Or rest pos) env whole) c):CT H w zc G cf n names st env (xU (.BoolOp .Or (x::rest) pos) env whole) (.or_ a c):=by
 intro P A fs s ρ Q E ec vo hok hve hns;simp only[X1] at hok hve hns;refine PyProof.Rows.isTrue_or (ha P A fs s ρ _ E ec vo (λt s₁ hd c1=>?_) (λhd=>hve (by rw[hd];rfl)) (λhd=>hns ?_))
 ·rw[hd] at hok hve hns;simp only[R.bind_ok,Tb] at hok hve hns;induction t using tZ with
  |true=>simp only[if_true] at hok ⊢;exact hok _ s₁ rfl c1
  |false=>
   simp only[vQ,if_false] at hok hve hns ⊢;refine hc P A fs s₁ ρ _ E (ec.keep c1.keep) (vo.keep H w c1.keep) (λt2 s₂ hd2 c2=>?_) (λhd2 x s' he=>hve (by rw[hd2];rfl) x s' (he.after c1)) (λhd2=>hns ?_)
   ·exact hok t2 s₂ (by rw[hd2];rfl) (c1.trans c2)
   ·exact mR hd2
 ·first|exact mR hd|exact mQ hd
theorem OG(ha:CT H w zc G cf n names st env (xU x env (eval x env)) a):
  CT H w zc G cf n names st env (xU (.BoolOp .And [x] pos) env whole) a:=by
 intro P A fs s ρ Q E ec vo hok hve hns;refine PyProof.Rows.isTrue_and (ha P A fs s ρ _ E ec vo (λt s₁ hd c1=>?_) hve hns);induction t using tZ with
 |false=>exact hok _ s₁ hd c1
 |true=>exact isTrue_and_nil (hok _ s₁ hd c1)
theorem Sz(ha:CT H w zc G cf n names st env (xU x env (eval x env)) a):
  CT H w zc G cf n names st env (xU (.BoolOp .Or [x] pos) env whole) a:=by
 intro P A fs s ρ Q E ec vo hok hve hns;refine PyProof.Rows.isTrue_or (ha P A fs s ρ _ E ec vo (λt s₁ hd c1=>?_) hve hns);induction t using tZ with
 |true=>exact hok _ s₁ hd c1
 |false=>exact isTrue_or_nil (hok _ s₁ hd c1)
theorem LK(z:A3 (X8 H w zc G cf n names st env) vs es):∀{pe:PE},AT es=some pe->X8 H w zc G cf n names st env (.BoolOp .And vs pos) pe:=by
 induction z with
 |nil=>intro pe h;exact nn h
 |cons h1 r ih=>
  intro pe h;induction r using A3.casesOn with
  |nil=>(obtain rfl:=zP h;clear h);exact⟨λP A fs s ρ Q E ec vo hok hve hns=>BoolOp_one (h1.1 P A fs s ρ Q E ec vo hok hve hns),OG h1.2⟩
  |cons h2 r=>
   obtain⟨q,hr,h⟩:=ob (by rw[<-Option.map_eq_bind];exact h)
   (obtain rfl:=zP h;clear h)
   have ih:=ih hr;exact⟨SD h1.1 ih.1,OH h1.2 ih.2⟩
theorem OM(z:A3 (X8 H w zc G cf n names st env) vs es):∀{pe:PE},Cw es=some pe->X8 H w zc G cf n names st env (.BoolOp .Or vs pos) pe:=by
 induction z with
 |nil=>intro pe h;exact nn h
 |cons h1 r ih=>
  intro pe h;induction r using A3.casesOn with
  |nil=>(obtain rfl:=zP h;clear h);exact⟨λP A fs s ρ Q E ec vo hok hve hns=>BoolOp_one (h1.1 P A fs s ρ Q E ec vo hok hve hns),Sz h1.2⟩
  |cons h2 r=>
   obtain⟨q,hr,h⟩:=ob (by rw[<-Option.map_eq_bind];exact h)
   (obtain rfl:=zP h;clear h)
   have ih:=ih hr;exact⟨V5 h1.1 ih.1,SA h1.2 ih.2⟩
def Ca(H:uP)(w:World)(P:Addr->Prop)(h:Heap)(vs:List Value)(ds:List D):Prop:=A3 (zo H w P P h) vs ds
theorem Ca.keep(k:zx h h')(r:Ca H w P h vs ds):Ca H w P h' vs ds:=by
 unfold Ca at *;induction r with
 |nil=>exact .nil
 |cons a _ ih=>exact .cons (a.keep H w k) ih
theorem tL(h:(a||b)=false):a=false:=by cases a<;>first|rfl|exact tf h
theorem tM(h:(a||b)=false):b=false:=by cases a<;>first|exact h|exact tf h
theorem Ca.repAll(r:Ca H w P h vs ds):ds.any isDict=false->zk P h vs ds:=by
 unfold Ca at r;induction r with
 |nil=>intro _;exact .nil
 |cons a _ ih=>intro hd;exact .cons (a.toRep H w (tL hd)) (ih (tM hd))
def dS(H:uP)(w:World)(zc:Heap)(G:List D)(cf:Nat->List D->R D)(n:Nat)(names:List (Str×NameKind))(st:List VS)(env:Env)(t:Sem (List Value))(es:PEs):Prop:=
 ∀(P:Addr->Prop) (A:uY) (fs:List Env) (s:tX) (ρ:zg) (Q:List Value->tX->Prop) (E:Value->tX->Prop),EC zc P A fs n env s.heap->Np H w env names st ρ P s.heap->
  (∀ds vs s',evs G cf es ρ=.ok ds->Ch s s'->Ca H w P s'.heap vs ds->Q vs s')->
  (evs G cf es ρ=.ve->∀x s',Bn fs s x s'->E x s')->evs G cf es ρ≠.stuck->wpAny (model H w) A t Q E s
def zK(e:Expr):Prop:=∀x p,e≠.Starred x p
theorem zD(h:zK e):zal (e::rest) env=(false,eval e env)::zal rest env:=by
 induction e using v4 with
 |Starred=>exact absurd rfl (h _ _)
 |_=>rfl
def bZ(H:uP)(w:World)(zc:Heap)(G:List D)(cf:Nat->List D->R D)(n:Nat)(names:List (Str×NameKind))(st:List VS)(env:Env)(e:Expr)(pe:PE):Prop:=
 zK e/\zH H w zc G cf n names st false env (eval e env) pe
theorem Bg(z:A3 (bZ H w zc G cf n names st env) as es):dS H w zc G cf n names st env (spliced (backTo pos (zal as env))) (kl es):=by
 induction z with
 |nil=>
  intro P A fs s ρ Q E ec vo hok hve hns;exact zak (hok [] [] s rfl (Ch.refl s) .nil)
 |cons h1 r ih=>
  intro P A fs s ρ Q E ec vo hok hve hns;rw[zD h1.1];simp only[kl,IW] at hok hve hns;refine xL (h1.2 P A fs s ρ _ E ec vo (λd v s₁ hd c1 r1=>?_) (λhd=>hve (by rw[hd];rfl)) (λhd=>hns (by rw[hd];rfl)));rw[hd] at hok hve hns;refine ih P A fs s₁ ρ _ E (ec.keep c1.keep) (vo.keep H w c1.keep) (λds vs s₂ hds c2 r2=>?_) (λhds x s' he=>hve (by rw[hds];rfl) x s' (he.after c1)) (λhds=>hns (by rw[hds];rfl));exact hok (d::ds) (v::vs) s₂ (by rw[hds];rfl) (c1.trans c2) (.cons (r1.keep H w c2.keep) r2)
theorem Dh:∀{ds:List D},evs G cf (kl es) ρ=.ok ds->ds.length=es.length:=by
 induction es with
 |nil=>
  intro ds h;simp only[kl,bD] at h;(obtain rfl:=jz h;clear h);rfl
 |cons a r ih=>
  intro ds h;skip;simp only[kl,IW] at h;cases h1:ev G cf a ρ with
  |ok x=>
   cases h2:evs G cf (kl r) ρ with
   |ok xs=>rw[h1,h2] at h;(obtain rfl:=jz h;clear h);simp[ih h2]
   |ve=>rw[h1,h2] at h;exact nv h
   |stuck=>rw[h1,h2] at h;exact ns h
  |ve=>rw[h1] at h;exact nv h
  |stuck=>rw[h1] at h;exact ns h
theorem Ev(h:m<=1000):m<=zv/\m<=yD:=by
 have e1:zv=1048576:=by decide
 have e2:yD=16777216:=by decide
 exact⟨qA h (by decide),qA h (by decide)⟩
set_option tactic.hygienic true in
theorem V6(h:A3 (bZ H w zc G cf n names st env) as es)(hz:as.length<=1000):
  zH H w zc G cf n names st b env (eval (.Tuple as k pos) env) (.tup (kl es)):=by
 intro P A fs s ρ Q E ec vo hok hve hns;simp only[bG] at hok hve hns;refine wpAny_Tuple (Bg h P A fs s ρ _ E ec vo (λds vs s₁ hd c1 r1=>?_) (λhd=>hve (by rw[hd];rfl)) (λhd=>hns (by rw[hd];rfl)));have hl:ds.length=as.length:=(Dh hd).trans h.length.symm;have hv:vs.length=ds.length:=A3.length r1;have hs:=Ev hz;refine⟨by exact(hv.trans hl)▸hs.2,?_⟩;rw[hd] at hok hns;simp only[R.bind_ok] at hok hns;split at hns
 ·exact absurd rfl hns
 ·rename_i hdi;rw[if_neg hdi] at hok;refine hok _ _ _ rfl (c1.trans (Ch.of s₁.toks (zx.push _ _))) (.rep ?_);exact C8 (ec.keep c1.keep).pnew (by exact Ca.repAll r1 (by simpa using hdi)) (by exact hl▸hs.1)
set_option tactic.hygienic true in
theorem SJ(h:A3 (bZ H w zc G cf n names st env) as es)(hz:as.length<=1000):
  zH H w zc G cf n names st b env (eval (.List as pos) env) (.list (kl es)):=by
 intro P A fs s ρ Q E ec vo hok hve hns;simp only[WB] at hok hve hns;refine wpAny_List (Bg h P A fs s ρ _ E ec vo (λds vs s₁ hd c1 r1=>?_) (λhd=>hve (by rw[hd];rfl)) (λhd=>hns (by rw[hd];rfl)));have hl:ds.length=as.length:=(Dh hd).trans h.length.symm;have hv:vs.length=ds.length:=A3.length r1;have hs:=Ev hz;refine⟨by exact(hv.trans hl)▸hs.2,?_⟩;rw[hd] at hok hns;simp only[R.bind_ok] at hok hns;split at hns
 ·exact absurd rfl hns
 ·rename_i hdi;rw[if_neg hdi] at hok;refine hok _ _ _ rfl (c1.trans (Ch.of s₁.toks (zx.push _ _))) (.rep ?_);exact kY (ec.keep c1.keep).pnew (by exact Ca.repAll r1 (by simpa using hdi)) (by exact hl▸hs.1)
variable{F:List zL}{K:List (Str×D)}{mg mb:Str->Option Value}
def Dw(H:uP)(w:World)(F:List zL)(mg:Str->Option Value)(zc:Heap)(cf:Nat->List D->R D)(n:Nat):Prop:=
 ∀(i:Nat) (fi:zL) (fa:Addr),F[i]?=some fi->mg fi.name=some (.ref fa)->∀(P:Addr->Prop) (A:uY) (fs:List Env) (env:Env) (s:tX) (vs:List Value) (ds:List D) (Q E:Value->tX->Prop),
  EC zc P A fs n env s.heap->Ca H w P s.heap vs ds->
  (∀d v s',cf i ds=.ok d->Ch s s'->zo H w P P s'.heap v d->Q v s')->(cf i ds=.ve->∀x s',Bn fs s x s'->E x s')->cf i ds≠.stuck->
  wpAny (model H w) A (call (.ref fa) vs) Q E s
set_option tactic.hygienic true in
theorem Hl{cx:Cx}{x:Str}{i:Nat}(h:cx.fun? x=some i):cx.names.lookup x=some .globalImplicit/\zE x=true/\cx.funs[i]?=some x:=by
 unfold Cx.fun? at h;split at h
 ·rename_i hg;obtain⟨hg1,hg2⟩:=Cj hg;obtain⟨hi,hx⟩:=List.findIdx?_eq_some_iff_getElem.mp h;exact⟨hg1,hg2,by rw[uA hi];have:=hx.1;simp at this;rw[this]⟩
 ·exact nn h
theorem SE(B:kq F K mg mb zc){cx:Cx}(hF:cx.funs=F.map (·.name))(hL:CY cx env)(C:Dw H w F mg zc cf n){f:Str}{p pos:Pos}{i:Nat}{a:Expr}{as:List Expr}{es:List PE}(hi:cx.fun? f=some i)
  (h:A3 (bZ H w zc G cf n names st env) (a::as) es):zH H w zc G cf n names st b env (eval (.Call (.Name f p) (a::as) [] pos) env) (.call i (kl es)):=by
 intro P A fs s ρ Q E ec vo hok hve hns;simp only[WA] at hok hve hns;obtain⟨hg1,hg2,hx⟩:=Hl hi;rw[hF,v6] at hx;cases hfi:F[i]? with
 |none=>rw[hfi] at hx;exact nn hx
 |some fi=>
  rw[hfi] at hx;have e:fi.name=f:=by simpa using hx
  obtain⟨fa,o,pm,cd,doc,hm,ho,hdat,hcd⟩:=B.fn i fi hfi;show wpAny (model H w) A (do callWith pos (<-eval (.Name f p) env) [] (backTo pos (zal (a::as) env)) (backToKw pos (keywordEach [] env))) Q E s;refine tY (B.load ec.stays ec.kind ec.globals (hL.glob f hg1) hg2 (by rw[<-e];exact hm) ?_);have hst:zK a:=by cases h with|cons h1 _=>exact h1.1
  refine callWith_def_at (h':=zc) ho hdat (Bg h P A fs s ρ _ E ec vo (λds vs s₁ hd c1 r1=>⟨(ec.keep c1.keep).stays _ _ ho,?_⟩) (λhd=>hve (by rw[hd];rfl)) (λhd=>hns (by rw[hd];rfl))) (zD hst);rw[hd] at hok hve hns;exact C i fi fa hfi hm P A fs env s₁ vs ds Q E (ec.keep c1.keep) r1 (λd v s' h1 h2 h3=>hok d v s' h1 (c1.trans h2) (h3.mono H w (λa x=>by cases b<;>first|exact x|trivial) (λ_ x=>x) (zx.refl _)))
   (λh1 x s' h2=>hve h1 x s' (h2.after c1)) hns
end
theorem kc:v8 x=true↔∀c∈x.cps.toList,c<0x110000:=by
 unfold v8;obtain⟨⟨l⟩⟩:=x;simp
theorem KA(x:Str)(i j:Nat):(sub x i j).cps.toList=(x.cps.toList.drop i).take (j - i):=by
 unfold sub;simp[List.extract_eq_take_drop]
theorem OY(h:v8 x=true):v8 (sub x i j)=true:=by
 rw[kc] at *;intro c hc;rw[KA] at hc;exact h c (List.mem_of_mem_drop (y1 hc))
theorem Wl{x y:Str}(h:x.cps.toList=y.cps.toList):x=y:=by
 obtain⟨⟨l⟩⟩:=x;obtain⟨⟨m⟩⟩:=y;simp at h;rw[h]
theorem GV(x:Str)(l u:Option Int):Txt.slice x l u=StrLaws.sliceText x l u:=rfl
theorem LJ{x:Str}{i j:Int}(h0:0<=i)(h1:i<=j)(h2:j<=x.length):Txt.slice x (some i) (some j)=sub x i.toNat j.toNat:=by
 have hl:(x.length:Int)=x.cps.toList.length:=by rfl
 rw[GV,StrLaws.sliceText_plain ⟨h0,h1,by assumption⟩];apply Wl;rw[KA];have:(j - i).toNat=j.toNat - i.toNat:=by
  obtain⟨a,rfl⟩:=zab h0;obtain⟨b,rfl⟩:=zab (zaJ h0 h1);exact Int.toNat_sub b a
 simp[this]
section
variable{H:uP}{w:World}{A:uY}{E:Value->tX->Prop}{s:tX}{P T T':Addr->Prop}{Q:Value->tX->Prop}{a b:Value}{da db d:D}
theorem RL(h:MO x=some i):PySem.intText? x=some i/\x.length<=640:=by
 rcases O9 h with⟨rfl,h⟩|⟨_,h⟩
 ·(obtain rfl:=zP h;clear h);exact⟨by decide +kernel,by decide +kernel⟩
 rcases O9 h with⟨rfl,h⟩|⟨_,h⟩
 ·(obtain rfl:=zP h;clear h);exact⟨by decide +kernel,by decide +kernel⟩
 rcases O9 h with⟨rfl,h⟩|⟨_,h⟩
 ·(obtain rfl:=zP h;clear h);exact⟨by decide +kernel,by decide +kernel⟩
 replace h:=Ci h;obtain⟨rfl,h⟩:=h
 (obtain rfl:=zP h;clear h);exact⟨by decide +kernel,by decide +kernel⟩
theorem N2(ra:zo H w T P s.heap a da)(h:fP da=.ok d)(g:z0 P d Q s):wpAny (model H w) A (call (.type "int") [a]) Q E s:=by
 obtain⟨x,rfl,h⟩:=Cv h;clear h;obtain⟨i,h1,h⟩:=Mine.rb h
 (obtain rfl:=jz h;clear h)
 obtain⟨t,rfl,_⟩:=ra.inv_str;obtain⟨k1,k2⟩:=RL (jQ h1);exact PySem.W.KIN.call_text k1 k2 (g.here (.int _ _) _)
theorem OD(hs:s.heap.IsSlice sl l u none)(hz:x.length<=zv)(hy:Txt.slice x (l.map (·.1)) (u.map (·.1))=y)(hok:v8 y=true)(g:z0 P (.str y) Q s):
  wpAny (model H w) A (getItem (.str x t) (.ref sl)) Q E s:=by
 refine wpAny_getItem_str_slice hs rfl ?_;refine post_val_or_str ⟨?_,λt' k=>?_⟩
 ·exact qA (Txt.slice_le x _ _) (qA hz CH)
 ·have e:Txt.slice x (l.map (·.1)) (u.map (·.1))=y:=hy;have e2:(Txt.slice x (l.map (·.1)) (u.map (·.1))).length<=zv:=qA (Txt.slice_le x _ _) hz;rw[e] at e2;show Q (.str (Txt.slice x (l.map (·.1)) (u.map (·.1))) t') _;rw[e];exact g.here (.str _ _ hok e2) _
theorem Wk(h:lK d=some i):d=.str i:=by
 induction d using uG with
 |str j=>(obtain rfl:=zP h;clear h);rfl
 |_=>exact nn h
theorem Dz:∀{ts:List Str},A8 ys=some ts->ys=ts.map .str:=by
 induction ys with
 |nil=>intro a h;(obtain rfl:=zP h;clear h);rfl
 |cons d r ih=>
  intro a h;replace h:=ob h;obtain⟨i,h1,h⟩:=h;replace h:=ob h;obtain⟨l,h2,h⟩:=h
  (obtain rfl:=zP h;clear h);rw[Wk h1,ih h2];rfl
inductive dR(vs:List Value)(ts:List Str):Prop
 |mk(l:List (Str×Tok))(e:vs=zbg l)(e2:l.map (·.1)=ts)(h:∀x∈ts,v8 x=true/\x.length<=zv)
theorem E3:∀{vs:List Value},zk P h vs (ts.map .str)->dR vs ts:=by
 induction ts with
 |nil=>intro vs r;cases r;exact⟨[],rfl,rfl,nofun⟩
 |cons t ts ih=>
  intro vs r;cases r with
  |cons a r=>
   cases a with
   |str x tk h1 h2=>
    obtain⟨l,e1,e2,e3⟩:=ih r;refine⟨(t,tk)::l,by rw[e1];rfl,congrArg (t::·) e2,λx hx=>?_⟩;cases hx with
    |head=>exact⟨h1,h2⟩
    |tail _ hx=>exact e3 x hx
theorem Gv(hx:v8 x=true):∀{ts:List Str},(∀y∈ts,v8 y=true)->v8 (wK x ts)=true
 |[],_=>by rw[show wK x []=Str.empty from by unfold wK;rfl,kc];trivial
 |[y],h=>by rw[show wK x [y]=y from by unfold wK;rfl];exact h y (.head _)
 |y::z::r,h=>by
  show v8 (y++x++wK x (z::r))=true;exact k5 (k5 (h y (.head _)) hx) (Gv hx λu hu=>h u (.tail _ hu))
theorem Lo(ra:zo H w T P s.heap a da)(rb:zo H w T' P s.heap b db)(h:JM da db=.ok d)(g:z0 P d Q s):wpAny (model H w) A (call (.builtin "str.join") [a,b]) Q E s:=by
 obtain⟨x,rfl,h⟩:=Cv h;clear h;obtain⟨ys,rfl,h⟩:=Do h;clear h;replace h:=Mine.rb h;obtain⟨ts,hts,h⟩:=h;replace h:=GM h;obtain⟨hz,h⟩:=h
 (obtain rfl:=jz h;clear h)
 have e:=Dz (jQ hts);subst e;obtain⟨t,rfl,h1,h2⟩:=ra.inv_str;obtain⟨l,ol,vl,nl,rfl,hl,cl,_,dl,rl,_⟩:=rb.inv_list;obtain⟨q,e1,e2,e3⟩:=E3 rl;have e4:vl=(zbg q).toArray:=by rw[<-e1]
 refine SC.join (by rw[<-e4];exact Ah hl cl dl) e2 ?_ λt' k=>g.here (.str _ _ ?_ ?_) _
 ·unfold JoinOk;rw[StrLaws.joinTotal];have:=qA hz CH;unfold Builtin.Str.tooLong;simp;assumption
 ·show v8 (zbC x ts)=true;rw[xA];exact Gv h1 λy hy=>(e3 y hy).1
 ·show(zbC x ts).length<=zv;rw[xA];exact qA (StrLaws.join_length_le x ts) hz
open Builtin Builtin.Str in
theorem Kw(hy:(y.length==0)=false)(hsz:x.length<=yD)(hsz2:(partsBetween x (occurrences x y 0 x.length (x.length+1)) y.length).length<=yD)
  (hq:∀l k,l.map (·.1)=zag x y->Q (.ref s.heap.objs.size) {s with heap:=s.heap.push {cls:=.type "list",data:=.seq (zbg l).toArray},toks:=k}):
  wpAny (model H w) A (call (.builtin "str.split") [.str x t,.str y u]) Q E s:=by
 cases h1:(decide (x.length<y.length)||decide (Builtin.Str.strKind x<Builtin.Str.strKind y))
 ·cases hf:(occurrences x y 0 x.length (x.length+1)).isEmpty
  ·refine call_meets zaj (yP _ _ _) zaX (zaP _ _) (meets_str_split_sep x y t u h1 hy hf hsz hsz2) ?_;show wants Q E _ {s with toks:=_,heap:=s.heap.push {cls:=.type "list",data:=.seq (strsFrom s.toks (partsBetween x (occurrences x y 0 x.length (x.length+1)) y.length)).toArray}}
   rw[strsFrom_eq];exact hq (numbered s.toks _) _ ((numbered_texts _ _).trans ((if_neg (ne_true_of_eq_false h1)).trans (if_neg (ne_true_of_eq_false hf))).symm)
  ·exact call_meets zaj (yP _ _ _) zaX (zaP _ _) (meets_str_split_not_found x y t u h1 hy hf)
    (hq [(x,t)] s.toks ((if_neg (ne_true_of_eq_false h1)).trans (if_pos hf)).symm)
 ·exact call_meets zaj (yP _ _ _) zaX (zaP _ _) (meets_str_split_cannot_occur x y t u h1)
   (hq [(x,t)] s.toks (if_pos h1).symm)
theorem JN(y p q:Str)(r:List Str):wK y (p::q::r)=p++y++wK y (q::r):=rfl
theorem QV(y p:Str):wK y [p]=p:=rfl
theorem J0:∀{ps:List Str} {p:Str},p∈ps->(∀c∈p.cps.toList,c∈(wK y ps).cps.toList)/\p.length<=(wK y ps).length
 |[],p,h=>by exact absurd h vJ
 |[q],p,h=>by
  have e:p=q:=by simpa using h
  (replace e:=vR e;subst e)
  rw[QV];exact⟨λ_ h=>h,uK _⟩
 |q::r::t,p,h=>by
  rw[JN]
  (rcases List.mem_cons.mp h with zr25|h<;>(try (replace zr25:=vR zr25;subst zr25)))
  ·refine⟨λc hc=>?_,?_⟩
   ·simp[yQ];exact .inl (by simpa using hc)
   ·simp only[za4];rw[vD];exact uV _ _
  ·have ih:=J0 (y:=y) h;refine⟨λc hc=>?_,?_⟩
   ·have:=ih.1 c hc;simp[yQ];exact .inr (.inr (by simpa using this))
   ·simp only[za4];have:=ih.2;exact qA this (vY _ _)
theorem Kf(hy:y.length=1):∀{ps:List Str},ps.length<=(wK y ps).length+1
 |[]=>by simp
 |[q]=>by exact zbd _
 |q::r::t=>by
  have ih:=Kf hy (ps:=r::t);rw[JN];simp only[za4,vB] at *;lia
theorem Sj:(∀x∈l.map (·.1),v8 x=true/\x.length<=zv)->zk P h (zbg l) ((l.map (·.1)).map .str):=by
 induction l with
 |nil=>
  intro _;exact .nil
 |cons zhd r ih=>
  obtain⟨x,t⟩:=zhd;intro hx;exact .cons (.str x t (hx x (.head _)).1 (hx x (.head _)).2) (ih λy hy=>hx y (.tail _ hy))
open Builtin Builtin.Str in
theorem Hz(x:Str):∀(cuts:List Nat) (w a:Nat),(StrLaws.partsFrom x w a cuts).length=cuts.length+1
 |[],w,a=>by rfl
 |c::r,w,a=>by
  show(strSub x a c::StrLaws.partsFrom x w (c+w) r).length=_;rw[vB,Hz x r];rfl
theorem Kx(hP:Ae P s.heap)(ra:zo H w T P s.heap a da)(rb:zo H w T' P s.heap b db)(h:Ex da db=.ok d)(g:z0 P d Q s):wpAny (model H w) A (call (.builtin "str.split") [a,b]) Q E s:=by
 obtain⟨x,rfl,h⟩:=Cv h;clear h;obtain⟨y,rfl,h⟩:=Cv h;clear h;replace h:=GM h;obtain⟨hc,h⟩:=h
 (obtain rfl:=jz h;clear h)
 obtain⟨t,rfl,h1,h2⟩:=ra.inv_str;obtain⟨u,rfl,h3,h4⟩:=rb.inv_str;have e1:zv=1048576:=by decide
 have e2:yD=16777216:=by decide
 refine Kw (by simp[hc.1]) (qA h2 CH) ?_ λl k hl=>?_
 ·rw[StrLaws.partsBetween_eq,Hz];have:=StrLaws.occ_length_le x y 0 x.length (x.length+1);exact qA (uL (qA this (Nat.succ_le_of_lt hc.2))) (by decide)
 ·refine g _ _ k (zx.push _ _) ?_;have hj:=StrLaws.join_split x y;have hx:∀p∈l.map (·.1),v8 p=true/\p.length<=zv:=by
   rw[hl];intro p hp;have:=J0 (y:=y) hp;rw[hj] at this;exact⟨kc.mpr λc hc'=>kc.mp h1 c (this.1 c hc'),qA this.2 h2⟩
  have r:=Sj (P:=P) (h:=s.heap) hx;rw[hl] at r;refine kY hP (r) ?_;have:=Kf hc.1 (ps:=zag x y);rw[hj] at this;simp;exact qA this hc.2
end
section
variable{H:uP}{w:World}{A:uY}{E:Value->tX->Prop}{s:tX}{P T T' T₂:Addr->Prop}{Q:Value->tX->Prop}{a b c:Value}{da db dc d:D}
noncomputable def QU(x:Str):Value->Bool
 |.str y _=>y==x
 |_=>false
theorem JG(ra:zo H w T P s.heap a da)(rb:zo H w T' P s.heap b db)(h:Ig da db=.ok d)(g:z0 P d Q s):wpAny (model H w) A (call (.builtin "list.index") [a,b]) Q E s:=by
 obtain⟨xs,rfl,h⟩:=Do h;clear h;obtain⟨y,rfl,h⟩:=Cv h;clear h;replace h:=Mine.rb h;obtain⟨ts,hts,h⟩:=h;replace h:=GM h;obtain⟨hc,h⟩:=h
 (obtain rfl:=jz h;clear h)
 have e:=Dz (jQ hts);subst e;obtain⟨u,rfl,_⟩:=rb.inv_str;obtain⟨l,ol,vl,nl,rfl,hl,cl,_,dl,rl,hz⟩:=ra.inv_list;obtain⟨q,e1,e2,e3⟩:=E3 rl;obtain⟨cls,dd,data,sl⟩:=ol;simp only at cl dl;subst cl dl;have e4:vl=(zbg q).toArray:=by rw[<-e1]
 have hn:vl.size=ts.length:=by simpa using jc rl
 have hat:∀(j:Nat) (hj:j<vl.size),QU y vl[j]=(ts[j]'(hn▸hj)==y):=by
  intro j hj;have hq:j<q.length:=by rw[<-e2] at hn;simp at hn;exact hn▸hj
  have e5:vl[j]?=some (.str q[j].1 q[j].2):=by
   rw[e4];simp[zbg,hq]
  rw[zaI hj] at e5;have e6:=wZ e5;rw[e6];have e7:ts[j]'(by exact hn▸hj)=q[j].1:=by subst e2;simp
  rw[e7];rfl
 have hm:y∈ts:=by simpa using hc
 have hj:ts.idxOf y<ts.length:=List.idxOf_lt_length_iff.mpr hm;have e8:zv=1048576:=by decide
 have e9:(2:Int) ^ 63=9223372036854775808:=by decide
 simp at hz;refine call_meets PySem.F.slot_list_index ⟨_,hl,rfl⟩ PySem.F.entry_list_index (PySem.F.args_list_index_2 _ _)
  (PySem.SeqAt.list_indexAt l vl nl dd sl (.str y u) (QU y) (ts.idxOf y) (hn▸hj) (by exact Int.lt_of_lt_of_le (Int.ofNat_lt.mpr (qD hj hz)) (by decide)) ?_ ?_) ⟨hl,λv hv=>?_,g.here (.int _ _) _⟩
 ·rw[hat _ (by exact hn▸hj)]
  simpa using List.getElem_idxOf hj
 ·intro j hjs hlt;rw[hat j hjs];have:=List.not_of_lt_findIdx hlt;exact this
 ·rw[e4] at hv;simp[zbg] at hv;obtain⟨x',t',_,rfl⟩:=hv;exact PySem.SeqAt.EqAt.str_str _ _ _ _
theorem UB(hu:A.units+2<cLine)(rb:zo H w T' P s.heap b (.tuple xs))(hk:QS xs=true)(r:zS H w P s.heap x kvs)(hkd:(kvs.all λkv=>zX kv.1 (.tuple xs))=true)(rc:jG P s.heap c dc)(g:z0 P ((jY kvs (.tuple xs)).getD dc) Q s):wpAny (model H w) A (call (.builtin "dict.get") [.ref x,b,c]) Q E s:=by
 obtain⟨i,j,rfl,_⟩:=Fu hk;obtain⟨kb,ok,vk,nk,rfl,_,hok,cok,dok,rk,_⟩:=rb.inv_tuple;obtain⟨l,m,q⟩:=r.tup hkd;refine call_meetsIn PySem.F.slot_dict_get m.typeIs PySem.F.entry_dict_get (PySem.F.args_dict_get_3 _ _ _) (meetsH_dict_get_default (tupleKind (xT H w)) x kb r.1 c) ⟨tupleKind_room_in1 (by exact qC ‹_›),[i,j],l,CI hok cok dok rk,m,?_⟩;rcases q.get i j with⟨e1,e2⟩|⟨ka,v,d',e1,e2,rv⟩
 ·rw[e1];rw[e2] at g;exact g.here rc _
 ·rw[e1];rw[e2] at g;exact g.here rv _
theorem NW(hu:A.units+2<cLine)(ra:zo H w T P s.heap a da)(rb:zo H w T' P s.heap b db)(rc:zo H w P P s.heap c dc)(h:Hm da db dc=.ok d)(g:z0 P d Q s):
  wpAny (model H w) A (call (.builtin "dict.get") [a,b,c]) Q E s:=by
 induction da using uG with
 |dict kvs=>
  replace h:=GM h;obtain⟨hk,h⟩:=h
  (obtain rfl:=jz h;clear h)
  have rc':=rc.toRep H w (iN (z7 (jg hk)));obtain⟨x,rfl,r⟩:=ra.inv_dict;induction db using uG with
  |tuple xs=>exact UB hu rb (jg (jg hk)) r (z7 hk) rc' g
  |_=>exact ff hk
 |_=>exact ns h
end
theorem PA:wP (uQ "len")=some (.builtin "len"):=by decide +kernel
theorem Pz:wP (uQ "int")=some (.type "int"):=by decide +kernel
theorem G7:wP (uQ "bool")=some (.type "bool"):=by decide +kernel
theorem PB:wP (uQ "max")=some (.builtin "max"):=by decide +kernel
theorem PC:wP (uQ "min")=some (.builtin "min"):=by decide +kernel
theorem G8:wP (uQ "type")=some (.type "type"):=by decide +kernel
theorem KY:wP (uQ "range")=some (.type "range"):=by decide +kernel
theorem Jd:wP (uQ "sorted")=some (.builtin "sorted"):=by decide +kernel
theorem L9:wP (uQ "ValueError")=some (.type "ValueError"):=by decide +kernel
section
variable{H:uP}{w:World}{zc:Heap}{G:List D}{cf:Nat->List D->R D}{n:Nat}{names:List (Str×NameKind)}{st:List VS}{b:Bool}{env:Env}{F:List zL}{K:List (Str×D)}{mg mb:Str->Option Value}
theorem Bv{cx:Cx}{x:Str}{nm:String}(h:cx.isB x nm=true):cx.names.lookup x=some .globalImplicit/\zE x=true/\x=uQ nm:=by
 unfold Cx.isB at h;simp only[uU,beq_iff_eq] at h;obtain⟨h1,h2⟩:=Cj h.1;exact⟨h1,h2,h.2⟩
theorem Db(B:kq F K mg mb zc){cx:Cx}(hL:CY cx env){nm:String}{f:Str}(hf:cx.isB f nm=true){fv:Value}(hb:wP (uQ nm)=some fv)(hm:uQ nm∈jH)(hfv:(∃id,fv=.builtin id)\/∃X,fv=.type X)
  {A:uY}{E:Value->tX->Prop}{s:tX}{x:Expr}{p pos:Pos}{Q:Value->tX->Prop}(hs:zc.StaysIn s.heap)(hk:env.scope.kind=.function)(hg:env.globals=w5)(hbi:env.builtins=wM)(hx:zK x)
  (h:wpAny (model H w) A (eval x env) (λu s₁=>wpAny (model H w) A (call fv [u]) Q E s₁) E s):
  wpAny (model H w) A (eval (.Call (.Name f p) [x] [] pos) env) Q E s:=by
 obtain⟨h1,h2,rfl⟩:=Bv hf;show wpAny (model H w) A (do callWith pos (<-eval (.Name (uQ nm) p) env) [] (backTo pos (zal [x] env)) (backToKw pos (keywordEach [] env))) Q E s;refine tY (B.loadB hs hk hg hbi (hL.glob _ h1) h2 hm hb ?_);rw[zD hx];have hsp:wpAny (model H w) A (evalArgs fv true ((false,eval x env)::backTo pos (zal [] env)) []) (λa s₁=>wpAny (model H w) A (call fv ([]++a.pos) a.kw) Q E s₁) E s:=
  evalArgs_plain (xL (vI h (λu s₁ h₁=>zak h₁) λ_ _ e=>e))
 rcases hfv with⟨id,rfl⟩|⟨X,rfl⟩
 ·exact zaz rfl hsp
 ·exact PyProof.Rows.callWith_type rfl hsp
theorem Pr(B:kq F K mg mb zc){cx:Cx}(hL:CY cx env){nm:String}{f:Str}(hf:cx.isB f nm=true){id:String}(hb:wP (uQ nm)=some (.builtin id))(hm:uQ nm∈jH)
  {A:uY}{E:Value->tX->Prop}{s:tX}{x y:Expr}{p pos:Pos}{Q:Value->tX->Prop}(hs:zc.StaysIn s.heap)(hk:env.scope.kind=.function)(hg:env.globals=w5)(hbi:env.builtins=wM)(hx:zK x)(hy:zK y)
  (h:wpAny (model H w) A (eval x env) (λu s₁=>wpAny (model H w) A (eval y env) (λv s₂=>wpAny (model H w) A (call (.builtin id) [u,v]) Q E s₂) E s₁) E s):
  wpAny (model H w) A (eval (.Call (.Name f p) [x,y] [] pos) env) Q E s:=by
 obtain⟨h1,h2,rfl⟩:=Bv hf;show wpAny (model H w) A (do callWith pos (<-eval (.Name (uQ nm) p) env) [] (backTo pos (zal [x,y] env)) (backToKw pos (keywordEach [] env))) Q E s;refine tY (B.loadB hs hk hg hbi (hL.glob _ h1) h2 hm hb ?_);rw[zD hx,zD hy];exact zaz rfl (evalArgs_plain (xL (vI h (λu s₁ h₁=>xL (vI h₁ (λv s₂ h₂=>zak h₂) λ_ _ e=>e)) λ_ _ e=>e)))
theorem Vd:uQ "len"∈jH:=by decide +kernel
theorem Vc:uQ "int"∈jH:=by decide +kernel
theorem JZ:uQ "bool"∈jH:=by decide +kernel
theorem Ve:uQ "max"∈jH:=by decide +kernel
theorem Vf:uQ "min"∈jH:=by decide +kernel
theorem J2:uQ "type"∈jH:=by decide +kernel
theorem mem_range:uQ "range"∈jH:=by decide +kernel
theorem Lx:uQ "sorted"∈jH:=by decide +kernel
theorem Rx:uQ "ValueError"∈jH:=by decide +kernel
theorem VZ(B:kq F K mg mb zc)(hL:CY cx env)(hf:cx.isB f "len"=true)(hx:zK x)(ha:zH H w zc G cf n names st true env (eval x env) a):
  zH H w zc G cf n names st b env (eval (.Call (.Name f p) [x] [] pos) env) (.un .len a):=
 CS (W:=λA Q E u s=>wpAny (model H w) A (call (.builtin "len") [u]) Q E s) (λec h=>Db B hL hf PA Vd (.inl ⟨_,rfl⟩) ec.stays ec.kind ec.globals ec.builtins hx h)
  (λ_ ru hd g=>Oa ru hd (kr g)) ha
theorem VY(B:kq F K mg mb zc)(hL:CY cx env)(hf:cx.isB f "int"=true)(hx:zK x)(ha:zH H w zc G cf n names st true env (eval x env) a):
  zH H w zc G cf n names st b env (eval (.Call (.Name f p) [x] [] pos) env) (.un .int a):=
 CS (W:=λA Q E u s=>wpAny (model H w) A (call (.type "int") [u]) Q E s) (λec h=>Db B hL hf Pz Vc (.inr ⟨_,rfl⟩) ec.stays ec.kind ec.globals ec.builtins hx h)
  (λ_ ru hd g=>N2 ru hd (kr g)) ha
theorem V1(B:kq F K mg mb zc)(hL:CY cx env)(hf:cx.isB f "max"=true)(hx:zK x)(hy:zK y)(ha:zH H w zc G cf n names st true env (eval x env) a)
  (hc:zH H w zc G cf n names st true env (eval y env) c):zH H w zc G cf n names st b env (eval (.Call (.Name f p) [x,y] [] pos) env) (.bin .max a c):=
 BQ (W:=λA Q E u v s=>wpAny (model H w) A (call (.builtin "max") [u,v]) Q E s) (λec h=>Pr B hL hf PB Ve ec.stays ec.kind ec.globals ec.builtins hx hy h)
  (λec ru rv hd g=>Oi ec.handled ru rv hd (kr g)) ha hc
theorem V2(B:kq F K mg mb zc)(hL:CY cx env)(hf:cx.isB f "min"=true)(hx:zK x)(hy:zK y)(ha:zH H w zc G cf n names st true env (eval x env) a)
  (hc:zH H w zc G cf n names st true env (eval y env) c):zH H w zc G cf n names st b env (eval (.Call (.Name f p) [x,y] [] pos) env) (.bin .min a c):=
 BQ (W:=λA Q E u v s=>wpAny (model H w) A (call (.builtin "min") [u,v]) Q E s) (λec h=>Pr B hL hf PC Vf ec.stays ec.kind ec.globals ec.builtins hx hy h)
  (λec ru rv hd g=>Ol ec.handled ru rv hd (kr g)) ha hc
theorem AN:∀es q r,(Expr.Constant c k p)≠.Set es q r:=λ_ _ _ h=>by cases h
theorem Cs:∀es q r,(Expr.Name x p)≠.Set es q r:=λ_ _ _ h=>by cases h
theorem LL(ha:zH H w zc G cf n names st true env (eval x env) a):
  zH H w zc G cf n names st b env (eval (.Compare x [.Is] [.Constant .none k p] pos) env) (.un .isNone a):=
 CS (W:=λA Q E u s=>wpAny (model H w) A (y8 .Is u .none) Q E s) (λ_ h=>P7 AN (vI h (λu s₁ h₁=>Constant_none h₁) λ_ _ e=>e))
  (λ_ ru hd g=>by(obtain rfl:=jz hd;clear hd);exact GN ru (kr g)) ha
theorem lW{P T:Addr->Prop}{s:tX}{a:Value}{da:D}(r:zo H w T P s.heap a da):∃X,s.TypeIs a X/\(yO X==yO "builtin_function_or_method")=false/\(yO X==yO "bool")=Ii da:=by
 obtain⟨X,h1,h2,h3,_,_⟩:=Gy r;have e:∀Y:String,(yO X==yO Y)=(X==Y):=λY=>by
  by_cases q:X=Y
  ·rw[q,beq_self_eq_true,beq_self_eq_true]
  ·rw[beq_eq_false_iff_ne.mpr q,beq_eq_false_iff_ne.mpr λz=>q (by injection z)]
 exact⟨X,h1,h2,(e _).trans h3⟩
theorem SK(B:kq F K mg mb zc)(hL:CY cx env)(hf:cx.isB f "type"=true)(hg:cx.isB g "bool"=true)(hx:zK x)
  (ha:zH H w zc G cf n names st true env (eval x env) a):
  zH H w zc G cf n names st b env (eval (.Compare (.Call (.Name f p) [x] [] q) [.Is] [.Name g r] pos) env) (.un .tyB a):=by
 intro P A fs s ρ Q E ec vo hok hve hns;simp only[Tn] at hok hve hns;refine P7 Cs (Db B hL hf G8 J2 (.inr ⟨_,rfl⟩) ec.stays ec.kind ec.globals ec.builtins hx (ha P A fs s ρ _ E ec vo (λd v s₁ hx c1 rx=>?_) (λhx=>hve (by rw[hx];rfl)) (λhx=>hns (by rw[hx];rfl))));obtain⟨X,h1,h2,h3⟩:=lW rx;obtain⟨g1,g2,rfl⟩:=Bv hg;refine call_type_of h1 h2 (B.loadB (ec.keep c1.keep).stays ec.kind ec.globals ec.builtins (hL.glob _ g1) g2 JZ G7 (wpAny_is_plain rfl ?_));rw[h3];exact hok _ _ s₁ (by rw[hx];rfl) c1 (.rep (.bool _))
theorem Wz(hP:Ae P s.heap)(ru:zo H w T P s.heap o (.list xs))(hi:0<=i)(g:∀v s',Ch s s'->jG P s'.heap v (.list (xs.take i.toNat))->Q v s'):
  wpAny (model H w) A (zae l sl o (.ref s.heap.objs.size)) Q E {s with heap:=s.heap.push {cls:=.type "slice",data:=.fields #[.none,.int i t,.none]}}:=by
 have kp:zx s.heap (s.heap.push {cls:=.type "slice",data:=.fields #[.none,.int i t,.none]}):=zx.push _ _
 obtain⟨x,ox,vx,nx,rfl,hox,cx',_,dx,rx,hz⟩:=ru.inv_list;have il:=Ah (kp _ _ hox) cx' dx;refine D4 (Heap.IsList.typeIs (s:={s with heap:=_}) il) slot_list_getitem.lookup (wpAny_getItem_list_slice il (Heap.IsSliceOf.new ..) .none (.int i t) .none (by trivial) ?_ (by rw[jc rx];exact qA hz CH));refine g _ _ ⟨(zx.push _ _).trans (zx.push _ _),rfl,λx=>x⟩ (kY (hP.keep kp) ?_ (qA (by rw[List.length_take];exact zaw _ _) hz));obtain⟨k,rfl⟩:=zab hi;obtain⟨vl⟩:=vx;rw[slicePick_upto' vl.toArray k];exact(rx.keep kp).take k
theorem VR(ha:zH H w zc G cf n names st true env (eval l env) a)(hc:zH H w zc G cf n names st true env (eval u env) c):
  zH H w zc G cf n names st b env (eval (.Subscript l (.Slice none (some u) none q) pos) env) (.bin .upto a c):=
 BQ (W:=λA Q E o v s=>wpAny (model H w) A (zae l (.Slice none (some u) none q) o (.ref s.heap.objs.size)) Q E {s with heap:=s.heap.push {cls:=.type "slice",data:=.fields #[.none,v,.none]}})
  (λ_ h=>Subscript_ (vI h (λo s₁ h₁=>wpAny_Slice (by rw[evalPart_none,evalPart_some];exact uC (vI h₁ (λv s₂ h₂=>uC h₂) λ_ _ e=>e))) λ_ _ e=>e))
  (λ{A P fs Q E s o v du dv d} ec ru rv hd g=>by
   obtain⟨xs,rfl,hd⟩:=Do hd;clear hd;obtain⟨i,rfl,hd⟩:=kT hd;clear hd;obtain⟨hi,hd⟩:=GM hd
   (obtain rfl:=jz hd;clear hd)
   obtain⟨t,rfl⟩:=rv.inv_int;exact Wz ec.pnew ru hi g) ha hc
theorem NT(hP:Ae P s.heap)(ru:zo H w T P s.heap o (.list xs))(hi:0<=i)(g:∀v s',Ch s s'->jG P s'.heap v (.list (xs.drop i.toNat))->Q v s'):
  wpAny (model H w) A (zae l sl o (.ref s.heap.objs.size)) Q E {s with heap:=s.heap.push {cls:=.type "slice",data:=.fields #[.int i t,.none,.none]}}:=by
 have kp:zx s.heap (s.heap.push {cls:=.type "slice",data:=.fields #[.int i t,.none,.none]}):=zx.push _ _
 obtain⟨x,ox,vx,nx,rfl,hox,cx',_,dx,rx,hz⟩:=ru.inv_list;have il:=Ah (kp _ _ hox) cx' dx;refine D4 (Heap.IsList.typeIs (s:={s with heap:=_}) il) slot_list_getitem.lookup (wpAny_getItem_list_slice il (Heap.IsSliceOf.new ..) (.int i t) .none .none (by trivial) ?_ (by rw[jc rx];exact qA hz CH));refine g _ _ ⟨(zx.push _ _).trans (zx.push _ _),rfl,λx=>x⟩ (kY (hP.keep kp) ?_ (qA (by rw[xO];exact zbq _ _) hz));obtain⟨k,rfl⟩:=zab hi;obtain⟨vl⟩:=vx;rw[slicePick_from' vl.toArray k];exact(rx.keep kp).drop k
theorem VQ(ha:zH H w zc G cf n names st true env (eval l env) a)(hc:zH H w zc G cf n names st true env (eval u env) c):
  zH H w zc G cf n names st b env (eval (.Subscript l (.Slice (some u) none none q) pos) env) (.bin .from_ a c):=
 BQ (W:=λA Q E o v s=>wpAny (model H w) A (zae l (.Slice (some u) none none q) o (.ref s.heap.objs.size)) Q E {s with heap:=s.heap.push {cls:=.type "slice",data:=.fields #[v,.none,.none]}})
  (λ_ h=>Subscript_ (vI h (λo s₁ h₁=>wpAny_Slice (by rw[evalPart_none,evalPart_some];exact vI h₁ (λv s₂ h₂=>uC (uC h₂)) λ_ _ e=>e)) λ_ _ e=>e))
  (λ{A P fs Q E s o v du dv d} ec ru rv hd g=>by
   obtain⟨xs,rfl,hd⟩:=Do hd;clear hd;obtain⟨i,rfl,hd⟩:=kT hd;clear hd;obtain⟨hi,hd⟩:=GM hd
   (obtain rfl:=jz hd;clear hd)
   obtain⟨t,rfl⟩:=rv.inv_int;exact NT ec.pnew ru hi g) ha hc
theorem O4(h:tri o x y z=.ve):False:=by
 cases o;exact Cu (λ_=>kH λ_=>kH λ_=>jT B8 BC) h
theorem J3(h:Hu o x y=.ve):False:=by
 induction o using M1.casesOn with
 |join=>exact Cu (λ_=>Dn λ_=>DU EY λ_=>jT B8 BC) h
 |split=>exact Cu (λ_=>Cu λ_=>jT B8 BC) h
 |index=>exact Dn (λ_=>Cu λ_=>DU EY λ_=>jT B8 BC) h
theorem Y6:Hm x y z≠.ve:=by
 induction x using uG with
 |dict kvs=>exact jT B8 BC
 |_=>exact BC
theorem J5(h:J4 o x y z=.ve):False:=by
 cases o;exact Y6 h
theorem VP(ha:zH H w zc G cf n names st true env (eval l env) a)(hc:zH H w zc G cf n names st true env (eval u env) c)(he:zH H w zc G cf n names st true env (eval v env) e):
  zH H w zc G cf n names st b env (eval (.Subscript l (.Slice (some u) (some v) none q) pos) env) (.tri .slice a c e):=by
 intro P A fs s ρ Q E ec vo hok hve hns;simp only[bE] at hok hve hns;refine Subscript_ (ha P A fs s ρ _ E ec vo (λx o s₁ hx c1 rx=>?_) (λhx=>hve (by rw[hx];rfl)) (λhx=>hns (by rw[hx];rfl)));rw[hx] at hok hve hns;have ec1:=ec.keep c1.keep;refine wpAny_Slice ?_;rw[evalPart_some,evalPart_some];refine hc P A fs s₁ ρ _ E ec1 (vo.keep H w c1.keep) (λy vy s₂ hy c2 ry=>?_) (λhy x s' q=>hve (by rw[hy];rfl) x s' (q.after c1)) (λhy=>hns (by rw[hy];rfl));rw[hy] at hok hve hns;have ec2:=ec1.keep c2.keep;refine he P A fs s₂ ρ _ E ec2 ((vo.keep H w c1.keep).keep H w c2.keep) (λz vz s₃ hz c3 rz=>?_) (λhz x s' q=>hve (by rw[hz];rfl) x s' (q.after (c1.trans c2))) (λhz=>hns (by rw[hz];rfl));rw[hz] at hok hve hns;simp only[R.bind_ok] at hok hve hns;refine uC ?_;cases hd:tri .slice x y z with
 |stuck=>exact absurd hd hns
 |ve=>exact(O4 hd).elim
 |ok d=>
  rw[hd] at hok;have rx':=(rx.keep H w c2.keep).keep H w c3.keep;have ry':=ry.keep H w c3.keep;have kp:zx s₃.heap (s₃.heap.push {cls:=.type "slice",data:=.fields #[vy,vz,.none]}):=zx.push _ _
  have hd':IK x y z=.ok d:=hd;obtain⟨xx,rfl,k1⟩:=Cv hd';obtain⟨i,rfl,k2⟩:=kT k1;obtain⟨j,rfl,k3⟩:=kT k2;obtain⟨hij,k4⟩:=GM k3;clear hd hd' k1 k2 k3
  (obtain rfl:=jz k4;clear k4)
  obtain⟨t,rfl⟩:=ry'.inv_int;obtain⟨t2,rfl⟩:=rz.inv_int;obtain⟨tx,rfl,h1,h2⟩:=rx'.inv_str;have hsl:(s₃.heap.push {cls:=.type "slice",data:=.fields #[.int i t,.int j t2,.none]}).IsSlice s₃.heap.objs.size (some (i,t)) (some (j,t2)) none:=⟨_,uX _ rfl,rfl,rfl⟩
  refine D4 (yP _ _ _) PySem.F.slot_str_getitem.lookup (OD (P:=P) hsl h2 ?_ (OY h1) (λv' h' tk k r=>hok _ v' _ rfl ((c1.trans (c2.trans c3)).trans ⟨kp.trans k,rfl,λx=>x⟩) (.rep r)));exact LJ hij.1 hij.2.1 hij.2.2
theorem FT{o:Expr}{m:Str}(h:j7 o=false):attributeBase o m env (eval o env)=eval o env:=by
 induction o using v4 with
 |Call f args kws p=>
  induction f using v4 with
  |Name x q=>
   induction args using uB with
   |nil=>induction kws using uB with
    |nil=>exact tf h
    |cons=>rfl
   |cons=>rfl
  |_=>rfl
 |_=>rfl
theorem Ru{A:uY}{E:Value->tX->Prop}{s:tX}{o x:Expr}{m:Str}{ap pos:Pos}{T id:String}{Q:Value->tX->Prop}(hs:j7 o=false)(hp:(ap.endLine==pos.line)=true)(hx:zK x)
  (pa:PlainAttrs T)(slot:Slot T m id)(hty:typeOf (.builtin id)=pure (.type "method_descriptor"))
  (h:wpAny (model H w) A (eval o env) (λov s₁=>s₁.TypeIs ov T/\(∀a,ov=.ref a->∃ob,s₁.heap.get? a=some ob/\ob.dict=none)/\
   wpAny (model H w) A (eval x env) (λu s₂=>wpAny (model H w) A (call (.builtin id) [ov,u]) Q E s₂) E s₁) E s):
  wpAny (model H w) A (eval (.Call (.Attribute o m ap) [x] [] pos) env) Q E s:=by
 refine wpAny_Call_method (FT hs) ?_ hp pa slot hty (vI h (λov s₁ h₁=>⟨h₁.1,h₁.2.1,?_⟩) λ_ _ e=>e)
 ·rw[zD hx];rfl
 ·rw[zD hx];exact zaz rfl (evalArgs_plain (xL (vI h₁.2.2 (λu s₂ h₂=>zak h₂) λ_ _ e=>e)))
theorem Rv{A:uY}{E:Value->tX->Prop}{s:tX}{o x y:Expr}{m:Str}{ap pos:Pos}{T id:String}{Q:Value->tX->Prop}(hs:j7 o=false)(hp:(ap.endLine==pos.line)=true)(hx:zK x)(hy:zK y)
  (pa:PlainAttrs T)(slot:Slot T m id)(hty:typeOf (.builtin id)=pure (.type "method_descriptor"))
  (h:wpAny (model H w) A (eval o env) (λov s₁=>s₁.TypeIs ov T/\(∀a,ov=.ref a->∃ob,s₁.heap.get? a=some ob/\ob.dict=none)/\
   wpAny (model H w) A (eval x env) (λu s₂=>wpAny (model H w) A (eval y env) (λv s₃=>wpAny (model H w) A (call (.builtin id) [ov,u,v]) Q E s₃) E s₂) E s₁) E s):
  wpAny (model H w) A (eval (.Call (.Attribute o m ap) [x,y] [] pos) env) Q E s:=by
 refine wpAny_Call_method (FT hs) ?_ hp pa slot hty (vI h (λov s₁ h₁=>⟨h₁.1,h₁.2.1,?_⟩) λ_ _ e=>e)
 ·rw[zD hx,zD hy];rfl
 ·rw[zD hx,zD hy];exact zaz rfl (evalArgs_plain (xL (vI h₁.2.2 (λu s₂ h₂=>xL (vI h₂ (λv s₃ h₃=>zak h₃) λ_ _ e=>e)) λ_ _ e=>e)))
theorem ZK{A:uY}{E:Value->tX->Prop}{s:tX}{o:Expr}{m:Str}{ap pos:Pos}{T id:String}{Q:Value->tX->Prop}(hs:j7 o=false)(hp:(ap.endLine==pos.line)=true)
  (pa:PlainAttrs T)(slot:Slot T m id)(hty:typeOf (.builtin id)=pure (.type "method_descriptor"))
  (h:wpAny (model H w) A (eval o env) (λov s₁=>s₁.TypeIs ov T/\(∀a,ov=.ref a->∃ob,s₁.heap.get? a=some ob/\ob.dict=none)/\wpAny (model H w) A (call (.builtin id) [ov]) Q E s₁) E s):
  wpAny (model H w) A (eval (.Call (.Attribute o m ap) [] [] pos) env) Q E s:=by
 refine wpAny_Call_method (FT hs) rfl hp pa slot hty (vI h (λov s₁ h₁=>⟨h₁.1,h₁.2.1,?_⟩) λ_ _ e=>e);exact zaz rfl (PySem.evalArgs_none h₁.2.2)
noncomputable def BN:M1->String×String×String
 |.join=>("str","join","str.join")
 |.split=>("str","split","str.split")
 |.index=>("list","index","list.index")
theorem U9(o:M1):PlainAttrs (BN o).1/\Slot (BN o).1 (uQ (BN o).2.1) (BN o).2.2/\typeOf (.builtin (BN o).2.2)=pure (.type "method_descriptor"):=by
 cases o
 ·exact⟨za6,PySem.F.slot_str_join,PySem.F.type_str_join⟩
 ·exact⟨za6,zaj,PySem.F.type_str_split⟩
 ·exact⟨PySem.F.plainAttrs_list,PySem.F.slot_list_index,PySem.F.type_list_index⟩
theorem ZF{P T:Addr->Prop}{s:tX}{o:M1}{u:Value}{du:D}(r:zo H w T P s.heap u du)(h:R5 o du=true):s.TypeIs u (BN o).1/\∀a,u=.ref a->∃ob,s.heap.get? a=some ob/\ob.dict=none:=by
 have hs:∀{du:D},zo H w T P s.heap u du->Lj du=true->s.TypeIs u "str"/\∀a,u=.ref a->∃ob,s.heap.get? a=some ob/\ob.dict=none:=by
  intro du r h;induction du using uG with
  |str=>obtain⟨t,rfl,_⟩:=r.inv_str;exact⟨yP _ _ _,λa e=>nomatch e⟩
  |_=>exact ff h
 cases o
 ·exact hs r h
 ·exact hs r h
 ·induction du using uG with
  |list=>obtain⟨a,oa,va,na,rfl,ha,ca,hd,_⟩:=r.inv_list;exact⟨⟨_,ha,ca⟩,λb e=>by cases e;exact⟨_,ha,hd⟩⟩
  |_=>exact ff h
theorem Va{P T T':Addr->Prop}{A:uY}{E:Value->tX->Prop}{s:tX}{o:M1}{u v:Value}{du dv d:D}{Q:Value->tX->Prop}(hP:Ae P s.heap)(ru:zo H w T P s.heap u du)(rv:zo H w T' P s.heap v dv)
  (h:Hu o du dv=.ok d)(g:z0 P d Q s):wpAny (model H w) A (call (.builtin (BN o).2.2) [u,v]) Q E s:=by
 cases o
 ·exact Lo ru rv h g
 ·exact Kx hP ru rv h g
 ·exact JG ru rv h g
theorem aP{o:M1}{l x:Expr}{m:Str}{ap pos:Pos}{a c:PE}(hm:m=uQ (BN o).2.1)(hs:j7 l=false)(hp:(ap.endLine==pos.line)=true)(hx:zK x)
  (ha:zH H w zc G cf n names st true env (eval l env) a)(hc:zH H w zc G cf n names st true env (eval x env) c):
  zH H w zc G cf n names st b env (eval (.Call (.Attribute l m ap) [x] [] pos) env) (.m1 o a c):=by
 intro P A fs s ρ Q E ec vo hok hve hns;simp only[mA] at hok hve hns
 (replace hm:=vR hm;subst hm)
 obtain⟨f1,f2,f3⟩:=U9 o;refine Ru hs hp hx f1 f2 f3 (ha P A fs s ρ _ E ec vo (λd u s₁ hd c1 r1=>?_) (λhd=>hve (by rw[hd];rfl)) (λhd=>hns (by rw[hd];rfl)));rw[hd] at hok hve hns;simp only[R.bind_ok] at hok hve hns;cases hpre:R5 o d with
 |false=>rw[hpre] at hns;exact absurd rfl hns
 |true=>
  rw[hpre] at hok hve hns;obtain⟨t1,t2⟩:=ZF r1 hpre;refine⟨t1,t2,hc P A fs s₁ ρ _ E (ec.keep c1.keep) (vo.keep H w c1.keep) (λy v s₂ hy c2 r2=>?_) (λhy x s' q=>hve (by rw[hy];rfl) x s' (q.after c1)) (λhy=>hns (by rw[hy];rfl))⟩;rw[hy] at hok hve hns;cases hr:Hu o d y with
  |stuck=>exact absurd hr hns
  |ve=>exact(J3 hr).elim
  |ok z=>exact Va ((ec.keep c1.keep).keep c2.keep).pnew (r1.keep H w c2.keep) r2 hr (kr λv' s' c3 r3=>hok z v' s' hr ((c1.trans c2).trans c3) (.rep r3))
theorem eX{P:Addr->Prop}{h:Heap}{x:Addr}{kvs:List (D×D)}(r:zS H w P h x kvs):∃o,h.get? x=some o/\o.cls=.type "dict"/\o.dict=none:=by
 obtain⟨_,_,⟨l,m,_⟩|⟨l,m,_⟩⟩:=r
 ·obtain⟨o,es,ep,ho,he,_⟩:=m;exact⟨o,ho,he.1,he.2.1⟩
 ·obtain⟨o,es,ep,ho,he,_⟩:=m;exact⟨o,ho,he.1,he.2.1⟩
theorem UA{P T:Addr->Prop}{s:tX}{u:Value}{d:D}(r:zo H w T P s.heap u d)(h:R6 .get d=true):s.TypeIs u "dict"/\∀a,u=.ref a->∃ob,s.heap.get? a=some ob/\ob.dict=none:=by
 induction d using uG with
 |dict kvs=>
  obtain⟨x,rfl,q⟩:=r.inv_dict;obtain⟨o,h1,h2,h3⟩:=eX q;exact⟨⟨o,h1,h2⟩,λa e=>by injection e with e;exact⟨o,e▸h1,h3⟩⟩
 |_=>exact ff h
theorem VW{l x y:Expr}{ap pos:Pos}{a c e:PE}(hs:j7 l=false)(hp:(ap.endLine==pos.line)=true)(hx:zK x)(hy:zK y)
  (ha:zH H w zc G cf n names st true env (eval l env) a)(hc:zH H w zc G cf n names st true env (eval x env) c)(he:zH H w zc G cf n names st false env (eval y env) e):
  zH H w zc G cf n names st b env (eval (.Call (.Attribute l (uQ "get") ap) [x,y] [] pos) env) (.m2 .get a c e):=by
 intro P A fs s ρ Q E ec vo hok hve hns;simp only[mB] at hok hve hns;refine Rv hs hp hx hy PySem.F.plainAttrs_dict PySem.F.slot_dict_get PySem.F.type_dict_get (ha P A fs s ρ _ E ec vo (λd u s₁ hd c1 r1=>?_) (λhd=>hve (by rw[hd];rfl)) (λhd=>hns (by rw[hd];rfl)));rw[hd] at hok hve hns;simp only[R.bind_ok] at hok hve hns;cases hpre:R6 .get d with
 |false=>rw[hpre] at hns;exact absurd rfl hns
 |true=>
  rw[hpre] at hok hve hns;have ht:s₁.TypeIs u "dict"/\∀a,u=.ref a->∃ob,s₁.heap.get? a=some ob/\ob.dict=none:=by
   exact UA r1 hpre
  have ec1:=ec.keep c1.keep;refine⟨ht.1,ht.2,hc P A fs s₁ ρ _ E ec1 (vo.keep H w c1.keep) (λy v s₂ hy c2 r2=>?_) (λhy x s' q=>hve (by rw[hy];rfl) x s' (q.after c1)) (λhy=>hns (by rw[hy];rfl))⟩;rw[hy] at hok hve hns;refine he P A fs s₂ ρ _ E (ec1.keep c2.keep) ((vo.keep H w c1.keep).keep H w c2.keep) (λz v3 s₃ hz c3 r3=>?_) (λhz x s' q=>hve (by rw[hz];rfl) x s' (q.after (c1.trans c2))) (λhz=>hns (by rw[hz];rfl));rw[hz] at hok hve hns;cases hr:J4 .get d y z with
  |stuck=>exact absurd hr hns
  |ve=>exact(J5 hr).elim
  |ok q=>exact NW (by have:=ec.units;exact qB (uR (uV _ _) (by decide)) this) ((r1.keep H w c2.keep).keep H w c3.keep) (r2.keep H w c3.keep) r3 hr (kr λv' s' c4 r4=>hok q v' s' hr ((c1.trans (c2.trans c3)).trans c4) (.rep r4))
end
section
variable{P P' T T':Addr->Prop}{h h':Heap}
theorem J7(hm:∀a o,P a->h.get? a=some o->P' a/\h'.get? a=some o):(∀{v:Value} {d:D},jG P h v d->jG P' h' v d)/\∀{vs:List Value} {ds:List D},zk P h vs ds->zk P' h' vs ds:=by
 constructor
 all_goals intro v d x
 ·exact jG.rec (motive_1:=λv d _=>jG P' h' v d) (motive_2:=λvs ds _=>zk P' h' vs ds) .none .bool .int .str (λp ho hc hd hda _ hz r=>.list (hm _ _ p ho).1 (hm _ _ p ho).2 hc hd hda r hz) (λp ho hc hda _ hz r=>.tuple (hm _ _ p ho).1 (hm _ _ p ho).2 hc hda r hz) .nil (λ_ _ a r=>.cons a r) x
 ·exact zk.rec (motive_1:=λv d _=>jG P' h' v d) (motive_2:=λvs ds _=>zk P' h' vs ds) .none .bool .int .str (λp ho hc hd hda _ hz r=>.list (hm _ _ p ho).1 (hm _ _ p ho).2 hc hd hda r hz) (λp ho hc hda _ hz r=>.tuple (hm _ _ p ho).1 (hm _ _ p ho).2 hc hda r hz) .nil (λ_ _ a r=>.cons a r) x
theorem jG.move(hm:∀a o,P a->h.get? a=some o->P' a/\h'.get? a=some o)(x:jG P h v d):jG P' h' v d:=(J7 hm).1 x
theorem zk.move(hm:∀a o,P a->h.get? a=some o->P' a/\h'.get? a=some o)(x:zk P h vs ds):zk P' h' vs ds:=(J7 hm).2 x
variable{H:uP}{w:World}
theorem zS.move(hm:∀a o,P a->h.get? a=some o->P' a/\h'.get? a=some o)(ha:∀o,h.get? a=some o->h'.get? a=some o)(r:zS H w P h a kvs):zS H w P' h' a kvs:=by
 have kk:∀{K:Type} {enc:K->D} {l:List (K×Value)} {kvs:List (D×D)},Dx P h enc l kvs->Dx P' h' enc l kvs:=by
  intro K enc l kvs r;induction r with
  |nil=>exact .nil
  |cons a _ ih=>exact .cons (a.move hm) ih
 have dk:∀{K:Type} [DecidableEq K] {knd:PySem.KeyKind H w K} {l},h.DictOf knd a l->h'.DictOf knd a l:=λm=>let ⟨o,es,ep,ho,r⟩:=m;⟨o,es,ep,ha _ ho,r⟩;obtain⟨h1,h2,⟨l,m,q⟩|⟨l,m,q⟩⟩:=r
 ·exact⟨h1,h2,.inl ⟨l,dk m,kk q⟩⟩
 ·obtain⟨o,es,ep,ho,he,hd,hp',hi,hn⟩:=m;have kh:∀{l:List (List Int×Addr×Value)} {kvs:List (D×D)},(∀x∈l,∃o,h.get? x.2.1=some o)->Ee P h l kvs->Ee P' h' l kvs:=by
   intro l kvs hx r;induction r with
   |nil=>exact .nil
   |cons p a _ ih=>
    obtain⟨o,ho⟩:=hx _ (u4 ..);exact .cons (hm _ _ p ho).1 (a.move hm) (ih λx h=>hx x (u0 _ h))
  have pk:∀{l:List (List Int×Addr×Value)} {kvs:List (D×D)},Ee P h l kvs->∀x∈l,P x.2.1:=by
   intro l kvs r;induction r with
   |nil=>intro x hx;cases hx
   |cons p a _ ih=>intro x hx;cases hx with
    |head=>exact p
    |tail _ hx=>exact ih x hx
  refine⟨h1,h2,.inr ⟨l,?_,kh (λx hx=>?_) q⟩⟩
  ·refine⟨o,es,ep,ha _ ho,he,hd,hp',λx hx=>?_,hn⟩;obtain⟨o',its,n,ho',hc',hd',r'⟩:=hi x hx;exact⟨o',its,n,(hm _ _ (pk q x hx) ho').2,hc',hd',r'⟩
  ·obtain⟨o',its,n,ho',hc',hd',r'⟩:=hi x hx;exact⟨o',ho'⟩
theorem zS.alloc(r:zS H w P h a kvs):∃o,h.get? a=some o:=by
 obtain⟨h1,h2,⟨l,m,q⟩|⟨l,m,q⟩⟩:=r
 ·obtain⟨o,es,ep,ho,_⟩:=m;exact⟨o,ho⟩
 ·obtain⟨o,es,ep,ho,_⟩:=m;exact⟨o,ho⟩
theorem zo.move(ht:∀a o,T a->h.get? a=some o->T' a/\h'.get? a=some o)(hm:∀a o,P a->h.get? a=some o->P' a/\h'.get? a=some o)(r:zo H w T P h v d):zo H w T' P' h' v d:=by
 induction r using zo.casesOn with
 |rep r=>exact .rep (r.move hm)
 |list t ho hc hd hda hr hz=>exact .list (ht _ _ t ho).1 (ht _ _ t ho).2 hc hd hda (hr.move hm) hz
 |dict t r=>obtain⟨o,ho⟩:=r.alloc;exact .dict (ht _ _ t ho).1 (r.move hm λo ho=>(ht _ _ t ho).2)
end
structure BF(names:List (Str×NameKind))(env:Env)(h:Heap):Prop where
 ns:∃m,h.Ns env.locals m
 loc:∀x,names.lookup x=some .local->env.kindOf x=some .local
 cell:∀x,names.lookup x=some .cell->env.kindOf x=some .cell/\∃c o,env.cells.lookup x=some c/\h.IsCell c o
 inj:∀x y c,env.cells.lookup x=some c->env.cells.lookup y=some c->x=y
 ne:∀x c,env.cells.lookup x=some c->c≠env.locals
 fn:env.scope.kind=.function
theorem BF.keep(f:BF names env h)(k:∀a o,bX names env a->h.get? a=some o->h'.get? a=some o):BF names env h':=
 {f with
  ns:=let ⟨m,hm⟩:=f.ns;⟨m,hm.at' λo e=>k _ o (.inl rfl) e⟩
  cell:=λx hx=>by
   obtain⟨h1,c,o,h2,ob,h3,h4⟩:=f.cell x hx;exact⟨h1,c,o,h2,ob,k _ _ (.inr ⟨x,hx,h2⟩) h3,h4⟩}
def NF(o:Obj):Prop:=∀vs,o.data≠.fields vs
def jS(h h':Heap):Prop:=∀a o,h.get? a=some o->∃o',h'.get? a=some o'/\(NF o->NF o')
theorem jS.refl(h:Heap):jS h h:=λ_ o e=>⟨o,e,id⟩
theorem jS.trans(x:jS h h')(y:jS h' h₂):jS h h₂:=λa o e=>by
 obtain⟨o',e',n'⟩:=x a o e;obtain⟨o₂,e₂,n₂⟩:=y a o' e';exact⟨o₂,e₂,λn=>n₂ (n' n)⟩
theorem jS.of_keep(k:zx h h'):jS h h':=λa o e=>⟨o,k a o e,id⟩
structure Fh(names:List (Str×NameKind))(env:Env)(h h':Heap):Prop where
 keep:∀a o,¬bX names env a->h.get? a=some o->h'.get? a=some o
 alloc:jS h h'
theorem Fh.refl(names:List (Str×NameKind))(env:Env)(h:Heap):Fh names env h h:=⟨λ_ _ _ e=>e,jS.refl h⟩
theorem Fh.trans(x:Fh names env h h')(y:Fh names env h' h₂):Fh names env h h₂:=
 ⟨λa o n e=>y.keep a o n (x.keep a o n e),x.alloc.trans y.alloc⟩
theorem Fh.of_keep(k:zx h h'):Fh names env h h':=⟨λa o _ e=>k a o e,.of_keep k⟩
theorem Fh.keepO(x:Fh names env h h')(a:Addr)(o:Obj)(n:¬Aq env a)(e:h.get? a=some o):h'.get? a=some o:=x.keep a o (λq=>n q.own) e
def Ty(h h':Heap):Prop:=∀a o,h.get? a=some o->NF o->∃o',h'.get? a=some o'/\NF o'
theorem jS.nf(k:jS h h'):Ty h h':=λa o e n=>let ⟨o',e',n'⟩:=k a o e;⟨o',e',n' n⟩
theorem jK(k:Ty h h'):∀{l:List Env},h.FunFrames zc l->h'.FunFrames zc l
 |[],_=>trivial
 |_::_,⟨h1,⟨L,o,h2,h3,h4,h5⟩,h6⟩=>by
  obtain⟨o',e',n'⟩:=k L o h4 h5;exact⟨h1,⟨L,o',h2,h3,e',n'⟩,jK k h6⟩
def TD(fs:List Env)(h h':Heap):Prop:=∀a∈Bl fs,∀o,h.get? a=some o->NF o->∃o',h'.get? a=some o'/\NF o'
theorem Ty.f(k:Ty h h'):TD fs h h':=λa _ o e n=>k a o e n
theorem Bb:∀{l:List Env},TD l h h'->h.FunFrames zc l->h'.FunFrames zc l
 |[],_,_=>trivial
 |env::l,k,⟨h1,⟨L,o,h2,h3,h4,h5⟩,h6⟩=>by
  obtain⟨o',e',n'⟩:=k L (List.mem_filterMap.mpr ⟨env,.head _,h2⟩) o h4 h5;exact⟨h1,⟨L,o',h2,h3,e',n'⟩,Bb (λa ha=>k a (by
   obtain⟨e,he,hf⟩:=List.mem_filterMap.mp ha;exact List.mem_filterMap.mpr ⟨e,.tail _ he,hf⟩)) h6⟩
theorem EC.change'(e:EC zc P A fs n env h)(hk:∀a o,P a->h.get? a=some o->P' a/\h'.get? a=some o)(k:TD fs h h')(hO:∀a,P' a->¬Aq env a)(hN:∀a,P' a->a∉Bl fs)(hn:Ae P' h'):
  EC zc P' A fs n env h':=
 {e with
  stays:=λa o q=>(hk a o (e.pbase a o q) (e.stays a o q)).2
  pnew:=hn
  pbase:=λa o q=>(hk a o (e.pbase a o q) (e.stays a o q)).1
  funs:=Bb k e.funs
  own:=hO
  nofr:=hN}
theorem EC.change(e:EC zc P A fs n env h)(hk:∀a o,P a->h.get? a=some o->P' a/\h'.get? a=some o)(k:Ty h h')(hO:∀a,P' a->¬Aq env a)(hN:∀a,P' a->a∉Bl fs)(hn:Ae P' h'):
  EC zc P' A fs n env h':=
 {e with
  stays:=λa o q=>(hk a o (e.pbase a o q) (e.stays a o q)).2
  pnew:=hn
  pbase:=λa o q=>(hk a o (e.pbase a o q) (e.stays a o q)).1
  funs:=jK k e.funs
  own:=hO
  nofr:=hN}
theorem Ae.alloc(x:Ae P h)(k:jS h h'):Ae P h':=λa e=>x a (by
 cases q:h.get? a with
 |none=>rfl
 |some o=>obtain⟨o',e',_⟩:=k a o q;rw[e'] at e;exact sn e)
theorem RE{h:Heap}{a:Addr}{m:Str->Option Value}(hn:h.Ns a m):∃o,h.get? a=some o/\NF o:=by
 obtain⟨o,es,ep,ho,hd,_⟩:=hn;exact⟨o,ho,λvs q=>by rw[hd] at q;cases q⟩
theorem Vk{h:Heap}{a:Addr}{m:Option Value}(hn:h.IsCell a m):∃o,h.get? a=some o/\NF o:=by
 obtain⟨o,ho,hd⟩:=hn;exact⟨o,ho,λvs q=>by rw[hd] at q;cases q⟩
section
variable{H:uP}{w:World}{A:uY}{E:Value->tX->Prop}{s:tX}{env:Env}{names:List (Str×NameKind)}
theorem HJ(F:BF names env s.heap)(hx:names.lookup x=some k)(hk:k=.local\/k=.cell)
  (h:∀h' tk,Fh names env s.heap h'->BF names env h'->zz env h' x v->(∀y u,y≠x->zz env s.heap y u->zz env h' y u)->Q () {s with heap:=h',toks:=tk}):
  wpAny (model H w) A (storeName env x v) Q E s:=by
 have hp:(env.scope.kind==.class||(env.scope.kind==.module&&env.locals != env.globals))=false:=by rw[F.fn];rfl
 rcases hk with rfl|rfl
 ·obtain⟨m,hm⟩:=F.ns;refine zbh (F.loc x hx) hm (λh' hn hs=>?_) hp;have B:Fh names env s.heap h':=⟨λa o na e=>hs.extBut a o (λq=>na (.inl q)) e,λa o e=>by
   by_cases q:a=env.locals
   ·obtain⟨ob,hob,hnf⟩:=RE hn;exact⟨ob,q▸hob,λ_=>hnf⟩
   ·exact⟨o,hs.extBut a o q e,id⟩⟩
  refine h h' _ B {F with ns:=⟨_,hn⟩,cell:=λy hy=>?_} (.loc _ (F.loc x hx) hn (by simp)) λy u hne hv=>?_
  ·obtain⟨h1,c,o,h2,ob,h3,h4⟩:=F.cell y hy;exact⟨h1,c,o,h2,ob,hs.extBut c ob (F.ne y c h2) h3,h4⟩
  ·induction hv using zz.casesOn with
   |loc m' a b c=>exact .loc _ a hn (by simp only[if_neg hne];rw[<-c];exact hm.agree b y)
   |cell c a b d=>obtain⟨ob,h3,h4⟩:=d;exact .cell c a b ⟨ob,hs.extBut c ob (F.ne y c b) h3,h4⟩
 ·obtain⟨h1,c,o,h2,hc⟩:=F.cell x hx;refine wpAny_storeName_cell F.fn h1 h2 hc λh' hn hs=>?_;have B:Fh names env s.heap h':=⟨λa o na e=>hs.extBut a o (λq=>na (.inr ⟨x,hx,q▸h2⟩)) e,λa o e=>by
   by_cases q:a=c
   ·obtain⟨ob,hob,hnf⟩:=Vk hn;exact⟨ob,q▸hob,λ_=>hnf⟩
   ·exact⟨o,hs.extBut a o q e,id⟩⟩
  have hsame:(({s with heap:=h'}:tX))={s with heap:=h',toks:=s.toks}:=rfl;rw[hsame];refine h h' _ B {F with ns:=?_,cell:=λy hy=>?_} (.cell c (.inl h1) h2 hn) λy u hne hv=>?_
  ·obtain⟨m,hm⟩:=F.ns;exact⟨m,hm.at' λo e=>hs.extBut _ o (λq=>F.ne x c h2 q.symm) e⟩
  ·obtain⟨g1,c',o',g2,ob,g3,g4⟩:=F.cell y hy;by_cases q:c'=c
   ·subst q;exact⟨g1,c',some v,g2,hn⟩
   ·exact⟨g1,c',o',g2,ob,hs.extBut c' ob q g3,g4⟩
  ·induction hv using zz.casesOn with
   |loc m' a b d=>exact .loc m' a (b.at' λo e=>hs.extBut _ o (λq=>F.ne x c h2 q.symm) e) d
   |cell c' a b d=>
    have q:c'≠c:=λq=>hne (F.inj y x c (q▸b) h2);obtain⟨ob,h3,h4⟩:=d;exact .cell c' a b ⟨ob,hs.extBut c' ob q h3,h4⟩
end
section
variable(H:uP)(w:World)
def Af(env:Env)(names:List (Str×NameKind))(st:List VS)(ρ:zg)(T P:Addr->Prop)(h:Heap):Prop:=
 ∀(i:Nat) (x:Str) (k:NameKind),names[i]?=some (x,k)->zZ k=true->VS.at st i≠.u->
  ∃v,zz env h x v/\zo H w (if VS.at st i=.o then T else P) P h v (zq ρ i)
end
section
variable{H:uP}{w:World}{A:uY}{E:Value->tX->Prop}{s:tX}{env:Env}{names:List (Str×NameKind)}{st:List VS}{ρ:zg}{T T' P P':Addr->Prop}{h h':Heap}
theorem Np.vokt(r:Np H w env names st ρ P h):Af H w env names st ρ (λa=>¬Aq env a) P h:=r
set_option tactic.hygienic true in
theorem Af.move(r:Af H w env names st ρ T P h)(hv:∀x u,zz env h x u->zz env h' x u)(ht:∀a o,T a->h.get? a=some o->T' a/\h'.get? a=some o)(hm:∀a o,P a->h.get? a=some o->P' a/\h'.get? a=some o):
  Af H w env names st ρ T' P' h':=λi x k h1 h2 h3=>by
 obtain⟨v,h4,h5⟩:=r i x k h1 h2 h3;refine⟨v,hv _ _ h4,h5.move (λa o q e=>?_) hm⟩;split at q
 ·rename_i c;rw[if_pos c];exact ht a o q e
 ·rename_i c;rw[if_neg c];exact hm a o q e
theorem Af.vok(r:Af H w env names st ρ T P h)(hT:∀a,T a->¬Aq env a):Np H w env names st ρ P h:=
 r.move (T':=λa=>¬Aq env a) (λ_ _ q=>q) (λa _ t e=>⟨hT a t,e⟩) (λ_ _ t e=>⟨t,e⟩)
theorem Af.keep(r:Af H w env names st ρ T P h)(k:zx h h'):Af H w env names st ρ T P h':=
 r.move (λ_ _ q=>q.keep k) (λa o t e=>⟨t,k a o e⟩) (λa o t e=>⟨t,k a o e⟩)
noncomputable def VS.le:VS->VS->Bool
 |.u,_=>true
 |.f,.f=>true
 |.o,.o=>true
 |_,_=>false
theorem VS.at_set:VS.at (st.set i k) j=if i=j/\j<st.length then k else VS.at st j:=by
 unfold VS.at;rw[uH,uH,za1];by_cases h1:i=j
 ·subst h1;by_cases h2:i<st.length
  ·simp[h2]
  ·simp[h2]
 ·simp[h1]
theorem j3:zq (ρ.set i d) j=if i=j/\j<ρ.length then d else zq ρ j:=by
 unfold zq;rw[uH,uH,za1];by_cases h1:i=j
 ·subst h1;by_cases h2:i<ρ.length
  ·simp[h2]
  ·simp[h2]
 ·simp[h1]
theorem Gf{names:List (Str×NameKind)}(hnd:(names.map (·.1)).Nodup){i j:Nat}{x:Str}{k k':NameKind}(hi:names[i]?=some (x,k))(hj:names[j]?=some (x,k')):i=j:=by
 obtain⟨h1,e1⟩:=List.getElem?_eq_some_iff.mp hi;obtain⟨h2,e2⟩:=List.getElem?_eq_some_iff.mp hj;exact(List.getElem_inj (xs:=names.map (·.1)) (i:=i) (j:=j) (h₀:=by simpa using h1) (h₁:=by simpa using h2) hnd).mp (by simp[e1,e2])
set_option tactic.hygienic true in
theorem Af.store(r:Af H w env names st ρ T P h)(hnd:(names.map (·.1)).Nodup)(hlen:st.length=ρ.length){i:Nat}{x:Str}{k:NameKind}(hi:names[i]?=some (x,k))(B:Fh names env h h')(hT:∀a,T a->¬Aq env a)(hP:∀a,P a->¬Aq env a)
  {v:Value}{d:D}(hx:zz env h' x v)(ho:∀y u,y≠x->zz env h y u->zz env h' y u)(rv:zo H w P P h v d):Af H w env names (st.set i .f) (ρ.set i d) T P h':=λj y k' h1 h2 h3=>by
 by_cases q:i=j
 ·subst q;rw[hi] at h1;cases h1;by_cases hl:i<st.length
  ·refine⟨v,hx,?_⟩;have e1:zq (ρ.set i d) i=d:=by rw[j3,if_pos ⟨rfl,hlen▸hl⟩]
   have e2:VS.at (st.set i .f) i=.f:=by rw[VS.at_set,if_pos ⟨rfl,hl⟩]
   rw[e1,e2,if_neg (by trivial)];exact rv.move (λa o p e=>⟨p,B.keepO a o (hP a p) e⟩) (λa o p e=>⟨p,B.keepO a o (hP a p) e⟩)
  ·rw[VS.at_set,if_neg (by simp[hl])] at h3;exact absurd (by unfold VS.at;rw[uH,wO (by exact Nat.not_lt.mp ‹_›)];rfl) h3
 ·have e1:zq (ρ.set i d) j=zq ρ j:=by rw[j3,if_neg (by simp[q])]
  have e2:VS.at (st.set i .f) j=VS.at st j:=by rw[VS.at_set,if_neg (by simp[q])]
  rw[e2] at h3;rw[e1,e2];obtain⟨u,h4,h5⟩:=r j y k' h1 h2 h3;have hne:y≠x:=λe=>q (Gf hnd hi (e▸h1));refine⟨u,ho y u hne h4,h5.move (λa o p e=>?_) (λa o p e=>⟨p,B.keepO a o (hP a p) e⟩)⟩;split at p
  ·rename_i c;rw[if_pos c];exact⟨p,B.keepO a o (hT a p) e⟩
  ·rename_i c;rw[if_neg c];exact⟨p,B.keepO a o (hP a p) e⟩
end
theorem D6{cx:Cx}{x:Str}{i:Nat}(h:cx.tv? x=some i):∃k,cx.names.lookup x=some k/\(k=.local\/k=.cell)/\cx.var? x=some i:=by
 unfold Cx.tv? at h;split at h
 ·exact⟨_,by assumption,.inl rfl,h⟩
 ·exact⟨_,by assumption,.inr rfl,h⟩
 ·exact nn h
def I5(names:List (Str×NameKind))(st:List VS)(env:Env)(h h':Heap):Prop:=∀(j:Nat) (y:Str) (k:NameKind) (u:Value),VS.at st j=.o->names[j]?=some (y,k)->zz env h y u->zz env h' y u
section
variable{H:uP}{w:World}{A:uY}{E:Value->tX->Prop}{s:tX}{env:Env}{cx:Cx}{st:List VS}{ρ:zg}{T P:Addr->Prop}
set_option tactic.hygienic true in
theorem Gu{x:Str}{i:Nat}{v:Value}{d:D}{Q:Unit->tX->Prop}(hx:cx.tv? x=some i)(F:BF cx.names env s.heap)(V:Af H w env cx.names st ρ T P s.heap)(hnd:(cx.names.map (·.1)).Nodup)(hlen:st.length=ρ.length)
  (hT:∀a,T a->¬Aq env a)(hP:∀a,P a->¬Aq env a)(rv:zo H w P P s.heap v d)
  (h:∀h' tk,Fh cx.names env s.heap h'->BF cx.names env h'->Af H w env cx.names (st.set i .f) (ρ.set i d) T P h'->I5 cx.names (st.set i .f) env s.heap h'->zz env h' x v->Q () {s with heap:=h',toks:=tk}):
  wpAny (model H w) A (storeName env x v) Q E s:=by
 obtain⟨k,h1,h2,h3⟩:=D6 hx;obtain⟨k',h4,_,_⟩:=AQ h3;refine HJ F h1 h2 λh' tk B F' hv ho=>h h' tk B F' (V.store hnd hlen h4 B hT hP hv ho rv) (λj y kk u hj hy hu=>ho y u (λe=>?_) hu) hv
 (replace e:=vR e;subst e)
 have:=Gf hnd h4 hy;subst this;rw[VS.at_set] at hj;split at hj
 ·cases hj
 ·rename_i hne;have:¬i<st.length:=λq=>hne ⟨rfl,q⟩;unfold VS.at at hj;rw[uH,wO (by exact Nat.not_lt.mp ‹_›)] at hj;cases hj
theorem Ez(hx:cx.tv? x=some i)(F:BF cx.names env s.heap)(V:Af H w env cx.names st ρ T P s.heap)(hnd:(cx.names.map (·.1)).Nodup)(hlen:st.length=ρ.length)
  (hT:∀a,T a->¬Aq env a)(hP:∀a,P a->¬Aq env a)(rv:zo H w P P s.heap v d)
  (h:∀h' tk,Fh cx.names env s.heap h'->BF cx.names env h'->Af H w env cx.names (st.set i .f) (ρ.set i d) T P h'->I5 cx.names (st.set i .f) env s.heap h'->Q () {s with heap:=h',toks:=tk}):
  wpAny (model H w) A (storeName env x v) Q E s:=
 Gu hx F V hnd hlen hT hP rv λh' tk B F V S _=>h h' tk B F V S
theorem Bf(t:Tg):∀{st:List VS},(jv st t).length=st.length:=by
 induction t using Tg.casesOn with
 |one i=>intro st;simp[jv]
 |many is=>
  induction is with
  |nil=>intro st;rfl
  |cons i r ih=>intro st;exact(ih (st:=st.set i .f)).trans (by simp)
theorem D1:∀{is:List Nat} {ds:List D} {ρ ρ':zg},DZ ρ is ds=.ok ρ'->ρ'.length=ρ.length
 |[],[],_,_,h=>by(obtain rfl:=jz h;clear h);rfl
 |i::is,d::ds,ρ,ρ',h=>(D1 (ρ:=ρ.set i d) (is:=is) (ds:=ds) h).trans (by simp)
 |[],_::_,_,_,h=>by exact ns h
 |_::_,[],_,_,h=>by exact ns h
theorem DB(h:jy ρ t d=.ok ρ'):ρ'.length=ρ.length:=by
 induction t using Tg.casesOn with
 |one i=>(obtain rfl:=jz h;clear h);simp
 |many is=>induction d using uG with
  |tuple ds=>exact D1 h
  |_=>exact ns h
theorem Hk{is:List Nat}:∀{st:List VS} {j:Nat},VS.at (is.foldl (λs i=>s.set i .f) st) j=.o->VS.at st j=.o:=by
 induction is with
 |nil=>
  intro _ _ h;exact h
 |cons i r ih=>
  intro st j h;skip;have h1:=ih (st:=st.set i .f) h;rw[VS.at_set] at h1;split at h1
  ·cases h1
  ·exact h1
theorem I9:∀{is:List Nat} {vs:List Value} {ds:List D} {st:List VS} {ρ ρ':zg} {s:tX} {Q:Unit->tX->Prop},es.mapM (DN cx)=some is->DZ ρ is ds=.ok ρ'->
  BF cx.names env s.heap->Af H w env cx.names st ρ T P s.heap->(cx.names.map (·.1)).Nodup->st.length=ρ.length->
  (∀a,T a->¬Aq env a)->(∀a,P a->¬Aq env a)->zk P s.heap vs ds->
  (∀h' tk,Fh cx.names env s.heap h'->BF cx.names env h'->Af H w env cx.names (is.foldl (λs i=>s.set i .f) st) ρ' T P h'->I5 cx.names (is.foldl (λs i=>s.set i .f) st) env s.heap h'->Q () {s with heap:=h',toks:=tk})->
  wpAny (model H w) A (assignInOrder ((zax es env).map (·.2)) vs) Q E s:=by
 induction es with
 |nil=>
  intro is vs ds st ρ ρ' s Q he hv F V hnd hlen hT hP rv h;skip;simp at he;(replace he:=vR he;subst he);induction ds using uB with
  |nil=>
   cases rv;(obtain rfl:=vR (jz hv);clear hv)
   exact uC (h s.heap s.toks (Fh.refl _ _ _) F V λ_ _ _ _ _ _ q=>q)
  |cons=>exact ns hv
 |cons e es ih=>
  intro is vs ds st ρ ρ' s Q he hv F V hnd hlen hT hP rv h;skip;obtain⟨i,js,hi,hr⟩:=mm he;obtain⟨x,hn,hx⟩:=ob hi;obtain⟨p⟩:=kD hn;induction ds using uB with
  |nil=>exact ns hv
  |cons d ds=>
   cases rv with
   |cons ra rr=>
    show wpAny (model H w) A (do holding _ (assign (.Name x p) env _);assignInOrder ((zax es env).map (·.2)) _) Q E s;refine tY (y9 (zap (Ez hx F V hnd hlen hT hP (.rep ra) λh' tk B F' V' S'=>?_)));exact ih (s:={s with heap:=h',toks:=tk}) hr hv F' V' hnd (by simp[hlen]) hT hP (rr.move λa o p e=>⟨p,B.keepO a o (hP a p) e⟩) λh₂ tk₂ B₂ F₂ V₂ S₂=>h h₂ tk₂ (B.trans B₂) F₂ V₂ λj y k u hj hy hu=>S₂ j y k u hj hy (S' j y k u (Hk hj) hy hu)
theorem Bo(env:Env):∀{es:List Expr} {is:List Nat},es.mapM (DN cx)=some is->(zax es env).length=is.length/\(zax es env).findIdx? (·.1)=none
 |[],is,h=>by simp at h;subst h;exact⟨rfl,rfl⟩
 |e::es,is,h=>by
  obtain⟨i,js,hi,hr⟩:=mm h;obtain⟨x,hn,hx⟩:=ob hi;obtain⟨p⟩:=kD hn;obtain⟨h1,h2⟩:=Bo env hr;refine⟨by show(zax es env).length+1=_;rw[h1];rfl,?_⟩;show List.findIdx? _ ((false,assign (.Name x p) env)::zax es env)=none;rw[List.findIdx?_cons,h2];rfl
theorem Go:∀{is:List Nat} {ds:List D} {ρ ρ':zg},DZ ρ is ds=.ok ρ'->is.length=ds.length
 |[],[],_,_,_=>rfl
 |i::is,d::ds,ρ,ρ',h=>by simp[Go (ρ:=ρ.set i d) (is:=is) (ds:=ds) h]
 |[],_::_,_,_,h=>by exact ns h
 |_::_,[],_,_,h=>by exact ns h
theorem FS(ht:B7 cx t=some tg)(hb:jy ρ tg d=.ok ρ')(hh:A.handled=none)(F:BF cx.names env s.heap)(V:Af H w env cx.names st ρ T P s.heap)
  (hnd:(cx.names.map (·.1)).Nodup)(hlen:st.length=ρ.length)(hT:∀a,T a->¬Aq env a)(hP:∀a,P a->¬Aq env a)(rv:zo H w P P s.heap v d)
  (h:∀h' tk,Fh cx.names env s.heap h'->BF cx.names env h'->Af H w env cx.names (jv st tg) ρ' T P h'->I5 cx.names (jv st tg) env s.heap h'->Q () {s with heap:=h',toks:=tk}):
  wpAny (model H w) A (assign t env v) Q E s:=by
 cases Wp ht with
 |one hx=>(obtain rfl:=jz hb;clear hb);exact zap (Ez hx F V hnd hlen hT hP rv h)
 |many hx=>
  induction d using uG with
  |tuple ds=>
   obtain⟨a,o,vs,n,rfl,pa,ho,hc,hd,hr,hz⟩:=rv.inv_tuple;obtain⟨h1,h2⟩:=Bo env hx;refine wpAny_assign_Tuple hh ⟨o,ho,hc,n,hd⟩ (h1.trans ((Go hb).trans (jc hr).symm)) h2 λh' he=>?_;have k:zx s.heap h':=λb o e=>he b o (vA (wU e)) e;exact I9 (s:={s with heap:=h'}) hx hb (F.keep λa o _ e=>k a o e) (V.keep k) hnd hlen hT hP (hr.keep k) λh₂ tk₂ B₂ F₂ V₂ S₂=>h h₂ tk₂ ((Fh.of_keep k).trans B₂) F₂ V₂ λj y kk u hj hy hu=>S₂ j y kk u hj hy (hu.keep k)
  |_=>exact ns hb
end
noncomputable def ownsTuple(n:String):Bool:=["enumerate","zip","dict_itemiterator","dict_reverseitemiterator","odict_iterator","itertools.zip_longest","itertools.pairwise"].contains n
section
variable(H:uP)(w:World)
inductive TG(A:uY)(T P:Addr->Prop)(h₀ h:Heap)(v:Value)(ds:List D):Prop
 |mk(I:Addr)(fp:List Addr)(PV:Nat->Value->Prop)(St:Nat->Heap->Prop)(e:v=.ref I)(n:h₀.get? I=none)(W:Walks H w A I fp [I] ds.length PV St)(st:St 0 h)(hfp:∀b∈fp,b≠I->T b/\∃o,h₀.get? b=some o)
  (hPV:∀i u,i<ds.length->PV i u->∃d,ds[i]?=some d/\jG P h₀ u d)(hcls:∀i h',St i h'->∃o n,h'.get? I=some o/\o.cls=.type n/\ownsTuple n=false/\¬NF o)
end
theorem G2{h h':Heap}{I a:Addr}{oI:Obj}(hk:∀b o,b≠I->h.get? b=some o->h'.get? b=some o)(hI:h'.get? I=some oI)(e:h'.get? a=none):h.get? a=none:=by
 cases q:h.get? a with
 |none=>rfl
 |some o=>exact sn ((hk a o (λz=>sn (hI.symm.trans (z▸e))) q).symm.trans e)
theorem Da{h h':Heap}{I a:Addr}(hk:∀b o,b≠I->h.get? b=some o->h'.get? b=some o)(hne:a≠I)(e:h'.get? a=none):h.get? a=none:=by
 cases q:h.get? a with
 |none=>rfl
 |some o=>exact sn ((hk a o hne q).symm.trans e)
theorem IE(hI:h.get? I=some oI)(hn:¬NF oI)(hk:∀b o,b≠I->h.get? b=some o->h'.get? b=some o):Ty h h':=λa o e nf=>
 ⟨o,hk a o (λz=>hn (zP (hI.symm.trans (z▸e))▸nf)) e,nf⟩
theorem CJ{h h':Heap}{I:Addr}(hk:∀b o,b∉[I]->h.get? b=some o->h'.get? b=some o)(b:Addr)(o:Obj)(hne:b≠I)(e:h.get? b=some o):h'.get? b=some o:=hk b o (λq=>hne (List.mem_singleton.mp q)) e
theorem Jr{α:Type}{ds:List α}{j:Nat}{d:α}(hd:ds[j]?=some d):ds.drop j=d::ds.drop (j+1):=by
 obtain⟨h1,h2⟩:=List.getElem?_eq_some_iff.mp hd;rw[<-h2];exact wW h1
theorem Gc(h:j<n):n+1 - (j+1)<n+1 - j:=Nat.sub_lt_sub_left (zam h) (w9 j)
section
variable{H:uP}{w:World}{A:uY}{E:Value->tX->Prop}{s:tX}{P T:Addr->Prop}
theorem Ga(ho:s.heap.get? I=some o)(hc:o.cls=.type n)(hn:ownsTuple n=false)(h:Q () s):
  wpAny (model H w) A (yJ t (.ref I) v) Q E s:=by
 have key:∀a:Addr,wpAny (model H w) A (do
   let o <-load I
   match o.cls,o.data with
   |.type n,.fields vs=>
    if["enumerate","zip","dict_itemiterator","dict_reverseitemiterator","odict_iterator","itertools.zip_longest","itertools.pairwise"].contains n&&vs[0]?==some (rawInt a) then do
     rule "for.unpacks-the-owned-tuple"
     updateField I 0 .none
    else pure ()
   |_,_=>pure ()) Q E s:=λa=>by
  refine tY (wpAny_load ho ?_);rw[hc];cases o.data with
  |fields vs=>
   have hn':(["enumerate","zip","dict_itemiterator","dict_reverseitemiterator","odict_iterator","itertools.zip_longest","itertools.pairwise"].contains n&&vs[0]?==some (rawInt a))=false:=by
    have:["enumerate","zip","dict_itemiterator","dict_reverseitemiterator","odict_iterator","itertools.zip_longest","itertools.pairwise"].contains n=false:=hn
    rw[this];rfl
   simp only[hn'];exact uC h
  |_=>exact uC h
 induction t using v4 with
 |Tuple es c p=>induction v using zbv with
  |ref a=>exact key a
  |_=>exact uC h
 |List es p=>induction v using zbv with
  |ref a=>exact key a
  |_=>exact uC h
 |_=>exact uC h
theorem j6(h:Heap):h.get? h.objs.size=none:=xF (uK _)
theorem Eu{h:Heap}{a:Addr}{o:Obj}(e:h.get? a=some o):a≠h.objs.size:=vA (wU e)
end
theorem zk.get':∀{ds:List D},zk P h vs ds->∀{i:Nat} {v:Value},vs[i]?=some v->∃d,ds[i]?=some d/\jG P h v d:=by
 induction vs with
 |nil=>intro ds r i v e;exact nn e
 |cons w vs ih=>
  intro ds r i v e;cases r with
  |@cons _ _ d _ a r=>induction i using w3 with
   |zero=>(obtain rfl:=zP e;clear e);exact⟨d,rfl,a⟩
   |succ i=>exact ih r e
section
variable{H:uP}{w:World}{A:uY}{E:Value->tX->Prop}{s:tX}{P T:Addr->Prop}
theorem zo.inv_listT(hPT:∀a,P a->T a)(r:zo H w T P h v (.list xs)):∃(a:Addr) (o:Obj) (vs:Array Value) (n:Nat),v=.ref a/\T a/\h.get? a=some o/\o.cls=.type "list"/\o.dict=none/\o.data=.seq vs n/\zk P h vs.toList xs/\xs.length<=zv:=by
 cases r with
 |rep r=>cases r with|list p ho hc hd hda hr hz=>exact⟨_,_,_,_,rfl,hPT _ p,ho,hc,hd,hda,hr,hz⟩
 |list t ho hc hd hda hr hz=>exact⟨_,_,_,_,rfl,t,ho,hc,hd,hda,hr,hz⟩
theorem zo.inv_dictT(r:zo H w T P h v (.dict kvs)):∃a,v=.ref a/\T a/\zS H w P h a kvs:=by
 cases r with
 |rep r=>cases r
 |dict t r=>exact⟨_,rfl,t,r⟩
theorem Dx.getKey(r:Dx P h uT l kvs):∀{i:Nat} {k:Int} {x:Value},l[i]?=some (k,x)->(kvs.map (·.1))[i]?=some (.int k):=by
 induction r with
 |nil=>intro i k x e;exact nn e
 |cons a r ih=>
  intro i k x e;induction i using w3 with
  |zero=>cases e;rfl
  |succ i=>exact ih e
theorem Dx.len(r:Dx P h uT l kvs):l.length=kvs.length:=by
 induction r with
 |nil=>rfl
 |cons a r ih=>exact congrArg (·+1) ih
theorem Li(h:Lh d=true):zX d (.int i)=true:=by
 induction d using uG with
 |int=>rfl
 |_=>exact ff h
theorem Iw(hb:b∈[I,a])(hne:b≠I):b=a:=(List.mem_cons.mp hb).elim (λq=>absurd q hne) λq=>List.mem_singleton.mp q
theorem Ll(hh:A.handled=none)(hPT:∀a,P a->T a)(r:zo H w T P s.heap v d)(hi:zA false d=.ok ds)
  (h:∀it h',zx s.heap h'->TG H w A T P s.heap h' it ds->Q it {s with heap:=h'}):wpAny (model H w) A (pyIter v) Q E s:=by
 induction d using uG with
 |list xs=>
  (obtain rfl:=vR (jz hi);clear hi)
  (obtain⟨a,o,vs,n,zr1,ta,ho,hc,hd,hda,hr,hz⟩:=r.inv_listT hPT;replace zr1:=vR zr1;subst zr1)
  have hl:s.heap.IsList a vs:=⟨o,ho,hc,n,hda⟩;have hne:=Eu ho;refine wpAny_pyIter_list hl (h _ _ (zx.push _ _) ⟨_,[s.heap.objs.size,a],_,_,rfl,j6 _,(jc hr)▸Walks.list hh s.heap.objs.size a hne vs,⟨⟨_,uX _ rfl,rfl,rfl⟩,⟨o,uO _ ho,hc,n,hda⟩⟩,?_,?_,?_⟩)
  ·exact λb hb hne'=>Iw hb hne'▸⟨ta,o,ho⟩
  ·intro i u _ hu;exact hr.get' (by simpa using hu)
  ·rintro i h' ⟨⟨ob,h1,h2,h3⟩,_⟩;exact⟨ob,_,h1,h2,by decide +kernel,λq=>q _ h3⟩
 |tuple xs=>
  (obtain rfl:=vR (jz hi);clear hi)
  (obtain⟨a,o,vs,n,zr2,pa,ho,hc,hda,hr,hz⟩:=r.inv_tuple;replace zr2:=vR zr2;subst zr2)
  have hl:s.heap.IsTuple a vs:=⟨o,ho,hc,n,hda⟩;have hne:=Eu ho;refine wpAny_pyIter_tuple hl (h _ _ (zx.push _ _) ⟨_,[s.heap.objs.size,a],_,_,rfl,j6 _,(jc hr)▸Walks.tuple hh s.heap.objs.size a hne vs,⟨⟨_,uX _ rfl,rfl,rfl⟩,⟨o,uO _ ho,hc,n,hda⟩⟩,?_,?_,?_⟩)
  ·exact λb hb hne'=>Iw hb hne'▸⟨hPT _ pa,o,ho⟩
  ·intro i u _ hu;exact hr.get' (by simpa using hu)
  ·rintro i h' ⟨⟨ob,h1,h2,h3⟩,_⟩;exact⟨ob,_,h1,h2,by decide +kernel,λq=>q _ h3⟩
 |str x=>
  (obtain rfl:=vR (jz hi);clear hi)
  (obtain⟨t,zr3,hok,hz⟩:=r.inv_str;replace zr3:=vR zr3;subst zr3)
  have hlen:x.cps.size=(x.cps.toList.map λc=>PyData.str ⟨#[c]⟩).length:=by simp
  have key:∀(ty:String) (hty:ownsTuple ty=false) (W:Walks H w A s.heap.objs.size [s.heap.objs.size] [s.heap.objs.size] x.cps.size (SignAt x) (λi h=>h.IsStrIter s.heap.objs.size ty x t i)),
    TG H w A T P s.heap (s.heap.push {cls:=.type ty,data:=.fields #[.str x t,.int 0 0]}) (.ref s.heap.objs.size) (x.cps.toList.map λc=>.str ⟨#[c]⟩):=λty hty W=>
   ⟨_,_,_,_,rfl,j6 _,hlen▸W,⟨_,uX _ rfl,rfl,rfl⟩,λb hb hne'=>by simp at hb;exact absurd hb hne',λi u _ hu=>by
     (obtain⟨c,t',h1,zr4⟩:=hu;replace zr4:=vR zr4;subst zr4)
     refine⟨.str ⟨#[c]⟩,by simp[h1],.str _ _ ?_ (by show(1:Nat)<=zv;decide)⟩;have:=kc.mp hok;rw[kc];intro e he;have hm:c∈x.cps.toList:=Array.mem_toList_iff.mpr (Array.mem_of_getElem? h1);simp at he;(replace he:=vR he;subst he);exact this _ hm,
    λi h' hs=>by obtain⟨ob,h1,h2,h3⟩:=hs;exact⟨ob,_,h1,h2,hty,λq=>q _ h3⟩⟩
  cases ha:x.cps.all (·<128)
  ·exact wpAny_pyIter_wide ha (h _ _ (zx.push _ _) (key _ (by decide +kernel) (Walks.strWide hh _ x t)))
  ·exact wpAny_pyIter_ascii ha (h _ _ (zx.push _ _) (key _ (by decide +kernel) (Walks.strAscii hh _ x t)))
 |dict kvs=>
  obtain⟨hall,hi'⟩:=GM hi
  ·(obtain rfl:=vR (jz hi');clear hi')
   (obtain⟨a,zr5,ta,hd⟩:=r.inv_dictT;replace zr5:=vR zr5;subst zr5)
   obtain⟨l,m,q⟩:=hd.int (i:=0) (uF.mpr λkv hkv=>Li (uF.mp hall kv hkv));obtain⟨ep,hat⟩:=m.dictAt;obtain⟨o,es,ho,_⟩:=id hat;have hne:=Eu ho;have hl:l.length=(kvs.map (·.1)).length:=by rw[q.len];simp
   have W':Walks H w A s.heap.objs.size [s.heap.objs.size,a] [s.heap.objs.size] (kvs.map (·.1)).length (λi v=>∃k x,l[i]?=some (k,x)/\(xT H w).is k v=true) (λi h=>h.IsKeyIter s.heap.objs.size a i l.length ep/\h.DictAt (xT H w) a l ep):=by
    rw[<-hl];exact Walks.dictKeys hh s.heap.objs.size a hne l ep
   refine wpAny_pyIter_dict hd.1 hat (h _ _ (zx.push _ _) ⟨_,[s.heap.objs.size,a],_,_,rfl,j6 _,W',⟨⟨_,uX _ rfl,rfl,rfl⟩,hat.at' λo e=>uO _ e⟩,?_,?_,?_⟩)
   ·exact λb hb hne'=>Iw hb hne'▸⟨ta,o,ho⟩
   ·rintro i u _ ⟨k,x,h1,h2⟩
    (obtain⟨t,zr6⟩:=Value.isInt_shape h2;replace zr6:=vR zr6;subst zr6)
    exact⟨_,q.getKey h1,.int _ _⟩
   ·rintro i h' ⟨⟨ob,h1,h2,h3⟩,_⟩;exact⟨ob,_,h1,h2,by decide +kernel,λq=>q _ h3⟩
 |_=>exact ns hi
theorem Lk(hh:A.handled=none)(r:zo H w T P s.heap v d)(hi:zA true d=.ok ds)
  (h:∀it h' tk,zx s.heap h'->TG H w A T' P s.heap h' it ds->Q it {s with heap:=h',toks:=tk}):wpAny (model H w) A (call (.type "range") [v]) (λx s₁=>wpAny (model H w) A (pyIter x) Q E s₁) E s:=by
 induction d using uG with
 |int i=>
  obtain⟨hz,hi'⟩:=GM hi
  ·(obtain rfl:=jz hi';clear hi')
   obtain⟨t,rfl⟩:=r.inv_int;refine call_range_1 ?_;have hz':zv=1048576:=by decide
   refine wpAny_pyIter_range (IsRange.new _ _ _ _ _ _ _) (small_one (by decide) (by decide) (by lia) (by lia)) (h _ _ _ ((zx.push _ _).trans (zx.push _ _)) ?_);obtain⟨hz1,hz2⟩:=hz;generalize hh1:s.heap.push _=h1;have hsz:h1.objs.size=s.heap.objs.size+1:=by rw[<-hh1,zas]
   have hnone:s.heap.get? h1.objs.size=none:=xF (by lia);have W:Walks H w A h1.objs.size [h1.objs.size] [h1.objs.size] ((v5 i.toNat).map λ(k:Nat)=>uT k).length (λi v=>∃t,v=.int (0+i*1) t) (λj h=>IsRangeIter h h1.objs.size (0+(j:Nat)*1) ((i.toNat:Int) - (j:Nat)) 1):=by
    rw[show((v5 i.toNat).map λ(k:Nat)=>uT k).length=i.toNat by simp];exact Walks.range hh h1.objs.size 0 1 i.toNat
   refine⟨_,[h1.objs.size],_,_,rfl,hnone,W,?_,λb hb hne'=>by simp at hb;exact absurd hb hne',?_,?_⟩
   ·have e:((i.toNat:Nat):Int) - ((0:Nat):Int)=Builtin.Range.rangeSize 0 i 1:=by rw[rangeSize_one];split<;>first|exact(zaa ‹_›).trans (Int.sub_zero i).symm|lia
    show IsRangeIter _ _ _ _ _;rw[e];exact uX _ rfl
   ·rintro j u hj ⟨t',rfl⟩;have hj':j<i.toNat:=by simpa using hj
    refine⟨.int j,by simp[hj'],?_⟩;have e:(0+(j:Int)*1)=j:=by rw[Int.zero_add,Int.mul_one]
    rw[e];exact .int _ _
   ·rintro j h' hs;exact⟨_,"range_iterator",hs,rfl,by decide +kernel,λq=>q _ rfl⟩
 |_=>exact ns hi
end
theorem EW(h:zA rg d=.ve):False:=by
 induction rg using tZ with
 |true=>exact kH (λ_=>jT B8 BC) h
 |false=>induction d using uG with
  |dict kvs=>exact jT B8 BC h
  |_=>cases h
section
variable(H:uP)(w:World)(zc:Heap)(G:List D)(cf:Nat->List D->R D)(n:Nat)
def Pg(names:List (Str×NameKind))(st:List VS)(b:Bool)(env:Env)(iter:Expr)(rg:Bool)(it:PE):Prop:=
 ∀(P:Addr->Prop) (A:uY) (fs:List Env) (s:tX) (ρ:zg) (Q E:Value->tX->Prop),EC zc P A fs n env s.heap->Np H w env names st ρ P s.heap->
  (∀ds v s' h₀,R.bind (ev G cf it ρ) (zA rg)=.ok ds->Ch s s'->zx s.heap h₀->zx h₀ s'.heap->TG H w A (Ta b P) P h₀ s'.heap v ds->Q v s')->
  (ev G cf it ρ=.ve->∀x s',Bn fs s x s'->E x s')->R.bind (ev G cf it ρ) (zA rg)≠.stuck->
  wpAny (model H w) A (eval iter env) (λx s₁=>wpAny (model H w) A (pyIter x) Q E s₁) E s
end
section
variable{H:uP}{w:World}{zc:Heap}{G:List D}{cf:Nat->List D->R D}{n:Nat}{names:List (Str×NameKind)}{st:List VS}{b:Bool}{env:Env}{F:List zL}{K:List (Str×D)}{mg mb:Str->Option Value}
theorem Wt:∀a,P a->Ta b P a:=λa p=>by cases b<;>first|exact p|trivial
theorem SH(h:zH H w zc G cf n names st b env (eval iter env) it):Pg H w zc G cf n names st b env iter false it:=by
 intro P A fs s ρ Q E ec vo hok hve hns;refine h P A fs s ρ _ E ec vo (λd v s₁ hd c1 r1=>?_) hve (λe=>hns (by rw[e];rfl));rw[hd] at hok hns;simp only[R.bind_ok] at hok hns;cases hi:zA false d with
 |ok ds=>exact Ll ec.handled Wt r1 hi λit h' k I=>hok ds it _ s₁.heap hi (c1.trans (Ch.of _ k)) c1.keep k I
 |ve=>exact(EW hi).elim
 |stuck=>exact absurd hi hns
theorem OK(B:kq F K mg mb zc)(hL:CY cx env)(hf:cx.isB f "range"=true)(hx:zK x)(h:zH H w zc G cf n names st true env (eval x env) it):
  Pg H w zc G cf n names st b env (.Call (.Name f p) [x] [] pos) true it:=by
 intro P A fs s ρ Q E ec vo hok hve hns;refine Db B hL hf KY mem_range (.inr ⟨_,rfl⟩) ec.stays ec.kind ec.globals ec.builtins hx ?_;refine h P A fs s ρ _ E ec vo (λd v s₁ hd c1 r1=>?_) hve (λe=>hns (by rw[e];rfl));rw[hd] at hok hns;simp only[R.bind_ok] at hok hns;cases hi:zA true d with
 |ok ds=>exact Lk (T:=Ta true P) (P:=P) ec.handled r1 hi λit h' tk k I=>hok ds it _ s₁.heap hi (c1.trans (Ch.of _ k)) c1.keep k I
 |ve=>exact(EW hi).elim
 |stuck=>exact absurd hi hns
end
theorem HY(hg:gens[k]?=some ⟨target,iter,ifs,0⟩):
  zaA (.ListComp elt gens scope pos) k it acc env=(do
   zaE iter.pos
   match <-pyNext it with
   |none=>pure (.done .next)
   |some v=>
    yJ target it v
    assign target env v
    let mut ok:=true
    for c in ifs do
     if ok then ok <-xU c env (eval c env)
    if ok then
     match gens[k+1]? with
     |some g'=>
      let x <-eval g'.iter env
      zaE g'.iter.pos
      let x <-if g'.is_async != 0 then foldedIterable g'.iter x else xH g'.iter env x
      let _ <-runOwn (.compStart (.ListComp elt gens scope pos) (k+1) (<-holding [x] (if g'.is_async != 0 then asyncIter x else pyIter x)) acc env) env
     |none=>(do let _ <-call (.builtin "list.append") [acc,<-eval elt env])
    again (.compLoop (.ListComp elt gens scope pos) k it acc env)):=by
 unfold zaA;simp only[hg];rfl
section
variable{M:Model}{A:uY}{E:Value->tX->Prop}{s:tX}{env:Env}
def L1(M:Model)(A:uY)(elt:Expr)(gens:List xE)(scope:Scope)(pos:Pos)(k:Nat)(acc:Value)(env:Env)(Q:tX->Prop)(E:Value->tX->Prop)(s:tX):Prop:=
 match gens[k+1]? with
 |some g'=>g'.is_async=0/\(∀x,xH g'.iter env x=pure x)/\wpAny M A (eval g'.iter env) (λx s₅=>wpAny M A (pyIter x) (λit' s₆=>
   zaD M A (.compStart (.ListComp elt gens scope pos) (k+1) it' acc env) (λr s₇=>match r with|.ok _=>Q s₇|.error e=>cameBackBy M A env E e s₇) s₆) E s₅) E s
 |none=>wpAny M A (eval elt env) (λx s₅=>wpAny M A (call (.builtin "list.append") [acc,x]) (λ_ s₆=>Q s₆) E s₅) E s
noncomputable def IR(ifs:List Expr)(env:Env):Sem Bool:=
 forIn ifs true λc r=>if r=true then do let ok <-xU c env (eval c env);pure (zbi ok) else pure (zbi r)
theorem KF(hg:gens[k]?=some ⟨target,iter,ifs,0⟩)
  (h:wpAny M A (pyNext it) (λr s₁=>match r with
   |none=>Q (.done .next) s₁
   |some v=>wpAny M A (yJ target it v) (λ_ s₂=>wpAny M A (assign target env v) (λ_ s₃=>wpAny M A (IR ifs env) (λok s₄=>
     if ok=true then L1 M A elt gens scope pos k acc env (Q (.again (.compLoop (.ListComp elt gens scope pos) k it acc env))) E s₄
     else Q (.again (.compLoop (.ListComp elt gens scope pos) k it acc env)) s₄) E s₃) E s₂) E s₁) E s):
  wpAny M A (zaA (.ListComp elt gens scope pos) k it acc env) Q E s:=by
 rw[HY hg];refine tY (wH (tY (vI h (λr s₁ h₁=>?_) λ_ _ h'=>h')));induction r using uW with
 |none=>exact uC h₁
 |some v=>
  refine tY (vI h₁ (λ_ s₂ h₂=>tY (vI h₂ (λ_ s₃ h₃=>tY (vI h₃ (λok s₄ h₄=>?_) λ_ _ h'=>h')) λ_ _ h'=>h')) λ_ _ h'=>h');induction ok using tZ with
  |false=>exact uC h₄
  |true=>
   unfold L1 at h₄;cases hk:gens[k+1]? with
   |none=>
    rw[hk] at h₄;exact tY (tY (vI h₄ (λ_ s₅ h₅=>tY (vI h₅ (λ_ s₆ h₆=>uC (uC h₆)) λ_ _ h'=>h')) λ_ _ h'=>h'))
   |some g'=>
    rw[hk] at h₄;obtain⟨ha,hs,h₄⟩:=h₄;have ha':(g'.is_async != 0)=false:=by rw[ha];rfl
    simp only[ha',vQ,if_false];refine tY (vI h₄ (λx s₅ h₅=>tY (wH (tY (za9 (hs x) (tY (y9 (vI h₅ (λit' s₆ h₆=>?_) λ_ _ h'=>h'))))))) λ_ _ h'=>h');exact tY (wpAny_runOwn (codeAny_mono h₆ λr s' hr=>by
     induction r using Except.casesOn with
     |ok f=>exact uC hr
     |error e=>exact hr))
theorem GH{H:uP}{w:World}{R:Result->tX->Prop}{elt target iter:Expr}{gens:List xE}{ifs:List Expr}{scope:Scope}{pos:Pos}{it acc:Value}{k:Nat}(hg:gens[k]?=some ⟨target,iter,ifs,0⟩)
  (h0:zaD (model H w) A (.compLoop (.ListComp elt gens scope pos) k it acc env) R s)
  (h:wpAny (model H w) A (pyIter it) (λit' s'=>zaD (model H w) A (.compLoop (.ListComp elt gens scope pos) k it' acc env) R s')
   (notedBy (model H w) A env λx s'=>R (.error x) s') s):
  zaD (model H w) A (.compStart (.ListComp elt gens scope pos) k it acc env) R s:=by
 refine codeAny_of_tree ?_;show wpAny _ _ ((compStart (.ListComp elt gens scope pos) k it acc env).onRaise (λx=>do noteFrame x env;zaE theWindowsPlace)) _ _ s;refine wpAny_notedAt ?_;unfold compStart;simp only[show clausesOf (.ListComp elt gens scope pos)=gens from rfl,hg];refine tY (wpAny_askSetting (wpAny_ite ?_));split
 ·exact tY (uC (uC (And.intro rfl h0)))
 ·exact tY (wpAny_rule (tY (wH (tY (vI h (λit' s' h'=>uC (And.intro rfl h')) λ_ _ x=>x)))))
end
section
variable(H:uP)(w:World)(zc:Heap)(n:Nat)
structure GY(cx:Cx)(env:Env)(D:Addr)(T P:Addr->Prop)(A:uY)(fs:List Env)(st:List VS)(σ:zg)(ys:List PyData)(s:tX):Prop where
 ec:EC zc P A fs n env s.heap
 fram:BF cx.names env s.heap
 vok:Af H w env cx.names st σ T P s.heap
 acc:∃vs,s.heap.PlainList D vs/\zk P s.heap vs.toList ys
 len:st.length=σ.length
 pD:¬P D
 tD:¬T D
 oD:¬Aq env D
 tO:∀a,T a->¬Aq env a
structure O6(names:List (Str×NameKind))(env:Env)(D:Addr)(s s':tX):Prop where
 keep:∀a o,a≠D->¬bX names env a->s.heap.get? a=some o->s'.heap.get? a=some o
 alloc:jS s.heap s'.heap
 os:s'.os=s.os
 gens:vT s.gens->vT s'.gens
end
theorem O6.refl(names:List (Str×NameKind))(env:Env)(D:Addr)(s:tX):O6 names env D s s:=⟨λ_ _ _ _ e=>e,jS.refl _,rfl,id⟩
theorem O6.trans{names:List (Str×NameKind)}{env:Env}{D:Addr}{s s' s₂:tX}(x:O6 names env D s s')(y:O6 names env D s' s₂):O6 names env D s s₂:=
 ⟨λa o h1 h2 e=>y.keep a o h1 h2 (x.keep a o h1 h2 e),x.alloc.trans y.alloc,y.os.trans x.os,λg=>y.gens (x.gens g)⟩
theorem O6.of_ch{names:List (Str×NameKind)}{env:Env}{D:Addr}{s s':tX}(x:Ch s s'):O6 names env D s s':=⟨λa o _ _ e=>x.keep a o e,.of_keep x.keep,x.os,x.gens⟩
section
variable{H:uP}{w:World}{zc:Heap}{n:Nat}{cx:Cx}{env:Env}{D:Addr}{T P:Addr->Prop}{A:uY}{fs:List Env}{st:List VS}{σ:zg}{ys:List PyData}{s s':tX}
theorem GY.vok'(c:GY H w zc n cx env D T P A fs st σ ys s):Np H w env cx.names st σ P s.heap:=c.vok.vok c.tO
theorem GY.ch(c:GY H w zc n cx env D T P A fs st σ ys s)(x:Ch s s'):GY H w zc n cx env D T P A fs st σ ys s':=
 {c with ec:=c.ec.keep x.keep,fram:=c.fram.keep λa o _ e=>x.keep a o e,vok:=c.vok.keep x.keep,acc:=let ⟨vs,h1,h2⟩:=c.acc;⟨vs,h1.at λo e=>x.keep _ o e,h2.keep x.keep⟩}
theorem GY.push(c:GY H w zc n cx env D T P A fs st σ ys s)(r:jG P s.heap v d)(h0:s.heap.PlainList D vs)(hr:zk P s.heap vs.toList ys)(h1:h'.PlainList D (vs.push v))(h2:w6 D s.heap h'):
  GY H w zc n cx env D T P A fs st σ (ys++[d]) {s with heap:=h'}/\O6 cx.names env D s {s with heap:=h'}:=by
 have kp:∀a o,a≠D->s.heap.get? a=some o->h'.get? a=some o:=λa o hn e=>h2.extBut a o hn e;have mP:∀a o,P a->s.heap.get? a=some o->P a/\h'.get? a=some o:=λa o p e=>⟨p,kp a o (λq=>c.pD (q▸p)) e⟩;have al:jS s.heap h':=λa o e=>by
  by_cases q:a=D
  ·obtain⟨m,hm⟩:=h1;exact⟨_,q▸hm,λ_ vs q=>by cases q⟩
  ·exact⟨o,kp a o q e,id⟩
 refine⟨{c with ec:=c.ec.change mP al.nf c.ec.own c.ec.nofr (c.ec.pnew.alloc al),fram:=c.fram.keep λa o hO e=>kp a o (λq=>c.oD (q▸hO.own)) e,vok:=c.vok.move (λx u hv=>?_) (λa o t e=>⟨t,kp a o (λq=>c.tD (q▸t)) e⟩) mP,acc:=⟨_,h1,?_⟩},⟨λa o h1 _ e=>kp a o h1 e,al,rfl,id⟩⟩
 ·induction hv using zz.casesOn with
  |loc m a b d=>exact .loc m a (b.at' λo e=>kp _ o (λq=>c.oD (.inl q.symm)) e) d
  |cell c' a b d=>obtain⟨ob,h3,h4⟩:=d;exact .cell c' a b ⟨ob,kp c' ob (λq=>c.oD (.inr ⟨x,q▸b⟩)) h3,h4⟩
 ·simpa using (hr.move mP).append (.one (r.move mP))
theorem GY.move{s':tX}{P' T':Addr->Prop}(c:GY H w zc n cx env D T P A fs st σ ys s)(mP:∀a o,P a->s.heap.get? a=some o->P' a/\s'.heap.get? a=some o)(mT:∀a o,T a->s.heap.get? a=some o->T' a/\s'.heap.get? a=some o)
  (mO:∀a o,Aq env a->s.heap.get? a=some o->s'.heap.get? a=some o)(mD:∀o,s.heap.get? D=some o->s'.heap.get? D=some o)(al:Ty s.heap s'.heap)(pn:Ae P' s'.heap)
  (hO:∀a,P' a->¬Aq env a)(hN:∀a,P' a->a∉Bl fs)(tO:∀a,T' a->¬Aq env a)(pD:¬P' D)(tD:¬T' D):GY H w zc n cx env D T' P' A fs st σ ys s' where
 ec:=c.ec.change mP al hO hN pn
 fram:=c.fram.keep λa o q e=>mO a o q.own e
 vok:=c.vok.move (λx u hv=>by
  induction hv using zz.casesOn with
  |loc m a b d=>exact .loc m a (b.at' λo e=>mO _ o (.inl rfl) e) d
  |cell c' a b d=>obtain⟨ob,h3,h4⟩:=d;exact .cell c' a b ⟨ob,mO c' ob (.inr ⟨x,b⟩) h3,h4⟩) mT mP
 acc:=let ⟨vs,h1,h2⟩:=c.acc;⟨vs,h1.at mD,h2.move mP⟩
 len:=c.len
 pD:=pD
 tD:=tD
 oD:=c.oD
 tO:=tO
theorem Po{is:List Nat}:∀{st:List VS} {i:Nat},VS.at (is.foldl (λs i=>s.set i .f) st) i=VS.at st i\/VS.at (is.foldl (λs i=>s.set i .f) st) i=.f:=by
 induction is with
 |nil=>
  intro _ _;exact .inl rfl
 |cons j r ih=>
  intro st i;skip;have h1:=ih (st:=st.set j .f) (i:=i);simp only[wX];rcases h1 with h1|h1
  ·rw[h1,VS.at_set];split
   ·exact .inr rfl
   ·exact .inl rfl
  ·exact .inr h1
theorem Fi:VS.at (jv st t) i=VS.at st i\/VS.at (jv st t) i=.f:=by
 induction t using Tg.casesOn with
 |one j=>simp only[jv];rw[VS.at_set];split<;>simp
 |many is=>exact Po
theorem Af.weak{h:Heap}{t:Tg}{names:List (Str×NameKind)}(hPT:∀a,P a->T a)(v:Af H w env names (jv st t) σ T P h):Af H w env names st σ T P h:=λi x k h1 h2 h3=>by
 rcases Fi (t:=t) (st:=st) (i:=i) with e|e
 ·obtain⟨u,h4,h5⟩:=v i x k h1 h2 (by rw[e];exact h3);rw[e] at h5;exact⟨u,h4,h5⟩
 ·obtain⟨u,h4,h5⟩:=v i x k h1 h2 (by rw[e];trivial);rw[e,if_neg (by trivial)] at h5;refine⟨u,h4,?_⟩;split
  ·exact h5.move (λa o p e=>⟨hPT a p,e⟩) (λa o p e=>⟨p,e⟩)
  ·exact h5
end
section
variable(H:uP)(w:World)(zc:Heap)(G:List D)(cf:Nat->List D->R D)(n:Nat)
def Pf(cx:Cx)(env:Env)(L:Addr)(elt:Expr)(gens:List xE)(scope:Scope)(pos:Pos)(k:Nat)(ifs:List Expr)(st:List VS)(g:PG):Prop:=
 ∀(P T:Addr->Prop) (A:uY) (fs:List Env) (s:tX) (σ σ':zg) (ys zs:List D) (Q:tX->Prop) (E:Value->tX->Prop),(∀a,P a->T a)->GY H w zc n cx env L T P A fs st σ ys s->evG G cf g σ=.ok (zs,σ')->ys.length+zs.length<=zv->
  (∀s',GY H w zc n cx env L T P A fs st σ' (ys++zs) s'->O6 cx.names env L s s'->Q s')->
  wpAny (model H w) A (IR ifs env) (λok s₄=>if ok=true then L1 (model H w) A elt gens scope pos k (.ref L) env Q E s₄ else Q s₄) E s
end
section
variable{H:uP}{w:World}{zc:Heap}{G:List D}{cf:Nat->List D->R D}{n:Nat}{cx:Cx}{env:Env}{L:Addr}
theorem Jn{turn:zg->D->R (List D×zg)}{σ σe:zg}{d:D}{ds zs:List D}(h:kP turn σ (d::ds)=.ok (zs,σe)):
  ∃z1 σ1 z2,turn σ d=.ok (z1,σ1)/\kP turn σ1 ds=.ok (z2,σe)/\zs=z1++z2:=by
 simp only[W6] at h;cases h1:turn σ d with
 |ok q=>
  rw[h1] at h;simp only[R.bind_ok] at h;cases h2:kP turn q.2 ds with
  |ok q'=>rw[h2] at h;simp only[R.bind_ok] at h;cases h;exact⟨q.1,q.2,q'.1,rfl,h2,rfl⟩
  |_=>rw[h2] at h;cases h
 |_=>rw[h1] at h;cases h
structure qY(names:List (Str×NameKind))(env:Env)(L I:Addr)(s s':tX):Prop where
 keep:∀a o,a≠L->¬bX names env a->a≠I->s.heap.get? a=some o->s'.heap.get? a=some o
 alloc:∀a o,a≠I->s.heap.get? a=some o->∃o',s'.heap.get? a=some o'/\(NF o->NF o')
 os:s'.os=s.os
 gens:vT s.gens->vT s'.gens
inductive dJ(G:List D)(cf:Nat->List D->R D)(t:Tg)(g:PG)(ds ys zs:List D)(σe:zg)(St:Nat->Heap->Prop)(C:zg->List D->Prop)(X:Prop)(m:Nat)(h:Heap):Prop
 |mk (j:Nat) (σ₁:zg) (ys₁ zs₁:List D) (hj:j<=ds.length) (hm:m=ds.length+1 - j) (hgo:kP (λσ d=>R.bind (jy σ t d) λσ'=>evG G cf g σ') σ₁ (ds.drop j)=.ok (zs₁,σe)) (hys:ys₁++zs₁=ys++zs) (hst:St j h) (c:C σ₁ ys₁) (x:X)
theorem K4{elt target iter:Expr}{gens:List xE}{scope:Scope}{pos:Pos}{k:Nat}{ifs:List Expr}{st:List VS}{g:PG}{t:Tg}(hg:gens[k]?=some ⟨target,iter,ifs,0⟩)(ht:B7 cx target=some t)(hnd:(cx.names.map (·.1)).Nodup)
  (hG:Pf H w zc G cf n cx env L elt gens scope pos k ifs (jv st t) g)
  {P T:Addr->Prop}{A:uY}{fs:List Env}{s:tX}{σ σe:zg}{ys zs ds:List D}{I:Addr}{fp:List Addr}{PV:Nat->Value->Prop}{St:Nat->Heap->Prop}{Rr:Result->tX->Prop}(hPT:∀a,P a->T a)(c:GY H w zc n cx env L T P A fs st σ ys s)
  (pI:¬P I)(tI:¬T I)(oI:¬Aq env I)(dI:L≠I)(W:Walks H w A I fp [I] ds.length PV St)(hSt:St 0 s.heap)(hfp:∀b∈fp,b≠I->P b)(hPV:∀i u,i<ds.length->PV i u->∃d,ds[i]?=some d/\jG P s.heap u d)
  (hcls:∀i h',St i h'->∃o n,h'.get? I=some o/\o.cls=.type n/\ownsTuple n=false/\¬NF o)
  (hgo:kP (λσ d=>R.bind (jy σ t d) λσ'=>evG G cf g σ') σ ds=.ok (zs,σe))(hlen:ys.length+zs.length<=zv)
  (hR:∀s₂,GY H w zc n cx env L (λa=>T a\/a=I) (λa=>P a\/a=I) A fs st σe (ys++zs) s₂->qY cx.names env L I s s₂->Rr (.ok .next) s₂):
  zaD (model H w) A (.compStart (.ListComp elt gens scope pos) k (.ref I) (.ref L) env) Rr s:=by
 have main:zaD (model H w) A (.compLoop (.ListComp elt gens scope pos) k (.ref I) (.ref L) env) Rr s:=by
  refine codeAny_loop rfl (λm s₁=>dJ G cf t g ds ys zs σe St (λσ₁ ys₁=>GY H w zc n cx env L T P A fs st σ₁ ys₁ s₁) (qY cx.names env L I s s₁) m s₁.heap) (λm s₁ hI=>?_) (ds.length+1)
    ⟨0,σ,ys,zs,uZ _,rfl,hgo,rfl,hSt,c,⟨λa o _ _ _ e=>e,λa o _ e=>⟨o,e,id⟩,rfl,id⟩⟩
  obtain⟨j,σ₁,ys₁,zs₁,hj,rfl,hgo₁,hys,hst,c₁,ch₁⟩:=hI;show wpAny _ A ((zaA (.ListComp elt gens scope pos) k (.ref I) (.ref L) env).onRaise (λx=>do noteFrame x env;theTreesLotGoes x)) _ _ s₁;refine wpAny_noted (KF hg ?_);obtain⟨oI1,nI1,hoI1,_,_,hnf1⟩:=hcls _ _ hst;have anf:∀{h':Heap},(∀b o,b≠I->s₁.heap.get? b=some o->h'.get? b=some o)->Ty s₁.heap h':=IE hoI1 hnf1;have neP:∀{a},P a->a≠I:=λp q=>pI (q▸p);have neT:∀{a},T a->a≠I:=λp q=>tI (q▸p);by_cases hlt:j<ds.length
  ·refine W.item j s₁ _ _ hlt hst λu h' tk hu hst' hk=>?_;obtain⟨d,hd,rd⟩:=hPV j u hlt hu;obtain⟨oI2,nI2,hoI2,hcl2,hown2,hnf2⟩:=hcls _ _ hst';have hk':∀b o,b≠I->s₁.heap.get? b=some o->h'.get? b=some o:=CJ hk;have c₂:GY H w zc n cx env L T P A fs st σ₁ ys₁ {s₁ with heap:=h',toks:=tk}:=
    c₁.move (s':={s₁ with heap:=h',toks:=tk}) (λa o p e=>⟨p,hk' a o (neP p) e⟩) (λa o p e=>⟨p,hk' a o (neT p) e⟩) (λa o p e=>hk' a o (λq=>oI (q▸p)) e) (λo e=>hk' L o dI e) (anf hk')
     (λa e=>c₁.ec.pnew a (G2 hk' hoI2 e)) c₁.ec.own c₁.ec.nofr c₁.tO c₁.pD c₁.tD
   rw[Jr hd] at hgo₁;obtain⟨z1,σ2,z2,hturn,hgo₂,rfl⟩:=Jn hgo₁;obtain⟨τ,hb,hturn⟩:=rb hturn;refine Ga (s:={s₁ with heap:=h',toks:=tk}) hoI2 hcl2 hown2 ?_;have rd':jG P h' u d:=rd.move λa o p e=>⟨p,hk' a o (neP p) (ch₁.keep a o (λq=>c.pD (q▸p)) (λq=>c.ec.own a p q.own) (neP p) e)⟩;refine FS (s:={s₁ with heap:=h',toks:=tk}) ht hb c.ec.handled c₂.fram c₂.vok hnd c₂.len c₂.tO c₂.ec.own (.rep rd') λh₃ tk₃ B₃ F₃ V₃ _=>?_;have c₃:GY H w zc n cx env L T P A fs (jv st t) τ ys₁ {s₁ with heap:=h₃,toks:=tk₃}:=
    {ec:=c₂.ec.change (λa o p e=>⟨p,B₃.keepO a o (c₂.ec.own a p) e⟩) B₃.alloc.nf c₂.ec.own c₂.ec.nofr (c₂.ec.pnew.alloc B₃.alloc),fram:=F₃,vok:=V₃,
     acc:=(let ⟨vs,h1,h2⟩:=c₂.acc;⟨vs,h1.at λo e=>B₃.keepO _ o c.oD e,h2.move λa o p e=>⟨p,B₃.keepO a o (c₂.ec.own a p) e⟩⟩),
     len:=by rw[Bf,DB hb];exact c₂.len
     pD:=c₂.pD,tD:=c₂.tD,oD:=c₂.oD,tO:=c₂.tO}
   have hst₃:St (j+1) h₃:=W.frame _ _ _ hst' λb hb o e=>B₃.keepO b o (by
    by_cases q:b=I
    ·exact q▸oI
    ·exact c.ec.own b (hfp b hb q)) e
   have hzl:ys₁.length+(z1++z2).length=ys.length+zs.length:=by rw[<-uE,hys,uE]
   refine hG _ _ A fs {s₁ with heap:=h₃,toks:=tk₃} τ σ2 ys₁ z1 _ _ hPT c₃ hturn (by simp only[uE] at hzl;exact qA (uD (uV _ _) _) (hzl▸hlen)) λs₄ c₄ ch₄=>?_;refine⟨rfl,ds.length+1 - (j+1),Gc hlt,j+1,σ2,ys₁++z1,z2,by assumption,rfl,hgo₂,by rw[<-hys,uN],?_,?_,?_⟩
   ·exact W.frame _ _ _ hst₃ λb hb o e=>by
     by_cases q:b=I
     ·exact ch₄.keep b o (λz=>dI (z.symm.trans q)) (λz=>oI (q▸z.own)) e
     ·exact ch₄.keep b o (λq2=>c.pD (q2▸hfp b hb q)) (λq2=>c.ec.own b (hfp b hb q) q2.own) e
   ·exact {c₄ with vok:=c₄.vok.weak hPT,len:=by rw[<-c₄.len,Bf]}
   ·refine⟨λa o n1 n2 n3 e=>ch₄.keep a o n1 n2 (B₃.keep a o n2 (hk' a o n3 (ch₁.keep a o n1 n2 n3 e))),λa o n3 e=>?_,ch₄.os.trans ch₁.os,λg=>ch₄.gens (ch₁.gens g)⟩;obtain⟨o1,e1,f1⟩:=ch₁.alloc a o n3 e;obtain⟨o2,e2,f2⟩:=B₃.alloc a o1 (hk' a o1 n3 e1);obtain⟨o3,e3,f3⟩:=ch₄.alloc a o2 e2;exact⟨o3,e3,λq=>f3 (f2 (f1 q))⟩
  ·have hj':j=ds.length:=y3 hj (Nat.not_lt.mp hlt);subst hj';simp only[List.drop_length] at hgo₁;cases hgo₁;simp only[vS] at hys;subst hys;refine W.done s₁ _ _ hst λh' tk hk=>?_;have hk':∀b o,b≠I->s₁.heap.get? b=some o->h'.get? b=some o:=CJ hk;refine hR _ (c₁.move (s':={s₁ with heap:=h',toks:=tk}) (λa o p e=>⟨.inl p,hk' a o (neP p) e⟩) (λa o p e=>⟨.inl p,hk' a o (neT p) e⟩) (λa o p e=>hk' a o (λq=>oI (q▸p)) e) (λo e=>hk' L o dI e) (anf hk')
     (λa e=>?_) ?_ ?_ ?_ ?_ ?_) ⟨λa o n1 n2 n3 e=>hk' a o n3 (ch₁.keep a o n1 n2 n3 e),λa o n3 e=>?_,ch₁.os,ch₁.gens⟩
   ·exact(Classical.em (a=I)).elim .inr λq2=>.inl (c₁.ec.pnew a (Da hk' q2 e))
   ·exact λa p=>p.elim (c.ec.own a) λq=>q▸oI
   ·exact λa p=>p.elim (c.ec.nofr a) λq hm=>let ⟨_,o,ho,hnf⟩:=c₁.ec.funs.mem (q▸hm);hnf1 (zP (hoI1.symm.trans ho)▸hnf)
   ·exact λa p=>p.elim (c.tO a) λq=>q▸oI
   ·exact λp=>p.elim c.pD dI
   ·exact λp=>p.elim c.tD dI
   ·obtain⟨o',e',n'⟩:=ch₁.alloc a o n3 e;exact⟨o',hk' a o' n3 e',n'⟩
 exact GH hg main (W.self 0 _ _ _ hSt main)
def KS(H:uP)(w:World)(zc:Heap)(G:List D)(cf:Nat->List D->R D)(n:Nat)(names:List (Str×NameKind))(st:List VS)(env:Env)(ifs:List Expr)(pc:PE):Prop:=
 (ifs=[]/\pc=.lit (.bool true))\/∃c,ifs=[c]/\CT H w zc G cf n names st env (xU c env (eval c env)) pc
theorem S7{P T:Addr->Prop}{A:uY}{fs:List Env}{s:tX}{σ:zg}{ys:List D}{st:List VS}{ifs:List Expr}{pc:PE}{t:Bool}{Q:Bool->tX->Prop}{E:Value->tX->Prop}(h:KS H w zc G cf n cx.names st env ifs pc)
  (c:GY H w zc n cx env L T P A fs st σ ys s)(he:ev G cf pc σ=.ok (.bool t))(hQ:∀s',Ch s s'->Q t s'):wpAny (model H w) A (IR ifs env) Q E s:=by
 rcases h with⟨rfl,rfl⟩|⟨c',rfl,h⟩
 ·cases he
  exact uC (hQ s (Ch.refl s))
 ·show wpAny _ _ (forIn [c'] true _) _ _ _;rw[zbl];refine tY ?_;refine tY (h P A fs s σ _ _ c.ec c.vok' (λb s' hb ch=>uC ?_) (λhv=>by rw[he] at hv;exact ov hv) (by rw[he];exact λh=>os h));rw[he] at hb;cases hb;exact uC (hQ s' ch)
set_option tactic.hygienic true in
theorem Sx{elt:Expr}{gens:List xE}{scope:Scope}{pos:Pos}{k:Nat}{ifs:List Expr}{st:List VS}{pc pe:PE}(hk:gens[k+1]?=none)(hc:KS H w zc G cf n cx.names st env ifs pc)(he:zH H w zc G cf n cx.names st false env (eval elt env) pe):
  Pf H w zc G cf n cx env L elt gens scope pos k ifs st (.elt pc pe):=by
 intro P T A fs s σ σ' ys zs Q E hPT c hev hlen hQ;replace hev:=rb hev;obtain⟨x,h1,hev⟩:=hev;replace hev:=rb hev;obtain⟨t,h2,hev⟩:=hev;have:=AY h2;subst this;refine S7 hc c h1 λs₁ ch₁=>?_;induction t using tZ with
 |false=>
  cases hev
  exact hQ s₁ (by simpa using c.ch ch₁) (.of_ch ch₁)
 |true=>
  replace hev:=rb hev;obtain⟨d,h3,hev⟩:=hev;split at hev
  ·exact ns hev
  ·rename_i hdi;cases hev;have c₁:=c.ch ch₁;unfold L1;rw[hk];refine he P A fs s₁ σ _ _ c₁.ec c₁.vok' (λd' v s₂ hd ch₂ r=>?_) (λhv=>by rw[h3] at hv;exact ov hv) (by rw[h3];exact λh=>os h);rw[h3] at hd;(obtain rfl:=jz hd;clear hd);have c₂:=c₁.ch ch₂;obtain⟨vs,hp,hr⟩:=c₂.acc;have hz:vs.size<=yD:=by rw[jc hr];exact qA (by exact qC ‹_›) CH
   refine wpAny_list_append_plain (hsz:=hz) hp λh' h4 h5=>?_;obtain⟨c₃,ch₃⟩:=c₂.push (r.toRep H w (by simpa using hdi)) hp hr h4 h5;exact hQ _ c₃ ((O6.of_ch ch₁).trans ((O6.of_ch ch₂).trans ch₃))
end
theorem jm{α β:Type}[BEq α][LawfulBEq α]{l:List (α×β)}:∀{x:α} {k:β},l.lookup x=some k->(x,k)∈l:=by
 induction l with
 |nil=>
  intro _ _ h;exact nn h
 |cons zhd r ih=>
  obtain⟨y,j⟩:=zhd;intro x k h;skip;by_cases q:x=y
  ·subst q;simp at h;simp[h]
  ·have:(x==y)=false:=by simpa using q
   simp only[vM,this] at h;exact u0 _ (ih h)
set_option tactic.hygienic true in
theorem KZ{scope:Scope}{env:Env}(h:∀x∈scope.names,x.2=.free->∃c,env.cells.lookup x.1=some c):
  ∃cl:List (Str×Addr),closureFor scope env=pure cl/\(∀x c,cl.lookup x=some c->env.cells.lookup x=some c)/\(∀x∈scope.names,x.2=.free->cl.lookup x.1=env.cells.lookup x.1):=by
 let step:List (Str×Addr)->Str×NameKind->List (Str×Addr):=λacc p=>if p.2==.free then(p.1,(env.cells.lookup p.1).getD 0)::acc else acc
 have h1:∀(l:List (Str×NameKind)) (acc:List (Str×Addr)),(∀x∈l,x.2=.free->∃c,env.cells.lookup x.1=some c)->
   (forIn l acc λ(p:Str×NameKind) (cs:List (Str×Addr))=>(match p with|(name,kind)=>if(kind==.free)=true then do let a <-cellOf env name;pure (zbi ((name,a)::cs)) else pure (zbi cs):Sem (ForInStep (List (Str×Addr)))))=pure (l.foldl step acc):=by
  intro l;induction l with
  |nil=>intro acc _;rfl
  |cons p l ih=>
   intro acc hl;rw[zbl];obtain⟨x,k⟩:=p;by_cases hk:(k==zac)=true
   ·obtain⟨c,hc⟩:=hl (x,k) (u4 ..) (by simpa using hk);have e1:cellOf env x=pure c:=by unfold cellOf;rw[hc]
    simp only[hk,if_true,e1,pure_bind];rw[ih _ λy hy=>hl y (u0 _ hy)];have e2:step acc (x,k)=(x,c)::acc:=by simp only[step,hk,if_true];rw[hc];rfl
    rw[wX,e2]
   ·have hk':(k==zac)=false:=by simpa using hk
    simp only[hk',vQ,if_false,pure_bind];rw[ih _ λy hy=>hl y (u0 _ hy)];have e2:step acc (x,k)=acc:=by simp only[step,hk'];rfl
    rw[wX,e2]
 have h2:∀(l:List (Str×NameKind)) (acc:List (Str×Addr)),(∀x∈l,x.2=.free->∃c,env.cells.lookup x.1=some c)->(∀x c,acc.lookup x=some c->env.cells.lookup x=some c)->
   (∀x c,(l.foldl step acc).lookup x=some c->env.cells.lookup x=some c)/\(∀x c,acc.lookup x=some c->∃c',(l.foldl step acc).lookup x=some c')/\(∀x∈l,x.2=.free->∃c',(l.foldl step acc).lookup x.1=some c'):=by
  intro l;induction l with
  |nil=>intro acc _ ha;exact⟨ha,λx c e=>⟨c,e⟩,λx hx=>by cases hx⟩
  |cons p l ih=>
   intro acc hl ha;obtain⟨x,k⟩:=p;have hacc:∀y c,(step acc (x,k)).lookup y=some c->env.cells.lookup y=some c:=by
    intro y c e;simp only[step] at e;split at e
    ·rename_i hk;obtain⟨c',hc'⟩:=hl (x,k) (u4 ..) (by simpa using hk);simp only[hc',Option.getD_some,vM] at e;cases q:y==x with
     |true=>rw[q] at e;(obtain rfl:=zP e;clear e);rw[show y=x by simpa using q];exact hc'
     |false=>rw[q] at e;exact ha y c e
    ·exact ha y c e
   obtain⟨i1,i2,i3⟩:=ih (step acc (x,k)) (λy hy=>hl y (u0 _ hy)) hacc;have grow:∀y c,acc.lookup y=some c->∃c',(step acc (x,k)).lookup y=some c':=by
    intro y c e;simp only[step];split
    ·simp only[vM];cases q:y==x with
     |true=>exact⟨_,rfl⟩
     |false=>exact⟨c,e⟩
    ·exact⟨c,e⟩
   refine⟨i1,λy c e=>?_,λy hy hf=>?_⟩
   ·obtain⟨c',e'⟩:=grow y c e;exact i2 y c' e'
   ·cases hy with
    |head=>
     have:(step acc (x,k)).lookup x=some ((env.cells.lookup x).getD 0):=by
      have hk:(k==zac)=true:=by exact if_pos ‹_›
      simp only[step,hk,if_true,vM,beq_self_eq_true]
     exact i2 x _ this
    |tail _ hy=>exact i3 y hy hf
 obtain⟨g1,g2,g3⟩:=h2 scope.names [] h (by intro x c e;exact nn e);refine⟨scope.names.foldl step [],?_,g1,λx hx hf=>?_⟩
 ·have:=h1 scope.names [] h;unfold closureFor;show(forIn scope.names [] _ >>= λr=>pure r)=_;rw[bind_pure];exact this
 ·obtain⟨c,e⟩:=g3 x hx hf;rw[e,g1 _ _ e]
section
variable{H:uP}{w:World}{zc:Heap}{G:List D}{cf:Nat->List D->R D}{n:Nat}{st:List VS}{b:Bool}{env:Env}
theorem kS{names:List (Str×NameKind)}:(names.map (·.1)).Nodup->∀{x:Str} {k:NameKind},(x,k)∈names->names.lookup x=some k:=by
 induction names with
 |nil=>
  intro _ _ _ h;cases h
 |cons zhd r ih=>
  obtain⟨y,j⟩:=zhd;intro hnd x k h;skip;simp only[vZ,wR] at hnd;cases h with
  |head=>simp[vM]
  |tail _ h=>
   have:(x==y)=false:=by
    have:x≠y:=λe=>hnd.1 (e▸zaG (f:=(·.1)) h);exact if_neg ‹_›
   rw[vM,this];exact ih hnd.2 h
set_option tactic.hygienic true in
theorem AV{scope:Scope}{x:Str}{k:NameKind}(h:scope.names.lookup x=some k):(relabel scope env).names.lookup x=some k\/(k=.free/\(relabel scope env).names.lookup x=some .cell):=by
 unfold relabel;generalize scope.names=l at h;induction l with
 |nil=>exact nn h
 |cons p r ih=>
  obtain⟨y,j⟩:=p;simp only[vZ];cases q:x==y with
  |true=>
   simp only[vM,q] at h
   (obtain rfl:=vR (zP h);clear h)
   split
   ·rename_i hc;simp only[uU,beq_iff_eq] at hc;exact .inr ⟨hc.1.1,by simp[vM,q]⟩
   ·exact .inl (by simp[vM,q])
  |false=>
   simp only[vM,q] at h;have:=ih h;split<;>simpa only[vM,q] using this
inductive cX(cx:Cx)(p:Str×NameKind)(c:Option Nat):Prop
 |free(j:Nat)(e:p.2=.free)(h:cx.names.lookup p.1=some .cell\/cx.names.lookup p.1=some .free)(hv:cx.var? p.1=some j)(hc:c=some j)
 |other(e:p.2≠.free)(hc:c=none)
theorem PO{cx:Cx}{p:Str×NameKind}{c:Option Nat}(h:eP cx p=some c):cX cx p c:=by
 obtain⟨x,k⟩:=p;induction k using PySem.NameKind.casesOn with
 |free=>
  obtain⟨h1,h⟩:=Ci h;obtain⟨j,h2,h3⟩:=Option.map_eq_some_iff.mp h;exact .free j rfl (by simpa [Cx.kind] using h1) h2 h3.symm
 |_=>(obtain rfl:=zP h;clear h);exact .other nofun rfl
theorem ME{α β:Type}{f:α->Option β}{l:List α}:∀{bs:List β},l.mapM f=some bs->∀(i:Nat) (a:α),l[i]?=some a->∃b,bs[i]?=some b/\f a=some b:=by
 induction l with
 |nil=>intro bs _ i a e;exact nn e
 |cons x l ih=>
  intro bs h i a e;obtain⟨b,bs,h1,h2⟩:=mm h;induction i using w3 with
  |zero=>(obtain rfl:=zP e;clear e);exact⟨b,rfl,h1⟩
  |succ i=>exact ih h2 i a e
theorem Oh{α β:Type}{f:α->Option β}{l:List α}:∀{bs:List β},l.mapM f=some bs->bs.length=l.length:=by
 induction l with
 |nil=>intro bs h;cases iH h;rfl
 |cons x l ih=>intro bs h;obtain⟨b,bs,_,h2⟩:=mm h;exact congrArg (·+1) (ih h2)
theorem Ha{cx:Cx}{l:List (Str×NameKind)}{caps:List (Option Nat)}(h:Dd cx l=some caps):caps.length=l.length/\(∀i j:Nat,caps[i]?=some (some j)->∃x:Str,l[i]?=some (x,zac)/\(cx.names.lookup x=some .cell\/cx.names.lookup x=some .free)/\cx.var? x=some j)/\∀(i:Nat) (x:Str),l[i]?=some (x,zac)->∃j:Nat,caps[i]?=some (some j):=by
 have hl:=Oh h;refine⟨hl,λi j e=>?_,λi x e=>?_⟩
 ·obtain⟨⟨x,k⟩,ep⟩:∃p,l[i]?=some p:=⟨l[i]'(hl▸(List.getElem?_eq_some_iff.mp e).1),uA _⟩;obtain⟨c,e1,e2⟩:=ME h i _ ep;rw[e1] at e
  (obtain rfl:=zP e;clear e)
  cases PO e2 with
  |free j' e3 h1 h2 h3=>(obtain rfl:=zP h3;clear h3);have e3:k=.free:=e3;subst e3;exact⟨x,ep,h1,h2⟩
  |other _ hc=>exact sn hc
 ·obtain⟨c,e1,e2⟩:=ME h i _ e;cases PO e2 with
  |free j _ _ _ h3=>exact⟨j,h3▸e1⟩
  |other hc _=>exact absurd rfl hc
theorem QC{ρ:zg}{caps:List (Option Nat)}{i j:Nat}(h:caps[i]?=some (some j)):zq (caps.map λc=>match c with|some i=>zq ρ i|none=>.none) i=zq ρ j:=by
 unfold zq;rw[uH,v6,h];rfl
inductive X7(G:List D)(cf:Nat->List D->R D)(caps:List (Option Nat))(rg:Bool)(it:PE)(t:Tg)(g:PG)(ρ:zg):Prop
 |mk (ds zs:List D) (σe:zg) (hds:R.bind (ev G cf it ρ) (zA rg)=.ok ds) (hgo:kP (λσ d=>R.bind (jy σ t d) λσ'=>evG G cf g σ') (caps.map λc=>match c with|some i=>zq ρ i|none=>.none) ds=.ok (zs,σe)) (hz:zs.length<=zv) (he:ev G cf (.comp caps rg it t g) ρ=.ok (.list zs))
theorem RG{α:Type}{x:R α}(h:noVe x≠.stuck):∃a,x=.ok a:=by
 induction x using R.casesOn with
 |ok a=>exact⟨a,rfl⟩
 |_=>exact absurd rfl h
theorem Ue{G:List D}{cf:Nat->List D->R D}{caps:List (Option Nat)}{rg:Bool}{it:PE}{t:Tg}{g:PG}{ρ:zg}(h:ev G cf (.comp caps rg it t g) ρ≠.stuck):X7 G cf caps rg it t g ρ:=by
 obtain⟨d,hd⟩:=RG h;obtain⟨x,h1,h2⟩:=rb hd;obtain⟨ds,h3,h4⟩:=rb h2;obtain⟨⟨zs,σe⟩,h5,h6⟩:=rb h4;obtain⟨hz,h7⟩:=GM h6;have e:ev G cf (.comp caps rg it t g) ρ=.ok d:=congrArg noVe hd;exact⟨ds,zs,σe,by rw[h1];exact h3,h5,hz,e.trans h7.symm⟩
set_option tactic.hygienic true in
theorem Hb{cx:Cx}{elt target iter:Expr}{ifs:List Expr}{rest:List xE}{scope:Scope}{pos pos':Pos}{caps:List (Option Nat)}{rg:Bool}{it:PE}{t:Tg}{g:PG}(hL:CY cx env)
  (hi:Pg H w zc G cf n cx.names st false env iter rg it)(hs:∀x,xH iter env x=pure x)(hcaps:Dd cx scope.names=some caps)(hsc:BP scope=true)(ht:B7 {cx with names:=scope.names} target=some t)
  (hG:∀(cl:List (Str×Addr)) (C L:Addr),(∀x c,cl.lookup x=some c->env.cells.lookup x=some c)->(∀x∈scope.names,x.2=.free->cl.lookup x.1=env.cells.lookup x.1)->
   Pf H w zc G cf n {cx with names:=scope.names} (xP scope cl C env) L elt (⟨target,iter,ifs,0⟩::rest) scope pos 0 ifs (jv (caps.map λc=>match c with|some i=>VS.at st i|none=>.u) t) g)
  {P:Addr->Prop}{A:uY}{fs:List Env}{s:tX}{ρ:zg}{Q E:Value->tX->Prop}{use:Option (Value->Sem Unit)}(ec:EC zc P A fs n env s.heap)(vo:Np H w env cx.names st ρ P s.heap)
  (hok:∀d v C s₂,ev G cf (.comp caps rg it t g) ρ=.ok d->Ch s s₂->s.heap.get? C=none->(∃m,s₂.heap.Ns C m)->jG (λa=>P a/\a≠C) s₂.heap v d->compPost (model H w) A E use Q v C (.ok .next) s₂)
  (hns:ev G cf (.comp caps rg it t g) ρ≠.stuck):wpAny (model H w) A (comprehension (.ListComp elt (⟨target,iter,ifs,0⟩::rest) scope pos) scope env pos' (newList []) false (eval iter env) use) Q E s:=by
 simp only[BP,uU,beq_iff_eq,decide_eq_true_eq,uF,bne_iff_ne] at hsc;obtain⟨⟨hkind,hcell⟩,hnd⟩:=hsc;obtain⟨hcl,hcaps',hcaps2⟩:=Ha hcaps;have hfree:∀x∈scope.names,x.2=.free->(cx.names.lookup x.1=some .cell\/cx.names.lookup x.1=some .free)/\∃i j:Nat,scope.names[i]?=some x/\caps[i]?=some (some j):=by
  intro x hx hf
  (obtain⟨i,hi',zr1⟩:=List.mem_iff_getElem.mp hx;replace zr1:=vR zr1;subst zr1)
  obtain⟨j,hj⟩:=hcaps2 i scope.names[i].1 (by rw[uA hi',<-hf]);obtain⟨y,h1,h2,h3⟩:=hcaps' i j hj;rw[uA hi'] at h1;have e:scope.names[i]=(y,zac):=by simpa using h1
  exact⟨by rw[e];exact h2,i,j,uA hi',hj⟩
 obtain⟨cl,hclos,hcl1,hcl2⟩:=KZ (scope:=scope) (env:=env) λx hx hf=>(hL.cell x.1 (hfree x hx hf).1).2;obtain⟨ds,zs,σe,hds0,hgo,hz,he⟩:=Ue hns;refine wpAny_comprehension_free (use:=use) rfl hs hclos hkind (λx hx hl=>hl▸kS hnd hx) ?_;refine hi P A fs s ρ _ _ ec vo (λds' v s' h₀ hds ch k1 k2 I=>?_) (λhv=>by rw[hv] at hds0;exact nv hds0) (by rw[hds0];exact λh=>os h)
 (obtain rfl:=jz (hds.symm.trans hds0);clear hds)
 refine yL (wpAny_newFunctionEnv hcell (by intro y hy;exact absurd hy vJ) (λh₁ hns₁ hsb₁=>?_) hkind);dsimp only at hns₁ hsb₁ ⊢;generalize hH2:s'.heap.push {cls:=.type "list",dict:=none,data:=.seq ([]:List Value).toArray}=H2 at hns₁ hsb₁ ⊢
 (obtain⟨I,fp,PV,St,zr2,hI0,W,hSt,hfp,hPV,hcls⟩:=I;replace zr2:=vR zr2;subst zr2)
 have hsz:H2.objs.size=s'.heap.objs.size+1:=by rw[<-hH2,zas]
 have FA:∀{a:Addr} {o:Obj},s'.heap.get? a=some o->a≠s'.heap.objs.size:=λe=>vA (wU e);have neC:∀{a:Addr} {o:Obj},s'.heap.get? a=some o->a≠H2.objs.size:=λe=>by rw[hsz];exact vA (zam (wU e))
 have hDC:s'.heap.objs.size≠H2.objs.size:=by rw[hsz];exact vA (w9 _)
 have kA:zx s'.heap h₁:=λa o e=>hsb₁.extBut a o (neC e) (uO _ (hH2▸uO _ e));have kB:zx s.heap h₁:=ch.keep.trans kA;have nI:s.heap.get? I=none:=AP k1 hI0;obtain⟨oI,nmI,hoI,_,_,hnfI⟩:=hcls 0 _ hSt;have ltI:=wU hoI;have nD:s.heap.get? s'.heap.objs.size=none:=AP ch.keep (j6 _);have nC:s.heap.get? H2.objs.size=none:=AP ch.keep (by rw[hsz];exact xF (w4 _));have pI:=ec.pnew _ nI;have pD:=ec.pnew _ nD;have pC:=ec.pnew _ nC;have hacc:h₁.PlainList s'.heap.objs.size #[]:=⟨_,hsb₁.extBut _ _ hDC (uO _ (hH2▸uX _ rfl))⟩;let P₁:Addr->Prop:=λa=>P a/\a≠I/\a≠s'.heap.objs.size/\a≠H2.objs.size;let T₁:Addr->Prop:=λa=>¬Aq env a/\a≠I/\a≠s'.heap.objs.size/\a≠H2.objs.size;have ne3:∀a o,s.heap.get? a=some o->a≠I/\a≠s'.heap.objs.size/\a≠H2.objs.size:=λa o e=>
  ⟨λq=>nn ((q▸nI).symm.trans e),λq=>nn ((q▸nD).symm.trans e),λq=>nn ((q▸nC).symm.trans e)⟩
 have ownC:∀a,Aq (xP scope cl H2.objs.size env) a->a=H2.objs.size\/Aq env a:=by
  exact λa q=>q.imp id λ⟨x,hx⟩=>.inr ⟨x,hcl1 x a hx⟩
 have mP:∀a o,P a->s.heap.get? a=some o->P₁ a/\h₁.get? a=some o:=λa o p e=>⟨⟨p,ne3 a o e⟩,kB a o e⟩;have oP:∀a,P₁ a->¬Aq (xP scope cl H2.objs.size env) a:=λa p q=>(ownC a q).elim p.2.2.2 (ec.own a p.1);have oT:∀a,T₁ a->¬Aq (xP scope cl H2.objs.size env) a:=λa p q=>(ownC a q).elim p.2.2.2 p.1;have ec₁:EC zc P₁ A fs n (xP scope cl H2.objs.size env) h₁:=
  {stays:=λa o q=>kB a o (ec.stays a o q)
   pnew:=λa e=>⟨(ec.pnew.keep kB) a e,λq=>(by rw[q,kA _ _ hoI] at e;exact sn e),λq=>(by obtain⟨m,hm⟩:=hacc;rw[q,hm] at e;exact sn e),λq=>(by obtain⟨o,_,_,ho,_⟩:=hns₁;rw[q,ho] at e;exact sn e)⟩
   pbase:=λa o q=>(mP a o (ec.pbase a o q) (ec.stays a o q)).1
   handled:=ec.handled,frames:=ec.frames,funs:=jK (jS.of_keep kB).nf ec.funs,depth:=ec.depth,units:=ec.units
   kind:=hkind,globals:=ec.globals,builtins:=ec.builtins,own:=oP,nofr:=λa p=>ec.nofr a p.1,inj:=λx y c h1 h2=>ec.inj x y c (hcl1 x c h1) (hcl1 y c h2)}
 have fr₁:BF scope.names (xP scope cl H2.objs.size env) h₁:=
  {ns:=⟨_,hns₁⟩
   loc:=λx hx=>lookup_relabel_local hx
   cell:=λx hx=>absurd rfl (hcell _ (jm hx))
   inj:=ec₁.inj
   ne:=λx c hc q=>by
    have:Aq env c:=.inr ⟨x,hcl1 x c hc⟩;have q':c=H2.objs.size:=q;exact ec.own _ pC (q'▸this)
   fn:=hkind}
 have vo₁:Af H w (xP scope cl H2.objs.size env) scope.names (caps.map λc=>match c with|some i=>VS.at st i|none=>.u) (caps.map λc=>match c with|some i=>zq ρ i|none=>.none) T₁ P₁ h₁:=by
  intro i x k h1 h2 h3;have h4:∃j,caps[i]?=some (some j)/\VS.at st j≠.u:=by
   unfold VS.at at h3;rw[uH,v6] at h3;cases q:caps[i]? with
   |none=>rw[q] at h3;exact absurd rfl h3
   |some c=>
    rw[q] at h3;induction c using uW with
    |none=>exact absurd rfl h3
    |some j=>exact⟨j,rfl,h3⟩
  obtain⟨j,h5,h6⟩:=h4;obtain⟨y,h7,h8,h9⟩:=hcaps' i j h5;rw[h1] at h7;cases h7;obtain⟨k',h10,h11,h12⟩:=AQ h9;obtain⟨v,hv,rv⟩:=vo j x k' h10 h11 h6;have e1:VS.at (caps.map λc=>match c with|some i=>VS.at st i|none=>.u) i=VS.at st j:=by
   unfold VS.at;rw[uH,v6,h5];rfl
  obtain⟨hk1,c,hc⟩:=hL.cell x h8;have hx':(x,zac)∈scope.names:=v9 h1;refine⟨v,?_,?_⟩
  ·induction hv using zz.casesOn with
   |loc m a b d=>rcases hk1 with hk1|hk1<;>rw[hk1] at a<;>cases a
   |cell c' a b d=>
    refine .cell c' ?_ ((hcl2 _ hx' rfl).trans b) (d.keeps kB);rcases AV (env:=env) (kS hnd hx') with q|⟨_,q⟩
    ·exact .inr q
    ·exact .inl q
  ·rw[QC h5,e1];refine rv.move (λa o p e=>?_) mP;split at p
   ·rename_i q;rw[if_pos q];exact⟨⟨p,ne3 a o e⟩,kB a o e⟩
   ·rename_i q;rw[if_neg q];exact mP a o p e
 have c₁:GY H w zc n {cx with names:=scope.names} (xP scope cl H2.objs.size env) s'.heap.objs.size T₁ P₁ A fs (caps.map λc=>match c with|some i=>VS.at st i|none=>.u) (caps.map λc=>match c with|some i=>zq ρ i|none=>.none) [] {s' with heap:=h₁,toks:=s'.toks+([]:List (Str×Value)).length}:=
  {ec:=ec₁,fram:=fr₁,vok:=vo₁,acc:=⟨#[],hacc,.nil⟩,len:=by simp,pD:=λq=>q.2.2.1 rfl,tD:=λq=>q.2.2.1 rfl,oD:=λq=>(ownC _ q).elim hDC (ec.own _ pD),tO:=oT}
 have oI':¬Aq (xP scope cl H2.objs.size env) I:=λq=>(ownC _ q).elim (neC hoI) (ec.own _ pI);refine K4 (cx:={cx with names:=scope.names}) (env:=xP scope cl H2.objs.size env) (L:=s'.heap.objs.size) (ys:=[]) (s:={s' with heap:=h₁,toks:=s'.toks+([]:List (Str×Value)).length}) rfl ht hnd (hG cl H2.objs.size s'.heap.objs.size hcl1 hcl2) (λa p=>⟨ec.own a p.1,p.2⟩) c₁ (λq=>q.2.1 rfl) (λq=>q.2.1 rfl) oI' (λq=>FA hoI q.symm) W
  (W.frame _ _ _ hSt λb _ o e=>kA b o e) (λb hb hne=>?_) (λi u hi hu=>?_) hcls hgo (by simpa using hz) λs₂ c₂ l₂=>?_
 ·obtain⟨h1,o,h2⟩:=hfp b hb hne;exact⟨h1,hne,FA (k2 _ _ h2),neC (k2 _ _ h2)⟩
 ·obtain⟨d,h1,h2⟩:=hPV i u hi hu;refine⟨d,h1,h2.move λa o p e=>?_⟩;exact⟨⟨p,λq=>(by rw[q,hI0] at e;exact nn e),FA (k2 _ _ e),neC (k2 _ _ e)⟩,kA a o (k2 a o e)⟩
 ·obtain⟨m,hm⟩:=c₂.fram.ns;have kC:zx s.heap s₂.heap:=λa o e=>by
   obtain⟨n1,n2,n3⟩:=ne3 a o e;refine l₂.keep a o n2 ?_ n1 (kB a o e);rintro(q|⟨x,hx,_⟩)
   ·exact n3 q
   ·exact absurd rfl (hcell _ (jm hx))
  refine hok _ _ H2.objs.size _ he ⟨kC,l₂.os.trans ch.os,λg=>l₂.gens (ch.gens g)⟩ nC ⟨m,hm⟩ ?_;obtain⟨vs,hp,hr⟩:=c₂.acc;obtain⟨mm,hmm⟩:=hp;have mf:∀a o,(P₁ a\/a=I)->s₂.heap.get? a=some o->(P a/\a≠H2.objs.size)/\s₂.heap.get? a=some o:=by
   exact λa o p e=>⟨p.elim (λp=>⟨p.1,p.2.2.2⟩) λq=>q▸⟨pI,neC hoI⟩,e⟩
  exact .list ⟨pD,hDC⟩ hmm rfl rfl rfl (hr.move mf) (hz)
theorem SF(hL:CY cx env)
  (hi:Pg H w zc G cf n cx.names st false env iter rg it)(hs:∀x,xH iter env x=pure x)(hcaps:Dd cx scope.names=some caps)(hsc:BP scope=true)(ht:B7 {cx with names:=scope.names} target=some t)
  (hG:∀(cl:List (Str×Addr)) (C L:Addr),(∀x c,cl.lookup x=some c->env.cells.lookup x=some c)->(∀x∈scope.names,x.2=.free->cl.lookup x.1=env.cells.lookup x.1)->
   Pf H w zc G cf n {cx with names:=scope.names} (xP scope cl C env) L elt (⟨target,iter,ifs,0⟩::rest) scope pos 0 ifs (jv (caps.map λc=>match c with|some i=>VS.at st i|none=>.u) t) g):
  zH H w zc G cf n cx.names st b env (eval (.ListComp elt (⟨target,iter,ifs,0⟩::rest) scope pos) env) (.comp caps rg it t g):=by
 intro P A fs s ρ Q E ec vo hok hve hns;rw[eval_ListComp];refine Hb (use:=none) hL hi hs hcaps hsc ht hG ec vo (λd v C s₂ hd ch nC hm r=>?_) hns;obtain⟨m,hm⟩:=hm;refine⟨m,hm,λh' hs'=>?_⟩;refine hok d v _ hd ⟨λa o e=>hs'.extBut a o (λq=>by rw[q,nC] at e;exact nn e) (ch.keep a o e),ch.os,ch.gens⟩ (.rep (r.move λa o p e=>⟨p.1,hs'.extBut a o p.2 e⟩))
end
theorem Vj{h:Heap}{a:Addr}{o:Obj}(e:h.get? a=some o):a≠h.objs.size:=vA (wU e)
def CZ(h:Heap)(d:Addr)(es:Array DictEntry)(ep:Nat):Prop:=∃o,h.get? d=some o/\o.data=.dict es ep
theorem CZ.at(x:CZ h d es ep)(k:∀o,h.get? d=some o->h'.get? d=some o):CZ h' d es ep:=let ⟨o,ho,r⟩:=x;⟨o,k o ho,r⟩
section
variable{H:uP}{w:World}{A:uY}{E:Value->tX->Prop}{s:tX}
theorem Sc(hit:s.heap.IsKeyIter it d i es.size ep)(hm:CZ s.heap d es ep)(hx:es[i]?=some e)
  (hQ:∀h',h'.IsKeyIter it d (i+1) es.size ep->w6 it s.heap h'->Q (some e.key) {s with heap:=h'}):wpAny (model H w) A (pyNext (.ref it)) Q E s:=by
 obtain⟨o,ho,hc,hd⟩:=id hit;obtain⟨od,hod,hdd⟩:=hm;unfold pyNext;refine tY (wpAny_attempt (wpAny_callSpecial?_slot (name:=uQ "__next__") hit.typeIs wL
  (yE wL hit.typeIs zaU ?_ (zaO _))))
 refine tY (uC (tY (tY ?_)));refine tY (yA hit.typeIs (uC ?_));refine tY (wpAny_fieldsOf ho hd ?_);have hown:zar "dict_keyiterator"=false:=by decide
 show wpAny _ _ (if(zbA d==wC)=true then _ else _) _ _ s;rw[if_neg (show ¬((zbA d==wC)=true) from Bool.false_ne_true)];refine tY (uC (tY (wpAny_dictEntries hod hdd ?_)));rw[if_neg (by simp)];refine tY (uC (tY (wpAny_dictEpoch hod hdd ?_)));rw[if_neg (by simp)];refine uC ?_;simp only[show ¬((i:Int)<0) from by exact Int.not_lt.mpr (wS _),if_false,Int.toNat_natCast,hx];refine tY (tY (yA hit.typeIs (uC ?_)));refine tY (wpAny_isOneOf_keyiter hit.typeIs ?_);show wpAny _ _ (setField (.ref it) 1 (rawInt ((i:Int)+1)) >>= _) _ _ s;refine tY (wpAny_setField ho hd (by simp) ?_);have hit':(s.heap.update it (Obj.mapFields (·.setIfInBounds 1 (rawInt ((i:Int)+1))))).IsKeyIter it d (i+1) es.size ep:=
  ⟨_,yI _ ho (Obj.isFreed_of_fields (zaN hd _)),(Obj.cls_mapFields ..).trans hc,by rw[zaN hd];rfl⟩
 refine tY (y9 ?_);refine tY (wpAny_isOneOf_keyiter (s:={s with heap:=s.heap.update it (Obj.mapFields (·.setIfInBounds 1 (rawInt ((i:Int)+1))))}) hit'.typeIs ?_);show wpAny _ _ (pure e.key) _ _ _;exact uC (uC ⟨_,rfl,uC (hQ _ hit' (xJ ..))⟩)
theorem VG(hh:A.handled=none)(hit:s.heap.IsKeyIter it d es.size es.size ep)(hm:CZ s.heap d es ep)
  (hQ:∀h',Heap.ExtBut it s.heap h'->Q none {s with heap:=h'}):wpAny (model H w) A (pyNext (.ref it)) Q E s:=by
 obtain⟨o,ho,hc,hd⟩:=id hit;obtain⟨od,hod,hdd⟩:=hm;unfold pyNext;refine tY (wpAny_attempt (wpAny_callSpecial?_slot (name:=uQ "__next__") hit.typeIs wL
  (yE wL hit.typeIs zaU ?_ (zaO _))))
 refine tY (uC (tY (tY ?_)));refine tY (yA hit.typeIs (uC ?_));refine tY (wpAny_fieldsOf ho hd ?_);have hown:zar "dict_keyiterator"=false:=by decide
 show wpAny _ _ (if(zbA d==wC)=true then _ else _) _ _ s;rw[if_neg (show ¬((zbA d==wC)=true) from Bool.false_ne_true)];refine tY (uC (tY (wpAny_dictEntries hod hdd ?_)));rw[if_neg (by simp)];refine tY (uC (tY (wpAny_dictEpoch hod hdd ?_)));rw[if_neg (by simp)];refine uC ?_;have hx:es[es.size]?=none:=Array.getElem?_eq_none (uK _);simp only[show ¬((es.size:Int)<0) from by exact Int.not_lt.mpr (wS _),if_false,Int.toNat_natCast,hx];refine tY (tY (yA hit.typeIs (uC ?_)));show wpAny _ _ (setField (.ref it) 0 .none >>= _) _ _ s;refine tY (wpAny_setField ho hd (zbd _) ?_);show wpAny _ _ (newExc (.type "StopIteration") [] >>= _) _ _ _
 refine tY ?_;refine tY (yL ?_ (by size_fits));refine tY (m:=firstArgMember _ _) (za9 (a:=wC) (by first|rfl|(simp only[firstArgMember];rfl)) ?_);refine yL ?_ (by size_fits);refine tY (wpAny_handled ?_);rw[show A.in1.handled=none from hh];refine tY (uC (wpAny_throw ?_));refine tY (wpAny_isInstance (T:="StopIteration") (b:=true) ⟨_,uX _ rfl,rfl⟩ isSubtype_stop ?_)
 exact uC (hQ _ (((xJ ..).extBut.push _).push _))
theorem Ov(hh:A.handled=none)(I d:Addr)(hne:d≠I)(es:Array DictEntry)(ep:Nat):
  Walks H w A I [I,d] [I] es.size (λi v=>∃e,es[i]?=some e/\v=e.key) (λi h=>h.IsKeyIter I d i es.size ep/\CZ h d es ep) where
 sub:=λb hb=>by simp at hb;simp[hb]
 frame:=λ_ _ _ st hk=>⟨st.1.at λo e=>hk I (by exact u4) o e,st.2.at λo e=>hk d (by simp) o e⟩
 item:=λi s Q E hi st hQ=>by
  have hx:es[i]?=some es[i]:=zaI hi;refine Sc st.1 st.2 hx λh' hit' hs'=>?_;exact hQ _ h' s.toks ⟨_,hx,rfl⟩ ⟨hit',st.2.at λo e=>hs'.extBut d o hne e⟩ λb o hb e=>hs'.extBut b o (λh=>hb (by simp[h])) e
 done:=λs Q E st hQ=>VG hh st.1 st.2 λh' he'=>hQ h' s.toks λb o hb e=>he' b o (λh=>hb (by simp[h])) e
 self:=λ_ _ _ _ st hQ=>wpAny_pyIter_keyiter st.1 hQ
theorem Sd(hv:zbw s.heap v d)(hm:CZ s.heap d es ep)
  (hQ:Q (.ref s.heap.objs.size) {s with heap:=s.heap.push {cls:=.type "dict_keyiterator",data:=.fields #[.ref d,.int 0 0,.int es.size 0,.int ep 0]}}):
  wpAny (model H w) A (pyIter (.ref v)) Q E s:=by
 obtain⟨ov,hov,hcv,hdv⟩:=id hv;obtain⟨o,ho,hdat⟩:=hm;refine wpAny_pyIter_slot hv.typeIs PySem.W.kdl_slot_keys_iter (yE PySem.W.kdl_slot_keys_iter hv.typeIs PySem.W.kdl_entry_keys_iter ?_ (PySem.W.kdl_args_keys_iter _));unfold Builtin.«dict_keys.__iter__»;refine tY (uC (tY ?_));unfold Builtin.Dict_items.dictOf;refine tY (wpAny_field hov hdv (x:=.ref d) rfl (uC (tY ?_)));unfold Builtin.Dict_items.newIterator;refine tY (wpAny_dictEntries ho hdat (tY (wpAny_dictEpoch ho hdat ?_)));have hown:zar "dict_keyiterator"=false:=by decide
 simp only[hown,vQ,if_false];refine yL (uC ⟨_,rfl,"dict_keyiterator",_,⟨_,uX _ rfl,rfl⟩,wL.lookup,?_⟩)
 exact hQ
theorem MV:PySem.W.KdlSrc H w "dict_keys" r d es.size (λi v=>∃e,es[i]?=some e/\v=e.key) (λh=>zbw h r d/\CZ h d es ep) where
 type:=λ_ hm=>hm.1.typeIs
 there:=λ_ hm=>⟨let ⟨_,ho,_⟩:=hm.1;wU ho,let ⟨_,ho,_⟩:=hm.2;wU ho⟩
 keep:=λ_ _ hm hk=>⟨let ⟨o,ho,x⟩:=hm.1;⟨o,hk r (.inl rfl) o ho,x⟩,hm.2.at λo e=>hk d (.inr rfl) o e⟩
 notList:=by decide
 notTuple:=by decide
 hint:=λ_ _ _ _ hm hq=>PySem.W.kdl_hint_keys hm.1.typeIs hq
 iter:=λ_ _ hh hm=>⟨_,_,(λ_ _ hq=>Sd hm.1 hm.2 hq),Ov hh _ d (let ⟨_,ho,_⟩:=hm.2;vA (wU ho)) es ep,⟨⟨_,uX _ rfl,rfl,rfl⟩,hm.2.at λo e=>uO _ e⟩⟩
theorem Ki(hh:A.handled=none)(hv:zbw s.heap r d)(hm:CZ s.heap d es ep)(hn:es.size<=yD)
  (hQ:∀h' tk,zx s.heap h'->Q (es.toList.map (·.key)) {s with heap:=h',toks:=tk}):wpAny (model H w) A (collect (.ref r)) Q E s:=by
 unfold collect;refine tY (wpAny_runValue (zah entry_proto_collect' ?_));show wpAny _ _ (do again (.builtin "list.__iadd__" ⟨[<-newList [],.ref r],[]⟩)) _ _ s
 refine tY (wpAny_newList (uC ⟨Code.quiet_builtin _ (by decide +kernel),zah entry_list_iadd' ?_⟩));show wpAny _ _ (Builtin.List.listExtendWith (.ref s.heap.objs.size) (.ref r) (.ref s.heap.objs.size)) _ _ {s with heap:=s.heap.push (wQ "list" #[] 0)}
 have hlt:=(MV (H:=H) (w:=w)).there _ ⟨hv,hm⟩;have hA:A.under (.builtin "list.__iadd__" ⟨[.ref s.heap.objs.size,.ref r],[]⟩)=A.in1:=yM (by unfold plainId;decide +kernel) _
 rw[hA];refine PySem.W.kdl_extend (A:=A) (R:=λr s'=>match r with
  |.ok (.ret v)=>wpAny (model H w) A (match v with|.ref a=>(do match (<-load a).data with|.seq xs _=>pure xs.toList|_=>unsupported "internal:collect")|_=>unsupported "internal:collect") Q E s'
  |.ok _=>False
  |.error e=>E e s') (s:={s with heap:=s.heap.push (wQ "list" #[] 0)}) (MV (H:=H) (w:=w) (r:=r) (d:=d) (es:=es) (ep:=ep)) hh ⟨let ⟨o,ho,x⟩:=hv;⟨o,uO _ ho,x⟩,hm.at λo e=>uO _ e⟩ s.heap.objs.size (zaL hlt.1) (zaL hlt.2) (.ref s.heap.objs.size) 0 (uX _ rfl) (λh' tk acc' c' hk hS hacc=>?_) hn
 show wpAny (model H w) A (do
   let o <-load s.heap.objs.size
   match o.data with
   |.seq xs _=>pure xs.toList
   |_=>unsupported "internal:collect") Q E _
 refine tY (wpAny_load hS ?_);have e:acc'.toList=es.toList.map (·.key):=by
  apply List.ext_getElem?;intro j;rw[v6,zaq,zaq];cases q:acc'[j]? with
  |none=>
   have:es[j]?=none:=by
    have h1:acc'.size<=j:=by simpa using q
    exact Array.getElem?_eq_none (by rw[<-hacc.1];exact h1)
   rw[this];rfl
  |some v=>
   obtain⟨e,h1,h2⟩:=hacc.2 j v q;rw[h1,h2];rfl
 show wpAny _ _ (pure acc'.toList) Q E _;rw[e];exact uC (hQ h' tk λa o z=>hk a o (Vj z) (uO _ z))
end
end Mine
namespace Mine
open PySem PyProof.Rows PySem.Calls PySem.W
section
variable{H:uP}{w:World}{A:uY}{E:Value->tX->Prop}{s:tX}
theorem LR(ho:s.heap.get? a=some (wQ "list" vs.toArray n))(h2:2<=vs.length)(h64:vs.length<64)
  (h:∀e1 h',(∀b o,b≠a->s.heap.get? b=some o->h'.get? b=some o)->h'.get? a=some (wQ "list" #[] e1)->
   wpAny (model H w) A (keyKind' vs.toArray) (fun κ s'=>(kas_sort vs.length).kasWp (kas_ask H w A κ vs) (λp s''=>s''.heap.get? a=some (wQ "list" #[] e1)/\
    ∀h'' c2,w6 a s''.heap h''->h''.get? a=some (wQ "list" (zau (p.toList.map λi=>vs.getD i wC)) c2)->P (.done (.ret .none)) {s'' with heap:=h''}) s') (λ_ _=>False) {s with heap:=h'}):
  wpAny (model H w) A (Builtin.«list.sort» ⟨[.ref a],[]⟩) P E s:=by
 have s1:=xJ s.heap a (y4 λ_=>(#[]:Array Value));obtain⟨e1,ho1⟩:∃e1,(s.heap.update a (y4 λ_=>(#[]:Array Value))).get? a=some (wQ "list" #[] e1):=⟨_,zbs ho λ_=>#[]⟩
 have ask:=h e1 (((s.heap.update a (y4 λ_=>(#[]:Array Value))).push (wQ "tuple" vs.toArray 0)).push (wQ "list" #[] 0))
  (λb o hb e=>uO _ (uO _ (s1.extBut b o hb e))) (uO _ (uO _ ho1))
 rw[list_sort_plain];refine tY (listItems_at ho rfl ?_);refine tY (listUpdate_at ho rfl ?_ (by rw[y5,za8];exact qA (qC ‹_›) (by decide)) (uZ _));refine tY (seqEpoch_at ho1 rfl ?_);refine tY (wpAny_newTuple ?_ (by show vs.length<=_;rw[za8];exact qA (qC ‹_›) (by decide)));refine tY (wpAny_newList ?_ (uZ _));refine y9 ?_;show wpAny (model H w) A _ P E {s with heap:=((s.heap.update a (y4 λ_=>(#[]:Array Value))).push (wQ "tuple" vs.toArray 0)).push (wQ "list" #[] 0)}
 dsimp only;have hn2:¬vs.toArray.size<2:=by rw[y5];exact Nat.not_lt.mpr ‹_›
 rw[if_neg hn2,if_neg hn2];refine tY (vI ask (fun κ s0 hk=>?_) λ_ _ x=>x.elim);refine tY (vI (kat_run (Q:=λst' s'=>∃p:Array Nat,p.size=vs.length/\arrOf st'=p.map (kas_item (vs.toArray.zip vs.toArray))/\failedOf st'=none/\(s'.heap.get? a=some (wQ "list" #[] e1)/\
    ∀h'' c2,w6 a s'.heap h''->h''.get? a=some (wQ "list" (zau (p.toList.map λi=>vs.getD i wC)) c2)->P (.done (.ret .none)) {s' with heap:=h''}))
  rfl h2 h64 (λp' st' s' a1 a2 a3 a4=>⟨p',a1,a2,a3,a4⟩) hk) ?_ λ_ _ e=>e)
 rintro⟨⟨⟩,st'⟩ s' ⟨p,hp,har,hf,na,k⟩;dsimp only;have hout:=kat_snds rfl har;have hsz:(zau (p.toList.map λi=>vs.getD i wC)).size=vs.length:=by rw[y5,uJ,yB,hp]
 rw[hout];have s2:=xJ s'.heap a (y4 λ_=>zau (p.toList.map λi=>vs.getD i wC));obtain⟨c2,hc2⟩:∃c2,(s'.heap.update a (y4 λ_=>zau (p.toList.map λi=>vs.getD i wC))).get? a=some (wQ "list" (zau (p.toList.map λi=>vs.getD i wC)) c2):=⟨_,zbs na λ_=>zau (p.toList.map λi=>vs.getD i wC)⟩
 refine tY (seqEpoch_at na rfl ?_);refine tY (listUpdate_at na rfl ?_ (uZ _) (qA (vC hsz) (by rw[za8];exact qA (qC ‹_›) (by decide))));rw[hf];simp only[bne_self_eq_false,vQ,if_false];exact uC (k _ c2 s2 hc2)
theorem Tx(vs:List Value):(vs.toArray.zip vs.toArray).map (·.2)=vs.toArray:=by
 rw[<-Array.toList_inj];simp[List.map_snd_zip]
theorem LS{a:Addr}{vs:List Value}{n:Nat}{P:PySem.Fin->tX->Prop}(ho:s.heap.get? a=some (wQ "list" vs.toArray n))(h2:vs.length<2)
  (h:∀h' c,(∀b o,b≠a->s.heap.get? b=some o->h'.get? b=some o)->h'.get? a=some (wQ "list" vs.toArray c)->P (.done (.ret .none)) {s with heap:=h'}):
  wpAny (model H w) A (Builtin.«list.sort» ⟨[.ref a],[]⟩) P E s:=by
 have s1:=xJ s.heap a (y4 λ_=>(#[]:Array Value));obtain⟨e1,ho1⟩:∃e1,(s.heap.update a (y4 λ_=>(#[]:Array Value))).get? a=some (wQ "list" #[] e1):=⟨_,zbs ho λ_=>#[]⟩
 have ho6:(((s.heap.update a (y4 λ_=>(#[]:Array Value))).push (wQ "tuple" vs.toArray 0)).push (wQ "list" #[] 0)).get? a=some (wQ "list" #[] e1):=uO _ (uO _ ho1)
 rw[list_sort_plain];refine tY (listItems_at ho rfl ?_);refine tY (listUpdate_at ho rfl ?_ (by rw[y5,za8];exact qA (qC ‹_›) (by decide)) (uZ _));refine tY (seqEpoch_at ho1 rfl ?_);refine tY (wpAny_newTuple ?_ (by show vs.length<=_;rw[za8];exact qA (qC ‹_›) (by decide)));refine tY (wpAny_newList ?_ (uZ _));refine y9 ?_;show wpAny (model H w) A _ P E {s with heap:=((s.heap.update a (y4 λ_=>(#[]:Array Value))).push (wQ "tuple" vs.toArray 0)).push (wQ "list" #[] 0)}
 dsimp only;have hn2:vs.toArray.size<2:=by rw[y5];assumption
 rw[if_pos hn2,if_pos hn2];refine tY (uC ?_);rw[StateT.run_pure];refine tY (uC ?_);dsimp only;have hv:(arrOf (SortSt.mk' general' (vs.toArray.zip vs.toArray) #[] 7 none)).map (·.2)=vs.toArray:=by
  exact Tx vs
 rw[hv];refine tY (seqEpoch_at ho6 rfl ?_);refine tY (listUpdate_at ho6 rfl ?_ (uZ _) (by rw[y5,za8];exact qA (qC ‹_›) (by decide)));simp only[bne_self_eq_false,vQ,if_false];obtain⟨c2,hc2⟩:∃c2,((((s.heap.update a (y4 λ_=>(#[]:Array Value))).push (wQ "tuple" vs.toArray 0)).push (wQ "list" #[] 0)).update a (y4 λ_=>vs.toArray)).get? a=some (wQ "list" vs.toArray c2):=⟨_,zbs ho6 λ_=>vs.toArray⟩
 exact uC (h _ c2 (λb o hb e=>(xJ _ a _).extBut b o hb (uO _ (uO _ (s1.extBut b o hb e)))) hc2)
inductive Bh(h:Heap)(v:Value)(p:Int×Int):Prop
 |mk(x:Addr)(o:Obj)(xs:Array Value)(n:Nat)(t u:Tok)(e:v=.ref x)(ho:h.get? x=some o)(hc:o.cls=.type "tuple")(hd:o.data=.seq xs n)(hx:xs.toList=[.int p.1 t,.int p.2 u])
inductive dO(P:Addr->Prop)(h:Heap)(v:Value)(p:Int×Int):Prop
 |mk(x:Addr)(o:Obj)(xs:Array Value)(n:Nat)(t u:Tok)(e:v=.ref x)(px:P x)(ho:h.get? x=some o)(hc:o.cls=.type "tuple")(hd:o.data=.seq xs n)(hx:xs.toList=[.int p.1 t,.int p.2 u])
noncomputable def pJ(p q:Int×Int):Bool:=if p.1=q.1 then decide (p.2<q.2) else decide (p.1<q.1)
theorem Vx(hv:Bh s.heap v p)(hu:Bh s.heap u q)(h:C (pJ p q) s):wpAny (model H w) A (keyLt' (tuples' true) v u) C (λ_ _=>False) s:=by
 obtain⟨x,ox,xs,nx,t1,t2,rfl,hx,_,dx,ex⟩:=hv;obtain⟨y,oy,ys,ny,u1,u2,rfl,hy,_,dy,ey⟩:=hu;have e1:xs.size=2:=by rw[<-yB,ex];rfl
 have e2:ys.size=2:=by rw[<-yB,ey];rfl
 refine kat_lt hx dx hy dy ?_;rw[ex,ey,e1,e2,w7,w7,List.zip_nil_left];refine kat_cons (zbE p.1 t1 q.1 u1 H w _ _ ?_);unfold pJ at h;by_cases h1:p.1=q.1
 ·rw[if_pos h1] at h;have b1:(p.1==q.1)=true:=by exact if_pos ‹_›
  rw[b1];refine kat_yes (kat_cons (zbE p.2 t2 q.2 u2 H w _ _ ?_));by_cases h2:p.2=q.2
  ·have b2:(p.2==q.2)=true:=by exact if_pos ‹_›
   rw[b2];refine kat_yes (kat_nil ?_);have:decide (p.2<q.2)=decide ((2:Nat)<2):=by rw[h2];simp
   rw[<-this];exact h
  ·have b2:(p.2==q.2)=false:=by exact if_neg ‹_›
   rw[b2];exact kat_no (kat_one _ _ (lt_int h))
 ·rw[if_neg h1] at h;have b1:(p.1==q.1)=false:=by exact if_neg ‹_›
  rw[b1];exact kat_no (oneLt_int h)
noncomputable def Sn{α:Type}(f:Nat->Nat->Bool):KasT α->α
 |.ret a=>a
 |.ask i j k=>Sn f (k (f i j))
noncomputable def I8{α:Type}(n:Nat)(f:Nat->Nat->Bool):KasT α->Bool
 |.ret _=>true
 |.ask i j k=>decide (i<n)&&decide (j<n)&&I8 n f (k (f i j))
theorem Pn:∀{α:Type} (n:Nat) (f:Nat->Nat->Bool) (i j:Nat) (k:Bool->W.KasT α),I8 n f (W.KasT.ask i j k)=(decide (i<n)&&decide (j<n)&&I8 n f (k (f i j))):=λ_ _ _ _ _=>rfl
theorem MZ{α:Type}{n:Nat}{cmp:Nat->Nat->(Bool->tX->Prop)->tX->Prop}{f:Nat->Nat->Bool}{G:α->tX->Prop}(hc:∀i j C,i<n->j<n->C (f i j) s->cmp i j C s):∀(t:KasT α),I8 n f t=true->G (Sn f t) s->t.kasWp cmp G s
 |.ret _,_,h=>h
 |.ask i j k,ho,h=>by
  simp only[Pn,uU,decide_eq_true_eq] at ho;exact hc i j _ ho.1.1 ho.1.2 (MZ hc (k (f i j)) ho.2 h)
noncomputable def pr(i:Nat):Int×Int:=Cy.getD i (0,0)
noncomputable def Gh(is:List Nat):List Nat:=(v5 4).filter λi=>is.contains i
def f6(is:List Nat)(i j:Nat):Bool:=pJ (pr (is.getD i 0)) (pr (is.getD j 0))
def sortOk(is:List Nat):Bool:=I8 is.length (f6 is) (kas_sort is.length)&&((Sn (f6 is) (kas_sort is.length)).toList.map (λi=>is.getD i 0)==Gh is)&&((Sn (f6 is) (kas_sort is.length)).toList.all λi=>decide (i<is.length))
theorem LP:((v5 4).all λa=>(v5 4).all λb=>(a==b)||(sortOk [a,b]&&(v5 4).all λc=>(a==c||b==c)||(sortOk [a,b,c]&&(v5 4).all λd=>(a==d||b==d||c==d)||sortOk [a,b,c,d])))=true:=by decide +kernel
theorem N7(hT:s.TypeIs (.ref d) "dict")(hd:(d==sysModules)=false)
  (h:Q (.ref s.heap.objs.size) {s with heap:=s.heap.push {cls:=.type "dict_keys",data:=.fields #[.ref d]}}):wpAny (model H w) A (call (.builtin "dict.keys") [.ref d]) Q E s:=by
 refine yE PySem.F.slot_dict_keys hT PySem.F.entry_dict_keys ?_ (PySem.F.args_dict_keys_1 _);refine tY ?_;unfold Builtin.Dict.noArgs;refine tY (wpAny_notOrdered_dict hT ?_);show wpAny _ _ (pure d) _ _ s;refine uC ?_;show wpAny _ _ (Builtin.Dict.showsAll d >>= _) _ _ s;unfold Builtin.Dict.showsAll;rw[if_neg (by rw[hd];exact Bool.false_ne_true)];refine tY (uC ?_);exact tY (yL (uC ⟨_,rfl,h⟩))
theorem LB{h:Heap}{vs:List Value}:∀{ps:List (Int×Int)},vs.length=ps.length->(∀(j:Nat) (v:Value) (p:Int×Int),vs[j]?=some v->ps[j]?=some p->Bh h v p)->∃fs,KatTups h vs fs/\fs.length=vs.length/\∀f∈fs,∃i t,f=Value.int i t:=by
 induction vs with
 |nil=>intro ps hl _;exact⟨[],trivial,rfl,λf hf=>absurd hf vJ⟩
 |cons v vs ih=>
  intro ps hl hp;rcases ps with _|⟨p,ps⟩
  ·exact absurd hl (yW _)
  obtain⟨fs,h1,h2,h3⟩:=ih (ps:=ps) (zbD hl) λj v p e1 e2=>hp (j+1) v p e1 e2;obtain⟨x,o,xs,n,t,u,rfl,hx,hc,hd,e⟩:=hp 0 v p rfl rfl;refine⟨.int p.1 t::fs,KatTups.cons hx hc hd ?_ h1,congrArg (·+1) h2,λf hf=>?_⟩
  ·rw[<-zaq,e];rfl
  ·exact(List.mem_cons.mp hf).elim (λq=>⟨_,_,q⟩) (h3 f)
theorem Ls{vs:List Value}{ps:List (Int×Int)}{Q:SortKind->tX->Prop}(hl:vs.length=ps.length)(h0:0<vs.length)(hp:∀(j:Nat) (v:Value) (p:Int×Int),vs[j]?=some v->ps[j]?=some p->Bh s.heap v p)(h:Q (tuples' true) s):
  wpAny (model H w) A (keyKind' vs.toArray) Q E s:=by
 obtain⟨fs,h1,h2,h3⟩:=LB hl hp;refine kat_kind (T:=.type "int") h1 (h2▸h0) (λf hf=>?_) (by decide) (by
  have:(yO "int" != yO "tuple")=true:=by decide
  rw[this];exact h)
 obtain⟨i,t,rfl⟩:=h3 f hf;exact .now
theorem Bh.keep{h h':Heap}{v:Value}{p:Int×Int}(x:Bh h v p)(k:∀a o,v=.ref a->h.get? a=some o->h'.get? a=some o):Bh h' v p:=
 by obtain⟨a,o,xs,n,t,u,e,ho,r1,r2,r3⟩:=x;exact⟨a,o,xs,n,t,u,e,k a o e ho,r1,r2,r3⟩
theorem OU{is:List Nat}(h2:2<=is.length)(h4:is.length<=4)(hnd:is.Nodup)(hlt:∀i∈is,i<4):sortOk is=true:=by
 have all:=LP;simp only[uF,xY,uU,beq_iff_eq,List.mem_range] at all
 match is,h2,h4 with
 |[a,b],_,_=>
  simp at hnd hlt;exact((all a hlt.1 b hlt.2).resolve_left hnd).1
 |[a,b,c],_,_=>
  simp at hnd hlt;have h1:=((all a hlt.1 b hlt.2.1).resolve_left hnd.1.1).2 c hlt.2.2;exact(h1.resolve_left (λq=>q.elim hnd.1.2 hnd.2)).1
 |[a,b,c,d],_,_=>
  simp at hnd hlt;have h1:=((all a hlt.1 b hlt.2.1).resolve_left hnd.1.1).2 c hlt.2.2.1;have h2:=(h1.resolve_left (λq=>q.elim hnd.1.2.1 hnd.2.1.1)).2 d hlt.2.2.2;exact h2.resolve_left (λq=>q.elim (λq=>q.elim hnd.1.2.2 hnd.2.1.2) hnd.2.2)
theorem Hx{is:List Nat}(h:is.length<2)(hlt:∀i∈is,i<4):Gh is=is:=by
 rcases is with _|⟨a,_|⟨b,t⟩⟩
 ·decide
 ·have ha:=hlt a u4;rcases a with _|_|_|_|a<;>first|rfl|lia
 ·exact absurd h (Nat.not_lt.mpr (vY 2 _))
theorem LT{r d:Addr}{es:Array DictEntry}{ep:Nat}{is:List Nat}{Q:Value->tX->Prop}(hh:A.handled=none)(hv:KdlKeysView s.heap r d)(hm:CZ s.heap d es ep)(hl:is.length=es.size)(h4:es.size<=4)(hnd:is.Nodup)(hlt:∀i∈is,i<4)
  (hp:∀(j:Nat) (e:DictEntry),es[j]?=some e->Bh s.heap e.key (pr (is.getD j 0)))
  (hQ:∀h' tk D c (us:List Value),zx s.heap h'->s.heap.get? D=none->h'.get? D=some (wQ "list" us.toArray c)->us.length=(Gh is).length->(∀(k:Nat) (u:Value),us[k]?=some u->∃(j:Nat) (e:DictEntry),es[j]?=some e/\u=e.key/\(Gh is)[k]?=some (is.getD j 0))->Q (.ref D) {s with heap:=h',toks:=tk}):
  wpAny (model H w) A (call (.builtin "sorted") [.ref r]) Q E s:=by
 refine Calls.call_function_entry kind_sorted plain_sorted entry_sorted (args_sorted1 _) ?_;unfold Builtin.«sorted»;refine tY (m:=checkCount "sorted" 1 1 _) (uC ?_)
 refine tY (Ki hh hv hm (qA h4 (by decide)) λh₁ tk k1=>?_);refine tY (wpAny_newList ?_ (by simp;exact qA h4 (by decide)));generalize hvs:es.toList.map (·.key)=vs;have hvl:vs.length=es.size:=by rw[<-hvs];exact uJ _
 have hoL:(h₁.push (wQ "list" vs.toArray 0)).get? h₁.objs.size=some (wQ "list" vs.toArray 0):=uX _ rfl
 have nD:s.heap.get? h₁.objs.size=none:=AP k1 (xF (uK _));have hat:∀{j:Nat} {v:Value},vs[j]?=some v->∃e,es[j]?=some e/\v=e.key:=λ{j v} q=>by
  rw[<-hvs,v6] at q;cases z:es.toList[j]? with
  |none=>rw[z] at q;exact nn q
  |some e=>rw[z] at q;(obtain rfl:=zP q;clear q);exact⟨e,by simpa using z,rfl⟩
 refine tY (y9 (yE slot_list_sort ⟨_,hoL,rfl⟩ entry_list_sort ?_ (args_list_sort _)));by_cases h2:vs.length<2
 ·refine LS hoL h2 λh' c kx hD=>⟨_,rfl,uC ⟨_,rfl,hQ h' tk _ c vs (λa o e=>kx a o (λq=>by rw[q,nD] at e;exact nn e) (uO _ (k1 a o e))) nD hD ?_ λk u hu=>?_⟩⟩
  ·rw[Hx (by rw[hl,<-hvl];exact h2) hlt,hl];exact hvl
  ·obtain⟨e,he,rfl⟩:=hat hu;have hk:k<is.length:=by rw[hl];exact(Array.getElem?_eq_some_iff.mp he).1
   exact⟨k,e,he,rfl,by rw[Hx (by rw[hl,<-hvl];exact h2) hlt,uH,uA hk];rfl⟩
 ·have hsk:=OU (hl▸hvl▸Nat.not_lt.mp h2) (hl▸h4) hnd hlt;simp only[sortOk,uU,beq_iff_eq,uF,decide_eq_true_eq] at hsk;obtain⟨⟨s1,s2⟩,s3⟩:=hsk;refine LR hoL (by exact Nat.not_lt.mp ‹_›) (by exact qB (hvl▸h4) (by decide)) λe1 h' kx hD=>?_;have kk:zx s.heap h':=λa o e=>kx a o (λq=>by rw[q,nD] at e;exact nn e) (uO _ (k1 a o e));have hpp:∀(j:Nat) (v:Value),vs[j]?=some v->Bh h' v (pr (is.getD j 0)):=λj v q=>by
   obtain⟨e,he,rfl⟩:=hat q;exact(hp j e he).keep λa o _ z=>kk a o z
  have hpi:∀i,i<is.length->Bh h' (vs.getD i wC) (pr (is.getD i 0)):=λi hi=>by
   have:vs[i]?=some vs[i]:=uA (by exact(hvl.trans hl.symm)▸hi);rw[uH,this];exact hpp i _ this
  refine Ls (ps:=is.map pr) (by simp;exact hvl.trans hl.symm) (by exact qD (by decide) (Nat.not_lt.mp h2)) (λj v p q1 q2=>?_) ?_
  ·have h1:=hpp j v q1;rw[v6] at q2;cases z:is[j]? with
   |none=>rw[z] at q2;exact nn q2
   |some i=>rw[z] at q2;(obtain rfl:=zP q2;clear q2);rw[uH,z] at h1;exact h1
  ·have hlen:vs.length=is.length:=hvl.trans hl.symm;rw[hlen];refine MZ (n:=is.length) (f:=f6 is) (λi j C hi hj hc=>Vx (hpi i hi) (hpi j hj) hc) _ s1 ⟨hD,λh'' c2 hsb hD2=>⟨_,rfl,uC ⟨_,rfl,?_⟩⟩⟩;refine hQ h'' tk _ c2 _ (λa o e=>hsb.extBut a o (λq=>by rw[q,nD] at e;exact nn e) (kk a o e)) nD hD2 (by rw[<-s2];simp) λk u hu=>?_;rw[v6] at hu;cases z:(Sn (f6 is) (kas_sort is.length)).toList[k]? with
   |none=>rw[z] at hu;exact nn hu
   |some j=>
    rw[z] at hu;(obtain rfl:=zP hu;clear hu);have hj:=s3 j (v9 z);have hv:vs[j]?=some vs[j]:=uA (by lia);obtain⟨e,he,q⟩:=hat hv;refine⟨j,e,he,?_,?_⟩
    ·show vs.getD j wC=e.key;rw[uH,hv];exact q
    ·rw[<-s2,v6,z];rfl
end
noncomputable def Lm:D->Nat
 |.tuple [.int i,.int j]=>(2*i+j).toNat
 |_=>0
theorem CN(h:Az k=true):Lm k<4/\∃i j,k=.tuple [.int i,.int j]/\pr (Lm k)=(i,j):=by
 induction k using uG with
 |tuple xs=>
  obtain⟨i,j,rfl,hij⟩:=Fu h;clear h;rcases hij with⟨rfl|rfl,rfl|rfl⟩
  ·exact⟨by decide,0,0,rfl,by decide⟩
  ·exact⟨by decide,0,1,rfl,by decide⟩
  ·exact⟨by decide,1,0,rfl,by decide⟩
  ·exact⟨by decide,1,1,rfl,by decide⟩
 |_=>exact ff h
theorem Kd:Cy=(v5 4).map pr:=by decide
theorem Uo:(kvs.all λkv=>Az kv.1)=true->∀{i:Nat},i<4->(jY kvs (AG (pr i))).isSome=(kvs.map λkv=>Lm kv.1).contains i:=by
 induction kvs with
 |nil=>
  intro _ i _;exact rfl
 |cons zhd r ih=>
  obtain⟨k,v⟩:=zhd;intro h i hi;skip;simp only[List.all_cons,uU] at h;obtain⟨h1,a,b,rfl,h2⟩:=CN h.1;have ih:=ih h.2 hi;have key:jk (.tuple [.int a,.int b]) (AG (pr i))=(i==Lm (.tuple [.int a,.int b])):=by
   have e:pr (Lm (.tuple [.int a,.int b]))=(a,b):=h2;generalize Lm (.tuple [.int a,.int b])=n at h1 e;have ha:a=(pr n).1:=by rw[e]
   have hb:b=(pr n).2:=by rw[e]
   rw[ha,hb];clear e h2 ha hb ih h;rcases i with _|_|_|_|i<;>rcases n with _|_|_|_|n<;>first|rfl|lia|decide
  simp only[BH,vZ,List.contains_cons,key];cases q:i==Lm (.tuple [.int a,.int b]) with
  |true=>rfl
  |false=>skip;exact ih
theorem N6(h:(kvs.all λkv=>Az kv.1)=true):(Cy.filter λp=>(jY kvs (AG p)).isSome)=(Gh (kvs.map λkv=>Lm kv.1)).map pr:=by
 rw[Kd,List.filter_map];congr 1;unfold Gh;refine List.filter_congr λi hi=>?_;exact Uo h (List.mem_range.mp hi)
theorem Q8(r:Ee P h l kvs):l.length=kvs.length/\∀(j:Nat) (x:List Int×Addr×Value),l[j]?=some x->P x.2.1/\∃a b d,x.1=[a,b]/\kvs[j]?=some (.tuple [.int a,.int b],d):=by
 induction r with
 |nil=>exact⟨rfl,λj x e=>nn e⟩
 |@cons i j a v d l kvs p _ r ih=>
  refine⟨congrArg (·+1) ih.1,λk x e=>?_⟩;induction k using w3 with
  |zero=>(obtain rfl:=zP e;clear e);exact⟨p,i,j,d,rfl,rfl⟩
  |succ k=>exact ih.2 k x e
theorem N4(r:Ee P h l kvs):(l.map (·.1)).Nodup->(kvs.all λkv=>Az kv.1)=true->(kvs.map λkv=>Lm kv.1).Nodup:=by
 induction r with
 |nil=>intro _ _;exact .nil
 |@cons i j a v d l kvs p _ r ih=>
  intro hn hp;simp only[vZ,wR,List.all_cons,uU] at hn hp ⊢;refine⟨λhm=>?_,ih hn.2 hp.2⟩;obtain⟨kv,hkv,e⟩:=List.mem_map.mp hm;obtain⟨k,hk,ek⟩:=List.mem_iff_getElem.mp hkv;obtain⟨h1,h2⟩:=Q8 r;have hkl:k<l.length:=by lia
  obtain⟨_,a,b,d,e1,e2⟩:=h2 k l[k] (uA hkl);rw[uA hk,ek] at e2;have hkv':kv.1=.tuple [.int a,.int b]:=by rw[wZ e2]
  have hpk:Az kv.1=true:=(uF.mp hp.2) kv hkv;obtain⟨_,a1,b1,q1,q2⟩:=CN hp.1;obtain⟨_,a2,b2,q3,q4⟩:=CN hpk;rw[e] at q4;rw[q2] at q4;cases q1;rw[hkv'] at q3;cases q3;cases q4;exact hn.1 (List.mem_map.mpr ⟨l[k],List.getElem_mem hkl,e1⟩)
theorem Ow:∀{ds:List D},vs.length=ds.length->(∀(k:Nat) (v:Value) (d:D),vs[k]?=some v->ds[k]?=some d->jG P h v d)->zk P h vs ds:=by
 induction vs with
 |nil=>intro ds hl _;cases List.length_eq_zero_iff.mp hl.symm;exact .nil
 |cons v vs ih=>
  intro ds hl hp;induction ds using uB with
  |nil=>exact absurd hl nofun
  |cons d ds=>exact .cons (hp 0 v d rfl rfl) (ih (zbD hl) λk v d e1 e2=>hp (k+1) v d e1 e2)
section
variable{H:uP}{w:World}{A:uY}{E:Value->tX->Prop}{s:tX}{T P:Addr->Prop}
theorem Lr(hh:A.handled=none)(hP:Ae P s.heap)(ru:zo H w T P s.heap u du)(h:Q3 du=.ok d)(g:∀v s',Ch s s'->jG P s'.heap v d->Q v s'):
  s.TypeIs u "dict"/\(∀a,u=.ref a->∃ob,s.heap.get? a=some ob/\ob.dict=none)/\wpAny (model H w) A (call (.builtin "dict.keys") [u]) (λv s₂=>wpAny (model H w) A (call (.builtin "sorted") [v]) Q E s₂) E s:=by
 induction du using uG with
 |dict kvs=>
  obtain⟨hall,h'⟩:=GM h
  (obtain rfl:=jz h';clear h')
  obtain⟨x,rfl,r⟩:=ru.inv_dict;have hsys:=r.1;obtain⟨l,m,q⟩:=r.tup (i:=[]) (by
   rw[uF] at hall ⊢;intro kv hkv;obtain⟨_,a,b,e,_⟩:=CN (hall kv hkv);rw[e];rfl)
  have hT:s.TypeIs (.ref x) "dict":=m.typeIs
  obtain⟨o,es,ep,ho,he,hd,hes,hi,hn⟩:=id m;obtain⟨hl,hat⟩:=Q8 q;refine⟨hT,λa e=>by cases e;exact⟨o,ho,he.2.1⟩,N7 hT hsys ?_⟩;have hsz:es.size=kvs.length:=by rw[<-hl,<-yB,hes];exact uJ _
  have hnd:=N4 q hn hall;have hlt:∀i∈(kvs.map λkv=>Lm kv.1),i<4:=λi hm=>by
   obtain⟨kv,hkv,e⟩:=List.mem_map.mp hm;rw[<-e];exact(CN ((uF.mp hall) kv hkv)).1
  have h4:es.size<=4:=by
   rw[hsz];have:=hnd.length_le_of_subset (l₂:=v5 4) (λi hi=>List.mem_range.mpr (hlt i hi))
   simpa using this
  have Jt:∀(j:Nat) (e:DictEntry),es[j]?=some e->dO P s.heap e.key (pr ((kvs.map λkv=>Lm kv.1).getD j 0)):=by
   intro j e hje;have h1:es.toList[j]?=some e:=by rw[zaq];exact hje
   rw[hes,v6] at h1;cases hy:l[j]? with
   |none=>rw[hy] at h1;exact nn h1
   |some y=>
    rw[hy] at h1
    (obtain rfl:=zP h1;clear h1)
    obtain⟨py,a,b,dd,e1,e2⟩:=hat j y hy;obtain⟨oy,its,ny,ho',hc',hd',hit⟩:=hi y (v9 hy);rw[e1] at hit;have hgd:(kvs.map λkv=>Lm kv.1).getD j 0=Lm (.tuple [.int a,.int b]):=by
     rw[uH,v6,e2];rfl
    have hpr:Az (.tuple [.int a,.int b])=true:=(uF.mp hall) _ (v9 e2);obtain⟨_,a',b',q1,q2⟩:=CN hpr;cases q1;generalize hits:its.toList=il at hit;cases hit with
    |cons k1 k2=>cases k2 with
     |cons k3 k4=>
      cases k4
      obtain⟨t,rfl⟩:=Value.isInt_shape k1;obtain⟨u,rfl⟩:=Value.isInt_shape k3;exact⟨y.2.1,oy,its,ny,t,u,rfl,py,ho',hc',hd',by rw[hgd,q2];exact hits⟩
  refine LT (s:={s with heap:=s.heap.push {cls:=.type "dict_keys",data:=.fields #[.ref x]}}) (r:=s.heap.objs.size) (d:=x) (es:=es) (ep:=ep) (is:=kvs.map λkv=>Lm kv.1) hh ⟨_,uX _ rfl,rfl,rfl⟩ ⟨o,uO _ ho,hd⟩ (by simp[hsz]) h4 hnd hlt (λj e hje=>?_) (λh' tk D c us k nD hD hlen hus=>?_)
  ·obtain⟨y,oy,its,ny,t,u,e1,_,e3,e4,e5,e6⟩:=Jt j e hje;exact⟨y,oy,its,ny,t,u,e1,uO _ e3,e4,e5,e6⟩
  ·have kp:zx s.heap h':=λa o e=>k a o (uO _ e);have nD':s.heap.get? D=none:=AP (zx.push _ _) nD;have hlist:=N6 hall;refine g (.ref D) {s with heap:=h',toks:=tk} ⟨kp,rfl,id⟩ ?_;rw[hlist];refine .list (hP D nD') hD rfl rfl rfl (Ow (by simpa using hlen) λkk v dd h1 h2=>?_) (by
    have:(Gh (kvs.map λkv=>Lm kv.1)).length<=4:=qA (List.length_filter_le _ _) (by trivial);simp only[uJ];exact qA this (by decide))
   have h1':us[kk]?=some v:=h1;obtain⟨j,e,hje,rfl,hord⟩:=hus kk v h1';rw[v6,v6,hord] at h2;obtain⟨y,oy,its,ny,t,u,e1,py,e3,e4,e5,e6⟩:=Jt j e hje;rw[<-zP h2,e1];exact .tuple py (kp _ _ e3) e4 e5 (by rw[e6];exact .cons (.int _ _) (.cons (.int _ _) .nil)) (by show(2:Nat)<=zv;decide)
 |_=>exact ns h
end
end Mine
namespace Mine
open PySem PyProof.Rows PySem.Calls
section
variable{H:uP}{w:World}{zc:Heap}{G:List D}{cf:Nat->List D->R D}{n:Nat}{names:List (Str×NameKind)}{st:List VS}{b:Bool}{env:Env}{F:List zL}{K:List (Str×D)}{mg mb:Str->Option Value}
theorem SI(B:kq F K mg mb zc)(hL:CY cx env)(hf:cx.isB f "sorted"=true)(hp:(ap.endLine==q.line)=true)(hs:j7 o=false)(ha:zH H w zc G cf n names st true env (eval o env) a):
  zH H w zc G cf n names st b env (eval (.Call (.Name f p) [.Call (.Attribute o (uQ "keys") ap) [] [] q] [] pos) env) (.un .keys a):=
 CS (W:=λA Q E u s=>s.TypeIs u "dict"/\(∀a,u=.ref a->∃ob,s.heap.get? a=some ob/\ob.dict=none)/\wpAny (model H w) A (call (.builtin "dict.keys") [u]) (λv s₂=>wpAny (model H w) A (call (.builtin "sorted") [v]) Q E s₂) E s)
  (λec h=>Db B hL hf Jd Lx (.inl ⟨_,rfl⟩) ec.stays ec.kind ec.globals ec.builtins (λ_ _ z=>by cases z) (ZK hs hp PySem.F.plainAttrs_dict PySem.F.slot_dict_keys PySem.F.type_dict_keys h))
  (λec ru hd g=>Lr ec.handled ec.pnew ru hd g) ha
end
theorem jf{fu:Nat}{cx:Cx}{e:Expr}{pe:PE}(h:z6 fu cx e=some pe):zK e:=by
 intro x p q;subst q;cases fu<;>exact nn h
theorem Du{fu:Nat}{cx:Cx}{e:Expr}{pe:PE}(h:z6 fu cx e=some pe):∀es k p,e≠.Set es k p:=by
 intro es k p q;subst q;cases fu<;>exact nn h
theorem JB{e:Expr}{env:Env}(h:∀es k p,e≠.Set es k p)(x:Value):xH e env x=pure x:=by
 induction e using v4 with
 |Set=>exact absurd rfl (h _ _ _)
 |_=>rfl
inductive TE(n:Nat)(cx:Cx):Expr->PE->Prop
 |lit{c:Const}{k:Nat}{p:Pos}{l:No}(h:JT c=some l):TE n cx (.Constant c k p) (.lit l)
 |var{x:Str}{p:Pos}{i:Nat}(h:cx.var? x=some i):TE n cx (.Name x p) (.var i)
 |glob{x:Str}{p:Pos}{i:Nat}(h:cx.const? x=some i):TE n cx (.Name x p) (.glob i)
 |and_{vs:List Expr}{p:Pos}{es:List PE}{pe:PE}(h:2<=vs.length)(h1:vs.mapM (z6 n cx)=some es)(h2:AT es=some pe):TE n cx (.BoolOp .And vs p) pe
 |or_{vs:List Expr}{p:Pos}{es:List PE}{pe:PE}(h:2<=vs.length)(h1:vs.mapM (z6 n cx)=some es)(h2:Cw es=some pe):TE n cx (.BoolOp .Or vs p) pe
 |bin{l r:Expr}{op:Operator}{p:Pos}{o:GD}{a b:PE}(h:HT op=some o)(h1:z6 n cx l=some a)(h2:z6 n cx r=some b):TE n cx (.BinOp l op r p) (.bin o a b)
 |not{x:Expr}{p:Pos}{a:PE}(h:z6 n cx x=some a):TE n cx (.UnaryOp .Not x p) (.un .not a)
 |neg{x:Expr}{p:Pos}{a:PE}(h:z6 n cx x=some a):TE n cx (.UnaryOp .USub x p) (.un .neg a)
 |list{es:List Expr}{p:Pos}{xs:List PE}(h:es.length<=1000)(h1:es.mapM (z6 n cx)=some xs):TE n cx (.List es p) (.list (kl xs))
 |tup{es:List Expr}{k:Nat}{p:Pos}{xs:List PE}(h:es.length<=1000)(h1:es.mapM (z6 n cx)=some xs):TE n cx (.Tuple es k p) (.tup (kl xs))
 |tyIs{f b:Str}{x:Expr}{p1 p2 p3 p:Pos}{a:PE}(hf:cx.isB f "type"=true)(ht:cx.isB b "bool"=true)(h:z6 n cx x=some a):TE n cx (.Compare (.Call (.Name f p1) [x] [] p2) [.Is] [.Name b p3] p) (.un .tyB a)
 |isNone{l:Expr}{k:Nat}{p1 p:Pos}{a:PE}(h:z6 n cx l=some a):TE n cx (.Compare l [.Is] [.Constant .none k p1] p) (.un .isNone a)
 |cmp{l r:Expr}{op:CmpOp}{p:Pos}{o:GD}{a b:PE}(h:HW op=some o)(h1:z6 n cx l=some a)(h2:z6 n cx r=some b):TE n cx (.Compare l [op] [r] p) (.bin o a b)
 |keys{f:Str}{o:Expr}{p1 p2 p ap:Pos}{a:PE}(hf:cx.isB f "sorted"=true)(hp:(ap.endLine==p2.line)=true)(hs:j7 o=false)(h:z6 n cx o=some a):TE n cx (.Call (.Name f p1) [.Call (.Attribute o ("keys" : Str) ap) [] [] p2] [] p) (.un .keys a)
 |call{f:Str}{x:Expr}{xs:List Expr}{p1 p:Pos}{i:Nat}{es:List PE}(hf:cx.fun? f=some i)(h:(x::xs).mapM (z6 n cx)=some es):TE n cx (.Call (.Name f p1) (x::xs) [] p) (.call i (kl es))
 |bi1{f:Str}{x:Expr}{p1 p:Pos}{u:Un}{a:PE}(hf:Yp cx f=some u)(h:z6 n cx x=some a):TE n cx (.Call (.Name f p1) [x] [] p) (.un u a)
 |bi2{f:Str}{x y:Expr}{p1 p:Pos}{o:GD}{a b:PE}(hf:Yq cx f=some o)(h:z6 n cx x=some a)(h1:z6 n cx y=some b):TE n cx (.Call (.Name f p1) [x,y] [] p) (.bin o a b)
 |m1{o x:Expr}{m:Str}{ap p:Pos}{k:M1}{a b:PE}(hm:pO m=some k)(hp:(ap.endLine==p.line)=true)(hs:j7 o=false)(h:z6 n cx o=some a)(h1:z6 n cx x=some b):TE n cx (.Call (.Attribute o m ap) [x] [] p) (.m1 k a b)
 |get{o x y:Expr}{ap p:Pos}{a b d:PE}(hp:(ap.endLine==p.line)=true)(hs:j7 o=false)(h:z6 n cx o=some a)(h1:z6 n cx x=some b)(h2:z6 n cx y=some d):TE n cx (.Call (.Attribute o ("get" : Str) ap) [x,y] [] p) (.m2 .get a b d)
 |upto{v u:Expr}{p1 p:Pos}{a b:PE}(h:z6 n cx v=some a)(h1:z6 n cx u=some b):TE n cx (.Subscript v (.Slice none (some u) none p1) p) (.bin .upto a b)
 |from_{v l:Expr}{p1 p:Pos}{a b:PE}(h:z6 n cx v=some a)(h1:z6 n cx l=some b):TE n cx (.Subscript v (.Slice (some l) none none p1) p) (.bin .from_ a b)
 |both{v l u:Expr}{p1 p:Pos}{a b d:PE}(h:z6 n cx v=some a)(h1:z6 n cx l=some b)(h2:z6 n cx u=some d):TE n cx (.Subscript v (.Slice (some l) (some u) none p1) p) (.tri .slice a b d)
 |idx{v i:Expr}{p:Pos}{a b:PE}(h:z6 n cx v=some a)(h1:z6 n cx i=some b):TE n cx (.Subscript v i p) (.bin .idx a b)
 |comp{elt t it:Expr}{ifs:List Expr}{r:List xE}{scope:Scope}{p:Pos}{q:Bool×PE}{caps:List (Option Nat)}{tg:Tg}{g:PG}(hs:BP scope=true)(h1:Xu (z6 n) cx it=some q)(h2:Dd cx scope.names=some caps)
   (h3:B7 {cx with names:=scope.names} t=some tg)(h4:IV (z6 n) {cx with names:=scope.names} elt ifs r=some g):TE n cx (.ListComp elt (⟨t,it,ifs,0⟩::r) scope p) (.comp caps q.1 q.2 tg g)
section
variable{n:Nat}{cx:Cx}{pe:PE}
theorem Zg(h:rG (z6 n) cx l r=some pe):TE n cx (.Compare l [.Is] [r] p) pe:=by
 induction r using v4 with
 |Constant c k q=>
  replace h:=Ci h;obtain⟨h1,h⟩:=h;replace h:=ob h;obtain⟨a,h2,h⟩:=h
  (obtain rfl:=zP h;clear h)
  cases c<;>first|exact ff h1|exact .isNone h2
 |Name b q=>
  replace h:=ob h;obtain⟨q,h1,h⟩:=h;replace h:=Ci h;obtain⟨hf,h⟩:=h;replace h:=ob h;obtain⟨a,h3,h⟩:=h
  (obtain rfl:=zP h;clear h);cases Ei h1
  exact .tyIs (jg hf) (z7 hf) h3
 |_=>exact nn h
theorem Ud(h:eR (z6 n) cx l op r=some pe):TE n cx (.Compare l [op] [r] p) pe:=by
 have key:W8 (z6 n) cx l op r=some pe->TE n cx (.Compare l [op] [r] p) pe:=λh=>by
  replace h:=ob h;obtain⟨o,h1,h⟩:=h;replace h:=ob h;obtain⟨a,h2,h⟩:=h;replace h:=ob h;obtain⟨b,h3,h⟩:=h
  (obtain rfl:=zP h;clear h);exact .cmp h1 h2 h3
 induction op using PySem.CmpOp.casesOn with
 |Is=>exact Zg h
 |_=>exact key h
theorem Wm(h:lL (z6 n) cx v i=some pe):TE n cx (.Subscript v i p) pe:=by
 rcases O9 h with⟨hc,h⟩|⟨_,h⟩
 ·induction i using v4 with
  |Slice l u s q=>
   replace h:=Ci h;obtain⟨h1,h⟩:=h;induction s using uW with
   |some=>exact ff h1
   |none=>
    induction l using uW with
    |none=>induction u using uW with
     |none=>exact nn h
     |some u=>
      replace h:=ob h;obtain⟨a,h2,h⟩:=h;replace h:=ob h;obtain⟨b,h3,h⟩:=h
      (obtain rfl:=zP h;clear h);exact .upto h2 h3
    |some l=>induction u using uW with
     |none=>
      replace h:=ob h;obtain⟨a,h2,h⟩:=h;replace h:=ob h;obtain⟨b,h3,h⟩:=h
      (obtain rfl:=zP h;clear h);exact .from_ h2 h3
     |some u=>
      replace h:=ob h;obtain⟨a,h2,h⟩:=h;replace h:=ob h;obtain⟨b,h3,h⟩:=h;replace h:=ob h;obtain⟨d,h4,h⟩:=h
      (obtain rfl:=zP h;clear h);exact .both h2 h3 h4
  |_=>exact nn h
 ·replace h:=ob h;obtain⟨a,h2,h⟩:=h;replace h:=ob h;obtain⟨b,h3,h⟩:=h
  (obtain rfl:=zP h;clear h);exact .idx h2 h3
theorem EA(h:(a==uQ b)=true):a=uQ b:=eq_of_beq h
inductive Yb(p:Pos)(o:Expr):Expr->Prop
 |mk(ap:Pos)(hp:(ap.endLine==p.line)=true)(hs:j7 o=false):Yb p o (.Attribute o ("keys" : Str) ap)
theorem N5(h:Q2 p e=some o):Yb p o e:=by
 induction e using v4 with
 |Attribute o' k ap=>
  replace h:=Ci h;obtain⟨hc,h⟩:=h
  (obtain rfl:=zP h;clear h)
  cases EA (jg hc)
  exact⟨ap,jg (z7 hc),iN (z7 (z7 hc))⟩
 |_=>exact nn h
inductive d9(o:Expr):List Expr->Prop
 |mk(ap p:Pos)(hp:(ap.endLine==p.line)=true)(hs:j7 o=false):d9 o [.Call (.Attribute o ("keys" : Str) ap) [] [] p]
theorem Q4(h:XA args=some o):d9 o args:=by
 obtain⟨e,h1,g⟩:=ob h;replace g:=ob g;obtain⟨⟨f,as,p⟩,h2,g⟩:=g;replace g:=Ci g;obtain⟨k3,g⟩:=g;have h3:as=[]:=Mg k3;clear k3;obtain⟨ap,h4,h5⟩:Yb p o f:=N5 g;clear h;cases kU h1;cases DC h2;subst h3;exact⟨ap,p,h4,h5⟩
theorem NC(h:PK (z6 n) cx f args=some pe):TE n cx (.Call (.Name f p1) args [] p) pe:=by
 rcases O9 h with⟨hf,h⟩|⟨_,h⟩
 ·replace h:=ob h;obtain⟨o,h1,h⟩:=h;replace h:=ob h;obtain⟨a,h2,h⟩:=h
  (obtain rfl:=zP h;clear h)
  obtain⟨ap,p,h3,h4⟩:=Q4 h1;exact .keys hf h3 h4 h2
 ·cases hi:cx.fun? f with
  |some i=>
   rw[hi] at h;replace h:=Ci h;obtain⟨h1,h⟩:=h;replace h:=ob h;obtain⟨xs,h2,h⟩:=h
   (obtain rfl:=zP h;clear h)
   induction args using uB with
   |nil=>exact tf h1
   |cons x xs=>exact .call hi h2
  |none=>
   rw[hi] at h;induction args using uB with
   |nil=>exact nn h
   |cons x r=>
    replace h:=ob h;obtain⟨a,h1,h⟩:=h;induction r using uB with
    |nil=>
     replace h:=ob h;obtain⟨u,h2,h⟩:=h
     (obtain rfl:=zP h;clear h);exact .bi1 h2 h1
    |cons y r=>
     replace h:=Ci h;obtain⟨h3,h⟩:=h;replace h:=ob h;obtain⟨o,h2,h⟩:=h;replace h:=ob h;obtain⟨b,h4,h⟩:=h
     (obtain rfl:=zP h;clear h);cases Mg h3;exact .bi2 h2 h1 h4
theorem NA(h:PH (z6 n) cx args p f=some pe):TE n cx (.Call f args [] p) pe:=by
 induction f using v4 with
 |Name f q=>exact NC h
 |Attribute o m ap=>
  replace h:=Ci h;obtain⟨hc,h⟩:=h;replace h:=ob h;obtain⟨a,h1,h⟩:=h;induction args using uB with
  |nil=>exact nn h
  |cons x r=>
   replace h:=ob h;obtain⟨b,h2,h⟩:=h;induction r using uB with
   |nil=>
    replace h:=ob h;obtain⟨k,h3,h⟩:=h
    (obtain rfl:=zP h;clear h);exact .m1 h3 (jg hc) (iN (z7 hc)) h1 h2
   |cons y r=>
    replace h:=Ci h;obtain⟨hg,h⟩:=h;replace h:=ob h;obtain⟨d,h3,h⟩:=h
    (obtain rfl:=zP h;clear h);cases EA (jg hg);cases Mg (z7 hg)
    exact .get (jg hc) (iN (z7 hc)) h1 h2 h3
 |_=>exact nn h
theorem NH(h:P8 (z6 n) cx elt scope gens=some pe):TE n cx (.ListComp elt gens scope p) pe:=by
 induction gens using uB with
 |nil=>exact nn h
 |cons c r=>
  obtain⟨t,it,ifs,a⟩:=c;replace h:=Ci h;obtain⟨⟨ha,hs⟩,h⟩:=h;replace h:=ob h;obtain⟨q,h1,h⟩:=h;replace h:=ob h;obtain⟨caps,h2,h⟩:=h;replace h:=ob h;obtain⟨tg,h3,h⟩:=h;replace h:=ob h;obtain⟨g,h4,h⟩:=h
  (obtain rfl:=zP h;clear h);cases ha;exact .comp hs h1 h2 h3 h4
theorem M9(h:z6 (n+1) cx e=some pe):TE n cx e pe:=by
 induction e using v4 with
 |Constant c k p=>replace h:=ob h;obtain⟨l,h1,h⟩:=h;(obtain rfl:=zP h;clear h);exact .lit h1
 |Name x p=>
  have h:RA cx x (cx.var? x)=some pe:=h;cases hv:cx.var? x with
  |some i=>rw[hv] at h;(obtain rfl:=zP h;clear h);exact .var hv
  |none=>rw[hv] at h;replace h:=ob h;obtain⟨i,h1,h⟩:=h;(obtain rfl:=zP h;clear h);exact .glob h1
 |BoolOp op vs p=>
  replace h:=Ci h;obtain⟨h1,h⟩:=h;replace h:=ob h;obtain⟨es,h2,h⟩:=h;cases op
  ·exact .and_ h1 h2 h
  ·exact .or_ h1 h2 h
 |BinOp l op r p=>
  replace h:=ob h;obtain⟨o,h1,h⟩:=h;replace h:=ob h;obtain⟨a,h2,h⟩:=h;replace h:=ob h;obtain⟨b,h3,h⟩:=h
  (obtain rfl:=zP h;clear h);exact .bin h1 h2 h3
 |UnaryOp op x p=>
  replace h:=ob h;obtain⟨o,h1,h⟩:=h;replace h:=ob h;obtain⟨a,h2,h⟩:=h
  (obtain rfl:=zP h;clear h)
  cases op<;>first|exact nn h1|((obtain rfl:=zP h1;clear h1);first|exact .not h2|exact .neg h2)
 |List es p=>replace h:=Ci h;obtain⟨h1,h⟩:=h;replace h:=ob h;obtain⟨xs,h2,h⟩:=h;(obtain rfl:=zP h;clear h);exact .list h1 h2
 |Tuple es k p=>replace h:=Ci h;obtain⟨h1,h⟩:=h;replace h:=ob h;obtain⟨xs,h2,h⟩:=h;(obtain rfl:=zP h;clear h);exact .tup h1 h2
 |Compare l ops rs p=>
  replace h:=ob h;obtain⟨op,h1,h⟩:=h;replace h:=ob h;obtain⟨r,h2,h⟩:=h;cases kU h1;cases kU h2;exact Ud h
 |Call f args kws p=>replace h:=Ci h;obtain⟨h1,h⟩:=h;cases Mg h1;exact NA h
 |Subscript v i p=>exact Wm h
 |ListComp elt gens scope p=>exact NH h
 |_=>exact nn h
theorem ZH(h:pO m=some k):m=uQ (BN k).2.1:=by
 rcases O9 h with⟨hc,h⟩|⟨_,h⟩
 ·(obtain rfl:=zP h;clear h);exact EA hc
 rcases O9 h with⟨hc,h⟩|⟨_,h⟩
 ·(obtain rfl:=zP h;clear h);exact EA hc
 obtain⟨hc,h⟩:=Ci h;(obtain rfl:=zP h;clear h);exact EA hc
end
def At(H:uP)(w:World)(zc:Heap)(G:List D)(cf:Nat->List D->R D)(n:Nat)(names:List (Str×NameKind))(env:Env)(e:Expr)(pe:PE):Prop:=
 ∀st,(∀b,k8 st b pe=true->zH H w zc G cf n names st b env (eval e env) pe)/\(k8 st true pe=true->CT H w zc G cf n names st env (xU e env (eval e env)) pe)
section
variable{H:uP}{w:World}{zc:Heap}{G:List D}{cf:Nat->List D->R D}{n:Nat}{names:List (Str×NameKind)}{env:Env}{F:List zL}{K:List (Str×D)}{mg mb:Str->Option Value}
theorem ja(h:∀st b,k8 st b pe=true->zH H w zc G cf n names st b env (eval e env) pe)(he:xU e env (eval e env)=(do let v <-eval e env;zaE e.pos;holding [v] (truthy v))):At H w zc G cf n names env e pe:=
 λst=>⟨λb hb=>h st b hb,λhb=>Kq (h st true hb) λhw=>wpAny_isTrue_value hw he⟩
theorem Ew(hn:∀es k p,r≠.Set es k p)(h:∀st b,k8 st b pe=true->zH H w zc G cf n names st b env (eval (.Compare l [op] [r] pos) env) pe):At H w zc G cf n names env (.Compare l [op] [r] pos) pe:=
 λst=>⟨λb hb=>h st b hb,λhb=>Kq (h st true hb) λhw=>C5 hn hw⟩
theorem DJ{st:List VS}{es:List PE}:It st (kl es)=true->∀e∈es,k8 st false e=true:=by
 induction es with
 |nil=>
  intro _ e he;cases he
 |cons a r ih=>
  intro h e he;skip;cases he with
  |head=>exact jg h
  |tail _ he=>exact ih (z7 h) e he
theorem Ea{st:List VS}{fu:Nat}{cx:Cx}(ih:∀e pe,z6 fu cx e=some pe->At H w zc G cf n names env e pe){as:List Expr}:
  ∀{es:List PE},as.mapM (z6 fu cx)=some es->(∀e∈es,k8 st false e=true)->A3 (bZ H w zc G cf n names st env) as es:=by
 induction as with
 |nil=>intro es h _;cases iH h;exact .nil
 |cons a as ih'=>
  intro es h hl;obtain⟨pe,es,h1,h2⟩:=mm h;exact .cons ⟨jf h1,(ih a pe h1 st).1 false (hl _ (u4 ..))⟩ (ih' h2 λe he=>hl e (u0 _ he))
theorem MB{st:List VS}:∀{es:List PE} {pe:PE} {b:Bool},AT es=some pe->(2<=es.length\/b=true)->k8 st b pe=true->∀e∈es,k8 st true e=true
 |[],_,_,h,_,_,_,_=>by exact nn h
 |[a],pe,b,h,h2,hl,e,he=>by
  (obtain rfl:=zP h;clear h)
  have:b=true:=h2.elim (λq=>by simp at q) id;subst this;cases he with
  |head=>exact hl
  |tail _ he=>cases he
 |a::c::r,pe,b,h,_,hl,e,he=>by
  simp only[AT] at h;cases h1:AT (c::r) with
  |none=>rw[h1] at h;exact nn h
  |some q=>
   rw[h1] at h
   (obtain rfl:=zP h;clear h)
   cases he with
   |head=>exact jg hl
   |tail _ he=>exact MB h1 (.inr rfl) (z7 hl) e he
theorem Rk{st:List VS}:∀{es:List PE} {pe:PE} {b:Bool},Cw es=some pe->(2<=es.length\/b=true)->k8 st b pe=true->∀e∈es,k8 st true e=true
 |[],_,_,h,_,_,_,_=>by exact nn h
 |[a],pe,b,h,h2,hl,e,he=>by
  (obtain rfl:=zP h;clear h)
  have:b=true:=h2.elim (λq=>by simp at q) id;subst this;cases he with
  |head=>exact hl
  |tail _ he=>cases he
 |a::c::r,pe,b,h,_,hl,e,he=>by
  simp only[Cw] at h;cases h1:Cw (c::r) with
  |none=>rw[h1] at h;exact nn h
  |some q=>
   rw[h1] at h
   (obtain rfl:=zP h;clear h)
   cases he with
   |head=>exact jg hl
   |tail _ he=>exact Rk h1 (.inr rfl) (z7 hl) e he
theorem Nq(h2:2<=es.length)(h:AT es=some pe):∃x y,pe=.and_ x y:=by
 induction es using uB with
 |nil=>exact nn h
 |cons a r=>induction r using uB with
  |nil=>simp at h2
  |cons c r=>
   simp only[AT] at h;cases h1:AT (c::r) with
   |none=>rw[h1] at h;exact nn h
   |some q=>rw[h1] at h;(obtain rfl:=zP h;clear h);exact⟨_,_,rfl⟩
theorem RV(h2:2<=es.length)(h:Cw es=some pe):∃x y,pe=.or_ x y:=by
 induction es using uB with
 |nil=>exact nn h
 |cons a r=>induction r using uB with
  |nil=>simp at h2
  |cons c r=>
   simp only[Cw] at h;cases h1:Cw (c::r) with
   |none=>rw[h1] at h;exact nn h
   |some q=>rw[h1] at h;(obtain rfl:=zP h;clear h);exact⟨_,_,rfl⟩
theorem HI{st:List VS}{b:Bool}{t:Sem Value}{pe:PE}(hb:∀ρ d,ev G cf pe ρ=.ok d->∃c,d=.bool c)(h:zH H w zc G cf n names st true env t pe):zH H w zc G cf n names st b env t pe:=by
 intro P A fs s ρ Q E ec vo hok hve hns;refine h P A fs s ρ Q E ec vo (λd v s' hd c r=>?_) hve hns;obtain⟨c',rfl⟩:=hb ρ d hd;have:=r.inv_bool;subst this;exact hok _ _ _ hd c (.rep (.bool _))
theorem Pk(ρ:zg)(d:D)(h:ev G cf (.and_ a c) ρ=.ok d):∃c,d=.bool c:=by
 replace h:=rb h;obtain⟨x,_,h⟩:=h;replace h:=rb h;obtain⟨t,_,h⟩:=h;induction t using tZ with
 |false=>(obtain rfl:=jz h;clear h);exact⟨_,rfl⟩
 |true=>replace h:=rb h;obtain⟨y,_,h⟩:=h;replace h:=rb h;obtain⟨u,_,h⟩:=h;(obtain rfl:=jz h;clear h);exact⟨_,rfl⟩
theorem Vw(ρ:zg)(d:D)(h:ev G cf (.or_ a c) ρ=.ok d):∃c,d=.bool c:=by
 replace h:=rb h;obtain⟨x,_,h⟩:=h;replace h:=rb h;obtain⟨t,_,h⟩:=h;induction t using tZ with
 |true=>(obtain rfl:=jz h;clear h);exact⟨_,rfl⟩
 |false=>replace h:=rb h;obtain⟨y,_,h⟩:=h;replace h:=rb h;obtain⟨u,_,h⟩:=h;(obtain rfl:=jz h;clear h);exact⟨_,rfl⟩
theorem Nm{st:List VS}{fu:Nat}{cx:Cx}(ih:∀e pe,z6 fu cx e=some pe->At H w zc G cf n names env e pe){as:List Expr}:
  ∀{es:List PE},as.mapM (z6 fu cx)=some es->(∀e∈es,k8 st true e=true)->A3 (X8 H w zc G cf n names st env) as es:=by
 induction as with
 |nil=>intro es h _;cases iH h;exact .nil
 |cons a as ih'=>
  intro es h hl;obtain⟨pe,es,h1,h2⟩:=mm h;exact .cons ⟨(ih a pe h1 st).1 true (hl _ (u4 ..)),(ih a pe h1 st).2 (hl _ (u4 ..))⟩ (ih' h2 λe he=>hl e (u0 _ he))
theorem Gd{α β:Type}{f:α->Option β}{as:List α}:∀{bs:List β},as.mapM f=some bs->bs.length=as.length:=by
 induction as with
 |nil=>intro bs h;cases iH h;rfl
 |cons a as ih=>intro bs h;obtain⟨b,bs,_,h2⟩:=mm h;exact congrArg (·+1) (ih h2)
theorem JV(hL:CY cx env)(hcaps:Dd cx scope.names=some caps)(hcell:∀y∈scope.names,y.2≠.cell)(hcl2:∀x∈scope.names,x.2=.free->cl.lookup x.1=env.cells.lookup x.1):
  CY {cx with names:=scope.names} (xP scope cl C env) where
 glob:=λx hx=>by
  rcases AV (env:=env) hx with q|⟨q,_⟩
  ·exact q
  ·cases q
 cell:=λx hx=>by
  rcases hx with hx|hx
  ·exact absurd rfl (hcell _ (jm hx))
  ·have hm:=jm hx;refine⟨?_,?_⟩
   ·rcases AV (env:=env) hx with q|⟨_,q⟩
    ·exact .inr q
    ·exact .inl q
   ·obtain⟨i,hi,e⟩:=List.mem_iff_getElem.mp hm;obtain⟨_,h1,h2⟩:=Ha hcaps;obtain⟨j,hj⟩:=h2 i x (by rw[uA hi,e]);obtain⟨y,h3,h4,_⟩:=h1 i j hj;rw[uA hi,e] at h3;have:x=y:=by simpa using h3
    subst this;obtain⟨c,hc⟩:=(hL.cell x h4).2;exact⟨c,(hcl2 _ hm rfl).trans hc⟩
theorem CF(B:kq F K mg mb zc){cx:Cx}(hL:CY cx env){fu:Nat}(ih:∀e pe,z6 fu cx e=some pe->At H w zc G cf n cx.names env e pe){st:List VS}{iter:Expr}{q:Bool×PE}
  (h:Xu (z6 fu) cx iter=some q)(hl:k8 st q.1 q.2=true):
  Pg H w zc G cf n cx.names st false env iter q.1 q.2/\∀x,xH iter env x=pure x:=by
 unfold Xu at h;cases hr:JH cx iter with
 |some x=>
  rw[hr] at h;obtain⟨pe,h1,h2⟩:=ob h
  (obtain rfl:=zP h2;clear h2)
  obtain⟨⟨f,y⟩,h3,h4⟩:=ob hr;replace h4:=Ci h4;obtain⟨hf,h4⟩:=h4
  (obtain rfl:=zP h4;clear h4);obtain⟨p,pos⟩:=Ei h3
  exact⟨OK B hL hf (jf h1) ((ih _ pe h1 st).1 true hl),λ_=>rfl⟩
 |none=>
  rw[hr] at h;obtain⟨pe,h1,h2⟩:=ob h
  (obtain rfl:=zP h2;clear h2)
  exact⟨SH ((ih iter pe h1 st).1 false hl),JB (Du h1)⟩
theorem Wo{cx:Cx}{fu:Nat}(ih:∀e pe,z6 fu cx e=some pe->At H w zc G cf n cx.names env e pe){st:List VS}{ifs:List Expr}{pc:PE}(h:fJ (z6 fu) cx ifs=some pc)(hl:k8 st true pc=true):
  KS H w zc G cf n cx.names st env ifs pc:=by
 induction ifs using uB with
 |nil=>(obtain rfl:=zP h;clear h);exact .inl ⟨rfl,rfl⟩
 |cons c r=>obtain⟨h1,h⟩:=Ci h;cases Mg h1;exact .inr ⟨_,rfl,(ih _ _ h st).2 hl⟩
theorem JC(B:kq F K mg mb zc)(hL:CY cx env)(hnd:(cx.names.map (·.1)).Nodup)(ih:∀e pe,z6 fu cx e=some pe->At H w zc G cf n cx.names env e pe):
  ∀(rest:List xE) (ifs:List Expr) (st:List VS) (g:PG) (k:Nat),gens.drop (k+1)=rest->IV (z6 fu) cx elt ifs rest=some g->lkG st g=true->Pf H w zc G cf n cx env L elt gens scope pos k ifs st g
 |[],ifs,st,g,k,hd,ht,hl=>by
  replace ht:=ob ht;obtain⟨pc,h1,ht⟩:=ht;replace ht:=ob ht;obtain⟨pe,h2,ht⟩:=ht
  (obtain rfl:=zP ht;clear ht)
  refine Sx ?_ (Wo ih h1 (jg hl)) ((ih elt pe h2 st).1 false (z7 hl));have:=congrArg List.length hd;rw[xO] at this;exact wO (zbf this)
 |_::_,_,_,_,_,_,ht,_=>nn ht
theorem VT(B:kq F K mg mb zc){cx:Cx}(hL:CY cx env){st:List VS}{b:Bool}{f:Str}{x:Expr}{p pos:Pos}{u:Un}{a:PE}(hf:Yp cx f=some u)(hx:zK x)(h:zH H w zc G cf n names st true env (eval x env) a):
  zH H w zc G cf n names st b env (eval (.Call (.Name f p) [x] [] pos) env) (.un u a):=by
 rcases O9 hf with⟨hc,h1⟩|⟨_,h1⟩
 ·(obtain rfl:=zP h1;clear h1);exact VZ B hL hc hx h
 replace h1:=Ci h1;obtain⟨hc,h1⟩:=h1
 (obtain rfl:=zP h1;clear h1);exact VY B hL hc hx h
theorem VU(B:kq F K mg mb zc){cx:Cx}(hL:CY cx env){st:List VS}{b:Bool}{f:Str}{x y:Expr}{p pos:Pos}{o:GD}{a c:PE}(hf:Yq cx f=some o)(hx:zK x)(hy:zK y)(h:zH H w zc G cf n names st true env (eval x env) a)(h':zH H w zc G cf n names st true env (eval y env) c):
  zH H w zc G cf n names st b env (eval (.Call (.Name f p) [x,y] [] pos) env) (.bin o a c):=by
 rcases O9 hf with⟨hc,h1⟩|⟨_,h1⟩
 ·(obtain rfl:=zP h1;clear h1);exact V1 B hL hc hx hy h h'
 replace h1:=Ci h1;obtain⟨hc,h1⟩:=h1
 (obtain rfl:=zP h1;clear h1);exact V2 B hL hc hx hy h h'
theorem OV(ih:∀e pe,z6 fu cx e=some pe->At H w zc G cf n names env e pe)(h2:2<=vs.length)(h1:vs.mapM (z6 fu cx)=some es)(h:AT es=some pe):At H w zc G cf n names env (.BoolOp .And vs pos) pe:=by
 intro st;have hle:2<=es.length:=by rw[Gd h1];exact h2
 have key:k8 st true pe=true->X8 H w zc G cf n names st env (.BoolOp .And vs pos) pe:=λhl=>LK (Nm ih h1 (MB h (.inl hle) hl)) h;obtain⟨x,y,rfl⟩:=Nq hle h;exact⟨λb hl=>HI Pk (key hl).1,λhl=>(key hl).2⟩
theorem ST(ih:∀e pe,z6 fu cx e=some pe->At H w zc G cf n names env e pe)(h2:2<=vs.length)(h1:vs.mapM (z6 fu cx)=some es)(h:Cw es=some pe):At H w zc G cf n names env (.BoolOp .Or vs pos) pe:=by
 intro st;have hle:2<=es.length:=by rw[Gd h1];exact h2
 have key:k8 st true pe=true->X8 H w zc G cf n names st env (.BoolOp .Or vs pos) pe:=λhl=>OM (Nm ih h1 (Rk h (.inl hle) hl)) h;obtain⟨x,y,rfl⟩:=RV hle h;exact⟨λb hl=>HI Vw (key hl).1,λhl=>(key hl).2⟩
theorem LU(B:kq F K mg mb zc)(hL:CY cx env)(ih:∀e pe,z6 fu cx e=some pe->At H w zc G cf n cx.names env e pe)
  (IH:∀(cx':Cx) (env:Env) (e:Expr) (pe:PE),cx'.funs=F.map (·.name)->cx'.consts=cx.consts->CY cx' env->z6 fu cx' e=some pe->At H w zc G cf n cx'.names env e pe)(hF:cx.funs=F.map (·.name))
  {elt t it:Expr}{ifs:List Expr}{r:List xE}{scope:Scope}{p:Pos}{q:Bool×PE}{caps:List (Option Nat)}{tg:Tg}{g:PG}(hsc:BP scope=true)(h1:Xu (z6 fu) cx it=some q)(h2:Dd cx scope.names=some caps)
  (h3:B7 {cx with names:=scope.names} t=some tg)(h4:IV (z6 fu) {cx with names:=scope.names} elt ifs r=some g):At H w zc G cf n cx.names env (.ListComp elt (⟨t,it,ifs,0⟩::r) scope p) (.comp caps q.1 q.2 tg g):=
 ja (λst b hl=>by
  obtain⟨i1,i2⟩:=CF B hL ih h1 (jg hl);refine SF hL i1 i2 h2 hsc h3 λcl C' L' hcl1 hcl2=>?_;have hL':CY {cx with names:=scope.names} (xP scope cl C' env):=JV hL h2 (λy hy=>by have:=uF.mp (z7 (jg hsc)) y hy;simpa using this) hcl2;exact JC B hL' (of_decide_eq_true (z7 hsc)) (λe pe h=>IH {cx with names:=scope.names} (xP scope cl C' env) e pe hF rfl hL' h) r ifs _ g 0 rfl h4 (z7 hl)) rfl
theorem Rs(B:kq F K mg mb zc)(hG:G=K.map (·.2))(C:Dw H w F mg zc cf n)(fu:Nat):∀(cx:Cx) (env:Env) (e:Expr) (pe:PE),cx.funs=F.map (·.name)->cx.consts=K.map (·.1)->CY cx env->z6 fu cx e=some pe->At H w zc G cf n cx.names env e pe:=by
 induction fu with
 |zero=>intro _ _ _ _ _ _ _ h;exact nn h
 |succ fu IH=>
  intro cx env e pe hF hC hL h;have ih:∀e pe,z6 fu cx e=some pe->At H w zc G cf n cx.names env e pe:=λe pe h=>IH cx env e pe hF hC hL h;cases M9 h with
  |lit h1=>exact ja (λst b _=>V0 h1) rfl
  |var h1=>exact ja (λst b hl=>V7 h1 hl) rfl
  |glob h1=>exact ja (λst b _=>SG B hG hC hL h1) rfl
  |and_ h2 h1 h3=>exact OV ih h2 h1 h3
  |or_ h2 h1 h3=>exact ST ih h2 h1 h3
  |bin h1 h2 h3=>exact ja (λst b hl=>OJ h1 ((ih _ _ h2 st).1 true (jg hl)) ((ih _ _ h3 st).1 true (z7 hl))) rfl
  |not h2=>exact λst=>⟨λb hl=>V4 ((ih _ _ h2 st).1 true hl),λhl=>Sy ((ih _ _ h2 st).2 hl)⟩
  |neg h2=>exact ja (λst b hl=>V3 ((ih _ _ h2 st).1 true hl)) rfl
  |list hz h1=>exact ja (λst b hl=>SJ (Ea ih h1 (DJ hl)) hz) rfl
  |tup hz h1=>exact ja (λst b hl=>V6 (Ea ih h1 (DJ hl)) hz) rfl
  |tyIs hf h1 h2=>exact Ew Cs λst b hl=>SK B hL hf h1 (jf h2) ((ih _ _ h2 st).1 true hl)
  |isNone h2=>exact Ew AN λst b hl=>LL ((ih _ _ h2 st).1 true hl)
  |cmp h1 h2 h3=>exact Ew (Du h3) λst b hl=>VV h1 (Du h3) ((ih _ _ h2 st).1 true (jg hl)) ((ih _ _ h3 st).1 true (z7 hl))
  |keys hf hp hs h2=>exact ja (λst b hl=>SI B hL hf hp hs ((ih _ _ h2 st).1 true hl)) rfl
  |call hi h1=>exact ja (λst b hl=>SE B hF hL C hi (Ea ih h1 (DJ hl))) rfl
  |bi1 hf h2=>exact ja (λst b hl=>VT B hL hf (jf h2) ((ih _ _ h2 st).1 true hl)) rfl
  |bi2 hf h2 h3=>exact ja (λst b hl=>VU B hL hf (jf h2) (jf h3) ((ih _ _ h2 st).1 true (jg hl)) ((ih _ _ h3 st).1 true (z7 hl))) rfl
  |m1 hm hp hs h1 h3=>exact ja (λst b hl=>aP (ZH hm) hs hp (jf h3) ((ih _ _ h1 st).1 true (jg hl)) ((ih _ _ h3 st).1 true (z7 hl))) rfl
  |get hp hs h1 h3 h4=>exact ja (λst b hl=>VW hs hp (jf h3) (jf h4) ((ih _ _ h1 st).1 true (jg (jg hl))) ((ih _ _ h3 st).1 true (z7 (jg hl))) ((ih _ _ h4 st).1 false (z7 hl))) rfl
  |upto h1 h2=>exact ja (λst b hl=>VR ((ih _ _ h1 st).1 true (jg hl)) ((ih _ _ h2 st).1 true (z7 hl))) rfl
  |from_ h1 h2=>exact ja (λst b hl=>VQ ((ih _ _ h1 st).1 true (jg hl)) ((ih _ _ h2 st).1 true (z7 hl))) rfl
  |both h1 h2 h3=>exact ja (λst b hl=>VP ((ih _ _ h1 st).1 true (jg (jg hl))) ((ih _ _ h2 st).1 true (z7 (jg hl))) ((ih _ _ h3 st).1 true (z7 hl))) rfl
  |idx h1 h2=>exact ja (λst b hl=>VX ((ih _ _ h1 st).1 true (jg hl)) ((ih _ _ h2 st).1 true (z7 hl))) rfl
  |comp hsc h1 h2 h3 h4=>exact LU B hL ih (λcx' env e pe hF hC' hL h=>IH cx' env e pe hF (hC'.trans hC) hL h) hF hsc h1 h2 h3 h4
end
inductive WW(B:Heap)(env:Env)(zn:List Env)(e:Addr)(h:Heap):Prop
 |new(oe:Obj)(vs:Array Value)(a0:Value):h.get? e=some oe->oe.cls=.type "ValueError"->oe.data=.fields vs->vs[1]?=some .none->vs[0]?=some a0->B.StaysIn h->B.get? e=none->h.FunFrames B (env::zn)->WW B env zn e h
 |fly(a0:Value):Heap.FlyingW B (env::zn) e (.type "ValueError") a0 h->WW B env zn e h
 |held(a0:Value)(L:Addr):env.frame=some L->Heap.HeldW B (env::zn) e (.type "ValueError") a0 L h->WW B env zn e h
section
variable{M:Model}{A:uY}{E:Value->tX->Prop}{s:tX}{B:Heap}{env:Env}{zn:List Env}{e L:Addr}
theorem Qw{Q:Unit->tX->Prop}(hfr:A.frames=some (env::zn))(hf:env.frame=some L)(x:WW B env zn e s.heap)
  (hQ:∀h' a0,Heap.HeldW B (env::zn) e (.type "ValueError") a0 L h'->s.heap.UpToSlots h'->Q () {s with heap:=h'}):wpAny M A (noteFrame (.ref e) env) Q E s:=by
 induction x using WW.casesOn with
 |new oe vs a0 he hc hd h1 h0 hkb hen hl=>
  unfold noteFrame;simp only[hf];refine tY (wpAny_field he hd h1 ?_);rw[if_neg (by decide)];refine wpAny_entryW hfr hl hf he hkb hen hd (Array.getElem?_eq_some_iff.mp h1).1 h0 λh' hN=>?_;obtain⟨k1,k2,k3,k4⟩:=hN;rw[hc] at k3;exact hQ h' a0 ⟨k1,hen,k2,k3⟩ k4
 |fly a0 hfl=>exact wpAny_looks_onW hfr hf hfl λh' hh hs=>hQ h' a0 hh hs
 |held a0 L' hf' hh=>
  rw[hf] at hf';(obtain rfl:=zP hf';clear hf');exact wpAny_noteFrame_againW hf hh.2.2.2 (hQ s.heap a0 hh (Heap.UpToSlots.refl _))
theorem NZ{a0:Value}{Q:Unit->tX->Prop}(hf:env.frame=some L)(hh:Heap.HeldW B (env::zn) e (.type "ValueError") a0 L s.heap)
  (hQ:∀h',Heap.HeldW B (env::zn) e (.type "ValueError") a0 L h'->s.heap.UpToSlots h'->Q () {s with heap:=h'}):
  wpAny M A (do
   if(<-field (.ref e) 1)==.none then unsupported "frame.own-activation:exception-without-traceback"
   setFlight (.ref e) env.frame) Q E s:=by
 obtain⟨f1,f2,f3,oe,vs,T,oT,ts,he,hcls,hd,h1,hnT,hTe,hT,hdT,h3⟩:=hh;have hsz3:3<ts.size:=(Array.getElem?_eq_some_iff.mp h3).1;have other:∀b,b≠T->(s.heap.update T (Obj.mapFields (·.setIfInBounds 3 ((some L:Option Addr).elim wC λf=>rawInt f)))).get? b=s.heap.get? b:=
  λb hb=>zai _ _ (y7 hb)
 have noRecord:∀b o,s.heap.get? b=some o->(∀vs,o.data≠.fields vs)->b≠T:=λb o hb hnf q=>by
  rw[q,hT] at hb;injection hb with hb;subst hb;exact hnf ts hdT
 refine tY (wpAny_field he hd h1 ?_);rw[if_neg (show ¬((zbA T==wC)=true) from by exact λh=>ff h)];rw[hf];unfold setFlight;refine tY (wpAny_field he hd h1 ?_);rw[if_pos (show(zbA T != wC)=true from by rfl)];refine wpAny_setField hT hdT hsz3 (hQ _ ⟨λb o hbo=>(other b λq=>by rw[q,hnT] at hbo;exact nn hbo).trans (f1 b o hbo),f2,
  f3.of_keeps λb o hb hnf=>⟨o,(other b (noRecord b o hb hnf)).trans hb,rfl⟩,?_⟩ λb o hb hnf=>⟨o.slots,(other b (noRecord b o hb hnf)).trans hb⟩)
 exact⟨oe,vs,T,_,_,(other e (y7 hTe)).trans he,hcls,hd,h1,hnT,hTe,yI _ hT (Obj.isFreed_of_fields (zaN hdT _)),zaN hdT _,by simp[hsz3]⟩
theorem NS(hfr:A.frames=some (env::zn))(hf:env.frame=some L)(x:WW B env zn e s.heap)
  (hQ:∀h' a0,Heap.FlyingW B zn e (.type "ValueError") a0 h'->s.heap.UpToSlots h'->Q () {s with heap:=h'}):wpAny M A (leaving env (.ref e)) Q E s:=by
 induction x using WW.casesOn with
 |new oe vs a0 he hc hd h1 h0 hkb hen hl=>
  refine wpAny_leaving_firstW hfr hl hf he hkb hen hd h1 h0 λh' hL=>?_;obtain⟨k1,⟨_,_,k2⟩,k3,k4⟩:=hL;rw[hc] at k3;exact hQ h' a0 ⟨k1,hen,k2,k3⟩ k4
 |fly a0 hfl=>exact wpAny_leaves_onW hfr hf hfl λh' x1 x2=>hQ h' a0 x1 x2
 |held a0 L' hf' hh=>
  rw[hf] at hf';(obtain rfl:=zP hf';clear hf');unfold leaving;refine tY (wpAny_noteFrame_againW hf hh.2.2.2 ?_);refine wpAny_landsW hh λh' hfl hs=>?_;obtain⟨k1,k2,⟨_,_,k3⟩,k4⟩:=hfl;exact hQ h' a0 ⟨k1,k2,k3,k4⟩ hs
end
def KP(env:Env)(zn:List Env)(X:Addr->Prop)(s₀:tX)(x:Value)(s':tX):Prop:=
 ∃(e:Addr) (B:Heap),x=.ref e/\(∀a o,s₀.heap.get? a=some o->¬X a->a∉Bl (env::zn)->B.get? a=some o)/\WW B env zn e s'.heap/\
  (∀a o,s₀.heap.get? a=some o->¬X a->NF o->∃sl,s'.heap.get? a=some {o with slots:=sl})/\s'.os=s₀.os/\(vT s₀.gens->vT s'.gens)
section
variable{M:Model}{A:uY}{E:Value->tX->Prop}{env:Env}{zn:List Env}{X:Addr->Prop}{s₀ s':tX}{x:Value}{L:Addr}
theorem KP.slots{s₂:tX}{e:Addr}{B:Heap}(h2:∀a o,s₀.heap.get? a=some o->¬X a->NF o->∃sl,s'.heap.get? a=some {o with slots:=sl})(hs:s'.heap.UpToSlots s₂.heap):
  ∀a o,s₀.heap.get? a=some o->¬X a->NF o->∃sl,s₂.heap.get? a=some {o with slots:=sl}:=λa o e n nf=>by
 obtain⟨sl,h⟩:=h2 a o e n nf;obtain⟨sl',q⟩:=hs a _ h nf;exact⟨sl',q⟩
theorem KP.noted(hfr:A.frames=some (env::zn))(hf:env.frame=some L)(h:KP env zn X s₀ x s')(hE:∀s'',KP env zn X s₀ x s''->E x s''):notedBy M A env (cameBackBy M A env E) x s':=by
 obtain⟨e,B,rfl,h1,h2,h3,h4,h5⟩:=h;refine Qw hfr hf h2 λh' a0 hh hs=>?_;refine NZ hf hh λh'' hh' hs'=>?_;exact hE _ ⟨e,B,rfl,h1,.held a0 L hf hh',KP.slots (s₂:={s' with heap:=h''}) (e:=e) (B:=B) h3 (hs.trans hs'),h4,h5⟩
theorem KP.leave(hfr:A.frames=some (env::zn))(hf:env.frame=some L)(hL:s₀.heap.get? L=none)(hX:∀a,¬X a)(h:KP env zn X s₀ x s')(hQ:∀s'',Bn zn s₀ x s''->(∀a,Q a s'')):wpAny M A (leaving env x) Q E s':=by
 obtain⟨e,B,rfl,h1,h2,h3,h4,h5⟩:=h;refine NS hfr hf h2 λh' a0 hh hs=>?_;refine hQ {s' with heap:=h'} ⟨e,B,a0,rfl,λa o q n=>h1 a o q (hX a) λhm=>?_,hh,λa o q nf=>?_,h4,h5⟩ ()
 ·simp only[Bl,xK,hf] at hm;rcases List.mem_cons.mp hm with rfl|hm
  ·rw[hL] at q;exact nn q
  ·exact n hm
 ·obtain⟨sl,h⟩:=h3 a o q (hX a) nf;obtain⟨sl',q⟩:=hs a _ h nf;exact⟨sl',q⟩
end
end Mine
namespace Mine
open PySem
inductive CR where
 |err|dead
 |st(l:List VS)
noncomputable def VS.leV:VS->VS->Bool
 |.u,_=>true
 |.f,.f=>true
 |.f,.o=>true
 |.o,.o=>true
 |_,_=>false
noncomputable def Re:List VS->List VS->Bool
 |[],[]=>true
 |a::r,b::t=>VS.leV a b&&Re r t
 |_,_=>false
theorem F9:∀(a:VS) (r:List VS) (b:VS) (t:List VS),Re (a::r) (b::t)=(a.leV b&&Re r t):=λ_ _ _ _=>rfl
def jP(fx:Option Nat)(st:List VS):Bool:=
 match fx with
 |none=>true
 |some i=>VS.at st i==.o
def Ip(fx:Option Nat)(a b:List VS):Bool:=Re a b&&jP fx a
noncomputable def fZ:VS->VS->VS
 |.u,_=>.u
 |_,.u=>.u
 |.f,_=>.f
 |_,.f=>.f
 |.o,.o=>.o
def Em(a b:List VS):List VS:=List.zipWith fZ a b
def frz(st:List VS)(is:List Nat):List VS:=is.foldl (λs i=>if VS.at s i=.o then s.set i .f else s) st
mutual
noncomputable def jD(b:Bool):PE->List Nat
 |.lit _=>[]
 |.var i=>if b then[] else[i]
 |.glob _=>[]
 |.un _ a=>jD true a
 |.bin _ x y=>jD true x++jD true y
 |.tri _ x y z=>jD true x++jD true y++jD true z
 |.m1 _ x y=>jD true x++jD true y
 |.m2 _ x y z=>jD true x++jD true y++jD false z
 |.and_ x y=>jD true x++jD true y
 |.or_ x y=>jD true x++jD true y
 |.tup es=>CU es
 |.list es=>CU es
 |.call _ es=>CU es
 |.comp _ rg it _ _=>jD rg it
noncomputable def CU:PEs->List Nat
 |.nil=>[]
 |.cons a r=>jD false a++CU r
end
def Cm(fx:Option Nat):CR->CR->CR
 |.st a,.st b=>let j:=Em a b;if Ip fx j a&&Ip fx j b then .st j else .err
 |.dead,r=>r
 |r,.dead=>r
 |_,_=>.err
theorem JK:∀(fx:Option Nat) (a b:List VS),Cm fx (CR.st a) (CR.st b)=if(Ip fx (Em a b) a&&Ip fx (Em a b) b)=true then CR.st (Em a b) else CR.err:=λ_ _ _=>rfl
noncomputable def Di(f:List VS->CR):Nat->List VS->List VS
 |0,s=>s
 |n+1,s=>match f s with
  |.st s'=>if Em s s'=s then s else Di f n (Em s s')
  |_=>s
def C6(fx:Option Nat)(inv:List VS)(body:CR):CR:=
 match body with
 |.st s=>if Ip fx inv s then .st inv else .err
 |.dead=>.st inv
 |.err=>.err
noncomputable def lB(k:List VS->CR):CR->CR
 |.st s=>k s
 |.dead=>.dead
 |.err=>.err
noncomputable def chk(fx:Option Nat):PS->Option (List VS)->List VS->CR
 |.skip,_,st=>.st st
 |.seq a b,lp,st=>lB (λs=>chk fx b lp s) (chk fx a lp st)
 |.assign t e,_,st=>let s:=frz st (jD false e);if k8 s false e&&jP fx s&&jP fx (jv s t) then .st (jv s t) else .err
 |.newl x es,_,st=>let s:=frz st (CU es);if It s es&&jP fx s&&decide (x<s.length)&&fx != some x then .st (s.set x .o) else .err
 |.newd x,_,st=>if decide (x<st.length)&&fx != some x then .st (st.set x .o) else .err
 |.app x e,_,st=>let s:=frz st (jD false e);if k8 s false e&&jP fx s&&VS.at s x==.o then .st s else .err
 |.put x k v,_,st=>let s:=frz st (jD false v++jD false k);if k8 s false v&&k8 s false k&&jP fx s&&VS.at s x==.o then .st s else .err
 |.ifs c a b,lp,st=>let s:=frz st (jD true c);if k8 s true c&&jP fx s then Cm fx (chk fx a lp s) (chk fx b lp s) else .err
 |.whil c b,_,st=>
  let s:=frz st (jD true c);let inv:=Di (λi=>chk fx b (some i) i) 4 s
  if Ip fx inv st&&k8 inv true c then C6 fx inv (chk fx b (some inv) inv) else .err
 |.forr t rg e b,_,st=>
  let s:=frz st (jD rg e);let inv:=Di (λi=>chk fx b (some i) (jv i t)) 4 s
  if k8 s rg e&&jP fx s&&Ip fx inv s&&jP fx (jv inv t) then C6 fx inv (chk fx b (some inv) (jv inv t)) else .err
 |.ret e,_,st=>let s:=frz st (jD false e);if k8 s false e&&jP fx s then .dead else .err
 |.raise,_,_=>.dead
 |.brk,lp,st=>match lp with
  |some inv=>if Ip fx inv st then .dead else .err
  |none=>.err
 |.cont,lp,st=>match lp with
  |some inv=>if Ip fx inv st then .dead else .err
  |none=>.err
 |.exp e,_,st=>let s:=frz st (jD true e);if k8 s true e&&jP fx s then .st s else .err
 |.io _ es x,_,st=>let s:=frz st (CU es);if It s es&&jP fx s&&VS.at s x==.o then .st s else .err
 |.tryv b x _,_,st=>match b with
  |.assign t e=>let s:=frz st (jD false e);if k8 s false e&&jP fx s&&jP fx (jv s t)&&jP fx (s.set x .f) then Cm fx (.st (jv s t)) (.st (s.set x .f)) else .err
  |_=>.err
section
variable{fx:Option Nat}{lp:Option (List VS)}{st:List VS}
theorem FU:chk fx (.assign t e) lp st=if k8 (frz st (jD false e)) false e&&jP fx (frz st (jD false e))&&jP fx (jv (frz st (jD false e)) t) then .st (jv (frz st (jD false e)) t) else .err:=rfl
theorem PZ:chk fx (.newl x es) lp st=if It (frz st (CU es)) es&&jP fx (frz st (CU es))&&decide (x<(frz st (CU es)).length)&&fx != some x then .st ((frz st (CU es)).set x .o) else .err:=rfl
theorem PY:chk fx (.newd x) lp st=if decide (x<st.length)&&fx != some x then .st (st.set x .o) else .err:=rfl
theorem T7:chk fx (.app x e) lp st=if k8 (frz st (jD false e)) false e&&jP fx (frz st (jD false e))&&VS.at (frz st (jD false e)) x==.o then .st (frz st (jD false e)) else .err:=rfl
theorem Ub:chk fx (.put x k v) lp st=if k8 (frz st (jD false v++jD false k)) false v&&k8 (frz st (jD false v++jD false k)) false k&&jP fx (frz st (jD false v++jD false k))&&VS.at (frz st (jD false v++jD false k)) x==.o then .st (frz st (jD false v++jD false k)) else .err:=rfl
theorem Ua:chk fx (.ifs c a b) lp st=if k8 (frz st (jD true c)) true c&&jP fx (frz st (jD true c)) then Cm fx (chk fx a lp (frz st (jD true c))) (chk fx b lp (frz st (jD true c))) else .err:=rfl
theorem P6:chk fx (.whil c b) lp st=if Ip fx (Di (λi=>chk fx b (some i) i) 4 (frz st (jD true c))) st&&k8 (Di (λi=>chk fx b (some i) i) 4 (frz st (jD true c))) true c then
  C6 fx (Di (λi=>chk fx b (some i) i) 4 (frz st (jD true c))) (chk fx b (some (Di (λi=>chk fx b (some i) i) 4 (frz st (jD true c)))) (Di (λi=>chk fx b (some i) i) 4 (frz st (jD true c)))) else .err:=rfl
theorem PW:chk fx (.forr t rg e b) lp st=if k8 (frz st (jD rg e)) rg e&&jP fx (frz st (jD rg e))&&Ip fx (Di (λi=>chk fx b (some i) (jv i t)) 4 (frz st (jD rg e))) (frz st (jD rg e))&&jP fx (jv (Di (λi=>chk fx b (some i) (jv i t)) 4 (frz st (jD rg e))) t) then
  C6 fx (Di (λi=>chk fx b (some i) (jv i t)) 4 (frz st (jD rg e))) (chk fx b (some (Di (λi=>chk fx b (some i) (jv i t)) 4 (frz st (jD rg e)))) (jv (Di (λi=>chk fx b (some i) (jv i t)) 4 (frz st (jD rg e))) t)) else .err:=rfl
theorem P0:chk fx (.ret e) lp st=if k8 (frz st (jD false e)) false e&&jP fx (frz st (jD false e)) then .dead else .err:=rfl
theorem T9:chk fx (.exp e) lp st=if k8 (frz st (jD true e)) true e&&jP fx (frz st (jD true e)) then .st (frz st (jD true e)) else .err:=rfl
theorem Yy:chk fx (.io g es x) lp st=if It (frz st (CU es)) es&&jP fx (frz st (CU es))&&VS.at (frz st (CU es)) x==.o then .st (frz st (CU es)) else .err:=rfl
theorem P4:chk fx (.tryv (.assign t e) x l) lp st=if k8 (frz st (jD false e)) false e&&jP fx (frz st (jD false e))&&jP fx (jv (frz st (jD false e)) t)&&jP fx ((frz st (jD false e)).set x .f) then Cm fx (.st (jv (frz st (jD false e)) t)) (.st ((frz st (jD false e)).set x .f)) else .err:=rfl
end
def T6(io:Bool)(np nv:Nat)(b:PS):Bool:=
 let st:=(v5 nv).map λi=>if i+1=np/\io=true then VS.o else if i<np then .f else .u
 match chk (if io then some (np - 1) else none) b none st with
 |.err=>false
 |_=>true
end Mine
namespace Mine
open PySem PyProof.Rows PySem.Calls
set_option genCtorIdx false in
set_option genInjectivity false in
structure CX where
 cx:Cx
 env:Env
 A:uY
 fs:List Env
 P₀:Addr->Prop
 X:Addr->Prop
 s₀:tX
 fx:Option Nat
 Z:Addr->Obj->Prop
 Y:Addr->Obj->Prop
section
variable(H:uP)(w:World)(zc:Heap)(n:Nat)(f:CX)
structure zO(st:List VS)(ρ:zg)(P:Addr->Prop)(ad:Nat->Addr)(s:tX):Prop where
 ec:EC zc P f.A f.fs n f.env s.heap
 fram:BF f.cx.names f.env s.heap
 len:st.length=ρ.length
 nlen:st.length<=f.cx.names.length
 var:∀(i:Nat) (x:Str) (k:NameKind),f.cx.names[i]?=some (x,k)->zZ k=true->VS.at st i=.f->∃v,zz f.env s.heap x v/\zo H w P P s.heap v (zq ρ i)
 own:∀(i:Nat) (x:Str) (k:NameKind),f.cx.names[i]?=some (x,k)->zZ k=true->VS.at st i=.o->zz f.env s.heap x (.ref (ad i))/\zo H w (λa=>a=ad i) P s.heap (.ref (ad i)) (zq ρ i)
 oP:∀i,VS.at st i=.o->¬P (ad i)/\¬Aq f.env (ad i)/\ad i∉Bl f.fs
 dist:∀i j,VS.at st i=.o->VS.at st j=.o->i≠j->ad i≠ad j
 sub:∀a,P a->f.P₀ a
 oP0:∀i,VS.at st i=.o->f.fx≠some i->f.P₀ (ad i)/\f.s₀.heap.get? (ad i)=none
 fxa:∀i,f.fx=some i->VS.at st i=.o/\∀a,f.X a↔a=ad i
 noX:f.fx=none->∀a,¬f.X a
 fresh:∀a,Aq f.env a->f.s₀.heap.get? a=none
 pnew0:Ae f.P₀ f.s₀.heap
 keep:∀a o,f.s₀.heap.get? a=some o->¬f.X a->s.heap.get? a=some o
 os:s.os=f.s₀.os
 gens:vT f.s₀.gens->vT s.gens
 vk:∀(i:Nat) (x:Str) (k:NameKind),f.cx.names[i]?=some (x,k)->VS.at st i=.o->zZ k=true
 zs:∀a o,f.Z a o->s.heap.get? a=some o/\¬P a/\¬Aq f.env a/\∀i,VS.at st i=.o->a≠ad i
 ys:∀a o,f.Y a o->P a/\s.heap.get? a=some o
 zf:∀a o,f.Z a o->a∉Bl f.fs
end
section
variable{H:uP}{w:World}{zc:Heap}{n:Nat}{f:CX}{st st':List VS}{ρ:zg}{P:Addr->Prop}{ad:Nat->Addr}{s s':tX}
theorem zz.move(r:zz env h x v)(k:∀a o,Aq env a->h.get? a=some o->h'.get? a=some o):zz env h' x v:=by
 induction r using zz.casesOn with
 |loc m a b d=>exact .loc m a (b.at' λo e=>k _ o (.inl rfl) e) d
 |cell c' a b d=>obtain⟨ob,h3,h4⟩:=d;exact .cell c' a b ⟨ob,k c' ob (.inr ⟨x,b⟩) h3,h4⟩
theorem zO.lt(c:zO H w zc n f st ρ P ad s)(h:VS.at st i=.o):i<st.length:=by
 by_cases q:i<st.length
 ·exact q
 ·unfold VS.at at h;rw[uH,wO (by exact Nat.not_lt.mp ‹_›)] at h;cases h
theorem zO.named(c:zO H w zc n f st ρ P ad s)(h:VS.at st i=.o):∃x k,f.cx.names[i]?=some (x,k)/\zZ k=true:=by
 have h1:=c.lt h;have h2:i<f.cx.names.length:=by have:=c.nlen;exact qD ‹_› ‹_›
 exact⟨f.cx.names[i].1,f.cx.names[i].2,uA h2,c.vk i _ _ (uA h2) h⟩
theorem zo.nf(r:zo H w T P h (.ref a) d)(hp:¬P a):∃o,h.get? a=some o/\NF o:=by
 cases r with
 |rep r=>cases r with
  |list p ho hc hd hda=>exact absurd p hp
  |tuple p=>exact absurd p hp
 |list t ho hc hd hda=>exact⟨_,ho,λvs q=>nomatch hda.symm.trans q⟩
 |dict t r=>
  obtain⟨_,_,⟨l,m,q⟩|⟨l,m,q⟩⟩:=r
  ·obtain⟨o,es,ep,ho,_,hd,_⟩:=m;exact⟨o,ho,λvs q=>nomatch hd.symm.trans q⟩
  ·obtain⟨o,es,ep,ho,_,hd,_⟩:=m;exact⟨o,ho,λvs q=>nomatch hd.symm.trans q⟩
theorem zO.there(c:zO H w zc n f st ρ P ad s)(h:VS.at st i=.o):∃o,s.heap.get? (ad i)=some o/\NF o:=
 let ⟨_,_,h1,h2⟩:=c.named h
 (c.own i _ _ h1 h2 h).2.nf (c.oP i h).1
theorem zO.vokt(c:zO H w zc n f st ρ P ad s):Af H w f.env f.cx.names st ρ (λa=>∃i,VS.at st i=.o/\a=ad i) P s.heap:=λi x k h1 h2 h3=>by
 cases hs:VS.at st i with
 |u=>exact absurd hs h3
 |f=>exact c.var i x k h1 h2 hs
 |o=>
  obtain⟨h4,h5⟩:=c.own i x k h1 h2 hs;exact⟨_,h4,h5.move (λa o t e=>⟨by rw[if_pos rfl];exact⟨i,hs,t⟩,e⟩) (λa o p e=>⟨p,e⟩)⟩
theorem zO.vok(c:zO H w zc n f st ρ P ad s):Np H w f.env f.cx.names st ρ P s.heap:=c.vokt.vok λa ⟨i,h,e⟩=>e▸(c.oP i h).2.1
theorem zO.ch(c:zO H w zc n f st ρ P ad s)(x:Ch s s'):zO H w zc n f st ρ P ad s':=
 {c with
  ec:=c.ec.keep x.keep
  fram:=c.fram.keep λa o _ e=>x.keep a o e
  var:=λi y k h1 h2 h3=>by
   obtain⟨v,h4,h5⟩:=c.var i y k h1 h2 h3;exact⟨v,h4.keep x.keep,h5.keep H w x.keep⟩
  own:=λi y k h1 h2 h3=>by
   obtain⟨h4,h5⟩:=c.own i y k h1 h2 h3;exact⟨h4.keep x.keep,h5.keep H w x.keep⟩
  keep:=λa o e nx=>x.keep a o (c.keep a o e nx)
  os:=x.os.trans c.os
  gens:=λg=>x.gens (c.gens g)
  zs:=λa o q=>let ⟨h1,h2⟩:=c.zs a o q;⟨x.keep a o h1,h2⟩
  ys:=λa o q=>let ⟨h1,h2⟩:=c.ys a o q;⟨h1,x.keep a o h2⟩}
theorem Rf:∀{a b:List VS},Re a b=true->a.length=b.length/\∀i,VS.leV (VS.at a i) (VS.at b i)=true
 |[],[],_=>⟨rfl,λi=>by rfl⟩
 |x::r,y::t,h=>by
  simp only[F9,uU] at h;obtain⟨h1,h2⟩:=Rf h.2;refine⟨by simp[h1],λi=>?_⟩;induction i using w3 with
  |zero=>exact h.1
  |succ i=>have:=h2 i;exact this
 |[],_::_,h=>by exact ff h
 |_::_,[],h=>by exact ff h
theorem zO.weaken'(c:zO H w zc n f st ρ P ad s)(h:Ip f.fx st' st=true):∃P',(∀a,P a->P' a)/\zO H w zc n f st' ρ P' ad s:=by
 simp only[Ip,uU] at h;obtain⟨hl,hfx⟩:=h;obtain⟨hlen,hle⟩:=Rf hl;have ofo:∀{i},VS.at st' i=.o->VS.at st i=.o:=λ{i} q=>by
  have:=hle i;rw[q] at this;cases hs:VS.at st i<;>rw[hs] at this<;>first|rfl|exact ff this
 let P':Addr->Prop:=λa=>P a\/∃i,VS.at st i=.o/\VS.at st' i≠.o/\a=ad i;have mP:∀a o,P a->s.heap.get? a=some o->P' a/\s.heap.get? a=some o:=λa o p e=>⟨.inl p,e⟩;have fxne:∀i,VS.at st i=.o->VS.at st' i≠.o->f.fx≠some i:=λi h1 h2 q=>by
  rw[q] at hfx;simp only[jP,beq_iff_eq] at hfx;exact h2 hfx
 refine⟨P',λa p=>.inl p,⟨?_,c.fram,hlen.trans c.len,hlen▸c.nlen,?_,?_,?_,λi j h1 h2=>c.dist i j (ofo h1) (ofo h2),?_,λi h1 h2=>c.oP0 i (ofo h1) h2,
   ?_,c.noX,c.fresh,c.pnew0,c.keep,c.os,c.gens,λi x k h1 h2=>c.vk i x k h1 (ofo h2),λa o q=>?_,λa o q=>⟨.inl (c.ys a o q).1,(c.ys a o q).2⟩,c.zf⟩⟩
 ·refine c.ec.change mP (jS.refl _).nf ?_ ?_ λa e=>.inl (c.ec.pnew a e)
  ·rintro a (p|⟨i,h1,_,rfl⟩);exact c.ec.own a p;exact(c.oP i h1).2.1
  ·rintro a (p|⟨i,h1,_,rfl⟩);exact c.ec.nofr a p;exact(c.oP i h1).2.2
 ·intro i x k h1 h2 h3;cases hs:VS.at st i with
  |u=>have:=hle i;rw[h3,hs] at this;exact ff this
  |f=>
   obtain⟨v,h4,h5⟩:=c.var i x k h1 h2 hs;exact⟨v,h4,h5.move mP mP⟩
  |o=>
   obtain⟨h4,h5⟩:=c.own i x k h1 h2 hs;exact⟨_,h4,h5.move (λa o t e=>⟨.inr ⟨i,hs,by rw[h3];trivial,t⟩,e⟩) mP⟩
 ·intro i x k h1 h2 h3;obtain⟨h4,h5⟩:=c.own i x k h1 h2 (ofo h3);exact⟨h4,h5.move (λa o t e=>⟨t,e⟩) mP⟩
 ·intro i h1;obtain⟨g1,g2,g3⟩:=c.oP i (ofo h1);refine⟨?_,g2,g3⟩;rintro(p|⟨j,h2,h3,h4⟩)
  ·exact g1 p
  ·by_cases q:i=j
   ·subst q;exact h3 h1
   ·exact c.dist i j (ofo h1) h2 q h4
 ·rintro a (p|⟨i,h1,h2,rfl⟩);exact c.sub a p;exact(c.oP0 i h1 (fxne i h1 h2)).1
 ·intro i hi;refine⟨?_,(c.fxa i hi).2⟩;rw[hi] at hfx;simpa [jP] using hfx
 ·obtain⟨h1,h2,h3,h4⟩:=c.zs a o q;refine⟨h1,?_,h3,λi hi=>h4 i (ofo hi)⟩;rintro(p|⟨i,g1,_,g2⟩)
  ·exact h2 p
  ·exact h4 i g1 g2
theorem zO.weaken(c:zO H w zc n f st ρ P ad s)(h:Ip f.fx st' st=true):∃P',zO H w zc n f st' ρ P' ad s:=let ⟨P',_,c'⟩:=c.weaken' h;⟨P',c'⟩
theorem JQ(a:List VS):Re a a=true:=by
 induction a with
 |nil=>
  exact rfl
 |cons x r ih=>
  simp only[F9,ih,Bool.and_true];cases x<;>rfl
theorem Mz:∀{st:List VS} {i:Nat},VS.at st i=.o->Re (st.set i .f) st=true
 |[],i,h=>by rfl
 |x::r,0,h=>by simp only[List.set_cons_zero,F9,JQ,Bool.and_true];have:x=.o:=h;(replace this:=vR this;subst this);rfl
 |x::r,i+1,h=>by
  simp only[List.set_cons_succ,F9,uU];exact⟨by cases x<;>rfl,Mz h⟩
theorem N8{x y z:VS}(h:x.leV y=true)(g:y.leV z=true):x.leV z=true:=by
 cases x<;>cases y<;>first|exact ff h|(cases z<;>first|rfl|exact ff g)
theorem Hq:∀{a b c:List VS},Re a b=true->Re b c=true->Re a c=true
 |[],[],[],_,_=>rfl
 |x::r,y::t,z::u,h1,h2=>by
  rw[F9] at h1 h2 ⊢;rw[N8 (jg h1) (jg h2),Hq (z7 h1) (z7 h2)];rfl
 |[],[],_::_,_,h=>by exact ff h
 |[],_::_,_,h,_=>by exact ff h
 |_::_,[],_,h,_=>by exact ff h
 |_::_,_::_,[],_,h=>by exact ff h
theorem UZ:∀{st:List VS},Re (frz st is) st=true:=by
 induction is with
 |nil=>
  intro st;exact JQ st
 |cons i r ih=>
  intro st;skip;simp only[frz,wX];by_cases h:VS.at st i=.o
  ·rw[if_pos h];exact Hq (ih) (Mz h)
  ·rw[if_neg h];exact ih
theorem zO.frz(c:zO H w zc n f st ρ P ad s)(h:jP f.fx (frz st is)=true):∃P',zO H w zc n f (Mine.frz st is) ρ P' ad s:=
 c.weaken (by simp only[Ip,UZ,h,Bool.and_true])
set_option tactic.hygienic true in
theorem Hj{is:List Nat}:∀{st:List VS} {i:Nat},VS.at (is.foldl (λs i=>s.set i .f) st) i=.o->i∉is:=by
 induction is with
 |nil=>
  intro _ _ _;exact vJ
 |cons j r ih=>
  intro st i h;skip;simp only[wX] at h;have h1:=Hk h;have h2:=ih h;intro hm;rcases List.mem_cons.mp hm with q|q
  ·subst q;rw[VS.at_set] at h1;split at h1
   ·cases h1
   ·rename_i hne;have:¬i<st.length:=λq=>hne ⟨rfl,q⟩;unfold VS.at at h1;rw[uH,wO (by exact Nat.not_lt.mp ‹_›)] at h1;cases h1
  ·exact h2 q
theorem HG:∀{is:List Nat} {ds:List D} {ρ ρ':zg} {i:Nat},DZ ρ is ds=.ok ρ'->i∉is->zq ρ' i=zq ρ i
 |[],[],_,_,_,h,_=>by(obtain rfl:=jz h;clear h);rfl
 |j::is,d::ds,ρ,ρ',i,h,hn=>by
  rw[HG (ρ:=ρ.set j d) (is:=is) (ds:=ds) h λq=>hn (u0 _ q),j3,if_neg];rintro⟨rfl,_⟩;exact hn (u4 ..)
 |[],_::_,_,_,_,h,_=>by exact ns h
 |_::_,[],_,_,_,h,_=>by exact ns h
theorem Nz{t:Tg}{ρ ρ':zg}{d:D}{st:List VS}{i:Nat}(h:jy ρ t d=.ok ρ')(hi:VS.at (jv st t) i=.o):zq ρ' i=zq ρ i:=by
 induction t using Tg.casesOn with
 |one j=>
  (obtain rfl:=jz h;clear h)
  have:=Hj (is:=[j]) hi;rw[j3,if_neg];rintro⟨rfl,_⟩;exact this (u4 ..)
 |many is=>induction d using uG with
  |tuple ds=>exact HG h (Hj hi)
  |_=>exact ns h
theorem zO.bound(c:zO H w zc n f st ρ P ad s)(hb:jy ρ tg d=.ok ρ')(hfx:jP f.fx (jv st tg)=true)(B:Fh f.cx.names f.env s.heap h')(F:BF f.cx.names f.env h')
  (V:Af H w f.env f.cx.names (jv st tg) ρ' (λa=>∃i,VS.at st i=.o/\a=ad i) P h')(S:I5 f.cx.names (jv st tg) f.env s.heap h'):zO H w zc n f (jv st tg) ρ' P ad {s with heap:=h',toks:=tk}:=by
 have ofo:∀{i},VS.at (jv st tg) i=.o->VS.at st i=.o:=λ{i} q=>by
  rcases Fi (t:=tg) (st:=st) (i:=i) with e|e
  ·rw[<-e];exact q
  ·rw[e] at q;cases q
 have mP:∀a o,P a->s.heap.get? a=some o->P a/\h'.get? a=some o:=λa o p e=>⟨p,B.keepO a o (c.ec.own a p) e⟩;refine⟨c.ec.change mP B.alloc.nf c.ec.own c.ec.nofr (c.ec.pnew.alloc B.alloc),F,by rw[Bf,DB hb];exact c.len,by rw[Bf];exact c.nlen,λi x k h1 h2 h3=>?_,λi x k h1 h2 h3=>?_,
   λi h1=>c.oP i (ofo h1),λi j h1 h2=>c.dist i j (ofo h1) (ofo h2),c.sub,λi h1=>c.oP0 i (ofo h1),λi hi=>⟨by rw[hi] at hfx;simpa [jP] using hfx,(c.fxa i hi).2⟩,c.noX,c.fresh,c.pnew0,
   λa o e nx=>B.keepO a o (λq=>by rw[c.fresh a q] at e;exact nn e) (c.keep a o e nx),c.os,c.gens,λi x k h1 h2=>c.vk i x k h1 (ofo h2),
   λa o q=>let ⟨h1,h2,h3,h4⟩:=c.zs a o q;⟨B.keepO a o h3 h1,h2,h3,λi hi=>h4 i (ofo hi)⟩,λa o q=>let ⟨h1,h2⟩:=c.ys a o q;⟨h1,B.keepO a o (c.ec.own a h1) h2⟩,c.zf⟩
 ·simpa [h3] using V i x k h1 h2 (by rw[h3];simp)
 ·obtain⟨h4,h5⟩:=c.own i x k h1 h2 (ofo h3);have e:zq ρ' i=zq ρ i:=Nz hb h3;refine⟨S i x k _ h3 h1 h4,?_⟩;rw[e];exact h5.move (λa o t e=>⟨t,B.keepO a o (by rw[t];exact(c.oP i (ofo h3)).2.1) e⟩) mP
theorem zO.assign(c:zO H w zc n f st ρ P ad s)(ht:B7 f.cx t=some tg)(hb:jy ρ tg d=.ok ρ')(hnd:(f.cx.names.map (·.1)).Nodup)
  (hfx:jP f.fx (jv st tg)=true)(rv:zo H w P P s.heap v d)(h:∀h' tk,zO H w zc n f (jv st tg) ρ' P ad {s with heap:=h',toks:=tk}->Fh f.cx.names f.env s.heap h'->Q () {s with heap:=h',toks:=tk}):wpAny (model H w) f.A (assign t f.env v) Q E s:=
 FS ht hb c.ec.handled c.fram c.vokt hnd c.len (λa ⟨i,h1,e⟩=>e▸(c.oP i h1).2.1) c.ec.own rv λh' tk B F V S=>h h' tk (c.bound hb hfx B F V S) B
theorem zO.store(c:zO H w zc n f st ρ P ad s)(hx:f.cx.tv? x=some i)(hnd:(f.cx.names.map (·.1)).Nodup)
  (hfx:jP f.fx (st.set i .f)=true)(rv:zo H w P P s.heap v d)(h:∀h' tk,zO H w zc n f (st.set i .f) (ρ.set i d) P ad {s with heap:=h',toks:=tk}->Q () {s with heap:=h',toks:=tk}):wpAny (model H w) A (storeName f.env x v) Q E s:=
 Ez hx c.fram c.vokt hnd c.len (λa ⟨i,h1,e⟩=>e▸(c.oP i h1).2.1) c.ec.own rv λh' tk B F V S=>h h' tk (c.bound (tg:=.one i) (d:=d) rfl hfx B F V S)
end
theorem Bn.exf{H:uP}{w:World}{zc:Heap}{n:Nat}{f:CX}{st:List VS}{ρ:zg}{P:Addr->Prop}{ad:Nat->Addr}{s s':tX}{x:Value}{zn:List Env}(hfs:f.fs=f.env::zn)(c:zO H w zc n f st ρ P ad s)(h:Bn f.fs s x s'):
  KP f.env zn f.X f.s₀ x s':=by
 obtain⟨e,B,a0,rfl,h1,h2,h3,h4,h5⟩:=h;rw[hfs] at h1 h2;exact⟨e,B,rfl,λa o q nx nf=>h1 a o (c.keep a o q nx) nf,.fly a0 h2,λa o q nx nf=>h3 a o (c.keep a o q nx) nf,h4.trans c.os,λg=>h5 (c.gens g)⟩
section
variable(H:uP)(w:World)(zc:Heap)(n:Nat)(f:CX)
def Ef(lp:Option (List VS))(r:CR)(fl:Fl)(ρ':zg)(fw:Flow)(s':tX):Prop:=
 match fl with
 |.next=>fw=.next/\∃st P ad,r=.st st/\zO H w zc n f st ρ' P ad s'
 |.brk=>fw=.brk/\∃inv P ad,lp=some inv/\zO H w zc n f inv ρ' P ad s'
 |.cont=>fw=.cont/\∃inv P ad,lp=some inv/\zO H w zc n f inv ρ' P ad s'
 |.ret d=>∃v st P ad,fw=.ret v/\zO H w zc n f st ρ' P ad s'/\zo H w P P s'.heap v d
variable(G:List D)(cf cio:Nat->List D->R D)(wf:Nat)(zn:List Env)
def k6(lp:Option (List VS))(st:List VS)(t:Sem Flow)(ps:PS)(r:CR):Prop:=
 ∀(s:tX) (ρ:zg) (P:Addr->Prop) (ad:Nat->Addr) (Q:Flow->tX->Prop) (E:Value->tX->Prop),zO H w zc n f st ρ P ad s->
  (∀fl ρ' fw s',Mine.exec G cf cio wf ps ρ=.ok (fl,ρ')->Ef H w zc n f lp r fl ρ' fw s'->Q fw s')->
  (Mine.exec G cf cio wf ps ρ=.ve->∀x s',KP f.env zn f.X f.s₀ x s'->E x s')->Mine.exec G cf cio wf ps ρ≠.stuck->wpAny (model H w) f.A t Q E s
structure Ec(F:List zL)(K:List (Str×D))(mg mb:Str->Option Value)(L:Addr):Prop where
 B:kq F K mg mb zc
 hG:G=K.map (·.2)
 C:Dw H w F mg zc cf n
 hF:f.cx.funs=F.map (·.name)
 hC:f.cx.consts=K.map (·.1)
 hL:CY f.cx f.env
 hnd:(f.cx.names.map (·.1)).Nodup
 fs:f.fs=f.env::zn
 fr:f.env.frame=some L
 loc:∀x,f.env.kindOf x=f.cx.names.lookup x
end
section
variable{H:uP}{w:World}{zc:Heap}{n:Nat}{f:CX}{G:List D}{cf cio:Nat->List D->R D}{wf:Nat}{zn:List Env}{F:List zL}{K:List (Str×D)}{mg mb:Str->Option Value}{L:Addr}
 {lp:Option (List VS)}{st:List VS}
theorem Ec.sound(X:Ec H w zc n f G cf zn F K mg mb L){fu:Nat}{e:Expr}{pe:PE}(h:z6 fu f.cx e=some pe):At H w zc G cf n f.cx.names f.env e pe:=
 Rs X.B X.hG X.C fu f.cx f.env e pe X.hF X.hC X.hL h
theorem Jx(X:Ec H w zc n f G cf zn F K mg mb L){fu:Nat}{e:Expr}{pe:PE}{b:Bool}{ρ:zg}{P:Addr->Prop}{ad:Nat->Addr}{s:tX}{Q E:Value->tX->Prop}(h:z6 fu f.cx e=some pe)(hl:k8 st b pe=true)(c:zO H w zc n f st ρ P ad s)
  (hok:∀d v s',ev G cf pe ρ=.ok d->zO H w zc n f st ρ P ad s'->zo H w (Ta b P) P s'.heap v d->Q v s')(hve:ev G cf pe ρ=.ve->∀x s',KP f.env zn f.X f.s₀ x s'->E x s')(hns:ev G cf pe ρ≠.stuck):
  wpAny (model H w) f.A (eval e f.env) Q E s:=
 (X.sound h st).1 b hl P f.A f.fs s ρ Q E c.ec c.vok (λd v s' hd ch r=>hok d v s' hd (c.ch ch) r) (λhd x s' q=>hve hd x s' (Bn.exf X.fs c q)) hns
theorem XW(X:Ec H w zc n f G cf zn F K mg mb L){fu:Nat}{e:Expr}{pe:PE}{ρ:zg}{P:Addr->Prop}{ad:Nat->Addr}{s:tX}{Q:Bool->tX->Prop}{E:Value->tX->Prop}(h:z6 fu f.cx e=some pe)(hl:k8 st true pe=true)(c:zO H w zc n f st ρ P ad s)
  (hok:∀t s',ev G cf pe ρ=.ok (.bool t)->zO H w zc n f st ρ P ad s'->Q t s')(hve:ev G cf pe ρ=.ve->∀x s',KP f.env zn f.X f.s₀ x s'->E x s')(hns:R.bind (ev G cf pe ρ) z9≠.stuck):
  wpAny (model H w) f.A (xU e f.env (eval e f.env)) Q E s:=
 (X.sound h st).2 hl P f.A f.fs s ρ Q E c.ec c.vok (λt s' hd ch=>hok t s' hd (c.ch ch)) (λhd x s' q=>hve hd x s' (Bn.exf X.fs c q)) hns
theorem OR:k6 H w zc n f G cf cio wf zn lp st (execs [] f.env) .skip (.st st):=by
 intro s ρ P ad Q E c hok _ _;exact uC (hok .next ρ .next s rfl ⟨rfl,st,P,ad,rfl,c⟩)
set_option tactic.hygienic true in
theorem SS(X:Ec H w zc n f G cf zn F K mg mb L)(h:z6 40 f.cx e=some pe)(hc:chk f.fx (.ret pe) lp st=.dead):
  k6 H w zc n f G cf cio wf zn lp st (vH (.Return (some e) pos) f.env) (.ret pe) .dead:=by
 intro s ρ P ad Q E c hok hve hns;rw[P0] at hc;split at hc
 ·rename_i hh;simp only[uU] at hh;simp only[bT] at hok hve hns;obtain⟨P',c'⟩:=c.frz hh.2;refine wpAny_Return_some (Jx X h hh.1 c' (λd v s' hd c₁ r=>?_) (λhd=>hve (by rw[hd];rfl)) (λhd=>hns (by rw[hd];rfl)));rw[hd] at hok;exact hok (.ret d) ρ (.ret v) s' rfl ⟨v,_,P',ad,rfl,c₁,r⟩
 ·cases hc
set_option tactic.hygienic true in
theorem SN(hc:chk f.fx .brk lp st=.dead):k6 H w zc n f G cf cio wf zn lp st (vH (.Break pos) f.env) .brk .dead:=by
 intro s ρ P ad Q E c hok hve hns;induction lp using uW with
 |none=>cases hc
 |some inv=>
  have hc:(if Ip f.fx inv st then CR.dead else .err)=.dead:=hc;split at hc
  ·rename_i hh;obtain⟨P',c'⟩:=c.weaken hh;show wpAny _ _ (do zaE pos;pure Flow.brk) _ _ _;exact tY (wH (uC (hok .brk ρ .brk s rfl ⟨rfl,inv,P',ad,rfl,c'⟩)))
  ·cases hc
set_option tactic.hygienic true in
theorem ON(hc:chk f.fx .cont lp st=.dead):k6 H w zc n f G cf cio wf zn lp st (vH (.Continue pos) f.env) .cont .dead:=by
 intro s ρ P ad Q E c hok hve hns;induction lp using uW with
 |none=>cases hc
 |some inv=>
  have hc:(if Ip f.fx inv st then CR.dead else .err)=.dead:=hc;split at hc
  ·rename_i hh;obtain⟨P',c'⟩:=c.weaken hh;show wpAny _ _ (do zaE pos;pure Flow.cont) _ _ _;exact tY (wH (uC (hok .cont ρ .cont s rfl ⟨rfl,inv,P',ad,rfl,c'⟩)))
  ·cases hc
theorem LM(X:Ec H w zc n f G cf zn F K mg mb L)(hx:f.cx.isB x "ValueError"=true):
  k6 H w zc n f G cf cio wf zn lp st (vH (.Raise (some (.Call (.Name x np) [.Constant (.str t) k ap] [] cpos)) none pos) f.env) .raise .dead:=by
 intro s ρ P ad Q E c hok hve hns;obtain⟨h1,h2,rfl⟩:=Bv hx;refine Raise_madeB PySem.F.excCall_ValueError PySem.F.excRaise_ValueError c.ec.handled (X.B.loadB c.ec.stays c.ec.kind c.ec.globals c.ec.builtins (X.hL.glob _ h1) h2 Rx L9 ⟨rfl,?_⟩);refine xL (wpAny_Constant_str (env:=f.env) (k:=k) (pos:=ap) (zak ⟨by exact zbd _,λh' e hx=>?_⟩));obtain⟨hk,hn,t',he,_,_⟩:=hx;have fr:=c.ec.funs;rw[X.fs] at fr;have ne:∀a,a∈Bl (f.env::zn)->zc.get? a=none:=λa ha=>(fr.mem ha).1;refine hve rfl _ _ ⟨e,PySem.W.hideAll s.heap (Bl (f.env::zn)),rfl,λa o q nx nf=>PySem.W.hideAll_get _ (c.keep a o q nx) nf,?_,λa o q nx nf=>⟨o.slots,hk a o (c.keep a o q nx)⟩,c.os,c.gens⟩;refine .new _ _ _ he rfl rfl rfl rfl (λb o q=>hk b o (PySem.W.of_hideAll _ q)) ?_ ?_
 ·cases q:(PySem.W.hideAll s.heap (Bl (f.env::zn))).get? e with
  |none=>rfl
  |some o=>have:=PySem.W.of_hideAll _ q;rw[hn] at this;exact nn this
 ·exact jK (h:=s.heap) (λa o q nf=>⟨o,hk a o q,nf⟩) (PySem.W.funFrames_hide fr λenv he a ha=>List.mem_filterMap.mpr ⟨env,he,ha⟩)
theorem SQ(h:k6 H w zc n f G cf cio wf zn lp st (vH t f.env) ps r):k6 H w zc n f G cf cio wf zn lp st (execs [t] f.env) ps r:=by
 intro s ρ P ad Q E c hok hve hns;show wpAny _ _ (do match <-vH t f.env with|.next=>execs [] f.env|f=>pure f) _ _ _;refine tY (h s ρ P ad _ E c (λfl ρ' fw s' he hp=>?_) hve hns);have q:=hok fl ρ' fw s' he hp;cases fw<;>exact uC q
theorem Ks(h:k6 H w zc n f G cf cio wf zn lp st (vH t f.env) a r1)
  (h2:∀s1,r1=.st s1->k6 H w zc n f G cf cio wf zn lp s1 (execs rest f.env) b r):k6 H w zc n f G cf cio wf zn lp st (execs (t::rest) f.env) (.seq a b) r:=by
 intro s ρ P ad Q E c hok hve hns;simp only[bU] at hok hve hns;show wpAny _ _ (do match <-vH t f.env with|.next=>execs rest f.env|f=>pure f) _ _ _;refine tY (h s ρ P ad _ E c (λfl ρ' fw s' he hp=>?_) (λhe=>hve (by rw[he];rfl)) (λhe=>hns (by rw[he];rfl)));rw[he] at hok hve hns;simp only[R.bind_ok] at hok hve hns;induction fl using Fl.casesOn with
 |next=>
  obtain⟨rfl,s1,P1,ad1,hr,c1⟩:=hp;exact h2 s1 hr s' ρ' P1 ad1 Q E c1 hok hve hns
 |brk=>obtain⟨rfl,hp⟩:=hp;exact uC (hok .brk ρ' .brk s' rfl ⟨rfl,hp⟩)
 |cont=>obtain⟨rfl,hp⟩:=hp;exact uC (hok .cont ρ' .cont s' rfl ⟨rfl,hp⟩)
 |ret d=>
  obtain⟨v,hp⟩:=hp;obtain⟨s1,P1,ad1,rfl,hp⟩:=hp;exact uC (hok (.ret d) ρ' (.ret v) s' rfl ⟨v,s1,P1,ad1,rfl,hp⟩)
set_option tactic.hygienic true in
theorem Ef.joinl(h:Ef H w zc n f lp r1 fl ρ' fw s')(hr:Cm f.fx r1 r2≠.err):Ef H w zc n f lp (Cm f.fx r1 r2) fl ρ' fw s':=by
 induction fl using Fl.casesOn with
 |next=>
  obtain⟨rfl,s1,P1,ad1,rfl,c1⟩:=h;refine⟨rfl,?_⟩;induction r2 using CR.casesOn with
  |err=>exact absurd rfl hr
  |dead=>exact⟨s1,P1,ad1,rfl,c1⟩
  |st l=>
   simp only[JK] at hr ⊢;split at hr
   ·rename_i hc;rw[if_pos hc];simp only[uU] at hc;obtain⟨P',c'⟩:=c1.weaken hc.1;exact⟨_,P',ad1,rfl,c'⟩
   ·exact absurd rfl hr
 |brk=>exact h
 |cont=>exact h
 |ret d=>exact h
set_option tactic.hygienic true in
theorem Ef.joinr(h:Ef H w zc n f lp r2 fl ρ' fw s')(hr:Cm f.fx r1 r2≠.err):Ef H w zc n f lp (Cm f.fx r1 r2) fl ρ' fw s':=by
 induction fl using Fl.casesOn with
 |next=>
  obtain⟨rfl,s1,P1,ad1,rfl,c1⟩:=h;refine⟨rfl,?_⟩;induction r1 using CR.casesOn with
  |err=>exact absurd rfl hr
  |dead=>exact⟨s1,P1,ad1,rfl,c1⟩
  |st l=>
   simp only[JK] at hr ⊢;split at hr
   ·rename_i hc;rw[if_pos hc];simp only[uU] at hc;obtain⟨P',c'⟩:=c1.weaken hc.2;exact⟨_,P',ad1,rfl,c'⟩
   ·exact absurd rfl hr
 |brk=>exact h
 |cont=>exact h
 |ret d=>exact h
theorem Ln(h:Cm fx a b≠.err):a≠.err:=by rintro rfl;cases b<;>exact h rfl
theorem JL(h:Cm fx a b≠.err):b≠.err:=by rintro rfl;cases a<;>exact h rfl
set_option tactic.hygienic true in
theorem V8(X:Ec H w zc n f G cf zn F K mg mb L)(h:z6 40 f.cx c=some pc)(hc:chk f.fx (.ifs pc a b) lp st≠.err)
  (h1:chk f.fx a lp (frz st (jD true pc))≠.err->k6 H w zc n f G cf cio wf zn lp (frz st (jD true pc)) (execs x f.env) a (chk f.fx a lp (frz st (jD true pc))))
  (h2:chk f.fx b lp (frz st (jD true pc))≠.err->k6 H w zc n f G cf cio wf zn lp (frz st (jD true pc)) (execs y f.env) b (chk f.fx b lp (frz st (jD true pc)))):
  k6 H w zc n f G cf cio wf zn lp st (vH (.If c x y pos) f.env) (.ifs pc a b) (chk f.fx (.ifs pc a b) lp st):=by
 intro s ρ P ad Q E cs hok hve hns;simp only[Ua] at hc hok ⊢;split at hc
 ·rename_i hh;rw[if_pos hh] at hok;simp only[uU] at hh;simp only[bR] at hok hve hns;obtain⟨P',c'⟩:=cs.frz hh.2;refine wpAny_If (XW X h hh.1 c' (λt s' hd c₁=>?_) (λhd=>hve (by rw[hd];rfl)) (λhd=>hns ?_))
  ·rw[hd] at hok hve hns;induction t using tZ with
   |true=>
    exact h1 (Ln hc) s' ρ P' ad Q E c₁ (λfl ρ' fw s₂ he hp=>hok fl ρ' fw s₂ he (hp.joinl hc)) hve hns
   |false=>
    exact h2 (JL hc) s' ρ P' ad Q E c₁ (λfl ρ' fw s₂ he hp=>hok fl ρ' fw s₂ he (hp.joinr hc)) hve hns
  ·exact mQ hd
 ·exact absurd rfl hc
set_option tactic.hygienic true in
theorem SO(X:Ec H w zc n f G cf zn F K mg mb L)(h:z6 40 f.cx e=some pe)(hs:swapsWith e none pos.line f.env=pure false)(hc:chk f.fx (.exp pe) lp st≠.err):
  k6 H w zc n f G cf cio wf zn lp st (vH (.Expr e pos) f.env) (.exp pe) (chk f.fx (.exp pe) lp st):=by
 intro s ρ P ad Q E c hok hve hns;simp only[T9] at hc hok ⊢;split at hc
 ·rename_i hh;rw[if_pos hh] at hok;simp only[uU] at hh;simp only[bQ] at hok hve hns;obtain⟨P',c'⟩:=c.frz hh.2;refine wpAny_Expr_any (Jx X h hh.1 c' (λd v s' hd c₁ r=>?_) (λhd=>hve (by rw[hd];rfl)) (λhd=>hns (by rw[hd];rfl))) (by unfold interactive;rw[c.ec.kind];rfl) hs;rw[hd] at hok;exact hok .next ρ .next s' rfl ⟨rfl,_,P',ad,rfl,c₁⟩
 ·exact absurd rfl hc
theorem E2:∀{is:List Nat} {ds:List D} {ρ:zg},DZ ρ is ds=.ve->False
 |[],[],_,h=>by exact ov h
 |i::is,d::ds,ρ,h=>E2 (ρ:=ρ.set i d) (is:=is) (ds:=ds) h
 |[],_::_,_,h=>by exact sv h
 |_::_,[],_,h=>by exact sv h
theorem A9:jy ρ t d≠.ve:=by
 intro hb;induction t using Tg.casesOn with
 |one i=>exact ov hb
 |many is=>induction d using uG with
  |tuple ds=>exact E2 hb
  |_=>exact sv hb
theorem Cd(h:zK t):(zax [t] env).map (·.2)=[assign t env]:=by
 induction t using v4 with
 |Starred=>exact absurd rfl (h _ _)
 |_=>rfl
set_option tactic.hygienic true in
theorem Gr(X:Ec H w zc n f G cf zn F K mg mb L)(ht:B7 f.cx t=some tg)(h:z6 40 f.cx e=some pe)(hs:zbb [t] e pos.line f.env=pure false)(hw:swappedStores [t] e f.env=pure none)(hns':zK t)
  (hc:chk f.fx (.assign tg pe) lp st≠.err):k6 H w zc n f G cf cio wf zn lp st (vH (.Assign [t] e pos) f.env) (.assign tg pe) (chk f.fx (.assign tg pe) lp st):=by
 intro s ρ P ad Q E c hok hve hns;simp only[FU] at hc hok ⊢;split at hc
 ·rename_i hh;rw[if_pos hh] at hok;simp only[uU] at hh;simp only[EH] at hok hve hns;obtain⟨P',c'⟩:=c.frz hh.1.2;refine wpAny_Assign_stores (Jx X h hh.1.1 c' (λd v s' hd c₁ r=>?_) (λhd=>hve (by rw[hd];rfl)) (λhd=>hns (by rw[hd];rfl))) hs hw;rw[hd] at hok hve hns;simp only[R.bind_ok] at hok hve hns;rw[Cd hns'];show wpAny _ _ (assign t f.env v) _ _ _;cases hb:jy ρ tg d with
  |stuck=>rw[hb] at hns;exact absurd rfl hns
  |ve=>exact absurd hb A9
  |ok ρ'=>
   rw[hb] at hok;exact c₁.assign ht hb X.hnd hh.2 r λh' tk c₂ _=>hok .next ρ' .next _ rfl ⟨rfl,_,P',ad,rfl,c₂⟩
 ·exact absurd rfl hc
theorem Rn{fx:Option Nat}{inv l:List VS}(h:C6 fx inv (.st l)≠.err):Ip fx inv l=true:=by
 by_cases hc:Ip fx inv l=true
 ·exact hc
 ·exact absurd (if_neg hc) h
@[elab_as_elim] theorem Ef.elim{C:Fl->Flow->Prop}{inv:List VS}{r:CR}{fl:Fl}{ρ':zg}{fw:Flow}{s':tX}(hp:Ef H w zc n f (some inv) r fl ρ' fw s')(hc:C6 f.fx inv r≠.err)(k1:∀P ad,zO H w zc n f inv ρ' P ad s'->C .next .next)(k2:∀P ad,zO H w zc n f inv ρ' P ad s'->C .cont .cont)
  (k3:∀P ad,zO H w zc n f inv ρ' P ad s'->C .brk .brk)(k4:∀d v st P ad,zO H w zc n f st ρ' P ad s'->zo H w P P s'.heap v d->C (.ret d) (.ret v)):C fl fw:=by
 induction fl using Fl.casesOn with
 |next=>
  obtain⟨rfl,s1,P1,ad1,rfl,c1⟩:=hp;obtain⟨P',c'⟩:=c1.weaken (Rn hc);exact k1 P' ad1 c'
 |cont=>obtain⟨rfl,i,P1,ad1,hi,c1⟩:=hp;exact k2 P1 ad1 (zP hi▸c1)
 |brk=>obtain⟨rfl,i,P1,ad1,hi,c1⟩:=hp;exact k3 P1 ad1 (zP hi▸c1)
 |ret d=>obtain⟨v,s1,P1,ad1,rfl,c1,r1⟩:=hp;exact k4 d v s1 P1 ad1 c1 r1
set_option tactic.hygienic true in
theorem JW{fx:Option Nat}{inv:List VS}{r:CR}(h:C6 fx inv r≠.err):C6 fx inv r=.st inv/\r≠.err:=by
 induction r using CR.casesOn with
 |err=>exact absurd rfl h
 |dead=>exact⟨rfl,by simp⟩
 |st l=>
  simp only[C6] at h ⊢;split at h
  ·rename_i hc;rw[if_pos hc];exact⟨rfl,by simp⟩
  ·exact absurd rfl h
inductive Yi(test:zg->R Bool)(body:zg->R (Fl×zg))(res:R (Fl×zg))(C:zg->(Addr->Prop)->(Nat->Addr)->Prop)(m:Nat):Prop
 |mk(ρ₁:zg)(P₁:Addr->Prop)(ad₁:Nat->Addr)(c:C ρ₁ P₁ ad₁)(hr:Cp test body m ρ₁=res)
set_option tactic.hygienic true in
theorem LN(X:Ec H w zc n f G cf zn F K mg mb L){c:Expr}{x:List Stmt}{pos:Pos}{pc:PE}{b:PS}(h:z6 40 f.cx c=some pc)(hc:chk f.fx (.whil pc b) lp st≠.err)
  (h1:∀inv,chk f.fx b (some inv) inv≠.err->k6 H w zc n f G cf cio wf zn (some inv) inv (execs x f.env) b (chk f.fx b (some inv) inv)):
  k6 H w zc n f G cf cio wf zn lp st (vH (.While c x [] pos) f.env) (.whil pc b) (chk f.fx (.whil pc b) lp st):=by
 intro s ρ P ad Q E cs hok hve hns;simp only[P6] at hc hok ⊢;generalize Di (λi=>chk f.fx b (some i) i) 4 (frz st (jD true pc))=inv at hc hok;split at hc
 ·rename_i hh;rw[if_pos hh] at hok;simp only[uU] at hh;obtain⟨hst,hne⟩:=JW hc;rw[hst] at hok;simp only[WR] at hok hve hns;obtain⟨P',c'⟩:=cs.weaken hh.1;generalize hres:Cp (λσ=>R.bind (ev G cf pc σ) z9) (λσ=>Mine.exec G cf cio wf b σ) wf ρ=res at hok hve hns;refine wpAny_While (codeAny_whileLoop (λm s₁=>Yi (λσ=>R.bind (ev G cf pc σ) z9) (λσ=>Mine.exec G cf cio wf b σ) res (λρ₁ P₁ ad₁=>zO H w zc n f inv ρ₁ P₁ ad₁ s₁) m) (λm s₁ hI=>?_) wf ⟨ρ,P',ad,c',hres⟩);obtain⟨ρ₁,P₁,ad₁,c₁,hr⟩:=hI;induction m using w3 with
  |zero=>skip;exact absurd hr.symm hns
  |succ m=>
   simp only[gM] at hr;refine XW X h hh.2 c₁ (λt s' hd c₂=>?_) (λhd y s' q=>?_) (λhd=>?_)
   ·rw[hd] at hr;induction t using tZ with
    |false=>
     exact uC (hok .next ρ₁ .next s' hr.symm ⟨rfl,inv,P₁,ad₁,rfl,c₂⟩)
    |true=>
     refine h1 inv hne s' ρ₁ P₁ ad₁ _ _ c₂ (λfl ρ' fw s₂ he hp=>?_) (λhe y s₂ q=>?_) (λhe=>?_)
     ·rw[he] at hr
      revert hr
      exact Ef.elim hp hc (λP₂ ad₂ c₃ hr=>⟨m,w9 _,.mk ρ' P₂ ad₂ c₃ hr⟩) (λP₂ ad₂ c₃ hr=>⟨m,w9 _,.mk ρ' P₂ ad₂ c₃ hr⟩) (λP₂ ad₂ c₃ hr=>hok .next ρ' .next s₂ hr.symm ⟨rfl,inv,P₂,ad₂,rfl,c₃⟩)
       (λd v st₂ P₂ ad₂ c₃ r₃ hr=>hok (.ret d) ρ' (.ret v) s₂ hr.symm ⟨v,st₂,P₂,ad₂,rfl,c₃,r₃⟩)
     ·rw[he] at hr;exact KP.noted (X.fs▸c₂.ec.frames) X.fr q λs'' q'=>hve hr.symm y s'' q'
     ·rw[he] at hr;exact hns hr.symm
   ·rw[hd] at hr;exact KP.noted (X.fs▸c₁.ec.frames) X.fr q λs'' q'=>hve hr.symm y s'' q'
   ·rw[hd] at hr;exact hns hr.symm
 ·exact absurd rfl hc
noncomputable def CX.with(f:CX)(Z Y:Addr->Obj->Prop):CX:={f with Z:=Z,Y:=Y}
theorem zO.less{Z Y:Addr->Obj->Prop}{ρ:zg}{P:Addr->Prop}{ad:Nat->Addr}{s:tX}(c:zO H w zc n (f.with Z Y) st ρ P ad s)(hz:∀a o,f.Z a o->Z a o)(hy:∀a o,f.Y a o->Y a o):zO H w zc n f st ρ P ad s:=
 ⟨c.ec,c.fram,c.len,c.nlen,c.var,c.own,c.oP,c.dist,c.sub,c.oP0,c.fxa,c.noX,c.fresh,c.pnew0,c.keep,c.os,c.gens,c.vk,λa o q=>c.zs a o (hz a o q),λa o q=>c.ys a o (hy a o q),λa o q=>c.zf a o (hz a o q)⟩
theorem zO.more{Z Y:Addr->Obj->Prop}{ρ:zg}{P:Addr->Prop}{ad:Nat->Addr}{s:tX}(c:zO H w zc n f st ρ P ad s)(hz:∀a o,Z a o->s.heap.get? a=some o/\¬P a/\¬Aq f.env a/\∀i,VS.at st i=.o->a≠ad i)(hy:∀a o,Y a o->P a/\s.heap.get? a=some o)(hf:∀a o,Z a o->a∉Bl f.fs):
  zO H w zc n (f.with Z Y) st ρ P ad s:=
 ⟨c.ec,c.fram,c.len,c.nlen,c.var,c.own,c.oP,c.dist,c.sub,c.oP0,c.fxa,c.noX,c.fresh,c.pnew0,c.keep,c.os,c.gens,c.vk,hz,hy,hf⟩
theorem zO.iter'{ρ:zg}{P P':Addr->Prop}{ad:Nat->Addr}{s s':tX}{I:Addr}(c:zO H w zc n f st ρ P ad s)(mP:∀a o,P a->s.heap.get? a=some o->P' a/\s'.heap.get? a=some o)(hk:∀a o,a≠I->s.heap.get? a=some o->s'.heap.get? a=some o)(anf:TD f.fs s.heap s'.heap)
  (pn:Ae P' s'.heap)(hP:∀a,P' a->P a\/a=I)(pI:f.P₀ I)(oI:¬Aq f.env I)(aI:∀i,VS.at st i=.o->ad i≠I)(nI:f.s₀.heap.get? I=none)(fI:I∉Bl f.fs)(zI:∀o,¬f.Z I o)(os:s'.os=s.os)(gn:vT s.gens->vT s'.gens):zO H w zc n f st ρ P' ad s':=by
 have nP:∀i,VS.at st i=.o->¬P' (ad i):=λi hi q=>by
  rcases hP _ q with q|q
  ·exact(c.oP i hi).1 q
  ·exact aI i hi q
 have kO:∀a o,Aq f.env a->s.heap.get? a=some o->s'.heap.get? a=some o:=λa o q e=>hk a o (λz=>oI (z▸q)) e;refine⟨c.ec.change' mP anf ?_ ?_ pn,c.fram.keep λa o q e=>kO a o q.own e,c.len,c.nlen,λi x k h1 h2 h3=>?_,λi x k h1 h2 h3=>?_,λi h1=>⟨nP i h1,(c.oP i h1).2⟩,c.dist,?_,c.oP0,c.fxa,c.noX,c.fresh,c.pnew0,
  λa o e nx=>hk a o (λz=>by rw[z,nI] at e;exact nn e) (c.keep a o e nx),os.trans c.os,λg=>gn (c.gens g),c.vk,λa o q=>?_,λa o q=>mP a o (c.ys a o q).1 (c.ys a o q).2,c.zf⟩
 ·exact λa q=>(hP a q).elim (c.ec.own a) λe=>e▸oI
 ·exact λa q=>(hP a q).elim (c.ec.nofr a) λe=>e▸fI
 ·obtain⟨v,h4,h5⟩:=c.var i x k h1 h2 h3;exact⟨v,h4.move kO,h5.move mP mP⟩
 ·obtain⟨h4,h5⟩:=c.own i x k h1 h2 h3;exact⟨h4.move kO,h5.move (λa o t e=>⟨t,hk a o (by rw[t];exact aI i h3) e⟩) mP⟩
 ·exact λa q=>(hP a q).elim (c.sub a) λe=>e▸pI
 ·obtain⟨h1,h2,h3,h4⟩:=c.zs a o q;have ne:a≠I:=λz=>zI o (z▸q);exact⟨hk a o ne h1,λz=>(hP a z).elim h2 ne,h3,h4⟩
theorem zO.iter{ρ:zg}{P P':Addr->Prop}{ad:Nat->Addr}{s s':tX}{I:Addr}(c:zO H w zc n f st ρ P ad s)(mP:∀a o,P a->s.heap.get? a=some o->P' a/\s'.heap.get? a=some o)(hk:∀a o,a≠I->s.heap.get? a=some o->s'.heap.get? a=some o)(anf:Ty s.heap s'.heap)
  (pn:Ae P' s'.heap)(hP:∀a,P' a->P a\/a=I)(pI:f.P₀ I)(oI:¬Aq f.env I)(aI:∀i,VS.at st i=.o->ad i≠I)(nI:f.s₀.heap.get? I=none)(fI:I∉Bl f.fs)(zI:∀o,¬f.Z I o)(os:s'.os=s.os)(gn:vT s.gens->vT s'.gens):zO H w zc n f st ρ P' ad s':=
 c.iter' mP hk anf.f pn hP pI oI aI nI fI zI os gn
theorem zO.new0{ρ:zg}{P:Addr->Prop}{ad:Nat->Addr}{s:tX}{I:Addr}(c:zO H w zc n f st ρ P ad s)(h:s.heap.get? I=none):f.s₀.heap.get? I=none:=by
 cases q:f.s₀.heap.get? I with
 |none=>rfl
 |some o=>
  by_cases hx:f.X I
  ·cases hf:f.fx with
   |none=>exact absurd hx (c.noX hf I)
   |some i=>
    obtain⟨h1,h2⟩:=c.fxa i hf;obtain⟨o',h3,_⟩:=c.there h1;rw[<-(h2 I).mp hx,h] at h3;exact nn h3
  ·rw[c.keep I o q hx] at h;exact sn h
theorem Lv{bd:zg->D->R zg}{body:zg->R (Fl×zg)}{d:D}{ds:List D}{ρ:zg}{res:R (Fl×zg)}(h:AF bd body (d::ds) ρ=res)(hns:res≠.stuck)(hbv:bd ρ d≠.ve):∃ρ',bd ρ d=.ok ρ'/\R.bind (body ρ') (λr=>match r.1 with
   |.next|.cont=>AF bd body ds r.2
   |.brk=>.ok (.next,r.2)
   |.ret v=>.ok (.ret v,r.2))=res:=by
 simp only[gL] at h;cases hb:bd ρ d with
 |ok ρ'=>rw[hb] at h;exact⟨ρ',rfl,h⟩
 |ve=>exact absurd hb hbv
 |stuck=>rw[hb] at h;exact absurd h.symm hns
inductive cZ(bd:zg->D->R zg)(body:zg->R (Fl×zg))(ds:List D)(res:R (Fl×zg))(St:Nat->Heap->Prop)(C:zg->(Addr->Prop)->(Nat->Addr)->Prop)(inv:List VS)(I:Addr)(m:Nat)(h:Heap):Prop
 |mk(j:Nat)(ρ₁:zg)(P₁:Addr->Prop)(ad₁:Nat->Addr)(hj:j<=ds.length)(hm:m=ds.length+1 - j)(hl:AF bd body (ds.drop j) ρ₁=res)(hst:St j h)(c:C ρ₁ P₁ ad₁)(nP:¬P₁ I)(nA:∀i,VS.at inv i=.o->ad₁ i≠I)
theorem Y4{x:R D}{it:D->R (List D)}{k:List D->R (Fl×zg)}{ds:List D}(h:R.bind x it=.ok ds):(R.bind x λd=>R.bind (it d) k)=k ds:=by
 obtain⟨d,h1,h2⟩:=rb h;rw[h1];show R.bind (it d) k=_;rw[h2];rfl
theorem Y5{x:R D}{it:D->R (List D)}{k:List D->R (Fl×zg)}(h:R.bind x it=.stuck):(R.bind x λd=>R.bind (it d) k)=.stuck:=by
 induction x using R.casesOn with
 |ok d=>have h:it d=.stuck:=h;show R.bind (it d) k=_;rw[h];rfl
 |ve=>exact nT h
 |stuck=>rfl
set_option tactic.hygienic true in
theorem SP(X:Ec H w zc n f G cf zn F K mg mb L){te ie:Expr}{x:List Stmt}{pos:Pos}{tg:Tg}{q:Bool×PE}{b:PS}(ht:B7 f.cx te=some tg)(hit:Xu (z6 40) f.cx ie=some q)(hc:chk f.fx (.forr tg q.1 q.2 b) lp st≠.err)
  (h1:∀Z Y inv,chk f.fx b (some inv) (jv inv tg)≠.err->k6 H w zc n (f.with Z Y) G cf cio wf zn (some inv) (jv inv tg) (execs x f.env) b (chk f.fx b (some inv) (jv inv tg))):
  k6 H w zc n f G cf cio wf zn lp st (vH (.For te ie x [] pos) f.env) (.forr tg q.1 q.2 b) (chk f.fx (.forr tg q.1 q.2 b) lp st):=by
 intro s ρ P ad Q E cs hok hve hns;simp only[PW] at hc hok ⊢;generalize Di (λi=>chk f.fx b (some i) (jv i tg)) 4 (frz st (jD q.1 q.2))=inv at hc hok;split at hc
 ·rename_i hh;rw[if_pos hh] at hok;simp only[uU] at hh;obtain⟨⟨⟨hh1,hh2⟩,hh3⟩,hh4⟩:=hh;obtain⟨hst,hne⟩:=JW hc;rw[hst] at hok;simp only[WN] at hok hve hns;obtain⟨P',c'⟩:=cs.frz hh2;obtain⟨i1,i2⟩:=CF X.B X.hL (λe pe h=>X.sound h) hit hh1;refine wpAny_For (i1 P' f.A f.fs s ρ _ E c'.ec c'.vok (λds v s' h₀ hds ch k1 k2 I=>?_) (λhd y s' z=>hve (by rw[hd];rfl) y s' (Bn.exf X.fs c' z)) (λhd=>hns ?_)) i2
  ·have hev:=Y4 (k:=λxs=>AF (λσ d=>jy σ tg d) (λσ=>Mine.exec G cf cio wf b σ) xs ρ) hds;rw[hev] at hok hve hns;generalize hres:AF (λσ d=>jy σ tg d) (λσ=>Mine.exec G cf cio wf b σ) ds ρ=res at hok hve hns
   (obtain⟨I,fp,PV,St,zr6,hI0,W,hSt,hfp,hPV,hcls⟩:=I;replace zr6:=vR zr6;subst zr6)
   have hIs:s.heap.get? I=none:=AP k1 hI0;obtain⟨P'',hPP,c1⟩:=c'.weaken' hh3;have pI:P'' I:=c1.ec.pnew I hIs;have oI:¬Aq f.env I:=c1.ec.own I pI;have fI:I∉Bl f.fs:=c1.ec.nofr I pI;have nI:=c1.new0 hIs;have p0I:f.P₀ I:=c1.pnew0 I nI;obtain⟨oI0,_,hoI0,_,_,hnf0⟩:=hcls 0 _ hSt;have ne:∀a o,s.heap.get? a=some o->a≠I:=λa o e z=>by rw[z,hIs] at e;exact nn e
   have aI:∀i,VS.at inv i=.o->ad i≠I:=λi hi=>let ⟨o,ho,_⟩:=c1.there hi;ne _ o ho;have zI:∀o,¬f.Z I o:=λo z=>by have:=(c1.zs I o z).1;rw[hIs] at this;exact nn this
   have c2:zO H w zc n f inv ρ (λa=>P'' a/\a≠I) ad s':=c1.iter (I:=I) (λa o p e=>⟨⟨p,ne a o e⟩,ch.keep a o e⟩) (λa o _ e=>ch.keep a o e) (jS.of_keep ch.keep).nf
    (λa e=>⟨(c1.ec.pnew.keep ch.keep) a e,λz=>by rw[z,hoI0] at e;exact sn e⟩) (λa p=>.inl p.1) p0I oI aI nI fI zI ch.os ch.gens
   let Y:Addr->Obj->Prop:=λa o=>f.Y a o\/((P'' a/\a≠I)/\s'.heap.get? a=some o);have c3:zO H w zc n (f.with f.Z Y) inv ρ (λa=>P'' a/\a≠I) ad s':=c2.more c2.zs (λa o z=>z.elim (c2.ys a o) id) c2.zf;have itm:∀i u,i<ds.length->PV i u->∃d,ds[i]?=some d/\jG (λa=>P'' a/\a≠I) s'.heap u d:=λi u hi hu=>by
    obtain⟨d,h2,h3⟩:=hPV i u hi hu;exact⟨d,h2,h3.move λa o p e=>⟨⟨hPP a p,λz=>by rw[z,hI0] at e;exact nn e⟩,k2 a o e⟩⟩
   refine codeAny_forLoop_any (λm s₁=>cZ (λσ d=>jy σ tg d) (λσ=>Mine.exec G cf cio wf b σ) ds res St (λρ₁ P₁ ad₁=>zO H w zc n (f.with f.Z Y) inv ρ₁ P₁ ad₁ s₁) inv I m s₁.heap) (λm s₁ hJ=>?_) (ds.length+1) ⟨0,ρ,_,ad,uZ _,rfl,hres,hSt,c3,λz=>z.2 rfl,aI⟩
   (obtain⟨j,ρ₁,P₁,ad₁,hj,zr7,hl,hst₁,c₁,nP,nA⟩:=hJ;replace zr7:=vR zr7;subst zr7)
   obtain⟨oI1,nI1,hoI1,_,_,hnf1⟩:=hcls _ _ hst₁;have anf:∀{h':Heap},(∀b o,b≠I->s₁.heap.get? b=some o->h'.get? b=some o)->Ty s₁.heap h':=IE hoI1 hnf1;by_cases hlt:j<ds.length
   ·refine W.item j s₁ _ _ hlt hst₁ λu h' tk hu hst' hk=>?_;obtain⟨d,hd,rd⟩:=itm j u hlt hu;obtain⟨oI2,nI2,hoI2,hcl2,hown2,hnf2⟩:=hcls _ _ hst';have hk':∀b o,b≠I->s₁.heap.get? b=some o->h'.get? b=some o:=CJ hk;rw[Jr hd] at hl;obtain⟨ρ₂,hb,hl⟩:=Lv hl hns A9;have c₂:zO H w zc n (f.with f.Z Y) inv ρ₁ P₁ ad₁ {s₁ with heap:=h',toks:=tk}:=c₁.iter (I:=I) (s':={s₁ with heap:=h',toks:=tk}) (λa o p e=>⟨p,hk' a o (λz=>nP (z▸p)) e⟩) (λa o z e=>hk' a o z e) (anf hk')
     (λa e=>c₁.ec.pnew a (G2 hk' hoI2 e)) (λa p=>.inl p) p0I oI nA nI fI zI rfl id
    have rd':jG P₁ h' u d:=rd.move λa o p e=>c₂.ys a o (.inr ⟨p,e⟩);refine Ga (s:={s₁ with heap:=h',toks:=tk}) hoI2 hcl2 hown2 ?_;refine zO.assign (f:=f.with f.Z Y) (s:={s₁ with heap:=h',toks:=tk}) c₂ ht hb X.hnd hh4 (.rep rd') λh₃ tk₃ c₃ B₃=>?_;have hoI3:h₃.get? I=some oI2:=B₃.keepO I oI2 oI hoI2;have ofo:∀{i},VS.at (jv inv tg) i=.o->VS.at inv i=.o:=λ{i} z=>by
     rcases Fi (t:=tg) (st:=inv) (i:=i) with e|e
     ·rw[<-e];exact z
     ·rw[e] at z;cases z
    let Z:Addr->Obj->Prop:=λa o=>f.Z a o\/(a=I/\o=oI2);have c₄:zO H w zc n (f.with Z Y) (jv inv tg) ρ₂ P₁ ad₁ {s₁ with heap:=h₃,toks:=tk₃}:=zO.more (f:=f.with f.Z Y) c₃ (λa o z=>z.elim (c₃.zs a o) (λ⟨ea,eo⟩=>ea▸eo▸⟨hoI3,nP,oI,λi hi=>(nA i (ofo hi)).symm⟩)) c₃.ys (λa o z=>z.elim (c₃.zf a o) (λz=>z.1▸fI));refine h1 Z Y inv hne {s₁ with heap:=h₃,toks:=tk₃} ρ₂ P₁ ad₁ _ _ c₄ (λfl ρ' fw s₂ he hp=>?_) (λhe y s₂ z=>?_) (λhe=>?_)
    ·rw[he] at hl;simp only[R.bind_ok] at hl;have back:∀{st' P₂ ad₂},zO H w zc n (f.with Z Y) st' ρ' P₂ ad₂ s₂->zO H w zc n f st' ρ' P₂ ad₂ s₂:=λc=>c.less (λa o z=>.inl z) (λa o z=>.inl z);have loop:∀{P₂ ad₂},zO H w zc n (f.with Z Y) inv ρ' P₂ ad₂ s₂->AF (λσ d=>jy σ tg d) (λσ=>Mine.exec G cf cio wf b σ) (ds.drop (j+1)) ρ'=res->∃m,m<ds.length+1 - j/\cZ (λσ d=>jy σ tg d) (λσ=>Mine.exec G cf cio wf b σ) ds res St (λρ₁ P₁ ad₁=>zO H w zc n (f.with f.Z Y) inv ρ₁ P₁ ad₁ s₂) inv I m s₂.heap:=λ{P₂ ad₂} c hl=>by
      obtain⟨z1,z2,z3,z4⟩:=c.zs I oI2 (.inr ⟨rfl,rfl⟩);refine⟨ds.length+1 - (j+1),Gc hlt,j+1,ρ',P₂,ad₂,by assumption,rfl,hl,?_,zO.less (f:=f.with f.Z Y) c (λa o z=>.inl z) (λa o z=>z),z2,λi hi=>(z4 i hi).symm⟩;refine W.frame _ _ _ hst' λb hb o e=>?_;by_cases z:b=I
      ·rw[z] at e ⊢;rw[<-zP (hoI2.symm.trans e)];exact z1
      ·obtain⟨g1,o',g2⟩:=hfp b hb z;have g3:=(c.ys b o' (.inr ⟨⟨hPP b g1,z⟩,k2 b o' g2⟩)).2;have g4:=(c₂.ys b o' (.inr ⟨⟨hPP b g1,z⟩,k2 b o' g2⟩)).2;rw[<-zP ((show h'.get? b=some o' from g4).symm.trans e)];exact g3
     have hc':C6 (f.with Z Y).fx inv (chk f.fx b (some inv) (jv inv tg))≠.err:=hc
     revert hl
     exact Ef.elim hp hc' (λP₂ ad₂ c₅ hl=>loop c₅ hl) (λP₂ ad₂ c₅ hl=>loop c₅ hl) (λP₂ ad₂ c₅ hl=>hok .next ρ' .next s₂ hl.symm ⟨rfl,inv,P₂,ad₂,rfl,back c₅⟩)
      (λd' v st₂ P₂ ad₂ c₅ r₅ hl=>hok (.ret d') ρ' (.ret v) s₂ hl.symm ⟨v,st₂,P₂,ad₂,rfl,back c₅,r₅⟩)
    ·rw[he] at hl;exact KP.noted (X.fs▸c₁.ec.frames) X.fr z λs'' z'=>hve hl.symm y s'' z'
    ·rw[he] at hl;exact hns hl.symm
   ·have hj':j=ds.length:=y3 hj (Nat.not_lt.mp hlt)
    (replace hj':=vR hj';subst hj')
    simp only[List.drop_length,gK] at hl;refine W.done s₁ _ _ hst₁ λh' tk hk=>?_;have hk':∀b o,b≠I->s₁.heap.get? b=some o->h'.get? b=some o:=CJ hk;have c₂:zO H w zc n (f.with f.Z Y) inv ρ₁ (λa=>P₁ a\/a=I) ad₁ {s₁ with heap:=h',toks:=tk}:=c₁.iter (I:=I) (s':={s₁ with heap:=h',toks:=tk}) (λa o p e=>⟨.inl p,hk' a o (λz=>nP (z▸p)) e⟩) (λa o z e=>hk' a o z e) (anf hk')
     (λa e=>(Classical.em (a=I)).elim .inr λz2=>.inl (c₁.ec.pnew a (Da hk' z2 e))) (λa p=>p) p0I oI nA nI fI zI rfl id
    exact uC (hok .next ρ₁ .next _ hl.symm ⟨rfl,inv,_,ad₁,rfl,c₂.less (λa o z=>z) (λa o z=>.inl z)⟩)
  ·exact Y5 hd
 ·exact absurd rfl hc
end
theorem F8{K:Type}[DecidableEq K]{enc:K->D}(hs:∀k k',jk (enc k) (enc k')=decide (k=k')){v:Value}{d:D}{k:K}(r:jG P h v d):
  ∀{l:List (K×Value)} {kvs:List (D×D)},Dx P h enc l kvs->(l.map (·.1)).Nodup->Dx P h enc (stored l k v) (BI kvs (enc k) d)
 |_,_,.nil,_=>by
  have:stored ([]:List (K×Value)) k v=[(k,v)]:=by rfl
  rw[this];exact .cons r .nil
 |_,_,.cons (k:=k0) (v:=v0) (d:=d0) (l:=l) (kvs:=kvs) r0 q,hn=>by
  simp only[vZ,wR] at hn;by_cases e:k0=k
  ·subst e;have e1:stored ((k0,v0)::l) k0 v=(k0,v)::l:=by
    unfold stored;rw[if_pos (by simp)];simp only[vZ,if_true];congr 1;refine map_eq_self λkv hkv=>?_;rw[if_neg];intro z;exact hn.1 (z▸zaG (f:=(·.1)) hkv)
   rw[e1];rw[show BI ((enc k0,d0)::kvs) (enc k0) d=_ from if_pos (by rw[hs];exact decide_eq_true rfl)];exact .cons r q
  ·have e1:stored ((k0,v0)::l) k v=(k0,v0)::stored l k v:=by
    unfold stored;have:(List.any ((k0,v0)::l) λkv=>decide (kv.1=k))=l.any λkv=>decide (kv.1=k):=by simp[e]
    rw[this];split
    ·simp[e]
    ·rfl
   rw[e1];have:jk (enc k0) (enc k)=false:=by rw[hs];exact if_neg ‹_›
   rw[show BI ((enc k0,d0)::kvs) (enc k) d=_ from if_neg (by rw[this];exact nofun)];exact .cons r0 (F8 hs r q hn.2)
theorem KV{K:Type}[DecidableEq K]{k0:K}{p:Addr×Value}{l:List (K×Addr×Value)}{k:K}(h:k0≠k):atKey ((k0,p)::l) k=atKey l k:=by
 unfold atKey;simp[h]
theorem F7(pa:P a)(r:jG P h v d):
  ∀{l:List (List Int×Addr×Value)} {kvs:List (D×D)},Ee P h l kvs->(l.map (·.1)).Nodup->Ee P h (storedH l [i,j] a v) (BI kvs (.tuple [.int i,.int j]) d)
 |_,_,.nil,_=>by
  have:storedH ([]:List (List Int×Addr×Value)) [i,j] a v=[([i,j],a,v)]:=by rfl
  rw[this];exact .cons pa r .nil
 |_,_,.cons (i:=i0) (j:=j0) (a:=a0) (v:=v0) (d:=d0) (l:=l) (kvs:=kvs) p0 r0 q,hn=>by
  simp only[vZ,wR] at hn;by_cases e:i0=i/\j0=j
  ·obtain⟨rfl,rfl⟩:=e;have e1:storedH (([i0,j0],a0,v0)::l) [i0,j0] a v=([i0,j0],a0,v)::l:=by
    unfold storedH;rw[if_pos (by simp[atKey])];simp only[vZ];congr 1
    ·simp[putAt]
    ·refine map_eq_self λkv hkv=>?_;unfold putAt;rw[if_neg];intro z;exact hn.1 (z▸zaG (f:=(·.1)) hkv)
   rw[e1];have:jk (.tuple [.int i0,.int j0]) (.tuple [.int i0,.int j0])=true:=by show(i0==i0&&(j0==j0&&true))=true;simp
   rw[show BI ((PyData.tuple [.int i0,.int j0],d0)::kvs) (.tuple [.int i0,.int j0]) d=_ from if_pos this];exact .cons p0 r q
  ·have ne:([i0,j0]:List Int)≠[i,j]:=λz=>e (by simpa using z);have e1:storedH (([i0,j0],a0,v0)::l) [i,j] a v=([i0,j0],a0,v0)::storedH l [i,j] a v:=by
    unfold storedH;rw[KV ne];split
    ·simp only[vZ];congr 1;unfold putAt;rw[if_neg ne]
    ·rfl
   rw[e1];have:jk (.tuple [.int i0,.int j0]) (.tuple [.int i,.int j])=false:=by
    show(i0==i&&(j0==j&&true))=false
    simpa using e
   rw[show BI ((PyData.tuple [.int i0,.int j0],d0)::kvs) (.tuple [.int i,.int j]) d=_ from if_neg (by rw[this];exact nofun)];exact .cons p0 r0 (F7 pa r q hn.2)
theorem Qh:(BI kvs k d).length<=kvs.length+1:=by
 induction kvs with
 |nil=>exact uK _
 |cons kv r ih=>
  unfold BI;split
  ·exact w4 _
  ·exact uL ih
section
variable{H:uP}{w:World}{zc:Heap}{n:Nat}{f:CX}{G:List D}{cf cio:Nat->List D->R D}{wf:Nat}{zn:List Env}{F:List zL}{K:List (Str×D)}{mg mb:Str->Option Value}{L:Addr}
 {lp:Option (List VS)}{st:List VS}{ρ:zg}{P:Addr->Prop}{ad:Nat->Addr}{s s₁:tX}
theorem TV(hi:i<st.length)(j:Nat):VS.at (st.set i v) j=if j=i then v else VS.at st j:=by
 rw[VS.at_set];by_cases q:j=i
 ·rw[if_pos ⟨q.symm,q▸hi⟩,if_pos q]
 ·rw[if_neg (λz=>q z.1.symm),if_neg q]
theorem NV(hi:i<ρ.length)(j:Nat):zq (ρ.set i d) j=if j=i then d else zq ρ j:=by
 rw[j3];by_cases q:j=i
 ·rw[if_pos ⟨q.symm,q▸hi⟩,if_pos q]
 ·rw[if_neg (λz=>q z.1.symm),if_neg q]
theorem zO.newOwn(c:zO H w zc n f st ρ P ad s)(hN:s.heap.get? N=none)(ch:Ch s s₁)(hN':∃o,s₁.heap.get? N=some o)
  (r:zo H w (λa=>a=N) (λa=>P a/\a≠N) s₁.heap (.ref N) d)(hx:f.cx.tv? x=some i)(hnd:(f.cx.names.map (·.1)).Nodup)(hfx:f.fx≠some i)(hi:i<st.length)
  (h:∀h' tk P' ad',zO H w zc n f (st.set i .o) (ρ.set i d) P' ad' {s₁ with heap:=h',toks:=tk}->Q () {s₁ with heap:=h',toks:=tk}):wpAny (model H w) f.A (storeName f.env x (.ref N)) Q E s₁:=by
 have pN:P N:=c.ec.pnew N hN;have oN:¬Aq f.env N:=c.ec.own N pN;have fN:N∉Bl f.fs:=c.ec.nofr N pN;have n0:=c.new0 hN;have p0:f.P₀ N:=c.pnew0 N n0;have ne:∀a o,s.heap.get? a=some o->a≠N:=λa o e z=>by rw[z,hN] at e;exact nn e
 have aN:∀j,VS.at st j=.o->ad j≠N:=λj hj=>let ⟨o,ho,_⟩:=c.there hj;ne _ o ho;have zN:∀o,¬f.Z N o:=λo z=>by have:=(c.zs N o z).1;rw[hN] at this;exact nn this
 have c1:zO H w zc n f st ρ (λa=>P a/\a≠N) ad s₁:=c.iter (I:=N) (λa o p e=>⟨⟨p,ne a o e⟩,ch.keep a o e⟩) (λa o _ e=>ch.keep a o e) (jS.of_keep ch.keep).nf
  (λa e=>⟨(c.ec.pnew.keep ch.keep) a e,λz=>by obtain⟨o,ho⟩:=hN';rw[z,ho] at e;exact sn e⟩) (λa p=>.inl p.1) p0 oN aN n0 fN zN ch.os ch.gens
 obtain⟨k,h1,h2,h3⟩:=D6 hx;obtain⟨k',h4,h5,_⟩:=AQ h3;refine HJ c1.fram h1 h2 λh' tk B F' hv ho=>h h' tk (λa=>P a/\a≠N) (λj=>if j=i then N else ad j) ?_;have mP:∀a o,(P a/\a≠N)->s₁.heap.get? a=some o->(P a/\a≠N)/\h'.get? a=some o:=λa o p e=>⟨p,B.keepO a o (c1.ec.own a p) e⟩;have ats:=TV (v:=.o) hi;have gts:=NV (d:=d) (c.len▸hi:i<ρ.length);have old:∀{j},VS.at (st.set i .o) j=.o->j≠i->VS.at st j=.o:=λ{j} q hne=>by rw[ats,if_neg hne] at q;exact q
 have nx:∀{j y k},f.cx.names[j]?=some (y,k)->j≠i->y≠x:=λ{j y k} hj hne e=>hne (Gf hnd hj (e▸h4));refine⟨c1.ec.change mP B.alloc.nf c1.ec.own c1.ec.nofr (c1.ec.pnew.alloc B.alloc),F',by simp[c.len],by simpa using c.nlen,λj y k h6 h7 h8=>?_,λj y k h6 h7 h8=>?_,λj hj=>?_,λj l hj hl hjl=>?_,λa p=>c.sub a p.1,λj hj hjf=>?_,λj hj=>?_,
  c.noX,c.fresh,c.pnew0,λa o e nx=>B.keepO a o (λq=>by rw[c.fresh a q] at e;exact nn e) (c1.keep a o e nx),c1.os,c1.gens,λj y k h6 h7=>?_,λa o q=>?_,λa o q=>?_,c.zf⟩
 ·have hne:j≠i:=λq=>by rw[ats,if_pos q] at h8;cases h8
  rw[ats,if_neg hne] at h8;obtain⟨v,g1,g2⟩:=c1.var j y k h6 h7 h8;refine⟨v,ho y v (nx h6 hne) g1,?_⟩;rw[gts,if_neg hne];exact g2.move mP mP
 ·by_cases q:j=i
  ·(replace q:=vR q;subst q)
   rw[h4] at h6;cases h6;simp only[if_true];refine⟨hv,?_⟩;rw[gts,if_pos rfl];exact r.move (λa o t e=>⟨t,B.keepO a o (by rw[t];exact oN) e⟩) mP
  ·obtain⟨g1,g2⟩:=c1.own j y k h6 h7 (old h8 q);simp only[if_neg q];refine⟨ho y _ (nx h6 q) g1,?_⟩;rw[gts,if_neg q];exact g2.move (λa o t e=>⟨t,B.keepO a o (by rw[t];exact(c1.oP j (old h8 q)).2.1) e⟩) mP
 ·by_cases q:j=i
  ·simp only[if_pos q];exact⟨λz=>z.2 rfl,oN,fN⟩
  ·simp only[if_neg q];exact c1.oP j (old hj q)
 ·by_cases q:j=i
  ·have:l≠i:=λz=>hjl (q.trans z.symm);simp only[if_pos q,if_neg this];exact(aN l (old hl this)).symm
  ·by_cases q2:l=i
   ·simp only[if_pos q2,if_neg q];exact aN j (old hj q)
   ·simp only[if_neg q,if_neg q2];exact c.dist j l (old hj q) (old hl q2) hjl
 ·by_cases q:j=i
  ·simp only[if_pos q];exact⟨p0,n0⟩
  ·simp only[if_neg q];exact c.oP0 j (old hj q) hjf
 ·have hne:j≠i:=λq=>hfx (q▸hj);obtain⟨g1,g2⟩:=c.fxa j hj;exact⟨by rw[ats,if_neg hne];exact g1,by simp only[if_neg hne];exact g2⟩
 ·by_cases q:j=i
  ·(replace q:=vR q;subst q);rw[h4] at h6;cases h6;exact h5
  ·exact c.vk j y k h6 (old h7 q)
 ·obtain⟨g1,g2,g3,g4⟩:=c1.zs a o q;refine⟨B.keepO a o g3 g1,g2,g3,λj hj=>?_⟩;by_cases z:j=i
  ·simp only[if_pos z];exact λe=>zN o (e▸q)
  ·simp only[if_neg z];exact g4 j (old hj z)
 ·obtain⟨g1,g2⟩:=c1.ys a o q;exact⟨g1,B.keepO a o (c1.ec.own a g1) g2⟩
theorem zO.upd(c:zO H w zc n f st ρ P ad s)(hi:VS.at st i=.o)(hs:w6 (ad i) s.heap h')(ht:∃o,h'.get? (ad i)=some o/\NF o)(r:zo H w (λa=>a=ad i) P h' (.ref (ad i)) d):
  zO H w zc n f st (ρ.set i d) P ad {s with heap:=h',toks:=tk}:=by
 obtain⟨oP1,oP2,oP3⟩:=c.oP i hi;have kp:∀a o,a≠ad i->s.heap.get? a=some o->h'.get? a=some o:=λa o n e=>hs.extBut a o n e;have mP:∀a o,P a->s.heap.get? a=some o->P a/\h'.get? a=some o:=λa o p e=>⟨p,kp a o (λq=>oP1 (q▸p)) e⟩;have al:jS s.heap h':=λa o e=>by
  by_cases q:a=ad i
  ·obtain⟨o',h1,h2⟩:=ht;exact⟨o',q▸h1,λ_=>h2⟩
  ·exact⟨o,kp a o q e,id⟩
 have kO:∀a o,Aq f.env a->s.heap.get? a=some o->h'.get? a=some o:=λa o q e=>kp a o (λz=>oP2 (z▸q)) e;have hil:=c.lt hi;have gts:∀j,zq (ρ.set i d) j=if j=i then d else zq ρ j:=λj=>by
  rw[j3];by_cases q:j=i
  ·(replace q:=vR q;subst q);rw[if_pos ⟨rfl,c.len▸hil⟩,if_pos rfl]
  ·rw[if_neg (λz=>q z.1.symm),if_neg q]
 refine⟨c.ec.change mP al.nf c.ec.own c.ec.nofr (c.ec.pnew.alloc al),c.fram.keep λa o q e=>kO a o q.own e,by simp[c.len],c.nlen,λj y k h6 h7 h8=>?_,λj y k h6 h7 h8=>?_,c.oP,c.dist,c.sub,c.oP0,c.fxa,c.noX,c.fresh,c.pnew0,λa o e nx=>?_,c.os,c.gens,c.vk,λa o q=>?_,λa o q=>mP a o (c.ys a o q).1 (c.ys a o q).2,c.zf⟩
 ·have hne:j≠i:=λq=>by rw[q,hi] at h8;cases h8
  obtain⟨v,g1,g2⟩:=c.var j y k h6 h7 h8;refine⟨v,g1.move kO,?_⟩;rw[gts,if_neg hne];exact g2.move mP mP
 ·obtain⟨g1,g2⟩:=c.own j y k h6 h7 h8;refine⟨g1.move kO,?_⟩;by_cases q:j=i
  ·(replace q:=vR q;subst q);rw[gts,if_pos rfl];exact r
  ·rw[gts,if_neg q];exact g2.move (λa o t e=>⟨t,kp a o (by rw[t];exact c.dist j i h8 hi q) e⟩) mP
 ·refine kp a o (λq=>?_) (c.keep a o e nx);by_cases hf:f.fx=some i
  ·exact nx (((c.fxa i hf).2 a).mpr q)
  ·have:=(c.oP0 i hi hf).2;rw[<-q,e] at this;exact sn this
 ·obtain⟨g1,g2,g3,g4⟩:=c.zs a o q;exact⟨kp a o (g4 i hi) g1,g2,g3,g4⟩
theorem Sh(hr:zk P h vs ds)(hN:N=h.objs.size)(hz:ds.length<=zv):
  zo H w (λa=>a=N) (λa=>P a/\a≠N) (h.push {cls:=.type "list",dict:=none,data:=.seq vs.toArray}) (.ref N) (.list ds):=by
 subst hN;refine .list rfl (uX _ rfl) rfl rfl rfl ?_ hz;exact hr.move (P':=λa=>P a/\a≠h.objs.size) λa o p e=>⟨⟨p,Eu e⟩,uO _ e⟩
set_option tactic.hygienic true in
theorem OQ(X:Ec H w zc n f G cf zn F K mg mb L)(hz:es.length<=1000)(h:es.mapM (z6 40 f.cx)=some xs)(hx:f.cx.tv? x=some i)(hc:chk f.fx (.newl i (kl xs)) lp st≠.err):
  k6 H w zc n f G cf cio wf zn lp st (vH (.Assign [.Name x p] (.List es q) pos) f.env) (.newl i (kl xs)) (chk f.fx (.newl i (kl xs)) lp st):=by
 intro s ρ P ad Q E c hok hve hns;simp only[PZ] at hc hok ⊢;split at hc
 ·rename_i hh;rw[if_pos hh] at hok;simp only[uU,decide_eq_true_eq,bne_iff_ne] at hh;obtain⟨⟨⟨hh1,hh2⟩,hh3⟩,hh4⟩:=hh;simp only[WP] at hok hve hns;obtain⟨P',c'⟩:=c.frz hh2;have hzip:=Ea (st:=Mine.frz st (CU (kl xs))) (λe pe h=>X.sound h) h (DJ hh1);refine zao (wpAny_List (Bg hzip P' f.A f.fs s ρ _ E c'.ec c'.vok (λds vs s₁ hd ch r1=>?_) (λhd y s' z=>hve (by rw[hd];rfl) y s' (Bn.exf X.fs c' z)) (λhd=>hns (by rw[hd];rfl))));have hl:ds.length=es.length:=(Dh hd).trans hzip.length.symm;have hv:vs.length=ds.length:=A3.length r1;have hsm:=Ev hz;refine⟨by exact(hv.trans hl)▸hsm.2,?_⟩;rw[hd] at hok hns;simp only[R.bind_ok] at hok hns;split at hns
  ·exact absurd rfl hns
  ·rename_i hdi;rw[if_neg hdi] at hok;have c₁:=c'.ch ch;refine zO.newOwn (s₁:={s₁ with heap:=s₁.heap.push {cls:=.type "list",dict:=none,data:=.seq vs.toArray}}) (N:=s₁.heap.objs.size) (d:=.list ds) c₁ (j6 _) (Ch.of _ (zx.push _ _)) ⟨_,uX _ rfl⟩
    (Sh (Ca.repAll r1 (by simpa using hdi)) rfl (by exact hl▸hsm.1)) hx X.hnd hh4 hh3 λh' tk P'' ad' c₂=>hok .next _ .next _ rfl ⟨rfl,_,P'',ad',rfl,c₂⟩
 ·exact absurd rfl hc
set_option tactic.hygienic true in
theorem OO(X:Ec H w zc n f G cf zn F K mg mb L)(hx:f.cx.tv? x=some i)(hc:chk f.fx (.newd i) lp st≠.err):
  k6 H w zc n f G cf cio wf zn lp st (vH (.Assign [.Name x p] (.Dict [] [] q) pos) f.env) (.newd i) (chk f.fx (.newd i) lp st):=by
 intro s ρ P ad Q E c hok hve hns;simp only[PY] at hc hok ⊢;split at hc
 ·rename_i hh;rw[if_pos hh] at hok;simp only[uU,decide_eq_true_eq,bne_iff_ne] at hh;simp only[WO] at hok hve hns;have hN:(s.heap.objs.size==sysModules)=false:=by
   have h1:=(X.B.g.keeps c.ec.stays).lt;have h2:w5=3:=rfl;have h3:sysModules=1:=rfl;rw[h2] at h1;rw[h3];have:s.heap.objs.size≠1:=by intro z;rw[z] at h1;exact absurd h1 (by decide)
   exact if_neg ‹_›
  refine zao (wpAny_Dict_empty ?_);refine zO.newOwn (s₁:={s with heap:=s.heap.push {cls:=.type "dict",data:=.dict #[]}}) (N:=s.heap.objs.size) (d:=.dict []) c (j6 _) (Ch.of _ (zx.push _ _)) ⟨_,uX _ rfl⟩
   (.dict rfl ⟨hN,by trivial,.inl ⟨[],⟨_,#[],_,uX _ rfl,⟨rfl,rfl,rfl⟩,rfl,λe he=>by simp at he,.nil,by trivial⟩,.nil⟩⟩) hx X.hnd hh.2 hh.1 λh' tk P'' ad' c₂=>hok .next _ .next _ rfl ⟨rfl,_,P'',ad',rfl,c₂⟩
 ·exact absurd rfl hc
theorem zO.load{x:Str}{i:Nat}{pos:Pos}{E:Value->tX->Prop}{Q:Value->tX->Prop}(c:zO H w zc n f st ρ P ad s)(hx:f.cx.tv? x=some i)(hi:VS.at st i=.o)(h:Q (.ref (ad i)) s):
  wpAny (model H w) f.A (eval (.Name x pos) f.env) Q E s:=by
 obtain⟨_,_,_,h3⟩:=D6 hx;obtain⟨k',h4,h5,h6⟩:=AQ h3;exact kR c.ec.kind h6 (c.own i x k' h4 h5 hi).1 h
theorem zO.ownAt{x:Str}{i:Nat}(c:zO H w zc n f st ρ P ad s)(hx:f.cx.tv? x=some i)(hi:VS.at st i=.o):zo H w (λa=>a=ad i) P s.heap (.ref (ad i)) (zq ρ i):=by
 obtain⟨_,_,_,h3⟩:=D6 hx;obtain⟨k',h4,h5,h6⟩:=AQ h3;exact(c.own i x k' h4 h5 hi).2
theorem Kb{a:Addr}{h:Heap}{xs:List D}(hp:¬P a)(r:zo H w (λb=>b=a) P h (.ref a) (.list xs)):∃o vs m,h.get? a=some o/\o.cls=.type "list"/\o.dict=none/\o.data=.seq vs m/\zk P h vs.toList xs/\xs.length<=zv:=by
 cases r with
 |rep r=>cases r with|list p=>exact absurd p hp
 |list t ho hc hd hda hr hz=>exact⟨_,_,_,ho,hc,hd,hda,hr,hz⟩
theorem RW{a:Addr}{h:Heap}{kvs:List (D×D)}(r:zo H w (λb=>b=a) P h (.ref a) (.dict kvs)):zS H w P h a kvs:=by
 cases r with
 |rep r=>cases r
 |dict t r=>exact r
theorem JY(o:Obj)(g:Array Value->Array Value):(o.mapSeq g).dict=o.dict:=by
 obtain⟨c,d,dt,sl⟩:=o;cases dt<;>rfl
theorem Od{A:uY}{E:Value->tX->Prop}{l:Addr}{o:Obj}{vs:Array Value}{m:Nat}{x:Value}{Q:Value->tX->Prop}(ho:s.heap.get? l=some o)(hc:o.cls=.type "list")(hd:o.data=.seq vs m)
  (hQ:∀h' o' m',h'.get? l=some o'->o'.cls=.type "list"->o'.dict=o.dict->o'.data=.seq (vs.push x) m'->w6 l s.heap h'->Q .none {s with heap:=h'})(hsz:vs.size<=yD):
  wpAny (model H w) A (call (.builtin "list.append") [.ref l,x]) Q E s:=by
 obtain⟨n',hd'⟩:=Obj.data_mapSeq hd (·.push x);refine yE slot_list_append ⟨o,ho,hc⟩ entry_list_append ?_ (args_list_append _ _);show wpAny _ _ (updateSeq l (·.push x) >>= λ_=>ret .none) _ _ s;refine tY ?_;refine wpAny_updateSeq ho hd (uC ⟨.none,rfl,hQ _ _ n' (yI _ ho (Obj.isFreed_of_seq hd')) ((Obj.cls_mapSeq ..).trans hc) (JY _ _) hd' (xJ ..)⟩)
set_option tactic.hygienic true in
theorem SM(X:Ec H w zc n f G cf zn F K mg mb L){x:Str}{p ap q pos:Pos}{e:Expr}{pe:PE}{i:Nat}(hp:(ap.endLine==q.line)=true)(h:z6 40 f.cx e=some pe)(hx:f.cx.tv? x=some i)(hc:chk f.fx (.app i pe) lp st≠.err):
  k6 H w zc n f G cf cio wf zn lp st (vH (.Expr (.Call (.Attribute (.Name x p) (uQ "append") ap) [e] [] q) pos) f.env) (.app i pe) (chk f.fx (.app i pe) lp st):=by
 intro s ρ P ad Q E c hok hve hns;simp only[T7] at hc hok ⊢;split at hc
 ·rename_i hh;rw[if_pos hh] at hok;simp only[uU,beq_iff_eq] at hh;obtain⟨⟨hh1,hh2⟩,hh3⟩:=hh;simp only[bP] at hok hve hns;obtain⟨P',c'⟩:=c.frz hh2;cases hg:zq ρ i with
  |list xs=>
   rw[hg] at hok hve hns;simp only[DI,if_true] at hok hve hns;have r0:=c'.ownAt hx hh3;rw[hg] at r0;obtain⟨o,vs,m,ho,hcl,hdd,hda,hr,hz⟩:=Kb (c'.oP i hh3).1 r0;refine wpAny_Expr_any (Ru rfl hp (jf h) PySem.F.plainAttrs_list slot_list_append type_list_append (c'.load hx hh3 ⟨⟨o,ho,hcl⟩,λa e=>by cases e;exact⟨o,ho,hdd⟩,?_⟩)) (by unfold interactive;rw[c.ec.kind];rfl) rfl;refine Jx X h hh1 c' (λd v s' hd c₁ r=>?_) (λhd=>hve (by rw[hd];rfl)) (λhd=>hns (by rw[hd];rfl));rw[hd] at hok hve hns;simp only[R.bind_ok,TQ] at hok hve hns;split at hns
   ·exact absurd rfl hns
   ·rename_i hcond;rw[if_neg hcond] at hok;simp only[xY,decide_eq_true_eq,not_or,xB] at hcond;have r1:=c₁.ownAt hx hh3;rw[hg] at r1;obtain⟨o1,vs1,m1,ho1,hc1,hdd1,hda1,hr1,hz1⟩:=Kb (c₁.oP i hh3).1 r1;refine Od ho1 hc1 hda1 (λh' o' m' g1 g2 g3 g4 g5=>?_) (by rw[jc hr1];exact qA hz1 CH);have nP:=(c₁.oP i hh3).1;have kp:∀a o,P' a->s'.heap.get? a=some o->P' a/\h'.get? a=some o:=λa o pa e=>⟨pa,g5.extBut a o (λz=>nP (z▸pa)) e⟩;refine hok .next _ .next _ rfl ⟨rfl,_,P',ad,rfl,c₁.upd (tk:=s'.toks) hh3 g5 ⟨o',g1,λws z=>by rw[g4] at z;cases z⟩ (.list rfl g1 g2 (g3.trans hdd1) g4 ?_ (by rw[uE];exact Nat.not_le.mp hcond.2))⟩
    simpa using (hr1.move kp).append (.one ((r.toRep H w hcond.1).move kp))
  |_=>rw[hg] at hns;exact absurd rfl hns
 ·exact absurd rfl hc
theorem zS.alloc'{a:Addr}{h:Heap}{kvs:List (D×D)}(r:zS H w P h a kvs):∃o,h.get? a=some o/\NF o:=by
 obtain⟨_,_,⟨l,m,q⟩|⟨l,m,q⟩⟩:=r
 ·obtain⟨o,es,ep,ho,_,hd,_⟩:=m;exact⟨o,ho,λvs q=>by rw[hd] at q;cases q⟩
 ·obtain⟨o,es,ep,ho,_,hd,_⟩:=m;exact⟨o,ho,λvs q=>by rw[hd] at q;cases q⟩
theorem UW{h:Heap}{K:Type}{enc:K->D}{l:List (K×Value)}{kvs:List (D×D)}(r:Dx P h enc l kvs):l.length=kvs.length:=by
 induction r with
 |nil=>rfl
 |cons _ _ ih=>exact congrArg (·+1) ih
theorem UV{h:Heap}{l:List (List Int×Addr×Value)}{kvs:List (D×D)}(r:Ee P h l kvs):l.length=kvs.length:=by
 induction r with
 |nil=>rfl
 |cons _ _ _ ih=>exact congrArg (·+1) ih
theorem Dx.same{h h':Heap}{a:Addr}(nP:¬P a)(hs:w6 a h h'){K:Type}{enc:K->D}{l:List (K×Value)}{kvs:List (D×D)}(r:Dx P h enc l kvs):Dx P h' enc l kvs:=by
 induction r with
 |nil=>exact .nil
 |cons x _ ih=>exact .cons (x.move λb o p e=>⟨p,hs.extBut b o (λz=>nP (z▸p)) e⟩) ih
theorem Ee.same{h h':Heap}{a:Addr}(nP:¬P a)(hs:w6 a h h'){l:List (List Int×Addr×Value)}{kvs:List (D×D)}(r:Ee P h l kvs):Ee P h' l kvs:=by
 induction r with
 |nil=>exact .nil
 |cons p x _ ih=>exact .cons p (x.move λb o p e=>⟨p,hs.extBut b o (λz=>nP (z▸p)) e⟩) ih
theorem GU{A:uY}{E:Value->tX->Prop}{a:Addr}{kvs:List (D×D)}{k d l:D}{kv v:Value}{Q:Unit->tX->Prop}(hu:A.units+1<cLine)(nP:¬P a)(r:zS H w P s.heap a kvs)(rk:zo H w P P s.heap kv k)(rv:zo H w P P s.heap v d)
  (h:GQ (.dict kvs) k d=.ok l)(hQ:∀h' tk,w6 a s.heap h'->(∃kvs',l=.dict kvs'/\zS H w P h' a kvs')->Q () {s with heap:=h',toks:=tk}):wpAny (model H w) A (setItem (.ref a) kv v) Q E s:=by
 obtain⟨hc,h'⟩:=GM h
 (obtain rfl:=jz h';clear h')
 have hkind:=z7 hc;have hz:=of_decide_eq_true (z7 (jg hc));have hk:=jg (jg (jg hc));have rv':=rv.toRep H w (iN (z7 (jg (jg hc))));have hlen:(BI kvs k d).length<=zv:=qA Qh hz;have hz':kvs.length<=yD:=qA (qC hz) CH;clear h hc;induction k using uG with
 |int i=>
  obtain⟨t,rfl⟩:=rk.inv_int;obtain⟨l,m,q⟩:=r.int hkind;have hn:(l.map (·.1)).Nodup:=by obtain⟨_,_,_,_,_,_,_,_,hn⟩:=m;exact hn
  exact wpAny_setItem_pairs (knd:=xT H w) (k:=i) (by simp[xT,zby]) m (λh' g1 g2=>hQ h' _ g2 ⟨_,rfl,r.1,hlen,.inl ⟨_,g1,(F8 CE rv' q hn).same nP g2⟩⟩) (by rw[UW q];exact hz')
 |tuple xs=>
  obtain⟨i,j,rfl,_⟩:=Fu hk;obtain⟨kb,ok,vk,nk,rfl,pk,hok,cok,dok,rk',_⟩:=rk.inv_tuple;obtain⟨l,m,q⟩:=r.tup hkind;have hn:(l.map (·.1)).Nodup:=by obtain⟨_,_,_,_,_,_,_,_,hn⟩:=m;exact hn
  exact wpAny_setItem_heap (knd:=tupleKind (xT H w)) (k:=[i,j]) (tupleKind_room_in1 hu) (CI hok cok dok rk') m (λh' g1 g2=>hQ h' _ g2 ⟨_,rfl,r.1,hlen,.inr ⟨_,g1,(F7 (i:=i) (j:=j) pk rv' q hn).same nP g2⟩⟩) (by rw[UV q];exact hz')
 |_=>exact ff hk
theorem LF{x k d l:D}(h:GQ x k d=.ok l):∃kvs,x=.dict kvs:=by
 cases x<;>first|exact⟨_,rfl⟩|exact ns h
theorem LE{x k d:D}(h:GQ x k d=.ve):False:=by
 induction x using uG with
 |dict kvs=>exact jT B8 BC h
 |_=>exact sv h
set_option tactic.hygienic true in
theorem SR(X:Ec H w zc n f G cf zn F K mg mb L){x:Str}{p q pos:Pos}{ke ve:Expr}{pk pv:PE}{i:Nat}(hk:z6 40 f.cx ke=some pk)(hv:z6 40 f.cx ve=some pv)(hx:f.cx.tv? x=some i)(hsw:swapsWith ve (some (.Subscript (.Name x p) ke q)) pos.line f.env=pure false)
  (hc:chk f.fx (.put i pk pv) lp st≠.err):k6 H w zc n f G cf cio wf zn lp st (vH (.Assign [.Subscript (.Name x p) ke q] ve pos) f.env) (.put i pk pv) (chk f.fx (.put i pk pv) lp st):=by
 intro s ρ P ad Q E c hok hve hns;simp only[Ub] at hc hok ⊢;split at hc
 ·rename_i hh;rw[if_pos hh] at hok;simp only[uU,beq_iff_eq] at hh;obtain⟨⟨⟨hh1,hh2⟩,hh3⟩,hh4⟩:=hh;simp only[bS] at hok hve hns;obtain⟨P',c'⟩:=c.frz hh3;refine wpAny_Assign_Subscript (Jx X hv hh1 c' (λd v s₁ hd c₁ r=>?_) (λhd=>hve (by rw[hd];rfl)) (λhd=>hns (by rw[hd];rfl))) hsw;rw[hd] at hok hve hns;refine c₁.load hx hh4 ?_;have key:=(X.sound hk (Mine.frz st (jD false pv++jD false pk))).1 false hh2 P' f.A f.fs s₁ ρ;refine key _ E c₁.ec c₁.vok (λdk kv s₂ hdk ch rk=>?_) (λhdk y s' z=>hve (by rw[hdk];rfl) y s' (Bn.exf X.fs c₁ z)) (λhdk=>hns (by rw[hdk];rfl));have c₂:=c₁.ch ch;rw[hdk] at hok hve hns;simp only[R.bind_ok] at hok hve hns;cases hp:GQ (zq ρ i) dk d with
  |stuck=>rw[hp] at hns;exact absurd rfl hns
  |ve=>exact(LE hp).elim
  |ok l=>
   rw[hp] at hok;obtain⟨kvs,hg⟩:=LF hp;have r1:=c₂.ownAt hx hh4;rw[hg] at r1 hp;refine GU (qB (uR (uV _ _) (by decide)) c₂.ec.units) (c₂.oP i hh4).1 (RW r1) rk (r.keep H w ch.keep) hp λh' tk g1 g2=>?_;obtain⟨kvs',rfl,g2⟩:=g2;exact hok .next _ .next _ rfl ⟨rfl,_,P',ad,rfl,c₂.upd hh4 g1 g2.alloc' (.dict rfl g2)⟩
 ·exact absurd rfl hc
set_option tactic.hygienic true in
theorem IM(X:Ec H w zc n f G cf zn F K mg mb L)(ht:B7 f.cx (.Name y py)=some tg)(h:z6 (fu+1) f.cx (.ListComp elt gens scope cpos)=some pe)
  (hs:zbb [.Name y py] (.ListComp elt gens scope cpos) pos.line f.env=pure true)(hc:chk f.fx (.assign tg pe) lp st≠.err):
  k6 H w zc n f G cf cio wf zn lp st (vH (.Assign [.Name y py] (.ListComp elt gens scope cpos) pos) f.env) (.assign tg pe) (chk f.fx (.assign tg pe) lp st):=by
 intro s ρ P ad Q E c hok hve hns;simp only[FU] at hc hok ⊢;split at hc
 ·rename_i hh;rw[if_pos hh] at hok;simp only[uU] at hh;simp only[EH] at hok hve hns;obtain⟨P',c'⟩:=c.frz hh.1.2;have hl:=hh.1.1;cases M9 h with|@comp _ t it ifs r _ _ q caps tg' g hsc h1 h2 h3 h4=>
  ·clear h;have hl:=And.intro (jg hl) (z7 hl);obtain⟨i1,i2⟩:=CF X.B X.hL (λe pe h=>X.sound h) h1 hl.1;have hsc':=hsc;simp only[BP,uU,beq_iff_eq,decide_eq_true_eq,uF,bne_iff_ne] at hsc';rw[exec_Assign];refine tY (wH ?_);rw[hs];refine tY (uC ?_);rw[if_pos rfl];refine tY ?_;show wpAny _ _ (do let _ <-comprehension _ scope f.env _ (newList []) false (eval it f.env) (some λv=>assignAll v ((zax [.Name y py] f.env).map (·.2)))) _ _ _;refine tY ?_;refine Hb (cx:=f.cx) (elt:=elt) (target:=t) (iter:=it) (ifs:=ifs) (rest:=r) (scope:=scope) (pos:=cpos) (caps:=caps) (rg:=q.1) (it:=q.2) (t:=tg') (g:=g) (st:=Mine.frz st (jD false (.comp caps q.1 q.2 tg' g))) (fs:=f.fs) (P:=P') (ρ:=ρ) X.hL i1 i2 h2 hsc h3 ?_ c'.ec c'.vok ?_ ?_
   rotate_left 2
   ·intro hd;exact hns (by rw[hd];rfl)
   ·intro cl C' L' hcl1 hcl2;have hL':CY {f.cx with names:=scope.names} (xP scope cl C' f.env):=JV X.hL h2 hsc'.1.2 hcl2;exact JC X.B hL' hsc'.2 (λe pe h=>Rs X.B X.hG X.C fu {f.cx with names:=scope.names} (xP scope cl C' f.env) e pe X.hF X.hC hL' h) r ifs _ g 0 rfl h4 hl.2
   ·intro d v C s₂ hd ch nC hm rv;rw[hd] at hok hve hns;simp only[R.bind_ok] at hok hve hns;obtain⟨m,hm⟩:=hm;have pC:P' C:=c'.ec.pnew C nC;have oC:¬Aq f.env C:=c'.ec.own C pC;have fC:C∉Bl f.fs:=c'.ec.nofr C pC;have n0:=c'.new0 nC;have p0:f.P₀ C:=c'.pnew0 C n0;have ne:∀a o,s.heap.get? a=some o->a≠C:=λa o e z=>by rw[z,nC] at e;exact nn e
    have aC:∀j,VS.at (Mine.frz st (jD false (.comp caps q.1 q.2 tg' g))) j=.o->ad j≠C:=λj hj=>let ⟨o,ho,_⟩:=c'.there hj;ne _ o ho;have zC:∀o,¬f.Z C o:=λo z=>by have:=(c'.zs C o z).1;rw[nC] at this;exact nn this
    have c1:zO H w zc n f _ ρ (λa=>P' a/\a≠C) ad s₂:=c'.iter (I:=C) (λa o p e=>⟨⟨p,ne a o e⟩,ch.keep a o e⟩) (λa o _ e=>ch.keep a o e) (jS.of_keep ch.keep).nf
     (λa e=>⟨(c'.ec.pnew.keep ch.keep) a e,λz=>by obtain⟨o,ho,_⟩:=RE hm;rw[z,ho] at e;exact sn e⟩) (λa p=>.inl p.1) p0 oC aC n0 fC zC ch.os ch.gens
    show wpAny _ _ (assign (.Name y py) f.env v) _ _ _;cases hb:jy ρ tg d with
    |stuck=>rw[hb] at hns;exact absurd rfl hns
    |ve=>exact absurd hb A9
    |ok ρ'=>
     rw[hb] at hok;have ofo:∀{i},VS.at (jv (Mine.frz st (jD false (.comp caps q.1 q.2 tg' g))) tg) i=.o->VS.at (Mine.frz st (jD false (.comp caps q.1 q.2 tg' g))) i=.o:=λ{i} z=>by
      rcases Fi (t:=tg) (st:=Mine.frz st (jD false (.comp caps q.1 q.2 tg' g))) (i:=i) with e|e
      ·rw[<-e];exact z
      ·rw[e] at z;cases z
     refine c1.assign ht hb X.hnd hh.2 (.rep rv) λh' tk c₂ B=>?_;refine⟨m,hm.at' λo e=>B.keepO C o oC e,λh'' hs''=>uC (uC (hok .next ρ' .next _ rfl ⟨rfl,_,(λa=>(P' a/\a≠C)\/a=C),ad,rfl,?_⟩))⟩;refine c₂.iter' (I:=C) (s':={s₂ with heap:=h'',toks:=tk}) (λa o p e=>⟨.inl p,hs''.extBut a o p.2 e⟩) (λa o z e=>hs''.extBut a o z e) (λa ha o e nf=>⟨o,hs''.extBut a o (λz=>fC (z▸ha)) e,nf⟩) (λa e=>?_) (λa p=>p) p0 oC (λi hi=>aC i (ofo hi)) n0 fC zC rfl id;by_cases z:a=C
     ·exact .inr z
     ·refine .inl (c₂.ec.pnew a ?_);cases z2:h'.get? a with
      |none=>rfl
      |some o=>rw[show({s₂ with heap:=h'',toks:=tk}:tX).heap.get? a=some o from hs''.extBut a o z z2] at e;exact sn e
 ·exact absurd rfl hc
end
structure qW(X:Addr)(s s':tX):Prop where
 keep:∀a o,a≠X->s.heap.get? a=some o->s'.heap.get? a=some o
 alloc:jS s.heap s'.heap
 os:s'.os=s.os
 gens:vT s.gens->vT s'.gens
def Eb(H:uP)(w:World)(F:List zL)(mg:Str->Option Value)(zc:Heap)(cio:Nat->List D->R D)(n:Nat):Prop:=
 ∀(i:Nat) (fi:zL) (fa:Addr),F[i]?=some fi->mg fi.name=some (.ref fa)->∀(P:Addr->Prop) (A:uY) (fs:List Env) (env:Env) (s:tX) (vs:List Value) (ds:List D) (X:Addr) (d0 d':D) (Q E:Value->tX->Prop),
  EC zc P A fs n env s.heap->Ca H w P s.heap vs ds->¬P X->¬Aq env X->X∉Bl fs->(∃o,s.heap.get? X=some o/\NF o)->zo H w (λa=>a=X) P s.heap (.ref X) d0->cio i (ds++[d0])=.ok d'->
  (∀v s',qW X s s'->zo H w (λa=>a=X) P s'.heap (.ref X) d'->Q v s')->wpAny (model H w) A (call (.ref fa) (vs++[.ref X])) Q E s
section
variable{H:uP}{w:World}{zc:Heap}{n:Nat}{f:CX}{G:List D}{cf cio:Nat->List D->R D}{wf:Nat}{zn:List Env}{F:List zL}{K:List (Str×D)}{mg mb:Str->Option Value}{L:Addr}
 {lp:Option (List VS)}{st:List VS}{ρ:zg}{P:Addr->Prop}{ad:Nat->Addr}{s s':tX}
theorem zO.updX(c:zO H w zc n f st ρ P ad s)(hi:VS.at st i=.o)(x:qW (ad i) s s')(r:zo H w (λa=>a=ad i) P s'.heap (.ref (ad i)) d):
  zO H w zc n f st (ρ.set i d) P ad s':=by
 obtain⟨oP1,oP2,oP3⟩:=c.oP i hi;have kp:=x.keep;have mP:∀a o,P a->s.heap.get? a=some o->P a/\s'.heap.get? a=some o:=λa o p e=>⟨p,kp a o (λq=>oP1 (q▸p)) e⟩;have kO:∀a o,Aq f.env a->s.heap.get? a=some o->s'.heap.get? a=some o:=λa o q e=>kp a o (λz=>oP2 (z▸q)) e;have hil:=c.lt hi;have gts:∀j,zq (ρ.set i d) j=if j=i then d else zq ρ j:=λj=>by
  rw[j3];by_cases q:j=i
  ·(replace q:=vR q;subst q);rw[if_pos ⟨rfl,c.len▸hil⟩,if_pos rfl]
  ·rw[if_neg (λz=>q z.1.symm),if_neg q]
 refine⟨c.ec.change mP x.alloc.nf c.ec.own c.ec.nofr (c.ec.pnew.alloc x.alloc),c.fram.keep λa o q e=>kO a o q.own e,by simp[c.len],c.nlen,λj y k h6 h7 h8=>?_,λj y k h6 h7 h8=>?_,c.oP,c.dist,c.sub,c.oP0,c.fxa,c.noX,c.fresh,c.pnew0,λa o e nx=>?_,x.os.trans c.os,λg=>x.gens (c.gens g),c.vk,λa o q=>?_,λa o q=>mP a o (c.ys a o q).1 (c.ys a o q).2,c.zf⟩
 ·have hne:j≠i:=λq=>by rw[q,hi] at h8;cases h8
  obtain⟨v,g1,g2⟩:=c.var j y k h6 h7 h8;refine⟨v,g1.move kO,?_⟩;rw[gts,if_neg hne];exact g2.move mP mP
 ·obtain⟨g1,g2⟩:=c.own j y k h6 h7 h8;refine⟨g1.move kO,?_⟩;by_cases q:j=i
  ·(replace q:=vR q;subst q);rw[gts,if_pos rfl];exact r
  ·rw[gts,if_neg q];exact g2.move (λa o t e=>⟨t,kp a o (by rw[t];exact c.dist j i h8 hi q) e⟩) mP
 ·refine kp a o (λq=>?_) (c.keep a o e nx);by_cases hf:f.fx=some i
  ·exact nx (((c.fxa i hf).2 a).mpr q)
  ·have:=(c.oP0 i hi hf).2;rw[<-q,e] at this;exact sn this
 ·obtain⟨g1,g2,g3,g4⟩:=c.zs a o q;exact⟨kp a o (g4 i hi) g1,g2,g3,g4⟩
theorem IN(hx:f.cx.tv? x=some i)(hi:VS.at st i=.o)
  {as:List Expr}{es:List PE}(z:A3 (bZ H w zc G cf n f.cx.names st f.env) as es):∀{s:tX} {Q:List Value->tX->Prop},zO H w zc n f st ρ P ad s->
   (∀ds vs s',evs G cf (kl es) ρ=.ok ds->Ch s s'->zO H w zc n f st ρ P ad s'->Ca H w P s'.heap vs ds->Q (vs++[.ref (ad i)]) s')->
   (evs G cf (kl es) ρ=.ve->∀x s',Bn f.fs s x s'->E x s')->evs G cf (kl es) ρ≠.stuck->wpAny (model H w) f.A (spliced (backTo pos (zal (as++[.Name x p]) f.env))) Q E s:=by
 induction z with
 |nil=>
  intro s Q c hok _ _;rw[y2,zD (λ_ _ z=>by cases z)];exact xL (c.load hx hi (zak (hok [] [] s rfl (Ch.refl s) c .nil)))
 |cons h1 r ih=>
  intro s Q c hok hve hns;rw[xN,zD h1.1];simp only[kl,IW] at hok hve hns;refine xL (h1.2 P f.A f.fs s ρ _ E c.ec c.vok (λd v s₁ hd c1 r1=>?_) (λhd=>hve (by rw[hd];rfl)) (λhd=>hns (by rw[hd];rfl)));rw[hd] at hok hve hns;refine ih (c.ch c1) (λds vs s₂ hds c2 cc r2=>?_) (λhds x s' he=>hve (by rw[hds];rfl) x s' (he.after c1)) (λhds=>hns (by rw[hds];rfl));exact hok (d::ds) (v::vs) s₂ (by rw[hds];rfl) (c1.trans c2) cc (.cons (r1.keep H w c2.keep) r2)
set_option tactic.hygienic true in
theorem V9(X:Ec H w zc n f G cf zn F K mg mb L)(IO:Eb H w F mg zc cio n)(hj:f.cx.fun? fn=some j)(hinit:args.dropLast.mapM (z6 40 f.cx)=some es)(hlast:args.getLast?=some (.Name x p))(hx:f.cx.tv? x=some i)
  (hc:chk f.fx (.io j (kl es) i) lp st≠.err):k6 H w zc n f G cf cio wf zn lp st (vH (.Expr (.Call (.Name fn np) args [] q) pos) f.env) (.io j (kl es) i) (chk f.fx (.io j (kl es) i) lp st):=by
 intro s ρ P ad Q E c hok hve hns;simp only[Yy] at hc hok ⊢;split at hc
 ·rename_i hh;rw[if_pos hh] at hok;simp only[uU,beq_iff_eq] at hh;obtain⟨⟨hh1,hh2⟩,hh3⟩:=hh;simp only[mI] at hok hve hns;obtain⟨P',c'⟩:=c.frz hh2;have hzip:=Ea (st:=Mine.frz st (CU (kl es))) (λe pe h=>X.sound h) hinit (DJ hh1);have hargs:args=args.dropLast++[.Name x p]:=by
   have hne:args≠[]:=λz=>by rw[z] at hlast;exact nn hlast
   rw[List.getLast?_eq_some_getLast hne] at hlast;have:=List.dropLast_concat_getLast hne;rw[wZ hlast] at this;exact this.symm
  obtain⟨hg1,hg2,hxf⟩:=Hl hj;rw[X.hF,v6] at hxf;cases hfi:F[j]? with
  |none=>rw[hfi] at hxf;exact nn hxf
  |some fi=>
   rw[hfi] at hxf;have e:fi.name=fn:=by simpa using hxf
   obtain⟨fa,o,pm,cd,doc,hm,ho,hdat,hcd⟩:=X.B.fn j fi hfi;refine wpAny_Expr_any ?_ (by unfold interactive;rw[c.ec.kind];rfl) rfl;show wpAny (model H w) f.A (do callWith q (<-eval (.Name fn np) f.env) [] (backTo q (zal args f.env)) (backToKw q (keywordEach [] f.env))) _ E s;refine tY (X.B.load c'.ec.stays c'.ec.kind c'.ec.globals (X.hL.glob fn hg1) hg2 (by rw[<-e];exact hm) ?_);have main:wpAny (model H w) f.A (spliced (backTo q (zal (args.dropLast++[.Name x p]) f.env))) (λvs s₁=>s₁.heap.get? fa=some o/\wpAny (model H w) f.A (call (.ref fa) vs) (λ_=>Q .next) E s₁) E s:=by
    refine IN hx hh3 hzip c' (λds vs s₁ hds ch c₁ r1=>⟨c₁.ec.stays _ _ ho,?_⟩) (λhds y s₁ z=>hve (by rw[hds];rfl) y s₁ (Bn.exf X.fs c' z)) (λhds=>hns (by rw[hds];rfl));rw[hds] at hok hve hns;simp only[R.bind_ok] at hok hve hns;cases hio:cio j (ds++[zq ρ i]) with
    |stuck=>rw[hio] at hns;exact absurd rfl hns
    |ve=>rw[hio] at hns;exact absurd rfl hns
    |ok d'=>
     rw[hio] at hok;obtain⟨g1,g2,g3⟩:=c₁.oP i hh3;refine IO j fi fa hfi hm P' f.A f.fs f.env s₁ vs ds (ad i) (zq ρ i) d' _ E c₁.ec r1 g1 g2 g3 (c₁.there hh3) (c₁.ownAt hx hh3) hio λv s₂ hch r2=>?_;exact hok .next _ .next s₂ rfl ⟨rfl,_,P',ad,rfl,c₁.updX hh3 hch r2⟩
   rw[<-hargs] at main;induction args using uB with
   |nil=>exact nn hlast
   |cons a as=>
    have hst:zK a:=by
     induction as using uB with
     |nil=>simp at hlast;subst hlast;exact λ_ _ z=>by cases z
     |cons b bs=>
      have h1:(a::(b::bs).dropLast).mapM (z6 40 f.cx)=some es:=hinit;rw[List.mapM_cons] at h1;cases h2:z6 40 f.cx a with
      |none=>rw[h2] at h1;exact nn h1
      |some pe=>exact jf h2
    exact callWith_def_at (h':=zc) ho hdat main (zD hst)
 ·exact absurd rfl hc
theorem Gq{h h':Heap}{c:Addr}{o:Option Value}(x:h.UpToSlots h')(hc:h.IsCell c o):h'.IsCell c o:=by
 obtain⟨ob,h1,h2⟩:=hc;obtain⟨sl,h3⟩:=x c ob h1 λvs q=>by rw[h2] at q;cases q
 exact⟨_,h3,h2⟩
theorem zz.slots{env:Env}{h h':Heap}{x:Str}{v:Value}(r:zz env h x v)(k:h.UpToSlots h'):zz env h' x v:=by
 induction r using zz.casesOn with
 |loc m a b c=>exact .loc m a (k.ns b) c
 |cell c a b d=>exact .cell c a b (Gq k d)
theorem zO.caught{B:Heap}(c:zO H w zc n f st ρ P ad s)(hfr:∀a∈Bl f.fs,f.s₀.heap.get? a=none)(hB:∀a o,s.heap.get? a=some o->a∉Bl f.fs->B.get? a=some o)(hs:B.StaysIn s'.heap)(hsl:s.heap.UpToSlots s'.heap)(os:s'.os=s.os)(gn:vT s.gens->vT s'.gens):
  zO H w zc n f st ρ P ad s':=by
 have kp:∀a o,a∉Bl f.fs->s.heap.get? a=some o->s'.heap.get? a=some o:=λa o nf e=>hs a o (hB a o e nf);have mP:∀a o,P a->s.heap.get? a=some o->P a/\s'.heap.get? a=some o:=λa o p e=>⟨p,kp a o (c.ec.nofr a p) e⟩;have al:∀a o,s.heap.get? a=some o->∃o',s'.heap.get? a=some o':=λa o e=>by
  by_cases q:a∈Bl f.fs
  ·obtain⟨_,o',h1,h2⟩:=c.ec.funs.mem q;obtain⟨sl,h3⟩:=hsl a o' h1 h2;exact⟨_,h3⟩
  ·exact⟨o,kp a o q e⟩
 refine⟨c.ec.change' mP (λa ha o e nf=>?_) c.ec.own c.ec.nofr (λa e=>c.ec.pnew a ?_),?_,c.len,c.nlen,λi y k h1 h2 h3=>?_,λi y k h1 h2 h3=>?_,c.oP,c.dist,c.sub,c.oP0,c.fxa,c.noX,c.fresh,c.pnew0,λa o e nx=>?_,os.trans c.os,λg=>gn (c.gens g),c.vk,λa o q=>?_,λa o q=>mP a o (c.ys a o q).1 (c.ys a o q).2,c.zf⟩
 ·obtain⟨sl,h3⟩:=hsl a o e nf;exact⟨_,h3,nf⟩
 ·cases q:s.heap.get? a with
  |none=>rfl
  |some o=>obtain⟨o',h1⟩:=al a o q;rw[h1] at e;exact sn e
 ·exact {c.fram with
   ns:=let ⟨m,hm⟩:=c.fram.ns;⟨m,hsl.ns hm⟩
   cell:=λx hx=>by
    obtain⟨h1,cc,o,h2,h3⟩:=c.fram.cell x hx;exact⟨h1,cc,o,h2,Gq hsl h3⟩}
 ·obtain⟨v,g1,g2⟩:=c.var i y k h1 h2 h3;exact⟨v,g1.slots hsl,g2.move mP mP⟩
 ·obtain⟨g1,g2⟩:=c.own i y k h1 h2 h3;exact⟨g1.slots hsl,g2.move (λa o t e=>⟨t,kp a o (by rw[t];exact(c.oP i h3).2.2) e⟩) mP⟩
 ·exact kp a o (λq=>by rw[hfr a q] at e;exact nn e) (c.keep a o e nx)
 ·obtain⟨g1,g2⟩:=c.zs a o q;exact⟨kp a o (c.zf a o q) g1,g2⟩
theorem Rj{A:uY}{env:Env}{cst:Const}{l:No}{kk:Nat}{k:Pos}{Q E:Value->tX->Prop}(hl:JT cst=some l)(h:∀v tk,jG P s.heap v l.d->Q v {s with toks:=tk}):wpAny (model H w) A (eval (.Constant cst kk k) env) Q E s:=by
 induction cst using Const.casesOn with
 |none=>cases zP hl;exact wpAny_Constant_none (h _ s.toks .none)
 |bool=>cases zP hl;exact wpAny_Constant_bool (h _ s.toks (.bool _))
 |int=>cases zP hl;exact zaT (h _ _ (.int _ _))
 |str=>
  obtain⟨hc,hl⟩:=Ci hl;cases zP hl;exact wpAny_Constant_str (h _ _ (.str _ _ (jg hc) (of_decide_eq_true (z7 hc))))
 |_=>exact nn hl
theorem Y7(X:Ec H w zc n f G cf zn F K mg mb L){xn y:Str}{np p k hp:Pos}{kk:Nat}{cst:Const}{l:No}{i:Nat}{spos:Pos}{x:Value}{Q:Flow->tX->Prop}{E:Value->tX->Prop}(c:zO H w zc n f st ρ P ad s)(hfr:∀a∈Bl f.fs,f.s₀.heap.get? a=none)
  (hxn:f.cx.isB xn "ValueError"=true)(hy:f.cx.tv? y=some i)(hl:JT cst=some l)(hfx:jP f.fx (st.set i .f)=true)(h:Bn f.fs s x s')
  (hok:∀s₂,(∃P' ad',zO H w zc n f (st.set i .f) (ρ.set i l.d) P' ad' s₂)->Q .next s₂):
  wpAny (model H w) f.A (noteFrame x f.env) (λ_ s₂=>wpAny (model H w) f.A (setFlight x none) (λ_ s₃=>wpAny (model H w) f.A (handleBy x f.env [.ExceptHandler (some (.Name xn np)) none [.Assign [.Name y p] (.Constant cst kk k) spos] hp]) Q E s₃) E s₂) E s':=by
 obtain⟨e,B,a0,rfl,h1,h2,h3,h4,h5⟩:=h;have hfs:=X.fs;rw[hfs] at h2;refine wpAny_looks_onW (hfs▸c.ec.frames) X.fr h2 λha hha hsa=>?_;refine wpAny_landsW hha λhb hhb hsb=>?_;obtain⟨g1,g2,rfl⟩:=Bv hxn;have hk:f.env.scope.kind=.function:=c.ec.kind;have cb:zO H w zc n f st ρ P ad {s' with heap:=hb}:=c.caught (s':={s' with heap:=hb}) hfr h1 hhb.1 ((h3.trans hsa).trans hsb) h4 h5;obtain⟨ob,hob,hobc⟩:=hhb.there;refine wpAny_handleBy_builtin (X:="ValueError") (T:="ValueError") (b:=true) (by rw[isSubtype_type];kernel_rfl) (by rw[isSubtype_type];kernel_rfl) (by rw[isSubtype_type];kernel_rfl)
  (X.B.loadB (s:={s' with heap:=hb}) cb.ec.stays hk c.ec.globals c.ec.builtins (X.hL.glob _ g1) g2 Rx L9 ⟨rfl,⟨ob,hob,hobc⟩,?_⟩)
 refine lands_againW hhb λhc hhc hsc=>?_;have cc:zO H w zc n f st ρ P ad {s' with heap:=hc}:=c.caught (s':={s' with heap:=hc}) hfr h1 hhc.1 (((h3.trans hsa).trans hsb).trans hsc) h4 h5;show wpAny (model H w) (f.A.mark (some (.ref e))) (do match <-vH (.Assign [.Name y p] (.Constant cst kk k) spos) f.env with|.next=>execs [] f.env|f=>pure f) _ _ _;refine tY (zao (Rj (P:=P) hl λv tk rv=>?_));have c5:zO H w zc n f st ρ P ad {s' with heap:=hc,toks:=tk}:=cc.ch (s':={s' with heap:=hc,toks:=tk}) ⟨zx.refl _,rfl,id⟩;exact c5.store hy X.hnd hfx (.rep rv) λh' tk' c6=>uC (hok _ ⟨P,ad,c6⟩)
set_option tactic.hygienic true in
theorem Kt(X:Ec H w zc n f G cf zn F K mg mb L){t e:Expr}{tg:Tg}{pe:PE}{epos tpos:Pos}{xn y:Str}{np p k hp:Pos}{kk:Nat}{cst:Const}{l:No}{i:Nat}{spos:Pos}(hfr:∀a∈Bl f.fs,f.s₀.heap.get? a=none)
  (ht:B7 f.cx t=some tg)(h:z6 40 f.cx e=some pe)(hs:zbb [t] e epos.line f.env=pure false)(hw:swappedStores [t] e f.env=pure none)(hns':zK t)(hxn:f.cx.isB xn "ValueError"=true)(hy:f.cx.tv? y=some i)(hl:JT cst=some l)(hc:chk f.fx (.tryv (.assign tg pe) i l) lp st≠.err):
  k6 H w zc n f G cf cio wf zn lp st (vH (.Try [.Assign [t] e epos] [.ExceptHandler (some (.Name xn np)) none [.Assign [.Name y p] (.Constant cst kk k) spos] hp] [] [] tpos) f.env) (.tryv (.assign tg pe) i l) (chk f.fx (.tryv (.assign tg pe) i l) lp st):=by
 intro s ρ P ad Q E c hok hve hns;simp only[P4] at hc hok ⊢;split at hc
 ·rename_i hh;rw[if_pos hh] at hok;simp only[uU] at hh;obtain⟨⟨⟨hh1,hh2⟩,hh4⟩,hh3⟩:=hh;simp only[I0,EH] at hok hve hns;obtain⟨P',c'⟩:=c.frz hh2;refine wpAny_Try_except ?_;show wpAny (model H w) f.A (do match <-vH (.Assign [t] e epos) f.env with|.next=>execs [] f.env|f=>pure f) _ _ _;refine tY (wpAny_Assign_stores ((X.sound h _).1 false hh1 P' f.A f.fs s ρ _ _ c'.ec c'.vok (λd v s' hd ch r=>?_) (λhd y' s' z=>?_) (λhd=>hns (by rw[hd];rfl))) hs hw)
  ·rw[hd] at hok hns;simp only[R.bind_ok] at hok hns;rw[Cd hns'];show wpAny _ _ (assign t f.env v) _ _ _;cases hb:jy ρ tg d with
   |stuck=>rw[hb] at hns;exact absurd rfl hns
   |ve=>exact absurd hb A9
   |ok ρ'=>
    rw[hb] at hok;exact(c'.ch ch).assign ht hb X.hnd hh4 r λh' tk c₂ _=>uC (uC (hok .next ρ' .next _ rfl (Ef.joinl ⟨rfl,_,P',ad,rfl,c₂⟩ hc)))
  ·rw[hd] at hok;exact Y7 X c' hfr hxn hy hl hh3 z λs₂ ⟨P₂,ad₂,c₂⟩=>hok .next (ρ.set i l.d) .next s₂ rfl (Ef.joinr ⟨rfl,_,P₂,ad₂,rfl,c₂⟩ hc)
 ·exact absurd rfl hc
end
inductive TS(n:Nat)(cx:Cx):Stmt->PS->Prop
 |app{x:Str}{e:Expr}{p1 ap p pos:Pos}{i:Nat}{a:PE}(hp:(ap.endLine==p.line)=true)(h1:cx.tv? x=some i)(h2:z6 40 cx e=some a):TS n cx (.Expr (.Call (.Attribute (.Name x p1) ("append" : Str) ap) [e] [] p) pos) (.app i a)
 |io{f x:Str}{p p1 q pos:Pos}{args:List Expr}{i v:Nat}{es:List PE}(h1:cx.fun? f=some i)(h2:args.dropLast.mapM (z6 40 cx)=some es)(hl:args.getLast?=some (.Name x p1))(h3:cx.tv? x=some v):TS n cx (.Expr (.Call (.Name f p) args [] q) pos) (.io i (kl es) v)
 |exp{f:Str}{p q pos:Pos}{args:List Expr}{a:PE}(h1:z6 40 cx (.Call (.Name f p) args [] q)=some a):TS n cx (.Expr (.Call (.Name f p) args [] q) pos) (.exp a)
 |newl{x:Str}{p p1 pos:Pos}{es:List Expr}{xs:List PE}{i:Nat}(hz:es.length<=1000)(h1:es.mapM (z6 40 cx)=some xs)(h2:cx.tv? x=some i):TS n cx (.Assign [.Name x p] (.List es p1) pos) (.newl i (kl xs))
 |newd{x:Str}{p p1 pos:Pos}{i:Nat}(h2:cx.tv? x=some i):TS n cx (.Assign [.Name x p] (.Dict [] [] p1) pos) (.newd i)
 |put{x:Str}{k v:Expr}{p p1 pos:Pos}{i:Nat}{a b:PE}(h1:cx.tv? x=some i)(h2:z6 40 cx k=some a)(h3:z6 40 cx v=some b):TS n cx (.Assign [.Subscript (.Name x p) k p1] v pos) (.put i a b)
 |asg{t v:Expr}{pos:Pos}{tg:Tg}{a:PE}(hnt:∀ts a b vs c d,t=.Tuple ts a b->v=.Tuple vs c d->False)(h1:B7 cx t=some tg)(h2:z6 40 cx v=some a):TS n cx (.Assign [t] v pos) (.assign tg a)
 |ifs{c:Expr}{x y:List Stmt}{pos:Pos}{a:PE}{u v:List PS}(h1:z6 40 cx c=some a)(h2:x.mapM (LY n cx)=some u)(h3:y.mapM (LY n cx)=some v):TS n cx (.If c x y pos) (.ifs a (kJ u) (kJ v))
 |whil{c:Expr}{x:List Stmt}{pos:Pos}{a:PE}{u:List PS}(h1:z6 40 cx c=some a)(h2:x.mapM (LY n cx)=some u):TS n cx (.While c x [] pos) (.whil a (kJ u))
 |forr{t it:Expr}{x:List Stmt}{pos:Pos}{tg:Tg}{q:Bool×PE}{u:List PS}(h1:B7 cx t=some tg)(h2:Xu (z6 40) cx it=some q)(h3:x.mapM (LY n cx)=some u):TS n cx (.For t it x [] pos) (.forr tg q.1 q.2 (kJ u))
 |ret{e:Expr}{pos:Pos}{a:PE}(h1:z6 40 cx e=some a):TS n cx (.Return (some e) pos) (.ret a)
 |raise{x s:Str}{p p1 p2 pos:Pos}{k:Nat}(hx:cx.isB x "ValueError"=true):TS n cx (.Raise (some (.Call (.Name x p) [.Constant (.str s) k p1] [] p2)) none pos) .raise
 |brk{pos:Pos}:TS n cx (.Break pos) .brk
 |cont{pos:Pos}:TS n cx (.Continue pos) .cont
 |tryA{f x y z:Str}{p q p0 p1 p2 p3 p4 p5 p6 pos:Pos}{k:Nat}{args:List Expr}{a:PE}{i j:Nat}{c:Const}{l:No}(hx:cx.isB x "ValueError"=true)(h5:cx.tv? z=some j)(h4:z6 40 cx (.Call (.Name f p) args [] q)=some a)(h2:cx.tv? y=some i)(h3:JT c=some l):
   TS n cx (.Try [.Assign [.Name z p0] (.Call (.Name f p) args [] q) p1] [.ExceptHandler (some (.Name x p2)) none [.Assign [.Name y p3] (.Constant c k p4) p5] p6] [] [] pos) (.tryv (.assign (.one j) a) i l)
section
variable{n:Nat}{cx:Cx}{ps:PS}
theorem Qo(h:Xc cx f p args q=some ps):TS n cx (.Expr (.Call (.Name f p) args [] q) pos) ps:=by
 rcases O9 h with⟨_,h⟩|⟨_,h⟩
 ·replace h:=ob h;obtain⟨i,h1,h⟩:=h;replace h:=ob h;obtain⟨es,h2,h⟩:=h;replace h:=ob h;obtain⟨l,h3,h⟩:=h;replace h:=ob h;obtain⟨x,h4,h⟩:=h;replace h:=ob h;obtain⟨v,h5,h⟩:=h
  (obtain rfl:=zP h;clear h);cases kD h4;exact .io h1 h2 h3 h5
 ·replace h:=ob h;obtain⟨a,h1,h⟩:=h
  (obtain rfl:=zP h;clear h);exact .exp h1
theorem NQ{f:Expr}{args:List Expr}{q pos:Pos}(h:Qp cx args q f=some ps):TS n cx (.Expr (.Call f args [] q) pos) ps:=by
 induction f using v4 with
 |Attribute o m ap=>
  replace h:=Ci h;obtain⟨hc,h⟩:=h;replace h:=ob h;obtain⟨x,h1,h⟩:=h;replace h:=ob h;obtain⟨e,h2,h⟩:=h;replace h:=ob h;obtain⟨i,h3,h⟩:=h;replace h:=ob h;obtain⟨a,h4,h⟩:=h
  (obtain rfl:=zP h;clear h);cases kD h1;cases kU h2;cases EA (jg hc)
  exact .app (z7 hc) h3 h4
 |Name f p=>exact Qo h
 |_=>exact nn h
theorem Tf(h:Wv v=none)(e:v=.Tuple vs c d):False:=by subst e;exact sn h
theorem TU{t v:Expr}{pos:Pos}(h:dX cx t v=some ps):TS n cx (.Assign [t] v pos) ps:=by
 induction t using v4 with
 |Name x p=>
  replace h:=ob h;obtain⟨i,h1,h⟩:=h;cases hv:ZA v with
  |some es=>
   rw[hv] at h;replace h:=Ci h;obtain⟨hz,h⟩:=h;replace h:=ob h;obtain⟨xs,h2,h⟩:=h
   (obtain rfl:=zP h;clear h);cases U5 hv;exact .newl hz h2 h1
  |none=>
   rw[hv] at h;rcases O9 h with⟨h2,h⟩|⟨_,h⟩
   ·(obtain rfl:=zP h;clear h);cases YE h2;exact .newd h1
   ·replace h:=ob h;obtain⟨a,h2,h⟩:=h
    (obtain rfl:=zP h;clear h);exact .asg (λ_ _ _ _ _ _ e _=>nomatch e) (by show(cx.tv? x).bind _=_;rw[h1];rfl) h2
 |Subscript o k p=>
  replace h:=ob h;obtain⟨x,h1,h⟩:=h;replace h:=ob h;obtain⟨i,h2,h⟩:=h;replace h:=ob h;obtain⟨a,h3,h⟩:=h;replace h:=ob h;obtain⟨b,h4,h⟩:=h
  (obtain rfl:=zP h;clear h);cases kD h1;exact .put h2 h3 h4
 |Tuple ts a b=>
  have h:W3 cx (.Tuple ts a b) v (Wv v)=some ps:=h;cases hv:Wv v with
  |some vs=>rw[hv] at h;exact nn h
  |none=>
   rw[hv] at h;replace h:=ob h;obtain⟨tg,h1,h⟩:=h;replace h:=ob h;obtain⟨e,h2,h⟩:=h
   (obtain rfl:=zP h;clear h);exact .asg (λ_ _ _ _ _ _ _ e=>Tf hv e) h1 h2
 |_=>exact nn h
inductive dD:Expr->Prop
 |mk(f:Str)(p q:Pos)(args:List Expr):dD (.Call (.Name f p) args [] q)
theorem ZR(h:Hv e=some x):dD e:=by
 obtain⟨⟨f,as,p⟩,h1,g⟩:=ob h;clear h;cases DC h1;have g:BW f=some x:=g;cases kD g;exact⟨_,_,_,_⟩
inductive TB(cx:Cx):List Stmt->PS->Prop
 |asg{f z:Str}{p q p0 p1:Pos}{args:List Expr}{a:PE}{j:Nat}(h1:cx.tv? z=some j)(h:z6 40 cx (.Call (.Name f p) args [] q)=some a):TB cx [.Assign [.Name z p0] (.Call (.Name f p) args [] q) p1] (.assign (.one j) a)
theorem Tc(h:XX cx b=some ps):TB cx b ps:=by
 obtain⟨s,h1,g⟩:=ob h;clear h;cases kU h1;induction s using zbz with
 |Assign ts e p=>
  replace g:=ob g;obtain⟨_,h2,g⟩:=g;replace g:=ob g;obtain⟨t,h4,g⟩:=g;replace g:=ob g;obtain⟨x,h5,g⟩:=g;replace g:=ob g;obtain⟨i,h6,g⟩:=g;replace g:=ob g;obtain⟨a,h3,g⟩:=g
  (obtain rfl:=zP g;clear g);cases kU h4;cases kD h5;cases ZR h2;exact .asg h6 h3
 |_=>exact nn g
theorem Td{b:List Stmt}{hd:ExceptHandler}{pos:Pos}(h:XY cx b hd=some ps):TS n cx (.Try b [hd] [] [] pos) ps:=by
 obtain⟨ty,nm,body,p⟩:=hd;obtain⟨h0,g⟩:=Ci h;replace g:=ob g;obtain⟨t,h1,g⟩:=g;replace g:=ob g;obtain⟨x,h2,g⟩:=g;replace g:=ob g;obtain⟨s,h3,g⟩:=g;replace g:=ob g;obtain⟨⟨y,c⟩,h4,g⟩:=g;replace g:=Ci g;obtain⟨hx,g⟩:=g;replace g:=ob g;obtain⟨bb,h5,g⟩:=g;replace g:=ob g;obtain⟨i,h6,g⟩:=g;replace g:=ob g;obtain⟨l,h7,g⟩:=g;clear h;induction nm using uW with
 |some=>exact ff h0
 |none=>
  (obtain rfl:=zP g;clear g);cases h1;cases kD h2;cases kU h3
  obtain⟨p1,p2,p3,k⟩:=QD h4;cases Tc h5 with
  |asg h9 h8=>exact .tryA hx h9 h8 h6 h7
theorem Ou{e:Expr}{pos:Pos}(h:Sb cx e=some ps):TS n cx (.Raise (some e) none pos) ps:=by
 obtain⟨⟨x,a⟩,h1,g⟩:=ob h;replace g:=ob g;obtain⟨c,h2,g⟩:=g;replace g:=Ci g;obtain⟨hc,g⟩:=g;clear h
 (obtain rfl:=zP g;clear g);cases Ei h1
 have h2:Ug a=some c:=h2;cases Md h2;cases S3 (jg hc);exact .raise (z7 hc)
theorem Wu{st:Stmt}(h:LY (n+1) cx st=some ps):TS n cx st ps:=by
 induction st using zbz with
 |Expr e p=>
  obtain⟨⟨f,as,q⟩,h1,g⟩:=ob h;clear h;cases DC h1;exact NQ g
 |Assign ts v p=>
  obtain⟨t,h1,g⟩:=ob h;clear h;cases kU h1;exact TU g
 |If c a b p=>
  replace h:=ob h;obtain⟨a,h1,h⟩:=h;replace h:=ob h;obtain⟨a,h2,h⟩:=h;replace h:=ob h;obtain⟨a,h3,h⟩:=h
  (obtain rfl:=zP h;clear h);exact .ifs h1 h2 h3
 |While c b o p=>
  replace h:=Ci h;obtain⟨ho,h⟩:=h;replace h:=ob h;obtain⟨a,h1,h⟩:=h;replace h:=ob h;obtain⟨a,h2,h⟩:=h
  (obtain rfl:=zP h;clear h);cases Mg ho;exact .whil h1 h2
 |For t it b o p=>
  replace h:=Ci h;obtain⟨ho,h⟩:=h;replace h:=ob h;obtain⟨a,h1,h⟩:=h;replace h:=ob h;obtain⟨a,h2,h⟩:=h;replace h:=ob h;obtain⟨a,h3,h⟩:=h
  (obtain rfl:=zP h;clear h);cases Mg ho;exact .forr h1 h2 h3
 |Return e p=>
  obtain⟨e,h0,g⟩:=ob h;replace g:=ob g;obtain⟨a,h1,g⟩:=g
  (obtain rfl:=zP g;clear g);cases h0;exact .ret h1
 |Raise e c p=>
  obtain⟨ho,g⟩:=Ci h;replace g:=ob g;obtain⟨e,h1,g⟩:=g;clear h;induction c using uW with
  |some=>exact ff ho
  |none=>cases h1;exact Ou g
 |Break p=>(obtain rfl:=zP h;clear h);exact .brk
 |Continue p=>(obtain rfl:=zP h;clear h);exact .cont
 |Try b hs o f p=>
  obtain⟨ho,g⟩:=Ci h;replace g:=ob g;obtain⟨hd,h1,g⟩:=g;have e1:=Mg (jg ho);have e2:=Mg (z7 ho);clear h ho;subst e1 e2;cases kU h1;exact Td g
 |_=>exact nn h
theorem Zh{c:Prop}[Decidable c](h:(if c then CR.dead else CR.err)≠.err):(if c then CR.dead else CR.err)=.dead:=if hc:c then if_pos hc else absurd (if_neg hc) h
theorem Uc{fx:Option Nat}{p:PE}{lp:Option (List VS)}{st:List VS}(hc:chk fx (.ret p) lp st≠.err):chk fx (.ret p) lp st=.dead:=Zh hc
theorem T8{fx:Option Nat}{lp:Option (List VS)}{st:List VS}(hc:chk fx .brk lp st≠.err):chk fx .brk lp st=.dead:=by
 induction lp using uW with
 |none=>exact absurd rfl hc
 |some inv=>exact Zh hc
theorem PU{fx:Option Nat}{lp:Option (List VS)}{st:List VS}(hc:chk fx .cont lp st≠.err):chk fx .cont lp st=.dead:=by
 induction lp using uW with
 |none=>exact absurd rfl hc
 |some inv=>exact Zh hc
end
noncomputable def Cr:PS->Bool
 |.seq a b=>Cr a&&Cr b
 |.ifs _ a b=>Cr a&&Cr b
 |.whil _ b=>Cr b
 |.forr _ _ _ b=>Cr b
 |.tryv _ _ _=>false
 |_=>true
section
variable{H:uP}{w:World}{zc:Heap}{n:Nat}{f:CX}{G:List D}{cf cio:Nat->List D->R D}{wf:Nat}{zn:List Env}{F:List zL}{K:List (Str×D)}{mg mb:Str->Option Value}{L:Addr}
theorem Ec.with(X:Ec H w zc n f G cf zn F K mg mb L)(Z Y:Addr->Obj->Prop):Ec H w zc n (f.with Z Y) G cf zn F K mg mb L:=
 ⟨X.B,X.hG,X.C,X.hF,X.hC,X.hL,X.hnd,X.fs,X.fr,X.loc⟩
theorem OZ(h:∀ts a b vs c d,t=.Tuple ts a b->e=.Tuple vs c d->False)(h2:∀ts a,t≠.List ts a):swappedStores [t] e env=pure none:=by
 induction t using v4 with
 |Tuple=>induction e using v4 with
  |Tuple=>exact(h _ _ _ _ _ _ rfl rfl).elim
  |_=>rfl
 |List=>exact absurd rfl (h2 _ _)
 |_=>rfl
theorem O0(v o i:Expr)(p:Pos)(l:Nat)(env:Env):swapsWith v (some (.Subscript o i p)) l env=pure false:=by
 induction v using v4 with
 |_=>rfl
theorem IU(h:z6 fu cx e=some pe):(∀a b c d,e≠.SetComp a b c d)/\(∀a b c d g,e≠.DictComp a b c d g):=by
 constructor
 ·intro a b c d q;subst q;cases fu<;>exact nn h
 ·intro a b c d g q;subst q;cases fu<;>exact nn h
theorem S5(h1:¬∃a b c d,e=.ListComp a b c d)(h2:∀a b c d,e≠.SetComp a b c d)(h3:∀a b c d g,e≠.DictComp a b c d g):swapsWith e t l env=pure false:=by
 induction e using v4 with
 |ListComp=>exact absurd ⟨_,_,_,_,rfl⟩ h1
 |SetComp=>exact absurd rfl (h2 _ _ _ _)
 |DictComp=>exact absurd rfl (h3 _ _ _ _ _)
 |_=>rfl
theorem Kr(X:Ec H w zc n f G cf zn F K mg mb L){lp:Option (List VS)}{st:List VS}{t e:Expr}{tg:Tg}{pe:PE}{pos:Pos}(ht:B7 f.cx t=some tg)(h:z6 40 f.cx e=some pe)(hnt:∀ts a b vs c d,t=.Tuple ts a b->e=.Tuple vs c d->False)
  (hc:chk f.fx (.assign tg pe) lp st≠.err):k6 H w zc n f G cf cio wf zn lp st (vH (.Assign [t] e pos) f.env) (.assign tg pe) (chk f.fx (.assign tg pe) lp st):=by
 have hns:zK t:=λx p q=>by subst q;exact nn ht
 have hnl:∀ts a,t≠.List ts a:=λts a q=>by subst q;exact nn ht
 have hw:swappedStores [t] e f.env=pure none:=OZ hnt hnl;have hcx:=IU h;by_cases hlc:∃a b c d,e=.ListComp a b c d
 ·obtain⟨elt,gens,scope,cpos,rfl⟩:=hlc;induction t using v4 with
  |Name y py=>
   cases hb:(f.env.blockKind==.function&&f.env.kindOf y==some .local&&py.line==(Expr.ListComp elt gens scope cpos).pos.line&&!(scope.names.any λ(n,k)=>n==y&&(k==.local||k==.cell))) with
   |true=>
    refine IM (fu:=39) X ht h ?_ hc;unfold zbb swapsWith;show(pure (f.env.blockKind==.function&&f.env.kindOf y==some .local&&py.line==(Expr.ListComp elt gens scope cpos).pos.line&&!(scope.names.any λ(n,k)=>n==y&&(k==.local||k==.cell))):Sem Bool)=_;rw[hb]
   |false=>
    refine Gr X ht h ?_ hw hns hc;unfold zbb swapsWith;show(pure (f.env.blockKind==.function&&f.env.kindOf y==some .local&&py.line==(Expr.ListComp elt gens scope cpos).pos.line&&!(scope.names.any λ(n,k)=>n==y&&(k==.local||k==.cell))):Sem Bool)=_;rw[hb]
  |Tuple ts a b=>exact Gr X ht h rfl hw hns hc
  |_=>exact nn ht
 ·refine Gr X ht h ?_ hw hns hc;exact S5 hlc hcx.1 hcx.2
def bY(H:uP)(w:World)(zc:Heap)(n:Nat)(f:CX)(G:List D)(cf cio:Nat->List D->R D)(wf:Nat)(zn:List Env)(lp:Option (List VS))(st:List VS)(x:Sem Flow)(ps:PS):Prop:=
 (Cr ps=true\/∀a∈Bl f.fs,f.s₀.heap.get? a=none)->chk f.fx ps lp st≠.err->k6 H w zc n f G cf cio wf zn lp st x ps (chk f.fx ps lp st)
theorem Vr{lp:Option (List VS)}{st:List VS}{t:Stmt}{ts:List Stmt}{a b:PS}(h1:bY H w zc n f G cf cio wf zn lp st (vH t f.env) a)(h2:∀st,bY H w zc n f G cf cio wf zn lp st (execs ts f.env) b):bY H w zc n f G cf cio wf zn lp st (execs (t::ts) f.env) (.seq a b):=by
 intro hn hc;have h1:=h1 (hn.imp jg id);have h2:=λst=>h2 st (hn.imp z7 id);have e:chk f.fx (.seq a b) lp st=lB (λs=>chk f.fx b lp s) (chk f.fx a lp st):=rfl;rw[e] at hc ⊢;generalize chk f.fx a lp st=r at *;induction r using CR.casesOn with
 |err=>exact absurd rfl hc
 |dead=>exact Ks (h1 nofun) nofun
 |st s1=>exact Ks (h1 nofun) λs2 h=>by cases h;exact h2 s1 hc
theorem Fy(ih:∀(lp:Option (List VS)) (st:List VS) (t:Stmt) (ps:PS),LY m f.cx t=some ps->bY H w zc n f G cf cio wf zn lp st (vH t f.env) ps)(ts:List Stmt):
  ∀(pss:List PS) (lp:Option (List VS)) (st:List VS),ts.mapM (LY m f.cx)=some pss->bY H w zc n f G cf cio wf zn lp st (execs ts f.env) (kJ pss):=by
 induction ts with
 |nil=>intro pss lp st h _ _;cases iH h;exact OR
 |cons t ts ih'=>
  intro pss lp st h;obtain⟨a,r,h1,h2⟩:=mm h;induction r using uB with
  |nil=>
   cases List.length_eq_zero_iff.mp (Gd h2).symm
   exact λhn hc=>SQ (ih lp st t a h1 hn hc)
  |cons b r=>exact Vr (ih lp st t a h1) λst=>ih' (b::r) lp st h2
theorem MF(IO:Eb H w F mg zc cio n)(m:Nat):∀(f:CX),Ec H w zc n f G cf zn F K mg mb L->∀(lp:Option (List VS)) (st:List VS) (t:Stmt) (ps:PS),LY m f.cx t=some ps->bY H w zc n f G cf cio wf zn lp st (vH t f.env) ps:=by
 induction m with
 |zero=>intro f X lp st t ps h;exact nn h
 |succ m IH=>
  intro f X lp st t ps h hn hc;have ihL:=λ(Z Y:Addr->Obj->Prop)=>Fy (f:=f.with Z Y) (IH (f.with Z Y) (X.with Z Y));have ihL0:=Fy (IH f X);cases Wu h with
  |app hp h1 h2=>exact SM X hp h2 h1 hc
  |io h1 h2 hlast h3=>exact V9 X IO h1 h2 hlast h3 hc
  |exp h1=>exact SO X h1 rfl hc
  |newl hz h1 h2=>exact OQ X hz h1 h2 hc
  |newd h2=>exact OO X h2 hc
  |put h1 h2 h3=>exact SR X h2 h3 h1 (O0 _ _ _ _ _ _) hc
  |asg hnt h1 h2=>exact Kr X h1 h2 hnt hc
  |ifs h1 h2 h3=>exact V8 X h1 hc (ihL0 _ _ lp _ h2 (hn.imp jg id)) (ihL0 _ _ lp _ h3 (hn.imp z7 id))
  |whil h1 h2=>exact LN X h1 hc (λinv z=>ihL0 _ _ (some inv) inv h2 hn z)
  |forr h1 h2 h3=>exact SP X h1 h2 hc (λZ Y inv z=>ihL Z Y _ _ (some inv) _ h3 hn z)
  |ret h1=>
   have:=Uc hc;rw[this];exact SS X h1 this
  |raise hx=>exact LM X hx
  |brk=>
   have:=T8 hc;rw[this];exact SN this
  |cont=>
   have:=PU hc;rw[this];exact ON this
  |tryA hx h5 h4 h2 h3=>exact Kt X (hn.resolve_left nofun) (by show(f.cx.tv? _).bind _=_;rw[h5];rfl) h4 rfl rfl (λ_ _ z=>by cases z) hx h2 h3 hc
end
set_option tactic.hygienic true in
theorem kN:∀{k:Nat} {acc:List (Str×Addr)} {x:Str},((x,NameKind.cell)∈names\/(acc.lookup x).isSome=true)->((zaR k names acc).lookup x).isSome=true:=by
 induction names with
 |nil=>
  intro _ _ _ h;simpa [zaR] using h
 |cons zhd r ih=>
  obtain⟨y,kd⟩:=zhd;intro k acc x h;skip;simp only[zaR];split
  ·rename_i hk;refine ih ?_;rcases h with h|h
   ·cases h with
    |head=>exact .inr (by simp[vM])
    |tail _ h=>exact .inl h
   ·refine .inr ?_;rw[vM];cases x==y
    ·exact h
    ·rfl
  ·rename_i hk;refine ih ?_;rcases h with h|h
   ·cases h with
    |head=>exact absurd rfl hk
    |tail _ h=>exact .inl h
   ·exact .inr h
theorem Jb{kindOf:Str->Option NameKind}{b:List (Str×Value)}:∀{m:Str->Option Value} {x:Str},(∀p∈b,p.1≠x)->bindL kindOf b m x=m x:=by
 induction b with
 |nil=>
  intro _ _ _;exact rfl
 |cons zhd r ih=>
  obtain⟨y,v⟩:=zhd;intro m x h;skip;simp only[bindL];rw[ih λp hp=>h p (u0 _ hp)];have hne:x≠y:=λe=>h _ (u4 ..) e.symm;split
  ·exact if_neg hne
  ·rfl
theorem Ja{kindOf:Str->Option NameKind}{b:List (Str×Value)}:∀{m:Str->Option Value} {x:Str},(∀p∈b,p.1≠x)->bindC kindOf b m x=m x:=by
 induction b with
 |nil=>
  intro _ _ _;exact rfl
 |cons zhd r ih=>
  obtain⟨y,v⟩:=zhd;intro m x h;skip;simp only[bindC];rw[ih λp hp=>h p (u0 _ hp)];have hne:x≠y:=λe=>h _ (u4 ..) e.symm;split
  ·rfl
  ·exact if_neg hne
theorem D9{α β:Type}:∀{xs:List α} {vs:List β} {p:α×β},p∈xs.zip vs->p.1∈xs
 |[],_,_,h=>by exact absurd h vJ
 |x::xs,[],_,h=>by exact absurd h vJ
 |x::xs,v::vs,p,h=>by
  rw[w7] at h;cases h with
  |head=>exact u4 ..
  |tail _ h=>exact u0 _ (D9 h)
theorem G5{kindOf:Str->Option NameKind}:∀{xs:List Str} {vs:List Value} {m:Str->Option Value} {i:Nat} {x:Str} {v:Value},xs.Nodup->xs[i]?=some x->vs[i]?=some v->kindOf x=some .local->bindL kindOf (xs.zip vs) m x=some v
 |[],_,_,_,_,_,_,h,_,_=>by exact nn h
 |y::xs,[],_,_,_,_,_,_,h,_=>by exact nn h
 |y::xs,u::vs,m,0,x,v,hn,h1,h2,hk=>by
  simp at h1 h2;subst h1;subst h2;rw[w7];simp only[bindL];have hno:∀p∈xs.zip vs,p.1≠y:=λp hp e=>(wR.mp hn).1 (by rw[<-e];exact D9 hp);rw[Jb hno,if_pos hk];exact if_pos rfl
 |y::xs,u::vs,m,i+1,x,v,hn,h1,h2,hk=>by
  rw[w7];exact G5 (wR.mp hn).2 (h1) (h2) hk
theorem G4{kindOf:Str->Option NameKind}:∀{xs:List Str} {vs:List Value} {m:Str->Option Value} {i:Nat} {x:Str} {v:Value},xs.Nodup->xs[i]?=some x->vs[i]?=some v->kindOf x=some .cell->bindC kindOf (xs.zip vs) m x=some v
 |[],_,_,_,_,_,_,h,_,_=>by exact nn h
 |y::xs,[],_,_,_,_,_,_,h,_=>by exact nn h
 |y::xs,u::vs,m,0,x,v,hn,h1,h2,hk=>by
  simp at h1 h2;subst h1;subst h2;rw[w7];simp only[bindC];have hno:∀p∈xs.zip vs,p.1≠y:=λp hp e=>(wR.mp hn).1 (by rw[<-e];exact D9 hp);rw[Ja hno,if_neg (by rw[hk];trivial)];exact if_pos rfl
 |y::xs,u::vs,m,i+1,x,v,hn,h1,h2,hk=>by
  rw[w7];exact G4 (wR.mp hn).2 (h1) (h2) hk
structure FOK0(fi:zL)(fd:jt)(cx:Cx):Prop where
 names:cx.names=fi.scope.names
 nv:fd.nv=fi.scope.names.length
 np:fd.np<=fd.nv
 np0:1<=fd.np
 bind:∀(pm cd doc:Value) (vs:List Value),vs.length=fd.np->bindArgs (docDef fi.name fi.params fi.body fi.scope pm cd doc) ⟨vs,[]⟩=pure (((fi.scope.names.map (·.1)).take fd.np).zip vs)
 nodup:(fi.scope.names.map (·.1)).Nodup
 kinds:∀p∈fi.scope.names,p.2≠.free
 par:∀p∈fi.scope.names.take fd.np,p.2=.local\/p.2=.cell
 co:fi.scope.isCoroutine=false
 gen:fi.scope.isGenerator=false
 kind:fi.scope.kind=.function
structure nU(fi:zL)(fd:jt)(cx:Cx):Prop extends FOK0 fi fd cx where
 tr:KO cx fi.body=some fd.body
 chk:T6 fd.io fd.np fd.nv fd.body=true
noncomputable def KN(io:Bool)(np nv:Nat):List VS:=(v5 nv).map λi=>if i+1=np/\io=true then VS.o else if i<np then .f else .u
theorem M4(io:Bool)(np nv:Nat):(KN io np nv).length=nv:=by simp[KN]
theorem LW{io:Bool}{np nv i:Nat}:VS.at (KN io np nv) i=if i<nv then(if i+1=np/\io=true then VS.o else if i<np then .f else .u) else .u:=by
 unfold VS.at KN;rw[uH,v6];by_cases h:i<nv
 ·rw[List.getElem?_range h,if_pos h];rfl
 ·rw[wO (by simpa using h),if_neg h];rfl
section
variable{H:uP}{w:World}{zc:Heap}{n:Nat}{F:List zL}{K:List (Str×D)}{mg mb:Str->Option Value}
structure mK(zc:Heap)(P:Addr->Prop)(A:uY)(fs:List Env)(n:Nat)(h:Heap):Prop where
 stays:zc.StaysIn h
 pnew:Ae P h
 pbase:∀a o,zc.get? a=some o->P a
 handled:A.handled=none
 frames:A.frames=some fs
 funs:h.FunFrames zc fs
 depth:A.depth+n<1000
 units:A.units+3*n+4100<cLine
 nofr:∀a,P a->a∉Bl fs
theorem EC.to0(e:EC zc P A fs n env h):mK zc P A fs n h:=
 ⟨e.stays,e.pnew,e.pbase,e.handled,e.frames,e.funs,e.depth,e.units,e.nofr⟩
set_option tactic.hygienic true in
theorem Jt{fi:zL}{fd:jt}{cx:Cx}{a:Addr}{cd:Value}{P:Addr->Prop}{A:uY}{fs:List Env}{s:tX}{h₁:Heap}{tk:Nat}{vs:List Value}{ds:List D}{X:Addr->Prop}{xa:Addr}(ok:FOK0 fi fd cx)(ec:mK zc P A fs (n+1) s.heap)
  (Fr₁:Fr s.heap s.heap.objs.size h₁ (bindL (envOfC fi.name fi.scope s.heap.objs.size a cd).kindOf (((fi.scope.names.map (·.1)).take fd.np).zip vs) λ_=>none))
  (Cl₁:Cl s.heap.objs.size (zaR (s.heap.objs.size+1) fi.scope.names []) h₁ (bindC (envOfC fi.name fi.scope s.heap.objs.size a cd).kindOf (((fi.scope.names.map (·.1)).take fd.np).zip vs) λ_=>none))
  (hvs:vs.length=fd.np)(hds:ds.length=fd.np)
  (har:∀i v d,vs[i]?=some v->ds[i]?=some d->¬(i+1=fd.np/\fd.io=true)->zo H w P P s.heap v d)
  (hio:fd.io=true->(∀z,X z↔z=xa)/\vs[fd.np - 1]?=some (.ref xa)/\¬P xa/\xa∉Bl fs/\(∃o,s.heap.get? xa=some o)/\∀d,ds[fd.np - 1]?=some d->zo H w (λz=>z=xa) P s.heap (.ref xa) d)
  (hno:fd.io=false->∀z,¬X z):
  ∃P₁,zO H w zc n ⟨cx,envOfC fi.name fi.scope s.heap.objs.size a cd,A.deeper (envOfC fi.name fi.scope s.heap.objs.size a cd),envOfC fi.name fi.scope s.heap.objs.size a cd::fs,P,X,s,if fd.io then some (fd.np - 1) else none,λ_ _=>False,λ_ _=>False⟩
   (KN fd.io fd.np fd.nv) (ds++vX (fd.nv - fd.np) .none) P₁ (λ_=>xa) {s with heap:=h₁,toks:=tk}:=by
 generalize hE:envOfC fi.name fi.scope s.heap.objs.size a cd=env at Fr₁ Cl₁ ⊢;have eL:env.locals=s.heap.objs.size:=by rw[<-hE];rfl
 have eC:env.cells=zaR (s.heap.objs.size+1) fi.scope.names []:=by rw[<-hE];rfl
 have eS:env.scope=fi.scope:=by rw[<-hE];rfl
 have eF:env.frame=some s.heap.objs.size:=by rw[<-hE];rfl
 have eG:env.globals=w5:=by rw[<-hE];rfl
 have eB:env.builtins=wM:=by rw[<-hE];rfl
 have eK:∀x,env.kindOf x=fi.scope.names.lookup x:=λx=>by unfold Env.kindOf;rw[eS]
 have ownNew:∀z,Aq env z->s.heap.get? z=none:=by
  rintro z (q|⟨x,hx⟩)
  ·rw[q,eL];exact j6 _
  ·rw[eC] at hx;exact xF (qC (Cl₁.above x z (mem_of_lookup hx)))
 have ownAl:∀z,Aq env z->∃o,h₁.get? z=some o:=by
  rintro z (q|⟨x,hx⟩)
  ·obtain⟨o,ho,_⟩:=RE Fr₁.ns;rw[q,eL];exact⟨o,ho⟩
  ·rw[eC] at hx;obtain⟨o,ho,_⟩:=Cl₁.cell x z hx;exact⟨o,ho⟩
 let P₁:Addr->Prop:=λz=>P z/\¬Aq env z;have mP:∀z o,P z->s.heap.get? z=some o->P₁ z/\h₁.get? z=some o:=λz o p e=>⟨⟨p,λq=>by rw[ownNew z q] at e;exact nn e⟩,Fr₁.keep z o e⟩;have fr:∀z,z∈Bl (env::fs)->z=s.heap.objs.size\/z∈Bl fs:=λz hz=>by
  simp only[Bl,xK,eF] at hz;exact List.mem_cons.mp hz
 have ec₁:EC zc P₁ (A.deeper env) (env::fs) n env h₁:=
  {stays:=λz o q=>Fr₁.keep z o (ec.stays z o q)
   pnew:=λz e=>⟨(ec.pnew.keep Fr₁.keep) z e,λq=>by obtain⟨o,ho⟩:=ownAl z q;rw[ho] at e;exact sn e⟩
   pbase:=λz o q=>(mP z o (ec.pbase z o q) (ec.stays z o q)).1
   handled:=ec.handled
   frames:=by show A.frames.map (env::·)=_;rw[ec.frames];rfl
   funs:=Heap.FunFrames.cons (by rw[eS,ok.kind];trivial) eF Fr₁.ns (by
    cases q:zc.get? s.heap.objs.size with
    |none=>rfl
    |some o=>exact absurd rfl (Eu (ec.stays _ _ q))) (jK (jS.of_keep Fr₁.keep).nf ec.funs)
   depth:=by show A.depth+1+n<1000;have q:=ec.depth;clear hio har hno;rw[vD,vO 1];exact q
   units:=by show A.units+3+3*n+4100<cLine;have q:=ec.units;clear hio har hno;rw[vD A.units 3,vO 3];exact q
   kind:=by rw[eS];exact ok.kind
   globals:=eG,builtins:=eB
   own:=λz p=>p.2
   nofr:=λz p hz=>(fr z hz).elim (λq=>p.2 (.inl (q.trans eL.symm))) (ec.nofr z p.1)
   inj:=λx y c h1 h2=>by rw[eC] at h1 h2;exact name_of_addr Cl₁.apart (mem_of_lookup h1) (mem_of_lookup h2)}
 have fram:BF cx.names env h₁:=
  {ns:=⟨_,eL▸Fr₁.ns⟩
   loc:=λx hx=>by rw[eK,<-ok.names];exact hx
   cell:=λx hx=>by
    refine⟨by rw[eK,<-ok.names];exact hx,?_⟩;have:=kN (k:=s.heap.objs.size+1) (acc:=[]) (names:=fi.scope.names) (x:=x) (.inl (ok.names▸jm hx));cases q:(zaR (s.heap.objs.size+1) fi.scope.names []).lookup x with
    |none=>rw[q] at this;exact ff this
    |some c=>exact⟨c,_,by rw[eC];exact q,Cl₁.cell x c q⟩
   inj:=ec₁.inj
   ne:=λx c hc q=>by
    rw[eC] at hc;have:=Cl₁.above x c (mem_of_lookup hc);rw[q,eL] at this;exact zad _ this
   fn:=by rw[eS];exact ok.kind}
 have param:∀(i:Nat) (x:Str) (k:NameKind) (v:Value),cx.names[i]?=some (x,k)->i<fd.np->vs[i]?=some v->zz env h₁ x v:=by
  intro i x k v h1 hi hv;rw[ok.names] at h1;have hmem:(x,k)∈fi.scope.names.take fd.np:=v9 (i:=i) (by rw[yT hi];exact h1);have hlk:fi.scope.names.lookup x=some k:=kS ok.nodup (v9 h1);have hx:((fi.scope.names.map (·.1)).take fd.np)[i]?=some x:=by rw[yT hi,v6,h1];rfl
  have hnd:((fi.scope.names.map (·.1)).take fd.np).Nodup:=ok.nodup.sublist (List.take_sublist _ _);rcases ok.par _ hmem with hk|hk
  ·have hk':k=.local:=hk;subst hk';exact .loc _ (by rw[eK];exact hlk) (eL▸Fr₁.ns) (G5 hnd hx hv (by rw[eK];exact hlk))
  ·have hk':k=.cell:=hk;subst hk';have:=kN (k:=s.heap.objs.size+1) (acc:=[]) (names:=fi.scope.names) (x:=x) (.inl (jm hlk));cases q:(zaR (s.heap.objs.size+1) fi.scope.names []).lookup x with
   |none=>rw[q] at this;exact ff this
   |some c=>
    have hc:=Cl₁.cell x c q;rw[G4 hnd hx hv (by rw[eK];exact hlk)] at hc;exact .cell c (.inl (by rw[eK];exact hlk)) (by rw[eC];exact q) hc
 have gv:∀{i d},ds[i]?=some d->zq (ds++vX (fd.nv - fd.np) .none) i=d:=λ{i d} h=>by
  obtain⟨hl,e⟩:=List.getElem?_eq_some_iff.mp h;unfold zq;rw[uH,xV hl,h];rfl
 have atO:∀{i},VS.at (KN fd.io fd.np fd.nv) i=.o->fd.io=true/\i=fd.np - 1:=λ{i} h=>by
  rw[LW] at h;split at h
  ·split at h
   ·rename_i q;exact⟨q.2,by rw[<-q.1];rfl⟩
   ·split at h<;>cases h
  ·cases h
 have hP0:=ok.np0;have hPl:fd.np - 1<fd.np:=Nat.sub_lt hP0 (yX 0);refine⟨P₁,ec₁,fram,by rw[M4];rw[uE,List.length_replicate,hds];exact(Nat.add_sub_of_le ok.np).symm,by rw[M4,ok.nv,ok.names];exact uK _,λi x k h1 h2 h3=>?_,λi x k h1 h2 h3=>?_,λi h=>?_,λi j h1 h2 hne=>?_,λz p=>p.1,λi h hne=>?_,λi hi=>?_,λhfx z hz=>?_,ownNew,ec.pnew,λz o e nx=>Fr₁.keep z o e,rfl,id,λi x k h1 h=>?_,λ_ _ q=>q.elim,λ_ _ q=>q.elim,λ_ _ q=>q.elim⟩
 ·rw[LW] at h3;split at h3
  ·split at h3
   ·cases h3
   ·rename_i hnio;split at h3
    ·rename_i hi;have hv:vs[i]?=some (vs[i]'(by rw[hvs];exact hi)):=uA _;have hd:ds[i]?=some (ds[i]'(by rw[hds];exact hi)):=uA _;refine⟨_,param i x k _ h1 hi hv,?_⟩;rw[gv hd];exact(har i _ _ hv hd hnio).move mP mP
    ·cases h3
  ·cases h3
 ·obtain⟨g1,g2⟩:=atO h3;subst g2;obtain⟨q1,q2,q3,q4,⟨o,q5⟩,q6⟩:=hio g1;have hd:ds[fd.np - 1]?=some (ds[fd.np - 1]'(by rw[hds];exact hPl)):=uA _;refine⟨param _ x k _ h1 hPl q2,?_⟩;rw[gv hd];exact(q6 _ hd).move (λz o t e=>⟨t,Fr₁.keep z o e⟩) mP
 ·obtain⟨g1,g2⟩:=atO h;obtain⟨q1,q2,q3,q4,⟨o,q5⟩,q6⟩:=hio g1;exact⟨λp=>q3 p.1,λq=>(by rw[ownNew _ q] at q5;exact nn q5),λhz=>(fr _ hz).elim (λq=>Eu q5 q) q4⟩
 ·exact absurd ((atO h1).2.trans (atO h2).2.symm) hne
 ·obtain⟨g1,g2⟩:=atO h;exact absurd (by simp[g1,g2]) hne
 ·cases hb:fd.io with
  |false=>simp[hb] at hi
  |true=>
   simp[hb] at hi;subst hi;refine⟨?_,(hio hb).1⟩;rw[LW,if_pos (qD hPl ok.np),if_pos ⟨by exact zaf ‹_›,rfl⟩]
 ·cases hb:fd.io with
  |false=>exact hno hb z hz
  |true=>simp[hb] at hfx
 ·obtain⟨g1,g2⟩:=atO h;subst g2;have h1':fi.scope.names[fd.np - 1]?=some (x,k):=by rw[<-ok.names];exact h1
  have hmem:(x,k)∈fi.scope.names.take fd.np:=v9 (i:=fd.np - 1) (by rw[yT hPl];exact h1');rcases ok.par _ hmem with hk|hk
  ·have hk':k=.local:=hk;subst hk';rfl
  ·have hk':k=.cell:=hk;subst hk';rfl
end
section
variable{H:uP}{w:World}{zc:Heap}{F:List zL}{K:List (Str×D)}{mg mb:Str->Option Value}{G:List D}{T:List jt}{wf:Nat}{ios:List Str}
structure o4(F:List zL)(K:List (Str×D))(T:List jt)(ios:List Str):Prop where
 ok:∀(i:Nat) (fi:zL),F[i]?=some fi->∃fd,T[i]?=some fd/\nU fi fd ⟨fi.scope.names,F.map (·.name),ios,K.map (·.1)⟩/\Cr fd.body=true
theorem Ca.get(r:Ca H w P h vs ds):∀{i:Nat} {v:Value} {d:D},vs[i]?=some v->ds[i]?=some d->zo H w P P h v d:=by
 unfold Ca at r;induction r with
 |nil=>intro i v d h1 _;exact nn h1
 |cons a _ ih=>
  intro i v d h1 h2;induction i using w3 with
  |zero=>(obtain rfl:=zP h1;clear h1);(obtain rfl:=zP h2;clear h2);exact a
  |succ i=>exact ih h1 h2
theorem G9(B:kq F K mg mb zc)(hG:G=K.map (·.2))(C:Dw H w F mg zc cf n)(IO:Eb H w F mg zc cio n)(ho:zc.get? fa=some o)(hdat:o.data=.func (docDef fi.name fi.params fi.body fi.scope pm cd doc))(hcd:zc.CodeRec cd fi.name)
  (ok:nU fi fd ⟨fi.scope.names,F.map (·.name),ios,K.map (·.1)⟩)
  {P:Addr->Prop}{A:uY}{fs:List Env}{s:tX}{vs:List Value}{ds:List D}{X:Addr->Prop}{xa:Addr}{Q E:Value->tX->Prop}(hnt:Cr fd.body=true\/∀a∈Bl fs,s.heap.get? a=none)(ec:mK zc P A fs (n+1) s.heap)
  (hvs:vs.length=fd.np)(hds:ds.length=fd.np)
  (har:∀i v d,vs[i]?=some v->ds[i]?=some d->¬(i+1=fd.np/\fd.io=true)->zo H w P P s.heap v d)
  (hio:fd.io=true->(∀z,X z↔z=xa)/\vs[fd.np - 1]?=some (.ref xa)/\¬P xa/\xa∉Bl fs/\(∃o,s.heap.get? xa=some o)/\∀d,ds[fd.np - 1]?=some d->zo H w (λz=>z=xa) P s.heap (.ref xa) d)
  (hno:fd.io=false->∀z,¬X z)
  (hok:∀d e v s',R.bind (Mine.exec G cf cio wf fd.body (ds++vX (fd.nv - fd.np) .none)) (λr=>match r.1 with
     |.ret d=>.ok (d,zq r.2 (fd.np - 1))
     |.next=>.ok (.none,zq r.2 (fd.np - 1))
     |_=>.stuck)=.ok (d,e)->(∀z o,s.heap.get? z=some o->¬X z->s'.heap.get? z=some o)->s'.os=s.os->(vT s.gens->vT s'.gens)->zo H w P P s'.heap v d->
     (fd.io=true->(∃o,s'.heap.get? xa=some o/\NF o)/\zo H w (λz=>z=xa) P s'.heap (.ref xa) e)->Q v s')
  (hve:Mine.exec G cf cio wf fd.body (ds++vX (fd.nv - fd.np) .none)=.ve->fd.io=false/\∀x s',Bn fs s x s'->E x s')
  (hns:R.bind (Mine.exec G cf cio wf fd.body (ds++vX (fd.nv - fd.np) .none)) (λr=>match r.1 with
     |.ret d=>.ok (d,zq r.2 (fd.np - 1))
     |.next=>.ok (.none,zq r.2 (fd.np - 1))
     |_=>.stuck)≠R.stuck):zaD (model H w) A (.call (.ref fa) ⟨vs,[]⟩) (λr s'=>match r with|.ok (.ret v)=>Q v s'|.ok _=>False|.error e=>E e s') s:=by
 have hcell:∀x,fi.scope.names.lookup x=some .cell->((zaR (s.heap.objs.size+1) fi.scope.names []).lookup x).isSome=true:=λx hx=>kN (.inl (jm hx));refine(call_cells (by show A.depth<1000;have:=ec.depth;exact qB (uV _ _) ‹_›) (ec.stays _ _ ho) hdat (B.nolimit.keeps ec.stays) (hcd.keeps ec.stays) (ok.bind pm cd doc vs hvs) (λx hx=>?_) (λh₁ tk Fr₁ Cl₁=>?_) ok.co ok.gen ok.kind)
 ·have h1:=D9 hx;have:∃k,(x.1,k)∈fi.scope.names.take fd.np:=by
   rw[<-List.map_take] at h1;obtain⟨p,hp,e⟩:=List.mem_map.mp h1;exact⟨p.2,by rw[<-e];exact hp⟩
  obtain⟨k,hk⟩:=this;have hl:=kS ok.nodup (y1 hk);rcases ok.par _ hk with e|e
  ·have e':k=.local:=e;subst e';exact .inl hl
  ·have e':k=.cell:=e;subst e';exact .inr ⟨hl,hcell _ hl⟩
 ·obtain⟨P₁,c₁⟩:=Jt (xa:=xa) (X:=X) (tk:=tk) ok.toFOK0 ec Fr₁ Cl₁ hvs hds har hio hno;generalize hE:envOfC fi.name fi.scope s.heap.objs.size fa cd=env at Fr₁ Cl₁ c₁ ⊢;let f:CX:=⟨⟨fi.scope.names,F.map (·.name),ios,K.map (·.1)⟩,env,A.deeper env,env::fs,P,X,s,if fd.io then some (fd.np - 1) else none,λ_ _=>False,λ_ _=>False⟩;have eS:env.scope=fi.scope:=by rw[<-hE];rfl
  have eF:env.frame=some s.heap.objs.size:=by rw[<-hE];rfl
  have eK:∀x,env.kindOf x=fi.scope.names.lookup x:=λx=>by unfold Env.kindOf;rw[eS]
  have hL:CY f.cx f.env:=
   {glob:=λx hx=>by rw[eK];exact hx
    cell:=λx hx=>by
     rcases hx with hx|hx
     ·obtain⟨h1,c,o,h2,_⟩:=c₁.fram.cell x hx;exact⟨.inl h1,c,h2⟩
     ·exact absurd rfl (ok.kinds _ (jm hx))}
  have X':Ec H w zc n f G cf fs F K mg mb s.heap.objs.size:=⟨B,hG,C,rfl,rfl,hL,ok.nodup,rfl,eF,eK⟩;have htr:=ok.tr;unfold KO at htr;cases hb:fi.body.mapM (LY 40 f.cx) with
  |none=>rw[hb] at htr;exact nn htr
  |some pss=>
   rw[hb] at htr;have hbody:kJ pss=fd.body:=by simpa using htr
   have hchk:chk f.fx (kJ pss) none (KN fd.io fd.np fd.nv)≠.err:=by
    have:=ok.chk;unfold T6 at this;rw[hbody];intro q;have q':chk (if fd.io=true then some (fd.np - 1) else none) fd.body none (KN fd.io fd.np fd.nv)=.err:=q;simp only[KN] at q';dsimp only at this;rw[q'] at this;exact ff this
   have hnt':Cr (kJ pss)=true\/∀a∈Bl f.fs,f.s₀.heap.get? a=none:=by
    rw[hbody];refine hnt.imp id λh z hz=>?_;simp only[f,Bl,xK,eF] at hz;rcases List.mem_cons.mp hz with q|q
    ·rw[q];exact j6 _
    ·exact h z q
   have S:=Fy (f:=f) (λlp st t ps g1 g2 g3=>MF IO 40 f X' lp st t ps g1 g2 g3) fi.body pss none (KN fd.io fd.np fd.nv) hb hnt' hchk (wf:=wf);rw[hbody] at S;refine S {s with heap:=h₁,toks:=tk} (ds++vX (fd.nv - fd.np) .none) P₁ (λ_=>xa) _ _ c₁ (λfl ρ' fw s' he hp=>?_) (λhe x s' q=>?_) (λhe=>hns (by rw[he];rfl))
   ·rw[he] at hok hns;have fin:∀{st P₂ ad},zO H w zc n f st ρ' P₂ ad s'->(∀z o,s.heap.get? z=some o->¬X z->s'.heap.get? z=some o)/\s'.os=s.os/\(vT s.gens->vT s'.gens)/\(fd.io=true->(∃o,s'.heap.get? xa=some o/\NF o)/\zo H w (λz=>z=xa) P s'.heap (.ref xa) (zq ρ' (fd.np - 1))):=by
     intro st P₂ ad c;refine⟨c.keep,c.os,c.gens,λhb=>?_⟩;have hfx:f.fx=some (fd.np - 1):=by exact if_pos ‹_›
     obtain⟨g1,g2⟩:=c.fxa _ hfx;have hxa:ad (fd.np - 1)=xa:=(((hio hb).1 _).mp ((g2 _).mpr rfl));obtain⟨x,k,g3,g4⟩:=c.named g1;obtain⟨_,g5⟩:=c.own _ x k g3 g4 g1;have g6:=c.there g1;rw[hxa] at g5 g6;exact⟨g6,g5.move (λz o t e=>⟨t,e⟩) (λz o p e=>⟨c.sub z p,e⟩)⟩
    induction fl using Fl.casesOn with
    |next=>
     obtain⟨rfl,st,P₂,ad,_,c⟩:=hp;obtain⟨f1,f2,f3,f4⟩:=fin c;exact hok .none _ .none s' rfl f1 f2 f3 (.rep .none) f4
    |brk=>obtain⟨_,inv,P₂,ad,h,_⟩:=hp;exact nn h
    |cont=>obtain⟨_,inv,P₂,ad,h,_⟩:=hp;exact nn h
    |ret d=>
     obtain⟨v,st,P₂,ad,rfl,c,r⟩:=hp;obtain⟨f1,f2,f3,f4⟩:=fin c;exact hok d _ v s' rfl f1 f2 f3 (r.move (λz o p e=>⟨c.sub z p,e⟩) (λz o p e=>⟨c.sub z p,e⟩)) f4
   ·obtain⟨hb,hE'⟩:=hve he;exact KP.leave (A:=A.deeper env) c₁.ec.frames eF (j6 _) (hno hb) q λs'' q' _=>hE' x s'' q'
theorem PI(hT:T[i]?=some fd)(hio:fd.io=false):zd G T wf (n+1) i ds=R.bind (if ds.length=fd.np then R.bind (Mine.exec G (zd G T wf n) (zj G T wf n) wf fd.body (ds++vX (fd.nv - fd.np) .none)) (λr=>match r.1 with
     |.ret d=>.ok (d,zq r.2 (fd.np - 1))
     |.next=>.ok (.none,zq r.2 (fd.np - 1))
     |_=>.stuck) else .stuck) λr=>.ok r.1:=by
 have:Bx T i=false:=by unfold Bx;rw[hT];exact hio
 unfold zd;rw[this];simp only[vQ,if_false,Ma,hT];rfl
theorem PJ(hT:T[i]?=some fd)(hio:fd.io=true):zj G T wf (n+1) i ds=R.bind (if ds.length=fd.np then R.bind (Mine.exec G (zd G T wf n) (zj G T wf n) wf fd.body (ds++vX (fd.nv - fd.np) .none)) (λr=>match r.1 with
     |.ret d=>.ok (d,zq r.2 (fd.np - 1))
     |.next=>.ok (.none,zq r.2 (fd.np - 1))
     |_=>.stuck) else .stuck) λr=>.ok r.2:=by
 have:Bx T i=true:=by unfold Bx;rw[hT];exact hio
 unfold zj;rw[this];simp only[if_true,Ma,hT];rfl
theorem EL(B:kq F K mg mb zc)(hG:G=K.map (·.2))(tok:o4 F K T ios):∀n,Dw H w F mg zc (zd G T wf n) n/\Eb H w F mg zc (zj G T wf n) n
 |0=>by
  refine⟨λi fi fa hi hm P A fs env s vs ds Q E ec r hok hve hns=>absurd ?_ hns,λi fi fa hi hm P A fs env s vs ds X d0 d' Q E ec r h1 h2 h3 h4 h5 h6=>?_⟩
  ·unfold zd;split<;>rfl
  ·unfold zj at h6;split at h6<;>exact ns h6
 |n+1=>by
  obtain⟨C,IO⟩:=EL B hG tok n;refine⟨λi fi fa hi hm P A fs env s vs ds Q E ec r hok hve hns=>?_,λi fi fa hi hm P A fs env s vs ds X d0 d' Q E ec r h1 h2 h3 h4 h5 h6 hok=>?_⟩
  ·obtain⟨fd,hT,ok,hnt⟩:=tok.ok i fi hi;cases hb:fd.io with
   |true=>
    have:Bx T i=true:=by unfold Bx;rw[hT];exact hb
    refine absurd ?_ hns;unfold zd;rw[this];rfl
   |false=>
    rw[PI hT hb] at hok hve hns;by_cases hl:ds.length=fd.np
    ·simp only[hl,if_true] at hok hve hns;have hvl:vs.length=ds.length:=A3.length r;obtain⟨fa',o',pm,cd,doc,hm',ho,hdat,hcd⟩:=B.fn i fi hi;rw[hm] at hm';cases hm';refine wpAny_call (G9 (wf:=wf) (X:=λ_=>False) (xa:=0) B hG C IO ho hdat hcd ok (.inl hnt) ec.to0 (hvl.trans hl) hl (λj v d g1 g2 _=>r.get g1 g2) (λz=>by rw[hb] at z;exact ff z) (λ_ _ z=>z) (λd e v s' g1 g2 g3 g4 g5 _=>?_) (λg=>⟨hb,λx s' q=>hve (by rw[g];rfl) x s' q⟩) (λg=>hns (by rw[g];rfl)));exact hok d v s' (by rw[g1];rfl) ⟨λa o z=>g2 a o z (λq=>q),g3,g4⟩ g5
    ·simp only[hl,if_false] at hns;exact absurd rfl hns
  ·obtain⟨fd,hT,ok,hnt⟩:=tok.ok i fi hi;cases hb:fd.io with
   |false=>
    have:Bx T i=false:=by unfold Bx;rw[hT];exact hb
    unfold zj at h6;rw[this] at h6;exact ns h6
   |true=>
    rw[PJ hT hb] at h6;by_cases hl:(ds++[d0]).length=fd.np
    ·simp only[hl,if_true] at h6;have hvl:vs.length=ds.length:=A3.length r;have hl':ds.length+1=fd.np:=by simpa using hl
     have e1:fd.np - 1=ds.length:=by rw[<-hl'];rfl
     have e2:vs.length<=fd.np - 1:=vC (hvl.trans e1.symm);obtain⟨fa',o',pm,cd,doc,hm',ho,hdat,hcd⟩:=B.fn i fi hi;rw[hm] at hm';cases hm';refine wpAny_call (G9 (wf:=wf) (X:=λz=>z=X) (xa:=X) B hG C IO ho hdat hcd ok (.inl hnt) ec.to0 (by simp;exact hvl▸hl') hl (λj v d g1 g2 g3=>?_) (λ_=>⟨λz=>Iff.rfl,?_,h1,h3,?_,λd g=>?_⟩) (λz=>by rw[hb] at z;exact tf z) (λd e v s' g1 g2 g3 g4 g5 g6=>?_) (λg=>?_) (λg=>?_))
     ·have hj:j<ds.length:=by
       have:j<(ds++[d0]).length:=(List.getElem?_eq_some_iff.mp g2).1;simp at this;by_cases q:j+1=fd.np
       ·exact absurd ⟨q,hb⟩ g3
       ·exact Nat.lt_of_le_of_ne (wV this) λe=>q (e▸hl')
      rw[xV (by exact hvl▸hj)] at g1;rw[xV hj] at g2;exact r.get g1 g2
     ·rw[zaB e2];have:fd.np - 1 - vs.length=0:=by rw[e1,hvl];exact Nat.sub_self _
      rw[this];rfl
     ·obtain⟨o,ho,_⟩:=h4;exact⟨o,ho⟩
     ·rw[zaB (vC e1.symm)] at g;have:fd.np - 1 - ds.length=0:=by rw[e1];exact Nat.sub_self _
      rw[this] at g;simp at g;subst g;exact h5
     ·rw[g1] at h6;simp only[R.bind_ok] at h6
      (obtain rfl:=jz h6;clear h6)
      obtain⟨⟨o',g7,g8⟩,g9⟩:=g6 hb;refine hok v s' ⟨λa o z e=>g2 a o e z,λa o e=>?_,g3,g4⟩ g9;by_cases z:a=X
      ·exact⟨o',z▸g7,λ_=>g8⟩
      ·exact⟨o,g2 a o e z,id⟩
     ·rw[g] at h6;exact nv h6
     ·rw[g] at h6;exact ns h6
    ·simp only[hl,if_false] at h6;exact ns h6
end
end Mine
namespace Mine
open PySem PyProof.Rows PySem.Calls PySem.W
theorem BV{α:Type}:∀{ns:List Str} {vs:List α} {x:Str},vs.length=ns.length->x∈ns->((ns.zip vs).lookup x).isSome=true
 |[],_,_,_,h=>by simp at h
 |y::ns,[],_,hl,_=>by simp at hl
 |y::ns,v::vs,x,hl,h=>by
  rw[w7,vM];cases hxy:x==y
  ·exact BV (by simpa using hl) (by
    rcases List.mem_cons.mp h with h|h
    ·(replace h:=vR h;subst h);simp at hxy
    ·exact h)
  ·rfl
theorem Qx{α β:Type}{f g:α->Option β}{l:List α}:(∀a∈l,f a=g a)->l.filterMap f=l.filterMap g:=by
 induction l with
 |nil=>
  intro _;exact rfl
 |cons a l ih=>
  intro h;skip;rw[xK,xK,h a (u4 ..),ih λb hb=>h b (u0 _ hb)]
theorem C4{α:Type}:∀{ns:List Str} {vs:List α},ns.Nodup->vs.length=ns.length->ns.filterMap (λn=>((ns.zip vs).lookup n).map (n,·))=ns.zip vs
 |[],_,_,_=>by simp
 |y::ns,[],_,hl=>by simp at hl
 |y::ns,v::vs,hn,hl=>by
  rw[wR] at hn;rw[w7,xK];have h1:List.lookup y ((y,v)::ns.zip vs)=some v:=by simp
  have h2:=C4 hn.2 (vs:=vs) (by simpa using hl);have h3:ns.filterMap (λn=>(List.lookup n ((y,v)::ns.zip vs)).map (n,·))=ns.filterMap (λn=>(List.lookup n (ns.zip vs)).map (n,·)):=Qx (by
   intro n hn';rw[vM];have:(n==y)=false:=by
    rw[beq_eq_false_iff_ne];(rintro zr5<;>(try (replace zr5:=vR zr5;subst zr5)));exact hn.1 hn'
   rw[this])
  rw[h1,h3,h2];rfl
noncomputable def IJ(p:Arguments):Bool:=p.posonlyargs.isEmpty&&p.vararg.isNone&&p.kwonlyargs.isEmpty&&p.kwarg.isNone
theorem YT:List.drop k ((none:Option (Array Value)).getD #[]).toList=[]:=List.drop_nil
theorem T5
  (h5:¬(decide (vs.length>(ar.map (λa:Arg=>a.arg)).length)&&true)=true)(h7:¬(! ((List.take ((ar.map (λa:Arg=>a.arg)).length) (ar.map (λa:Arg=>a.arg))).filter λn=>((((ar.map (λa:Arg=>a.arg)).zip vs)).lookup n).isNone).isEmpty)=true)
  (h8:List.zip (List.drop (ar.map (λa:Arg=>a.arg)).length (ar.map (λa:Arg=>a.arg))) ([]:List Value)=[])(hf:((ar.map (λa:Arg=>a.arg))++[]).filterMap (λn=>(((ar.map (λa:Arg=>a.arg)).zip vs).lookup n).map (n,·))=(ar.map (λa:Arg=>a.arg)).zip vs):
  bindArgs (docDef name ⟨[],ar,none,[],kd,none,df⟩ body scope pm cd doc) ⟨vs,[]⟩=pure ((ar.map (λa:Arg=>a.arg)).zip vs):=by
 refine(if_neg h5).trans ?_;rw[YT];refine(if_neg h7).trans ?_;refine(congrArg (λz=>forIn z _ _ >>= _) h8).trans ?_;exact congrArg (pure:List (Str×Value)->Sem (List (Str×Value))) hf
theorem Jc(h:IJ params=true)(hn:(params.args.map (·.arg)).Nodup)(hl:vs.length=(params.args.map (·.arg)).length):
  bindArgs (docDef name params body scope pm cd doc) ⟨vs,[]⟩=pure ((params.args.map (·.arg)).zip vs):=by
 obtain⟨po,ar,va,ko,kd,kw,df⟩:=params;simp only[IJ,uU,List.isEmpty_iff,Option.isNone_iff_eq_none] at h;obtain⟨⟨⟨rfl,rfl⟩,rfl⟩,rfl⟩:=h;have hm:((ar.map (·.arg)).filter λn=>((((ar.map (·.arg)).zip vs)).lookup n).isNone)=[]:=by
  rw[List.filter_eq_nil_iff];intro x hx;have:=BV hl hx;simp[<-Option.not_isSome,this]
 have hf:=C4 hn hl;refine T5 ?_ ?_ List.zip_nil_right (by rw[vS];exact hf)
 ·rw[hl];simp
 ·rw[zav,hm];simp
def QA(fi:zL)(fd:jt)(cx:Cx):Bool:=
 decide (fd.nv=fi.scope.names.length)&&decide (fd.np<=fd.nv)&&decide (1<=fd.np)&&IJ fi.params &&
 decide (fi.params.args.map (·.arg)=(fi.scope.names.map (·.1)).take fd.np)&&T6 fd.io fd.np fd.nv fd.body&&decide ((fi.scope.names.map (·.1)).Nodup) &&
 (fi.scope.names.all λp=>p.2 != .free)&&((fi.scope.names.take fd.np).all λp=>p.2==.local||p.2==.cell)&&!fi.scope.isCoroutine&&!fi.scope.isGenerator&&fi.scope.kind==.function
theorem Id(h:QA fi fd ⟨fi.scope.names,funs,ios,consts⟩=true):FOK0 fi fd ⟨fi.scope.names,funs,ios,consts⟩/\T6 fd.io fd.np fd.nv fd.body=true:=by
 simp only[QA,uU,decide_eq_true_eq,Bool.not_eq_true'] at h;obtain⟨⟨⟨⟨⟨⟨⟨⟨⟨⟨⟨h2,h3⟩,h4⟩,h5⟩,h6⟩,h7⟩,h8⟩,h9⟩,h10⟩,h11⟩,h12⟩,h13⟩:=h;refine⟨⟨rfl,h2,h3,h4,?_,h8,?_,?_,h11,h12,by simpa using h13⟩,h7⟩
 ·intro pm cd doc vs hl;have hn:(fi.params.args.map (·.arg)).Nodup:=by rw[h6];exact List.Sublist.nodup (List.take_sublist _ _) h8
  have hlen:(fi.params.args.map (·.arg)).length=fd.np:=by rw[h6,List.length_take,uJ];lia
  rw[Jc h5 hn (by rw[hlen];exact hl),h6]
 ·intro p hp;have:=uF.mp h9 p hp
  simpa using this
 ·intro p hp;have:=uF.mp h10 p hp
  simpa using this
theorem Y3{fi:zL}{fd:jt}{funs ios consts:List Str}(h1:KO ⟨fi.scope.names,funs,ios,consts⟩ fi.body=some fd.body)(h:QA fi fd ⟨fi.scope.names,funs,ios,consts⟩=true):nU fi fd ⟨fi.scope.names,funs,ios,consts⟩:=
 ⟨(Id h).1,h1,(Id h).2⟩
noncomputable def Gg{α:Type}(p:α->Bool):Option α->Bool
 |none=>false
 |some a=>p a
inductive nW{α:Type}(p:α->Bool)(o:Option α):Prop
 |mk(a:α)(e:o=some a)(h:p a=true)
theorem j8{α:Type}{p:α->Bool}{o:Option α}(h:Gg p o=true):nW p o:=by
 induction o using uW with
 |none=>exact ff h
 |some a=>exact⟨a,rfl,h⟩
def lN(F:List zL)(K:List (Str×D))(T:List jt)(ios:List Str):Bool:=
 (v5 F.length).all λi=>Gg (λfi:zL=>Gg (λfd:jt=>QA fi fd ⟨fi.scope.names,F.map (·.name),ios,K.map (·.1)⟩&&Cr fd.body) T[i]?) F[i]?
theorem b5{F:List zL}{K:List (Str×D)}{T:List jt}{ios:List Str}(ht:(F.map λfi=>KO ⟨fi.scope.names,F.map (·.name),ios,K.map (·.1)⟩ fi.body)=(T.take F.length).map λfd=>some fd.body)(h:lN F K T ios=true):o4 F K T ios:=by
 refine⟨λi fi hi=>?_⟩;have hl:i<F.length:=(List.getElem?_eq_some_iff.mp hi).1;have:=uF.mp h i (List.mem_range.mpr hl);rw[hi] at this;obtain⟨fd,hT,h2⟩:=j8 (p:=λfd:jt=>_) this;have e:=congrArg (·[i]?) ht;simp only[v6,yT hl,hi,hT,Option.map_some] at e;exact⟨fd,hT,Y3 (wZ e) (jg h2),z7 h2⟩
noncomputable def CQ(f:Value->D->Bool):List Value->List D->Bool
 |[]=>λds=>ds.isEmpty
 |v::vs=>λds=>match ds with
  |[]=>false
  |d::ds=>f v d&&CQ f vs ds
noncomputable def Zf(n:String):Value->Bool
 |.type m=>m==n
 |_=>false
theorem Ms(h:Zf n v=true):v=.type n:=by
 induction v using zbv with
 |type m=>rw[eq_of_beq (show(m==n)=true from h)]
 |_=>exact ff h
theorem Gl(hf:∀v d,f v d=true->jG P h v d):∀{ds:List D},CQ f vs ds=true->zk P h vs ds:=by
 induction vs with
 |nil=>intro ds h;induction ds using uB with
  |nil=>exact .nil
  |cons=>exact ff h
 |cons v vs ih=>intro ds h;induction ds using uB with
  |nil=>exact ff h
  |cons d ds=>exact .cons (hf v d (jg h)) (ih (z7 h))
section
variable{H:uP}{w:World}{F:List zL}{K:List (Str×D)}{mg mb:Str->Option Value}{G:List D}{T:List jt}{ios:List Str}
theorem Sf{P:Addr->Prop}{h:Heap}{vs:List Value}{ns:List Int}(r:IntsAre vs ns):zk P h vs (ns.map uT):=by
 induction r with
 |nil=>exact .nil
 |cons n t _ ih=>exact .cons (.int n t) ih
end
noncomputable def XQ:Value->Option Addr
 |.ref a=>some a
 |_=>none
noncomputable def XV:Value->Option Str
 |.str x _=>some x
 |_=>none
noncomputable def Xs:Value->Option Int
 |.int x _=>some x
 |_=>none
noncomputable def XU:Data->Option (List Value)
 |.seq vs _=>some vs.toList
 |_=>none
theorem Se(h:XQ v=some a):v=.ref a:=by
 cases v with
 |ref=>(obtain rfl:=zP h;clear h);rfl
 |_=>exact nn h
theorem S4(h:XV v=some x):∃t,v=.str x t:=by
 cases v with
 |str=>(obtain rfl:=zP h;clear h);exact⟨_,rfl⟩
 |_=>exact nn h
theorem QP(h:Xs v=some x):∃t,v=.int x t:=by
 cases v with
 |int=>(obtain rfl:=zP h;clear h);exact⟨_,rfl⟩
 |_=>exact nn h
theorem Sr(h:XU d=some l):∃vs n,d=.seq vs n/\vs.toList=l:=by
 cases d with
 |seq vs n=>(obtain rfl:=zP h;clear h);exact⟨_,_,rfl,rfl⟩
 |_=>exact nn h
def Ho(f:Addr->Option Obj)(l:Bool)(v:Value):Option (List Value):=(XQ v).bind λa=>(f a).bind λo=>if(Zf (bif l then "list" else "tuple") o.cls&&(!l||o.dict.isNone))=true then XU o.data else none
inductive dG(f:Addr->Option Obj)(l:Bool)(v:Value)(its:List Value):Prop
 |mk(a:Addr)(o:Obj)(vs:Array Value)(n:Nat)(e:v=.ref a)(ho:f a=some o)(h1:Zf (bif l then "list" else "tuple") o.cls=true)(h2:(!l||o.dict.isNone)=true)(hd:o.data=.seq vs n)(hv:vs.toList=its)
theorem JI(h:Ho f l v=some its):dG f l v its:=by
 obtain⟨a,h1,h⟩:=ob h;obtain⟨o,h2,h⟩:=ob h;obtain⟨h3,h⟩:=Ci h;obtain⟨vs,n,h4,h5⟩:=Sr h;exact⟨a,o,vs,n,Se h1,h2,jg h3,z7 h3,h4,h5⟩
theorem JJ{f g:Addr->Option Obj}(k:∀a o,f a=some o->g a=some o){l:Bool}{v:Value}{its:List Value}(h:Ho f l v=some its):Ho g l v=some its:=by
 obtain⟨a,h1,h⟩:=ob h;obtain⟨o,h2,h⟩:=ob h;rw[Ho,h1,Option.bind_some,k a o h2];exact h
noncomputable def Ox(f:Addr->Option Obj):Nat->Value->D->Bool
 |0=>λ_ _=>false
 |n+1=>λv d=>match d with
  |.str y=>Gg (λx=>decide (x=y)&&v8 y&&decide (y.length<=1000)) (XV v)
  |.int y=>Gg (λx=>decide (x=y)) (Xs v)
  |.list xs=>Gg (λvs=>CQ (Ox f n) vs xs&&decide (xs.length<=1000)) (Ho f true v)
  |.tuple xs=>Gg (λvs=>CQ (Ox f n) vs xs&&decide (xs.length<=1000)) (Ho f false v)
  |_=>false
theorem QX(h:decide (n<=1000)=true):n<=zv:=qA (of_decide_eq_true h) (by decide)
theorem VI(n:Nat):∀(v:Value) (d:D),Ox h.get? n v d=true->jG (λa=>∃o,h.get? a=some o) h v d:=by
 induction n with
 |zero=>intro v d hr;exact ff hr
 |succ n ih=>
  intro v d hr;cases d with
  |str y=>
   obtain⟨x,h1,h2⟩:=j8 hr;obtain⟨t,rfl⟩:=S4 h1;cases of_decide_eq_true (jg (jg h2));exact .str _ _ (z7 (jg h2)) (QX (z7 h2))
  |int y=>
   obtain⟨x,h1,h2⟩:=j8 hr;obtain⟨t,rfl⟩:=QP h1;cases of_decide_eq_true h2;exact .int _ _
  |list xs=>
   obtain⟨l,h1,h2⟩:=j8 hr;obtain⟨a,o,vs,m,rfl,ho,h3,h4,hd,rfl⟩:=JI h1;exact .list ⟨o,ho⟩ ho (Ms h3) (Option.isNone_iff_eq_none.mp h4) hd (Gl ih (jg h2)) (QX (z7 h2))
  |tuple xs=>
   obtain⟨l,h1,h2⟩:=j8 hr;obtain⟨a,o,vs,m,rfl,ho,h3,h4,hd,rfl⟩:=JI h1;exact .tuple ⟨o,ho⟩ ho (Ms h3) hd (Gl ih (jg h2)) (QX (z7 h2))
  |_=>exact ff hr
noncomputable def iM(f:Addr->Option Obj)(name:Str):Option (Option Value):=(f w5).bind λo=>nsIn [(w5,o)] w5 name
def HE(cs:List (Str×D))(f:Addr->Option Obj):Bool:=(cs.all λc=>Gg (λr:Option Value=>Gg (λv=>Ox f 5 v c.2) r) (iM f c.1))&&jH.all λx=>Gg (λr:Option Value=>r.isNone) (iM f x)
theorem Gk{p q:Value->D->Bool}(h:∀v d,p v d=true->q v d=true){vs:List Value}:∀{ds:List D},CQ p vs ds=true->CQ q vs ds=true:=by
 induction vs with
 |nil=>intro ds h;exact h
 |cons v vs ih=>intro ds hh;cases ds with
  |nil=>exact ff hh
  |cons d ds=>exact Bool.and_eq_true_iff.mpr ⟨h v d (jg hh),ih (z7 hh)⟩
theorem RH{f g:Addr->Option Obj}(k:∀a o,f a=some o->g a=some o){x:Str}{r:Option Value}(h:iM f x=some r):iM g x=some r:=by
 obtain⟨o,h1,h⟩:=ob h;rw[iM,k _ _ h1];exact h
theorem FF{α:Type}{p:α->Bool}{o:Option α}{a:α}(e:o=some a)(h:p a=true):Gg p o=true:=by rw[e];exact h
theorem VJ{f g:Addr->Option Obj}(k:∀a o,f a=some o->g a=some o)(n:Nat):∀(v:Value) (d:D),Ox f n v d=true->Ox g n v d=true:=by
 induction n with
 |zero=>intro v d hr;exact ff hr
 |succ n ih=>
  intro v d hr;cases d with
  |str y=>exact hr
  |int y=>exact hr
  |list xs=>
   obtain⟨l,h1,h2⟩:=j8 hr;exact FF (JJ k h1) (Bool.and_eq_true_iff.mpr ⟨Gk ih (jg h2),z7 h2⟩)
  |tuple xs=>
   obtain⟨l,h1,h2⟩:=j8 hr;exact FF (JJ k h1) (Bool.and_eq_true_iff.mpr ⟨Gk ih (jg h2),z7 h2⟩)
  |_=>exact ff hr
theorem Sq{cs:List (Str×D)}{f g:Addr->Option Obj}(k:∀a o,f a=some o->g a=some o)(h:HE cs f=true):HE cs g=true:=by
 refine Bool.and_eq_true_iff.mpr ⟨uF.mpr λc hc=>?_,uF.mpr λx hx=>?_⟩
 ·obtain⟨r,h1,h2⟩:=j8 (uF.mp (jg h) c hc);obtain⟨v,rfl,h3⟩:=j8 h2;exact FF (RH k h1) (VJ k 5 v c.2 h3)
 ·obtain⟨r,h1,h2⟩:=j8 (uF.mp (z7 h) x hx);exact FF (RH k h1) h2
def sS(cs:List (Str×D)):Hook:=⟨Bool,λs=>HE cs s.heap.get?,λ_=>true,λ_ h=>HE cs h.get?=true,λ_ _ e=>e,λ_ _ _ e k=>Sq k e⟩
theorem dH(ho:h.get? w5=some o):Frag.In [(w5,o)] h:=by
 intro a o' e;by_cases hq:a=w5
 ·subst hq;have e:some o=some o':=e
  (obtain rfl:=zP e;clear e);exact ho
 ·rw[vM,beq_eq_false_iff_ne.mpr hq] at e;exact nn e
theorem aH(Gm:h.Ns w5 mg)(hs:HE cs h.get?=true)(i:Nat)(x:Str)(d:D)(hi:cs[i]?=some (x,d)):
  ∃v,mg x=some v/\jG (λa=>∃o,h.get? a=some o) h v d:=by
 obtain⟨r,h1,h2⟩:=j8 (uF.mp (jg hs) (x,d) (v9 hi));obtain⟨v,rfl,h3⟩:=j8 h2;obtain⟨o,ho,hv⟩:=ob h1;exact⟨v,mg_of (dH ho) Gm hv,VI 5 v d h3⟩
theorem cT{cs:List (Str×D)}{h:Heap}{mg:Str->Option Value}(Gm:h.Ns w5 mg)(hs:HE cs h.get?=true):∀x∈jH,mg x=none:=by
 intro x hx;obtain⟨r,h1,h2⟩:=j8 (uF.mp (z7 hs) x hx);cases r with
 |some=>exact ff h2
 |none=>
  obtain⟨o,ho,hv⟩:=ob h1;exact ns_none_of (dH ho) Gm hv
end Mine
namespace Mine
open PySem PyProof.Rows PySem.Calls
noncomputable abbrev gE(elt it0 it1:Expr)(x0 x1:Str)(p0 p1:Pos)(scope:Scope)(pos:Pos):Expr:=.GeneratorExp elt [⟨.Name x0 p0,it0,[],0⟩,⟨.Name x1 p1,it1,[],0⟩] scope pos
def GK(C I a:Addr)(h h':Heap):Prop:=∀b o,b<=a->b≠C->b≠I->h.get? b=some o->h'.get? b=some o
def GS(C I a:Addr)(s₀ s:tX):Prop:=∃h' tk,s={s₀ with heap:=h',toks:=tk}/\GK C I a s₀.heap h'
noncomputable def gY(C I a:Addr):Protocol:=λ_ s₀ v s kap=>v=.bool false/\GS C I a s₀ s/\∀s'':tX,zx s.heap s''.heap->kap (.send .none) s''
noncomputable def gR(C I a:Addr):GenEnd:=λn s₀ r s₁=>r=.ok .next/\(n=0/\GS C I a s₀ s₁)
section
variable{C I a N:Addr}{href:Heap}{St:Nat->Heap->Prop}{i:Nat}{s₀ s s':tX}{h h':Heap}
theorem GS.refl:GS C I a s s:=⟨s.heap,s.toks,rfl,λ_ _ _ _ _ e=>e⟩
theorem GS.step(x:GS C I a s₀ s)(tk:Nat)(k:GK C I a s.heap h'):GS C I a s₀ {s with heap:=h',toks:=tk}:=by
 obtain⟨h1,t1,rfl,k1⟩:=x;exact⟨h',tk,rfl,λb o q1 q2 q3 e=>k b o q1 q2 q3 (k1 b o q1 q2 q3 e)⟩
theorem GK.of_keep(k:zx h h'):GK C I a h h':=λb o _ _ _ e=>k b o e
structure bW(C I a N:Addr)(href:Heap)(St:Nat->Heap->Prop)(i:Nat)(h:Heap):Prop where
 ns:∃m,h.Ns C m
 st:St i h
 gen:∃o,h.get? a=some o
 old:∀b o,b<N->href.get? b=some o->h.get? b=some o
theorem bW.keep(hf:∀i h h',St i h->zx h h'->St i h')(x:bW C I a N href St i h)(k:zx h h'):bW C I a N href St i h':=
 ⟨x.ns.elim λm e=>⟨m,e.keeps k⟩,hf _ _ _ x.st k,x.gen.elim λo e=>⟨o,k _ _ e⟩,λb o q e=>k b o (x.old b o q e)⟩
end
section
variable(elt it0 it1:Expr)(x0 x1:Str)(p0 p1:Pos)(scope:Scope)(pos:Pos)(it:Value)(env:Env)
theorem Na:zaA (gE elt it0 it1 x0 x1 p0 p1 scope pos) 1 it .none env=(do
   zaE it1.pos
   match <-pyNext it with
   |none=>pure (.done .next)
   |some v=>
    yJ (.Name x1 p1) it v
    assign (.Name x1 p1) env v
    (do let v <-eval elt env;zaE elt.pos;let _ <-yieldOut env v)
    again (.compLoop (gE elt it0 it1 x0 x1 p0 p1 scope pos) 1 it .none env)):=by rfl
theorem KB:zaA (gE elt it0 it1 x0 x1 p0 p1 scope pos) 0 it .none env=(do
   zaE it0.pos
   match <-pyNext it with
   |none=>pure (.done .next)
   |some v=>
    yJ (.Name x0 p0) it v
    assign (.Name x0 p0) env v
    let x <-eval it1 env
    zaE it1.pos
    let x <-xH it1 env x;let j <-holding [x] (pyIter x);let _ <-runOwn (.compStart (gE elt it0 it1 x0 x1 p0 p1 scope pos) 1 j .none env) env
    again (.compLoop (gE elt it0 it1 x0 x1 p0 p1 scope pos) 0 it .none env)):=by rfl
end
section
variable{H:uP}{w:World}{A:uY}{elt it0 it1:Expr}{x0 x1:Str}{p0 p1:Pos}{scope:Scope}{pos:Pos}{cenv:Env}{C I a N I1 le:Addr}{href:Heap}{St St1:Nat->Heap->Prop}
structure X9(cenv:Env)(x0 x1:Str)(C:Addr):Prop where
 loc:cenv.locals=C
 k0:cenv.kindOf x0=some .local
 k1:cenv.kindOf x1=some .local
 nop:(cenv.scope.kind==.class||(cenv.scope.kind==.module&&cenv.locals != cenv.globals))=false
 co:cenv.scope.isCoroutine=false
theorem aJ{kf:Result->Sem Fin}{l:List Value}{c0:Code}{q0:Pos}{i r n1:Nat}{evs:Array Value}(hh:A.handled=none)(E:X9 cenv x0 x1 C)(hC:C<a/\N<=C)(hI:I<=a/\N<=I/\I≠C)(h1:a<I1)(hle:le<N)
  (hf:∀i h h',St i h->(∀b o,b<N\/b=I->h.get? b=some o->h'.get? b=some o)->St i h')
  (W:∀A':uY,A'.handled=none->Walks H w A' I1 [I1,le] [I1] n1 (λj v=>evs[j]?=some v) St1)
  (helt:∀(A':uY) (E' Q:Value->tX->Prop) (s:tX) (j:Nat) (v:Value) (m:Str->Option Value),A'.handled=none->A'.units<=A.units+6->evs[j]?=some v->s.heap.Ns C m->m x1=some v->(∀b o,b<N->href.get? b=some o->s.heap.get? b=some o)->
   (∀h' tk,zx s.heap h'->Q (.bool false) {s with heap:=h',toks:=tk})->wpAny (model H w) A' (eval elt cenv) Q E' s)
  (hu0:c0.cUnits<=3)
  (hend:∀s₀ s,bW C I a N href St i s.heap->GS C I a s₀ s->Seg (model H w) A (gR C I a) (gY C I a) r s₀ c0 (kf (.ok .next)) [] s):
  ∀(k j:Nat) (s₀ s:tX),n1 - j=k->j<=n1->St1 j s.heap->bW C I a N href St i s.heap->GS C I a s₀ s->
   Seg (model H w) A (gR C I a) (gY C I a) (k+r) s₀ (.compLoop (gE elt it0 it1 x0 x1 p0 p1 scope pos) 1 (.ref I1) .none cenv) ((model H w).den (.compLoop (gE elt it0 it1 x0 x1 p0 p1 scope pos) 1 (.ref I1) .none cenv)) [.ret kf none false l c0 q0 []] s:=by
 have hh':(A.over (.compLoop (gE elt it0 it1 x0 x1 p0 p1 scope pos) 1 (.ref I1) .none cenv) [.ret kf none false l c0 q0 []]).handled=none:=hh;have hC1:C≠I1:=vA (uS hC.1 h1);have hI1:I≠I1:=vA (qB hI.1 h1);have inN:∀{b},b<N->b≠I1:=λh q=>zad _ (uS (q▸h) (qB (qA hI.2.1 hI.1) h1));have inC:∀{b},b<N->b≠C:=λh q=>zad _ (qD (q▸h) hC.2);have upN:∀{h h':Heap},(∀b o,b∉[I1]->h.get? b=some o->h'.get? b=some o)->∀b o,b≠I1->h.get? b=some o->h'.get? b=some o:=λk b o q e=>k b o (λz=>q (List.mem_singleton.mp z)) e;intro k;induction k with
 |zero=>
  intro j s₀ s hk hj hst hg hs;have hjn:j=n1:=y3 hj (zbf hk);subst hjn;show Seg _ A _ _ _ s₀ _ ((zaA (gE elt it0 it1 x0 x1 p0 p1 scope pos) 1 (.ref I1) .none cenv).onRaise _) _ s;rw[Na,yC];refine vL (wH ?_);refine vL ((W _ hh').done s _ _ hst λh' tk hk'=>?_);replace hk':=upN hk';refine seg_leaf (.ok .next) ?_;rw[xD];refine hend _ _ ⟨hg.ns.elim λm e=>⟨m,e.at' λo q=>hk' _ o hC1 q⟩,hf _ _ _ hg.st λb o q e=>hk' b o (q.elim inN λz=>z▸hI1) e,hg.gen.elim λo e=>⟨o,hk' _ o (vA h1) e⟩,λb o q e=>hk' b o (inN q) (hg.old b o q e)⟩ (hs.step tk λb o q _ _ e=>hk' b o (vA (qB q h1)) e)
 |succ k ih=>
  intro j s₀ s hk hj hst hg hs;have hlt:j<n1:=Nat.lt_of_sub_eq_succ hk;show Seg _ A _ _ _ s₀ _ ((zaA (gE elt it0 it1 x0 x1 p0 p1 scope pos) 1 (.ref I1) .none cenv).onRaise _) _ s;rw[Na,yC];refine vL (wH ?_);refine vL ((W _ hh').item j s _ _ hlt hst λv h₁ tk₁ hPv hst₁ hk₁=>?_);replace hk₁:=upN hk₁;refine vL (za9 (rfl:yJ (.Name x1 p1) (.ref I1) v=pure ()) ?_);obtain⟨m,hm⟩:=hg.ns;have hm₁:h₁.Ns cenv.locals m:=by rw[E.loc];exact hm.at' λo q=>hk₁ _ o hC1 q
  refine vL (zap (zbh E.k1 hm₁ (λh₂ hn₂ hs₂=>?_) E.nop));rw[E.loc] at hn₂ hs₂;have up₂:∀b o,b≠C->b≠I1->s.heap.get? b=some o->h₂.get? b=some o:=λb o q1 q2 e=>hs₂.extBut b o q1 (hk₁ b o q2 e);have old₂:∀b o,b<N->href.get? b=some o->h₂.get? b=some o:=λb o q e=>up₂ b o (inC q) (inN q) (hg.old b o q e);have st₂:St1 (j+1) h₂:=(W A hh).frame _ _ _ hst₁ λb hb o e=>hs₂.extBut b o (by
   rcases List.mem_cons.mp hb with q|q
   ·rw[q];exact y7 hC1
   ·rw[List.mem_singleton.mp q];exact inC hle) e
  have hy:∀v,yieldOut cenv v=yieldValue v:=λv=>by simp only[yieldOut,E.co,vQ,if_false]
  simp only[hy];rw[Sem.bind_eq_wrap',Sem.bind_eq_wrap',Sem.wrap_wrap,Sem.wrap_wrap];refine seg_wrap (helt _ _ _ _ j v _ hh' ?_ hPv hn₂ (by simp) old₂ λh₃ tk₃ hk₃=>?_)
  ·show A.units+unitsOf [(c0,q0)]+0<=_;rw[unitsOf_cons,unitsOf_nil];lia
  rw[show k+1+r=(k+r)+1 from Nat.succ_add k r];have keep₃:∀b o,b≠C->b≠I1->s.heap.get? b=some o->h₃.get? b=some o:=λb o q1 q2 e=>hk₃ b o (up₂ b o q1 q2 e);refine seg_at (seg_yield rfl rfl rfl ⟨rfl,hs.step tk₃ λb o q1 q2 q3 e=>keep₃ b o q2 (vA (qB q1 h1)) e,λs'' hal=>?_⟩);have keep₄:∀b o,b≠C->b≠I1->s.heap.get? b=some o->s''.heap.get? b=some o:=λb o q1 q2 e=>hal b o (keep₃ b o q1 q2 e);refine seg_again rfl (ih (j+1) s'' s'' (congrArg Nat.pred hk) hlt ((W A hh).frame _ _ _ st₂ λb hb o e=>hal b o (hk₃ b o e)) ⟨⟨_,(hn₂.keeps hk₃).keeps hal⟩,hf _ _ _ hg.st λb o q e=>?_,hg.gen.elim λo e=>⟨o,?_⟩,λb o q e=>hal b o (hk₃ b o (old₂ b o q e))⟩ GS.refl)
  ·rcases q with q|q
   ·exact keep₄ b o (inC q) (inN q) e
   ·exact keep₄ b o (q▸hI.2.2) (q▸hI1) e
  ·exact keep₄ _ o (y7 (vA hC.1)) (vA h1) e
abbrev iE(elt it0 it1:Expr)(x0 x1:Str)(p0 p1:Pos)(scope:Scope)(pos:Pos):=gE elt it0 it1 x0 x1 p0 p1 scope pos
theorem HF{d:Nat}{fs:List Frame}{R:GenEnd}{Y:Protocol}{n n1:Nat}{s₀ s:tX}{J:Addr}{fp wr:List Addr}{PV:Nat->Value->Prop}(hd:d=0\/d=1)(hh:(A.over (.compStart (gE elt it0 it1 x0 x1 p0 p1 scope pos) d (.ref J) .none cenv) fs).handled=none)
  (W:∀A':uY,A'.handled=none->Walks H w A' J fp wr n1 PV St1)(hst:St1 0 s.heap)
  (h:Seg (model H w) A R Y n s₀ (.compLoop (gE elt it0 it1 x0 x1 p0 p1 scope pos) d (.ref J) .none cenv) ((model H w).den (.compLoop (gE elt it0 it1 x0 x1 p0 p1 scope pos) d (.ref J) .none cenv)) fs s):
  Seg (model H w) A R Y n s₀ (.compStart (gE elt it0 it1 x0 x1 p0 p1 scope pos) d (.ref J) .none cenv) ((model H w).den (.compStart (gE elt it0 it1 x0 x1 p0 p1 scope pos) d (.ref J) .none cenv)) fs s:=by
 rcases hd with rfl|rfl
 ·show Seg _ A _ _ _ s₀ _ ((compStart (gE elt it0 it1 x0 x1 p0 p1 scope pos) 0 (.ref J) .none cenv).onRaise (leaving cenv)) fs s;unfold compStart;rw[yC];show Seg _ A _ _ _ s₀ _ ((ask >>= _).wrap _ _ _ _) fs s;refine vL (wpAny_askSetting ?_);split
  ·exact seg_again rfl h
  ·exact vL (wpAny_rule (vL (wH (vL ((W _ hh).self 0 s _ _ hst (seg_again rfl h))))))
 ·show Seg _ A _ _ _ s₀ _ ((compStart (gE elt it0 it1 x0 x1 p0 p1 scope pos) 1 (.ref J) .none cenv).onRaise _) fs s;unfold compStart;rw[yC];show Seg _ A _ _ _ s₀ _ ((ask >>= _).wrap _ _ _ _) fs s;refine vL (wpAny_askSetting ?_);split
  ·exact seg_again rfl h
  ·exact vL (wpAny_rule (vL (wH (vL ((W _ hh).self 0 s _ _ hst (seg_again rfl h))))))
end
section
variable{H:uP}{w:World}{A:uY}{elt it0 it1:Expr}{x0 x1:Str}{p0 p1:Pos}{scope:Scope}{pos:Pos}{cenv:Env}{C I a N lg:Addr}{href:Heap}{St:Nat->Heap->Prop}
structure qX(H:uP)(w:World)(cenv:Env)(x0 x1:Str)(it1 elt:Expr)(C N U:Nat)(href:Heap)(gvs:Array Value)(lens:List Nat)(EV:Value->Prop):Prop where
 elt:∀(A':uY) (E' Q:Value->tX->Prop) (s:tX) (v:Value) (m:Str->Option Value),A'.handled=none->A'.units<=U->EV v->s.heap.Ns C m->m x1=some v->(∀b o,b<N->href.get? b=some o->s.heap.get? b=some o)->
   (∀h' tk,zx s.heap h'->Q (.bool false) {s with heap:=h',toks:=tk})->wpAny (model H w) A' (eval elt cenv) Q E' s
 it:∀(A':uY) (E' Q:Value->tX->Prop) (s:tX) (i:Nat) (v:Value) (m:Str->Option Value),A'.handled=none->A'.units<=U->gvs[i]?=some v->s.heap.Ns C m->m x0=some v->(∀b o,b<N->href.get? b=some o->s.heap.get? b=some o)->
   (∀le evs h' tk,le<N->href.IsList le evs->lens[i]?=some evs.size->(∀(j:Nat) (v:Value),evs[j]?=some v->EV v)->zx s.heap h'->Q (.ref le) {s with heap:=h',toks:=tk})->wpAny (model H w) A' (eval it1 cenv) Q E' s
 fold:∀x,xH it1 cenv x=pure x
theorem VN(hh:A.handled=none)(E:X9 cenv x0 x1 C)(hC:C<a/\N<=C)(hI:I<a/\N<=I/\I≠C)(hg:lg<N)
  (hf:∀i h h',St i h->(∀b o,b<N\/b=I->h.get? b=some o->h'.get? b=some o)->St i h')
  (W:∀A':uY,A'.handled=none->Walks H w A' I [I,lg] [I] n0 (λj v=>gvs[j]?=some v) St)(hlen:lens.length=n0)
  (V:qX H w cenv x0 x1 it1 elt C N (A.units+6) href gvs lens EV):
  ∀(k i:Nat) (s₀ s:tX),n0 - i=k->i<=n0->bW C I a N href St i s.heap->GS C I a s₀ s->
   Seg (model H w) A (gR C I a) (gY C I a) (lens.drop i).sum s₀ (.compLoop (gE elt it0 it1 x0 x1 p0 p1 scope pos) 0 (.ref I) .none cenv) ((model H w).den (.compLoop (gE elt it0 it1 x0 x1 p0 p1 scope pos) 0 (.ref I) .none cenv)) [] s:=by
 have hh':(A.over (.compLoop (gE elt it0 it1 x0 x1 p0 p1 scope pos) 0 (.ref I) .none cenv) []).handled=none:=hh;have hu:(A.over (.compLoop (gE elt it0 it1 x0 x1 p0 p1 scope pos) 0 (.ref I) .none cenv) []).units<=A.units+6:=uD (show 3<=6 by decide) A.units;have inC:∀{b},b<N->b≠C:=λh q=>zad _ (qD (q▸h) hC.2);have inI:∀{b},b<N->b≠I:=λh q=>zad _ (qD (q▸h) hI.2.1);have upN:∀{h h':Heap},(∀b o,b∉[I]->h.get? b=some o->h'.get? b=some o)->∀b o,b≠I->h.get? b=some o->h'.get? b=some o:=λk b o q e=>k b o (λz=>q (List.mem_singleton.mp z)) e;have aC:a≠C:=y7 (vA hC.1);intro k;induction k with
 |zero=>
  intro i s₀ s hk hi hg hs;have hin:i=n0:=y3 hi (zbf hk)
  (replace hin:=vR hin;subst hin)
  show Seg _ A _ _ _ s₀ _ ((zaA (gE elt it0 it1 x0 x1 p0 p1 scope pos) 0 (.ref I) .none cenv).onRaise _) _ s;rw[KB,yC];refine vL (wH ?_);refine vL ((W _ hh').done s _ _ hg.st λh' tk hk'=>?_);exact seg_end (.ok .next) ⟨rfl,by rw[List.drop_of_length_le (vC hlen)];rfl,hs.step tk λb o _ _ q e=>upN hk' b o q e⟩
 |succ k ih=>
  intro i s₀ s hk hi hg hs;have hlt:i<n0:=Nat.lt_of_sub_eq_succ hk;show Seg _ A _ _ _ s₀ _ ((zaA (gE elt it0 it1 x0 x1 p0 p1 scope pos) 0 (.ref I) .none cenv).onRaise _) _ s;rw[KB,yC];refine vL (wH ?_);refine vL ((W _ hh').item i s _ _ hlt hg.st λv h₁ tk₁ hPv hst₁ hk₁=>?_);replace hk₁:=upN hk₁;refine vL (za9 (rfl:yJ (.Name x0 p0) (.ref I) v=pure ()) ?_);obtain⟨m,hm⟩:=hg.ns;have hm₁:h₁.Ns cenv.locals m:=by rw[E.loc];exact hm.at' λo q=>hk₁ _ o (y7 hI.2.2) q
  refine vL (zap (zbh E.k0 hm₁ (λh₂ hn₂ hs₂=>?_) E.nop));rw[E.loc] at hn₂ hs₂;have up₂:∀b o,b≠C->b≠I->s.heap.get? b=some o->h₂.get? b=some o:=λb o q1 q2 e=>hs₂.extBut b o q1 (hk₁ b o q2 e);have old₂:∀b o,b<N->href.get? b=some o->h₂.get? b=some o:=λb o q e=>up₂ b o (inC q) (inI q) (hg.old b o q e);have st₂:St (i+1) h₂:=(W A hh).frame _ _ _ hst₁ λb hb o e=>hs₂.extBut b o (by
   rcases List.mem_cons.mp hb with q|q
   ·rw[q];exact hI.2.2
   ·rw[List.mem_singleton.mp q];exact inC ‹_›) e
  obtain⟨og,hog⟩:=hg.gen;refine vL (V.it _ _ _ _ i v _ hh' hu hPv hn₂ (by simp) old₂ λle evs h₃ tk₃ hle hl hln hev hk₃=>?_);refine vL (wH ?_);refine vL (za9 (V.fold _) ?_);have hl₃:h₃.IsList le evs:=hl.at λo e=>hk₃ _ o (old₂ _ o hle e);refine vL (y9 (wpAny_pyIter_list hl₃ ?_));have hog₃:h₃.get? a=some og:=hk₃ _ _ (up₂ _ _ aC (y7 (vA hI.1)) hog);have haI:a<h₃.objs.size:=wU hog₃;have hne:le≠h₃.objs.size:=vA (uS hle (qB hC.2 (uS hC.1 haI)));have hsum:(lens.drop i).sum=evs.size+(lens.drop (i+1)).sum:=by
   rw[wW (by rw[hlen];exact hlt),List.sum_cons];rw[uA (by rw[hlen];exact hlt)] at hln;rw[wZ hln]
  rw[hsum];refine seg_call λp=>?_;have W1:∀A':uY,A'.handled=none->Walks H w A' h₃.objs.size [h₃.objs.size,le] [h₃.objs.size] evs.size (λj v=>evs[j]?=some v) (λi h=>h.IsListIter h₃.objs.size le i/\h.IsList le evs):=λA' hA=>Walks.list hA _ _ hne evs;have k₄:∀{o'},zx h₃ (h₃.push o'):=λ{o'}=>zx.push _ _;have keep₄:∀{o'} b o,b≠C->b≠I->s.heap.get? b=some o->(h₃.push o').get? b=some o:=λb o q1 q2 e=>k₄ b o (hk₃ b o (up₂ b o q1 q2 e));refine HF (.inr rfl) hh W1 ⟨⟨_,uX _ rfl,rfl,rfl⟩,hl₃.at λo e=>k₄ _ o e⟩ (aJ (N:=N) (href:=href) (i:=i+1) (r:=(lens.drop (i+1)).sum) hh E hC ⟨qC hI.1,hI.2⟩ haI hle hf W1 (λA' E' Q s j v m g1 g2 g3=>V.elt A' E' Q s v m g1 g2 (hev j v g3)) (uK _) (λt₀ t g1 g2=>?_) evs.size 0 _ _ (Nat.sub_zero _) (uZ _) ⟨⟨_,uX _ rfl,rfl,rfl⟩,hl₃.at λo e=>k₄ _ o e⟩ ⟨⟨_,(hn₂.keeps hk₃).keeps k₄⟩,hf _ _ _ st₂ λb o _ e=>k₄ b o (hk₃ b o e),⟨og,k₄ _ _ hog₃⟩,λb o q e=>k₄ b o (hk₃ b o (old₂ b o q e))⟩ (hs.step tk₃ λb o q1 q2 q3 e=>keep₄ b o q2 q3 e));exact seg_again rfl (ih (i+1) t₀ t (congrArg Nat.pred hk) hlt g1 g2)
end
structure GA(H:uP)(w:World)(A:uY)(C I a:Addr)(g n:Nat)(s:tX):Prop where
 gen:s.heap.IsGen a g
 lim:s.heap.NoLimit
 go:∃gs,s.gens[g]?=some gs/\∀s'':tX,zx s.heap s''.heap->gs.Goes (model H w) A.in1 (gR C I a) (gY C I a) n (.send .none) s''
structure GE(C I a:Addr)(g:Nat)(s s':tX):Prop where
 keep:GK C I a s.heap s'.heap
 os:s'.os=s.os
 gens:GenOnly g s.gens s'.gens
 fin:s'.gens[g]?=some .finished
section
variable{H:uP}{w:World}{A:uY}{C I a:Addr}{g:Nat}{R:Result->tX->Prop}
theorem Pl(hh:A.handled=none)(hroom:A.depth<zaV)(hC:C<a)(hI:I<a)(cC:yY≠C)(cI:yY≠I)(ca:yY<=a):∀(n:Nat) (s:tX),GA H w A.in1 C I a g n s->(∀s',GE C I a g s s'->R (.ok (.ret (.bool false))) s')->
  zaD (model H w) A (.builtin "any.loop" ⟨[.ref a],[]⟩) R s:=by
 intro n;induction n with
 |zero=>
  intro s ga hR;obtain⟨gs,hgs,hgo⟩:=ga.go;refine zah F.entry_any_loop ?_;rw[yM zbc _];show wpAny _ A.in1 (pyNext (.ref a) >>= _) _ _ s;refine tY (wpAny_pyNext_genexp (P:=λn s₀ s₁=>n=0/\GS C I a s₀ s₁) hh ga.lim hroom ga.gen hgs (hgo _ (zx.refl _)) (λv s₁ gs' hv=>?_) (λs₁ hp h' hk=>?_))
  ·exact(hv.2.2 s₁ (zx.refl _)).elim
  ·refine tY (wpAny_rule (uC (hR _ ?_)));obtain⟨_,h₁,tk₁,rfl,hk₁⟩:=hp;exact⟨λb o q1 q2 q3 e=>hk b o (hk₁ b o q1 q2 q3 e),rfl,(zbx s g .running).trans (zbx _ g .finished),setGen_self (gs:=.running) (setGen_self hgs)⟩
 |succ n ih=>
  intro s ga hR;obtain⟨gs,hgs,hgo⟩:=ga.go;refine zah F.entry_any_loop ?_;rw[yM zbc _];show wpAny _ A.in1 (pyNext (.ref a) >>= _) _ _ s;refine tY (wpAny_pyNext_genexp (P:=λn s₀ s₁=>n=0/\GS C I a s₀ s₁) hh ga.lim hroom ga.gen hgs (hgo _ (zx.refl _)) (λv s₁ gs' hv=>?_) (λs₁ hp h' hk=>?_))
  ·obtain⟨rfl,⟨h₁,tk₁,rfl,hk₁⟩,hkap⟩:=hv;refine tY (y9 (xI ?_));refine tY (wpAny_letGo ?_);simp only[vQ,if_false];refine uC ⟨plainId_quiet zbc _,ih _ ⟨?_,?_,gs',setGen_self (gs:=.running) (setGen_self hgs),λs'' hal=>hkap s'' hal⟩ λs' x=>hR s' ?_⟩
   ·obtain⟨o,nm,qn,ho,r⟩:=ga.gen;exact⟨o,nm,qn,hk₁ _ _ (uK _) (y7 (vA hC)) (y7 (vA hI)) ho,r⟩
   ·obtain⟨mc,hns,hnn⟩:=ga.lim;exact⟨mc,hns.at' λo e=>hk₁ _ o ca cC cI e,hnn⟩
   ·exact⟨λb o q1 q2 q3 e=>x.keep b o q1 q2 q3 (hk₁ b o q1 q2 q3 e),x.os,((zbx s g .running).trans (zbx _ g gs')).trans x.gens,x.fin⟩
  ·exact absurd hp.1 (yW n)
theorem PM(hh:A.handled=none)(hroom:A.depth<zaV)(hC:C<a)(hI:I<a)(cC:yY≠C)(cI:yY≠I)(ca:yY<=a)(ga:GA H w A.in1 C I a g n s)
  (hQ:∀s',GE C I a g s s'->Q (.bool false) s'):wpAny (model H w) A (call (.builtin "any") [.ref a]) Q E s:=by
 refine call_function_tree F.kind_any F.plain_any F.entry_any (F.args_any1 _) ?_;unfold Builtin.«any»;refine tY (m:=oneArg "any" _) (uC ?_)
 refine tY (wpAny_pyIter_gen ga.gen ?_);exact uC ⟨plainId_quiet zbc _,Pl hh hroom hC hI cC cI ca n s ga hQ⟩
end
theorem NP(elt it0 it1:Expr)(x0 x1:Str)(p0 p1:Pos)(scope:Scope)(pos:Pos)(env:Env)(hco:scope.isCoroutine=false):
  eval (gE elt it0 it1 x0 x1 p0 p1 scope pos) env=(do
   let x <-eval it0 env
   zaE it0.pos
   let x <-genFold it0 env x;let it <-holding [x] (pyIter x)
   enterFrame
   let cl <-closureFor scope env;let code <-genexprCode env pos (env.qual++"<genexpr>") scope
   let bi <-builtinsFor env.globals env.builtins;let cenv <-newFunctionEnv scope env.globals cl [(".0",it)] (env.qual++"<genexpr>.") none code none bi
   newGenerator (.compStart (gE elt it0 it1 x0 x1 p0 p1 scope pos) 0 it .none cenv) "<genexpr>" (env.qual++"<genexpr>")):=by
 rw[arm_eval_GeneratorExp];simp only[hco,vQ,if_false];induction it0 using v4<;>rfl
section
variable{M:Model}{A:uY}{E:Value->tX->Prop}{s:tX}{elt it0 it1:Expr}{x0 x1:Str}{p0 p1:Pos}{scope:Scope}{pos:Pos}{env:Env}{cl:List (Str×Addr)}{Q:Value->tX->Prop}
theorem oK(it:Value):(λy:Str=>([((".0" : Str),it)]:List (Str×Value)).reverse.lookup y)=λy:Str=>if y=(".0" : Str) then some it else none:=by
 funext y
 show(match y==(".0" : Str) with|true=>some it|false=>none)=_
 by_cases h:y=(".0" : Str)
 ·rw[if_pos h,beq_iff_eq.mpr h]
 ·rw[if_neg h,beq_eq_false_iff_ne.mpr h]
theorem QB(hco:scope.isCoroutine=false)(hclos:closureFor scope env=pure cl)(hcell:∀y∈scope.names,y.2≠.cell)(h0:scope.names.lookup (".0" : Str)=some NameKind.local)(hkind:scope.kind=.function)
  (hroom:A.depth<zaV)
  (h:wpAny M A (eval it0 env) (λxv s₁=>wpAny M A (pyIter xv) (λit s₂=>s₂.heap.NoLimit/\
   wpAny M A (genexprCode env pos (env.qual++"<genexpr>") scope) (λcode s₃=>wpAny M A (builtinsFor env.globals env.builtins) (λbi s₄=>
    ∀h',h'.Ns s₄.heap.objs.size (λy=>if y=".0" then some it else none)->w6 s₄.heap.objs.size (s₄.heap.push {cls:=.type "frame",data:=.dict #[]}) h'->
     Q (.ref h'.objs.size) {s₄ with
      gens:=s₄.gens.push (.fresh (.compStart (gE elt it0 it1 x0 x1 p0 p1 scope pos) 0 it .none (genEnv scope cl s₄.heap.objs.size code bi env))),
      toks:=s₄.toks+1+1+1,
      heap:=h'.push {cls:=.type "generator",data:=.fields #[.int s₄.gens.size 0,.str "<genexpr>" (s₄.toks+1),.str (env.qual++"<genexpr>") (s₄.toks+1+1)]}}) E s₃) E s₂) E s₁) E s)
  (hs:∀x,genFold it0 env x=pure x):
  wpAny M A (eval (gE elt it0 it1 x0 x1 p0 p1 scope pos) env) Q E s:=by
 rw[NP _ _ _ _ _ _ _ _ _ _ hco,hclos];refine tY (vI h (λxv s₁ h₁=>tY (wH (tY (za9 (hs xv) (tY (y9 (vI h₁ (λit s₂ h₂=>?_) λ_ _ e=>e))))))) λ_ _ e=>e);refine tY (wpAny_enterFrame h₂.1 hroom (tY (uC (tY (vI h₂.2 (λcode s₃ h₃=>tY (vI h₃ (λbi s₄ h₄=>?_) λ_ _ e=>e)) λ_ _ e=>e)))));refine tY (wpAny_newFunctionEnv hcell (λy hy=>by rw[List.mem_singleton.mp hy];exact h0) (λh' hn' hs'=>?_) hkind);rw[oK] at hn';simp only[newGenerator,newFields];exact tY (wpAny_newGen (tY (wpAny_mkText (tY (wpAny_mkText (yL (h₄ h' hn' hs') (by size_fits)))))))
end
inductive Pd:D->Prop
 |mk{xs:List D}{b:Bool}(h:xs[2]?=some (.bool b)):Pd (.tuple xs)
inductive Ed:D->Prop
 |mk{xs es:List D}(h:xs[2]?=some (.list es))(he:∀d∈es,Pd d):Ed (.tuple xs)
noncomputable def fD:D->Nat
 |.tuple xs=>match xs[2]? with
  |some (w8 es)=>es.length
  |_=>0
 |_=>0
section
variable{P:Addr->Prop}{h:Heap}
theorem zk.at{vs:List Value}{ds:List D}(r:zk P h vs ds){i:Nat}{v:Value}(hv:vs[i]?=some v):∃d,ds[i]?=some d/\jG P h v d:=by
 have hi:i<ds.length:=by rw[<-r.length];exact(List.getElem?_eq_some_iff.mp hv).1
 have hd:=uA hi;obtain⟨v',h1,h2⟩:=r.get hd;rw[hv] at h1;injection h1 with h1
 exact⟨_,hd,h1▸h2⟩
theorem Te{h':Heap}{a:Addr}{vs:Array Value}(x:IsTup h a vs)(k:∀o,h.get? a=some o->h'.get? a=some o):IsTup h' a vs:=let ⟨o,ho,r⟩:=x;⟨o,k o ho,r⟩
inductive T3(P:Addr->Prop)(h:Heap)(e:D):Value->Prop
 |mk{a:Addr}{vs:Array Value}{u:Value}(p:P a)(t:IsTup h a vs)(z:vs.size<=zv)(hu:vs[2]?=some u)(r:jG P h u e):T3 P h e (.ref a)
theorem jG.third{v:Value}{xs:List D}{e:D}(r:jG P h v (.tuple xs))(he:xs[2]?=some e):T3 P h e v:=by
 cases r with
 |tuple p ho hc hd ra hz=>
  obtain⟨u,h1,h2⟩:=ra.get he;exact⟨p,Ck ho hc hd,by rw[jc ra];exact hz,by simpa using h1,h2⟩
end
section
variable{H:uP}{w:World}{zc:Heap}{A:uY}{E:Value->tX->Prop}{env:Env}{s:tX}{Q:Value->tX->Prop}
theorem qZ{x:Str}{p q pos:Pos}{k:Nat}{a:Addr}{vs:Array Value}{u:Value}(hk:env.scope.kind=.function)(hp:zE x=true)(hv:zz env s.heap x (.ref a))(ht:IsTup s.heap a vs)(hz:vs.size<=zv)(hu:vs[2]?=some u)
  (h:∀tk,Q u {s with toks:=tk}):wpAny (model H w) A (eval (.Subscript (.Name x p) (.Constant (.int 2) k q) pos) env) Q E s:=by
 refine Subscript_ (kR hk hp hv (zaT ?_));have h2:(2:Nat)<vs.size:=(Array.getElem?_eq_some_iff.mp hu).1;refine D4 (X:="tuple") ht.typeIs slot_tuple_getitem.lookup (zbB (j:=2) ht (by decide) (by decide) ?_ hu (h _))
 unfold zaS;simp;exact Int.ofNat_lt.mpr ‹_›
end
section
variable{H:uP}{w:World}{zc:Heap}{F:List zL}{K:List (Str×D)}{mg mb:Str->Option Value}{cx:Cx}{cenv:Env}{x0 x1 f g:Str}{q1 q2 q3 q4 q5 q6 q7 q8 q9 qd:Pos}{k1 k2:Nat}{C N U:Nat}{href:Heap}{gvs:Array Value}{gs:List D}
noncomputable abbrev nE(x0:Str)(k2:Nat)(q1 q2 q3:Pos):Expr:=.Subscript (.Name x0 q1) (.Constant (.int 2) k2 q2) q3
theorem sQ(B:kq F K mg mb zc)(hL:CY cx cenv)(hk:cenv.scope.kind=.function)(hg:cenv.globals=w5)(hb:cenv.builtins=wM)(hloc:cenv.locals=C)(hk0:cenv.kindOf x0=some .local)(hk1:cenv.kindOf x1=some .local)(hp0:zE x0=true)(hp1:zE x1=true)
  (hf:cx.isB f "type"=true)(hgb:cx.isB g "bool"=true)(hbase:∀b o,zc.get? b=some o->b<N/\href.get? b=some o)(r:zk (·<N) href gvs.toList gs)(hG:∀d∈gs,Ed d){p8:Pos}:
  qX H w cenv x0 x1 (nE x0 k2 q8 q9 qd) (.UnaryOp .Not (.Compare (.Call (.Name f q1) [.Subscript (.Name x1 q2) (.Constant (.int 2) k1 q3) q4] [] q5) [.Is] [.Name g q6] p8) q7) C N U href gvs (gs.map fD) (λv=>∃d,Pd d/\jG (·<N) href v d):=by
 have stays:∀{h:Heap},(∀b o,b<N->href.get? b=some o->h.get? b=some o)->zc.StaysIn h:=λk b o e=>k b o (hbase b o e).1 (hbase b o e).2;refine⟨λA' E' Q s v m hh hu hv hn hm hold hQ=>?_,λA' E' Q s i v m hh hu hv hn hm hold hQ=>?_,λx=>rfl⟩
 ·obtain⟨d,hd,rd⟩:=hv;obtain⟨he⟩:=hd;obtain⟨p,t,z,hu3,r3⟩:=rd.third he;have hs:zc.StaysIn s.heap:=stays hold;refine UnaryOp_ (P7 Cs (Db B hL hf G8 J2 (.inr ⟨_,rfl⟩) hs hk hg hb (λ_ _ h=>nomatch h) (qZ hk hp1 (.loc m hk1 (by rw[hloc];exact hn) hm) (Te t λo e=>hold _ o p e) z hu3 λtk=>?_)));cases r3 with
  |bool b=>
   obtain⟨g1,g2,rfl⟩:=Bv hgb;refine call_type_of (PySem.typeIs_bool _ _) rfl (B.loadB hs hk hg hb (hL.glob _ g1) g2 JZ G7 (wpAny_is_plain rfl (not_of (xI ?_))));exact hQ _ _ (zx.refl _)
 ·obtain⟨d,hd,rd⟩:=r.at (by simpa using hv:gvs.toList[i]?=some v);obtain⟨he,hes⟩:=hG d (v9 hd);obtain⟨p,t,z,hu3,r3⟩:=rd.third he;refine qZ hk hp0 (.loc m hk0 (by rw[hloc];exact hn) hm) (Te t λo e=>hold _ o p e) z hu3 λtk=>?_;cases r3 with
  |list pl ho hc _ hda ra hz=>
   refine hQ _ _ _ _ pl (Ah ho hc hda) ?_ (λj v hj=>?_) (zx.refl _)
   ·rw[v6,hd];show some (match _ with|some (w8 es)=>es.length|_=>0)=_;rw[he,jc ra]
   ·obtain⟨e,h1,h2⟩:=ra.at (by simpa using hj:_[j]?=some v);exact⟨e,hes e (v9 h1),h2⟩
end
theorem Py:wP (uQ "any")=some (.builtin "any"):=by decide +kernel
theorem Vb:uQ "any"∈jH:=by decide +kernel
structure C9(zc:Heap)(env:Env)(mg:Str->Option Value)(c Pt:Addr)(h:Heap):Prop where
 code:env.code=.ref c
 isc:h.IsCode c Pt #[]
 tab:h.TableAt c Pt #[]
 hole:zc.get? Pt=none
 cne:c≠Pt
 ne:Pt≠yY
 bm:∃bm o,mg "__builtins__"=some (.ref bm)/\bm≠wM/\zc.get? bm=some o/\o.cls=.type "module"/\o.dict=some wM/\o.data=.plain
theorem jG.bnd(r:zk P h vs ds):zk (λa=>P a/\a<h.objs.size) h vs ds:=
 zk.rec (motive_1:=λv d _=>jG (λa=>P a/\a<h.objs.size) h v d) (motive_2:=λvs ds _=>zk (λa=>P a/\a<h.objs.size) h vs ds) .none .bool .int .str
  (λp ho hc hd hda _ hz ih=>.list ⟨p,wU ho⟩ ho hc hd hda ih hz) (λp ho hc hda _ hz ih=>.tuple ⟨p,wU ho⟩ ho hc hda ih hz) .nil (λ_ _ a b=>.cons a b) r
section
variable{H:uP}{w:World}{zc:Heap}{F:List zL}{K:List (Str×D)}{mg mb:Str->Option Value}{cx cx':Cx}{env:Env}{A:uY}{P:Addr->Prop}{s:tX}{x0 x1 xg f g an:Str}{q0 q1 q2 q3 q4 q5 q6 q7 q8 q9 qa qb qc qd pos p0 p1:Pos}{k1 k2:Nat}{scope:Scope}{c Pt lg:Addr}{gvs:Array Value}{gs:List D}{Q E:Value->tX->Prop}
theorem TP(B:kq F K mg mb zc)(hL:CY cx env)(han:cx.isB an "any"=true)(hs:zc.StaysIn s.heap)(hk:env.scope.kind=.function)(hg:env.globals=w5)(hb:env.builtins=wM)(hh:A.handled=none)(hroom:A.depth<zaV)
  (ca:C9 zc env mg c Pt s.heap)(hxg:zE xg=true)(hv:zz env s.heap xg (.ref lg))(hl:s.heap.IsList lg gvs)(hr:zk P s.heap gvs.toList gs)(hP:¬P Pt)(hlP:lg≠Pt)(hG:∀d∈gs,Ed d)
  (hco:scope.isCoroutine=false)(hclos:closureFor scope env=pure [])(hcell:∀y∈scope.names,y.2≠.cell)(h0:scope.names.lookup (".0" : Str)=some NameKind.local)(hkind:scope.kind=.function)
  (hcx:cx'.names=scope.names)(hnc:∀x,¬(cx'.names.lookup x=some .cell\/cx'.names.lookup x=some .free))(hk0:scope.names.lookup x0=some .local)(hk1:scope.names.lookup x1=some .local)(hp0:zE x0=true)(hp1:zE x1=true)(hf:cx'.isB f "type"=true)(hgb:cx'.isB g "bool"=true)
  (hQ:∀c' s',(∀b o,b≠Pt->s.heap.get? b=some o->s'.heap.get? b=some o)->s'.heap.TableAt c Pt (#[]++#[rawInt pos.line,rawInt pos.col,.ref c'])->s'.os=s.os->(vT s.gens->vT s'.gens)->Q (.bool false) s'):
  wpAny (model H w) A (eval (.Call (.Name an qa) [gE (.UnaryOp .Not (.Compare (.Call (.Name f q1) [.Subscript (.Name x1 q2) (.Constant (.int 2) k1 q3) q4] [] q5) [.Is] [.Name g q6] q0) q7) (.Name xg qb) (nE x0 k2 q8 q9 qd) x0 x1 p0 p1 scope pos] [] qc) env) Q E s:=by
 obtain⟨bm,ob,hbm,hbne,hbo,hbc,hbd,hbda⟩:=ca.bm;refine Db B hL han Py Vb (.inl ⟨_,rfl⟩) hs hk hg hb (λ_ _ h=>nomatch h) (QB hco hclos hcell h0 hkind hroom (kR hk hxg hv (wpAny_pyIter_list hl ⟨B.nolimit.keeps λb o e=>zx.push _ _ b o (hs b o e),?_⟩)) λx=>rfl);have kp:zx s.heap (s.heap.push {cls:=.type "list_iterator",data:=.fields #[.ref lg,.int 0 0]}):=zx.push _ _
 refine wpAny_genexprCodeX ca.code (ca.isc.keeps kp) (ca.tab.keeps kp) rfl λc' h₂ tk hx hc1 hc2 hisc hrec htab _=>?_;have ku:∀b o,b≠Pt->s.heap.get? b=some o->h₂.get? b=some o:=λb o q e=>hx b o q (kp b o e);have bs:zc.StaysIn h₂:=λb o e=>ku b o (λq=>by rw[q,ca.hole] at e;exact nn e) (hs b o e);refine wpAny_builtinsFor (by rw[hg];exact B.g.keeps bs) hbm hbne (bs _ _ hbo) hbc hbd hbda ?_;intro h₃ hn₃ hs₃;have hN:s.heap.objs.size<h₂.objs.size:=by
  rw[zas] at hc1;exact qD (w9 _) (qC (qB hc1 hc2))
 have ha:h₃.objs.size=h₂.objs.size+1:=hs₃.1.trans (zas _ _);have k3:∀b o,b≠h₂.objs.size->h₂.get? b=some o->h₃.get? b=some o:=λb o q e=>(hs₃.2 b q).trans (uO _ e);have lt:∀{b o},s.heap.get? b=some o->b<s.heap.objs.size:=λe=>wU e;have kF:∀{o'} b o,b≠Pt->s.heap.get? b=some o->(h₃.push o').get? b=some o:=λb o q e=>uO _ (k3 b o (vA (uS (lt e) hN)) (ku b o q e));have hPt:Pt<s.heap.objs.size:=lt ca.tab.2;obtain⟨oc,vc,hoc,hcc⟩:=ca.tab.1;have hIx:∀{o'},(h₃.push o').get? s.heap.objs.size=some {cls:=.type "list_iterator",data:=.fields #[.ref lg,.int 0 0]}:=λ{o'}=>uO _ (k3 _ _ (vA hN) (hx _ _ (y7 (vA hPt)) (uX _ rfl)))
 obtain⟨ol,hol,rl⟩:=id hl;have hlg:lg<s.heap.objs.size:=lt hol;have hlF:∀{o'},(h₃.push o').IsList lg gvs:=λ{o'}=>⟨ol,kF _ _ hlP hol,rl⟩;have bF:∀{o'} b o,zc.get? b=some o->b<s.heap.objs.size/\(h₃.push o').get? b=some o:=λb o e=>⟨lt (hs b o e),kF b o (λq=>by rw[q,ca.hole] at e;exact nn e) (hs b o e)⟩;have nlF:∀{o'},(h₃.push o').NoLimit:=λ{o'}=>B.nolimit.keeps λb o e=>(bF b o e).2;have hcs:yY<s.heap.objs.size:=by
  obtain⟨mc,⟨o,_,_,ho,_⟩,_⟩:=B.nolimit;exact lt (hs _ _ ho)
 have rF:∀{o'},zk (·<s.heap.objs.size) (h₃.push o') gvs.toList gs:=λ{o'}=>(jG.bnd hr).mono (λa p=>p.2) λa o p e=>⟨o,kF a o (λq=>hP (q▸p.1)) e,rfl,rfl,rfl⟩;have cL:CY cx' (genEnv scope [] h₂.objs.size (.ref c') wM env):=⟨λx e=>by rw[hcx] at e;exact e,λx e=>absurd e (hnc x)⟩;have gE':X9 (genEnv scope [] h₂.objs.size (.ref c') wM env) x0 x1 h₂.objs.size:=⟨rfl,hk0,hk1,by show(scope.kind==.class||(scope.kind==.module&&_))=false;rw[hkind];rfl,hco⟩;have hne:lg≠s.heap.objs.size:=vA hlg;have W:∀A':uY,A'.handled=none->Walks H w A' s.heap.objs.size [s.heap.objs.size,lg] [s.heap.objs.size] gvs.size (λj v=>gvs[j]?=some v) (λi h=>h.IsListIter s.heap.objs.size lg i/\h.IsList lg gvs):=λA' hA=>Walks.list hA _ _ hne gvs;have hCa:h₂.objs.size<h₃.objs.size:=by rw[ha];exact w9 _
 have hIa:s.heap.objs.size<h₃.objs.size:=uS hN hCa;refine PM (C:=h₂.objs.size) (I:=s.heap.objs.size) (g:=s.gens.size) (n:=(gs.map fD).sum) hh hroom hCa hIa (vA (uS hcs hN)) (vA hcs) (qC (uS hcs hIa)) ⟨⟨_,_,_,uX _ rfl,rfl,rfl,rfl⟩,nlF,_,Array.getElem?_push_size,λs'' hkp=>⟨rfl,?_⟩⟩ λs' ge=>?_
 ·have stF:∀{o'},zx (h₃.push o') s''.heap->s''.heap.IsListIter s.heap.objs.size lg 0/\s''.heap.IsList lg gvs:=λk=>⟨⟨_,k _ _ hIx,rfl,rfl⟩,Heap.IsList.at hlF λo e=>k _ o e⟩;refine HF (.inl rfl) hh W (stF hkp) ?_;have so:=VN (H:=H) (w:=w) (A:=A.in1.in1) (elt:=.UnaryOp .Not (.Compare (.Call (.Name f q1) [.Subscript (.Name x1 q2) (.Constant (.int 2) k1 q3) q4] [] q5) [.Is] [.Name g q6] q0) q7) (it0:=.Name xg qb) (it1:=nE x0 k2 q8 q9 qd) (x0:=x0) (x1:=x1) (p0:=p0) (p1:=p1) (scope:=scope) (pos:=pos) (a:=h₃.objs.size) (N:=s.heap.objs.size) (lg:=lg) hh gE' ⟨hCa,qC hN⟩ ⟨hIa,uK _,vA hN⟩ hlg
   (λi h h' st k=>⟨st.1.at λo e=>k _ o (.inr rfl) e,st.2.at λo e=>k _ o (.inl hlg) e⟩) W (by rw[uJ];exact(jc hr).symm) (sQ (U:=A.in1.in1.units+6) B cL hkind hg rfl rfl hk0 hk1 hp0 hp1 hf hgb bF rF hG) gvs.size 0 s'' s'' (Nat.sub_zero _) (uZ _)
   ⟨⟨_,(hn₃.push _).keeps hkp⟩,stF hkp,⟨_,hkp _ _ (uX _ rfl)⟩,λb o _ e=>hkp b o e⟩ GS.refl
  exact so
 ·refine hQ c' s' (λb o q e=>ge.keep b o (qC (uS (lt e) hIa)) (vA (uS (lt e) hN)) (vA (lt e)) (kF b o q e)) ?_ ge.os λhb=>?_
  ·obtain⟨⟨o,vs,e1,r1⟩,e2⟩:=htab;have up:∀b o,b<s.heap.objs.size->h₂.get? b=some o->s'.heap.get? b=some o:=λb o q e=>ge.keep b o (qC (uS q hIa)) (vA (uS q hN)) (vA q) (uO _ (k3 b o (vA (uS q hN)) e));exact⟨⟨o,vs,up _ _ (lt hoc) e1,r1⟩,up _ _ hPt e2⟩
  ·intro y hy;obtain⟨k,hk1,hk2⟩:=Array.mem_iff_getElem.mp hy;have hky:s'.gens[k]?=some y:=by rw[zaI hk1,hk2]
   by_cases q:k=s.gens.size
   ·rw[q,ge.fin] at hky;injection hky with hky;rw[<-hky];rfl
   ·have e:=ge.gens.2 k q;rw[hky] at e;have hlt:k<s.gens.size+1:=by have:=ge.gens.1;rw[Array.size_push] at this;lia
    have e2:s.gens[k]?=some y:=by
     rw[Array.getElem?_push,if_neg q] at e;exact e.symm
    exact hb y (Array.mem_of_getElem? e2)
end
section
variable{H:uP}{w:World}{A:uY}{E:Value->tX->Prop}{env:Env}{s:tX}{Q:Value->tX->Prop}
theorem L3(hx:(x.length==0)=false)(hy:(y.length==0)=false)(hz:(x++y).length<=yD)(h:Q (.str (x++y) s.toks) {s with toks:=s.toks+1}):wpAny (model H w) A (zay .Add (.str x t) (.str y u)) Q E s:=by
 refine binaryOp_concat (yP s x t) (yP s y u) PySem.noFill_str_add PySem.seq_str_add (call_gives PySem.F.slot_str_add (yP _ _ _) PySem.F.entry_str_add (PySem.F.args_str_add_2 _ _) (gives_str_add x y t u) ?_);rw[hx,hy];exact⟨hz,h⟩
theorem Kj(hs:j7 o=false)(hp:(ap.endLine==pos.line)=true)(ha:zK a)(hb:zK b)(hyz:(y==z)=false)(hl:x.length+(x.length+1)*z.length<=16777216)
  (h:wpAny (model H w) A (eval o env) (λov s₁=>ov=.str x t/\wpAny (model H w) A (eval a env) (λu s₂=>∃u',u=.str y u'/\u'≠0/\wpAny (model H w) A (eval b env) (λv s₃=>∃v',v=.str z v'/\v'≠0/\u'≠v'/\∀t' k,Q (.str (wE x y z) t') {s₃ with toks:=k}) E s₂) E s₁) E s):
  wpAny (model H w) A (eval (.Call (.Attribute o "replace" ap) [a,b] [] pos) env) Q E s:=by
 refine Rv hs hp ha hb za6 PySem.F.slot_str_replace PySem.F.type_str_replace (vI h (λov s₁ h₁=>?_) λ_ _ e=>e);obtain⟨rfl,h₁⟩:=h₁;refine⟨yP _ _ _,(λa e=>nomatch e),vI h₁ (λu s₂ h₂=>?_) λ_ _ e=>e⟩;obtain⟨u',rfl,hu,h₂⟩:=h₂;refine vI h₂ (λv s₃ h₃=>?_) λ_ _ e=>e;obtain⟨v',rfl,hv,huv,h₃⟩:=h₃;exact SC.replace hu hv huv hyz hl h₃
end
section
variable{H:uP}{w:World}{zc:Heap}{n:Nat}{f:CX}{st st':List VS}{ρ:zg}{P:Addr->Prop}{ad:Nat->Addr}{s s':tX}
theorem zO.storeX(c:zO H w zc n f st ρ P ad s)(hx:f.cx.tv? x=some i)(hnd:(f.cx.names.map (·.1)).Nodup)
  (hfx:jP f.fx (st.set i .f)=true)(rv:zo H w P P s.heap v d)(h:∀h' tk,zO H w zc n f (st.set i .f) (ρ.set i d) P ad {s with heap:=h',toks:=tk}->Fh f.cx.names f.env s.heap h'->zz f.env h' x v->Q () {s with heap:=h',toks:=tk}):wpAny (model H w) A (storeName f.env x v) Q E s:=
 Gu hx c.fram c.vokt hnd c.len (λa ⟨i,h1,e⟩=>e▸(c.oP i h1).2.1) c.ec.own rv λh' tk B F V S hv=>h h' tk (c.bound (tg:=.one i) (d:=d) rfl hfx B F V S) B hv
theorem zO.str(c:zO H w zc n f st ρ P ad s)(h1:f.cx.names[i]?=some (x,k))(h2:zZ k=true)(h3:VS.at st i=.f)(hy:zq ρ i=.str y):∃t,zz f.env s.heap x (.str y t)/\v8 y=true/\y.length<=zv:=by
 obtain⟨v,h4,h5⟩:=c.var i x k h1 h2 h3;rw[hy] at h5;obtain⟨t,rfl,g1,g2⟩:=h5.inv_str;exact⟨t,h4,g1,g2⟩
theorem zO.int(c:zO H w zc n f st ρ P ad s)(h1:f.cx.names[i]?=some (x,k))(h2:zZ k=true)(h3:VS.at st i=.f)(hy:zq ρ i=.int y):∃t,zz f.env s.heap x (.int y t):=by
 obtain⟨v,h4,h5⟩:=c.var i x k h1 h2 h3;rw[hy] at h5;obtain⟨t,rfl⟩:=h5.inv_int;exact⟨t,h4⟩
theorem zO.eqk(c:zO H w zc n f st ρ P ad s)(h1:f.cx.names[i]?=some (x,k))(h2:zZ k=true)(hp:zE x=true)(h3:VS.at st i=.f)(hy:zq ρ i=.int y)
  (h:∀tk,0<tk->zO H w zc n f st ρ P ad {s with toks:=tk}->Q (y==j) {s with toks:=tk}):wpAny (model H w) f.A (xU (.Compare (.Name x p) [.Eq] [.Constant (.int j) kk q] pos) f.env (eval (.Compare (.Name x p) [.Eq] [.Constant (.int j) kk q] pos) f.env)) Q E s:=by
 obtain⟨t,hv⟩:=c.int h1 h2 h3 hy;refine C5 AN (P7 AN (kR c.ec.kind hp hv (zaT (PyProof.Rows.eq_int (xI ?_)))));exact h _ (yX _) (c.ch (Ch.tok _))
end
theorem aA(x y z:Str)(hy:(y.length==0)=false):∃ps:List Str,x=wK y ps/\wE x y z=wK z ps:=by
 unfold wE;rw[hy,Bool.false_and,Bool.or_false];split
 ·exact⟨[x],rfl,rfl⟩
 ·exact⟨Builtin.Str.partsBetween x (Builtin.Str.occurrences x y 0 x.length (x.length+1)) y.length,by rw[<-xA,StrLaws.glued_between_self],by rw[<-xA]⟩
theorem UM:∀(ps:List Str) (c:Nat),c∈(wK z ps).cps.toList->c∈z.cps.toList\/∃p∈ps,c∈p.cps.toList:=by
 intro ps;induction ps with
 |nil=>intro c h;exact absurd h vJ
 |cons a r ih=>
  intro c h;cases r with
  |nil=>exact .inr ⟨a,u4,h⟩
  |cons b r=>
   change c∈(a++z++wK z (b::r)).cps.toList at h
   rw[yQ,zaF,yQ,zaF] at h;rcases List.mem_append.mp h with h|h
   ·rcases List.mem_append.mp h with h|h
    ·exact .inr ⟨a,u4,h⟩
    ·exact .inl h
   ·exact(ih c h).imp id λ⟨p,hp,hc⟩=>⟨p,u0 _ hp,hc⟩
theorem UG:∀(ps:List Str) (p:Str),p∈ps->∀c∈p.cps.toList,c∈(wK y ps).cps.toList:=by
 intro ps;induction ps with
 |nil=>intro p h;exact absurd h vJ
 |cons a r ih=>
  intro p h c hc;cases r with
  |nil=>rw[List.mem_singleton.mp h] at hc;exact hc
  |cons b r=>
   show c∈(a++y++wK y (b::r)).cps.toList;rw[yQ,zaF,yQ,zaF];rcases List.mem_cons.mp h with e|h
   ·exact zbn _ (zbn _ (e▸hc))
   ·exact xQ _ (ih p h c hc)
theorem Si(hy:(y.length==0)=false)(hx:v8 x=true)(hz:v8 z=true):v8 (wE x y z)=true:=by
 obtain⟨ps,h1,h2⟩:=aA x y z hy;rw[h2,kc];intro c hc;rcases UM ps c hc with h|⟨p,hp,h⟩
 ·exact kc.mp hz c h
 ·exact kc.mp hx c (by rw[h1];exact UG ps p hp c h)
section
variable{H:uP}{w:World}{zc:Heap}{n:Nat}{f:CX}{st:List VS}{ρ:zg}{P:Addr->Prop}{ad:Nat->Addr}{s:tX}{E:Value->tX->Prop}{Q:Flow->tX->Prop}
set_option tactic.hygienic true in
theorem aR(c:zO H w zc n f st ρ P ad s)(hnd:(f.cx.names.map (·.1)).Nodup)
  (h1:f.cx.names[i]?=some (xk,kk))(h2:zZ kk=true)(hp:zE xk=true)(h3:VS.at st i=.f)(hk:zq ρ i=.int v)(g1:f.cx.names[j]?=some (xt,kt))(g2:zZ kt=true)(gp:zE xt=true)(g3:VS.at st j=.f)(hy:zq ρ j=.str y)(ht:f.cx.tv? xt=some j)(hfx:jP f.fx (st.set j .f)=true)(hst:st.set j .f=st)
  (hb:(b.length==0)=false)(hbr:(b==r)=false)(oa:v8 a=true)(or:v8 r=true)(od:v8 d=true)(hl:y.length<=1000)(hr:r.length<=10)(hz:v=m->(a++wE y b r++d).length<=2000)(hap:(p7.endLine==p9.line)=true)
  (h:∀s',zO H w zc n f st (ρ.set j (.str (if v=m then a++wE y b r++d else y))) P ad s'->Q .next s'):
  wpAny (model H w) f.A (vH (.If (.Compare (.Name xk p0) [.Eq] [.Constant (.int m) k0 p1] p2) [.Assign [.Name xt p4] (.BinOp (.BinOp (.Constant (.str a) k1 p5) .Add (.Call (.Attribute (.Name xt p6) "replace" p7) [.Constant (.str b) k2 p8,.Constant (.str r) k3 pd] [] p9) pa) .Add (.Constant (.str d) k4 pb) pc) p3] [] p2') f.env) Q E s:=by
 have nl:(y.length+(y.length+1)*r.length)<=16777216:=by
  have:(y.length+1)*r.length<=1001*10:=Nat.mul_le_mul (uL hl) hr;lia
 refine wpAny_If (c.eqk h1 h2 hp h3 hk λtk htk c₁=>?_);obtain⟨t,hv,oy,_⟩:=c₁.str g1 g2 g3 hy;by_cases e:v=m
 ·rw[beq_iff_eq.mpr e,if_pos rfl];rw[if_pos e] at h;have hz:=hz e;have ro:=Si (y:=b) hb oy or;have hsz:(a++wE y b r).length<=2000:=qA (by rw[zba (a++wE y b r) d];exact uV _ _) hz;refine yZ (zao (wpAny_BinOp (wpAny_BinOp (yR (Kj rfl hap (λ_ _ h=>nomatch h) (λ_ _ h=>nomatch h) hbr nl (kR c.ec.kind gp (s:={s with toks:=tk+1}) hv ⟨rfl,yR ⟨_,rfl,yW _,yR ⟨_,rfl,yW _,vA (w9 _),λt' k=>?_⟩⟩⟩))))));refine zbr (λt₁ k₁=>yR (zbr (λt₂ k₂=>?_) (by rw[<-zba];exact qA hz (by decide)))) (by rw[<-zba];exact qA hsz (by decide));refine zO.store (c.ch (Ch.tok k₂)) ht hnd hfx (.rep (.str _ _ (k5 (k5 oa ro) od) (qA hz (by decide)))) λh' tk' c₂=>?_;rw[hst] at c₂;exact yK (h _ c₂)
 ·rw[beq_eq_false_iff_ne.mpr e,if_neg (by decide)];rw[if_neg e] at h;refine yK (h _ ?_);have:ρ.set j (.str y)=ρ:=by
   rw[<-hy];unfold zq;apply List.ext_getElem?;intro q;rw[za1];split
   ·rename_i e;subst e;split
    ·rename_i hq;rw[uH,uA hq];rfl
    ·rename_i hq;rw[wO (Nat.not_lt.mp hq)]
   ·rfl
  rw[this];exact c₁
end
noncomputable abbrev cE(q:Str×Nat×Pos):Expr:=.Constant (.str q.1) q.2.1 q.2.2
noncomputable def cV:List (Str×Nat×Pos)->Nat->List Value
 |[],_=>[]
 |q::r,t=>.str q.1 t::cV r (t+1)
theorem Yw:∀{ms:List (Str×Nat×Pos)} {t j:Nat} {v:Value},(cV ms t)[j]?=some v->∃q,ms[j]?=some q/\v=.str q.1 (t+j)/\j<ms.length:=by
 intro ms;induction ms with
 |nil=>intro t j v h;exact nn h
 |cons q r ih=>
  intro t j v h;cases j with
  |zero=>exact⟨q,rfl,(zP h).symm,yX _⟩
  |succ j=>
   obtain⟨q',h1,h2,h3⟩:=ih (t:=t+1) h;exact⟨q',h1,by rw[h2,wT,vD],Nat.succ_lt_succ h3⟩
theorem PF:∀(ms:List (Str×Nat×Pos)) (t:Nat),(cV ms t).length=ms.length:=by
 intro ms;induction ms with
 |nil=>intro t;rfl
 |cons q r ih=>intro t;exact congrArg (·+1) (ih _)
theorem lF{H:uP}{w:World}{A:uY}{E:Value->tX->Prop}{env:Env}{pos:Pos}:∀(ms:List (Str×Nat×Pos)) {s:tX} {Q:List Value->tX->Prop},Q (cV ms s.toks) {s with toks:=s.toks+ms.length}->wpAny (model H w) A (spliced (backTo pos (zal (ms.map cE) env))) Q E s:=by
 intro ms;induction ms with
 |nil=>intro s Q h;exact zak h
 |cons q r ih=>
  intro s Q h;rw[vZ,zD (e:=cE q) (λ_ _ h=>by cases h)];refine xL (yR (k:=q.2.1) (pos:=q.2.2) (ih (s:={s with toks:=s.toks+1}) ?_));rw[show s.toks+1+r.length=s.toks+(q::r).length from wT _ _ _];exact h
theorem Ss{ρ:zg}{i j:Nat}(h:i≠j){a b c d:D}:((((ρ.set i a).set j b).set i c).set j d)=(ρ.set i c).set j d:=by
 rw[List.set_comm _ _ (y7 h),List.set_set,List.set_set]
set_option tactic.hygienic true in
theorem D2(ρ:zg)(i:Nat):ρ.set i (zq ρ i)=ρ:=by
 unfold zq;apply List.ext_getElem?;intro q;rw[za1];split
 ·rename_i e;subst e;split
  ·rename_i hq;rw[uH,uA hq];rfl
  ·rename_i hq;rw[wO (Nat.not_lt.mp hq)]
 ·rfl
noncomputable def B6(b:Str)(x:Str)(m:Str):Str:=wE x (b++m++b) m
section
variable{H:uP}{w:World}{zc:Heap}{n:Nat}{f:CX}{st:List VS}{ρ:zg}{P:Addr->Prop}{ad:Nat->Addr}{s:tX}{E:Value->tX->Prop}{Q:Flow->tX->Prop}
theorem zO.forget{st':List VS}(c:zO H w zc n f st' ρ P ad s)(hl:st.length=st'.length)(hf:∀i,VS.at st i=.f->VS.at st' i=.f)(ho:∀i,VS.at st i≠.o)(hx:f.fx=none):zO H w zc n f st ρ P ad s:=
 {c with
  len:=hl.trans c.len
  nlen:=hl▸c.nlen
  var:=λi x k h1 h2 h3=>c.var i x k h1 h2 (hf i h3)
  own:=λi x k _ _ h3=>absurd h3 (ho i)
  oP:=λi h=>absurd h (ho i)
  dist:=λi j h=>absurd h (ho i)
  oP0:=λi h=>absurd h (ho i)
  fxa:=λi h=>by rw[hx] at h;exact nn h
  vk:=λi x k _ h=>absurd h (ho i)
  zs:=λa o q=>let ⟨g1,g2,g3,_⟩:=c.zs a o q;⟨g1,g2,g3,λi h=>absurd h (ho i)⟩}
inductive J1(H:uP)(w:World)(zc:Heap)(n:Nat)(f:CX)(st:List VS)(ρ:zg)(ad:Nat->Addr)(im it L:Nat)(Y:Nat->Str)(T:Nat)(I tp:Addr)(zA:Array Value)(m:Nat)(s:tX):Prop
 |mk(j:Nat)(t8:D)(P₁:Addr->Prop)(hj:j<=L)(hm:m=L+1 - j)(c:zO H w zc n f st ((ρ.set im t8).set it (.str (Y j))) P₁ ad s)(nP:¬P₁ I)(hi:s.heap.IsTupleIter I tp j/\s.heap.IsTuple tp zA)(hT:T<=s.toks)
def HQ(H:uP)(w:World)(zc:Heap)(n:Nat)(f:CX)(st st':List VS)(ad:Nat->Addr)(xm:Str)(j:Nat)(q x z:Str)(X:List Stmt):Prop:=
 ∀{ρ P s t N Q E},zO H w zc n f st ρ P ad s->zq ρ j=.str x->zz f.env s.heap xm (.str q t)->0<t->t<N->N<=s.toks->
  (∀h' tk,zO H w zc n f st' (ρ.set j (.str z)) P ad {s with heap:=h',toks:=tk}->Fh f.cx.names f.env s.heap h'->N<=tk->Q .next {s with heap:=h',toks:=tk})->wpAny (model H w) f.A (execs X f.env) Q E s
theorem VK{b q x:Str}(hb:(b.length==0)=false)(q4:q.length<=10)(hb10:b.length<=10)(hl:x.length<=1000):(b++q).length<=yD/\(b++q++b).length<=yD/\((b++q).length==0)=false/\((b++q++b).length==0)=false/\x.length+(x.length+1)*q.length<=16777216:=by
 have h1:(b++q).length=b.length+q.length:=zba ..;have h2:(b++q++b).length=b.length+q.length+b.length:=by rw[zba,h1]
 have h0:0<b.length:=zaM (beq_eq_false_iff_ne.mp hb);have h3:b.length+q.length<=20:=uR hb10 q4;rw[h1,h2];exact⟨qA h3 (by decide),qA (uR h3 hb10) (by decide),beq_eq_false_iff_ne.mpr (zaL (Nat.add_pos_left h0 _)),beq_eq_false_iff_ne.mpr (zaL (Nat.add_pos_right _ h0)),qA (uR hl (Nat.mul_le_mul (uL hl) q4)) (by decide)⟩
theorem Wc(hnd:(f.cx.names.map (·.1)).Nodup)
  (g1:f.cx.names[j]?=some (xt,kt))(g2:zZ kt=true)(gp:zE xt=true)(g3:VS.at st j=.f)(ht:f.cx.tv? xt=some j)(mp:zE xm=true)(hx:f.fx=none)
  (hb:(b.length==0)=false)(q1:(q.length==0)=false)(q2:(b++q++b==q)=false)(q3:v8 q=true)(q4:q.length<=10)(hb10:b.length<=10)(hl:x.length<=1000)(hl':(B6 b x q).length<=1000)(hap:(p7.endLine==p9.line)=true):
  HQ H w zc n f st (st.set j .f) ad xm j q x (B6 b x q) [.Assign [.Name xt p4] (.Call (.Attribute (.Name xt p6) "replace" p7) [.BinOp (.BinOp (.Constant (.str b) k1 pa) .Add (.Name xm pb) pc) .Add (.Constant (.str b) k2 pd) pe,.Name xm pf] [] p9) p3]:=by
 intro ρ P s t N Q E c hxj hv ht0 htN hN h;obtain⟨n1,n2,n3,n4,n5⟩:=VK hb q4 hb10 hl;obtain⟨tx,hvt,oy,_⟩:=c.str g1 g2 g3 hxj;refine yZ (zao (zbt (n:=N) hN (Kj rfl hap (λ_ _ h=>nomatch h) (λ_ _ h=>nomatch h) q2 n5 (kR c.ec.kind gp hvt ⟨rfl,?_⟩))));refine wpAny_BinOp (wpAny_BinOp (yR (kR (s:={s with toks:=s.toks+1}) c.ec.kind mp hv (L3 hb q1 n1 (yR (L3 n3 hb n2 ⟨_,rfl,yW _,kR c.ec.kind mp hv ⟨_,rfl,?_,?_,λt' k hTk=>?_⟩⟩))))))
 ·exact zaL ht0
 ·exact zaL (qD htN (qA hN (uV _ 3)))
 ·exact zbt (n:=N) hTk (zO.storeX (c.ch (Ch.tok k)) ht hnd (by rw[hx];rfl) (.rep (.str _ _ (Si n4 oy q3) (qA hl' (by decide)))) λh₅ tk₅ c₆ B₆ _ hT₆=>yK (h _ _ c₆ B₆ hT₆))
theorem SV(hnd:(f.cx.names.map (·.1)).Nodup){xm:Str}{j im tk N:Nat}{Y:Nat->Str}{ms:List (Str×Nat×Pos)}{X:List Stmt}{p5:Pos}{I tp:Addr}{zA:Array Value}{R:Result->tX->Prop}(htk:0<tk)(hN:N=tk+ms.length)
  (hmt:f.cx.tv? xm=some im)(hmj:im≠j)(hjl:j<ρ.length)(hx:f.fx=none)(ho:∀i,VS.at st i≠.o)(hf4:∀i,VS.at st i=.f->VS.at ((st.set im .f).set j .f) i=.f)
  (hit:∀(i:Nat) (u:Value),zA[i]?=some u->∃q,ms[i]?=some q/\u=.str q.1 (tk+i))(hsz:zA.size=ms.length)
  (hms:∀jj q,ms[jj]?=some q->v8 q.1=true/\q.1.length<=10/\HQ H w zc n f (st.set im .f) ((st.set im .f).set j .f) ad xm j q.1 (Y jj) (Y (jj+1)) X)
  (hI:∀{ρ P P' s s'},zO H w zc n f st ρ P ad s->(∀a,P' a->P a\/a=I)->(∀a,P a->P' a)->¬P I->(∃o,s.heap.get? I=some o/\¬NF o)->(∀b o,b≠I->s.heap.get? b=some o->s'.heap.get? b=some o)->((∃o,s'.heap.get? I=some o)\/P' I)->s'.os=s.os->s'.gens=s.gens->zO H w zc n f st ρ P' ad s')
  (oI:¬Aq f.env I)(oT:¬Aq f.env tp)(W:Walks H w f.A I [I,tp] [I] zA.size (λi v=>zA[i]?=some v) (λi h=>h.IsTupleIter I tp i/\h.IsTuple tp zA))
  (hJ:J1 H w zc n f st ρ ad im j ms.length Y N I tp zA (ms.length+1) s)
  (h:∀t8 P' s',zO H w zc n f st ((ρ.set im t8).set j (.str (Y ms.length))) P' ad s'->R (.ok .next) s'):
  zaD (model H w) f.A (.forLoop (.Name xm p5) (.ref I) X [] f.env) R s:=by
 refine codeAny_forLoop_any (λm s'=>J1 H w zc n f st ρ ad im j ms.length Y N I tp zA m s') (λm' s₃ hJ=>?_) (ms.length+1) hJ;obtain⟨jj,t8,P',hj,rfl,c₃,nP,hi,hT⟩:=hJ;have hnf:∃o,s₃.heap.get? I=some o/\¬NF o:=let ⟨o,h1,_,h2⟩:=hi.1;⟨o,h1,λq=>q _ h2⟩;by_cases hlt:jj<ms.length
 ·refine zbt hT (W.item jj s₃ _ _ (hsz▸hlt) hi λu h' tk' hu hst' hk hT'=>?_);obtain⟨q,hq,rfl⟩:=hit jj u hu;obtain⟨q3,q4,turn⟩:=hms jj q hq;obtain⟨oI2,hoI2,hcI2,_⟩:=id hst'.1;have c₄:=hI (s':={s₃ with heap:=h',toks:=tk'}) c₃ (λ_=>.inl) (λ_ p=>p) nP hnf (CJ hk) (.inl ⟨oI2,hoI2⟩) rfl rfl;refine Ga (s:={s₃ with heap:=h',toks:=tk'}) hoI2 hcI2 (by decide +kernel) (zap (zbt (n:=N) hT' (zO.storeX (s:={s₃ with heap:=h',toks:=tk'}) c₄ hmt hnd (by rw[hx];rfl) (.rep (.str q.1 (tk+jj) q3 (qA q4 (by decide)))) λh₄ tk₄ c₅ B₅ hv₅ hT₄=>?_)));refine turn c₅ ?_ hv₅ (Nat.add_pos_left htk _) (hN▸zbu hlt _) hT₄ λh₅ tk₅ c₆ B₆ hT₆=>?_
  ·rw[List.set_comm _ _ (y7 hmj),List.set_set,j3,if_pos ⟨rfl,by rw[zbm];exact hjl⟩]
  ·rw[Ss hmj] at c₆;exact⟨ms.length+1 - (jj+1),Gc hlt,⟨jj+1,_,P',hlt,rfl,c₆.forget (st:=st) (by rw[zbm,zbm]) hf4 ho hx,nP,⟨hst'.1.at λo e=>B₆.keepO _ o oI (B₅.keepO _ o oI e),hst'.2.at λo e=>B₆.keepO _ o oT (B₅.keepO _ o oT e)⟩,hT₆⟩⟩
 ·cases y3 hj (yV hlt)
  exact W.done s₃ _ _ (hsz▸hi) λh' tk' hk=>yK (h t8 (λa=>P' a\/a=I) _ (hI (s':={s₃ with heap:=h',toks:=tk'}) c₃ (λ_ p=>p) (λ_=>.inl) nP hnf (CJ hk) (.inr (.inr rfl)) rfl rfl))
theorem zO.past{I:Addr}(hz0:∀a o,¬f.Z a o)(ho:∀i,VS.at st i≠.o)(p0I:f.P₀ I)(oI:¬Aq f.env I)(nI:f.s₀.heap.get? I=none)(fI:I∉Bl f.fs){P':Addr->Prop}{s':tX}(c:zO H w zc n f st ρ P ad s)(hP:∀a,P' a->P a\/a=I)(hP':∀a,P a->P' a)(nP:¬P I)(hnf:∃o,s.heap.get? I=some o/\¬NF o)(hk:∀b o,b≠I->s.heap.get? b=some o->s'.heap.get? b=some o)(hI':(∃o,s'.heap.get? I=some o)\/P' I)(os:s'.os=s.os)(gn:s'.gens=s.gens):zO H w zc n f st ρ P' ad s':=by
 obtain⟨o1,ho1,hn1⟩:=hnf;exact c.iter (I:=I) (λa o p e=>⟨hP' a p,hk a o (λz=>nP (z▸p)) e⟩) (λa o z e=>hk a o z e) (IE ho1 hn1 hk)
  (λa e=>(Classical.em (a=I)).elim (λz=>hI'.elim (λ⟨o,h⟩=>by rw[z,h] at e;exact sn e) λh=>z▸h) λz2=>hP' a (c.ec.pnew a (Da hk z2 e))) hP p0I oI (λi hi=>absurd hi (ho i)) nI fI (λo=>hz0 _ o) os (λg=>gn▸g)
theorem Wb(c:zO H w zc n f st ρ P ad s)(hnd:(f.cx.names.map (·.1)).Nodup){xm:Str}{j im kp:Nat}{Y:Nat->Str}{ms:List (Str×Nat×Pos)}{X:List Stmt}{p5 p8 pg:Pos}(hy:zq ρ j=.str (Y 0))(htk:0<s.toks)
  (hmt:f.cx.tv? xm=some im)(hmj:im≠j)(hjl:j<ρ.length)(hz0:∀a o,¬f.Z a o)(hx:f.fx=none)(ho:∀i,VS.at st i≠.o)(hf4:∀i,VS.at st i=.f->VS.at ((st.set im .f).set j .f) i=.f)(hlen:ms.length<=100)
  (hms:∀jj q,ms[jj]?=some q->v8 q.1=true/\q.1.length<=10/\HQ H w zc n f (st.set im .f) ((st.set im .f).set j .f) ad xm j q.1 (Y jj) (Y (jj+1)) X)
  (h:∀t8 P' s',zO H w zc n f st ((ρ.set im t8).set j (.str (Y ms.length))) P' ad s'->Q .next s'):
  wpAny (model H w) f.A (vH (.For (.Name xm p5) (.Tuple (ms.map cE) kp p8) X [] pg) f.env) Q E s:=by
 have hne:s.heap.objs.size≠(s.heap.push {cls:=.type "tuple",data:=.seq (cV ms s.toks).toArray}).objs.size:=by rw[zas];exact vA (w9 _)
 have hIs:s.heap.get? (s.heap.push {cls:=.type "tuple",data:=.seq (cV ms s.toks).toArray}).objs.size=none:=xF (by rw[zas];exact w4 _)
 have ht0:(s.heap.push {cls:=.type "tuple",data:=.seq (cV ms s.toks).toArray}).IsTuple s.heap.objs.size (cV ms s.toks).toArray:=⟨_,uX _ rfl,rfl,_,rfl⟩
 have pI:=c.ec.pnew _ hIs;have nI:=c.new0 hIs;have kk:zx s.heap ((s.heap.push {cls:=.type "tuple",data:=.seq (cV ms s.toks).toArray}).push {cls:=.type "tuple_iterator",data:=.fields #[.ref s.heap.objs.size,.int 0 0]}):=(zx.push _ _).trans (zx.push _ _)
 refine wpAny_For (wpAny_Tuple (lF ms ⟨by rw[PF];exact qA hlen (by decide),wpAny_pyIter_tuple ht0 (SV hnd htk rfl hmt hmj hjl hx ho hf4 (λi u hu=>?_) (by rw[y5,PF]) hms (zO.past hz0 ho (c.pnew0 _ nI) (c.ec.own _ pI) nI (c.ec.nofr _ pI)) (c.ec.own _ pI) (c.ec.own _ (c.ec.pnew _ (j6 _))) (Walks.tuple c.ec.handled _ _ hne _) ⟨0,zq ρ im,λa=>P a/\a≠_,uZ _,rfl,?_,λz=>z.2 rfl,⟨⟨_,uX _ rfl,rfl,rfl⟩,ht0.at λo e=>uO _ e⟩,uK _⟩ h)⟩))
 ·obtain⟨q,h1,h2,_⟩:=Yw (ms:=ms) (t:=s.toks) (j:=i) (v:=u) (by simpa using hu);exact⟨q,h1,h2⟩
 ·rw[D2,<-hy,D2];have ne:∀a o,s.heap.get? a=some o->a≠_:=λa o e z=>nn ((z▸hIs:s.heap.get? a=none).symm.trans e);exact c.iter (λa o p e=>⟨⟨p,ne a o e⟩,kk a o e⟩) (λa o _ e=>kk a o e) (jS.of_keep kk).nf
   (λa e=>⟨(c.ec.pnew.keep kk) a e,λz=>by rw[z,uX _ rfl] at e;exact sn e⟩) (λa p=>.inl p.1) (c.pnew0 _ nI) (c.ec.own _ pI) (λi hi=>absurd hi (ho i)) nI (c.ec.nofr _ pI) (λo=>hz0 _ o) rfl id
theorem aQ(c:zO H w zc n f st ρ P ad s)(hnd:(f.cx.names.map (·.1)).Nodup){xk xm:Str}{kk:NameKind}{i j im k0 kp:Nat}{Y:Nat->Str}{v m:Int}{ms:List (Str×Nat×Pos)}{es:List Expr}{X:List Stmt}{p0 p1 p2 p5 p8 pg p2':Pos}
  (h1:f.cx.names[i]?=some (xk,kk))(h2:zZ kk=true)(hp:zE xk=true)(h3:VS.at st i=.f)(hk:zq ρ i=.int v)(hy:zq ρ j=.str (Y 0))
  (hmt:f.cx.tv? xm=some im)(hmj:im≠j)(hjl:j<ρ.length)(hz0:∀a o,¬f.Z a o)(hx:f.fx=none)(ho:∀i,VS.at st i≠.o)(hf4:∀i,VS.at st i=.f->VS.at ((st.set im .f).set j .f) i=.f)(hes:es=ms.map cE)(hlen:ms.length<=100)
  (hms:∀jj q,ms[jj]?=some q->v8 q.1=true/\q.1.length<=10/\HQ H w zc n f (st.set im .f) ((st.set im .f).set j .f) ad xm j q.1 (Y jj) (Y (jj+1)) X)
  (h:∀t8 P' s',zO H w zc n f st ((ρ.set im t8).set j (.str (if v=m then Y ms.length else Y 0))) P' ad s'->Q .next s'):
  wpAny (model H w) f.A (vH (.If (.Compare (.Name xk p0) [.Eq] [.Constant (.int m) k0 p1] p2) [.For (.Name xm p5) (.Tuple es kp p8) X [] pg] [] p2') f.env) Q E s:=by
 subst hes;refine wpAny_If (c.eqk h1 h2 hp h3 hk λtk htk c₁=>?_);by_cases e:v=m
 ·rw[beq_iff_eq.mpr e,if_pos rfl];rw[if_pos e] at h;exact yZ (Wb c₁ hnd hy htk hmt hmj hjl hz0 hx ho hf4 hlen hms λt8 P' s' c'=>yK (h t8 P' s' c'))
 ·rw[beq_eq_false_iff_ne.mpr e,if_neg (by decide)];rw[if_neg e] at h;refine yK (h (zq ρ im) P _ ?_);rw[D2,<-hy,D2];exact c₁
end
theorem Hf(env:Env):∀(a b:List Stmt),execs (a++b) env=(execs a env >>= λf=>match f with|.next=>execs b env|f=>pure f):=by
 intro a;induction a with
 |nil=>intro b;rfl
 |cons t a ih=>
  intro b;rw[xN,execs_cons,execs_cons,bind_assoc];refine congrArg (vH t env >>= ·) (funext λf=>?_);cases f with
  |next=>exact ih b
  |_=>rfl
noncomputable def hole(h:Heap)(p:Addr):Heap:=h.update p λo=>{o with data:=.freed}
theorem CM(h:Heap)(hb:b≠p):(hole h p).get? b=h.get? b:=zai h _ (y7 hb)
theorem Ft(h:Heap)(p:Addr):(hole h p).get? p=none:=by
 cases q:(hole h p).get? p with
 |none=>rfl
 |some o=>
  obtain⟨h1,h2⟩:=Heap.get?_some_iff.mp q;exfalso;unfold hole Heap.update at h1;simp only[Array.getElem?_modify,if_true] at h1;cases hx:h.objs[p]? with
  |none=>rw[hx] at h1;exact nn h1
  |some x=>rw[hx] at h1;rw[<-zP h1] at h2;exact tf h2
theorem QF(h:Heap)(p:Addr):(hole h p).StaysIn h:=λb o e=>by
 by_cases q:b=p
 ·rw[q,Ft] at e;exact nn e
 ·rw[CM h q] at e;exact e
section
variable{F:List zL}{K:List (Str×D)}{mg mb:Str->Option Value}{h:Heap}{c Pt:Addr}
theorem kq.hole(B:kq F K mg mb h)(ht:h.TableAt c Pt #[]):kq F K mg mb (Mine.hole h Pt):=by
 have hp:=ht.2;have dict:∀{a m},h.Ns a m->(Mine.hole h Pt).Ns a m:=λ{a m} x=>x.at' λo e=>by
  refine(CM h λq=>?_).trans e;obtain⟨o',es,ep,ho,hd,_⟩:=x;rw[q,hp] at ho;rw[<-zP ho] at hd;exact nomatch hd
 obtain⟨mc,hc1,hc2⟩:=B.nolimit;refine⟨dict B.g,dict B.b,⟨mc,dict hc1,hc2⟩,B.bi,λi fi hi=>?_,λi x d hi=>?_,B.free⟩
 ·obtain⟨a,o,pm,cd,doc,h1,h2,h3,h4⟩:=B.fn i fi hi;refine⟨a,o,pm,cd,doc,h1,(CM h λq=>?_).trans h2,h3,?_⟩
  ·rw[q,hp] at h2;rw[<-zP h2] at h3;exact nomatch h3
  ·obtain⟨c',o',vs,t,e1,e2,e3,e4⟩:=h4;refine⟨c',o',vs,t,e1,(CM h λq=>?_).trans e2,e3,e4⟩;rw[q,hp] at e2;rw[<-zP e2] at e3;injection e3 with e3
   rw[<-e3] at e4;exact nn e4
 ·obtain⟨v,h1,h2⟩:=B.const i x d hi;refine⟨v,h1,?_⟩;have ne:∀{a o},h.get? a=some o->o.cls≠.none->(Mine.hole h Pt).get? a=some o:=λ{a o} e hc=>(CM h λq=>hc (by rw[q,hp] at e;rw[<-zP e])).trans e;exact jG.rec (motive_1:=λv d _=>jG (λa=>∃o,(Mine.hole h Pt).get? a=some o) (Mine.hole h Pt) v d) (motive_2:=λvs ds _=>zk (λa=>∃o,(Mine.hole h Pt).get? a=some o) (Mine.hole h Pt) vs ds) .none .bool .int .str
   (λ_ ho hc hd hda _ hz ih=>have e:=ne ho (by rw[hc];exact λq=>nomatch q);.list ⟨_,e⟩ e hc hd hda ih hz) (λ_ ho hc hda _ hz ih=>have e:=ne ho (by rw[hc];exact λq=>nomatch q);.tuple ⟨_,e⟩ e hc hda ih hz) .nil (λ_ _ a b=>.cons a b) h2
end
section
variable{H:uP}{w:World}{zc:Heap}{n:Nat}{f:CX}{st:List VS}{ρ:zg}{P:Addr->Prop}{ad:Nat->Addr}{s s':tX}{Pt:Addr}{ps:Array Value}
noncomputable def CX.hop(f:CX)(Pt:Addr)(ps:Array Value):CX:={f with s₀:={f.s₀ with heap:=regrown f.s₀.heap Pt ps}}
theorem zO.hop(c:zO H w zc n f st ρ P ad s)(hb:zc.get? Pt=none)(h0:f.s₀.heap.get? Pt=some o0)(hP:∀a,f.P₀ a->a≠Pt)(hfr:Pt∉Bl f.fs)(hX:∀a,¬f.X a)(hx:f.fx=none)(hZ:∀a o,¬f.Z a o)(hY:∀a o,¬f.Y a o)
  (hk:∀b o,b≠Pt->s.heap.get? b=some o->s'.heap.get? b=some o)(ht:s'.heap.get? Pt=some {cls:=.none,data:=.fields ps})(hos:s'.os=s.os)(hg:vT s.gens->vT s'.gens):zO H w zc n (f.hop Pt ps) st ρ P ad s':=by
 have pne:∀a,P a->a≠Pt:=λa p=>hP a (c.sub a p);have one:∀a,Aq f.env a->a≠Pt:=λa q e=>by have:=c.fresh a q;rw[e,h0] at this;exact sn this
 have ane:∀i,VS.at st i=.o->ad i≠Pt:=λi hi e=>by
  have:=(c.oP0 i hi (by rw[hx];exact λq=>nomatch q)).2;rw[e,h0] at this;exact sn this
 have mP:∀a o,P a->s.heap.get? a=some o->P a/\s'.heap.get? a=some o:=λa o p e=>⟨p,hk a o (pne a p) e⟩;have kO:∀a o,Aq f.env a->s.heap.get? a=some o->s'.heap.get? a=some o:=λa o q e=>hk a o (one a q) e;have rg:∀a,a≠Pt->(regrown f.s₀.heap Pt ps).get? a=f.s₀.heap.get? a:=λa q=>zai _ _ (y7 q);have rp:(regrown f.s₀.heap Pt ps).get? Pt=some {cls:=.none,data:=.fields ps}:=yI _ h0 rfl;refine⟨c.ec.change' mP (λa ha o e nf=>⟨o,hk a o (λq=>hfr (q▸ha)) e,nf⟩) c.ec.own c.ec.nofr (λa e=>c.ec.pnew a ?_),c.fram.keep λa o q e=>kO a o q.own e,c.len,c.nlen,λi x k h1 h2 h3=>?_,λi x k h1 h2 h3=>?_,c.oP,c.dist,c.sub,λi h1 h2=>⟨(c.oP0 i h1 h2).1,(rg _ (ane i h1)).trans (c.oP0 i h1 h2).2⟩,c.fxa,c.noX,λa q=>(rg a (one a q)).trans (c.fresh a q),λa e=>?_,
  λa o e nx=>?_,hos.trans c.os,λg=>hg (c.gens g),c.vk,λa o q=>absurd q (hZ a o),λa o q=>absurd q (hY a o),c.zf⟩
 ·cases q:s.heap.get? a with
  |none=>rfl
  |some o=>
   by_cases z:a=Pt
   ·rw[z,ht] at e;exact sn e
   ·rw[hk a o z q] at e;exact sn e
 ·obtain⟨v,h4,h5⟩:=c.var i x k h1 h2 h3;exact⟨v,h4.move kO,h5.move mP mP⟩
 ·obtain⟨h4,h5⟩:=c.own i x k h1 h2 h3;exact⟨h4.move kO,h5.move (λa o t e=>⟨t,hk a o (by rw[t];exact ane i h3) e⟩) mP⟩
 ·by_cases z:a=Pt
  ·change (regrown f.s₀.heap Pt ps).get? a=none at e
   rw[z,rp] at e;exact sn e
  ·exact c.pnew0 a ((rg a z).symm.trans e)
 ·by_cases z:a=Pt
  ·change (regrown f.s₀.heap Pt ps).get? a=some o at e
   rw[z,rp] at e;rw[z,ht];exact e
  ·exact hk a o z (c.keep a o ((rg a z).symm.trans e) (hX a))
end
end Mine
namespace Mine
open PySem PyProof.Rows PySem.Calls PySem.W
section
variable{H:uP}{w:World}{zc:Heap}{n:Nat}{f:CX}{G:List D}{cf cio:Nat->List D->R D}{wf:Nat}{zn:List Env}{F:List zL}{K:List (Str×D)}{mg mb:Str->Option Value}{L:Addr}{st:List VS}{ρ:zg}{P:Addr->Prop}{ad:Nat->Addr}{s:tX}{Q:Flow->tX->Prop}{E:Value->tX->Prop}
theorem nQ(X:Ec H w zc n f G cf zn F K mg mb L)(IO:Eb H w F mg zc cio n){b:List Stmt}{ps:PS}(htr:KO f.cx b=some ps)(hnt:∀a∈Bl f.fs,f.s₀.heap.get? a=none)(hc:chk f.fx ps none st≠.err)(c:zO H w zc n f st ρ P ad s)
  (h:(∃σ,Mine.exec G cf cio wf ps ρ=.ok (.ret (.bool true),σ))\/∃ρ',Mine.exec G cf cio wf ps ρ=.ok (.next,ρ'))
  (hr:∀ρ' st' P' ad' s',zO H w zc n f st' ρ' P' ad' s'->Q (.ret (.bool true)) s')(hn:∀ρ' st' P' ad' s',Mine.exec G cf cio wf ps ρ=.ok (.next,ρ')->chk f.fx ps none st=.st st'->zO H w zc n f st' ρ' P' ad' s'->Q .next s'):
  wpAny (model H w) f.A (execs b f.env) Q E s:=by
 unfold KO at htr;cases hb:b.mapM (LY 40 f.cx) with
 |none=>rw[hb] at htr;exact nn htr
 |some pss=>
  rw[hb] at htr;have hbody:kJ pss=ps:=zP htr;have S:=Fy (f:=f) (λlp st t ps g1 g2 g3=>MF IO 40 f X lp st t ps g1 g2 g3) b pss none st hb (.inr hnt) (by rw[hbody];exact hc) (wf:=wf);rw[hbody] at S;rcases h with⟨σ,e⟩|⟨ρ',e⟩
  ·refine S s ρ P ad Q E c (λfl ρ' fw s' he hp=>?_) (λhe=>by rw[e] at he;exact ov he) (by rw[e];exact λh=>os h);rw[e] at he;cases jz he;obtain⟨v,st',P',ad',rfl,c',r⟩:=hp;cases r with
   |rep r=>cases r;exact hr _ _ _ _ _ c'
  ·refine S s ρ P ad Q E c (λfl ρ₁ fw s' he hp=>?_) (λhe=>by rw[e] at he;exact ov he) (by rw[e];exact λh=>os h);have he':=he;rw[e] at he;cases jz he;obtain⟨rfl,st',P',ad',h1,c'⟩:=hp;exact hn _ _ _ _ _ he' h1 c'
end
noncomputable def Wa(a b r d y:Str):Str:=a++wE y b r++d
structure KQ(G:List D)(cf cio:Nat->List D->R D)(wf:Nat)(pre mid post:PS)(ρ:zg)(sp1 sp2:Str->Str)(ok1:Str->Prop):Prop where
 h:(∃σ,Mine.exec G cf cio wf pre ρ=.ok (.ret (.bool true),σ))\/
  ∃ρ1 y k,Mine.exec G cf cio wf pre ρ=.ok (.next,ρ1)/\zq ρ1 3=.str y/\zq ρ1 7=.int k/\9<=ρ1.length/\ok1 y/\(k=2->(sp2 y).length<=2000)/\∀t8,
   (∃σ,Mine.exec G cf cio wf mid ((ρ1.set 8 t8).set 3 (.str (if k=2 then sp2 y else if k=1 then sp1 y else y)))=.ok (.ret (.bool true),σ))\/
   ∃ρ3 gs,Mine.exec G cf cio wf mid ((ρ1.set 8 t8).set 3 (.str (if k=2 then sp2 y else if k=1 then sp1 y else y)))=.ok (.next,ρ3)/\zq ρ3 17=.list gs/\(∀d∈gs,Ed d)/\∃σ,Mine.exec G cf cio wf post ρ3=.ok (.ret (.bool true),σ)
noncomputable def Io(cx:Cx)(env:Env)(A:uY)(Pt:Addr)(s₀:tX):CX:=⟨cx,env,A,[env],λz=>z≠Pt,λ_=>False,s₀,none,λ_ _=>False,λ_ _=>False⟩
def Ph(H:uP)(w:World)(f:CX)(st:List VS)(sp1:Str->Str)(ok1:Str->Prop)(t:Stmt):Prop:=
 ∀{zc:Heap} {n:Nat} {ρ:zg} {P:Addr->Prop} {ad:Nat->Addr} {s:tX} {Q:Flow->tX->Prop} {E:Value->tX->Prop} {y:Str} {k:Int},zO H w zc n f st ρ P ad s->zq ρ 7=.int k->zq ρ 3=.str y->3<ρ.length->ok1 y->
  (∀t8 P' s',zO H w zc n f st ((ρ.set 8 t8).set 3 (.str (if k=1 then sp1 y else y))) P' ad s'->Q .next s')->wpAny (model H w) f.A (vH t f.env) Q E s
def Pi(H:uP)(w:World)(f:CX)(st:List VS)(sp2:Str->Str)(t:Stmt):Prop:=
 ∀{zc:Heap} {n:Nat} {ρ:zg} {P:Addr->Prop} {ad:Nat->Addr} {s:tX} {Q:Flow->tX->Prop} {E:Value->tX->Prop} {y:Str} {k:Int},zO H w zc n f st ρ P ad s->zq ρ 7=.int k->zq ρ 3=.str y->y.length<=1000->(k=2->(sp2 y).length<=2000)->
  (∀s',zO H w zc n f st (ρ.set 3 (.str (if k=2 then sp2 y else y))) P ad s'->Q .next s')->wpAny (model H w) f.A (vH t f.env) Q E s
def Pc(H:uP)(w:World)(F:List zL)(K:List (Str×D))(mg mb:Str->Option Value)(cx:Cx)(xg:Str)(t:Stmt):Prop:=
 ∀{zc:Heap} {A:uY} {env:Env} {s:tX} {c Pt lg:Addr} {P:Addr->Prop} {gvs:Array Value} {gs:List D} {Q:Flow->tX->Prop} {E:Value->tX->Prop},kq F K mg mb zc->CY cx env->zc.StaysIn s.heap->env.scope.kind=.function->env.globals=w5->env.builtins=wM->A.handled=none->A.depth<zaV->
  C9 zc env mg c Pt s.heap->zz env s.heap xg (.ref lg)->s.heap.IsList lg gvs->zk P s.heap gvs.toList gs->¬P Pt->lg≠Pt->(∀d∈gs,Ed d)->
  (∀ps s',(∀b o,b≠Pt->s.heap.get? b=some o->s'.heap.get? b=some o)->s'.heap.TableAt c Pt (#[]++ps)->s'.os=s.os->(vT s.gens->vT s'.gens)->Q .next s')->wpAny (model H w) A (vH t env) Q E s
section
variable{H:uP}{w:World}{F:List zL}{K:List (Str×D)}{mg mb:Str->Option Value}{G:List D}{T:List jt}{ios:List Str}
theorem C9.keeps{zc h h':Heap}{env:Env}{c Pt:Addr}(x:C9 zc env mg c Pt h)(k:∀z o,h.get? z=some o->h'.get? z=some o):C9 zc env mg c Pt h':={x with isc:=x.isc.keeps k,tab:=x.tab.keeps k}
theorem Zz(eK:∀x,env.kindOf x=cx.names.lookup x)(fr:BF cx.names env h)(nf:∀y∈cx.names,y.2≠.free):CY cx env:=
 {glob:=λx hx=>by rw[eK];exact hx
  cell:=λx hx=>hx.elim (λhx=>let ⟨h1,c,_,h2,_⟩:=fr.cell x hx;⟨.inl h1,c,h2⟩) λhx=>absurd rfl (nf _ (jm hx))}
theorem Rb{s s1:tX}{cx:Cx}{env:Env}{c Pt:Addr}{b1 b2 b3:List Stmt}{t1 t2 t3:Stmt}{pre mid post:PS}{KN st1 st2:List VS}{sp1 sp2:Str->Str}{ok1:Str->Prop}{ρ:zg}{P:Addr->Prop}{ad:Nat->Addr}{A:uY}{kg:NameKind}{xg:Str}{Q:Flow->tX->Prop}{E:Value->tX->Prop}
  (mkX:∀s₀:tX,Ec H w (hole s.heap Pt) 640 (Io cx env A Pt s₀) G (zd G T 2000 640) [] F K mg mb s.heap.objs.size)(IO:Eb H w F mg (hole s.heap Pt) (zj G T 2000 640) 640)(eF:env.frame=some s.heap.objs.size)(ca0:C9 (hole s.heap Pt) env mg c Pt s.heap)(hPs:Pt≠yY)
  (tr1:KO cx b1=some pre)(tr2:KO cx b2=some mid)(tr3:KO cx b3=some post)(c1:chk none pre none KN=.st st1)(c2:chk none mid none st1=.st st2)(c3:chk none post none st2≠.err)
  (H1:Ph H w (Io cx env A Pt s) st1 sp1 ok1 t1)(H2:Pi H w (Io cx env A Pt s) st1 sp2 t2)(H3:Pc H w F K mg mb cx xg t3)(hok1:∀y,ok1 y->y.length<=1000/\(sp1 y).length<=1000)(n17:cx.names[17]?=some (xg,kg))(v17:zZ kg=true)(s17:VS.at st2 17=.f)
  (run:KQ G (zd G T 2000 640) (zj G T 2000 640) 2000 pre mid post ρ sp1 sp2 ok1)(c₁:zO H w (hole s.heap Pt) 640 (Io cx env A Pt s) KN ρ P ad s1)
  (hQ:∀s',OldK s.heap s'.heap->s'.os=s.os->(vT s.gens->vT s'.gens)->Q (.ret (.bool true)) s'):wpAny (model H w) A (execs (b1++(t1::t2::(b2++(t3::b3)))) env) Q E s1:=by
 have hPt:=ca0.tab.2;have frE:∀z∈Bl [env],z=s.heap.objs.size:=λz hz=>by
  simp only[Bl,xK,eF,List.filterMap_nil] at hz;exact List.mem_singleton.mp hz
 have nt0:∀z∈Bl [env],s.heap.get? z=none:=λz hz=>by rw[frE z hz];exact j6 _
 have done:∀{ρ' st' P' ad' s'},zO H w (hole s.heap Pt) 640 (Io cx env A Pt s) st' ρ' P' ad' s'->Q (.ret (.bool true)) s':=
  λc=>hQ _ (.of_keep λz o e=>c.keep z o e id) c.os c.gens
 rw[Hf];refine tY ?_;rcases run.h with⟨σ,e⟩|⟨ρ1,y,k,e,hy,hk,hl9,k1,k2,hmid⟩
 ·exact nQ (mkX s) IO tr1 nt0 (by show chk none pre none _≠_;rw[c1];exact λh=>nomatch h) c₁ (.inl ⟨σ,e⟩) (λ_ _ _ _ _ c'=>uC (done c')) (λρ' _ _ _ _ h'=>by rw[e] at h';exact nomatch h')
 refine nQ (mkX s) IO tr1 nt0 (by show chk none pre none _≠_;rw[c1];exact λh=>nomatch h) c₁ (.inr ⟨ρ1,e⟩) (λ_ _ _ _ _ c'=>uC (done c')) (λρ' st' P2 ad2 s2 h' hst c₂=>?_);cases jz (e.symm.trans h');cases(c1.symm.trans hst:CR.st st1=.st st');clear c₁ run e h' hst;have n3l:3<ρ1.length:=qD (by decide) hl9;refine yZ (H1 c₂ hk hy n3l k1 λt8 P3 s3' c₃=>?_);refine yZ (H2 (k:=k) (y:=if k=1 then sp1 y else y) c₃ ?_ ?_ ?_ (λe=>?_) λs4' c₄=>?_)
 ·rw[j3,if_neg (λh=>nomatch h.1),j3,if_neg (λh=>nomatch h.1)];exact hk
 ·rw[j3,if_pos ⟨rfl,by rw[zbm];exact n3l⟩]
 ·split
  ·exact(hok1 y k1).2
  ·exact(hok1 y k1).1
 ·rw[e,if_neg (by decide)];exact k2 e
 rw[List.set_set,show(if k=2 then sp2 (if k=1 then sp1 y else y) else if k=1 then sp1 y else y)=if k=2 then sp2 y else if k=1 then sp1 y else y by
  by_cases k2:k=2
  ·rw[if_pos k2,if_pos k2,k2,if_neg (by decide)]
  ·rw[if_neg k2,if_neg k2]] at c₄
 clear c₂ c₃ H1 H2 k1 k2 hk hy;rw[Hf];refine tY ?_;have hm:=hmid t8;clear hmid;generalize (ρ1.set 8 t8).set 3 (.str (if k=2 then sp2 y else if k=1 then sp1 y else y))=ρ2 at hm c₄;refine nQ (mkX s) IO tr2 nt0 (by show chk none mid none _≠_;rw[c2];exact λh=>nomatch h) c₄ (hm.imp id λ⟨ρ3,_,h,_⟩=>⟨ρ3,h⟩) (λ_ _ _ _ _ c'=>uC (done c')) (λρ3 st' P5 ad5 s5 h5 hst c₅=>?_);cases(c2.symm.trans hst:CR.st st2=.st st');obtain⟨gs,hg17,hGr,σ,hpost⟩:∃gs,zq ρ3 17=.list gs/\(∀d∈gs,Ed d)/\∃σ,Mine.exec G (zd G T 2000 640) (zj G T 2000 640) 2000 post ρ3=.ok (.ret (.bool true),σ):=by
  rcases hm with⟨σ,h⟩|⟨ρ3',gs,h,r⟩
  ·rw[h5] at h;exact nomatch h
  ·rw[h5] at h;cases jz h;exact⟨gs,r⟩
 clear hm h5 hst c₄;obtain⟨v,hv17,r17⟩:=c₅.var 17 xg kg n17 v17 s17;rw[hg17] at r17;obtain⟨lg,ol,gvs,nl,rfl,plg,hol,hcl,_,hdl,hrl,_⟩:=r17.inv_listT (λ_ p=>p);have kp:∀z o,s.heap.get? z=some o->s5.heap.get? z=some o:=λz o e=>c₅.keep z o e id;have hPP:∀z,P5 z->z≠Pt:=c₅.sub;refine yZ (H3 (mkX s).B (mkX s).hL c₅.ec.stays c₅.ec.kind c₅.ec.globals c₅.ec.builtins c₅.ec.handled (qB (uV _ _) c₅.ec.depth) (ca0.keeps kp) hv17 ⟨ol,hol,hcl,nl,hdl⟩ hrl (λp=>hPP _ p rfl) (hPP _ plg) hGr λps s6 hk6 ht6 hos6 hg6=>?_);have c₆:=c₅.hop (Pt:=Pt) (ps:=#[]++ps) (Ft _ _) hPt (λ_ p=>p) (λhz=>by have:=frE _ hz;rw[this] at hPt;exact nn ((j6 _).symm.trans hPt)) (λ_ x=>x) rfl (λ_ _ x=>x) (λ_ _ x=>x) hk6 ht6.2 hos6 hg6;clear c₅ kp hPP hrl hdl hcl hol r17 hv17 hGr;have rgo:∀z,z≠Pt->(regrown s.heap Pt (#[]++ps)).get? z=s.heap.get? z:=λz q=>zai _ _ (y7 q);have rgp:(regrown s.heap Pt (#[]++ps)).get? Pt=some {cls:=.none,data:=.fields (#[]++ps)}:=yI _ hPt rfl;refine nQ (mkX {s with heap:=regrown s.heap Pt (#[]++ps)}) IO tr3 (λz hz=>?_) c3 c₆ (.inl ⟨σ,hpost⟩) (λ_ _ _ _ s7 c₇=>hQ _ ?_ c₇.os c₇.gens) (λρ' _ _ _ _ h'=>by rw[hpost] at h';exact nomatch h')
 ·have hz':=nt0 z hz;refine(rgo z λq=>?_).trans hz';rw[q,hPt] at hz';exact sn hz'
 ·have k7:∀z o,(regrown s.heap Pt (#[]++ps)).get? z=some o->s7.heap.get? z=some o:=λz o e=>c₇.keep z o e id;obtain⟨⟨oc,vc,e1,e2⟩,_⟩:=id ca0.tab;exact(OldK.refl s.heap).step_table ca0.tab ca0.tab ⟨⟨oc,vc,k7 _ _ ((rgo _ ca0.cne).trans e1),e2⟩,k7 _ _ rgp⟩ (λz o q e=>k7 z o ((rgo z q).trans e)) hPs
theorem Rc(B:kq F K mg mb s.heap)(hG:G=K.map (·.2))(tok:o4 F K T ios)(hcx:cx=⟨fi.scope.names,F.map (·.name),ios,K.map (·.1)⟩)(ok:FOK0 fi fd ⟨fi.scope.names,F.map (·.name),ios,K.map (·.1)⟩)(hnp:fd.np=1)(hio:fd.io=false)
  {fa a c Pt:Addr}{o:Obj}{pm doc:Value}(ho:s.heap.get? fa=some o)(hdat:o.data=.func (docDef fi.name fi.params fi.body fi.scope pm (.ref c) doc))(hcd:s.heap.CodeRec (.ref c) fi.name)(isc:s.heap.IsCode c Pt #[])(tab:s.heap.TableAt c Pt #[])(hPs:Pt≠yY)
  (hbm:∃bm o,mg "__builtins__"=some (.ref bm)/\bm≠wM/\s.heap.get? bm=some o/\o.cls=.type "module"/\o.dict=some wM/\o.data=.plain)
  {Pa:Params}{ns:List Int}{vs:List Value}{wx:List WData}(hW:Well Pa s.heap (.ref a) (.list wx))(hL:s.heap.IsList a vs.toArray)(hI:IntsAre vs ns)(hlen:ns.length<=63)
  {b1 b2 b3:List Stmt}{t1 t2 t3:Stmt}{pre mid post:PS}{st1 st2:List VS}{sp1 sp2:Str->Str}{ok1:Str->Prop}{kg:NameKind}{xg:Str}
  (hbody:fi.body=b1++(t1::t2::(b2++(t3::b3))))(tr1:KO cx b1=some pre)(tr2:KO cx b2=some mid)(tr3:KO cx b3=some post)(c1:chk none pre none (KN fd.io fd.np fd.nv)=.st st1)(c2:chk none mid none st1=.st st2)(c3:chk none post none st2≠.err)
  (H1:∀{env},(cx.names.map (·.1)).Nodup->Ph H w (Io cx env (callerA.deeper env) Pt s) st1 sp1 ok1 t1)(H2:∀{env},(cx.names.map (·.1)).Nodup->Pi H w (Io cx env (callerA.deeper env) Pt s) st1 sp2 t2)(H3:Pc H w F K mg mb cx xg t3)(hok1:∀y,ok1 y->y.length<=1000/\(sp1 y).length<=1000)
  (n17:cx.names[17]?=some (xg,kg))(v17:zZ kg=true)(s17:VS.at st2 17=.f)
  (run:KQ G (zd G T 2000 640) (zj G T 2000 640) 2000 pre mid post ([.list (ns.map uT)]++vX (fd.nv - fd.np) .none) sp1 sp2 ok1):
  zaD (model H w) callerA (.call (.ref fa) ⟨[.ref a],[]⟩) (λr s'=>r=.ok (.ret (.bool true))/\OldK s.heap s'.heap/\s'.os=s.os/\(vT s.gens->vT s'.gens)) s:=by
 have B':=B.hole tab;obtain⟨C,IO⟩:=EL (H:=H) (w:=w) (wf:=2000) B' hG tok 640;obtain⟨o',h1,h2,nn',h3⟩:=hL;have hdict:o'.dict=none:=by
  cases hW with
  |list e _=>rw[h1] at e;injection e with e;rw[e]
 have cn:∀{z oz},s.heap.get? z=some oz->oz.cls≠.none->z≠Pt:=λ{z oz} e hc q=>hc (by rw[q,tab.2] at e;rw[<-zP e]);have haP:a≠Pt:=cn h1 (by rw[h2];exact λq=>nomatch q);have har:zo H w (λz=>z≠Pt) (λz=>z≠Pt) s.heap (.ref a) (.list (ns.map uT)):=by
  refine .rep (.list (o:=o') (vs:=vs.toArray) (n:=nn') haP h1 h2 hdict h3 (Sf hI) ?_);rw[uJ];unfold zv;exact qA ‹_› (by decide)
 have ec:mK (hole s.heap Pt) (λz=>z≠Pt) callerA [] (640+1) s.heap:=
  {stays:=QF _ _
   pnew:=λz e q=>by rw[q,tab.2] at e;exact sn e
   pbase:=λz o e q=>by rw[q,Ft] at e;exact nn e
   handled:=rfl
   frames:=rfl
   funs:=trivial
   depth:=by decide
   units:=by decide
   nofr:=λ_ _ h=>by cases h}
 clear hW h1 h2 h3 hdict haP hI hlen;refine(call_cells (by decide) ho hdat B.nolimit hcd (ok.bind pm (.ref c) doc [.ref a] (by rw[hnp];rfl)) (λx hx=>?_) (λh₁ tk Fr₁ Cl₁=>?_) ok.co ok.gen ok.kind)
 ·have h1:=D9 hx;rw[<-List.map_take] at h1;obtain⟨p,hp,e⟩:=List.mem_map.mp h1;have hl:fi.scope.names.lookup x.1=some p.2:=e▸kS ok.nodup (y1 hp);rcases ok.par _ hp with e'|e'
  ·rw[e'] at hl;exact .inl hl
  ·rw[e'] at hl;exact .inr ⟨hl,kN (.inl (jm hl))⟩
 ·obtain⟨P₁,c₁⟩:=Jt (H:=H) (w:=w) (n:=640) (P:=λz=>z≠Pt) (fs:=[]) (A:=callerA) (xa:=0) (X:=λ_=>False) (tk:=tk) (ds:=[.list (ns.map uT)]) ok ec Fr₁ Cl₁ (by rw[hnp];rfl) (by rw[hnp];rfl) (λi v d g1 g2 _=>by
    induction i using w3 with
    |zero=>simp at g1 g2;subst g1;subst g2;exact har
    |succ i=>exact nn g1) (λh=>by rw[hio] at h;exact ff h) (λ_ _ h=>h)
  clear ec har;rw[hio] at c₁ c1;generalize hE:envOfC fi.name fi.scope s.heap.objs.size fa (.ref c)=env at Fr₁ Cl₁ c₁ ⊢;rw[<-hcx] at c₁;have eK:∀x,env.kindOf x=cx.names.lookup x:=λx=>by rw[hcx,<-hE];rfl
  have eF:env.frame=some s.heap.objs.size:=by rw[<-hE];rfl
  have eC:env.code=.ref c:=by rw[<-hE];rfl
  have cxn:cx.names=fi.scope.names:=by rw[hcx]
  have hnd:(cx.names.map (·.1)).Nodup:=by rw[cxn];exact ok.nodup
  have hL:CY cx env:=Zz eK c₁.fram (cxn▸ok.kinds);obtain⟨bm,ob,g1,g2,g3,g4,g5⟩:=hbm;have ca:C9 (hole s.heap Pt) env mg c Pt s.heap:=by
   have cne:c≠Pt:=by obtain⟨_,_,_,_,_,_,_,_,_,_,_,_,_,_,_,_,_,_,_,_,x⟩:=isc;exact x
   exact⟨eC,isc,tab,Ft _ _,cne,hPs,bm,ob,g1,g2,(CM _ (cn g3 (by rw[g4];exact λq=>nomatch q))).trans g3,g4,g5⟩
  rw[hbody];exact Rb (λs₀=>⟨B',hG,C,by show cx.funs=_;rw[hcx],by show cx.consts=_;rw[hcx],hL,hnd,rfl,eF,eK⟩) IO eF ca hPs tr1 tr2 tr3 c1 c2 c3 (H1 hnd) (H2 hnd) H3 hok1 n17 v17 s17 run c₁ λs' h1 h2 h3=>⟨rfl,h1,h2,h3⟩
end
end Mine
namespace Mine
abbrev OB:=Option Bool
noncomputable abbrev Mx:=OB×OB×OB×OB
abbrev Nd:=Bool×Bool×Mx
abbrev KW:=List (Nd×List Nat)
noncomputable def B2:OB->OB->OB
 |some s,some t=>some (s||t)
 |_,_=>none
noncomputable def C7:OB->OB->OB
 |some s,some t=>some (s||t)
 |some s,none=>some s
 |none,t=>t
def A4(A B:Mx):Mx:=
 (C7 (B2 A.1 B.1) (B2 A.2.1 B.2.2.1),C7 (B2 A.1 B.2.1) (B2 A.2.1 B.2.2.2),
  C7 (B2 A.2.2.1 B.1) (B2 A.2.2.2 B.2.2.1),C7 (B2 A.2.2.1 B.2.1) (B2 A.2.2.2 B.2.2.2))
def TX(x:Nd):Bool:=(x.1==x.2.1)&&((A4 x.2.2 x.2.2==x.2.2)&&((x.2.2.1 != some true)&&(x.2.2.2.2.2 != some true)))
def PP(st:List Nd)(p:Nd×List Nat)(k:Nat):KW:=match st[k]? with
 |some s=>if s.1=p.1.2.1 then[((p.1.1,s.2.1,A4 p.1.2.2 s.2.2),p.2++[k])] else[]
 |none=>[]
def Fo(st:List Nd)(p:Nd×List Nat)(ks:List Nat):KW:=ks.flatMap (PP st p)
noncomputable def NX(kw:KW)(x:Nd):Bool:=kw.any λp=>p.1==x
def ad1(kw:KW)(c:Nd×List Nat):KW:=if NX kw c.1 then kw else kw++[c]
def AI(kw:KW)(cs:KW):KW:=cs.foldl ad1 kw
theorem Cb(kw a b:KW):AI kw (a++b)=AI (AI kw a) b:=za0
theorem GZ(kw:KW)(c:Nd×List Nat)(b:KW):AI kw (c::b)=AI (ad1 kw c) b:=rfl
theorem HR(kw:KW)(c:Nd×List Nat):kw <+: ad1 kw c:=by
 unfold ad1;split
 ·exact List.prefix_refl _
 ·exact List.prefix_append _ _
theorem Au:∀(cs kw:KW),kw <+: AI kw cs:=by
 intro cs;induction cs with
 |nil=>intro kw;exact List.prefix_refl _
 |cons c cs ih=>intro kw;exact(HR kw c).trans (ih _)
inductive Eg(st:List Nd):KW->Nat->KW->Prop
 |fin{kw:KW}{i:Nat}(h:kw.length<=i):Eg st kw i kw
 |step{kw kw':KW}{i:Nat}{p:Nd×List Nat}(h:kw[i]?=some p)(r:Eg st (AI kw (Fo st p (v5 st.length))) (i+1) kw'):Eg st kw i kw'
theorem Eg.pre(h:Eg st kw i kw'):kw <+: kw':=by
 induction h with
 |fin=>exact List.prefix_refl _
 |step _ _ ih=>exact(Au _ _).trans ih
def F6(st:List Nd):KW:=AI [] ((v5 st.length).flatMap λk=>match st[k]? with|some s=>[(s,[k])]|none=>[])
set_option tactic.hygienic true in
theorem Eh(h:(kw.map (·.1)).Nodup):((ad1 kw c).map (·.1)).Nodup:=by
 unfold ad1;split
 ·exact h
 ·rename_i hn;rw[vU,List.nodup_append];refine⟨h,wR.mpr ⟨vJ,List.nodup_nil⟩,?_⟩;intro a ha b hb e;have hb:b=c.1:=by simpa using hb
  obtain⟨q,hq,rfl⟩:=List.mem_map.mp ha;exact hn (List.any_eq_true.mpr ⟨q,hq,beq_iff_eq.mpr (e.trans hb)⟩)
theorem FN:∀{cs kw:KW},(kw.map (·.1)).Nodup->((AI kw cs).map (·.1)).Nodup:=by
 intro cs;induction cs with
 |nil=>intro kw h;exact h
 |cons c cs ih=>intro kw h;exact ih (Eh h)
noncomputable def obs:List OB:=[none,some false,some true]
theorem Bd(o:OB):o∈obs:=by rcases o with _|_|_<;>trivial
noncomputable def eO:List Bool:=[false,true]
theorem Fk(b:Bool):b∈eO:=by induction b using tZ<;>trivial
noncomputable def XO{α β:Type}(a:List α)(b:List β):List (α×β):=a.flatMap λx=>b.map λy=>(x,y)
theorem DP{α β:Type}{a:List α}{b:List β}(ha:∀x,x∈a)(hb:∀y,y∈b):∀p,p∈XO a b:=by
 intro p;exact List.mem_flatMap.mpr ⟨p.1,ha _,List.mem_map.mpr ⟨p.2,hb _,rfl⟩⟩
def cN:List Nd:=XO eO (XO eO (XO obs (XO obs (XO obs obs))))
theorem Ix:∀x,x∈cN:=DP Fk (DP Fk (DP Bd (DP Bd (DP Bd Bd))))
theorem VF{α β:Type}(a:List α)(b:List β):(XO a b).length=a.length*b.length:=by
 unfold XO;induction a with
 |nil=>exact(Nat.zero_mul _).symm
 |cons x a ih=>rw[zaZ,uE,ih,uJ,vB,Nat.succ_mul,vO]
theorem Vi:cN.length=324:=by unfold cN;simp only[VF];rfl
theorem Op{α:Type}:∀{l m:List α},l.Nodup->(∀a∈l,a∈m)->l.length<=m.length:=by
 classical
 intro l;induction l with
 |nil=>intro m _ _;exact uZ _
 |cons a l ih=>
  intro m hn hs;have ha:a∈m:=hs a u4;rw[wR] at hn;have:=ih (m:=m.erase a) hn.2 (λb hb=>(List.mem_erase_of_ne (λ(e:b=a)=>hn.1 (e▸hb))).mpr (hs b (u0 _ hb)));rw[List.length_erase_of_mem ha] at this;have hpos:0<m.length:=List.length_pos_of_mem ha;rw[vB];exact Nat.add_le_of_le_sub hpos this
theorem Eo{kw:KW}(h:(kw.map (·.1)).Nodup):kw.length<=324:=by
 have:=Op (m:=cN) h λa _=>Ix a
 rwa [uJ,Vi] at this
theorem aG(st:List Nd):∀(m:Nat) {kw:KW} {i:Nat},324<i+m->(kw.map (·.1)).Nodup->∃kw',Eg st kw i kw'/\kw'.length<=324:=by
 intro m;induction m with
 |zero=>intro kw i hm h;exact⟨kw,.fin (qA (Eo h) (qC hm)),Eo h⟩
 |succ m ih=>
  intro kw i hm h;cases hp:kw[i]? with
  |none=>exact⟨kw,.fin (List.getElem?_eq_none_iff.mp hp),Eo h⟩
  |some p=>
   obtain⟨kw',hr,hl⟩:=ih (i:=i+1) (by rw[xC];exact hm) (FN (cs:=Fo st p (v5 st.length)) h);exact⟨kw',.step hp hr,hl⟩
def jZ(kw:KW):Option (List Nat):=(kw.find? λp=>TX p.1).map (·.2)
theorem Cg(p:Nd×List Nat)(kw:KW):jZ (p::kw)=if TX p.1 then some p.2 else jZ kw:=by
 unfold jZ;rw[List.find?_cons];cases TX p.1<;>rfl
structure KM(st:List Nd)(kw:KW)(i:Nat)(q:KW):Prop where
 le:i<=kw.length
 eq:kw=AI (kw.take i) q
theorem KM.seen(h:KM st kw i (c::q))(hs:NX (kw.take i) c.1=true):KM st kw i q:=
 ⟨h.le,by have e:=h.eq;rw[GZ,ad1,if_pos hs] at e;exact e⟩
theorem DQ{α:Type}{a b:List α}(h:a <+: b){i:Nat}(hi:i<a.length):b[i]?=a[i]?:=by
 obtain⟨t,rfl⟩:=h;exact xV hi
theorem Kg{α:Type}{a b:List α}(h:a <+: b){i:Nat}(hi:i<=a.length):b.take i=a.take i:=by
 obtain⟨t,rfl⟩:=h;exact List.take_append_of_le_length hi
theorem EB{α:Type}{a:List α}{i:Nat}{x:α}(h:a[i]?=some x):a.take (i+1)=a.take i++[x]:=by
 rw[List.take_add_one,h];rfl
theorem KM.new{st:List Nd}{kw:KW}{i:Nat}{c:Nd×List Nat}{q:KW}(h:KM st kw i (c::q))(hs:NX (kw.take i) c.1=false):kw[i]?=some c/\KM st kw (i+1) q:=by
 have e:=h.eq;rw[GZ,ad1,if_neg (by rw[hs];decide)] at e;have hp:kw.take i++[c] <+: kw:=by
  conv=>rhs;rw[e]
  exact Au _ _
 have hl:(kw.take i).length=i:=List.length_take_of_le h.le;have hg:kw[i]?=some c:=by
  rw[DQ hp (by rw[uE,hl];exact w9 _),zaB (vC hl),hl,Nat.sub_self];rfl
 refine⟨hg,?_,?_⟩
 ·exact(List.getElem?_eq_some_iff.mp hg).1
 ·rw[EB hg];exact e
theorem KM.go{st:List Nd}{kw:KW}{i:Nat}{q cs:KW}(h:KM st kw i q):KM st (AI kw cs) i (q++cs):=by
 refine⟨qA h.le (Au cs kw).length_le,?_⟩;rw[Kg (Au cs kw) h.le,Cb,<-h.eq]
theorem KM.fin(h:KM st kw i []):kw.length<=i:=by
 have e:=congrArg List.length h.eq
 change kw.length=(kw.take i).length at e
 rw[e];exact List.length_take_le ..
theorem QO(st:List Nd):KM st (AI [] q) 0 q:=⟨uZ _,rfl⟩
noncomputable def EM:Nat->List Nat->Nat
 |a,[]=>a
 |a,k::w=>EM (5*a+(k+1)) w
abbrev code(w:List Nat):Nat:=EM 0 w
theorem NG:∀(w:List Nat) (a k:Nat),EM a (w++[k])=5*EM a w+(k+1):=by
 intro w;induction w with
 |nil=>intro a k;rfl
 |cons j w ih=>intro a k;exact ih _ _
theorem Jm:∀(w:List Nat) (a:Nat),a*5 ^ w.length<=EM a w:=by
 intro w;induction w with
 |nil=>intro a;exact vC (Nat.mul_one a)
 |cons j w ih=>
  intro a;refine qA ?_ (ih _);rw[vB,Nat.pow_succ,Nat.mul_comm (5 ^ w.length) 5,<-Nat.mul_assoc,Nat.mul_comm a 5];exact zbp _ (uV _ _)
theorem Jl:∀(w:List Nat) (a:Nat),(∀k∈w,k<4)->EM a w+1<=(a+1)*5 ^ w.length:=by
 intro w;induction w with
 |nil=>intro a _;exact vC (Nat.mul_one (a+1)).symm
 |cons j w ih=>
  intro a h;refine qA (ih _ λk hk=>h k (u0 _ hk)) ?_;have hj:=h j u4;rw[vB,Nat.pow_succ,Nat.mul_comm (5 ^ w.length) 5,<-Nat.mul_assoc];exact zbp _ (by rw[Nat.mul_comm (a+1)];exact uD (uL hj) (5*a))
structure I2(st:List Nd)(kw:KW)(i k:Nat):Prop where
 srt:(kw.map λp=>code p.2).Pairwise (·<·)
 dig:∀p∈kw,∀j∈p.2,j<4
 nxt:∀q,kw[i]?=some q->∀p∈kw,code p.2<5*code q.2+(k+1)
theorem I2.add(hq:kw[i]?=some q)(h:I2 st kw i k)(hk:k<4)(x:Nd):I2 st (ad1 kw (x,q.2++[k])) i (k+1):=by
 have up:I2 st kw i (k+1):=⟨h.srt,h.dig,λq hq p hp=>qD (h.nxt q hq p hp) (w4 _)⟩;unfold ad1;split
 ·exact up
 ·have hn:=h.nxt q hq;have hc:code (q.2++[k])=5*code q.2+(k+1):=NG _ _ _;refine⟨?_,?_,?_⟩
  ·rw[vU,List.pairwise_append];refine⟨h.srt,List.pairwise_singleton _ _,?_⟩;intro a ha b hb;obtain⟨p,hp,rfl⟩:=List.mem_map.mp ha;have hb:b=code (q.2++[k]):=by simpa using hb
   rw[hb,hc];exact hn p hp
  ·intro p hp j hj;rcases List.mem_append.mp hp with hp|hp
   ·exact h.dig p hp j hj
   ·have hp:p=(x,q.2++[k]):=by simpa using hp
    subst hp;rcases List.mem_append.mp hj with hj|hj
    ·exact h.dig q (v9 hq) j hj
    ·have hj:j=k:=by simpa using hj
     exact hj▸hk
  ·intro q' hq' p hp;have hi:i<kw.length:=(List.getElem?_eq_some_iff.mp hq).1;rw[xV hi,hq] at hq';injection hq' with hq';subst hq'
   rcases List.mem_append.mp hp with hp|hp
   ·exact qD (hn p hp) (w4 _)
   ·have hp:p=(x,q.2++[k]):=by simpa using hp
    rw[hp,hc];exact uK _
theorem I2.mono(h:I2 st kw i k)(hk:k<=k'):I2 st kw i k':=⟨h.srt,h.dig,λq hq p hp=>qD (h.nxt q hq p hp) (by exact uD (uL hk) _)⟩
theorem I2.chl{st:List Nd}{i:Nat}{q:Nd×List Nat}(hst:st.length<=4):∀(n k:Nat) {kw:KW},kw[i]?=some q->k+n=st.length->I2 st kw i k->I2 st (AI kw (Fo st q (zaC k n))) i st.length:=by
 intro n;induction n with
 |zero=>intro k kw _ hk h;exact h.mono (vC hk)
 |succ n ih=>
  intro k kw hq hk h;have e:Fo st q (zaC k (n+1))=PP st q k++Fo st q (zaC (k+1) n):=by
   rw[List.range'_succ];rfl
  rw[e,Cb];have hkl:k<st.length:=zaK (zaW (yX n)) hk;unfold PP;rw[uA hkl];dsimp only;split
  ·have hi:i<kw.length:=(List.getElem?_eq_some_iff.mp hq).1;refine ih (k+1) ?_ (by exact(xC k n).trans hk) (I2.add hq h (by exact qD ‹_› ‹_›) _);exact(DQ (HR _ _) hi).trans hq
  ·exact ih (k+1) hq (by exact(xC k n).trans hk) (h.mono (w4 _))
theorem I2.next(hst:st.length<=4)(hq:kw[i]?=some q)(h:I2 st kw i st.length):I2 st kw (i+1) 0:=by
 refine⟨h.srt,h.dig,λq' hq' p hp=>?_⟩;have h1:=h.nxt q hq p hp;have hlt:code q.2<code q'.2:=by
  obtain⟨hi,e⟩:=List.getElem?_eq_some_iff.mp hq;obtain⟨hi',e'⟩:=List.getElem?_eq_some_iff.mp hq';have:=List.pairwise_iff_getElem.mp h.srt i (i+1) (by rw[uJ];exact hi) (by rw[uJ];exact hi') (w9 _);rw[List.getElem_map,List.getElem_map,e,e'] at this;exact this
 exact qD h1 (qA (uD (uL hst) _) (vN (vF 5 hlt)))
theorem Eg.ord{st:List Nd}{kw kw':KW}{i:Nat}(hst:st.length<=4)(h:Eg st kw i kw'):I2 st kw i 0->(kw'.map λp=>code p.2).Pairwise (·<·)/\∀p∈kw',∀j∈p.2,j<4:=by
 induction h with
 |fin=>intro o;exact⟨o.srt,o.dig⟩
 |@step kw kw' i q hq r ih=>
  intro o;have o1:=I2.chl hst st.length 0 hq (xD _) o;rw[<-zbo] at o1;have hi:i<kw.length:=(List.getElem?_eq_some_iff.mp hq).1;exact ih (I2.next hst ((DQ (Au _ _) hi).trans hq) o1)
theorem QN(hst:st.length<=4):I2 st (F6 st) 0 0:=by
 have key:∀(n k:Nat) (kw:KW),k+n=st.length->(kw.map λp=>code p.2).Pairwise (·<·)->(∀p∈kw,∃j,j<k/\p.2=[j])->
   ((AI kw ((zaC k n).flatMap λk=>match st[k]? with|some s=>[(s,[k])]|none=>[])).map λp=>code p.2).Pairwise (·<·)/\
   ∀p∈AI kw ((zaC k n).flatMap λk=>match st[k]? with|some s=>[(s,[k])]|none=>[]),∃j,j<st.length/\p.2=[j]:=by
  intro n;induction n with
  |zero=>intro k kw hk h1 h2;exact⟨h1,λp hp=>by obtain⟨j,hj,e⟩:=h2 p hp;exact⟨j,by exact zaK hj hk,e⟩⟩
  |succ n ih=>
   intro k kw hk h1 h2;have hkl:k<st.length:=zaK (zaW (yX n)) hk;rw[List.range'_succ,zaZ,Cb,uA hkl];refine ih (k+1) _ (by exact(xC k n).trans hk) ?_ ?_
   ·show((ad1 kw (st[k],[k])).map λp=>code p.2).Pairwise (·<·);unfold ad1;split
    ·exact h1
    ·rw[vU,List.pairwise_append];refine⟨h1,List.pairwise_singleton _ _,?_⟩;intro a ha b hb;obtain⟨p,hp,rfl⟩:=List.mem_map.mp ha;have hb:b=code [k]:=by simpa using hb
     obtain⟨j,hj,e⟩:=h2 p hp;rw[hb,e];show 5*0+(j+1)<5*0+(k+1);exact zbu (Nat.succ_lt_succ hj) _
   ·intro p hp
    change p∈ad1 kw (st[k],[k]) at hp
    unfold ad1 at hp;split at hp
    ·obtain⟨j,hj,e⟩:=h2 p hp;exact⟨j,by exact vN ‹_›,e⟩
    ·rcases List.mem_append.mp hp with hp|hp
     ·obtain⟨j,hj,e⟩:=h2 p hp;exact⟨j,by exact vN ‹_›,e⟩
     ·have hp:p=(st[k],[k]):=by simpa using hp
      exact⟨k,by exact uK _,by rw[hp]⟩
 obtain⟨h1,h2⟩:=key st.length 0 [] (xD _) List.Pairwise.nil (λp hp=>absurd hp vJ);unfold F6;rw[zbo];refine⟨h1,λp hp j hj=>?_,λq hq p hp=>?_⟩
 ·obtain⟨k,hk,e⟩:=h2 p hp;rw[e] at hj;have hj:j=k:=by simpa using hj
  exact hj▸qD hk hst
 ·obtain⟨k,hk,e⟩:=h2 p hp;obtain⟨l,hl,e2⟩:=h2 q (v9 hq);rw[e,e2];show 5*0+(k+1)<5*(5*0+(l+1))+(0+1);exact qD (zbu (Nat.succ_lt_succ (qD hk hst)) _) (qA (vF 5 (uL (uZ l))) (qA (vC (by rw[Nat.mul_zero,xD])) (w4 _)))
end Mine
namespace Mine
open PySem
noncomputable abbrev lI(i:Int):PE:=.lit (.int i)
noncomputable abbrev lS(l:List Nat):PE:=.lit (.str ⟨l.toArray⟩)
abbrev ix(i:Nat)(k:Int):PE:=.bin .idx (.var i) (lI k)
noncomputable abbrev jp(i:Nat)(e:PE):PS:=.assign (.one i) e
noncomputable abbrev Z2:PE:=.list .nil
noncomputable abbrev cR:PE:=.lit (.bool false)
noncomputable abbrev nN:PE:=.lit .none
noncomputable abbrev Fe:PS:=.ret (.lit (.bool false))
noncomputable abbrev R9:PS:=.ret (.lit (.bool true))
noncomputable abbrev nO:PE:=.lit (.bool true)
noncomputable abbrev AH(a b:PE):PE:=.and_ a b
noncomputable abbrev zp(a b:PE):PE:=.bin .add a b
noncomputable abbrev zM(a b:PE):PE:=.bin .eq a b
noncomputable abbrev zt(a b:PE):PE:=.bin .idx a b
noncomputable abbrev BX(a b:PE):PE:=.bin .lt a b
noncomputable abbrev CA(a b:PE):PE:=.bin .max a b
noncomputable abbrev Aj(a b:PE):PE:=.bin .mem a b
noncomputable abbrev Ak(a b:PE):PE:=.bin .mod a b
noncomputable abbrev Bj(a b:PE):PE:=.bin .mul a b
noncomputable abbrev kW(a b:PE):PE:=.bin .ne a b
noncomputable abbrev Ar(a b:PE):PE:=.bin .nmem a b
noncomputable abbrev Dq(n:Nat)(a:PE):PE:=.call n (.cons a .nil)
noncomputable abbrev Ax(n:Nat)(a b:PE):PE:=.call n (.cons a (.cons b .nil))
noncomputable abbrev B3(n:Nat)(a b c:PE):PE:=.call n (.cons a (.cons b (.cons c .nil)))
noncomputable abbrev Kh(n:Nat)(a b c d:PE):PE:=.call n (.cons a (.cons b (.cons c (.cons d .nil))))
noncomputable abbrev Aa:PE:=.lit (.int 0)
noncomputable abbrev jL:PE:=.lit (.int 1)
noncomputable abbrev BB:PE:=.lit (.int 2)
noncomputable abbrev zU(a:PE)(b:PS):PS:=.ifs a b .skip
noncomputable abbrev GR(a b c d:PE):PEs:=.cons a (.cons b (.cons c (.cons d .nil)))
noncomputable abbrev CP(a:PE):PE:=.list (.cons a .nil)
noncomputable abbrev DR(a b:PE):PE:=.list (.cons a (.cons b .nil))
noncomputable abbrev Al(a b:PS):PS:=.seq a b
noncomputable abbrev CV(a b c:PS):PS:=.seq a (.seq b c)
noncomputable abbrev AO(a b c d:PS):PS:=.seq a (.seq b (.seq c d))
noncomputable abbrev LG(a b c d e f g h i:PS):PS:=.seq a (.seq b (.seq c (.seq d (.seq e (.seq f (.seq g (.seq h i)))))))
noncomputable abbrev jM(a:PE):PS:=.ret a
noncomputable abbrev j5:PE:=.lit (.str ⟨#[105,102]⟩)
noncomputable abbrev jN:PE:=.lit (.str ⟨#[110,117,109]⟩)
noncomputable abbrev zG:PE:=.lit (.str ⟨#[110,97,109,101]⟩)
noncomputable abbrev zR:PE:=.lit (.str ⟨#[112,114,101,100]⟩)
noncomputable abbrev jr:PE:=.lit (.str ⟨#[115,117,99,99]⟩)
noncomputable abbrev jE:PE:=.lit (.str ⟨#[32,101,108,115,101,32]⟩)
noncomputable abbrev jF:PE:=.lit (.str ⟨#[32,116,104,101,110,32]⟩)
noncomputable abbrev j9:PE:=.lit (.str ⟨#[99,97,108,108]⟩)
noncomputable abbrev MU(a b c d e f g h i j:PE):PE:=.tup (.cons a (.cons b (.cons c (.cons d (.cons e (.cons f (.cons g (.cons h (.cons i (.cons j .nil))))))))))
noncomputable abbrev zF(a b:PE):PE:=.tup (.cons a (.cons b .nil))
noncomputable abbrev kI(a b c:PE):PE:=.tup (.cons a (.cons b (.cons c .nil)))
noncomputable abbrev km(a b c d:PE):PE:=.tup (.cons a (.cons b (.cons c (.cons d .nil))))
noncomputable abbrev jA(a:PE):PE:=.un .len a
noncomputable abbrev zW:PE:=.var 0
noncomputable abbrev zy:PE:=.var 1
noncomputable abbrev EZ:PE:=.var 11
noncomputable abbrev E0:PE:=.var 12
noncomputable abbrev CB:PE:=.var 15
noncomputable abbrev DS:PE:=.var 16
noncomputable abbrev HB:PE:=.var 17
noncomputable abbrev je:PE:=.var 2
noncomputable abbrev z8:PE:=.var 3
noncomputable abbrev jx:PE:=.var 4
noncomputable abbrev jB:PE:=.var 5
noncomputable abbrev A6:PE:=.var 6
noncomputable abbrev CC:PE:=.var 7
noncomputable abbrev DT:PE:=.var 8
noncomputable abbrev B4:PE:=.var 9
noncomputable abbrev kX:PE:=.bin .idx (.var 0) (.lit (.int 0))
noncomputable abbrev jO:PE:=.bin .idx (.var 0) (.lit (.int 1))
abbrev fA:PS:=(LG (zU (zM CB (lS [98,111,116,104])) (jp 18 (ix 19 0))) (zU (zM CB (lS [100,101,101,112])) (Al (jp 30 (zp (zp (zp (zp (zp (lS [105,102,32]) (zt zy (.bin .sub jL DS))) jF) (zt (ix 19 0) Aa)) jE) (.var 30))) (jp 31 (km j5 (zt zy (.bin .sub jL DS)) (zt (ix 19 0) jL) (.var 31))))) (zU (Aj CB (kI (lS [98,111,116,104]) (lS [100,101,101,112]) (lS [110,101,115,116]))) (.newl 33 (.cons (zt (ix 19 0) BB) (.cons (.var 32) .nil)))) (zU (zM CB (lS [111,118,101,114])) (Al (jp 30 (zp (.var 30) (lS [32,43,32,49]))) (jp 31 (zF jr (.var 31))))) (jp 30 (zp (zp (zp (zp (zp (lS [105,102,32]) (zt zy DS)) jF) (ix 18 0)) jE) (.var 30))) (jp 31 (km j5 (zt zy DS) (ix 18 1) (.var 31))) (zU (zM CB (lS [117,110,100,101,114])) (Al (jp 30 (zp (zp (lS [40,32]) (.var 30)) (lS [32,41,32,45,32,49]))) (jp 31 (zF zR (.var 31))))) (zU (zM CB (lS [108,101,97,102])) (CV (jp 30 (ix 18 0)) (jp 31 (ix 18 1)) (.newl 33 .nil))) (jM (kI (zp (zp (zp (zp (zp (zp zW (lS [32,40,32])) (ix 1 0)) (lS [32,44,32])) (ix 1 1)) (lS [32,41,32,61,32])) (.var 30)) (kI zW (DR (ix 1 0) (ix 1 1)) (.var 31)) (.var 33))))
abbrev rD:PS:=(CV (.assign (.many [30,31,32]) (ix 19 1)) (.newl 33 (.cons (.var 32) .nil)) fA)
abbrev rU:PS:=(AO (jp 27 (.call 20 (.cons (.var 24) (GR (.var 25) zy (ix 21 0) (ix 21 1))))) (jp 28 (zt (zF (lS [102]) (lS [120])) (.var 20))) (jp 29 (zp (zp (zp (zp (zp (.var 28) (lS [32,40,32])) (ix 26 0)) (lS [32,44,32])) (ix 27 0)) (lS [32,41]))) (.app 19 (kI (.var 29) (kI j9 (.var 28) (DR (ix 26 1) (ix 27 1))) (kI zW (.var 28) (km (ix 26 2) (ix 27 2) (ix 26 3) (ix 27 3))))))
abbrev pQ:PS:=(zU (AH (zM CB (lS [110,101,115,116])) (kW (.var 19) Z2)) (jp 26 (km (zt (ix 19 0) Aa) (zt (ix 19 0) jL) Aa Aa)))
abbrev pP:PS:=(jp 26 (.call 20 (.cons (.var 22) (GR (.var 23) zy (ix 21 0) (ix 21 1)))))
abbrev nG:PS:=(CV pP pQ rU)
abbrev s4:PS:=(Al (.app 6 (Ax 3 z8 (zp jB jL))) (jp 5 (zp jB BB)))
abbrev s8:PE:=(zM (Ax 1 z8 jB) (lS [44]))
abbrev Pq:PS:=(LG (jp 3 (Dq 0 je)) (zU (zM z8 Z2) .cont) (jp 4 (Ax 3 z8 Aa)) (jp 5 (B3 2 z8 jL (lS [40]))) (.newl 6 (.cons (Ax 3 z8 jB) .nil)) (jp 5 (zp jB jL)) (.whil s8 s4) (jp 5 (B3 2 z8 jB (lS [41]))) (AO (jp 5 (B3 2 z8 jB (lS [61]))) (.assign (.many [7,5]) (Ax 4 z8 jB)) (zU (.or_ (kW jB (jA z8)) (Dq 7 A6)) .raise) (.app 1 (kI jx A6 CC))))
abbrev fK:PS:=(zU (zM (zt (zt zW zy) Aa) DT) (.app 4 (zF (kI CC (zt (zt zW zy) jL) (Ax 22 B4 (zt (zt zW zy) BB))) (zp A6 (CP zy)))))
abbrev fC:PE:=(AH (zM CC DT) (AH (zM (Ax 22 B4 B4) B4) (AH (BX (ix 9 0) BB) (BX (ix 9 3) BB))))
abbrev fB:PS:=(zU (Ar jB z8) (AO (.app 3 jB) (.assign (.many [7,8,9]) jB) (zU fC (jM A6)) (.forr (.one 1) true (jA zW) fK)))
abbrev fW:PS:=(AO (zU (zM je Z2) .brk) (.newl 4 .nil) (.forr (.many [5,6]) false je fB) (jp 2 jx))
abbrev cQ:PS:=(Al (jp 5 (zp (zp (zp jB (lS [32])) E0) (lS [32,49]))) (.ifs (zM E0 (lS [43])) (CV (jp 6 (zF jr A6)) (jp 7 (CA (.bin .sub CC jL) Aa)) (jp 8 (CA (.bin .sub DT jL) Aa))) (Al (zU (zM (ix 6 0) zG) (Al (jp 7 (Bj CC (zp jL z8))) (jp 8 (Bj DT (zp jL jx))))) (jp 6 (zF zR A6)))))
abbrev dI:PS:=(zU (.or_ (.un .isNone z8) (BX (zF (jA (zt je jx)) (zt je jx)) (zF (jA z8) z8))) (jp 3 (zt je jx)))
abbrev dC:PE:=(AH (zM (ix 5 0) (ix 5 1)) (AH (zM (Ax 10 jB jB) jB) (.un .not (Dq 12 jB))))
abbrev dB:PS:=(Al (jp 5 (zt zy jx)) (zU dC dI))
abbrev aB:PS:=(zU (zM (zt (zt zW z8) Aa) (zt (zt zy jx) jL)) (Al (jp 5 (Ax 10 (zt zy jx) (zt zW z8))) (zU (Ar jB zy) (Al (.app 1 jB) (.app 2 (zp (zt je jx) (CP z8)))))))
abbrev aW:PS:=(Al (.forr (.one 3) true (jA zW) aB) (jp 4 (zp jx jL)))
abbrev qP:PS:=(.ifs (Aj (zt zW je) (.glob 0)) (.whil (AH (BX z8 (jA zW)) (Aj (zt zW z8) (.glob 0))) (jp 3 (zp z8 jL))) (zU (Aj (zt zW je) (.glob 1)) (.whil (AH (BX z8 (jA zW)) (Aj (zt zW z8) (.glob 1))) (jp 3 (zp z8 jL)))))
abbrev qM:PS:=(AO (jp 6 zR) (zU (zM (Ax 1 zW zy) (lS [43])) (jp 6 jr)) (jp 1 (B3 2 zW (zp zy jL) (lS [49]))) (jp 5 (zF A6 jB)))
abbrev r7:PS:=(.forr (.one 4) true (jA zy) (.ifs (zM jO Aa) (.put 3 jx (Aj (zt zy jx) je)) (zU (Aj (zt zy jx) je) (.put 3 jx cR))))
abbrev eT:PS:=(zU (zM A6 jx) (.put 2 (zF z8 CC) (.or_ (.m2 .get je (zF z8 CC) cR) (.or_ jB DT))))
abbrev mS:PS:=(.forr (.many [6,7,8]) false (ix 1 2) eT)
abbrev rY:PE:=(AH (zM (zt jO Aa) zG) (Aj (zt jO jL) je))
abbrev r8:PS:=(.put 3 jx (.or_ (zt jB jx) rY))
abbrev aI:PS:=(zU (Ar (zt zW z8) zy) (Al (.app 1 (zt zW z8)) (.app 2 (CP z8))))
abbrev mN:PS:=(.app 1 (kI (ix 2 0) (ix 2 1) (zt zW je)))
abbrev qN:PE:=(Aj (Ax 1 zW zy) (DR (lS [43]) (lS [45])))
abbrev mL:PS:=(Al (.assign (.many [6,1]) (Ax 4 zW (zp zy jL))) (.app 5 A6))
abbrev sC:PE:=(AH (.bin .gt (jA je) jL) (zM (ix 2 0) (lS [48])))
abbrev mM:PE:=(.or_ (zM jB Z2) (zM (Ax 1 zW zy) (lS [44])))
abbrev cU:PS:=(zU (Aj (zt zW zy) (.bin .upto zW zy)) R9)
abbrev rZ:PE:=(AH (kW je (lS [])) (Aj (ix 2 0) (.glob 1)))
abbrev Zy:PS:=(.exp (Kh 6 jx zy je z8))
abbrev gT:PS:=(.exp (Kh 6 CC A6 DT B4))
abbrev Pu:PS:=(.put 5 (zF DT A6) (zt CC DT))
def Hh:jt:=⟨1,7,false,AO (.newl 1 .nil) (jp 2 Aa) (.whil (BX je (jA zW)) (AO (jp 3 (zp je jL)) qP (zU (kW (zt zW je) (lS [32])) (.app 1 (.tri .slice zW je z8))) (jp 2 z8))) (jM zy)⟩
def Fq:jt:=⟨2,3,false,Al (zU (BX zy (jA zW)) (jM (zt zW zy))) (jM (lS []))⟩
def Ib:jt:=⟨3,5,false,Al (zU (kW (Ax 1 zW zy) je) .raise) (jM (zp zy jL))⟩
def Ia:jt:=⟨2,7,false,CV (jp 2 (Ax 1 zW zy)) (zU (.or_ (zM je (lS [])) (.or_ (Ar (ix 2 0) (.glob 0)) (Aj je (.glob 2)))) .raise) (jM je)⟩
def Mj:jt:=⟨2,12,false,AO (zU (zM (Ax 1 zW zy) j5) (AO (jp 2 (Ax 3 zW (zp zy jL))) (jp 1 (B3 2 zW (zp zy BB) (lS [116,104,101,110]))) (.assign (.many [3,1]) (Ax 4 zW zy)) (CV (jp 1 (B3 2 zW zy (lS [101,108,115,101]))) (.assign (.many [4,1]) (Ax 4 zW zy)) (jM (zF (km j5 je z8 jx) zy))))) (.assign (.many [5,1]) (Ax 5 zW zy)) (.whil qN qM) (jM (zF jB zy))⟩
def Mi:jt:=⟨2,15,false,LG (jp 2 (Ax 1 zW zy)) (zU (zM je (lS [40])) (CV (.assign (.many [3,1]) (Ax 4 zW (zp zy jL))) (jp 1 (B3 2 zW zy (lS [41]))) (jM (zF z8 zy)))) (zU rZ (Al (zU sC .raise) (jM (zF (zF jN (.un .int je)) (zp zy jL))))) (jp 4 (Ax 3 zW zy)) (jp 1 (zp zy jL)) (zU (kW (Ax 1 zW zy) (lS [40])) (jM (zF (zF zG jx) zy))) (.newl 5 .nil) (.whil mM mL) (Al (jp 1 (B3 2 zW zy (lS [41]))) (jM (zF (kI j9 jx jB) zy)))⟩
def Fp:jt:=⟨4,8,false,AO (zU (AH (zM kX zG) (Ar jO zy)) .raise) (zU (.or_ (zM kX zR) (zM kX jr)) (.exp (Kh 6 jO zy je z8))) (zU (zM kX j5) (CV (zU (Ar jO zy) .raise) (.exp (Kh 6 (ix 0 2) zy je z8)) (.exp (Kh 6 (ix 0 3) zy je z8)))) (zU (zM kX j9) (Al (zU (.or_ (Ar jO je) (kW (zt z8 (.m1 .index je jO)) (jA (ix 0 2)))) .raise) (.forr (.one 4) false (ix 0 2) Zy)))⟩
def Jz:jt:=⟨1,4,false,Al (.forr (.one 1) true (jA zW) cU) Fe⟩
def Fs:jt:=⟨1,19,false,AO (.newl 1 .nil) (.forr (.one 2) false (.m1 .split zW (lS [10])) Pq) (jp 8 (.comp [none,none] false zy (.one 1) (.elt nO (ix 1 0)))) (AO (jp 9 (.comp [none,none,none] false zy (.one 1) (.elt nO (jA (ix 1 1))))) (zU (.or_ (zM zy Z2) (Dq 7 DT)) .raise) (.forr (.many [4,6,7]) false zy gT) (jM zy))⟩
def Hg:jt:=⟨1,4,false,CV (.newl 1 .nil) (.forr (.one 2) false (.un .keys zW) mN) (jM zy)⟩
def Hi:jt:=⟨2,11,false,AO (zU (kW jO (ix 1 0)) .raise) (.newd 2) (.forr (.many [3,4,5]) false (ix 0 2) mS) (jM (kI kX (ix 1 1) (Dq 9 je)))⟩
def Qq:jt:=⟨1,9,false,AO (.newl 1 .nil) (.newl 2 .nil) (.forr (.one 3) true (jA zW) aI) (CV (jp 4 Aa) (.whil (BX jx (jA zy)) aW) (jM (zF zy je)))⟩
def Le:jt:=⟨1,4,false,Al (.forr (.many [1,2,3]) false (ix 0 2) (zU (AH (zM zy je) z8) R9)) Fe⟩
def JA:jt:=⟨1,11,false,AO (.assign (.many [1,2]) (Dq 11 zW)) (jp 3 nN) (.forr (.one 4) true (jA zy) dB) (jM z8)⟩
def Qs:jt:=⟨1,2,false,jM (.un .isNone (Dq 13 zW))⟩
def Jy:jt:=⟨3,11,false,CV (.newd 3) (.ifs (zM kX zG) (.put 3 (.m1 .index zy jO) cR) (.ifs (AH (zM kX jN) (BX jO BB)) r7 (.ifs (zM kX zR) (Al (jp 5 (B3 15 jO zy je)) (.forr (.one 4) false jB r8)) (.ifs (zM kX jr) (Al (jp 5 (B3 15 jO zy je)) (.forr (.one 4) false jB (zU (zt jB jx) (.put 3 jx cR)))) (zU (zM kX j5) (CV (jp 6 (B3 15 (ix 0 2) zy je)) (jp 7 (B3 15 (ix 0 3) zy (zp je (CP jO)))) (.forr (.one 4) false A6 (zU (Aj jx CC) (.put 3 jx (AH (zt A6 jx) (zt CC jx))))))))))) (jM z8)⟩
def DG:jt:=⟨5,15,true,.ifs (.or_ (zM (ix 2 0) zR) (zM (ix 2 0) jr)) (.io 16 (GR zW zy (ix 2 1) z8) 4) (.ifs (zM (ix 2 0) j5) (Al (.io 16 (GR zW zy (ix 2 2) z8) 4) (.io 16 (GR zW zy (ix 2 3) (zp z8 (CP (ix 2 1)))) 4)) (zU (zM (ix 2 0) j9) (AO (.newd 5) (.forr (.one 6) true (jA (ix 2 2)) (CV (.io 16 (GR zW zy (zt (ix 2 2) A6) z8) 4) (jp 7 (B3 15 (zt (ix 2 2) A6) zy z8)) (.forr (.one 8) false CC Pu))) (jp 9 (kI zW (ix 2 1) (Dq 9 jB))) (zU (Ar B4 jx) (.app 4 B4)))))⟩
def Mk:jt:=⟨1,6,false,CV (.newl 1 .nil) (.forr (.many [2,3,4]) false zW (.io 16 (GR je z8 jx Z2) 1)) (jM zy)⟩
def Qr:jt:=⟨1,3,false,jM (Dq 14 (Dq 17 zW))⟩
def EU:jt:=⟨4,13,false,LG (.assign (.many [4,5]) zy) (jp 6 (km jx (zF zG jx) jL Aa)) (jp 7 (km jB (zF zG jB) Aa jL)) (jp 8 (km (zp jx (lS [32,45,32,49])) (zF zR (zF zG jx)) (zp jL je) Aa)) (jp 9 (km (zp jB (lS [32,45,32,49])) (zF zR (zF zG jB)) Aa (zp jL z8))) (jp 10 (km (lS [48]) (zF jN Aa) (zp jL je) (zp jL z8))) (jp 11 (km (lS [49]) (zF jN jL) je z8)) (jp 12 (km (zp (zp (lS [40,32]) jB) (lS [32,41])) (zF zG jB) Aa jL)) (jM (zt (.tup (.cons A6 (.cons CC (.cons DT (.cons B4 (.cons (.var 10) (.cons EZ (.cons (km (lS [50]) (zF jN BB) Aa Aa) (.cons (km (lS [49,48]) (zF jN (lI 10)) Aa Aa) (GR A6 DT CC E0)))))))))) (Ak zW (lI 12))))⟩
def F2:jt:=⟨5,17,false,AO (.assign (.many [5,6,7,8]) (Kh 19 zW je z8 jx)) (.assign (.many [9,10]) (zt (.glob 4) (Ak zy (lI 12)))) (zU (BX B4 BB) (AO (jp 11 (Kh 19 (zp zW zy) je (CA z8 (.bin .sub jL B4)) (CA jx B4))) (jp 5 (zp (zp (zp (zp (zp (zp (lS [40,32,105,102,32]) (zt je B4)) jF) jB) jE) (ix 11 0)) (lS [32,41]))) (jp 6 (km j5 (zt je B4) A6 (ix 11 1))) (Al (jp 7 (.bin .min CC (ix 11 2))) (jp 8 (.bin .min DT (ix 11 3)))))) (Al (.forr (.one 12) false (.var 10) cQ) (jM (km jB A6 CC DT)))⟩
def ER:jt:=⟨3,37,false,AO (.assign (.many [3,4,5,6,7,8,9,10,11,12]) je) (.assign (.many [13,14,15]) (zt (.glob 3) (Ak z8 (lI 8)))) (jp 16 (Ak jx BB)) (AO (jp 17 (kI (zF Aa Aa) (zF (.bin .sub jL DS) DS) (zF jL jL))) (jp 18 (Kh 19 (zp jB jx) zy Aa Aa)) (.newl 19 .nil) (Al (.forr (.many [20,21,22,23,24,25]) false (zF (.tup (.cons (Ak (.bin .fdiv jx BB) BB) (.cons (zt HB (.var 13)) (GR jB A6 CC DT)))) (.tup (.cons (Ak (.bin .fdiv jx (lI 4)) BB) (.cons (zt HB (.var 14)) (GR B4 (.var 10) EZ E0))))) nG) rD))⟩
def ET:jt:=⟨2,6,false,CV (jp 2 (zF (.bin .min BB (CA (Bj kX (ix 1 0)) (Bj jO (ix 1 2)))) (.bin .min BB (CA (Bj kX (ix 1 1)) (Bj jO (ix 1 3)))))) (jp 3 (zF (.bin .min BB (CA (Bj (ix 0 2) (ix 1 0)) (Bj (ix 0 3) (ix 1 2)))) (.bin .min BB (CA (Bj (ix 0 2) (ix 1 1)) (Bj (ix 0 3) (ix 1 3)))))) (jM (zp je z8))⟩
def H9:jt:=⟨3,4,false,jM (kI zW zy (.comp [none,none,some 2] true (lI 4) (.one 1) (.elt (.bin .gt (zt je zy) Aa) (kI (.bin .fdiv zy BB) (Ak zy BB) (zM (zt je zy) BB)))))⟩
def DH:jt:=⟨1,13,false,AO (jp 2 (.comp [none,none,some 0] true (jA zW) (.one 1) (.elt nO (zF (zt je zy) (CP zy))))) (.newl 3 .nil) (.whil nO fW) (jM nN)⟩
noncomputable def Br:jt:=⟨1,41,false,.skip⟩
def T:List jt:=[Hh,Fq,Ib,Ia,Mj,Mi,Fp,Jz,Fs,Hg,Hi,Qq,Le,JA,Qs,Jy,DG,Mk,Qr,EU,F2,ER,ET,H9,DH,Br]
noncomputable def G:List D:=[(.str ⟨#[97,98,99,100,101,102,103,104,105,106,107,108,109,110,111,112,113,114,115,116,117,118,119,120,121,122]⟩),
 (.str ⟨#[48,49,50,51,52,53,54,55,56,57]⟩),
 (.list [(.str ⟨#[105,102]⟩),(.str ⟨#[116,104,101,110]⟩),(.str ⟨#[101,108,115,101]⟩)]),
 (.tuple [(.tuple [(.int 0),(.int 1),(.str ⟨#[108,97,115,116]⟩)]),(.tuple [(.int 1),(.int 2),(.str ⟨#[100,101,101,112]⟩)]),(.tuple [(.int 0),(.int 1),(.str ⟨#[98,111,116,104]⟩)]),(.tuple [(.int 1),(.int 1),(.str ⟨#[110,101,115,116]⟩)]),(.tuple [(.int 0),(.int 1),(.str ⟨#[111,118,101,114]⟩)]),(.tuple [(.int 0),(.int 1),(.str ⟨#[117,110,100,101,114]⟩)]),(.tuple [(.int 0),(.int 0),(.str ⟨#[108,101,97,102]⟩)]),(.tuple [(.int 1),(.int 2),(.str ⟨#[100,101,101,112]⟩)])]),
 (.tuple [(.tuple [(.int 2),(.str ⟨#[]⟩)]),(.tuple [(.int 2),(.str ⟨#[45]⟩)]),(.tuple [(.int 2),(.str ⟨#[]⟩)]),(.tuple [(.int 2),(.str ⟨#[45]⟩)]),(.tuple [(.int 2),(.str ⟨#[43]⟩)]),(.tuple [(.int 2),(.str ⟨#[45,43]⟩)]),(.tuple [(.int 2),(.str ⟨#[45,45]⟩)]),(.tuple [(.int 2),(.str ⟨#[43,45]⟩)]),(.tuple [(.int 0),(.str ⟨#[]⟩)]),(.tuple [(.int 1),(.str ⟨#[]⟩)]),(.tuple [(.int 0),(.str ⟨#[45]⟩)]),(.tuple [(.int 1),(.str ⟨#[43]⟩)])]),
 (.tuple [(.str ⟨#[104,40,99,41,32,61,32,100]⟩),(.str ⟨#[104,40,99,41,32,61,32,100,32,45,32,49]⟩),(.str ⟨#[104,40,99,41,32,61,32,100,32,43,32,49]⟩),(.str ⟨#[104,40,99,41,32,61,32,105,102,32,100,32,116,104,101,110,32,99,32,101,108,115,101,32,99]⟩),(.str ⟨#[104,40,99,41,32,61,32,105,102,32,99,32,116,104,101,110,32,100,32,101,108,115,101,32,99]⟩),(.str ⟨#[104,40,99,41,32,61,32,105,102,32,99,32,116,104,101,110,32,99,32,101,108,115,101,32,100]⟩),(.str ⟨#[104,40,99,41,32,61,32,102,40,99,44,32,100,41]⟩),(.str ⟨#[104,40,99,41,32,61,32,102,40,99,41]⟩),(.str ⟨#[104,40,99,41,32,61,32,102,40,99,44,32,99,44,32,99,41]⟩),(.str ⟨#[104,40,99,41,32,61,32,107,40,99,41]⟩),(.str ⟨#[104,40,99,44,32,99,41,32,61,32,99]⟩),(.str ⟨#[102,40,99,44,32,100,41,32,61,32,99]⟩)]),
 (.tuple [(.str ⟨#[104,40,99,41,32,61,32,48,49]⟩),(.str ⟨#[104,40,105,102,41,32,61,32,49]⟩),(.str ⟨#[104,40,99,41,32,61,32,99,32,45,32,50]⟩),(.str ⟨#[104,40,99,41,32,61,32,99,32,99]⟩),(.str ⟨#[104,40,41,32,61,32,49]⟩),(.str ⟨#[104,40,99,41,32,61,32,102,40,99,44,32,41]⟩),(.str ⟨#[104,40,99,41,32,61,32,99,32,43]⟩),(.str ⟨#[104,40,99,44,32,49,41,32,61,32,99]⟩),(.str ⟨#[49,40,99,41,32,61,32,99]⟩),(.str ⟨#[104,40,99,41,32,61,32,40,99]⟩),(.str ⟨#[104,40,99,41,32,99]⟩),(.str ⟨#[104,40,99,41,32,61,32,105,102,32,99,32,116,104,101,110,32,99]⟩)])]
noncomputable abbrev S(l:List Nat):Str:=⟨l.toArray⟩
abbrev ds(l:List Nat):D:=.str (S l)
noncomputable def kZ(r:Fl×zg):R D:=match r.1 with
 |.ret d=>.ok d
 |.next=>.ok .none
 |_=>.stuck
@[simp] theorem DV(d:D)(ρ:zg):kZ (.ret d,ρ)=.ok d:=rfl
@[simp] theorem cS(ρ:zg):kZ (.next,ρ)=.ok .none:=rfl
theorem zJ(h:T[i]?=some fd)(hio:fd.io=false)(hl:args.length=fd.np)
  (hr:args++vX (fd.nv - fd.np) .none=ρ):
  zd G T wf (n+1) i args=R.bind (exec G (zd G T wf n) (zj G T wf n) wf fd.body ρ) kZ:=by
 have hi:Bx T i=false:=by simp[Bx,h,hio]
 show(if Bx T i then R.stuck else R.bind (Ce G T wf (n+1) i args) λr=>.ok r.1)=_;rw[hi,if_neg (by decide),Ma];simp only[h,hl,if_true,hr];show R.bind (R.bind (exec G (zd G T wf n) (zj G T wf n) wf fd.body ρ) _) _=_;cases exec G (zd G T wf n) (zj G T wf n) wf fd.body ρ with
 |ok r=>
  obtain⟨f,σ⟩:=r;cases f<;>rfl
 |ve=>rfl
 |stuck=>rfl
theorem NB(h:T[i]?=some fd)(hio:fd.io=true)(hl:args.length=fd.np)
  (hr:args++vX (fd.nv - fd.np) .none=ρ):
  zj G T wf (n+1) i args=R.bind (exec G (zd G T wf n) (zj G T wf n) wf fd.body ρ) λr=>match r.1 with
   |.ret _=>.ok (zq r.2 (fd.np - 1))
   |.next=>.ok (zq r.2 (fd.np - 1))
   |_=>.stuck:=by
 have hi:Bx T i=true:=by simp[Bx,h,hio]
 show(if Bx T i then R.bind (Ce G T wf (n+1) i args) λr=>.ok r.2 else R.stuck)=_;rw[hi,if_pos rfl,Ma];simp only[h,hl,if_true,hr];show R.bind (R.bind (exec G (zd G T wf n) (zj G T wf n) wf fd.body ρ) _) _=_;cases exec G (zd G T wf n) (zj G T wf n) wf fd.body ρ with
 |ok r=>
  obtain⟨f,σ⟩:=r;cases f<;>rfl
 |ve=>rfl
 |stuck=>rfl
@[simp] theorem EJ(a b:List Nat):(S a=S b)↔a=b:=by
 constructor
 ·intro h;injection h with h;exact List.toArray_inj h
 ·rintro rfl;rfl
@[simp] theorem FM(a b:List Nat):S a++S b=S (a++b):=by
 show(⟨a.toArray++b.toArray⟩:Str)=_;simp
@[simp] theorem WZ(a:List Nat):(S a).length=a.length:=rfl
@[simp] theorem CL(x y:Str):I3 (.str x) (.str y)=.ok (.bool (decide (x=y))):=rfl
@[simp] theorem FB(x y:Str):FA (.str x) (.str y)=.ok (.bool (!decide (x=y))):=rfl
@[simp] theorem mU(x y:Int):I3 (.int x) (.int y)=.ok (.bool (decide (x=y))):=rfl
@[simp] theorem nK(x y:Int):FA (.int x) (.int y)=.ok (.bool (!decide (x=y))):=rfl
@[simp] theorem DF(xs:List D):I3 (.list xs) (.list [])=.ok (.bool xs.isEmpty):=by
 induction xs using uB with
 |nil=>rfl
 |cons x xs=>
  have h:decide (4000<min (v7 (.list (x::xs))) 1)=false:=decide_eq_false λh=>absurd (qD h (zaw _ _)) (by decide);show(if(false||false||decide (4000<min (v7 (.list (x::xs))) 1))=true then R.stuck else R.ok (vE false))=_;rw[h];rfl
theorem Bt(xs:List D)(p:Nat):jd (.list xs) (.int p)=ji (xs[p]?):=rfl
theorem BK(xs:List D)(p:Nat):jd (.tuple xs) (.int p)=ji (xs[p]?):=rfl
theorem JD(l:List Nat)(p:Nat):jd (ds l) (.int p)=match l[p]? with|some c=>.ok (ds [c])|none=>.stuck:=by
 show R.bind (ji l[p]?) (λc=>R.ok (PyData.str ⟨#[c]⟩))=_;cases l[p]?<;>rfl
@[simp] theorem Xk(x:D)(xs:List D):jd (.tuple (x::xs)) (.int 0)=.ok x:=rfl
@[simp] theorem Xl(x y:D)(xs:List D):jd (.tuple (x::y::xs)) (.int 1)=.ok y:=rfl
@[simp] theorem Xm(x y z:D)(xs:List D):jd (.tuple (x::y::z::xs)) (.int 2)=.ok z:=rfl
@[simp] theorem Xn(x y z w:D)(xs:List D):jd (.tuple (x::y::z::w::xs)) (.int 3)=.ok w:=rfl
@[simp] theorem Xo(x y z w a:D)(xs:List D):jd (.tuple (x::y::z::w::a::xs)) (.int 4)=.ok a:=rfl
@[simp] theorem Xp(x y z w a b:D)(xs:List D):jd (.tuple (x::y::z::w::a::b::xs)) (.int 5)=.ok b:=rfl
@[simp] theorem Xq(x y z w a b c:D)(xs:List D):jd (.tuple (x::y::z::w::a::b::c::xs)) (.int 6)=.ok c:=rfl
@[simp] theorem Y8(x:D)(xs:List D):jd (.list (x::xs)) (.int 0)=.ok x:=rfl
@[simp] theorem Y9(x y:D)(xs:List D):jd (.list (x::y::xs)) (.int 1)=.ok y:=rfl
@[simp] theorem Es(xs:List D):JS (.list xs)=.ok (.int xs.length):=rfl
@[simp] theorem gP(l:List Nat):JS (ds l)=.ok (.int l.length):=rfl
@[simp] theorem MC(i j:Int):U6 (.int i) (.int j)=.ok (.bool (decide (i<j))):=rfl
@[simp] theorem mW(i j:Int):fE (.int i) (.int j)=.ok (.bool (decide (j<i))):=rfl
@[simp] theorem dU(i j:Int):E6 (.int i) (.int j)=.ok (.int (i+j)):=rfl
@[simp] theorem lM(i j:Int):aY (.int i) (.int j)=.ok (.int (i - j)):=rfl
@[simp] theorem iD(i j:Int):ZJ (.int i) (.int j)=.ok (.int (max i j)):=rfl
@[simp] theorem iG(i j:Int):ZM (.int i) (.int j)=.ok (.int (min i j)):=rfl
@[simp] theorem qS(b:Bool):z9 (.bool b)=.ok b:=rfl
@[simp] theorem cO(b:Bool):Vm (.bool b)=.ok (.bool !b):=rfl
theorem oF:(!true)=false:=rfl
theorem oE:(!false)=true:=rfl
theorem c9{α:Type}(l:List α):l.drop 0=l:=rfl
theorem cA{α:Type}(a:α)(l:List α)(n:Nat):(a::l).drop (n+1)=l.drop n:=rfl
section steps
variable{GG:List D}{cf cio:Nat->List D->R D}{wf:Nat}{ρ:zg}{a b c:PE}{s t:PS}{x y z:D}{o:GD}
def UO(GG:List D)(cf cio:Nat->List D->R D)(wf:Nat)(t:PS)(r:Fl×zg):R (Fl×zg):=match r.1 with
  |.next=>exec GG cf cio wf t r.2
  |f=>.ok (f,r.2)
theorem Nl:exec GG cf cio wf (.seq s t) ρ=R.bind (exec GG cf cio wf s ρ) (UO GG cf cio wf t):=rfl
theorem Fw:UO GG cf cio wf t (.next,ρ)=exec GG cf cio wf t ρ:=rfl
theorem UP:UO GG cf cio wf t (.ret x,ρ)=.ok (.ret x,ρ):=rfl
theorem L0:exec GG cf cio wf .skip ρ=.ok (.next,ρ):=rfl
noncomputable def gD(ρ:zg):R (Fl×zg):=.ok (.next,ρ)
def gA(ρ:zg)(g:Tg)(d:D):R (Fl×zg):=R.bind (jy ρ g d) gD
theorem mH:exec GG cf cio wf (.assign g a) ρ=R.bind (ev GG cf a ρ) (gA ρ g):=rfl
theorem Zo:gA ρ (.one i) x=.ok (.next,ρ.set i x):=rfl
def Xx(ρ:zg)(i:Nat)(ds:List D):R (Fl×zg):=if ds.any isDict then .stuck else .ok (.next,ρ.set i (.list ds))
def Zn(ρ:zg)(i:Nat)(d:D):R (Fl×zg):=R.bind (TQ (zq ρ i) d) λl=>.ok (.next,ρ.set i l)
theorem X3:exec GG cf cio wf (.app i a) ρ=if DI (zq ρ i) then R.bind (ev GG cf a ρ) (Zn ρ i) else .stuck:=rfl
theorem Xz(h:zq ρ i=.list xs)(hl:xs.length<1000000)(hx:isDict x=false):Zn ρ i x=.ok (.next,ρ.set i (.list (xs++[x]))):=by
 unfold Zn;rw[h];show R.bind (if(isDict x||decide (zv<=xs.length))=true then R.stuck else R.ok (w8 (xs++[x]))) _=_;rw[if_neg]
 ·rfl
 ·rw[hx,Bool.false_or,decide_eq_true_eq];unfold zv;exact Nat.not_le.mpr (qD hl (by decide))
def rI(GG:List D)(cf:Nat->List D->R D)(ρ:zg)(i:Nat)(k:PE)(d:D):R (Fl×zg):=R.bind (ev GG cf k ρ) λj=>R.bind (GQ (zq ρ i) j d) λl=>.ok (.next,ρ.set i l)
def Xy(ρ:zg)(i:Nat)(d j:D):R (Fl×zg):=R.bind (GQ (zq ρ i) j d) λl=>.ok (.next,ρ.set i l)
def oZ(GG:List D)(cf cio:Nat->List D->R D)(wf:Nat)(s t:PS)(ρ:zg)(x:D):R (Fl×zg):=R.bind (z9 x) λu=>if u then exec GG cf cio wf s ρ else exec GG cf cio wf t ρ
theorem Nj:exec GG cf cio wf (.ifs c s t) ρ=R.bind (ev GG cf c ρ) (oZ GG cf cio wf s t ρ):=rfl
theorem Im:oZ GG cf cio wf s t ρ (.bool true)=exec GG cf cio wf s ρ:=rfl
theorem Lq:oZ GG cf cio wf s t ρ (.bool false)=exec GG cf cio wf t ρ:=rfl
def wl(GG:List D)(cf cio:Nat->List D->R D)(wf:Nat)(c:PE)(s:PS)(m:Nat)(ρ:zg):R (Fl×zg):=
 Cp (λσ=>R.bind (ev GG cf c σ) z9) (λσ=>exec GG cf cio wf s σ) m ρ
theorem bO:exec GG cf cio wf (.whil c s) ρ=wl GG cf cio wf c s wf ρ:=rfl
def sZ(GG:List D)(cf cio:Nat->List D->R D)(wf:Nat)(c:PE)(s:PS)(m:Nat)(r:Fl×zg):R (Fl×zg):=match r.1 with
   |.next|.cont=>wl GG cf cio wf c s m r.2
   |.brk=>.ok (.next,r.2)
   |.ret d=>.ok (.ret d,r.2)
theorem GW(h:ev GG cf c ρ=.ok (.bool true)):wl GG cf cio wf c s (m+1) ρ=R.bind (exec GG cf cio wf s ρ) (sZ GG cf cio wf c s m):=by
 show R.bind (R.bind (ev GG cf c ρ) z9) _=_;rw[h];show R.bind (exec GG cf cio wf s ρ) _=_;cases exec GG cf cio wf s ρ with
 |ok r=>obtain⟨f,σ⟩:=r;cases f<;>rfl
 |ve=>rfl
 |stuck=>rfl
theorem Fg(h:ev GG cf c ρ=.ok (.bool false)):wl GG cf cio wf c s (m+1) ρ=.ok (.next,ρ):=by
 show R.bind (R.bind (ev GG cf c ρ) z9) _=_;rw[h];rfl
def fl(GG:List D)(cf cio:Nat->List D->R D)(wf:Nat)(g:Tg)(s:PS)(xs:List D)(ρ:zg):R (Fl×zg):=
 AF (λσ d=>jy σ g d) (λσ=>exec GG cf cio wf s σ) xs ρ
def JO(GG:List D)(cf cio:Nat->List D->R D)(wf:Nat)(g:Tg)(rg:Bool)(s:PS)(ρ:zg)(x:D):R (Fl×zg):=R.bind (zA rg x) λxs=>fl GG cf cio wf g s xs ρ
theorem Il{g:Tg}{m:Nat}(h:m<=100000):JO GG cf cio wf g true s ρ (.int m)=fl GG cf cio wf g s ((v5 m).map λ(k:Nat)=>uT k) ρ:=by
 unfold JO;show R.bind (if 0<=(m:Int)/\(m:Int)<=(zv:Nat) then R.ok ((v5 (m:Int).toNat).map λ(k:Nat)=>uT k) else R.stuck) _=_;rw[if_pos]
 ·rfl
 ·simp[zv];exact Int.ofNat_le.mpr (qA h (by decide))
def cJ(GG:List D)(cf cio:Nat->List D->R D)(wf:Nat)(g:Tg)(s:PS)(xs:List D)(r:Fl×zg):R (Fl×zg):=match r.1 with
   |.next|.cont=>fl GG cf cio wf g s xs r.2
   |.brk=>.ok (.next,r.2)
   |.ret d=>.ok (.ret d,r.2)
def sX(GG:List D)(cf cio:Nat->List D->R D)(wf:Nat)(g:Tg)(s:PS)(xs:List D)(ρ:zg):R (Fl×zg):=R.bind (exec GG cf cio wf s ρ) (cJ GG cf cio wf g s xs)
noncomputable def gF(ρ:zg)(d:D):R (Fl×zg):=.ok (.ret d,ρ)
theorem Nk:exec GG cf cio wf (.ret a) ρ=R.bind (ev GG cf a ρ) (gF ρ):=rfl
theorem Mw:gF ρ x=.ok (.ret x,ρ):=rfl
theorem IZ:exec GG cf cio wf .raise ρ=.ve:=rfl
noncomputable def sW(ρ:zg)(_:D):R (Fl×zg):=.ok (.next,ρ)
def rH(cio:Nat->List D->R D)(ρ:zg)(f i:Nat)(ds:List D):R (Fl×zg):=R.bind (noVe (cio f (ds++[zq ρ i]))) λd=>.ok (.next,ρ.set i d)
theorem pG(h:cio f (xs++[zq ρ i])=.ok x):rH cio ρ f i xs=.ok (.next,ρ.set i x):=by
 unfold rH;rw[h];rfl
theorem KL(h:exec GG cf cio wf s ρ=.ve):exec GG cf cio wf (.tryv s i l) ρ=.ok (.next,ρ.set i l.d):=by
 show(match exec GG cf cio wf s ρ with|.ve=>R.ok (Fl.next,ρ.set i l.d)|r=>r)=_;rw[h]
theorem Ng:ev GG cf (.lit l) ρ=.ok l.d:=rfl
theorem E4:ev GG cf (.var i) ρ=.ok (zq ρ i):=rfl
theorem bB:ev GG cf (.glob i) ρ=.ok (GG.getD i .none):=rfl
theorem m9:ev GG cf (.un u a) ρ=R.bind (ev GG cf a ρ) (un u):=rfl
def gB(GG:List D)(cf:Nat->List D->R D)(ρ:zg)(o:GD)(b:PE)(x:D):R D:=R.bind (ev GG cf b ρ) (bin o x)
theorem HL:ev GG cf (.bin o a b) ρ=R.bind (ev GG cf a ρ) (gB GG cf ρ o b):=rfl
theorem Hp:gB GG cf ρ o b x=R.bind (ev GG cf b ρ) (bin o x):=rfl
def gG(GG:List D)(cf:Nat->List D->R D)(ρ:zg)(x:D)(c:PE)(y:D):R D:=R.bind (ev GG cf c ρ) (IK x y)
def sY(GG:List D)(cf:Nat->List D->R D)(ρ:zg)(b c:PE)(x:D):R D:=R.bind (ev GG cf b ρ) (gG GG cf ρ x c)
def kM1(GG:List D)(cf:Nat->List D->R D)(ρ:zg)(o:M1)(b:PE)(x:D):R D:=if R5 o x then R.bind (ev GG cf b ρ) (Hu o x) else .stuck
def gC(GG:List D)(cf:Nat->List D->R D)(ρ:zg)(o:M2)(c:PE)(x y:D):R D:=R.bind (ev GG cf c ρ) (J4 o x y)
def kM2(GG:List D)(cf:Nat->List D->R D)(ρ:zg)(o:M2)(b c:PE)(x:D):R D:=if R6 o x then R.bind (ev GG cf b ρ) (gC GG cf ρ o c x) else .stuck
def cH(x:D):R D:=R.bind (z9 x) λu=>.ok (.bool u)
theorem pF:cH (.bool u)=.ok (.bool u):=rfl
def sV(GG:List D)(cf:Nat->List D->R D)(ρ:zg)(b:PE)(x:D):R D:=R.bind (z9 x) λt=>if t then R.bind (ev GG cf b ρ) cH else .ok (.bool false)
def pB(GG:List D)(cf:Nat->List D->R D)(ρ:zg)(b:PE)(x:D):R D:=R.bind (z9 x) λt=>if t then .ok (.bool true) else R.bind (ev GG cf b ρ) cH
theorem m8:ev GG cf (.or_ a b) ρ=R.bind (ev GG cf a ρ) (pB GG cf ρ b):=rfl
theorem Q0:pB GG cf ρ b (.bool true)=.ok (.bool true):=rfl
theorem Zq:pB GG cf ρ b (.bool false)=R.bind (ev GG cf b ρ) cH:=rfl
def gH(ds:List D):R D:=if ds.any isDict then .stuck else .ok (.tuple ds)
theorem gI(h:xs.any isDict=false):gH xs=.ok (.tuple xs):=by unfold gH;rw[h];rfl
def Xw(ds:List D):R D:=if ds.any isDict then .stuck else .ok (.list ds)
theorem Zp(h:xs.any isDict=false):Xw xs=.ok (.list xs):=by unfold Xw;rw[h];rfl
theorem Tl:ev GG cf (.call f es) ρ=R.bind (evs GG cf es ρ) (cf f):=rfl
theorem Tp:evs GG cf .nil ρ=.ok []:=rfl
noncomputable def Lp(x:D)(xs:List D):R (List D):=.ok (x::xs)
theorem Mv:Lp x xs=.ok (x::xs):=rfl
def QY(GG:List D)(cf:Nat->List D->R D)(ρ:zg)(es:PEs)(x:D):R (List D):=R.bind (evs GG cf es ρ) (Lp x)
theorem Nh:evs GG cf (.cons a es) ρ=R.bind (ev GG cf a ρ) (QY GG cf ρ es):=rfl
theorem QZ:QY GG cf ρ es x=R.bind (evs GG cf es ρ) (Lp x):=rfl
theorem cD:zq (x::ρ) 0=x:=rfl
theorem cG:zq (x::ρ) (i+1)=zq ρ i:=rfl
theorem XC:No.d (.int i)=.int i:=rfl
theorem XD:No.d (.str l)=.str l:=rfl
theorem zu(h:ev GG cf c ρ=.ok (.bool true))(g:exec GG cf cio wf s ρ=r):exec GG cf cio wf (.ifs c s t) ρ=r:=(congrArg (R.bind · _) h).trans g
theorem zr(h:ev GG cf c ρ=.ok (.bool false))(g:exec GG cf cio wf t ρ=r):exec GG cf cio wf (.ifs c s t) ρ=r:=(congrArg (R.bind · _) h).trans g
theorem zw(h:ev GG cf a ρ=.ok x):exec GG cf cio wf (.assign (.one i) a) ρ=.ok (.next,ρ.set i x):=congrArg (R.bind · _) h
theorem KG(h:ev GG cf a ρ=.ok (.tuple xs))(k:DZ ρ is xs=.ok σ):exec GG cf cio wf (.assign (.many is) a) ρ=.ok (.next,σ):=
 (congrArg (R.bind · _) h).trans (congrArg (R.bind · _) k)
theorem zh(h:exec GG cf cio wf s ρ=.ok (.next,σ))(g:exec GG cf cio wf t σ=r):exec GG cf cio wf (.seq s t) ρ=r:=(congrArg (R.bind · _) h).trans g
theorem ze(h:ev GG cf a ρ=.ok x)(g:ev GG cf b ρ=.ok y)(k:bin o x y=.ok z):ev GG cf (.bin o a b) ρ=.ok z:=
 (congrArg (R.bind · _) h).trans ((congrArg (R.bind · (bin o x)) g).trans k)
theorem BJ(h:ev GG cf a ρ=.ok x)(k:un u x=.ok z):ev GG cf (.un u a) ρ=.ok z:=(congrArg (R.bind · _) h).trans k
theorem zV(h:evs GG cf es ρ=.ok xs)(d:xs.any isDict=false):ev GG cf (.tup es) ρ=.ok (.tuple xs):=(congrArg (R.bind · _) h).trans (gI d)
theorem Dg(h:evs GG cf es ρ=.ok xs)(d:xs.any isDict=false):ev GG cf (.list es) ρ=.ok (.list xs):=(congrArg (R.bind · _) h).trans (Zp d)
theorem zi(h:ev GG cf a ρ=.ok x)(g:evs GG cf es ρ=.ok xs):evs GG cf (.cons a es) ρ=.ok (x::xs):=
 (congrArg (R.bind · _) h).trans (congrArg (R.bind · _) g)
theorem zl(h:evs GG cf es ρ=.ok xs)(g:cf f xs=r):ev GG cf (.call f es) ρ=r:=(congrArg (R.bind · _) h).trans g
theorem Ag(h:ev GG cf a ρ=.ok (.bool true))(g:ev GG cf b ρ=.ok (.bool u)):ev GG cf (.and_ a b) ρ=.ok (.bool u):=
 (congrArg (R.bind · _) h).trans (congrArg (R.bind · cH) g)
theorem Df(h:ev GG cf a ρ=.ok (.bool false)):ev GG cf (.and_ a b) ρ=.ok (.bool false):=congrArg (R.bind · _) h
theorem Js(h:ev GG cf a ρ=.ok (.bool true)):ev GG cf (.or_ a b) ρ=.ok (.bool true):=congrArg (R.bind · _) h
theorem Cf(h:ev GG cf a ρ=.ok (.bool false))(g:ev GG cf b ρ=.ok (.bool u)):ev GG cf (.or_ a b) ρ=.ok (.bool u):=
 (congrArg (R.bind · _) h).trans (congrArg (R.bind · cH) g)
inductive Rt(GG:List D)(cf cio:Nat->List D->R D)(wf:Nat)(s:PS)(ρ:zg)(x:D):Prop
 |mk(σ:zg)(h:exec GG cf cio wf s ρ=.ok (.ret x,σ))
theorem Rt.fin(h:Rt GG cf cio wf s ρ x):R.bind (exec GG cf cio wf s ρ) kZ=.ok x:=h.casesOn λ_ h=>congrArg (R.bind · _) h
theorem Rt.nxt(h:exec GG cf cio wf s ρ=.ok (.next,σ))(g:Rt GG cf cio wf t σ x):Rt GG cf cio wf (.seq s t) ρ x:=g.casesOn λτ g=>⟨τ,zh h g⟩
theorem Rt.asg(h:ev GG cf a ρ=.ok y)(g:Rt GG cf cio wf t (ρ.set i y) x):Rt GG cf cio wf (.seq (.assign (.one i) a) t) ρ x:=Rt.nxt (zw h) g
theorem Rt.asgm(h:ev GG cf a ρ=.ok (.tuple xs))(k:DZ ρ is xs=.ok σ)(g:Rt GG cf cio wf t σ x):Rt GG cf cio wf (.seq (.assign (.many is) a) t) ρ x:=Rt.nxt (KG h k) g
theorem Rt.seq(h:Rt GG cf cio wf s ρ x):Rt GG cf cio wf (.seq s t) ρ x:=h.casesOn λτ g=>⟨τ,congrArg (R.bind · _) g⟩
theorem Rt.ift(h:ev GG cf c ρ=.ok (.bool true))(g:Rt GG cf cio wf s ρ x):Rt GG cf cio wf (.ifs c s t) ρ x:=g.casesOn λτ g=>⟨τ,zu h g⟩
theorem Rt.iff(h:ev GG cf c ρ=.ok (.bool false))(g:Rt GG cf cio wf t ρ x):Rt GG cf cio wf (.seq (.ifs c s .skip) t) ρ x:=Rt.nxt (zr h rfl) g
theorem Rt.ret(h:ev GG cf a ρ=.ok x):Rt GG cf cio wf (.ret a) ρ x:=⟨ρ,congrArg (R.bind · _) h⟩
end steps
theorem o6(p:Nat):E6 (.int p) (.int 1)=.ok (.int (p+1:Nat)):=rfl
@[simp] theorem n9(l:List D):isDict (.tuple l)=false:=rfl
@[simp] theorem fS(l:List D):isDict (.list l)=false:=rfl
@[simp] theorem n8(l:Str):isDict (.str l)=false:=rfl
@[simp] theorem n7(l:Int):isDict (.int l)=false:=rfl
@[simp] theorem fR(l:Bool):isDict (.bool l)=false:=rfl
@[simp] theorem fT:isDict .none=false:=rfl
abbrev Tok:=List Nat
abbrev zm(ts:List Tok):D:=.list (ts.map ds)
noncomputable def pk(r:List Tok):Tok:=r.headD []
theorem Vz(ts:List Tok)(p:Nat):zd G T wf (n+1) 1 [zm ts,.int p]=.ok (ds (pk (ts.drop p))):=by
 rw[zJ (fd:=Fq) (ρ:=[zm ts,.int p,O]) rfl rfl rfl rfl];by_cases h:p<ts.length
 ·have h1:(p:Int)<((ts.map ds).length:Nat):=by rw[uJ];exact Int.ofNat_lt.mpr h
  have h2:jd (zm ts) (.int p)=.ok (ds (pk (ts.drop p))):=by
   rw[Bt,v6,uA h];have:pk (ts.drop p)=ts[p]:=by rw[wW h];rfl
   rw[this];rfl
  simp only[Fq,Nl,Nj,HL,m9,E4,cD,cG,R.bind_ok,XZ,Es,Hp,Pv,L7,MC,decide_eq_true h1,Im,Nk,h2,Mw,UP,DV]
 ·have h1:¬(p:Int)<((ts.map ds).length:Nat):=by rw[uJ];exact λhc=>h (Int.ofNat_lt.mp hc)
  rw[wJ (yV h)];simp only[Fq,Nl,Nj,HL,m9,E4,cD,cG,R.bind_ok,XZ,Es,Hp,Pv,MC,decide_eq_false h1,Lq,L0,Fw,Nk,Ng,XD,Mw,DV];rfl
noncomputable def f0(a:Bool):D->Bool
 |.bool b=>a==b
 |_=>false
noncomputable def iQ(f:List D->Bool):D->Bool
 |.list b=>f b
 |_=>false
noncomputable def iR(f:List D->Bool):D->Bool
 |.tuple b=>f b
 |_=>false
noncomputable def iP(f:D->Bool)(g:List D->Bool):List D->Bool
 |[]=>false
 |b::s=>f b&&g s
mutual
noncomputable def oJ:D->D->Bool
 |.none=>isNone
 |.bool a=>f0 a
 |.int a=>mV a
 |.str a=>r9 a
 |.list a=>iQ (Um a)
 |.tuple a=>iR (Um a)
 |.dict _=>λ_=>false
noncomputable def Um:List D->List D->Bool
 |[]=>List.isEmpty
 |a::r=>iP (oJ a) (Um r)
end
theorem Z6(h:isNone b=true):.none=b:=by
 induction b using uG with
 |none=>rfl
 |_=>exact ff h
theorem Z3(h:f0 a b=true):.bool a=b:=by
 induction b using uG with
 |bool c=>exact congrArg _ (eq_of_beq h)
 |_=>exact ff h
theorem iZ(h:mV a b=true):.int a=b:=by
 induction b using uG with
 |int c=>exact congrArg _ (eq_of_beq h)
 |_=>exact ff h
theorem l8(h:r9 a b=true):.str a=b:=by
 induction b using uG with
 |str c=>exact congrArg _ (eq_of_beq h)
 |_=>exact ff h
theorem Z5(k:∀b,f b=true->a=b)(h:iQ f b=true):.list a=b:=by
 induction b using uG with
 |list c=>exact congrArg _ (k c h)
 |_=>exact ff h
theorem l9(k:∀b,f b=true->a=b)(h:iR f b=true):.tuple a=b:=by
 induction b using uG with
 |tuple c=>exact congrArg _ (k c h)
 |_=>exact ff h
theorem l7(h:b.isEmpty=true):[]=b:=by
 induction b using uB with
 |nil=>rfl
 |_=>exact ff h
theorem Z4(k:∀b,f b=true->a=b)(k':∀b,g b=true->r=b)(h:iP f g b=true):a::r=b:=by
 induction b using uB with
 |nil=>exact ff h
 |cons c s=>rw[k c (Bool.and_eq_true_iff.mp h).1,k' s (Bool.and_eq_true_iff.mp h).2]
mutual
theorem Qf:∀(a b:D),oJ a b=true->a=b
 |.none,_,h=>Z6 h
 |.bool _,_,h=>Z3 h
 |.int _,_,h=>iZ h
 |.str _,_,h=>l8 h
 |.list a,_,h=>Z5 (H4 a) h
 |.tuple a,_,h=>l9 (H4 a) h
 |.dict _,_,h=>ff h
theorem H4:∀(a b:List D),Um a b=true->a=b
 |[],_,h=>l7 h
 |a::r,_,h=>Z4 (Qf a) (H4 r) h
end
def Ze(x:R D)(d:D):Bool:=match x with|.ok a=>oJ a d|_=>false
theorem Mr(h:Ze x d=true):x=.ok d:=by
 induction x using R.casesOn with
 |ok a=>rw[Qf a d h]
 |ve=>exact ff h
 |stuck=>exact ff h
noncomputable def UL{α:Type}(x:R α):Bool:=match x with|.ve=>true|_=>false
theorem B1{P:Nat->Prop}(h:P 0)(k:∀i,i<n->P (i+1))(i:Nat)(hi:i<n+1):P i:=by
 induction i using w3 with
 |zero=>exact h
 |succ i=>exact k i (yF hi)
theorem ZC{P:Nat->Prop}(i:Nat)(hi:i<0):P i:=absurd hi (wY i)
theorem Ij{α:Type}{x:R α}(h:UL x=true):x=.ve:=by
 induction x using R.casesOn with
 |ok a=>exact ff h
 |ve=>rfl
 |stuck=>exact ff h
noncomputable abbrev nz(k:Nat):List D:=vX k .none
theorem mx{a b c:Nat}(h:a<=c)(g:b<=c):max a b<=c:=Nat.max_le.mpr ⟨h,g⟩
theorem XG{a c:Nat}(h:a<=c):max a 0<=c:=mx h (uZ _)
theorem mz{a c:Nat}(h:a<=c):max 0 a<=c:=mx (uZ _) h
theorem Qc(a0:D):zd G T 2000 (n+1) 0 [a0]=R.bind (exec G (zd G T 2000 n) (zj G T 2000 n) 2000 Hh.body [a0,O,O,O,O,O,O]) kZ:=zJ rfl rfl rfl rfl
theorem YN(a0 a1 a2:D):zd G T 2000 (n+1) 2 [a0,a1,a2]=R.bind (exec G (zd G T 2000 n) (zj G T 2000 n) 2000 Ib.body [a0,a1,a2,O,O]) kZ:=zJ rfl rfl rfl rfl
theorem YK(a0 a1:D):zd G T 2000 (n+1) 3 [a0,a1]=R.bind (exec G (zd G T 2000 n) (zj G T 2000 n) 2000 Ia.body [a0,a1,O,O,O,O,O]) kZ:=zJ rfl rfl rfl rfl
theorem YJ(a0 a1:D):zd G T 2000 (n+1) 4 [a0,a1]=R.bind (exec G (zd G T 2000 n) (zj G T 2000 n) 2000 Mj.body [a0,a1,O,O,O,O,O,O,O,O,O,O]) kZ:=zJ rfl rfl rfl rfl
theorem YG(a0 a1:D):zd G T 2000 (n+1) 5 [a0,a1]=R.bind (exec G (zd G T 2000 n) (zj G T 2000 n) 2000 Mi.body [a0,a1,O,O,O,O,O,O,O,O,O,O,O,O,O]) kZ:=zJ rfl rfl rfl rfl
theorem Qb(a0 a1 a2 a3:D):zd G T 2000 (n+1) 6 [a0,a1,a2,a3]=R.bind (exec G (zd G T 2000 n) (zj G T 2000 n) 2000 Fp.body [a0,a1,a2,a3,O,O,O,O]) kZ:=zJ rfl rfl rfl rfl
theorem Uk(a0:D):zd G T 2000 (n+1) 7 [a0]=R.bind (exec G (zd G T 2000 n) (zj G T 2000 n) 2000 Jz.body [a0,O,O,O]) kZ:=zJ rfl rfl rfl rfl
theorem Uj(a0:D):zd G T 2000 (n+1) 8 [a0]=R.bind (exec G (zd G T 2000 n) (zj G T 2000 n) 2000 Fs.body [a0,O,O,O,O,O,O,O,O,O,O,O,O,O,O,O,O,O,O]) kZ:=zJ rfl rfl rfl rfl
theorem P9(a0:D):zd G T 2000 (n+1) 9 [a0]=R.bind (exec G (zd G T 2000 n) (zj G T 2000 n) 2000 Hg.body [a0,O,O,O]) kZ:=zJ rfl rfl rfl rfl
theorem Hc(a0 a1:D):zd G T 2000 (n+1) 10 [a0,a1]=R.bind (exec G (zd G T 2000 n) (zj G T 2000 n) 2000 Hi.body [a0,a1,O,O,O,O,O,O,O,O,O]) kZ:=zJ rfl rfl rfl rfl
theorem eV(a0:D):zd G T 2000 (n+1) 11 [a0]=R.bind (exec G (zd G T 2000 n) (zj G T 2000 n) 2000 Qq.body [a0,O,O,O,O,O,O,O,O]) kZ:=zJ rfl rfl rfl rfl
theorem Qa(a0:D):zd G T 2000 (n+1) 13 [a0]=R.bind (exec G (zd G T 2000 n) (zj G T 2000 n) 2000 JA.body [a0,O,O,O,O,O,O,O,O,O,O]) kZ:=zJ rfl rfl rfl rfl
theorem YL(a0:D):zd G T 2000 (n+1) 14 [a0]=R.bind (exec G (zd G T 2000 n) (zj G T 2000 n) 2000 Qs.body [a0,O]) kZ:=zJ rfl rfl rfl rfl
theorem CK(a0 a1 a2:D):zd G T 2000 (n+1) 15 [a0,a1,a2]=R.bind (exec G (zd G T 2000 n) (zj G T 2000 n) 2000 Jy.body [a0,a1,a2,O,O,O,O,O,O,O,O]) kZ:=zJ rfl rfl rfl rfl
theorem FX(a0 a1 a2 a3 a4:D):zj G T 2000 (n+1) 16 [a0,a1,a2,a3,a4]=R.bind (exec G (zd G T 2000 n) (zj G T 2000 n) 2000 DG.body [a0,a1,a2,a3,a4,O,O,O,O,O,O,O,O,O,O]) λr=>match r.1 with
   |.ret _=>.ok (zq r.2 4)
   |.next=>.ok (zq r.2 4)
   |_=>.stuck:=NB (fd:=DG) rfl rfl rfl rfl
theorem Ui(a0:D):zd G T 2000 (n+1) 17 [a0]=R.bind (exec G (zd G T 2000 n) (zj G T 2000 n) 2000 Mk.body [a0,O,O,O,O,O]) kZ:=zJ rfl rfl rfl rfl
theorem YI(a0:D):zd G T 2000 (n+1) 18 [a0]=R.bind (exec G (zd G T 2000 n) (zj G T 2000 n) 2000 Qr.body [a0,O,O]) kZ:=zJ rfl rfl rfl rfl
theorem K9(a0 a1 a2 a3:D):zd G T 2000 (n+1) 19 [a0,a1,a2,a3]=R.bind (exec G (zd G T 2000 n) (zj G T 2000 n) 2000 EU.body [a0,a1,a2,a3,O,O,O,O,O,O,O,O,O]) kZ:=zJ rfl rfl rfl rfl
theorem NM(a0 a1 a2 a3 a4:D):zd G T 2000 (n+1) 20 [a0,a1,a2,a3,a4]=R.bind (exec G (zd G T 2000 n) (zj G T 2000 n) 2000 F2.body [a0,a1,a2,a3,a4,O,O,O,O,O,O,O,O,O,O,O,O]) kZ:=zJ rfl rfl rfl rfl
theorem K7(a0 a1 a2:D):zd G T 2000 (n+1) 21 [a0,a1,a2]=R.bind (exec G (zd G T 2000 n) (zj G T 2000 n) 2000 ER.body [a0,a1,a2,O,O,O,O,O,O,O,O,O,O,O,O,O,O,O,O,O,O,O,O,O,O,O,O,O,O,O,O,O,O,O,O,O,O]) kZ:=zJ rfl rfl rfl rfl
theorem K8(a0 a1:D):zd G T 2000 (n+1) 22 [a0,a1]=R.bind (exec G (zd G T 2000 n) (zj G T 2000 n) 2000 ET.body [a0,a1,O,O,O,O]) kZ:=zJ rfl rfl rfl rfl
theorem Jp(a0:D):zd G T 2000 (n+1) 24 [a0]=R.bind (exec G (zd G T 2000 n) (zj G T 2000 n) 2000 DH.body [a0,O,O,O,O,O,O,O,O,O,O,O,O]) kZ:=zJ rfl rfl rfl rfl
abbrev cF(n:Nat)(f:Nat)(as:List D):R D:=zd G T 2000 n f as
abbrev cI(n:Nat)(f:Nat)(as:List D):R D:=zj G T 2000 n f as
noncomputable def AD(c:Nat):Bool:=decide (97<=c/\c<=122)
noncomputable def Bw(c:Nat):Bool:=decide (48<=c/\c<=57)
theorem QL(l:List Nat)(a n c:Nat)(h:l=zaC a n):l.toArray.contains c=decide (a<=c/\c<a+n):=by
 rw[h,xX,List.contains_toArray,wN,List.mem_range'_1,decide_eq_true_eq]
theorem Lg(c:Nat):QK (ds [c]) (G.getD 0 .none)=.ok (.bool (AD c)):=by
 refine congrArg (λb=>R.ok (vE b)) ((QL _ 97 26 c rfl).trans ?_);unfold AD;exact decide_eq_decide.mpr ⟨λh=>⟨h.1,wV h.2⟩,λh=>⟨h.1,za3 h.2⟩⟩
theorem Lf(c:Nat):QK (ds [c]) (G.getD 1 .none)=.ok (.bool (Bw c)):=by
 refine congrArg (λb=>R.ok (vE b)) ((QL _ 48 10 c rfl).trans ?_);unfold Bw;exact decide_eq_decide.mpr ⟨λh=>⟨h.1,wV h.2⟩,λh=>⟨h.1,za3 h.2⟩⟩
theorem eN(h:R.bind x (λc=>.ok (.bool c))=(.ok (.bool b):R D)):R.bind x (λc=>.ok (.bool !c))=(.ok (.bool !b):R D):=by
 induction x using R.casesOn with
 |ok c=>injection h with h;injection h with h;rw[h];rfl
 |ve=>cases h
 |stuck=>cases h
theorem Vl(c:Nat):Ct (ds [c]) (G.getD 0 .none)=.ok (.bool !(AD c)):=by
 have h:=Lg c;unfold QK at h;show(if isDict (G.getD 0 .none) then R.stuck else _)=_;rw[if_neg (by decide)];exact eN h
noncomputable def My:List Tok:=[[105,102],[116,104,101,110],[101,108,115,101]]
theorem Pm(t:Tok)(ts:List Tok):((ts.map ds).any λy=>vK y (ds t))=ts.contains t:=by
 rw[xX];simp only[List.any_eq_true,List.mem_map,wN];constructor
 ·rintro⟨x,⟨a,ha,rfl⟩,h⟩;exact((EJ _ _).mp (eq_of_beq h))▸ha
 ·intro h;exact⟨ds t,⟨t,h,rfl⟩,beq_self_eq_true (S t)⟩
theorem Ht(t:Tok)(ts:List Tok):Oj (ds t) (.list (ts.map ds))=.ok (ts.contains t):=by
 show(if(isDict (ds t)||decide (4000<min (vG (ts.map ds)) 0))=true then R.stuck else R.ok _)=_;rw[if_neg (by show ¬(decide (4000<min _ 0)=true);rw[Nat.min_zero];decide),Pm]
theorem Bu(t:Tok)(ts:List Tok):QK (ds t) (.list (ts.map ds))=.ok (.bool (ts.contains t)):=by
 rw[QK,Ht];rfl
theorem Bc(t:Tok)(ts:List Tok):Ct (ds t) (.list (ts.map ds))=.ok (.bool !(ts.contains t)):=by
 show R.bind (Oj _ _) _=_;rw[Ht];rfl
theorem UH(t:Tok):QK (ds t) (G.getD 2 .none)=.ok (.bool (My.contains t)):=Bu t My
def jC(r:List Tok)(w:Tok):R (List Tok):=if pk r=w then .ok (r.drop 1) else .ve
def Av:Tok->Bool
 |[]=>false
 |c::t=>AD c&&!My.contains (c::t)
def kz(r:List Tok):R Tok:=if Av (pk r) then .ok (pk r) else .ve
theorem Ac(ts:List Tok)(p:Nat):zd G T 2000 (n+1) 1 [zm ts,.int p]=.ok (ds (pk (ts.drop p))):=Vz ts p
theorem Ni(ts:List Tok)(p:Nat)(w:Tok):zd G T 2000 (n+2) 2 [zm ts,.int p,ds w]=R.bind (jC (ts.drop p) w) λ_=>.ok (.int (p+1:Nat)):=by
 rw[YN];simp only[Ib,Nl,Nj,E4,HL,Hp,Tl,Tp,Mv,Nh,QZ,cD,cG,R.bind_ok,Yt,Ac,FB,jC];by_cases h:pk (ts.drop p)=w<;>simp[h,Fw,L0,Im,Lq,Nk,Mw,IZ,Ng,E4,HL,Hp,cD,cG,XC,R.bind_ok,R.bind_ve,Yr,DV,↓reduceIte]
theorem MJ(ts:List Tok)(p:Nat):zd G T 2000 (n+2) 3 [zm ts,.int p]=R.bind (kz (ts.drop p)) λx=>.ok (ds x):=by
 rw[YK];simp only[Ia,Nl,Fw,mH,Zo,Nj,Ng,E4,HL,Hp,m8,Tl,Tp,Mv,Nh,QZ,cD,cG,XD,R.bind_ok,List.set_cons_zero,List.set_cons_succ,Ys,Ac,CL,kz];cases h:pk (ts.drop p) with
 |nil=>simp only[Av,Im,IZ,Q0,R.bind_ok,R.bind_ve,↓reduceIte,vQ,decide_true]
 |cons c t=>
  have e0:jd (ds (c::t)) (.int 0)=.ok (ds [c]):=JD (c::t) 0;have e1:¬(c::t=[]):=by simp
  rcases xW (AD c) with h1|h1<;>rcases xW (My.contains (c::t)) with h2|h2 <;>
   simp only[EJ,e1,decide_false,e0,Vl,UH,Av,h1,h2,Fw,L0,Im,Lq,Nk,Mw,IZ,Ng,E4,bB,HL,Hp,pF,m8,Q0,Zq,cD,cG,XC,R.bind_ok,R.bind_ve,T2,T4,L7,DV,↓reduceIte,vQ,oF,oE,Bool.and_true,Bool.and_false]
noncomputable abbrev BR:Tok:=[105,102]
noncomputable abbrev kL:Tok:=[116,104,101,110]
noncomputable abbrev Ad:Tok:=[101,108,115,101]
noncomputable abbrev Fa:Tok:=[110,117,109]
noncomputable abbrev BU:Tok:=[110,97,109,101]
noncomputable abbrev kQ:Tok:=[112,114,101,100]
noncomputable abbrev Ab:Tok:=[115,117,99,99]
noncomputable abbrev BT:Tok:=[99,97,108,108]
abbrev Ej(i:Int):D:=.tuple [ds Fa,.int i]
abbrev Ba(x:Tok):D:=.tuple [ds BU,ds x]
abbrev C3(d:D):D:=.tuple [ds kQ,d]
abbrev FZ(d:D):D:=.tuple [ds Ab,d]
abbrev cB(x:Tok)(a b:D):D:=.tuple [ds BR,ds x,a,b]
abbrev EO(f:Tok)(as:List D):D:=.tuple [ds BT,ds f,.list as]
noncomputable abbrev PR:=R (D×List Tok)
noncomputable def Ky:D->List Tok->PR
 |d,[]=>.ok (d,[])
 |d,[t]=>if t=[43]\/t=[45] then .ve else .ok (d,[t])
 |d,t::u::r=>if t=[43]\/t=[45] then(if u=[49] then Ky (if t=[43] then FZ d else C3 d) r else .ve) else .ok (d,t::u::r)
def Mh(pE pA:List Tok->PR)(r:List Tok):PR:=
 if pk r=BR then R.bind (kz (r.drop 1)) λx=>R.bind (jC (r.drop 2) kL) λr1=>R.bind (pE r1) λq=>R.bind (jC q.2 Ad) λr2=>
  R.bind (pE r2) λq2=>.ok (cB x q.1 q2.1,q2.2)
 else R.bind (pA r) λq=>Ky q.1 q.2
noncomputable def Tz(pE:List Tok->PR):Nat->List D->List Tok->R (List D×List Tok)
 |0,_,_=>.stuck
 |m+1,as,r=>if as=[]\/pk r=[44] then R.bind (pE (r.drop 1)) λq=>Tz pE m (as++[q.1]) q.2 else .ok (as,r)
theorem Bi:∀(pE:List Tok->PR) (x:List D) (x_1:List Tok) (m:Nat),Tz pE (m+1) x x_1=if x=[]\/pk x_1=[44] then R.bind (pE (List.drop 1 x_1)) λ(q:D×List Tok)=>Tz pE m (x++[q.fst]) q.snd else R.ok (x,x_1):=λ_ _ _ _=>rfl
def Lz(t:Tok):R D:=if 1<t.length/\t.head?=some 48 then .ve else match MO (S t) with|some i=>.ok (Ej i)|none=>.stuck
def isNumT:Tok->Bool
 |[]=>false
 |c::_=>Bw c
def O7(pE:List Tok->PR)(r:List Tok):PR:=
 if pk r=[40] then R.bind (pE (r.drop 1)) λq=>R.bind (jC q.2 [41]) λr2=>.ok (q.1,r2)
 else if isNumT (pk r) then R.bind (Lz (pk r)) λd=>.ok (d,r.drop 1)
 else R.bind (kz r) λx=>if pk (r.drop 1)=[40] then R.bind (Tz pE 2000 [] (r.drop 1)) λq=>R.bind (jC q.2 [41]) λr2=>.ok (EO x q.1,r2)
  else .ok (Ba x,r.drop 1)
mutual
noncomputable def pE:Nat->List Tok->PR
 |0=>λ_=>.stuck
 |n+1=>if n<2 then λ_=>.stuck else Mh (pE n) (pA n)
noncomputable def pA:Nat->List Tok->PR
 |0=>λ_=>.stuck
 |n+1=>if n<2 then λ_=>.stuck else O7 (pE n)
end
theorem MR:∀(n:Nat),pE (n+1)=if n<2 then λ(x:List Tok)=>R.stuck else Mh (pE n) (pA n):=λ_=>rfl
theorem MQ:∀(n:Nat),pA (n+1)=if n<2 then λ(x:List Tok)=>R.stuck else O7 (pE n):=λ_=>rfl
inductive RP{α β:Type}(Q:α->β->Prop):R α->R β->Prop
 |ok{a:α}{b:β}(h:Q a b):RP Q (.ok a) (.ok b)
 |ve:RP Q .ve .ve
 |stuck{y:R β}:RP Q .stuck y
section
variable{α β γ δ:Type}{Q:α->β->Prop}{P:γ->δ->Prop}{x:R α}{y:R β}
theorem RP.bind(h:RP Q x y)(k:∀a b,Q a b->RP P (X a) (Y b)):RP P (R.bind x X) (R.bind y Y):=by
 cases h with
 |ok h=>exact k _ _ h
 |ve=>exact .ve
 |stuck=>exact .stuck
theorem RP.cont{Y:β->R δ}{P:α->δ->Prop}(h:RP Q x y)(k:∀a b,Q a b->RP P (.ok a) (Y b)):RP P x (R.bind y Y):=by
 cases h with
 |ok h=>exact k _ _ h
 |ve=>exact .ve
 |stuck=>exact .stuck
theorem RP.oke(h:y=.ok b)(q:Q a b):RP Q (.ok a) y:=h▸.ok q
theorem RP.vee(h:y=.ve):RP Q .ve y:=h▸.ve
theorem RP.veb(h:RP Q .ve y):RP P .ve (R.bind y Y):=by
 cases h with
 |ve=>exact .ve
theorem RP.to(h:y=z)(k:RP Q x z):RP Q x y:=h▸k
end
inductive PQ(ts:List Tok):D×List Tok->D->Prop
 |mk{a:D}{p:Nat}(h:isDict a=false)(hp:p<=ts.length):PQ ts (a,ts.drop p) (.tuple [a,.int p])
inductive QR(ts:List Tok):D×List Tok->Fl×zg->Prop
 |mk{a:D}{p:Nat}{σ:zg}(h:isDict a=false)(hp:p<=ts.length):QR ts (a,ts.drop p) (.ret (.tuple [a,.int p]),σ)
abbrev c8(ts:List Tok):PR->R D->Prop:=RP (PQ ts)
set_option tactic.hygienic true in
theorem Gz{r:List Tok}{w:Tok}{r':List Tok}(hw:w≠[])(h:jC r w=.ok r'):pk r=w/\r'=r.drop 1/\r≠[]:=by
 unfold jC at h;split at h
 ·rename_i e;injection h with h
  exact⟨e,h.symm,by rintro rfl;exact hw e.symm⟩
 ·exact nv h
theorem WC{ts:List Tok}{p:Nat}{w:Tok}(hw:w≠[]){r:List Tok}(h:jC (ts.drop p) w=.ok r):
  zd G T 2000 (n+2) 2 [zm ts,.int p,ds w]=.ok (.int (p+1:Nat))/\r=ts.drop (p+1)/\p+1<=ts.length:=by
 obtain⟨_,e,ne⟩:=Gz hw h;refine⟨by rw[Ni,h];rfl,by rw[e,wG],?_⟩;have:¬ts.length<=p:=λhc=>ne (wJ hc);exact Nat.not_le.mp ‹_›
theorem WD{ts:List Tok}{p:Nat}{w:Tok}(h:jC (ts.drop p) w=.ve):zd G T 2000 (n+2) 2 [zm ts,.int p,ds w]=.ve:=by rw[Ni,h];rfl
theorem DO{ts:List Tok}{p:Nat}{x:Tok}(h:kz (ts.drop p)=.ok x):zd G T 2000 (n+2) 3 [zm ts,.int p]=.ok (ds x)/\p<ts.length:=by
 refine⟨by rw[MJ,h];rfl,?_⟩;by_cases hp:p<ts.length
 ·exact hp
 ·rw[wJ (by exact Nat.not_lt.mp ‹_›)] at h;exact nv h
theorem Fz{ts:List Tok}{p:Nat}(h:kz (ts.drop p)=.ve):zd G T 2000 (n+2) 3 [zm ts,.int p]=.ve:=by rw[MJ,h];rfl
theorem fM(t:Tok):QK (ds t) (.list [.str ⟨#[43]⟩,.str ⟨#[45]⟩])=.ok (.bool (decide (t=[43]\/t=[45]))):=by
 have:=Bu t [[43],[45]];rw[show(w8 [.str ⟨#[43]⟩,.str ⟨#[45]⟩])=.list ([[43],[45]].map ds) from rfl,this];simp
section
variable{α:Type}{Q:α->Fl×zg->Prop}{ts:List Tok}{p:Nat}{ρ σ:zg}{es:PEs}{i:Nat}{s t:PS}{x:R α}{cf ci:Nat->List D->R D}{a c:PE}{u w:Tok}
theorem EQ(h:ev G cf a ρ=.ok (ds u))(e:u=w):ev G cf (.bin .eq a (.lit (.str (S w)))) ρ=.ok (.bool true):=ze h rfl (congrArg (λb=>R.ok (vE b)) (decide_eq_true (congrArg S e)))
theorem EP(h:ev G cf a ρ=.ok (ds u))(e:u≠w):ev G cf (.bin .eq a (.lit (.str (S w)))) ρ=.ok (.bool false):=ze h rfl (congrArg (λb=>R.ok (vE b)) (decide_eq_false λh=>e ((EJ _ _).mp h)))
theorem Qk(h:ev G cf a ρ=.ok (ds u))(e:u≠w):ev G cf (.bin .ne a (.lit (.str (S w)))) ρ=.ok (.bool true):=ze h rfl (congrArg (λb=>R.ok (vE (!b))) (decide_eq_false λh=>e ((EJ _ _).mp h)))
theorem Xb(h:ev G cf a ρ=.ok (ds u))(e:u=w):ev G cf (.bin .ne a (.lit (.str (S w)))) ρ=.ok (.bool false):=ze h rfl (congrArg (λb=>R.ok (vE (!b))) (decide_eq_true (congrArg S e)))
theorem RP.nxt(h:exec G cf ci 2000 s ρ=.ok (.next,σ))(k:RP Q x (exec G cf ci 2000 t σ)):RP Q x (exec G cf ci 2000 (.seq s t) ρ):=RP.to (zh h rfl) k
theorem RP.wnt(hw:w≠[])(he:evs G (zd G T 2000 (n+2)) es ρ=.ok [zm ts,.int p,ds w])(k:p+1<=ts.length->RP Q (X (ts.drop (p+1))) (exec G (zd G T 2000 (n+2)) ci 2000 t (ρ.set i (.int (p+1:Nat))))):
  RP Q (R.bind (jC (ts.drop p) w) X) (exec G (zd G T 2000 (n+2)) ci 2000 (.seq (.assign (.one i) (.call 2 es)) t) ρ):=by
 cases h:jC (ts.drop p) w with
 |ok r=>
  obtain⟨h1,rfl,h3⟩:=WC (n:=n) hw h;exact RP.nxt (zw (zl he h1)) (k h3)
 |ve=>exact RP.vee (congrArg (R.bind · _) (congrArg (R.bind · _) (zl he (WD h))))
 |stuck=>exact .stuck
theorem RP.nam(he:evs G (zd G T 2000 (n+2)) es ρ=.ok [zm ts,.int p])(k:∀u,p<ts.length->RP Q (X u) (exec G (zd G T 2000 (n+2)) ci 2000 t (ρ.set i (ds u)))):
  RP Q (R.bind (kz (ts.drop p)) X) (exec G (zd G T 2000 (n+2)) ci 2000 (.seq (.assign (.one i) (.call 3 es)) t) ρ):=by
 cases h:kz (ts.drop p) with
 |ok r=>exact RP.nxt (zw (zl he (DO h).1)) (k r (DO (n:=n) h).2)
 |ve=>exact RP.vee (congrArg (R.bind · _) (congrArg (R.bind · _) (zl he (Fz h))))
 |stuck=>exact .stuck
theorem RP.cam{X:D×List Tok->R α}{x:PR}{f j:Nat}{xs:List D}(h:c8 ts x (cf f xs))(he:evs G cf es ρ=.ok xs)(k:∀a p,isDict a=false->p<=ts.length->RP Q (X (a,ts.drop p)) (exec G cf ci 2000 t ((ρ.set i a).set j (.int (p:Nat))))):
  RP Q (R.bind x X) (exec G cf ci 2000 (.seq (.assign (.many [i,j]) (.call f es)) t) ρ):=by
 generalize hy:cf f xs=y at h;cases h with
 |ok h=>
  cases h with
  |mk h hp=>exact RP.nxt (KG (zl he hy) rfl) (k _ _ h hp)
 |ve=>exact RP.vee (congrArg (R.bind · _) (congrArg (R.bind · _) (zl he hy)))
 |stuck=>exact .stuck
theorem RP.ifr{x:PR}(hc:ev G cf c ρ=.ok (.bool true))(h:RP (QR ts) x (exec G cf ci 2000 s ρ)):RP (QR ts) x (exec G cf ci 2000 (.seq (.ifs c s .skip) t) ρ):=by
 refine RP.to (congrArg (R.bind · _) (zu hc rfl)) (RP.cont h λa b h=>?_);cases h with
 |mk h hp=>exact .ok (.mk h hp)
theorem RP.rt(h:ev G cf a ρ=.ok (.tuple [d,.int p]))(hd:isDict d=false)(hp:p<=ts.length):RP (QR ts) (.ok (d,ts.drop p)) (exec G cf ci 2000 (.ret a) ρ):=RP.oke (congrArg (R.bind · _) h) (.mk hd hp)
theorem RP.fin{x:PR}(h:RP (QR ts) x (exec G cf ci 2000 s ρ)):c8 ts x (R.bind (exec G cf ci 2000 s ρ) kZ):=RP.cont h λa b h=>by
 cases h with
 |mk h hp=>exact .ok (.mk h hp)
end
section
variable{ρ σ:zg}{i:Nat}{s t:PS}{x:D}{cf ci:Nat->List D->R D}{a c:PE}{xs ys:List D}
theorem D7(h:ev G cf a ρ=.ok x)(hg:zq ρ i=.list xs)(hl:xs.length<1000000)(hx:isDict x=false)(hy:xs++[x]=ys):exec G cf ci 2000 (.app i a) ρ=.ok (.next,ρ.set i (.list ys)):=by
 rw[X3,hg,<-hy];exact(congrArg (R.bind · _) h).trans (Xz hg hl hx)
theorem KJ(h:ev G cf c ρ=.ok (.bool true)):exec G cf ci 2000 (.seq (.ifs c .raise u) t) ρ=.ve:=congrArg (R.bind · (UO G cf ci 2000 t)) (zu h rfl)
theorem X4(h:ev G cf a ρ=.ve)(hg:zq ρ i=.list xs):exec G cf ci 2000 (.app i a) ρ=.ve:=by
 rw[X3,hg];exact congrArg (R.bind · _) h
end
theorem MS(t:Tok)(r:List Tok):pk (t::r)=t:=rfl
theorem jJ{α:Type}{ts:List α}{p:Nat}{t:α}{r:List α}(h:t::r=ts.drop p):r=ts.drop (p+1)/\p+1<=ts.length:=by
 have h1:p<ts.length:=by
  by_cases hp:p<ts.length
  ·exact hp
  ·rw[wJ (by exact Nat.not_lt.mp ‹_›)] at h;exact nomatch h
 refine⟨?_,h1⟩;have:List.drop (p+1) ts=(List.drop p ts).drop 1:=by rw[wG]
 rw[this,<-h];rfl
inductive SL(ts:List Tok)(x a b:D):D×List Tok->Fl×zg->Prop
 |mk{d:D}{r:List Tok}{p:Nat}{k:D}(hd:isDict d=false)(hp:p<=ts.length)(hr:r=ts.drop p):SL ts x a b (d,r) (.next,[zm ts,.int p,x,a,b,d,k,O,O,O,O,O])
@[elab_as_elim] theorem FJ{P:Nat->Prop}{k n:Nat}(h:k<n)(g:∀m,k<=m->P (m+1)):P n:=by
 induction n using w3 with
 |zero=>exact absurd h (wY _)
 |succ m=>exact g m (wV h)
theorem ki(h:k<m):∃j,m=j+1/\k<=j:=by
 induction m using w3 with
 |zero=>exact absurd h (wY _)
 |succ m=>exact⟨m,rfl,wV h⟩
theorem Ey{ts:List Tok}{p:Nat}{t:Tok}{σ:zg}{b:Bool}(h:pk (ts.drop p)=t)(hb:decide (t=[43]\/t=[45])=b):ev G (zd G T 2000 (n+2)) qN (zm ts::.int p::σ)=.ok (.bool b):=
 ze (zl rfl ((Ac ts p).trans (congrArg (λt=>R.ok (ds t)) h))) rfl ((fM t).trans (congrArg (λb=>R.ok (vE b)) hb))
theorem tW{ts:List Tok}{p:Nat}{t:Tok}{x a b e:D}(h:pk (ts.drop p)=t):exec G (zd G T 2000 (n+2)) (zj G T 2000 (n+2)) 2000 (.ifs (.bin .eq (.call 1 (.cons (.var 0) (.cons (.var 1) .nil))) (.lit (.str ⟨#[43]⟩))) (.assign (.one 6) (.lit (.str ⟨#[115,117,99,99]⟩))) .skip) [zm ts,.int p,x,a,b,e,ds kQ,O,O,O,O,O]=
  .ok (.next,[zm ts,.int p,x,a,b,e,if t=[43] then ds Ab else ds kQ,O,O,O,O,O]):=by
 by_cases ht:t=[43]
 ·rw[if_pos ht];exact zu (EQ (zl rfl (Ac ts p)) (h.trans ht)) rfl
 ·rw[if_neg ht];exact zr (EP (zl rfl (Ac ts p)) λe=>ht (h.symm.trans e)) rfl
theorem aX:(if t=[43] then FZ e else C3 e)=.tuple [if t=[43] then ds Ab else ds kQ,e]:=by split<;>rfl
theorem pH(h:isDict e=false):[if t=[43] then ds Ab else ds kQ,e].any isDict=false:=by
 split
 ·exact(congrArg (λb=>isDict (ds Ab)||(b||false)) h)
 ·exact(congrArg (λb=>isDict (ds kQ)||(b||false)) h)
theorem OX(ts:List Tok)(x a b:D):∀(e:D) (r:List Tok) (m p:Nat) (kind:D),r=ts.drop p->p<=ts.length->r.length<m->isDict e=false->
  RP (SL ts x a b) (Ky e r) (wl G (zd G T 2000 (n+2)) (zj G T 2000 (n+2)) 2000 qN qM m [zm ts,.int p,x,a,b,e,kind,O,O,O,O,O]):=by
 have hB:∀{p:Nat} {t:Tok} {e kind:D},pk (ts.drop p)=t->isDict e=false->RP (λr q=>p+2<=ts.length/\r=ts.drop (p+2)/\q=(Fl.next,[zm ts,uT (p+2:Nat),x,a,b,PyData.tuple [if t=[43] then ds Ab else ds kQ,e],if t=[43] then ds Ab else ds kQ,O,O,O,O,O]))
   (R.bind (jC (ts.drop (p+1)) [49]) .ok) (exec G (zd G T 2000 (n+2)) (zj G T 2000 (n+2)) 2000 qM [zm ts,.int p,x,a,b,e,kind,O,O,O,O,O]):=
  λh he=>RP.nxt rfl (RP.nxt (tW h) (RP.wnt (by decide) rfl λhp=>RP.oke (zw (zV rfl (pH he))) ⟨hp,rfl,rfl⟩))
 intro e r
 fun_induction Ky e r with
 |case1 d=>
  intro m p kind hr hp hm hd;obtain⟨m,rfl,_⟩:=ki hm;exact RP.oke (Fg (Ey (t:=[]) (by rw[<-hr];rfl) rfl)) (.mk hd hp hr)
 |case2 d t h=>
  intro m p kind hr hp hm hd;obtain⟨m,rfl,_⟩:=ki hm;have ht:pk (ts.drop p)=t:=by rw[<-hr];rfl
  have hw:R.bind (jC (ts.drop (p+1)) [49]) .ok=.ve:=by rw[<-(jJ hr).1];rfl
  have hB:=hB (kind:=kind) ht hd;rw[hw] at hB;exact RP.to (GW (Ey ht (decide_eq_true h))) (RP.veb hB)
 |case3 d t h=>
  intro m p kind hr hp hm hd;obtain⟨m,rfl,_⟩:=ki hm;exact RP.oke (Fg (Ey (t:=t) (by rw[<-hr];rfl) (decide_eq_false h))) (.mk hd hp hr)
 |case4 d t r h ih=>
  intro m p kind hr hp hm hd;obtain⟨m,rfl,hm'⟩:=ki hm;have ht:pk (ts.drop p)=t:=by rw[<-hr];rfl
  have h1:=(jJ hr).1;have h3:=jJ h1;have hw:R.bind (jC (ts.drop (p+1)) [49]) .ok=.ok r:=by rw[<-h1];rfl
  have hB:=hB (kind:=kind) ht hd;rw[hw] at hB;refine RP.to (GW (Ey ht (decide_eq_true h))) (RP.bind (x:=.ok r) (X:=λ_=>Ky _ r) hB ?_);rintro _ _ ⟨_,_,rfl⟩;rw[<-aX];exact ih m (p+2) _ h3.1 h3.2 (za2 hm') (by split<;>rfl)
 |case5 d t u r h h2=>
  intro m p kind hr hp hm hd;obtain⟨m,rfl,_⟩:=ki hm;have ht:pk (ts.drop p)=t:=by rw[<-hr];rfl
  have hw:R.bind (jC (ts.drop (p+1)) [49]) .ok=.ve:=by rw[<-(jJ hr).1,show jC (u::r) [49]=.ve from if_neg h2];rfl
  have hB:=hB (kind:=kind) ht hd;rw[hw] at hB;exact RP.to (GW (Ey ht (decide_eq_true h))) (RP.veb hB)
 |case6 d t u r h=>
  intro m p kind hr hp hm hd;obtain⟨m,rfl,_⟩:=ki hm;exact RP.oke (Fg (Ey (t:=t) (by rw[<-hr];rfl) (decide_eq_false h))) (.mk hd hp hr)
inductive AL(ts:List Tok)(t e x:D):List D×List Tok->Fl×zg->Prop
 |mk{as:List D}{p:Nat}{a:D}(hd:as.any isDict=false)(hp:p<=ts.length):AL ts t e x (as,ts.drop p) (.next,[zm ts,.int p,t,e,x,.list as,a,O,O,O,O,O,O,O,O])
theorem dW{n:Nat}{ts:List Tok}{p:Nat}{as:List D}{t e x a:D}(h:as=[]\/pk (ts.drop p)=[44]):ev G (zd G T 2000 (n+2)) mM [zm ts,.int p,t,e,x,.list as,a,O,O,O,O,O,O,O,O]=.ok (.bool true):=by
 induction as using uB with
 |nil=>rfl
 |cons d as=>
  rcases h with h|h
  ·exact nomatch h
  ·exact Cf (ze rfl rfl (DF (d::as))) (EQ (zl rfl (Ac ts p)) h)
theorem W2{n:Nat}{ts:List Tok}{p:Nat}{as:List D}{t e x a:D}(h:¬(as=[]\/pk (ts.drop p)=[44])):ev G (zd G T 2000 (n+2)) mM [zm ts,.int p,t,e,x,.list as,a,O,O,O,O,O,O,O,O]=.ok (.bool false):=by
 induction as using uB with
 |nil=>exact absurd (xS rfl) h
 |cons d as=>exact Cf (ze rfl rfl (DF (d::as))) (EP (zl rfl (Ac ts p)) λe=>h (wF e))
theorem L4(h:as.any isDict=false)(hd:isDict d=false):(as++[d]).any isDict=false:=by
 rw[List.any_append,h];exact(congrArg (λb=>false||(b||false)) hd)
inductive AB(ts:List Tok)(t e x:D)(as:List D):D×List Tok->Fl×zg->Prop
 |mk(d:D)(p:Nat)(hd:isDict d=false)(hp:p<=ts.length):AB ts t e x as (d,ts.drop p) (.next,[zm ts,.int p,t,e,x,.list (as++[d]),d,O,O,O,O,O,O,O,O])
theorem RP.agb(h:c8 ts x (zd G T 2000 (n+2) 4 [zm ts,.int (p+1:Nat)]))(hl:as.length<2000):
  RP (AB ts t e y as) x (exec G (zd G T 2000 (n+2)) (zj G T 2000 (n+2)) 2000 mL [zm ts,.int p,t,e,y,.list as,a,O,O,O,O,O,O,O,O]):=by
 have k:RP (AB ts t e y as) (R.bind x R.ok) (exec G (zd G T 2000 (n+2)) (zj G T 2000 (n+2)) 2000 mL [zm ts,.int p,t,e,y,.list as,a,O,O,O,O,O,O,O,O]):=
  RP.cam h rfl λd pa hd hp=>RP.oke (Xz (xs:=as) rfl (uS hl (by decide)) hd) (.mk d pa hd hp)
 have e:R.bind x R.ok=x:=by induction x using R.casesOn<;>rfl
 rw[e] at k;exact k
theorem tK{u x a b:D}(h:isDict a=false)(g:isDict b=false)(hx:isDict x=false:=by rfl)(hu:isDict u=false:=by rfl):[u,x,a,b].any isDict=false:=by
 show(isDict u||(isDict x||(isDict a||(isDict b||false))))=false;rw[h,g,hx,hu];rfl
theorem rX{a:D}{i:Int}(h:isDict a=false):[a,.int i].any isDict=false:=by
 show(isDict a||(false||false))=false;rw[h];rfl
theorem Of{n:Nat}(ts:List Tok)(pf:List Tok->PR)(ih:∀p,p<=ts.length->c8 ts (pf (ts.drop p)) (zd G T 2000 (n+2) 4 [zm ts,.int p]))(t e x:D):
  ∀(m p:Nat) (as:List D) (a:D),p<ts.length->as.length+m<=2000->as.any isDict=false->
  RP (AL ts t e x) (Tz pf m as (ts.drop p)) (wl G (zd G T 2000 (n+2)) (zj G T 2000 (n+2)) 2000 mM mL m [zm ts,.int p,t,e,x,.list as,a,O,O,O,O,O,O,O,O]):=by
 intro m;induction m with
 |zero=>intro p as a hp hm hd;exact .stuck
 |succ m ihm=>
  intro p as a hp hm hd;rw[Bi];by_cases h:as=[]\/pk (ts.drop p)=[44]
  ·rw[if_pos h,wG];have hm':as.length+1+m<=2000:=by rw[vD,vO 1];exact hm
   refine RP.to (GW (dW h)) (RP.bind (RP.agb (x:=pf (ts.drop (p+1))) (ih (p+1) hp) (qD (w9 _) (qA (uV _ _) hm'))) ?_);rintro _ _ ⟨d,pa,hda,hpa⟩;by_cases hpl:pa<ts.length
   ·exact ihm pa (as++[d]) d hpl (by rw[uE];exact hm') (L4 hd hda)
   ·induction m using w3 with
    |zero=>exact .stuck
    |succ m=>
     have hno:¬(as++[d]=[]\/pk (ts.drop pa)=[44]):=by rw[wJ (Nat.not_lt.mp hpl)];simp[pk]
     show RP _ (Tz pf (m+1) (as++[d]) (ts.drop pa)) _;rw[Bi,if_neg hno];exact RP.oke (Fg (W2 hno)) (.mk (L4 hd hda) hpa)
  ·rw[if_neg h];exact RP.oke (Fg (W2 h)) (.mk hd (qC hp))
theorem H6{ts:List Tok}{p:Nat}(h:pk (ts.drop p)≠[]):p<ts.length:=by
 by_cases hc:ts.length<=p
 ·rw[wJ hc] at h;exact absurd rfl h
 ·exact Nat.not_le.mp hc
theorem iO{cf:Nat->List D->R D}{a b:D}{σ:zg}(t:Tok):ev G cf rZ (a::b::ds t::σ)=.ok (.bool (isNumT t)):=by
 induction t using uB with
 |nil=>rfl
 |cons c t=>exact Ag (Qk (w:=[]) rfl (uI _ _)) (ze rfl rfl (Lf c))
theorem mJ{cf:Nat->List D->R D}{a b:D}{σ:zg}{t:Tok}(h:isNumT t=true):ev G cf sC (a::b::ds t::σ)=.ok (.bool (decide (1<t.length/\t.head?=some 48))):=by
 induction t using uB with
 |nil=>exact ff h
 |cons c t=>
  by_cases hl:1<(c::t).length
  ·have hl':(1:Int)<((c::t).length:Nat):=Int.ofNat_lt.mpr hl;refine Ag (ze rfl rfl (congrArg (λb=>R.ok (vE b)) (decide_eq_true hl'))) ?_;by_cases hc:c=48
   ·rw[decide_eq_true ⟨hl,congrArg some hc⟩];exact EQ (u:=[c]) (w:=[48]) rfl (congrArg (λc=>[c]) hc)
   ·rw[decide_eq_false λh=>hc (wZ h.2)];exact EP (u:=[c]) (w:=[48]) rfl λh=>hc (List.cons.inj h).1
  ·have hl':¬(1:Int)<((c::t).length:Nat):=λh=>hl (Int.ofNat_lt.mp h);rw[decide_eq_false λh=>hl h.1];exact Df (ze rfl rfl (congrArg (λb=>R.ok (vE b)) (decide_eq_false hl')))
theorem Ke(ts:List Tok)(hl:ts.length<1000):∀n,(∀p,p<=ts.length->c8 ts (pE n (ts.drop p)) (zd G T 2000 n 4 [zm ts,.int p]))/\
  (∀p,p<=ts.length->c8 ts (pA n (ts.drop p)) (zd G T 2000 n 5 [zm ts,.int p])):=by
 intro n;induction n with
 |zero=>exact⟨λp _=>.stuck,λp _=>.stuck⟩
 |succ n ih=>
  obtain⟨ihE,ihA⟩:=ih;rw[MR,MQ];by_cases hn:n<2
  ·rw[if_pos hn,if_pos hn];exact⟨λp _=>.stuck,λp _=>.stuck⟩
  rw[if_neg hn,if_neg hn];obtain⟨n,rfl⟩:∃k,n=k+2:=⟨n - 2,(zaf (Nat.not_lt.mp hn)).symm⟩;clear hn;constructor
  ·intro p hp;rw[YJ];refine RP.fin ?_;unfold Mh;by_cases h:pk (ts.drop p)=BR
   ·rw[if_pos h,wG,wG];exact RP.ifr (EQ (zl rfl (Ac ts p)) h) (RP.nam rfl λx hp1=>RP.wnt (by decide) rfl λhp2=>RP.cam (ihE _ hp2) rfl λa pa hda hpa=>
     RP.wnt (by decide) rfl λhp3=>RP.cam (ihE _ hp3) rfl λb pb hdb hpb=>RP.rt (zV (zi (zV rfl (tK hda hdb)) rfl) rfl) rfl hpb)
   ·rw[if_neg h];exact RP.nxt (zr (EP (zl rfl (Ac ts p)) h) rfl) (RP.cam (ihA p hp) rfl λe pa hda hpa=>RP.cont (OX (n:=n) ts .none .none .none e (ts.drop pa) 2000 pa .none rfl hpa
     (qB (qA (vC (xO ..)) (zbq _ _)) (uS hl (by decide))) hda) λ_ _ h=>h.casesOn λhd hp hr=>hr▸RP.rt (zV rfl (rX hd)) hd hp)
  ·intro p hp;rw[YG];refine RP.fin (RP.nxt (zw (zl rfl (Ac ts p))) ?_);unfold O7;by_cases h:pk (ts.drop p)=[40]
   ·rw[if_pos h,wG];exact RP.ifr (EQ rfl h) (RP.cam (ihE _ (H6 λe=>nomatch e.symm.trans h)) rfl λa pa hda hpa=>RP.wnt (by decide) rfl λhp3=>RP.rt (zV rfl (rX hda)) hda hp3)
   ·rw[if_neg h];refine RP.nxt (zr (EP rfl h) rfl) ?_;have hN:=iO (cf:=zd G T 2000 (n+2)) (a:=zm ts) (b:=.int p) (σ:=[O,O,O,O,O,O,O,O,O,O,O,O]) (pk (ts.drop p));by_cases hb:isNumT (pk (ts.drop p))=true
    ·rw[if_pos hb];rw[hb] at hN;have hp1:p+1<=ts.length:=H6 λe=>by rw[e] at hb;exact ff hb
     have hz:=mJ (cf:=zd G T 2000 (n+2)) (a:=zm ts) (b:=.int p) (σ:=[O,O,O,O,O,O,O,O,O,O,O,O]) hb;refine RP.ifr hN ?_;unfold Lz;by_cases hc:1<(pk (ts.drop p)).length/\(pk (ts.drop p)).head?=some 48
     ·rw[if_pos hc];rw[decide_eq_true hc] at hz;exact RP.vee (congrArg (R.bind · _) (zu hz rfl))
     ·rw[if_neg hc];rw[decide_eq_false hc] at hz;refine RP.nxt (zr hz rfl) ?_;cases hm:MO (S (pk (ts.drop p))) with
      |none=>exact .stuck
      |some i=>
       show RP _ (R.ok (Ej i,(ts.drop p).drop 1)) _;rw[wG];exact RP.rt (zV (zi (zV (zi rfl (zi (BJ rfl (congrArg (λo=>R.bind (ji o) λi=>R.ok (uT i)) hm)) rfl)) rfl) rfl) rfl) rfl hp1
    ·rw[if_neg hb];rw[xB] at hb;rw[hb] at hN;refine RP.nxt (zr hN rfl) (RP.nam rfl λx hp1=>RP.nxt rfl ?_);rw[wG];by_cases hq:pk (ts.drop (p+1))=[40]
     ·rw[if_pos hq];exact RP.nxt (zr (Xb (zl rfl (Ac ts (p+1))) hq) rfl) (RP.nxt rfl (RP.bind (Of (n:=n) ts (pE (n+2)) ihE (ds (pk (ts.drop p))) .none (ds x) 2000 (p+1) [] .none (H6 λe=>nomatch e.symm.trans hq) (by decide) rfl)
       λ_ _ h=>h.casesOn λhd hp=>RP.wnt (by decide) rfl λhp3=>RP.rt (zV rfl rfl) rfl hp3))
     ·rw[if_neg hq];exact RP.ifr (Qk (zl rfl (Ac ts (p+1))) hq) (RP.rt rfl rfl hp1)
def cls(c:Nat):Nat:=if AD c then 1 else if Bw c then 2 else 0
def same(c:Nat):List Nat->Bool
 |[]=>false
 |d::_=>cls c==cls d
noncomputable def Mn(c:Nat):List Tok->List Tok
 |[]=>[[c]]
 |t::ts=>(c::t)::ts
noncomputable def tok:List Nat->List Tok
 |[]=>[]
 |c::r=>if c=32 then tok r else if cls c≠0/\same c r=true then Mn c (tok r) else[c]::tok r
theorem S8:tok []=[]:=rfl
theorem An:∀(d:Nat) (tail:List Nat),tok (d::tail)=if d=32 then tok tail else if cls d≠0/\same d tail=true then Mn d (tok tail) else[d]::tok tail:=λ_ _=>rfl
theorem Ti(p:Nat->Bool)(r:List Nat):(r.takeWhile p).length<=r.length:=by
 induction r with
 |nil=>simp
 |cons c r ih=>simp only[zaH];split<;>simp<;>assumption
theorem Nf(p:Nat->Bool)(r:List Nat):r.take (r.takeWhile p).length=r.takeWhile p:=by
 induction r with
 |nil=>rfl
 |cons c r ih=>simp only[zaH];split<;>simp[ih]
theorem Nb(p:Nat->Bool)(r:List Nat):r.drop (r.takeWhile p).length=r.dropWhile p:=by
 induction r with
 |nil=>rfl
 |cons c r ih=>simp only[zaH,List.dropWhile_cons];split<;>simp[ih]
theorem K0:cls 32=0:=by decide
theorem FI(hk:k≠0):∀(r:List Nat) (c:Nat),cls c=k->tok (c::r)=(c::r.takeWhile (λd=>cls d==k))::tok (r.dropWhile (λd=>cls d==k)):=by
 intro r;induction r with
 |nil=>
  intro c hc;have:c≠32:=by rintro rfl;rw[K0] at hc;exact hk hc.symm
  simp[S8,An,this,same]
 |cons d r ih=>
  intro c hc;have h32:c≠32:=by rintro rfl;rw[K0] at hc;exact hk hc.symm
  rw[An,if_neg h32];by_cases hd:cls d=k
  ·rw[if_pos ⟨by rw[hc];exact hk,by simp[same,hc,hd]⟩,ih d hd];simp[Mn,hd]
  ·rw[if_neg (by simp[same,hc];intro _ h;exact hd h.symm)];simp[hd]
theorem QH{l:List Nat}{j c:Nat}{r:List Nat}(hd:l.drop j=c::r):jd (ds l) (.int j)=.ok (ds [c]):=by
 rw[JD];have:l[j]?=some c:=by
  have:=congrArg List.head? hd
  rwa [List.head?_drop] at this
 rw[this]
section
variable{cf:Nat->List D->R D}{l:List Nat}{j i:Nat}{ρ:zg}
theorem WJ(h:ev G cf c ρ=.ok (.bool true))(g:exec G cf cio 2000 s ρ=.ok (.next,σ))(k:wl G cf cio 2000 c s m σ=r):wl G cf cio 2000 c s (m+1) ρ=r:=(GW h).trans ((congrArg (R.bind · _) g).trans k)
theorem Qj(h0:zq ρ 0=ds l)(h:zq ρ i=.int j)(hj:j<l.length):ev G cf (.bin .lt (.var i) (.un .len (.var 0))) ρ=.ok (.bool true):=
 ze (congrArg R.ok h) (BJ (congrArg R.ok h0) rfl) (congrArg (λb=>R.ok (vE b)) (decide_eq_true (Int.ofNat_lt.mpr hj)))
theorem Xa(h0:zq ρ 0=ds l)(h:zq ρ i=.int j)(hj:l.length<=j):ev G cf (.bin .lt (.var i) (.un .len (.var 0))) ρ=.ok (.bool false):=
 ze (congrArg R.ok h) (BJ (congrArg R.ok h0) rfl) (congrArg (λb=>R.ok (vE b)) (decide_eq_false λh=>absurd (Int.ofNat_lt.mp h) (Nat.not_lt.mpr hj)))
theorem F1{c:Nat}{r:List Nat}{gi:Nat}{b:Bool}(h0:zq ρ 0=ds l)(h:zq ρ i=.int j)(hd:l.drop j=c::r)(hG:QK (ds [c]) (G.getD gi .none)=.ok (.bool b)):ev G cf (.bin .mem (.bin .idx (.var 0) (.var i)) (.glob gi)) ρ=.ok (.bool b):=
 ze (ze (congrArg R.ok h0) (congrArg R.ok h) (QH hd)) rfl hG
end
theorem JX{n:Nat}(l:List Nat)(gi:Nat)(pr:Nat->Bool)(hG:∀c,QK (ds [c]) (G.getD gi .none)=.ok (.bool (pr c)))(x y z w v:D):∀(m j:Nat),(l.drop j).length<m->j<=l.length->
  wl G (zd G T 2000 n) (zj G T 2000 n) 2000 (.and_ (.bin .lt (.var 3) (.un .len (.var 0))) (.bin .mem (.bin .idx (.var 0) (.var 3)) (.glob gi))) (.assign (.one 3) (.bin .add (.var 3) (.lit (.int 1)))) m
   [ds l,x,y,.int j,z,w,v]=.ok (.next,[ds l,x,y,.int (j+((l.drop j).takeWhile pr).length:Nat),z,w,v]):=by
 intro m;induction m with
 |zero=>intro j h;exact absurd h (wY _)
 |succ m ih=>
  intro j hm hj;cases hd:l.drop j with
  |nil=>exact Fg (Df (Xa rfl rfl (List.drop_eq_nil_iff.mp hd)))
  |cons c r=>
   obtain⟨hr,hj1⟩:=jJ hd.symm;have hb:=hG c;rw[zaH];by_cases hc:pr c=true
   ·rw[hc] at hb;rw[if_pos hc,vB,vO (r.takeWhile pr).length 1,<-vD,hr];exact WJ (ρ:=[ds l,x,y,.int j,z,w,v]) (Ag (Qj rfl rfl hj1) (F1 rfl rfl hd hb)) rfl (ih (j+1) (by rw[hd] at hm;rw[<-hr];exact yF hm) hj1)
   ·rw[xB] at hc;rw[hc] at hb;rw[if_neg (by rw[hc];decide)];exact Fg (Ag (Qj rfl rfl hj1) (F1 rfl rfl hd hb))
theorem Su(l:List Nat)(i j:Nat)(h1:i<=j)(h2:j<=l.length):IK (ds l) (.int i) (.int j)=.ok (ds ((l.drop i).take (j - i))):=by
 show(if(0:Int)<=i/\(i:Int)<=j/\(j:Int)<=(l.length:Nat) then R.ok (PyData.str (sub (S l) i j)) else .stuck)=_;rw[if_pos (by exact⟨wS _,Int.ofNat_le.mpr h1,Int.ofNat_le.mpr h2⟩)];have:sub (S l) i j=S ((l.drop i).take (j - i)):=by
  unfold sub;simp[List.extract]
 rw[this]
def CW(c:Nat)(r:List Nat):Nat:=if AD c=true then(r.takeWhile AD).length else if Bw c=true then(r.takeWhile Bw).length else 0
theorem WK(c:Nat)(r:List Nat):CW c r<=r.length:=by
 unfold CW;split
 ·exact Ti _ _
 ·split
  ·exact Ti _ _
  ·exact uZ _
theorem f8:(λd=>cls d==1)=AD:=by
 funext d;unfold cls
 cases AD d<;>simp<;>split<;>trivial
theorem f9:(λd=>cls d==2)=Bw:=by
 funext d
 rw[xX];simp only[cls,AD,Bw,beq_iff_eq];by_cases ha:97<=d/\d<=122<;>by_cases hb:48<=d/\d<=57<;>simp[ha,hb];exact absurd (qA ha.1 hb.2) (by decide)
theorem lO(c:Nat)(r:List Nat):tok (c::r)=(if c=32 then[] else[c::r.take (CW c r)])++tok (r.drop (CW c r)):=by
 unfold CW;by_cases h1:AD c=true
 ·have ht:=FI (by decide:(1:Nat)≠0) r c (if_pos h1);rw[f8] at ht;rw[ht,if_pos h1,if_neg (by rintro rfl;exact ff h1),Nf,Nb];rfl
 ·rw[if_neg h1];by_cases h2:Bw c=true
  ·have ht:=FI (by decide:(2:Nat)≠0) r c ((if_neg h1).trans (if_pos h2));rw[f9] at ht;rw[ht,if_pos h2,if_neg (by rintro rfl;exact ff h2),Nf,Nb];rfl
  ·have hc:cls c=0:=(if_neg h1).trans (if_neg h2);rw[if_neg h2,An];by_cases h3:c=32
   ·rw[if_pos h3,if_pos h3];rfl
   ·rw[if_neg h3,if_neg h3,if_neg λh=>h.1 hc];rfl
theorem Wr{n:Nat}{l:List Nat}(hl:l.length<1900){i c:Nat}{r:List Nat}{ts:D}(hd:l.drop i=c::r):
  exec G (zd G T 2000 n) (zj G T 2000 n) 2000 qP [ds l,ts,.int i,.int (i+1:Nat),O,O,O]=.ok (.next,[ds l,ts,.int i,.int (i+1+CW c r:Nat),O,O,O]):=by
 obtain⟨hr,hj⟩:=jJ hd.symm;have hm:(l.drop (i+1)).length<2000:=qB (qA (vC (xO ..)) (zbq _ _)) (uS hl (by decide));have h0:=Lg c;unfold CW;by_cases h1:AD c=true
 ·rw[h1] at h0;rw[if_pos h1,hr];exact zu (F1 rfl rfl hd h0) (JX (n:=n) l 0 AD Lg ts (.int i) .none .none .none 2000 (i+1) hm hj)
 ·rw[if_neg h1];rw[xB] at h1;rw[h1] at h0;have h2:=Lf c;by_cases h3:Bw c=true
  ·rw[h3] at h2;rw[if_pos h3,hr];exact zr (F1 rfl rfl hd h0) (zu (F1 rfl rfl hd h2) (JX (n:=n) l 1 Bw Lf ts (.int i) .none .none .none 2000 (i+1) hm hj))
  ·rw[if_neg h3];rw[xB] at h3;rw[h3] at h2;exact zr (F1 rfl rfl hd h0) (zr (F1 rfl rfl hd h2) rfl)
theorem b0{n:Nat}{l:List Nat}{i c q:Nat}{r:List Nat}{ts:List Tok}{w:Tok}(hd:l.drop i=c::r)(hq:i<=q)(hq2:q<=l.length)(hw:(l.drop i).take (q - i)=w)(hts:ts.length<1000000):
  exec G (zd G T 2000 n) (zj G T 2000 n) 2000 (.ifs (.bin .ne (.bin .idx (.var 0) (.var 2)) (.lit (.str ⟨#[32]⟩))) (.app 1 (.tri .slice (.var 0) (.var 2) (.var 3))) .skip) [ds l,zm ts,.int i,.int q,O,O,O]=
  .ok (.next,[ds l,zm (ts++if c=32 then[] else[w]),.int i,.int q,O,O,O]):=by
 by_cases hc:c=32
 ·rw[if_pos hc,vS];exact zr (Xb (u:=[c]) (ze rfl rfl (QH hd)) (congrArg (λc=>[c]) hc)) rfl
 ·rw[if_neg hc];exact zu (Qk (u:=[c]) (ze rfl rfl (QH hd)) λh=>hc (List.cons.inj h).1) (D7 (x:=ds w) (xs:=ts.map ds) ((Su l i q hq hq2).trans (congrArg (λw=>R.ok (ds w)) hw)) rfl (by rw[uJ];exact hts) rfl (vU (f:=ds) (l₁:=ts) (l₂:=[w])).symm)
theorem Wq{n:Nat}(l:List Nat)(hl:l.length<1900):∀(m i:Nat) (ts:List Tok) (j:D),l.length<i+m->i<=l.length->ts.length<=i->
  ∃j',wl G (zd G T 2000 n) (zj G T 2000 n) 2000 (.bin .lt (.var 2) (.un .len (.var 0))) (.seq (.assign (.one 3) (.bin .add (.var 2) (.lit (.int 1)))) (.seq qP
   (.seq (.ifs (.bin .ne (.bin .idx (.var 0) (.var 2)) (.lit (.str ⟨#[32]⟩))) (.app 1 (.tri .slice (.var 0) (.var 2) (.var 3))) .skip) (.assign (.one 2) (.var 3))))) m [ds l,zm ts,.int i,j,O,O,O]=
   .ok (.next,[ds l,zm (ts++tok (l.drop i)),.int l.length,j',O,O,O]):=by
 intro m;induction m with
 |zero=>intro i ts j h hi;exact absurd h (Nat.not_lt.mpr hi)
 |succ m ih=>
  intro i ts j h hi hts;cases hd:l.drop i with
  |nil=>
   have hil:=List.drop_eq_nil_iff.mp hd;have e:i=l.length:=y3 hi hil;refine⟨j,?_⟩;rw[S8,vS,<-e];exact Fg (Xa rfl rfl hil)
  |cons c r=>
   obtain⟨hr,hj⟩:=jJ hd.symm;have hw:=WK c r;have hrl:i+1+r.length=l.length:=by rw[hr,xO];exact Nat.add_sub_cancel' hj
   have hq2:i+1+CW c r<=l.length:=hrl▸uD hw _;have hq:i+1<=i+1+CW c r:=uV _ _;have he:i+1+CW c r - i=CW c r+1:=by rw[vD,Nat.add_sub_cancel_left,vO]
   have hlen:(ts++if c=32 then[] else[c::r.take (CW c r)]).length<=i+1+CW c r:=by
    refine qA ?_ hq;rw[uE];refine uR hts ?_;split
    ·exact uZ _
    ·exact uK 1
   obtain⟨j',e⟩:=ih (i+1+CW c r) (ts++if c=32 then[] else[c::r.take (CW c r)]) (.int (i+1+CW c r:Nat)) (qD (Nat.add_succ i m▸h) (by rw[<-Nat.succ_add];exact uM hq m)) hq2 hlen;refine⟨j',?_⟩;rw[lO,<-uN,hr,wG,<-hr];exact WJ (Qj rfl rfl hj) (zh rfl (zh (Wr hl hd) (zh (b0 hd (qA (w4 i) hq) hq2 (by rw[hd,he];rfl) (qB hts (qB hi (uS hl (by decide))))) rfl))) e
theorem HK(l:List Nat)(hl:l.length<1900):zd G T 2000 (n+1) 0 [ds l]=.ok (zm (tok l)):=by
 rw[Qc];obtain⟨j,e⟩:=Wq (n:=n) l hl 2000 0 [] .none (by rw[xD];exact uS hl (by decide)) (uZ _) (uK 0);exact(Rt.nxt rfl (Rt.nxt rfl (Rt.nxt (bO.trans e) (Rt.ret rfl)))).fin
theorem Ws(l:List Nat):(tok l).length<=l.length:=by
 induction l with
 |nil=>trivial
 |cons c r ih=>
  rw[An];split
  ·simp;exact vN ‹_›
  ·split
   ·cases h:tok r with
    |nil=>exact zbd _
    |cons t ts=>rw[h] at ih;simp[Mn] at ih ⊢;exact qC ‹_›
   ·simp;assumption
noncomputable def KC(ns:List Tok):Bool:=(v5 ns.length).any λi=>(ns.take i).contains (ns.getD i [])
theorem EE(ns:List Tok)(i:Nat):X0 (zm ns) (.int i)=.ok (zm (ns.take i)):=by
 show(if(0:Int)<=i then R.ok (w8 ((ns.map ds).take (i:Int).toNat)) else .stuck)=_;rw[if_pos (by exact wS _)];simp
theorem lT{cf:Nat->List D->R D}{ns:List Tok}{i:Nat}(hi:i<ns.length):ev G cf (.bin .mem (.bin .idx (.var 0) (.var 1)) (.bin .upto (.var 0) (.var 1))) [zm ns,.int i,O,O]=.ok (.bool ((ns.take i).contains (ns.getD i []))):=by
 have hx:jd (zm ns) (.int i)=.ok (ds (ns.getD i [])):=by
  rw[Bt,v6,uA hi,uH,uA hi];rfl
 exact ze (ze rfl rfl hx) (ze rfl rfl (EE ns i)) (Bu _ _)
theorem Ww{cf ci:Nat->List D->R D}{ns:List Tok}:∀(is:List Nat) (v:D),(∀i∈is,i<ns.length)->∃d,fl G cf ci 2000 (.one 1) cU (is.map λ(k:Nat)=>uT k) [zm ns,v,O,O]=
  if is.any (λi=>(ns.take i).contains (ns.getD i [])) then .ok (.ret (.bool true),[zm ns,d,O,O]) else .ok (.next,[zm ns,d,O,O]):=by
 intro is;induction is with
 |nil=>intro v _;exact⟨v,rfl⟩
 |cons i is ih=>
  intro v hi;have hc:=lT (cf:=cf) (hi i u4);rw[List.any_cons];generalize (ns.take i).contains (ns.getD i [])=c at hc;induction c using tZ with
  |false=>
   obtain⟨d,e⟩:=ih (.int i) λj hj=>hi j (u0 _ hj);exact⟨d,(congrArg (R.bind · (cJ G cf ci 2000 (.one 1) cU _)) (zr hc rfl)).trans e⟩
  |true=>exact⟨.int i,congrArg (R.bind · (cJ G cf ci 2000 (.one 1) cU _)) (zu hc rfl)⟩
theorem KD{n:Nat}(ns:List Tok)(hl:ns.length<1000):zd G T 2000 (n+1) 7 [zm ns]=.ok (.bool (KC ns)):=by
 obtain⟨d,e⟩:=Ww (cf:=zd G T 2000 n) (ci:=zj G T 2000 n) (ns:=ns) (v5 ns.length) .none λi hi=>List.mem_range.mp hi;refine(Uk ..).trans ?_;have e:exec G (zd G T 2000 n) (zj G T 2000 n) 2000 (.forr (.one 1) true (.un .len (.var 0)) cU) [zm ns,O,O,O]=if KC ns=true then .ok (.ret (.bool true),[zm ns,d,O,O]) else .ok (.next,[zm ns,d,O,O]):=
  (congrArg (R.bind · (JO G _ _ 2000 (.one 1) true cU _)) (BJ (u:=.len) (a:=.var 0) (x:=zm ns) (ρ:=[zm ns,O,O,O]) rfl (congrArg (λn:Nat=>R.ok (uT n)) (uJ (as:=ns) ds)))).trans ((Il (qA (qC hl) (by decide))).trans e)
 generalize KC ns=c at e;induction c using tZ with
 |false=>exact Rt.fin (Rt.nxt e (Rt.ret rfl))
 |true=>exact Rt.fin (Rt.seq ⟨_,e⟩)
set_option genCtorIdx false in
set_option genInjectivity false in
structure kG where
 f:Tok
 ps:List Tok
 b:D
def kG.d(r:kG):D:=.tuple [ds r.f,zm r.ps,r.b]
noncomputable def VD:List Tok->List Tok->R (List Tok×List Tok)
 |ps,[]=>.ok (ps,[])
 |ps,[c]=>if c=[44] then .ve else .ok (ps,[c])
 |ps,c::x::r=>if c=[44] then(if Av x then VD (ps++[x]) r else .ve) else .ok (ps,c::x::r)
def zY(n:Nat)(ts:List Tok):R kG:=
 R.bind (kz ts) λf=>R.bind (jC (ts.drop 1) [40]) λr=>R.bind (kz r) λp=>R.bind (VD [p] (r.drop 1)) λq=>
  R.bind (jC q.2 [41]) λr=>R.bind (jC r [61]) λr=>R.bind (pE n r) λe=>if e.2≠[]\/KC q.1=true then .ve else .ok ⟨f,q.1,e.1⟩
noncomputable def DX(n:Nat):List (List Nat)->R (List kG)
 |[]=>.ok []
 |l::ls=>if tok l=[] then DX n ls else R.bind (zY n (tok l)) λr=>R.bind (DX n ls) λrs=>.ok (r::rs)
theorem Kl:∀(n:Nat) (l:List Nat) (ls:List (List Nat)),DX n (l::ls)=if tok l=[] then DX n ls else(zY n (tok l)).bind λ(r:kG)=>(DX n ls).bind λ(rs:List kG)=>R.ok (r::rs):=λ_ _ _=>rfl
section
variable{n:Nat}{α:Type}{Q:α->Fl×zg->Prop}{ts:List Tok}{p:Nat}{ρ σ:zg}{es:PEs}{i:Nat}{s t:PS}{x:D}{cf ci:Nat->List D->R D}{a c:PE}{xs ys:List D}
theorem RP.nnl(he:evs G (zd G T 2000 (n+2)) es ρ=.ok [zm ts,.int p])(k:∀u,p<ts.length->RP Q (X u) (exec G (zd G T 2000 (n+2)) ci 2000 t (ρ.set i (.list [ds u])))):
  RP Q (R.bind (kz (ts.drop p)) X) (exec G (zd G T 2000 (n+2)) ci 2000 (.seq (.newl i (.cons (.call 3 es) .nil)) t) ρ):=by
 cases h:kz (ts.drop p) with
 |ok r=>exact RP.nxt (congrArg (R.bind · (Xx ρ i)) (zi (es:=.nil) (xs:=[]) (zl he (DO h).1) rfl)) (k r (DO (n:=n) h).2)
 |ve=>exact RP.vee (congrArg (R.bind · _) (congrArg (R.bind · (Xx ρ i)) (congrArg (R.bind · (QY G _ ρ .nil)) (zl he (Fz h)))))
 |stuck=>exact .stuck
end
inductive PL(ts:List Tok)(N:Nat)(t0 t1 t2 t4 t7:D):List Tok×List Tok->Fl×zg->Prop
 |mk{ps r:List Tok}{p:Nat}(hp:p<=ts.length)(hr:r=ts.drop p)(hl:ps.length<=N):PL ts N t0 t1 t2 t4 t7 (ps,r) (.next,[t0,t1,t2,zm ts,t4,.int p,zm ps,t7,O,O,O,O,O,O,O,O,O,O,O])
theorem RZ(ts:List Tok)(N:Nat)(hN:N<2000)(t0 t1 t2 t4 t7:D):∀(ps r:List Tok) (m p:Nat),r=ts.drop p->p<=ts.length->r.length<m->ps.length+r.length<=N->
  RP (PL ts N t0 t1 t2 t4 t7) (VD ps r) (wl G (zd G T 2000 (n+2)) (zj G T 2000 (n+2)) 2000 s8 s4 m [t0,t1,t2,zm ts,t4,.int p,zm ps,t7,O,O,O,O,O,O,O,O,O,O,O]):=by
 intro ps r
 fun_induction VD ps r with
 |case1 ps=>
  intro m p hr hp hm hl;obtain⟨m,rfl,_⟩:=ki hm;exact RP.oke (Fg (EP (u:=[]) (zl rfl ((Ac ts p).trans (by rw[<-hr];rfl))) (by decide))) (.mk hp hr hl)
 |case2 ps=>
  intro m p hr hp hm hl;obtain⟨m,rfl,_⟩:=ki hm;exact RP.vee ((GW (EQ (u:=[44]) (zl rfl ((Ac ts p).trans (by rw[<-hr];rfl))) rfl)).trans (congrArg (R.bind · _) (congrArg (R.bind · _) (X4 (zl rfl (Fz (p:=p+1) (by rw[<-(jJ hr).1];rfl))) rfl))))
 |case3 ps c h=>
  intro m p hr hp hm hl;obtain⟨m,rfl,_⟩:=ki hm;exact RP.oke (Fg (EP (u:=c) (zl rfl ((Ac ts p).trans (by rw[<-hr];rfl))) h)) (.mk hp hr (qA (uV _ _) hl))
 |case4 ps x r h ih=>
  intro m p hr hp hm hl;obtain⟨m,rfl,hm'⟩:=ki hm;have h1:=(jJ hr).1;have h3:=jJ h1;have hl':(ps++[x]).length+r.length<=N:=by rw[uE,vD,vO [x].length];exact qA (uD (w4 _) _) hl
  refine RP.to ((GW (EQ (u:=[44]) (zl rfl ((Ac ts p).trans (by rw[<-hr];rfl))) rfl)).trans (congrArg (R.bind · _) (zh (D7 (ys:=(ps++[x]).map ds) (zl rfl (DO (n:=n) (p:=p+1) (x:=x) (by rw[<-h1];exact if_pos h)).1) rfl ?_ rfl (vU (f:=ds) (l₁:=ps) (l₂:=[x])).symm) rfl))) (ih m (p+2) h3.1 h3.2 (za2 hm') hl');rw[uJ];exact qB (qA (uV _ _) hl) (uS hN (by decide))
 |case5 ps x r h=>
  intro m p hr hp hm hl;obtain⟨m,rfl,_⟩:=ki hm;exact RP.vee ((GW (EQ (u:=[44]) (zl rfl ((Ac ts p).trans (by rw[<-hr];rfl))) rfl)).trans (congrArg (R.bind · _) (congrArg (R.bind · _) (X4 (zl rfl (Fz (p:=p+1) (by rw[<-(jJ hr).1];exact if_neg h))) rfl))))
 |case6 ps c x r h=>
  intro m p hr hp hm hl;obtain⟨m,rfl,_⟩:=ki hm;exact RP.oke (Fg (EP (u:=c) (zl rfl ((Ac ts p).trans (by rw[<-hr];rfl))) h)) (.mk hp hr (qA (uV _ _) hl))
inductive RQ(t0:D)(rs:List kG)(l:List Nat):kG->Fl×zg->Prop
 |mk{r:kG}{t3 t4 t5 t6 t7:D}(hd:isDict r.b=false)(hl:r.ps.length<1000):RQ t0 rs l r (.next,[t0,.list ((rs++[r]).map kG.d),ds l,t3,t4,t5,t6,t7,O,O,O,O,O,O,O,O,O,O,O])
theorem Sm(hl:l.length<900)(h:tok l=[]):
  exec G (zd G T 2000 (n+3)) (zj G T 2000 (n+3)) 2000 Pq [t0,t1,ds l,t3,t4,t5,t6,t7,O,O,O,O,O,O,O,O,O,O,O]=.ok (.cont,[t0,t1,ds l,zm [],t4,t5,t6,t7,O,O,O,O,O,O,O,O,O,O,O]):=
 zh (zw (zl rfl ((HK l (qD hl (by decide))).trans (congrArg (λt=>R.ok (zm t)) h)))) rfl
theorem tJ{x y a:D}(h:isDict a=false)(hx:isDict x=false:=by rfl)(hy:isDict y=false:=by rfl):[x,y,a].any isDict=false:=by
 show(isDict x||(isDict y||(isDict a||false)))=false;rw[h,hx,hy];rfl
theorem VL{n:Nat}{ts ps:List Tok}{l:List Nat}{p:Nat}{rs:List kG}{f:Tok}{b t0:D}(hrs:rs.length<1000)(hps:ps.length<1000)(hp:p<=ts.length)(hb:isDict b=false):
  RP (RQ t0 rs l) (if ts.drop p≠[]\/KC ps=true then .ve else .ok ⟨f,ps,b⟩) (exec G (zd G T 2000 (n+3)) (zj G T 2000 (n+3)) 2000 (.seq (.ifs (.or_ (.bin .ne (.var 5) (.un .len (.var 3))) (.call 7 (.cons (.var 6) .nil))) .raise .skip)
   (.app 1 (.tup (.cons (.var 4) (.cons (.var 6) (.cons (.var 7) .nil)))))) [t0,.list (rs.map kG.d),ds l,zm ts,ds f,.int p,zm ps,b,O,O,O,O,O,O,O,O,O,O,O]):=by
 have hlen:((ts.map ds).length:Int)=(ts.length:Nat):=by rw[uJ]
 have hx:(p:Int)=((ts.map ds).length:Nat)↔ts.drop p=[]:=by
  rw[hlen,Int.ofNat_inj,List.drop_eq_nil_iff];exact⟨λh=>vC h.symm,λh=>y3 hp h⟩
 by_cases hne:ts.drop p=[]
 ·have h1:FA (.int (p:Nat)) (.int ((ts.map ds).length:Nat))=.ok (.bool false):=congrArg (λb=>R.ok (vE !b)) (decide_eq_true (hx.mpr hne));have h7:=KD (n:=n+2) ps hps;rcases xW (KC ps) with htw|htw
  ·rw[if_pos (wF htw)];rw[htw] at h7;exact RP.vee (KJ (Cf (ze rfl rfl h1) (zl rfl h7)))
  ·rw[if_neg λh=>h.elim (λh=>h hne) λh=>nomatch htw.symm.trans h];rw[htw] at h7;exact RP.nxt (zr (Cf (ze rfl rfl h1) (zl rfl h7)) rfl) (RP.oke (D7 (zV rfl (tJ hb)) rfl (by rw[uJ];exact uS hrs (by decide)) rfl (vU (f:=kG.d) (l₁:=rs) (l₂:=[⟨f,ps,b⟩])).symm) (.mk hb hps))
 ·rw[if_pos (xS hne)];exact RP.vee (KJ (Js (ze rfl rfl (congrArg (λb=>R.ok (vE !b)) (decide_eq_false λh=>hne (hx.mp h))))))
theorem Sl(l:List Nat)(hl:l.length<900)(rs:List kG)(hrs:rs.length<1000)(t0 t3 t4 t5 t6 t7:D)(h:tok l≠[]):
  RP (RQ t0 rs l) (zY (n+3) (tok l)) (exec G (zd G T 2000 (n+3)) (zj G T 2000 (n+3)) 2000 Pq [t0,.list (rs.map kG.d),ds l,t3,t4,t5,t6,t7,O,O,O,O,O,O,O,O,O,O,O]):=by
 have htl:=qB (Ws l) hl;have hT:=HK (n:=n+2) l (qD hl (by decide));clear hl;generalize tok l=ts at *;have hE:(List.map ds ts).isEmpty=false:=by
  induction ts using uB with
  |nil=>exact absurd rfl h
  |cons=>rfl
 unfold zY;refine RP.nxt (zw (zl rfl hT)) (RP.nxt (zr (ze rfl rfl ((DF _).trans (congrArg (λb=>R.ok (vE b)) hE))) rfl) (RP.nam (n:=n+1) (p:=0) rfl λf _=>RP.wnt (n:=n+1) (p:=1) (by decide) rfl λ_=>RP.nnl (n:=n+1) (p:=1+1) rfl λu hp3=>RP.nxt rfl ?_));rw[wG];refine RP.bind (RZ (n:=n+1) ts 999 (by decide) t0 (.list (rs.map kG.d)) (ds l) (ds f) t7 [u] (ts.drop (1+1+1)) 2000 3 rfl hp3 ?_ ?_) ?_
 ·exact qB (qA (vC (xO ..)) (zbq _ _)) (uS htl (by decide))
 ·exact qA (uD (qA (vC (xO ..)) (zbq _ _)) 1) (qA (uD (qC htl) 1) (by decide))
 ·rintro _ _ ⟨hp4,rfl,hps⟩;exact RP.wnt (n:=n+1) (by decide) rfl λhp5=>RP.wnt (n:=n+1) (by decide) rfl λhp6=>RP.cam ((Ke ts (uS htl (by decide)) (n+3)).1 _ hp6) rfl λb p7 hb hp7=>VL hrs (za3 hps) hp7 hb
theorem Ap(h:ev GG cf a ρ=.ok (.list xs))(k:fl GG cf cio wf g s xs ρ=r):exec GG cf cio wf (.forr g false a s) ρ=r:=(congrArg (R.bind · _) h).trans k
theorem RP.mapl{α β γ:Type}{Q:α->β->Prop}{P:γ->β->Prop}{x:R α}{y:R β}{f:α->γ}(h:RP Q x y)(k:∀a b,Q a b->P (f a) b):RP P (R.bind x λa=>.ok (f a)) y:=by
 induction h using RP.casesOn with
 |ok h=>exact .ok (k _ _ h)
 |ve=>exact .ve
 |stuck=>exact .stuck
theorem RP.mono{α β:Type}(h:RP Q x y)(k:∀a b,Q a b->P a b):RP P x y:=by
 induction h using RP.casesOn with
 |ok h=>exact .ok (k _ _ h)
 |ve=>exact .ve
 |stuck=>exact .stuck
inductive WQ(t0:D)(rs:List kG)(N:Nat):List kG->Fl×zg->Prop
 |mk{rs':List kG}{ys:List D}{t2 t3 t4 t5 t6 t7:D}(h:∀r∈rs',isDict r.b=false/\r.ps.length<1000)(hl:rs.length+rs'.length<=N)(e:ys=(rs++rs').map kG.d):WQ t0 rs N rs' (.next,[t0,.list ys,t2,t3,t4,t5,t6,t7,O,O,O,O,O,O,O,O,O,O,O])
theorem Oz{n:Nat}(t0:D)(N:Nat)(hN:N<1000):∀(ls:List (List Nat)) (rs:List kG) (t2 t3 t4 t5 t6 t7:D),(∀l∈ls,l.length<900)->rs.length+ls.length<=N->
  RP (WQ t0 rs N) (DX (n+3) ls) (fl G (zd G T 2000 (n+3)) (zj G T 2000 (n+3)) 2000 (.one 2) Pq (ls.map ds) [t0,.list (rs.map kG.d),t2,t3,t4,t5,t6,t7,O,O,O,O,O,O,O,O,O,O,O]):=by
 intro ls;induction ls with
 |nil=>intro rs t2 t3 t4 t5 t6 t7 _ hn;exact .ok (.mk nofun hn (by rw[vS]))
 |cons l ls ih=>
  intro rs t2 t3 t4 t5 t6 t7 hl hn;have hl1:=hl l u4;have hl2:∀l∈ls,l.length<900:=λx hx=>hl x (u0 _ hx);have hn1:rs.length+1+ls.length<=N:=by rw[vD,vO 1];exact hn
  clear hl hn;rw[Kl];by_cases h:tok l=[]
  ·rw[if_pos h];exact RP.to (congrArg (R.bind · (cJ G _ _ 2000 (.one 2) Pq (ls.map ds))) (Sm hl1 h)) (ih rs (ds l) _ _ _ _ _ hl2 (qA (uM (w4 _) _) hn1))
  ·rw[if_neg h];refine RP.bind (Sl (n:=n) l hl1 rs (qB (qA (qA (w4 _) (uV _ _)) hn1) hN) t0 t3 t4 t5 t6 t7 h) ?_;rintro _ _ ⟨hd,hps⟩;refine RP.mapl (ih _ (ds l) _ _ _ _ _ hl2 (by rw[uE];exact hn1)) ?_;rintro _ _ ⟨h,hl,rfl⟩;refine .mk ?_ ?_ (by rw[uN];rfl)
   ·intro x hx;rcases List.mem_cons.mp hx with e|hx
    ·rw[e];exact⟨hd,hps⟩
    ·exact h x hx
   ·rw[uE,vD,vO [_].length] at hl;exact hl
theorem K3(inv:zg->Prop):∀(xs:List D) (σ:zg),(∀σ,inv σ->∀d∈xs,∃σ',inv σ'/\turn σ d=.ok ([g d],σ'))->inv σ->∃σ',kP turn σ xs=.ok (xs.map g,σ'):=by
 intro xs;induction xs with
 |nil=>intro σ _ _;exact⟨σ,rfl⟩
 |cons x xs ih=>
  intro σ h hi;obtain⟨σ1,hi1,e1⟩:=h σ hi x (u4);obtain⟨σ2,e2⟩:=ih σ1 (λσ hσ d hd=>h σ hσ d (by exact u0 _ ‹_›)) hi1;refine⟨σ2,?_⟩;rw[W6,e1];show R.bind (kP turn σ1 xs) _=_;rw[e2];rfl
theorem FW(inv:zg->Prop)(hi:ev G cf it ρ=.ok x)(hx:zA rg x=.ok xs)(hl:xs.length<1000)
  (h0:inv (caps.map λc=>match c with|some i=>zq ρ i|none=>.none))
  (h:∀σ,inv σ->∀d∈xs,∃σ',inv σ'/\jy σ t d=.ok σ'/\ev G cf e σ'=.ok (g d)/\isDict (g d)=false):
  ev G cf (.comp caps rg it t (.elt (.lit (.bool true)) e)) ρ=.ok (.list (xs.map g)):=by
 obtain⟨σ',e'⟩:=K3 (turn:=λσ d=>R.bind (jy σ t d) λσ'=>evG G cf (.elt (.lit (.bool true)) e) σ') (g:=g) inv xs _ (λσ hσ d hd=>by
  obtain⟨σ',a,b,c,d'⟩:=h σ hσ d hd;refine⟨σ',a,?_⟩;rw[b];show R.bind (ev G cf e σ') _=_;rw[c];show(if isDict (g d)=true then R.stuck else _)=_;rw[d'];rfl) h0
 show noVe (R.bind (ev G cf it ρ) _)=_;rw[hi];show noVe (R.bind (zA rg x) _)=_;rw[hx];refine(congrArg (λz=>noVe (R.bind z λr=>if r.1.length<=zv then R.ok (w8 r.1) else .stuck)) e').trans ?_;show noVe (if(xs.map g).length<=zv then _ else _)=_;rw[if_pos (by simp[zv];exact qA (qC ‹_›) (by decide))];rfl
def BO(rs:List kG):D:=zm (rs.map kG.f)
noncomputable def AJ(rs:List kG):D:=.list (rs.map λr=>.int r.ps.length)
noncomputable def Zx(n:Nat)(ns cs:D):List kG->R Unit
 |[]=>.ok ()
 |r::rs=>R.bind (zd G T 2000 n 6 [r.b,zm r.ps,ns,cs]) λ_=>Zx n ns cs rs
theorem Ir:∀(n:Nat) (ns cs:D) (r:kG) (rs:List kG),Zx n ns cs (r::rs)=(zd G T 2000 n 6 [r.b,zm r.ps,ns,cs]).bind λ(x:D)=>Zx n ns cs rs:=λ_ _ _ _ _=>rfl
def Gi(n:Nat)(ls:List (List Nat)):R (List kG):=
 R.bind (DX n ls) λrs=>if rs.isEmpty=true\/KC (rs.map kG.f)=true then .ve else R.bind (Zx n (BO rs) (AJ rs) rs) λ_=>.ok rs
inductive LQ(t0 t1 t2 t3 t5 ns cs:D):Unit->Fl×zg->Prop
 |mk{t4 t6 t7:D}:LQ t0 t1 t2 t3 t5 ns cs () (.next,[t0,t1,t2,t3,t4,t5,t6,t7,ns,cs,O,O,O,O,O,O,O,O,O])
theorem Oe(t0 t1 t2 t3 t5 ns cs:D):∀(rs:List kG) (t4 t6 t7:D),
  RP (LQ t0 t1 t2 t3 t5 ns cs) (Zx n ns cs rs) (fl G (zd G T 2000 n) (zj G T 2000 n) 2000 (.many [4,6,7]) gT (rs.map kG.d) [t0,t1,t2,t3,t4,t5,t6,t7,ns,cs,O,O,O,O,O,O,O,O,O]):=by
 intro rs;induction rs with
 |nil=>intro t4 t6 t7;exact .ok .mk
 |cons r rs ih=>
  intro t4 t6 t7;have e:fl G (zd G T 2000 n) (zj G T 2000 n) 2000 (.many [4,6,7]) gT ((r::rs).map kG.d) [t0,t1,t2,t3,t4,t5,t6,t7,ns,cs,O,O,O,O,O,O,O,O,O]=
   R.bind (zd G T 2000 n 6 [r.b,zm r.ps,ns,cs]) λ_=>fl G (zd G T 2000 n) (zj G T 2000 n) 2000 (.many [4,6,7]) gT (rs.map kG.d) [t0,t1,t2,t3,ds r.f,t5,zm r.ps,r.b,ns,cs,O,O,O,O,O,O,O,O,O]:=by
   show R.bind (R.bind (zd G T 2000 n 6 [r.b,zm r.ps,ns,cs]) _) _=_;cases zd G T 2000 n 6 [r.b,zm r.ps,ns,cs]<;>rfl
  refine RP.to e ?_;rw[Ir];cases zd G T 2000 n 6 [r.b,zm r.ps,ns,cs] with
  |stuck=>exact .stuck
  |ve=>exact .ve
  |ok x=>exact ih _ _ _
theorem Wg{l:List Nat}{ls:List (List Nat)}(h:zag (S l) (S [10])=ls.map S)(hl:l.length<100000):Ex (ds l) (ds [10])=.ok (.list (ls.map ds)):=by
 show(if(S [10]).length=1/\(S l).length<zv then R.ok (w8 ((zag (S l) (S [10])).map .str)) else .stuck)=_;rw[if_pos ⟨rfl,by rw[WZ];unfold zv;exact qD ‹_› (by decide)⟩,h];simp
theorem RC(hl:rs.length<1000)(hρ:zq ρ 1=.list (rs.map kG.d)):ev G (zd G T 2000 n) (.comp [none,none] false (.var 1) (.one 1) (.elt (.lit (.bool true)) (.bin .idx (.var 1) (.lit (.int 0))))) ρ=.ok (BO rs):=by
 rw[FW (xs:=rs.map kG.d) (g:=λd=>match d with|.tuple (x::_)=>x|_=>.none) (λσ=>∃a b,σ=[a,b]) (by rw[E4,hρ]) rfl (by rw[uJ];exact hl) ⟨_,_,rfl⟩ ?_]
 ·rw[yU];show _=R.ok (w8 ((rs.map kG.f).map ds));rw[yU];rfl
 ·rintro σ ⟨a,b,rfl⟩ d hd';obtain⟨r,hr,rfl⟩:=List.mem_map.mp hd';exact⟨[a,r.d],⟨_,_,rfl⟩,rfl,rfl,rfl⟩
theorem NJ(hl:rs.length<1000)(hρ:zq ρ 1=.list (rs.map kG.d)):ev G (zd G T 2000 n) (.comp [none,none,none] false (.var 1) (.one 1) (.elt (.lit (.bool true)) (.un .len (.bin .idx (.var 1) (.lit (.int 1)))))) ρ=.ok (AJ rs):=by
 rw[FW (xs:=rs.map kG.d) (g:=λd=>match d with|.tuple (_::.list xs::_)=>.int xs.length|_=>.none) (λσ=>∃a b c,σ=[a,b,c]) (by rw[E4,hρ]) rfl (by rw[uJ];exact hl) ⟨_,_,_,rfl⟩ ?_]
 ·rw[yU];unfold AJ;exact congrArg (λf=>R.ok (w8 (rs.map f))) (funext λr=>congrArg (λn:Nat=>uT n) (uJ ..))
 ·rintro σ ⟨a,b,c,rfl⟩ d hd';obtain⟨r,hr,rfl⟩:=List.mem_map.mp hd';exact⟨[a,r.d,c],⟨_,_,_,rfl⟩,rfl,rfl,rfl⟩
inductive FQ:List kG->Fl×zg->Prop
 |mk{rs:List kG}{σ:zg}:FQ rs (.ret (.list (rs.map kG.d)),σ)
theorem Os(hl:rs.length<1000):
  RP FQ (if rs.isEmpty=true\/KC (rs.map kG.f)=true then .ve else R.bind (Zx (n+3) (BO rs) (AJ rs) rs) λ_=>.ok rs) (exec G (zd G T 2000 (n+3)) (zj G T 2000 (n+3)) 2000 (.seq (.ifs (.or_ (.bin .eq (.var 1) (.list .nil)) (.call 7 (.cons (.var 8) .nil))) .raise .skip)
   (.seq (.forr (.many [4,6,7]) false (.var 1) gT) (.ret (.var 1)))) [t0,.list (rs.map kG.d),t2,t3,t4,t5,t6,t7,BO rs,AJ rs,O,O,O,O,O,O,O,O,O]):=by
 have h7:zd G T 2000 (n+3) 7 [BO rs]=.ok (.bool (KC (rs.map kG.f))):=KD (n:=n+2) (rs.map kG.f) (by rw[uJ];exact hl);have h1:I3 (.list (rs.map kG.d)) (.list [])=.ok (.bool rs.isEmpty):=(DF _).trans (by induction rs using uB<;>rfl);rcases xW rs.isEmpty with he|he
 ·rw[if_pos (xS he)];rw[he] at h1;exact RP.vee (KJ (Js (ze rfl rfl h1)))
 ·rw[he] at h1;rcases xW (KC (rs.map kG.f)) with htw|htw
  ·rw[if_pos (wF htw)];rw[htw] at h7;exact RP.vee (KJ (Cf (ze rfl rfl h1) (zl rfl h7)))
  ·rw[if_neg λh=>h.elim (λh=>nomatch he.symm.trans h) λh=>nomatch htw.symm.trans h];rw[htw] at h7;exact RP.nxt (zr (Cf (ze rfl rfl h1) (zl rfl h7)) rfl) (RP.bind (Oe (n:=n+3) t0 (.list (rs.map kG.d)) t2 t3 t5 (BO rs) (AJ rs) rs t4 t6 t7) λ_ _ h=>h.casesOn (.ok .mk))
theorem R0(h:zag (S l) (S [10])=ls.map S)(hl:l.length<100000)(hls:∀l∈ls,l.length<900)(hn:ls.length<1000):
  match Gi (n+3) ls with
  |.ok rs=>zd G T 2000 (n+4) 8 [ds l]=.ok (.list (rs.map kG.d))
  |.ve=>zd G T 2000 (n+4) 8 [ds l]=.ve
  |.stuck=>True:=by
 have r:RP FQ (Gi (n+3) ls) (exec G (zd G T 2000 (n+3)) (zj G T 2000 (n+3)) 2000 Fs.body [ds l,O,O,O,O,O,O,O,O,O,O,O,O,O,O,O,O,O,O]):=by
  refine RP.nxt rfl (RP.to (congrArg (R.bind · _) (Ap (Wg h hl) rfl)) (RP.bind (Oz (n:=n) (ds l) ls.length hn ls [] .none .none .none .none .none .none hls (vC (xD _))) ?_));rintro _ _ ⟨_,hl,rfl⟩;replace hl:=qB (qA (vC (xD _).symm) hl) hn;exact RP.nxt (zw (RC hl rfl)) (RP.nxt (zw (NJ hl rfl)) (Os hl))
 rw[Uj];generalize Gi (n+3) ls=x at r;generalize exec G (zd G T 2000 (n+3)) (zj G T 2000 (n+3)) 2000 Fs.body [ds l,O,O,O,O,O,O,O,O,O,O,O,O,O,O,O,O,O,O]=y at r;clear h hl hls hn;induction r using RP.casesOn with
 |ok h=>exact h.casesOn rfl
 |ve=>rfl
 |stuck=>trivial
def jb{α:Type}(x y:R α):Prop:=x=.stuck\/y=x
theorem jb.refl{α:Type}(x:R α):jb x x:=wF rfl
theorem jb.bind{α β:Type}{x y:R α}{f g:α->R β}(h:jb x y)(hf:∀a,jb (f a) (g a)):jb (R.bind x f) (R.bind y g):=by
 rcases h with rfl|rfl
 ·exact xS rfl
 ·induction y using R.casesOn with
  |ok a=>exact hf a
  |ve=>exact wF rfl
  |stuck=>exact xS rfl
theorem jb.ite{α:Type}{c:Prop}[Decidable c]{x y x' y':R α}(h:jb x x')(h':jb y y'):jb (if c then x else y) (if c then x' else y'):=by split<;>assumption
theorem jb.noVe{α:Type}{x y:R α}(h:jb x y):jb (noVe x) (Mine.noVe y):=by
 rcases h with rfl|rfl
 ·exact xS rfl
 ·exact wF rfl
theorem EN{t t':zg->D->R (List D×zg)}(h:∀σ d,jb (t σ d) (t' σ d)):∀(ds:List D) (σ:zg),jb (kP t σ ds) (kP t' σ ds)
 |[],_=>jb.refl _
 |d::ds,σ=>(h σ d).bind λr=>(EN h ds r.2).bind λ_=>jb.refl _
section
variable{GG:List D}{cf cf' cio cio':Nat->List D->R D}
mutual
theorem zQ(h:∀f as,jb (cf f as) (cf' f as)):∀(e:PE) (ρ:zg),jb (ev GG cf e ρ) (ev GG cf' e ρ)
 |.lit _,_=>jb.refl _
 |.var _,_=>jb.refl _
 |.glob _,_=>jb.refl _
 |.un _ a,ρ=>(zQ h a ρ).bind λ_=>jb.refl _
 |.bin _ a b,ρ=>(zQ h a ρ).bind λ_=>(zQ h b ρ).bind λ_=>jb.refl _
 |.tri _ a b c,ρ=>(zQ h a ρ).bind λ_=>(zQ h b ρ).bind λ_=>(zQ h c ρ).bind λ_=>jb.refl _
 |.m1 _ a b,ρ=>(zQ h a ρ).bind λ_=>jb.ite ((zQ h b ρ).bind λ_=>jb.refl _) (jb.refl _)
 |.m2 _ a b c,ρ=>(zQ h a ρ).bind λ_=>jb.ite ((zQ h b ρ).bind λ_=>(zQ h c ρ).bind λ_=>jb.refl _) (jb.refl _)
 |.and_ a b,ρ=>(zQ h a ρ).bind λ_=>(jb.refl _).bind λ_=>jb.ite ((zQ h b ρ).bind λ_=>jb.refl _) (jb.refl _)
 |.or_ a b,ρ=>(zQ h a ρ).bind λ_=>(jb.refl _).bind λ_=>jb.ite (jb.refl _) ((zQ h b ρ).bind λ_=>jb.refl _)
 |.tup es,ρ=>(Bq h es ρ).bind λ_=>jb.refl _
 |.list es,ρ=>(Bq h es ρ).bind λ_=>jb.refl _
 |.call f es,ρ=>(Bq h es ρ).bind λds=>h f ds
 |.comp _ _ it t g,ρ=>jb.noVe ((zQ h it ρ).bind λ_=>(jb.refl _).bind λxs=>(EN (λσ d=>(jb.refl _).bind λσ'=>Qn h g σ') xs _).bind λ_=>jb.refl _)
theorem Bq(h:∀f as,jb (cf f as) (cf' f as)):∀(es:PEs) (ρ:zg),jb (evs GG cf es ρ) (evs GG cf' es ρ)
 |.nil,_=>jb.refl _
 |.cons a r,ρ=>(zQ h a ρ).bind λ_=>(Bq h r ρ).bind λ_=>jb.refl _
theorem Qn(h:∀f as,jb (cf f as) (cf' f as)):∀(g:PG) (σ:zg),jb (evG GG cf g σ) (evG GG cf' g σ)
 |.elt c e,σ=>(zQ h c σ).bind λ_=>(jb.refl _).bind λ_=>jb.ite ((zQ h e σ).bind λ_=>jb.refl _) (jb.refl _)
end
theorem Dm{t t':zg->R Bool}{b b':zg->R (Fl×zg)}(ht:∀ρ,jb (t ρ) (t' ρ))(hb:∀ρ,jb (b ρ) (b' ρ)):∀(n:Nat) (ρ:zg),jb (Cp t b n ρ) (Cp t' b' n ρ)
 |0,_=>jb.refl _
 |n+1,ρ=>(ht ρ).bind λ_=>jb.ite ((hb ρ).bind λr=>by
   obtain⟨f,σ⟩:=r;cases f
   ·exact Dm ht hb n σ
   ·exact jb.refl _
   ·exact Dm ht hb n σ
   ·exact jb.refl _) (jb.refl _)
theorem Dl{bd:zg->D->R zg}{b b':zg->R (Fl×zg)}(hb:∀ρ,jb (b ρ) (b' ρ)):∀(ds:List D) (ρ:zg),jb (AF bd b ds ρ) (AF bd b' ds ρ)
 |[],_=>jb.refl _
 |d::ds,ρ=>(jb.refl _).bind λρ'=>(hb ρ').bind λr=>by
   obtain⟨f,σ⟩:=r;cases f
   ·exact Dl hb ds σ
   ·exact jb.refl _
   ·exact Dl hb ds σ
   ·exact jb.refl _
theorem kK{wf:Nat}(h:∀f as,jb (cf f as) (cf' f as))(hi:∀f as,jb (cio f as) (cio' f as)):∀(s:PS) (ρ:zg),jb (exec GG cf cio wf s ρ) (exec GG cf' cio' wf s ρ)
 |.skip,_=>jb.refl _
 |.seq a b,ρ=>(kK h hi a ρ).bind λr=>by
   obtain⟨f,σ⟩:=r;cases f
   ·exact kK h hi b σ
   ·exact jb.refl _
   ·exact jb.refl _
   ·exact jb.refl _
 |.assign _ e,ρ=>(zQ h e ρ).bind λ_=>jb.refl _
 |.newl _ es,ρ=>(Bq h es ρ).bind λ_=>jb.refl _
 |.newd _,_=>jb.refl _
 |.app _ e,ρ=>jb.ite ((zQ h e ρ).bind λ_=>jb.refl _) (jb.refl _)
 |.put _ k v,ρ=>(zQ h v ρ).bind λ_=>(zQ h k ρ).bind λ_=>jb.refl _
 |.ifs c a b,ρ=>(zQ h c ρ).bind λ_=>(jb.refl _).bind λ_=>jb.ite (kK h hi a ρ) (kK h hi b ρ)
 |.whil c b,ρ=>Dm (λσ=>(zQ h c σ).bind λ_=>jb.refl _) (λσ=>kK h hi b σ) wf ρ
 |.forr _ _ e b,ρ=>(zQ h e ρ).bind λ_=>(jb.refl _).bind λxs=>Dl (λσ=>kK h hi b σ) xs ρ
 |.ret e,ρ=>(zQ h e ρ).bind λ_=>jb.refl _
 |.raise,_=>jb.refl _
 |.brk,_=>jb.refl _
 |.cont,_=>jb.refl _
 |.exp e,ρ=>(zQ h e ρ).bind λ_=>jb.refl _
 |.io f es _,ρ=>(Bq h es ρ).bind λds=>(jb.noVe (hi f _)).bind λ_=>jb.refl _
 |.tryv b x l,ρ=>(kK (wf:=wf) h hi b ρ).elim (λe=>.inl (by rw[I0,e])) (λe=>.inr (by rw[I0,I0,e]))
end
theorem Dc(GG:List D)(TT:List jt)(wf:Nat):∀(n f:Nat) (as:List D),jb (Ce GG TT wf n f as) (Ce GG TT wf (n+1) f as)
 |0,_,_=>xS rfl
 |n+1,f,as=>by
  show jb (match TT[f]? with|none=>_|some fd=>_) (match TT[f]? with|none=>_|some fd=>_);cases TT[f]? with
  |none=>exact jb.refl _
  |some fd=>
   refine jb.ite ((kK ?_ ?_ fd.body _).bind λ_=>jb.refl _) (jb.refl _)
   ·intro g as;exact jb.ite (jb.refl _) ((Dc GG TT wf n g as).bind λ_=>jb.refl _)
   ·intro g as;exact jb.ite ((Dc GG TT wf n g as).bind λ_=>jb.refl _) (jb.refl _)
theorem Jg(GG:List D)(TT:List jt)(wf n f:Nat)(as:List D):jb (zd GG TT wf n f as) (zd GG TT wf (n+1) f as):=
 jb.ite (jb.refl _) ((Dc GG TT wf n f as).bind λ_=>jb.refl _)
theorem Jh(h:zd GG TT wf n f as=.ok d)(hm:n<=m):zd GG TT wf m f as=.ok d:=by
 induction hm with
 |refl=>exact h
 |step _ ih=>
  rcases Jg GG TT wf _ f as with e|e
  ·rw[ih] at e;exact os e
  ·rw[e,ih]
set_option genCtorIdx false in
set_option genInjectivity false in
inductive E where
 |num(i:Nat)
 |name(x:Tok)
 |pred(a:E)
 |succ(a:E)
 |iff(x:Tok)(a b:E)
 |call(g:Bool)(a b:E)
noncomputable abbrev nF:Tok:=[102]
noncomputable abbrev nX:Tok:=[120]
noncomputable abbrev Fb:Tok:=[97,98]
abbrev fx:List Tok:=[nF,nX]
noncomputable def zB(b:Bool):Tok:=bif b then[120] else[102]
def E.kind:E->Tok
 |.num _=>Fa
 |.name _=>BU
 |.pred _=>kQ
 |.succ _=>Ab
 |.iff ..=>BR
 |.call ..=>BT
noncomputable def E.rest:E->List D
 |.num i=>[.int i]
 |.name x=>[ds x]
 |.pred a=>[.tuple (ds a.kind::a.rest)]
 |.succ a=>[.tuple (ds a.kind::a.rest)]
 |.iff x a b=>[ds x,.tuple (ds a.kind::a.rest),.tuple (ds b.kind::b.rest)]
 |.call g a b=>[ds (zB g),.list [.tuple (ds a.kind::a.rest),.tuple (ds b.kind::b.rest)]]
def E.d(e:E):D:=.tuple (ds e.kind::e.rest)
noncomputable def RI(i:Nat):List Nat:=if i=0 then[48] else if i=1 then[49] else if i=2 then[50] else[49,48]
noncomputable def E.dep:E->Nat
 |.num _=>0
 |.name _=>0
 |.pred a=>a.dep+1
 |.succ a=>a.dep+1
 |.iff _ a b=>max a.dep b.dep+1
 |.call _ a b=>max a.dep b.dep+1
noncomputable def E.wf(x y:Tok):E->Prop
 |.num i=>i=0\/i=1\/i=2\/i=10
 |.name z=>z=x\/z=y
 |.pred a=>a.wf x y
 |.succ a=>a.wf x y
 |.iff z a b=>(z=x\/z=y)/\a.wf x y/\b.wf x y
 |.call _ a b=>a.wf x y/\b.wf x y
theorem nJ(h:k+(max a b+1)<m):k+a<m:=qB (uD (qA (vV a b) (w4 _)) k) h
theorem rV(h:k+(max a b+1)<m):k+b<m:=qB (uD (qA (vP a b) (w4 _)) k) h
theorem iJ(h:k+(max a b+1)<m):k+1+b<m:=qB (by rw[vD,vO 1 b];exact uD (uL (vP a b)) k) h
theorem rW{k a b m:Nat}(h:k+(a+b)<m):k+a<m:=qB (uD (uV a b) k) h
theorem add_str(a b:List Nat)(h:a.length+b.length<1000000):E6 (ds a) (ds b)=.ok (ds (a++b)):=by
 show pR (S a++S b)=_;rw[FM];unfold pR;rw[if_pos (by rw[WZ];simp[zv];exact qA (qC ‹_›) (by decide))]
theorem Pj(a b:List Nat)(h:a.length+b.length<1000000):E6 (.str ⟨a.toArray⟩) (.str ⟨b.toArray⟩)=.ok (ds (a++b)):=add_str a b h
structure Sv(cf:Nat->List D->R D)(a:PE)(ρ:zg)(x:Tok)(n:Nat):Prop where
 h:ev G cf a ρ=.ok (ds x)
 l:x.length<=n
theorem Sv.add(h:Sv cf a ρ x n)(g:Sv cf b ρ y m)(d:Nat.blt (n+m) 1000000=true):Sv cf (.bin .add a b) ρ (x++y) (n+m):=
 ⟨ze h.h g.h (Pj x y (bs (uR h.l g.l) d)),by rw[uE];exact uR h.l g.l⟩
theorem l1:[a].length<=1:=uK 1
theorem l2:[a,b].length<=2:=uK 2
theorem l3:[a,b,c].length<=3:=uK 3
theorem l4:[a,b,c,d].length<=4:=uK 4
theorem l6:[a,b,c,d,e,f].length<=6:=uK 6
theorem z5{x y:Tok}{n m:Nat}(h:x.length<=n)(g:y.length<=m):(x++y).length<=n+m:=qA (vC uE) (uR h g)
theorem eY(h:ev GG cf a ρ=.ok (.str l))(g:ev GG cf b ρ=.ok y)(k:JM (.str l) y=.ok z):ev GG cf (.m1 .join a b) ρ=.ok z:=
 (congrArg (R.bind · _) h).trans ((congrArg (R.bind · (JM (.str l))) g).trans k)
section
variable{cf cio:Nat->List D->R D}{ρ σ:zg}{i:Nat}{s:PS}{x d:D}{xs:List D}
theorem jU(h:exec G cf cio 2000 s (ρ.set i x)=.ok (.next,σ))(g:fl G cf cio 2000 (.one i) s xs σ=r):fl G cf cio 2000 (.one i) s (x::xs) ρ=r:=(congrArg (R.bind · _) h).trans g
end
noncomputable def b2(b:Bool):Int:=bif b then 1 else 0
def A5(i k:Bool):D:=.tuple [.int (b2 i),.int (b2 k)]
def oe(i j:Bool):OB->List D
 |none=>[]
 |some b=>[.tuple [.int (b2 i),.int (b2 j),.bool b]]
def GL(A:Mx):List D:=oe false false A.1++(oe false true A.2.1++(oe true false A.2.2.1++oe true true A.2.2.2))
def Ay(x:Nd):D:=.tuple [ds (zB x.1),ds (zB x.2.1),.list (GL x.2.2)]
noncomputable def oi:OB->Int
 |none=>0
 |some b=>bif b then 2 else 1
def k9(A:Mx):D:=.tuple [.int (oi A.1),.int (oi A.2.1),.int (oi A.2.2.1),.int (oi A.2.2.2)]
def BE(x:Nd):D:=.tuple [ds (zB x.1),ds (zB x.2.1),k9 x.2.2]
noncomputable def O8(M:Mx)(i k:Bool):OB:=bif i then(bif k then M.2.2.2 else M.2.2.1) else(bif k then M.2.1 else M.1)
noncomputable def DY(M:Mx)(i k:Bool)(o:OB):Mx:=bif i then(bif k then(M.1,M.2.1,M.2.2.1,o) else(M.1,M.2.1,o,M.2.2.2)) else(bif k then(M.1,o,M.2.2) else(o,M.2))
theorem Gp(M:Mx)(i k:Bool):DY M i k (O8 M i k)=M:=by induction i using tZ<;>induction k using tZ<;>rfl
theorem at_set(M:Mx)(i k i' k':Bool)(o:OB):O8 (DY M i k o) i' k'=if jk (A5 i k) (A5 i' k') then o else O8 M i' k':=by
 induction i using tZ<;>induction k using tZ<;>induction i' using tZ<;>induction k' using tZ<;>rfl
theorem Z0(i k:Bool):Az (A5 i k)=true:=by induction i using tZ<;>induction k using tZ<;>rfl
theorem XN(i k:Bool):JP (A5 i k)=true:=by induction i using tZ<;>induction k using tZ<;>rfl
theorem Ot(i k:Bool):Az (A5 i k)=true:=by induction i using tZ<;>induction k using tZ<;>rfl
theorem VA(i k:Bool):jk (A5 i k) (A5 i k)=true:=by induction i using tZ<;>induction k using tZ<;>rfl
theorem R4(h:jk (A5 i k) (A5 i' k')=true):A5 i k=A5 i' k':=by
 induction i using tZ<;>induction k using tZ<;>induction i' using tZ<;>induction k' using tZ<;>first|rfl|exact ff h
structure EI(kvs:List (D×D))(M:Mx)(c:Nat):Prop where
 ky:∀kv∈kvs,∃i k,kv.1=A5 i k
 gt:∀i k,jY kvs (A5 i k)=(O8 M i k).map .bool
 ln:kvs.length<=c
theorem EI.up{kvs:List (D×D)}{M:Mx}{c:Nat}(h:EI kvs M c):EI kvs M (c+1):=⟨h.ky,h.gt,vN h.ln⟩
theorem Up:∀{kvs:List (D×D)},(∀kv∈kvs,∃i k,kv.1=A5 i k)->∀kv∈BI kvs (A5 i k) v,∃i k,kv.1=A5 i k:=by
 intro kvs;induction kvs with
 |nil=>intro _ kv hkv;exact⟨i,k,by rw[List.mem_singleton.mp hkv]⟩
 |cons a r ih=>
  obtain⟨a,b⟩:=a;intro h kv hkv;rw[H5] at hkv;split at hkv
  ·rcases List.mem_cons.mp hkv with e|hkv
   ·rw[e];exact h (a,b) u4
   ·exact h kv (u0 _ hkv)
  ·rcases List.mem_cons.mp hkv with e|hkv
   ·rw[e];exact h (a,b) u4
   ·exact ih (λkv h'=>h kv (u0 _ h')) kv hkv
theorem Uq:∀{kvs:List (D×D)},(BI kvs x v).length<=kvs.length+1:=by
 intro kvs;induction kvs with
 |nil=>exact uK _
 |cons a r ih=>
  obtain⟨a,b⟩:=a;rw[H5];split
  ·exact w4 _
  ·exact uL ih
theorem NN:∀{kvs:List (D×D)},(∀kv∈kvs,∃i k,kv.1=A5 i k)->jY (BI kvs (A5 i k) v) (A5 i' k')=if jk (A5 i k) (A5 i' k') then some v else jY kvs (A5 i' k'):=by
 intro kvs;induction kvs with
 |nil=>intro _;rfl
 |cons a r ih=>
  obtain⟨a,b⟩:=a;intro h;obtain⟨p,q,e⟩:=h (a,b) u4;cases(show a=A5 p q from e);rw[H5];by_cases h1:jk (A5 p q) (A5 i k)=true
  ·rw[if_pos h1,BH,BH,R4 h1];by_cases h2:jk (A5 i k) (A5 i' k')=true
   ·rw[if_pos h2,if_pos h2]
   ·rw[if_neg h2,if_neg h2,if_neg h2]
  ·rw[if_neg h1,BH,BH,ih λkv h'=>h kv (u0 _ h')];by_cases h2:jk (A5 p q) (A5 i' k')=true
   ·rw[if_pos h2,if_pos h2,if_neg];intro h3;rw[R4 h2,<-R4 h3] at h1;exact h1 (VA i k)
   ·rw[if_neg h2,if_neg h2]
theorem EI.kind(h:EI kvs M c)(i k:Bool):(kvs.all λkv=>zX kv.1 (A5 i k))=true:=
 uF.mpr λkv hkv=>by obtain⟨p,q,e⟩:=h.ky kv hkv;rw[e];rfl
theorem EI.put(h:EI kvs M c)(hc:c<1000)(i k b:Bool):GQ (.dict kvs) (A5 i k) (.bool b)=.ok (.dict (BI kvs (A5 i k) (.bool b)))/\EI (BI kvs (A5 i k) (.bool b)) (DY M i k (some b)) (c+1):=by
 constructor
 ·show(if(JP (A5 i k)&&!isDict (.bool b)&&decide (kvs.length<zv)&&(kvs.all λkv=>zX kv.1 (A5 i k)))=true then _ else _)=_;rw[XN,h.kind,decide_eq_true (qB h.ln (uS hc (by decide)))];rfl
 ·refine⟨Up h.ky,λi' k'=>?_,qA Uq (uL h.ln)⟩;rw[NN h.ky,at_set,h.gt];split<;>rfl
theorem EI.get(h:EI kvs M c)(i k:Bool):Hm (.dict kvs) (A5 i k) (.bool false)=.ok (.bool ((O8 M i k).getD false)):=by
 show(if(Az (A5 i k)&&!isDict (.bool false)&&(kvs.all λkv=>zX kv.1 (A5 i k)))=true then R.ok ((jY kvs (A5 i k)).getD (.bool false)) else .stuck)=_;rw[Z0,h.kind,h.gt];cases O8 M i k<;>rfl
theorem EI.nil:EI [] (none,none,none,none) 0:=⟨λkv h=>absurd h vJ,λi k=>by induction i using tZ<;>induction k using tZ<;>rfl,uK _⟩
inductive FL(cf cio:Nat->List D->R D)(g:Tg)(s:PS)(xs:List D)(ρ:zg)(Q:zg->Prop):Prop
 |mk(σ:zg)(h:fl G cf cio 2000 g s xs ρ=.ok (.next,σ))(q:Q σ)
section
variable{cf cio:Nat->List D->R D}{g:Tg}{s:PS}{xs:List D}{ρ ρ' σ:zg}{Q P:zg->Prop}{x:D}
theorem FL.nil(h:Q ρ):FL cf cio g s [] ρ Q:=⟨ρ,rfl,h⟩
theorem FL.cons(hb:jy ρ g x=.ok ρ')(h:exec G cf cio 2000 s ρ'=.ok (.next,σ))(k:FL cf cio g s xs σ Q):FL cf cio g s (x::xs) ρ Q:=by
 obtain⟨τ,e,q⟩:=k;exact⟨τ,(congrArg (R.bind · _) hb).trans ((congrArg (R.bind · _) h).trans e),q⟩
theorem FL.mono(h:FL cf cio g s xs ρ P)(k:∀σ,P σ->Q σ):FL cf cio g s xs ρ Q:=by
 obtain⟨τ,e,q⟩:=h;exact⟨τ,e,k τ q⟩
end
theorem X6(h:ev G cf b ρ=.ok x)(g:ev G cf a ρ=.ok y)(k:GQ (zq ρ i) y x=.ok l):exec G cf cio 2000 (.put i a b) ρ=.ok (.next,ρ.set i l):=
 (congrArg (R.bind · _) h).trans ((congrArg (R.bind · (Xy ρ i x)) g).trans (congrArg (R.bind · λl=>R.ok (Fl.next,ρ.set i l)) k))
theorem oL(h:ev G cf a ρ=.ok x)(d:isDict x=true)(g:ev G cf b ρ=.ok y)(k:ev G cf c ρ=.ok z)(l:Hm x y z=.ok w):ev G cf (.m2 .get a b c) ρ=.ok w:=by
 refine(congrArg (R.bind · _) h).trans ?_;show(if isDict x=true then R.bind (ev G cf b ρ) (gC G cf ρ .get c x) else .stuck)=_;rw[if_pos d];exact(congrArg (R.bind · _) g).trans ((congrArg (R.bind · (Hm x y)) k).trans l)
theorem NO(h:ev G cf a ρ=.ok (.bool u))(g:ev G cf b ρ=.ok (.bool v)):ev G cf (.or_ a b) ρ=.ok (.bool (u||v)):=by
 induction u using tZ with
 |false=>exact Cf h g
 |true=>exact Js h
def SY(M:Mx)(i j:Bool)(o:OB)(m k:Bool)(o':OB):Mx:=if m=j then DY M i k (C7 (O8 M i k) (B2 o o')) else M
theorem HA(o:OB):C7 o none=o:=by induction o using uW<;>rfl
theorem lG(M:Mx)(i j:Bool)(o:OB)(m k:Bool):SY M i j o m k none=M:=by
 unfold SY;split
 ·rw[show B2 o none=none by induction o using uW<;>rfl,HA,Gp]
 ·rfl
theorem IQ(M:Mx)(i j:Bool)(m k:Bool)(o':OB):SY M i j none m k o'=M:=by
 unfold SY;split
 ·rw[show B2 none o'=none by induction o' using uW<;>rfl,HA,Gp]
 ·rfl
inductive ES(x0 x1:D)(i j s:Bool)(M:Mx)(c:Nat):zg->Prop
 |mk(kvs:List (D×D))(t6 t7 t8:D)(h:EI kvs M c):ES x0 x1 i j s M c [x0,x1,.dict kvs,.int (b2 i),.int (b2 j),.bool s,t6,t7,t8,O,O]
theorem dZ(m j:Bool):decide (b2 m=b2 j)=decide (m=j):=by induction m using tZ<;>induction j using tZ<;>rfl
theorem ZZ(o:OB)(s t:Bool):C7 o (some (s||t))=some (o.getD false||(s||t)):=by induction o using uW<;>rfl
section
variable{cf cio:Nat->List D->R D}{x0 x1:D}{i j s:Bool}{M:Mx}{c:Nat}{ρ:zg}{Q:zg->Prop}{xs:List D}
theorem Uf(m k t:Bool){t6 t7 t8:D}{kvs:List (D×D)}(hc:c<1000)(h:EI kvs M c):∃kvs',EI kvs' (SY M i j (some s) m k (some t)) (c+1)/\
  exec G cf cio 2000 eT [x0,x1,.dict kvs,.int (b2 i),.int (b2 j),.bool s,.int (b2 m),.int (b2 k),.bool t,O,O]=.ok (.next,[x0,x1,.dict kvs',.int (b2 i),.int (b2 j),.bool s,.int (b2 m),.int (b2 k),.bool t,O,O]):=by
 have hd:=dZ m j;unfold SY;by_cases e:m=j
 ·rw[if_pos e];rw[decide_eq_true e] at hd;obtain⟨p1,p2⟩:=h.put hc i k ((O8 M i k).getD false||(s||t));refine⟨_,?_,zu (ze rfl rfl (congrArg (λb=>R.ok (vE b)) hd)) (X6 (NO (oL rfl rfl rfl rfl (h.get i k)) (NO (u:=s) (v:=t) rfl rfl)) rfl p1)⟩;rw[show B2 (some s) (some t)=some (s||t) from rfl,ZZ];exact p2
 ·rw[if_neg e];rw[decide_eq_false e] at hd;exact⟨kvs,h.up,zr (ze rfl rfl (congrArg (λb=>R.ok (vE b)) hd)) rfl⟩
theorem HZ(hc:c<1000)(m k:Bool)(o:OB)(h:ES x0 x1 i j s M c ρ)(g:∀σ,ES x0 x1 i j s (SY M i j (some s) m k o) (c+1) σ->FL cf cio (.many [6,7,8]) eT xs σ Q):
  FL cf cio (.many [6,7,8]) eT (oe m k o++xs) ρ Q:=by
 obtain⟨kvs,t6,t7,t8,hb⟩:=h;induction o using uW with
 |none=>exact g _ ⟨kvs,t6,t7,t8,by rw[lG];exact hb.up⟩
 |some t=>
  obtain⟨kvs',h1,h2⟩:=Uf (cf:=cf) (cio:=cio) (x0:=x0) (x1:=x1) (i:=i) (j:=j) (s:=s) m k t (t6:=t6) (t7:=t7) (t8:=t8) hc hb;exact FL.cons rfl h2 (g _ ⟨kvs',_,_,_,h1⟩)
def mZ(M:Mx)(i j:Bool)(o:OB)(B:Mx):Mx:=SY (SY (SY (SY M i j o false false B.1) i j o false true B.2.1) i j o true false B.2.2.1) i j o true true B.2.2.2
theorem eU(hc:c<900)(B:Mx)(h:ES x0 x1 i j s M c ρ):FL cf cio (.many [6,7,8]) eT (GL B) ρ (ES x0 x1 i j s (mZ M i j (some s) B) (c+4)):=by
 unfold GL;refine HZ (uS hc (by decide)) _ _ _ h λσ h=>HZ (by exact qB ‹_› (by decide)) _ _ _ h λσ h=>HZ (by(apply bs;(repeat' first|exact qC ‹_›|assumption|exact uK 0|exact uK 1|apply uR);rfl)) _ _ _ h λσ h=>?_;rw[<-vS (oe true true B.2.2.2)];exact HZ (by(apply bs;(repeat' first|exact qC ‹_›|assumption|exact uK 0|exact uK 1|apply uR);rfl)) _ _ _ h λσ h=>FL.nil h
end
inductive dL(x0 x1:D)(M:Mx)(c:Nat):zg->Prop
 |mk(kvs:List (D×D))(t3 t4 t5 t6 t7 t8:D)(h:EI kvs M c):dL x0 x1 M c [x0,x1,.dict kvs,t3,t4,t5,t6,t7,t8,O,O]
section
variable{cf cio:Nat->List D->R D}{x0:D}{M:Mx}{c:Nat}{ρ:zg}{Q:zg->Prop}{xs:List D}{y:Nd}
theorem fL(i j:Bool)(B:Mx):mZ M i j none B=M:=by unfold mZ;rw[IQ,IQ,IQ,IQ]
theorem HX(hc:c<900)(i j:Bool)(o:OB)(h:dL x0 (Ay y) M c ρ)(g:∀σ,dL x0 (Ay y) (mZ M i j o y.2.2) (c+4) σ->FL cf cio (.many [3,4,5]) mS xs σ Q):
  FL cf cio (.many [3,4,5]) mS (oe i j o++xs) ρ Q:=by
 obtain⟨kvs,t3,t4,t5,t6,t7,t8,hb⟩:=h;induction o using uW with
 |none=>exact g _ ⟨kvs,t3,t4,t5,t6,t7,t8,by rw[fL];exact hb.up.up.up.up⟩
 |some s=>
  obtain⟨σ,e,q⟩:=eU (cf:=cf) (cio:=cio) hc y.2.2 (ES.mk (x0:=x0) (x1:=Ay y) (i:=i) (j:=j) (s:=s) kvs t6 t7 t8 hb);refine FL.cons rfl (Ap (xs:=GL y.2.2) rfl e) (g _ ?_);obtain⟨kvs',t6',t7',t8',hb'⟩:=q;exact⟨kvs',_,_,_,_,_,_,hb'⟩
theorem YD(A:Mx)(h:dL x0 (Ay y) (none,none,none,none) 0 ρ):FL cf cio (.many [3,4,5]) mS (GL A) ρ (dL x0 (Ay y) (A4 A y.2.2) 16):=by
 unfold GL;refine HX (by decide) _ _ _ h λσ h=>HX (by decide) _ _ _ h λσ h=>HX (by decide) _ _ _ h λσ h=>?_;rw[<-vS (oe true true A.2.2.2)];exact HX (by decide) _ _ _ h λσ h=>FL.nil h
end
def ks(i k:Bool):OB->List D
 |none=>[]
 |some _=>[A5 i k]
def sk(A:Mx):List D:=ks false false A.1++(ks false true A.2.1++(ks true false A.2.2.1++ks true true A.2.2.2))
theorem lE(h:EI kvs M c):Gs kvs=.ok (.list (sk M)):=by
 have h0:(kvs.all λkv=>Az kv.1)=true:=uF.mpr λkv hkv=>by obtain⟨p,q,e⟩:=h.ky kv hkv;rw[e];exact Ot p q
 unfold Gs;rw[if_pos h0];refine congrArg (λl=>R.ok (w8 l)) ?_;have e0:jY kvs (AG (0,0))=M.1.map .bool:=h.gt false false;have e1:jY kvs (AG (0,1))=M.2.1.map .bool:=h.gt false true;have e2:jY kvs (AG (1,0))=M.2.2.1.map .bool:=h.gt true false;have e3:jY kvs (AG (1,1))=M.2.2.2.map .bool:=h.gt true true;have key:∀(p:Int×Int) (i k:Bool) (o:OB) (l:List (Int×Int)),jY kvs (AG p)=o.map .bool->AG p=A5 i k->((p::l).filter λp=>(jY kvs (AG p)).isSome).map AG=ks i k o++(l.filter λp=>(jY kvs (AG p)).isSome).map AG:=by
  intro p i k o l hd hp;rw[List.filter_cons,hd];induction o using uW with
  |none=>rfl
  |some b=>show(p::_).map AG=_;rw[vZ,hp];rfl
 unfold Cy sk;rw[key _ false false _ _ e0 rfl,key _ false true _ _ e1 rfl,key _ true false _ _ e2 rfl,key _ true true _ _ e3 rfl];exact congrArg _ (congrArg _ (congrArg _ (vS _)))
inductive AS(x0:D)(out:List D):zg->Prop
 |mk(t:D):AS x0 out [x0,.list out,t,O]
theorem HS(h:EI kvs M c)(hl:out.length<1000)(i k:Bool)(ho:O8 M i k=o)(hs:AS (.dict kvs) out ρ)(g:∀σ,AS (.dict kvs) (out++oe i k o) σ->FL cf cio (.one 2) mN xs σ Q):FL cf cio (.one 2) mN (ks i k o++xs) ρ Q:=by
 obtain⟨t⟩:=hs;have hg:=h.gt i k;rw[ho] at hg;induction o using uW with
 |none=>exact g _ (by rw[show oe i k none=[] from rfl,vS];exact⟨t⟩)
 |some b=>
  have hx:jd (.dict kvs) (A5 i k)=.ok (.bool b):=by
   show(if JP (A5 i k)=true then ji (jY kvs (A5 i k)) else .stuck)=_;rw[XN,hg];rfl
  exact FL.cons rfl (D7 (zV (zi rfl (zi rfl (zi (ze rfl rfl hx) rfl))) rfl) rfl (uS hl (by decide)) rfl rfl) (g _ ⟨_⟩)
theorem LA(i j:Bool)(o:OB):(oe i j o).length<=1:=by
 induction o using uW
 ·exact uZ _
 ·exact uK _
theorem G1(h:EI kvs M c):zd G T 2000 (n+1) 9 [.dict kvs]=.ok (.list (GL M)):=by
 refine(P9 ..).trans ?_;have l1:=LA false false M.1;have l2:=LA false true M.2.1;have l3:=LA true false M.2.2.1;have k:FL (zd G T 2000 n) (zj G T 2000 n) (.one 2) mN (sk M) [.dict kvs,.list [],O,O] (AS (.dict kvs) (GL M)):=by
  unfold sk;refine HS h (by decide) false false rfl ⟨_⟩ λσ hs=>HS h (by simp;exact qB ‹_› (by decide)) false true rfl hs λσ hs=>HS h (by simp;(apply bs;(repeat' first|exact qC ‹_›|assumption|exact uK 0|exact uK 1|apply uR);rfl)) true false rfl hs λσ hs=>?_;rw[<-vS (ks true true M.2.2.2)];refine HS h (by simp;(apply bs;(repeat' first|exact qC ‹_›|assumption|exact uK 0|exact uK 1|apply uR);rfl)) true true rfl hs λσ hs=>FL.nil ?_;unfold GL;rw[<-uN,<-uN];exact hs
 obtain⟨σ,e,q⟩:=k;obtain⟨t⟩:=q;exact Rt.fin (Rt.nxt rfl (Rt.nxt (Ap (BJ rfl (lE h)) e) (Rt.ret rfl)))
theorem Y0(h:exec G cf cio 2000 s ρ=.ve):R.bind (exec G cf cio 2000 s ρ) kZ=.ve:=congrArg (R.bind · _) h
theorem Cq(a b:Bool):decide (S (zB a)=S (zB b))=decide (a=b):=by induction a using tZ<;>induction b using tZ<;>rfl
theorem De(h:x.2.1=y.1):zd G T 2000 (n+2) 10 [Ay x,Ay y]=.ok (Ay (x.1,y.2.1,A4 x.2.2 y.2.2)):=by
 refine(Hc ..).trans ?_;obtain⟨σ,e,q⟩:=YD (cf:=zd G T 2000 (n+1)) (cio:=zj G T 2000 (n+1)) (x0:=Ay x) (y:=y) x.2.2 ⟨[],O,O,O,O,O,O,EI.nil⟩;obtain⟨kvs,t3,t4,t5,t6,t7,t8,hb⟩:=q;have hn:FA (ds (zB x.2.1)) (ds (zB y.1))=.ok (.bool false):=by rw[FB,Cq,decide_eq_true h];rfl
 exact Rt.fin (Rt.iff (ze rfl rfl hn) (Rt.nxt rfl (Rt.nxt (Ap (xs:=GL x.2.2) rfl e) (Rt.ret (zV (zi rfl (zi rfl (zi (zl rfl (G1 hb)) rfl))) rfl)))))
theorem K5(h:x.2.1≠y.1):zd G T 2000 (n+2) 10 [Ay x,Ay y]=.ve:=by
 refine(Hc ..).trans ?_;have hn:FA (ds (zB x.2.1)) (ds (zB y.1))=.ok (.bool true):=by rw[FB,Cq,decide_eq_false h];rfl
 exact Y0 (KJ (ze rfl rfl hn))
theorem E8(h:a=true)(k:b=true):(a&&b)=true:=by rw[h,k];rfl
def YV(i j c:Bool):D:=.tuple [.int (b2 i),.int (b2 j),.bool c]
theorem Pp(h:(b2 i==b2 j)=true):i=j:=by induction i using tZ<;>induction j using tZ<;>first|rfl|exact ff h
theorem L5(i:Bool):(b2 i==b2 i)=true:=beq_self_eq_true _
theorem YW(h:vK (YV i j c) (YV i' j' c')=true):YV i j c=YV i' j' c':=by
 have h:((b2 i==b2 i')&&((b2 j==b2 j')&&((c==c')&&true)))=true:=h;rw[Pp (jg h),Pp (jg (z7 h)),eq_of_beq (jg (z7 (z7 h)))]
theorem Uu(i j c:Bool):vK (YV i j c) (YV i j c)=true:=E8 (L5 i) (E8 (L5 j) (E8 (beq_self_eq_true c) rfl))
def Ql(d:D):Prop:=∃i j c,d=YV i j c
theorem IB(i j:Bool)(o:OB):∀d∈oe i j o,Ql d:=by
 intro d hd;induction o using uW with
 |none=>exact absurd hd vJ
 |some b=>exact⟨i,j,b,List.mem_singleton.mp hd⟩
theorem DE(A:Mx):∀d∈GL A,Ql d:=by
 intro d hd;rcases List.mem_append.mp hd with hd|hd
 ·exact IB _ _ _ d hd
 ·rcases List.mem_append.mp hd with hd|hd
  ·exact IB _ _ _ d hd
  ·rcases List.mem_append.mp hd with hd|hd<;>exact IB _ _ _ d hd
theorem Ju:∀{b:List D},(∀d∈a,Ql d)->(∀d∈b,Ql d)->xM a b=true->a=b:=by
 induction a with
 |nil=>intro b _ _ h;induction b using uB with
  |nil=>rfl
  |cons=>exact ff h
 |cons x a ih=>intro b ha hb h;induction b using uB with
  |nil=>exact ff h
  |cons y b=>
   obtain⟨i,j,c,rfl⟩:=ha x u4;obtain⟨i',j',c',rfl⟩:=hb y u4;rw[YW (jg h),ih (λd hd=>ha d (u0 _ hd)) (λd hd=>hb d (u0 _ hd)) (z7 h)]
theorem Jw:(∀d∈l,Ql d)->xM l l=true:=by
 induction l with
 |nil=>intro _;rfl
 |cons d l ih=>
  intro h;obtain⟨i,j,c,rfl⟩:=h d u4;exact E8 (Uu i j c) (ih λe he=>h e (u0 _ he))
noncomputable def lk(i j:Int):List D->OB
 |.tuple [.int a,.int b,.bool c]::r=>if a=i/\b=j then some c else lk i j r
 |_=>none
theorem Rl(A:Mx):(lk 0 0 (GL A),lk 0 1 (GL A),lk 1 0 (GL A),lk 1 1 (GL A))=A:=by
 rcases A with⟨_|a,_|b,_|c,_|d⟩<;>rfl
theorem Uv(h:GL A=GL B):A=B:=by rw[<-Rl A,h,Rl]
theorem FD(h:(S (zB a)==S (zB b))=true):a=b:=by induction a using tZ<;>induction b using tZ<;>first|rfl|exact ff h
theorem F4(x y:Nd):vK (Ay x) (Ay y)=(x==y):=by
 rw[xX,beq_iff_eq];constructor
 ·intro h;have h:((S (zB x.1)==S (zB y.1))&&((S (zB x.2.1)==S (zB y.2.1))&&(xM (GL x.2.2) (GL y.2.2)&&true)))=true:=h;exact Prod.ext (FD (jg h)) (Prod.ext (FD (jg (z7 h))) (Uv (Ju (DE _) (DE _) (jg (z7 (z7 h))))))
 ·rintro rfl;exact E8 (beq_self_eq_true (S _)) (E8 (beq_self_eq_true (S _)) (E8 (Jw (DE _)) rfl))
theorem IC(h:(oi a==oi b)=true):a=b:=by rcases a with _|_|_<;>rcases b with _|_|_<;>first|rfl|exact ff h
theorem Ly(A B:Mx):vK (k9 A) (k9 B)=(A==B):=by
 rw[xX,beq_iff_eq];constructor
 ·intro h;have h:((oi A.1==oi B.1)&&((oi A.2.1==oi B.2.1)&&((oi A.2.2.1==oi B.2.2.1)&&((oi A.2.2.2==oi B.2.2.2)&&true))))=true:=h;exact Prod.ext (IC (jg h)) (Prod.ext (IC (jg (z7 h))) (Prod.ext (IC (jg (z7 (z7 h)))) (IC (jg (z7 (z7 (z7 h)))))))
 ·rintro rfl;exact E8 (beq_self_eq_true _) (E8 (beq_self_eq_true _) (E8 (beq_self_eq_true _) (E8 (beq_self_eq_true _) rfl)))
theorem S0(x y:Nd):vK (BE x) (BE y)=(x==y):=by
 rw[xX,beq_iff_eq];constructor
 ·intro h;have h:((S (zB x.1)==S (zB y.1))&&((S (zB x.2.1)==S (zB y.2.1))&&(vK (k9 x.2.2) (k9 y.2.2)&&true)))=true:=h;exact Prod.ext (FD (jg h)) (Prod.ext (FD (jg (z7 h))) (eq_of_beq ((Ly _ _).symm.trans (jg (z7 (z7 h))))))
 ·rintro rfl;exact E8 (beq_self_eq_true (S _)) (E8 (beq_self_eq_true (S _)) (E8 ((Ly _ _).trans (beq_self_eq_true _)) rfl))
theorem K6(a b:List D):vG (a++b)=max (vG a) (vG b):=by
 induction a with
 |nil=>exact(Nat.max_eq_right (uZ _)).symm
 |cons x a ih=>show max (v7 x) (vG (a++b))=max (max (v7 x) (vG a)) _;rw[ih];exact(Nat.max_assoc _ _ _).symm
theorem Iz(i j:Bool)(o:OB):vG (oe i j o)<=1:=by
 induction o using uW with
 |none=>exact uZ _
 |some b=>exact uK 1
theorem F3(x:Nd):v7 (Ay x)<=3:=by
 have h:vG (GL x.2.2)<=1:=by
  unfold GL;rw[K6,K6,K6];exact Nat.max_le.mpr ⟨Iz ..,Nat.max_le.mpr ⟨Iz ..,Nat.max_le.mpr ⟨Iz ..,Iz ..⟩⟩⟩
 exact uL (Nat.max_le.mpr ⟨uZ _,Nat.max_le.mpr ⟨uZ _,Nat.max_le.mpr ⟨uL h,uZ _⟩⟩⟩)
theorem SZ(x:Nd):v7 (BE x)<=3:=by show 2<=3;decide
theorem He(ha:isDict a=false)(hb:isDict b=false)(h:v7 a<=4000):I3 a b=.ok (.bool (vK a b)):=by
 show(if(isDict a||isDict b||deep a b)=true then R.stuck else R.ok (vE (vK a b)))=_;rw[ha,hb,if_neg];unfold deep;rw[decide_eq_false (Nat.not_lt.mpr (qA (Nat.min_le_left _ _) h))];exact λh=>ff h
theorem FE{x:D}(hd:isDict x=false)(h:v7 x<=4000)(out:List D):Ct x (.list out)=.ok (.bool !(out.any λy=>vK y x)):=by
 show R.bind (if(isDict x||decide (4000<min (vG out) x.depth))=true then R.stuck else R.ok (out.any λy=>vK y x)) _=_;rw[hd,if_neg]
 ·rfl
 ·rw[decide_eq_false (Nat.not_lt.mpr (qA (zaw _ _) h))];exact λh=>ff h
theorem any_map{f:Nd->D}(hf:∀x y,vK (f x) (f y)=(x==y))(x:Nd)(kw:KW):((kw.map λp=>f p.1).any λy=>vK y (f x))=NX kw x:=by
 rw[List.any_map];exact congrArg (List.any kw) (funext λp=>hf _ _)
inductive Nx(cf cio:Nat->List D->R D)(s:PS)(ρ:zg)(Q:zg->Prop):Prop
 |mk(σ:zg)(h:exec G cf cio 2000 s ρ=.ok (.next,σ))(q:Q σ)
section
variable{cf cio:Nat->List D->R D}{g:Tg}{s:PS}{xs:List D}{ρ ρ' σ:zg}{Q P:zg->Prop}{x:D}
theorem Qv{i N:Nat}{P:Nat->zg->Prop}(hs:∀k ρ,k<N->P k ρ->Nx cf cio s (ρ.set i (.int k)) (P (k+1))):∀(n k:Nat) {ρ:zg},k+n=N->P k ρ->FL cf cio (.one i) s ((zaC k n).map λ(k:Nat)=>uT k) ρ (P N):=by
 intro n;induction n with
 |zero=>intro k ρ hk h;exact FL.nil (by rw[<-hk];exact h)
 |succ n ih=>
  intro k ρ hk h;obtain⟨σ,e,q⟩:=hs k ρ (by exact zaK (zaW (yX n)) hk) h;exact FL.cons rfl e (ih (k+1) (by exact(xC k n).trans hk) q)
theorem IY{i j:Nat}{P:Nat->zg->Prop}{xs:List D}(hs:∀k ρ,k<xs.length->P k ρ->Nx cf cio s (ρ.set i (.int k)) (P (k+1)))(hx:zq ρ j=.list xs)(hl:xs.length<=100000)(h:P 0 ρ):Nx cf cio (.forr (.one i) true (.un .len (.var j)) s) ρ (P xs.length):=by
 obtain⟨σ,e,q⟩:=Qv hs xs.length 0 (xD _) h;refine⟨σ,?_,q⟩;have hv:ev G cf (.un .len (.var j)) ρ=.ok (.int (xs.length:Nat)):=by
  refine BJ (x:=.list xs) ?_ rfl;show R.ok (zq ρ j)=_;rw[hx]
 refine(congrArg (R.bind · _) hv).trans ?_;refine(Il hl).trans ?_;rw[zbo];exact e
theorem Nx.seq(h:Nx cf cio s ρ P)(k:∀σ,P σ->Nx cf cio t σ Q):Nx cf cio (.seq s t) ρ Q:=by
 obtain⟨σ,e,p⟩:=h;obtain⟨τ,e2,q⟩:=k σ p;exact⟨τ,zh e e2,q⟩
end
noncomputable def wD(w:List Nat):D:=.list (w.map λ(k:Nat)=>uT k)
def Pb(kw:KW):List D:=kw.map λp=>Ay p.1
def WM(kw:KW):List D:=kw.map λp=>wD p.2
def jh(st:List Nd):D:=.list (st.map Ay)
theorem AM{α:Type}{f:α->D}{l:List α}{k:Nat}{a:α}(h:l[k]?=some a):jd (.list (l.map f)) (.int k)=.ok (f a):=by
 rw[Bt,v6,h];rfl
theorem Tr{w:List Nat}{k:Nat}(h:w.length<1000):E6 (wD w) (.list [.int k])=.ok (wD (w++[k])):=by
 show Vg (w.map (λ(k:Nat)=>uT k)++[.int k])=_;unfold Vg;rw[if_pos]
 ·unfold wD;rw[vU];rfl
 ·rw[uE,uJ];exact qA (Nat.succ_le_of_lt h) (by decide)
def WL(kw:KW):Prop:=∀p∈kw,p.2.length<=kw.length
theorem WL.ad{kw:KW}{c:Nd×List Nat}(h:WL kw)(hc:c.2.length<=kw.length+1):WL (ad1 kw c):=by
 unfold ad1;split
 ·exact h
 ·intro p hp;rw[uE];rcases List.mem_append.mp hp with hp|hp
  ·exact vN (h p hp)
  ·rw[List.mem_singleton.mp hp];exact hc
section
variable{N:Nat}{st:List Nd}
abbrev aE(st:List Nd)(kw:KW)(t3 t4 t5:D):zg:=[jh st,.list (Pb kw),.list (WM kw),t3,t4,t5,O,O,O]
theorem En(kw:KW):(Pb kw).length=kw.length:=uJ _
theorem Tv(kw:KW):(WM kw).length=kw.length:=uJ _
theorem Q6(kw:KW)(x:Nd):Ct (Ay x) (.list (Pb kw))=.ok (.bool !(NX kw x)):=by
 rw[FE rfl (qA (F3 x) (by decide))];exact congrArg (λb=>R.ok (vE !b)) (any_map F4 x kw)
theorem Q7(kw:KW)(c:Nd×List Nat):Pb (kw++[c])=Pb kw++[Ay c.1]:=vU
theorem Tu(kw:KW)(c:Nd×List Nat):WM (kw++[c])=WM kw++[wD c.2]:=vU
noncomputable def oW(st:List Nd)(k:Nat):KW:=match st[k]? with|some s=>[(s,[k])]|none=>[]
inductive A0(st:List Nd)(k:Nat):zg->Prop
 |mk(kw:KW)(t3:D)(e:kw=AI [] ((v5 k).flatMap (oW st)))(w:WL kw)(n:(kw.map (·.1)).Nodup):A0 st k (aE st kw t3 .none .none)
theorem Ic{α:Type}(f:Nat->List α)(k:Nat):(v5 (k+1)).flatMap f=(v5 k).flatMap f++f k:=by
 rw[List.range_succ,List.flatMap_append];exact congrArg _ (vS _)
theorem TJ{k:Nat}{ρ:zg}(hk:k<st.length)(h:A0 st k ρ):Nx (zd G T 2000 N) (zj G T 2000 N) aI (ρ.set 3 (.int k)) (A0 st (k+1)):=by
 obtain⟨kw,t3,e,w,n⟩:=h;have hs:=uA hk;have hi:jd (jh st) (.int k)=.ok (Ay st[k]):=AM hs;have hn:=Q6 kw st[k];have e2:AI [] ((v5 (k+1)).flatMap (oW st))=ad1 kw (st[k],[k]):=by
  rw[Ic,Cb,<-e];unfold oW;rw[hs];rfl
 have w2:WL (ad1 kw (st[k],[k])):=w.ad (uL (uZ _));have n2:=Eh (c:=(st[k],[k])) n;have hl:kw.length<1000000:=qB (Eo n) (by decide);unfold ad1 at e2 w2 n2;cases hh:NX kw st[k] with
 |true=>
  rw[hh] at hn;rw[show NX kw (st[k],[k]).1=true from hh,if_pos rfl] at e2 w2 n2;exact⟨_,zr (ze (ze rfl rfl hi) rfl hn) rfl,⟨kw,_,e2.symm,w2,n2⟩⟩
 |false=>
  rw[hh] at hn;rw[show NX kw (st[k],[k]).1=false from hh,if_neg (by decide)] at e2 w2 n2;exact⟨_,zu (ze (ze rfl rfl hi) rfl hn) (zh (D7 (ze rfl rfl hi) rfl (by rw[En];exact hl) rfl (Q7 kw (st[k],[k])).symm) (D7 (Dg rfl rfl) rfl (by rw[Tv];exact hl) rfl (Tu kw (st[k],[k])).symm)),⟨_,_,e2.symm,w2,n2⟩⟩
inductive A1(st:List Nd)(kw:KW)(i:Nat)(p:Nd×List Nat)(k:Nat):zg->Prop
 |mk(kw1:KW)(t3 t5:D)(e:kw1=AI kw (Fo st p (v5 k)))(w:WL kw1)(n:(kw1.map (·.1)).Nodup):A1 st kw i p k (aE st kw1 t3 (.int i) t5)
theorem TK{kw:KW}{i k:Nat}{p:Nd×List Nat}{ρ:zg}(hp:kw[i]?=some p)(hk:k<st.length)(h:A1 st kw i p k ρ):Nx (zd G T 2000 (N+2)) (zj G T 2000 (N+2)) aB (ρ.set 3 (.int k)) (A1 st kw i p (k+1)):=by
 obtain⟨kw1,t3,t5,e,w,n⟩:=h;have hs:=uA hk;have hi:jd (jh st) (.int k)=.ok (Ay st[k]):=AM hs;have hp1:kw1[i]?=some p:=by
  rw[e];exact(DQ (Au _ _) (List.getElem?_eq_some_iff.mp hp).1).trans hp
 have hkn:jd (.list (Pb kw1)) (.int i)=.ok (Ay p.1):=AM (f:=λq:Nd×List Nat=>Ay q.1) hp1;have hwy:jd (.list (WM kw1)) (.int i)=.ok (wD p.2):=AM (f:=λq:Nd×List Nat=>wD q.2) hp1;have e2:AI kw (Fo st p (v5 (k+1)))=AI kw1 (PP st p k):=by
  unfold Fo;rw[Ic,Cb];unfold Fo at e;rw[<-e]
 have hl:kw1.length<1000000:=qB (Eo n) (by decide);have hpl:=w p (v9 hp1);have hd:I3 (ds (zB st[k].1)) (ds (zB p.1.2.1))=.ok (.bool (decide (st[k].1=p.1.2.1))):=by rw[CL,Cq]
 unfold PP at e2;rw[hs] at e2;dsimp only at e2;by_cases hg:st[k].1=p.1.2.1
 ·rw[if_pos hg] at e2;rw[decide_eq_true hg] at hd;have hc:=De (n:=N) (x:=p.1) (y:=st[k]) hg.symm;have hn:=Q6 kw1 (p.1.1,st[k].2.1,A4 p.1.2.2 st[k].2.2);have hw:=Tr (w:=p.2) (k:=k) (qB hpl (qB (Eo n) (by decide)));generalize hcc:((p.1.1,st[k].2.1,A4 p.1.2.2 st[k].2.2):Nd)=c at hc hn e2;have w2:WL (ad1 kw1 (c,p.2++[k])):=w.ad (by show(p.2++[k]).length<=_;rw[uE];exact uL hpl);have n2:=Eh (c:=(c,p.2++[k])) n
  change _=ad1 kw1 (c,p.2++[k]) at e2
  unfold ad1 at e2 w2 n2;cases hh:NX kw1 c with
  |true=>
   rw[hh] at hn;rw[show NX kw1 (c,p.2++[k]).1=true from hh,if_pos rfl] at e2 w2 n2;exact⟨_,zu (ze (ze (ze rfl rfl hi) rfl rfl) (ze (ze rfl rfl hkn) rfl rfl) hd) (zh (zw (zl (zi (ze rfl rfl hkn) (zi (ze rfl rfl hi) rfl)) hc)) (zr (ze rfl rfl hn) rfl)),⟨kw1,_,_,e2.symm,w2,n2⟩⟩
  |false=>
   rw[hh] at hn;rw[show NX kw1 (c,p.2++[k]).1=false from hh,if_neg (by decide)] at e2 w2 n2;exact⟨_,zu (ze (ze (ze rfl rfl hi) rfl rfl) (ze (ze rfl rfl hkn) rfl rfl) hd) (zh (zw (zl (zi (ze rfl rfl hkn) (zi (ze rfl rfl hi) rfl)) hc)) (zu (ze rfl rfl hn)
    (zh (D7 rfl rfl (by rw[En];exact hl) rfl (Q7 kw1 (c,p.2++[k])).symm) (D7 (ze (ze rfl rfl hwy) (Dg rfl rfl) hw) rfl (by rw[Tv];exact hl) rfl (Tu kw1 (c,p.2++[k])).symm)))),⟨_,_,_,e2.symm,w2,n2⟩⟩
 ·rw[if_neg hg] at e2;rw[decide_eq_false hg] at hd;exact⟨_,zr (ze (ze (ze rfl rfl hi) rfl rfl) (ze (ze rfl rfl hkn) rfl rfl) hd) rfl,⟨kw1,_,_,e2.symm,w,n⟩⟩
abbrev aT:PE:=(BX jx (jA zy))
theorem W0(h:decide ((i:Int)<(kw.length:Nat))=b):ev G cf aT (aE st kw t3 (.int i) t5)=.ok (.bool b):=by
 refine ze rfl (BJ rfl rfl) ?_;show R.ok (vE (decide ((i:Int)<((Pb kw).length:Nat))))=_;rw[En,h]
theorem TL(hst:st.length<=100000){kw kw':KW}{i:Nat}(h:Eg st kw i kw'):∀(m:Nat) (t3 t5:D),0<m->kw'.length<i+m->WL kw->(kw.map (·.1)).Nodup->∃t3' t4' t5',wl G (zd G T 2000 (N+2)) (zj G T 2000 (N+2)) 2000 aT aW m (aE st kw t3 (.int i) t5)=.ok (.next,aE st kw' t3' t4' t5')/\WL kw':=by
 induction h with
 |@fin kw i hi=>
  intro m t3 t5 h0 hm w n;induction m using w3 with
  |zero=>exact absurd h0 (by decide)
  |succ m=>exact⟨_,_,_,Fg (W0 (decide_eq_false (λh=>absurd (Int.ofNat_lt.mp h) (Nat.not_lt.mpr hi)))),w⟩
 |@step kw kw' i p hp r ih=>
  intro m t3 t5 h0 hm w n;have hi:i<kw.length:=(List.getElem?_eq_some_iff.mp hp).1;have hle:=qA (Au (Fo st p (v5 st.length)) kw).length_le r.pre.length_le;induction m using w3 with
  |zero=>exact absurd h0 (by decide)
  |succ m=>
   obtain⟨σ,e,q⟩:=IY (cf:=zd G T 2000 (N+2)) (cio:=zj G T 2000 (N+2)) (i:=3) (j:=0) (s:=aB) (P:=A1 st kw i p) (xs:=st.map Ay) (ρ:=aE st kw t3 (.int i) t5) (λk ρ hk=>TK hp (by rwa [uJ] at hk)) rfl (by rwa [uJ]) ⟨kw,_,_,rfl,w,n⟩;rw[uJ] at q;obtain⟨kw1,u3,u5,e1,w1,n1⟩:=q;rw[<-e1] at ih;obtain⟨t3',t4',t5',e2,w2⟩:=ih m u3 u5 (by exact zaM λe=>by rw[e] at hm;exact zad _ (qD hi (qA hle (wV hm)))) (by rw[xC];exact hm) w1 n1;exact⟨t3',t4',t5',WJ (W0 (decide_eq_true (Int.ofNat_lt.mpr hi))) (zh e (zw (ze rfl rfl (o6 i)))) e2,w2⟩
theorem Yk(hst:st.length<=100000){kw:KW}(h:Eg st (F6 st) 0 kw)(hl:kw.length<=324):zd G T 2000 (N+3) 11 [jh st]=.ok (.tuple [.list (Pb kw),.list (WM kw)]):=by
 refine(eV ..).trans ?_;obtain⟨σ,e,q⟩:=IY (cf:=zd G T 2000 (N+2)) (cio:=zj G T 2000 (N+2)) (i:=3) (j:=0) (s:=aI) (P:=A0 st) (xs:=st.map Ay) (ρ:=aE st [] .none .none .none) (λk ρ hk=>TJ (by rwa [uJ] at hk)) rfl (by rwa [uJ]) ⟨[],_,rfl,λp hp=>absurd hp vJ,List.nodup_nil⟩;rw[uJ] at q;obtain⟨kw0,u3,e0,w0,n0⟩:=q;cases(show kw0=F6 st from e0);obtain⟨t3,t4,t5,e2,_⟩:=TL (N:=N) hst h 2000 u3 .none (by decide) (qB hl (by decide)) w0 n0;exact Rt.fin (Rt.nxt rfl (Rt.nxt rfl (Rt.nxt e (Rt.nxt rfl (Rt.nxt e2 (Rt.ret rfl))))))
end
theorem By:JO GG cf cio wf g true s ρ (.int (([a,b]:List D).length:Nat))=fl GG cf cio wf g s [.int 0,.int 1] ρ:=Il (m:=2) (by decide)
abbrev OP:=Option Bool×Option Bool
noncomputable def KX:OP->D
 |(none,none)=>.dict []
 |(some a,none)=>.dict [(.int 0,.bool a)]
 |(none,some b)=>.dict [(.int 1,.bool b)]
 |(some a,some b)=>.dict [(.int 0,.bool a),(.int 1,.bool b)]
noncomputable def CG:Option Bool->Option Bool
 |some true=>some false
 |_=>none
noncomputable def JF:Option Bool->Option Bool->Option Bool
 |some a,some b=>some (a&&b)
 |_,_=>none
noncomputable def E.nm?(kn:List Tok):E->Bool
 |.name z=>kn.contains z
 |_=>false
noncomputable def bd(p q:Tok)(kn:List Tok)   : E->OP
 |.num i=>if i=0 then(some (kn.contains p),some (kn.contains q)) else if i=1 then(if kn.contains p then some false else none,if kn.contains q then some false else none) else(none,none)
 |.name z=>if z=p then(some false,none) else(none,some false)
 |.pred a=>((bd p q kn a).1.map (·||a.nm? kn),(bd p q kn a).2.map (·||a.nm? kn))
 |.succ a=>(CG (bd p q kn a).1,CG (bd p q kn a).2)
 |.iff z a b=>(JF (bd p q kn a).1 (bd p q (kn++[z]) b).1,JF (bd p q kn a).2 (bd p q (kn++[z]) b).2)
 |.call _ _ _=>(none,none)
theorem eD:∀(p q:Tok) (kn:List Tok) (i:Nat),bd p q kn (E.num i)=if i=0 then(some (kn.contains p),some (kn.contains q)) else if i=1 then(if kn.contains p=true then some false else none,if kn.contains q=true then some false else none) else(none,none):=λ_ _ _ _=>rfl
theorem eE:∀(p q:Tok) (kn:List Tok) (z:Tok),bd p q kn (E.name z)=if z=p then(some false,none) else(none,some false):=λ_ _ _ _=>rfl
theorem eH:∀(p q:Tok) (kn:List Tok) (a:E),bd p q kn a.pred=(yN (λ(x:Bool)=>x||E.nm? kn a) (bd p q kn a).fst,yN (λ(x:Bool)=>x||E.nm? kn a) (bd p q kn a).snd):=λ_ _ _ _=>rfl
theorem eI:∀(p q:Tok) (kn:List Tok) (a:E),bd p q kn a.succ=(CG (bd p q kn a).fst,CG (bd p q kn a).snd):=λ_ _ _ _=>rfl
theorem eJ:∀(p q:Tok) (kn:List Tok) (z:Tok) (a b:E),bd p q kn (E.iff z a b)=(JF (bd p q kn a).fst (bd p q (kn++[z]) b).fst,JF (bd p q kn a).snd (bd p q (kn++[z]) b).snd):=λ_ _ _ _ _ _=>rfl
noncomputable def E.isName:E->Bool
 |.name _=>true
 |_=>false
theorem N3{e:E}(h:e.isName=true):∃z,e=.name z:=by
 induction e using E.casesOn with
 |name z=>exact⟨z,rfl⟩
 |_=>exact ff h
section dict
variable{GG:List D}{cf cio:Nat->List D->R D}{wf:Nat}{g:Tg}{s:PS}{ρ:zg}{x y:D}{a b c:Bool}
theorem rA:JO GG cf cio wf g false s ρ (.dict [(.int 0,x)])=fl GG cf cio wf g s [.int 0] ρ:=rfl
theorem rB:JO GG cf cio wf g false s ρ (.dict [(.int 1,x)])=fl GG cf cio wf g s [.int 1] ρ:=rfl
theorem rC:JO GG cf cio wf g false s ρ (.dict [(.int 0,x),(.int 1,y)])=fl GG cf cio wf g s [.int 0,.int 1] ρ:=rfl
end dict
theorem I6(kn:List Tok)(z:Tok)(h:kn.length<1000):E6 (zm kn) (.list [ds z])=.ok (zm (kn++[z])):=by
 show Vg (kn.map ds++[ds z])=_;unfold Vg;rw[if_pos (by simp[zv];exact qA (qC ‹_›) (by decide))];simp
theorem Zc(hpq:p≠q)(h:z=p\/z=q):Ig (zm [p,q]) (ds z)=.ok (.int (if z=p then 0 else 1)):=by
 show(if[S p,S q].contains (S z) then R.ok (uT ([S p,S q].idxOf (S z))) else .stuck)=_;have hsn:¬(S p=S q):=by rw[EJ];exact hpq
 rcases h with rfl|rfl
 ·simp
 ·rw[if_pos (by simp),if_neg (λe=>hpq e.symm)];have:[S p,S z].idxOf (S z)=1:=by
   rw[List.idxOf_cons,List.idxOf_cons];have:(S p==S z)=false:=by exact if_neg ‹_›
   simp[this]
  rw[this];rfl
section
variable{cf cio:Nat->List D->R D}{ρ σ:zg}{i:Nat}{s:PS}{x y:D}{a b:PE}{u v:Bool}{r:R (Fl×zg)}
theorem AC{g:Tg}{rg:Bool}(h:ev G cf a ρ=.ok x)(k:JO G cf cio 2000 g rg s ρ x=r):exec G cf cio 2000 (.forr g rg a s) ρ=r:=(congrArg (R.bind · _) h).trans k
theorem KI(h:ev G cf b ρ=.ok x)(g:ev G cf a ρ=.ok y)(k:Xy ρ i x y=r):exec G cf cio 2000 (.put i a b) ρ=r:=(congrArg (R.bind · _) h).trans ((congrArg (R.bind · _) g).trans k)
end
theorem MN{cf:Nat->List D->R D}{a:E}{kn:List Tok}{x1:D}{σ:zg}:ev G cf rY (a.pred.d::x1::zm kn::σ)=.ok (.bool (a.nm? kn)):=by
 induction a using E.casesOn with
 |name z=>exact Ag rfl (ze rfl rfl (Bu z kn))
 |_=>rfl
theorem TY{cf ci:Nat->List D->R D}{a:E}{kn:List Tok}{x1:D}(o:OP):
  ∃t,exec G cf ci 2000 (.forr (.one 4) false (.var 5) r8) [a.pred.d,x1,zm kn,.dict [],O,KX o,O,O,O,O,O]=
  .ok (.next,[a.pred.d,x1,zm kn,KX (o.1.map (·||a.nm? kn),o.2.map (·||a.nm? kn)),t,KX o,O,O,O,O,O]):=by
 obtain⟨o1,o2⟩:=o;induction o1 using uW with
 |none=>
  induction o2 using uW with
  |none=>exact⟨_,rfl⟩
  |some u=>exact⟨_,AC rfl (rB.trans (jU (KI (NO (u:=u) rfl MN) rfl rfl) rfl))⟩
 |some w=>
  induction o2 using uW with
  |none=>exact⟨_,AC rfl (rA.trans (jU (KI (NO (u:=w) rfl MN) rfl rfl) rfl))⟩
  |some u=>exact⟨_,AC rfl (rC.trans (jU (KI (NO (u:=w) rfl MN) rfl rfl) (jU (KI (NO (u:=u) rfl MN) rfl rfl) rfl)))⟩
theorem Ps(hi:i=0\/i=1):
  ∃t,exec G cf ci 2000 r7 [(E.num i).d,zm [p,q],zm kn,.dict [],O,O,O,O,O,O,O]=.ok (.next,[(E.num i).d,zm [p,q],zm kn,KX (bd p q kn (.num i)),t,O,O,O,O,O,O]):=by
 have hp:=Bu p kn;have hq:=Bu q kn;rw[eD];generalize kn.contains p=c at hp;generalize kn.contains q=d at hq;rcases hi with rfl|rfl
 ·exact⟨_,AC rfl (By.trans (jU (zu rfl (KI (ze rfl rfl hp) rfl rfl)) (jU (zu rfl (KI (ze rfl rfl hq) rfl rfl)) rfl)))⟩
 ·induction c using tZ with
  |false=>
   induction d using tZ with
   |false=>exact⟨_,AC rfl (By.trans (jU (zr rfl (zr (ze rfl rfl hp) rfl)) (jU (zr rfl (zr (ze rfl rfl hq) rfl)) rfl)))⟩
   |true=>exact⟨_,AC rfl (By.trans (jU (zr rfl (zr (ze rfl rfl hp) rfl)) (jU (zr rfl (zu (ze rfl rfl hq) rfl)) rfl)))⟩
  |true=>
   induction d using tZ with
   |false=>exact⟨_,AC rfl (By.trans (jU (zr rfl (zu (ze rfl rfl hp) rfl)) (jU (zr rfl (zr (ze rfl rfl hq) rfl)) rfl)))⟩
   |true=>exact⟨_,AC rfl (By.trans (jU (zr rfl (zu (ze rfl rfl hp) rfl)) (jU (zr rfl (zu (ze rfl rfl hq) rfl)) rfl)))⟩
theorem TZ(o:OP):∃t,exec G cf ci 2000 (.forr (.one 4) false (.var 5) (.ifs (.bin .idx (.var 5) (.var 4)) (.put 3 (.var 4) (.lit (.bool false))) .skip)) [x0,x1,x2,.dict [],O,KX o,O,O,O,O,O]=
  .ok (.next,[x0,x1,x2,KX (CG o.1,CG o.2),t,KX o,O,O,O,O,O]):=by
 rcases o with⟨_|_|_,_|_|_⟩<;>exact⟨_,rfl⟩
theorem Yo(o o':OP):∃t,exec G cf ci 2000 (.forr (.one 4) false (.var 6) (.ifs (.bin .mem (.var 4) (.var 7)) (.put 3 (.var 4) (.and_ (.bin .idx (.var 6) (.var 4)) (.bin .idx (.var 7) (.var 4)))) .skip)) [x0,x1,x2,.dict [],O,O,KX o,KX o',O,O,O]=
  .ok (.next,[x0,x1,x2,KX (JF o.1 o'.1,JF o.2 o'.2),t,O,KX o,KX o',O,O,O]):=by
 rcases o with⟨_|_|_,_|_|_⟩<;>rcases o' with⟨_|_,_|_⟩<;>exact⟨_,rfl⟩
theorem Je{p q:Tok}(hpq:p≠q):∀(e:E) (n:Nat) (kn:List Tok),e.wf p q->kn.length+e.dep<900->e.dep<n->zd G T 2000 n 15 [e.d,zm [p,q],zm kn]=.ok (KX (bd p q kn e)):=by
 intro e;induction e with
 |num i=>
  intro n kn hw hk hn;refine FJ hn λn _=>?_;refine(CK ..).trans ?_;rcases hw with rfl|rfl|rfl|rfl
  ·exact(Ps (xS rfl)).elim λt h=>Rt.fin (Rt.nxt rfl (Rt.nxt (zr rfl (zu rfl h)) (Rt.ret rfl)))
  ·exact(Ps (wF rfl)).elim λt h=>Rt.fin (Rt.nxt rfl (Rt.nxt (zr rfl (zu rfl h)) (Rt.ret rfl)))
  ·rfl
  ·rfl
 |name z=>
  intro n kn hw hk hn;refine FJ hn λn _=>?_;refine(CK ..).trans ?_;rw[eE];have hi:=Zc hpq hw;by_cases hz:z=p
  ·rw[if_pos hz] at hi ⊢;exact Rt.fin (Rt.nxt rfl (Rt.nxt (zu rfl (KI rfl hi rfl)) (Rt.ret rfl)))
  ·rw[if_neg hz] at hi ⊢;exact Rt.fin (Rt.nxt rfl (Rt.nxt (zu rfl (KI rfl hi rfl)) (Rt.ret rfl)))
 |pred a ih=>
  intro n kn hw hk hn;refine FJ hn λn hn'=>?_;have iha:=ih n kn hw (xG hk) hn';refine(CK ..).trans ?_;rw[eH];generalize bd p q kn a=o at iha;exact(TY o).elim λt h=>Rt.fin (Rt.nxt rfl (Rt.nxt (zr rfl (zr rfl (zu rfl (zh (zw (zl rfl iha)) h)))) (Rt.ret rfl)))
 |succ a ih=>
  intro n kn hw hk hn;refine FJ hn λn hn'=>?_;have iha:=ih n kn hw (xG hk) hn';refine(CK ..).trans ?_;rw[eI];generalize bd p q kn a=o at iha;exact(TZ o).elim λt h=>Rt.fin (Rt.nxt rfl (Rt.nxt (zr rfl (zr rfl (zr rfl (zu rfl (zh (zw (zl rfl iha)) h))))) (Rt.ret rfl)))
 |iff z a b iha ihb=>
  intro n kn hw hk hn;refine FJ hn λn hn'=>?_;have iha:=iha n kn hw.2.1 (nJ hk) (qB (vV ..) hn');have ihb:=ihb n (kn++[z]) hw.2.2 (by rw[uE];exact iJ hk) (qB (vP ..) hn');have hap:=I6 kn z (qB (uV _ _) (uS hk (by decide)));refine(CK ..).trans ?_;rw[eJ];generalize bd p q kn a=o at iha;generalize bd p q (kn++[z]) b=o' at ihb;exact(Yo o o').elim λt h=>Rt.fin (Rt.nxt rfl (Rt.nxt (zr rfl (zr rfl (zr rfl (zr rfl (zu rfl (zh (zw (zl rfl iha)) (zh (zw (zl (zi rfl (zi rfl (zi (ze rfl rfl hap) rfl))) ihb)) h))))))) (Rt.ret rfl)))
 |call g a b iha ihb=>
  intro n kn hw hk hn;refine FJ hn λn _=>?_;exact(CK ..).trans rfl
theorem VO:(cN.all λx=>Ze (zd G T 2000 1 12 [Ay x]) (.bool !((x.2.2.1 != some true)&&(x.2.2.2.2.2 != some true))))=true:=by decide +kernel
theorem aL(x:Nd):zd G T 2000 (n+1) 12 [Ay x]=.ok (.bool !((x.2.2.1 != some true)&&(x.2.2.2.2.2 != some true))):=
 Jh (Mr (uF.mp VO x (Ix x))) (uL (uZ _))
theorem OC:(cN.all λx=>Ze (zd G T 2000 1 23 [ds (zB x.1),ds (zB x.2.1),k9 x.2.2]) (Ay x))=true:=by decide +kernel
theorem Kp(x:Nd):zd G T 2000 (n+1) 23 [ds (zB x.1),ds (zB x.2.1),k9 x.2.2]=.ok (Ay x):=
 Jh (Mr (uF.mp OC x (Ix x))) (uL (uZ _))
theorem RN(a b:OB):J8 (.int (oi a)) (.int (oi b))=.ok (.int (oi a*oi b)):=by rcases a with _|_|_<;>rcases b with _|_|_<;>rfl
theorem ZW(a b c d:OB):min 2 (max (oi a*oi b) (oi c*oi d))=oi (C7 (B2 a b) (B2 c d)):=by
 have h:(obs.all λa=>obs.all λb=>obs.all λc=>obs.all λd=>decide (min 2 (max (oi a*oi b) (oi c*oi d))=oi (C7 (B2 a b) (B2 c d))))=true:=by decide +kernel
 exact of_decide_eq_true (uF.mp (uF.mp (uF.mp (uF.mp h a (Bd a)) b (Bd b)) c (Bd c)) d (Bd d))
noncomputable abbrev jX(i j k l:Int):PE:=.bin .min (.lit (.int 2)) (.bin .max (.bin .mul (.bin .idx (.var 0) (.lit (.int i))) (.bin .idx (.var 1) (.lit (.int j)))) (.bin .mul (.bin .idx (.var 0) (.lit (.int k))) (.bin .idx (.var 1) (.lit (.int l)))))
theorem Mt(h1:jd (k9 A) (.int i)=.ok (.int (oi a)))(h2:jd (k9 B) (.int j)=.ok (.int (oi b)))(h3:jd (k9 A) (.int k)=.ok (.int (oi c)))(h4:jd (k9 B) (.int l)=.ok (.int (oi d))):
  ev G cf (jX i j k l) (k9 A::k9 B::σ)=.ok (.int (oi (C7 (B2 a b) (B2 c d)))):=
 ze rfl (ze (ze (ze rfl rfl h1) (ze rfl rfl h2) (RN a b)) (ze (ze rfl rfl h3) (ze rfl rfl h4) (RN c d)) rfl) (congrArg (λi=>R.ok (uT i)) (ZW a b c d))
theorem Ik(A B:Mx):zd G T 2000 (n+1) 22 [k9 A,k9 B]=.ok (k9 (A4 A B)):=by
 refine(K8 ..).trans ?_;exact Rt.fin (Rt.asg (zV (zi (Mt rfl rfl rfl rfl) (zi (Mt rfl rfl rfl rfl) rfl)) rfl) (Rt.asg (zV (zi (Mt rfl rfl rfl rfl) (zi (Mt rfl rfl rfl rfl) rfl)) rfl) (Rt.ret (ze rfl rfl rfl))))
def EX(w v:List Nat):Bool:=if(w.length:Int)=v.length then jo (w.map λ(k:Nat)=>(k:Int)) (v.map λ(k:Nat)=>(k:Int)) else decide ((w.length:Int)<v.length)
theorem G0(w:List Nat):A7 (w.map λ(k:Nat)=>uT k)=some (w.map λ(k:Nat)=>(k:Int)):=by
 induction w with
 |nil=>rfl
 |cons a w ih=>show(A7 (w.map λ(k:Nat)=>uT k)).bind _=_;rw[ih];rfl
theorem pK(w v:List Nat):U6 (.tuple [.int w.length,wD w]) (.tuple [.int v.length,wD v])=.ok (.bool (EX w v)):=by
 show R.bind (R.bind (ji (A7 (w.map λ(k:Nat)=>uT k))) λa=>R.bind (ji (A7 (v.map λ(k:Nat)=>uT k))) _) _=_;rw[G0,G0];rfl
theorem X2(w:List Nat):JS (wD w)=.ok (.int w.length):=congrArg (λn:Nat=>R.ok (uT n)) (uJ ..)
def zT:Option (List Nat)->D
 |none=>.none
 |some w=>wD w
def upd(b:Option (List Nat))(p:Nd×List Nat):Option (List Nat):=
 if TX p.1 then(match b with|none=>some p.2|some v=>if EX p.2 v then some p.2 else b) else b
theorem Mf(h:ev G cf a ρ=.ok (.bool u))(g:ev G cf b ρ=.ok (.bool v)):ev G cf (.and_ a b) ρ=.ok (.bool (u&&v)):=by
 induction u using tZ with
 |false=>exact Df h
 |true=>exact Ag h g
theorem YX(x y:Nd):I3 (Ay x) (Ay y)=.ok (.bool (x==y)):=by rw[He rfl rfl (qA (F3 x) (by decide)),F4]
theorem T0(h:a=a')(h':b=b'):(((a,b,A):Nd)==(a',b',B))=(A==B):=by
 rw[h,h',xX,beq_iff_eq,beq_iff_eq,Prod.mk.injEq,Prod.mk.injEq];exact⟨λh=>h.2.2,λh=>⟨rfl,rfl,h⟩⟩
section
variable{N:Nat}
theorem YH(x:Nd):ev G (zd G T 2000 (N+2)) dC [x0,x1,x2,x3,x4,Ay x,O,O,O,O,O]=.ok (.bool (TX x)):=by
 have hq:I3 (ds (zB x.1)) (ds (zB x.2.1))=.ok (.bool (decide (x.1=x.2.1))):=by rw[CL,Cq]
 unfold TX;by_cases h:x.1=x.2.1
 ·rw[decide_eq_true h] at hq;rw[beq_iff_eq.mpr h,Bool.true_and];have hc:=De (n:=N) (x:=x) (y:=x) h.symm;have he:=YX (x.1,x.2.1,A4 x.2.2 x.2.2) x;rw[show(((x.1,x.2.1,A4 x.2.2 x.2.2):Nd)==x)=(A4 x.2.2 x.2.2==x.2.2) from T0 rfl rfl] at he;refine Ag (ze rfl rfl hq) (Mf (ze (zl rfl hc) rfl he) ?_);refine BJ (zl rfl (aL (n:=N+1) x)) ?_;exact congrArg (λb=>R.ok (vE b)) (Bool.not_not _)
 ·rw[decide_eq_false h] at hq;rw[beq_eq_false_iff_ne.mpr h,Bool.false_and];exact Df (ze rfl rfl hq)
theorem oH(b:Option (List Nat))(hw:jd x2 (.int k)=.ok (wD w)):
  exec G cf ci 2000 dI [x0,x1,x2,zT b,.int k,x5,O,O,O,O,O]=.ok (.next,[x0,x1,x2,zT (match b with|none=>some w|some v=>if EX w v then some w else b),.int k,x5,O,O,O,O,O]):=by
 induction b using uW with
 |none=>exact zu (Js rfl) (zw hw)
 |some v=>
  have hl:=pK w v;have hc:∀{c:Bool},U6 (.tuple [.int w.length,wD w]) (.tuple [.int v.length,wD v])=.ok (.bool c)->ev G cf (.or_ (.un .isNone (.var 3)) (.bin .lt (.tup (.cons (.un .len (.bin .idx (.var 2) (.var 4))) (.cons (.bin .idx (.var 2) (.var 4)) .nil))) (.tup (.cons (.un .len (.var 3)) (.cons (.var 3) .nil))))) [x0,x1,x2,wD v,.int k,x5,O,O,O,O,O]=.ok (.bool c):=
   λh=>Cf rfl (ze (zV (zi (BJ (ze rfl rfl hw) (X2 w)) (zi (ze rfl rfl hw) rfl)) rfl) (zV (zi (BJ rfl (X2 v)) rfl) rfl) h)
  show _=R.ok (Fl.next,[x0,x1,x2,zT (if EX w v=true then some w else some v),uT k,x5,O,O,O,O,O]);generalize EX w v=c at hl;induction c using tZ with
  |false=>exact zr (hc hl) rfl
  |true=>exact zu (hc hl) (zw hw)
inductive D0(g0:D)(kw:KW)(k:Nat):zg->Prop
 |mk(t4 t5:D)(b:Option (List Nat))(e:(kw.take k).foldl upd none=b):D0 g0 kw k [g0,.list (Pb kw),.list (WM kw),zT b,t4,t5,O,O,O,O,O]
theorem YM(hk:k<kw.length)(h:D0 g0 kw k ρ):Nx (zd G T 2000 (N+2)) (zj G T 2000 (N+2)) dB (ρ.set 4 (.int k)) (D0 g0 kw (k+1)):=by
 obtain⟨t4,t5,b,hb⟩:=h;have hp:=uA hk;have hkn:jd (.list (Pb kw)) (.int k)=.ok (Ay kw[k].1):=AM (f:=λq:Nd×List Nat=>Ay q.1) hp;have hwy:jd (.list (WM kw)) (.int k)=.ok (wD kw[k].2):=AM (f:=λq:Nd×List Nat=>wD q.2) hp;have e:(kw.take (k+1)).foldl upd none=upd b kw[k]:=by
  rw[EB hp,za0,hb];rfl
 have hc:=λx0 x1 x2 x3 x4=>YH (N:=N) kw[k].1 (x0:=x0) (x1:=x1) (x2:=x2) (x3:=x3) (x4:=x4);unfold upd at e;cases hx:TX kw[k].1 with
 |false=>
  rw[hx] at hc e;exact⟨_,zh (zw (ze rfl rfl hkn)) (zr (hc ..) rfl),⟨_,_,_,e⟩⟩
 |true=>
  rw[hx] at hc e;exact⟨_,zh (zw (ze rfl rfl hkn)) (zu (hc ..) (oH b hwy)),⟨_,_,_,e⟩⟩
theorem Hd(hst:st.length<=100000)(h:Eg st (F6 st) 0 kw)(hl:kw.length<=324):zd G T 2000 (N+4) 13 [jh st]=.ok (zT (kw.foldl upd none)):=by
 refine(Qa ..).trans ?_;have ha:=Yk (N:=N) hst h hl;obtain⟨σ,e,q⟩:=IY (cf:=zd G T 2000 (N+3)) (cio:=zj G T 2000 (N+3)) (i:=4) (j:=1) (s:=dB) (P:=D0 (jh st) kw) (xs:=Pb kw) (ρ:=[jh st,.list (Pb kw),.list (WM kw),O,O,O,O,O,O,O,O]) (λk ρ hk=>YM (N:=N+1) (by rwa [En] at hk)) rfl (by rw[En];exact qA hl (by decide)) ⟨_,_,none,rfl⟩;rw[En] at q;obtain⟨t4,t5,b,hb⟩:=q;rw[zav] at hb;rw[hb];exact Rt.fin (Rt.asgm (zl rfl ha) rfl (Rt.nxt rfl (Rt.nxt e (Rt.ret rfl))))
end
theorem U7:∀(w v:List Nat) (a:Nat),w.length=v.length->(∀k∈w,k<4)->jo (w.map λ(k:Nat)=>(k:Int)) (v.map λ(k:Nat)=>(k:Int))=true->EM a w<EM a v:=by
 intro w;induction w with
 |nil=>
  intro v a hl _ h;induction v using uB with
  |nil=>exact ff h
  |cons=>exact absurd hl (by trivial)
 |cons i w ih=>
  intro v a hl hw h;induction v using uB with
  |nil=>exact ff h
  |cons j v=>
   have hl:w.length=v.length:=zbD hl;rw[vZ,vZ,Ro] at h;by_cases e:(i:Int)=j
   ·rw[if_pos e] at h;have e:i=j:=Int.ofNat.inj e;rw[e];exact ih v _ hl (λk hk=>hw k (u0 _ hk)) h
   ·rw[if_neg e] at h;have hij:i<j:=Int.ofNat_lt.mp (of_decide_eq_true h);have h1:=Jl w (5*a+(i+1)) λk hk=>hw k (u0 _ hk);have h2:=Jm v (5*a+(j+1));have h3:(5*a+(i+1)+1)*5 ^ w.length<=(5*a+(j+1))*5 ^ v.length:=by rw[hl];exact zbp _ (by lia)
    exact y6 (qA h1 (qA h3 h2))
theorem Ob(hw:∀k∈w,k<4)(h:EX w v=true):code w<code v:=by
 unfold EX at h;by_cases e:(w.length:Int)=v.length
 ·rw[if_pos e] at h;exact U7 w v 0 (Int.ofNat.inj e) hw h
 ·rw[if_neg e] at h;have hl:w.length<v.length:=Int.ofNat_lt.mp (of_decide_eq_true h);induction v using uB with
  |nil=>exact absurd hl (wY _)
  |cons j v=>
   have h1:=Jl w 0 hw;have h2:=Jm v (5*0+(j+1));have h3:(0+1)*5 ^ w.length<=(5*0+(j+1))*5 ^ v.length:=Nat.mul_le_mul (yX _) (Nat.pow_le_pow_right (by decide) (wV hl));exact y6 (qA h1 (qA h3 h2))
theorem Tk:∀{kw:KW},(∀p∈kw,code v<code p.2/\∀k∈p.2,k<4)->kw.foldl upd (some v)=some v:=by
 intro kw;induction kw with
 |nil=>intro _;rfl
 |cons p kw ih=>
  intro h;have hp:=h p u4;have e:upd (some v) p=some v:=by
   unfold upd;split
   ·show(if EX p.2 v=true then _ else _)=_;rw[if_neg];intro hl;exact absurd (Ob hp.2 hl) (Nat.not_lt.mpr (qC hp.1))
   ·rfl
  rw[wX,e];exact ih λq hq=>h q (u0 _ hq)
theorem O5:∀{kw:KW},(kw.map λp=>code p.2).Pairwise (·<·)->(∀p∈kw,∀k∈p.2,k<4)->kw.foldl upd none=jZ kw:=by
 intro kw;induction kw with
 |nil=>intro _ _;rfl
 |cons p kw ih=>
  intro h hd;rw[vZ,List.pairwise_cons] at h;rw[Cg,wX];unfold upd;split
  ·exact Tk λq hq=>⟨h.1 _ (List.mem_map.mpr ⟨q,hq,rfl⟩),hd q (u0 _ hq)⟩
  ·exact ih h.2 λq hq=>hd q (u0 _ hq)
theorem HD(hst:st.length<=4)(h:Eg st (F6 st) 0 kw):kw.foldl upd none=jZ kw:=by
 obtain⟨h1,h2⟩:=h.ord hst (QN hst);exact O5 h1 h2
theorem VM(hst:st.length<=4)(h:Eg st (F6 st) 0 kw)(hl:kw.length<=324):zd G T 2000 (N+5) 14 [jh st]=.ok (.bool (jZ kw).isNone):=by
 have hd:=Hd (N:=N) (qA hst (by decide)) h hl;rw[HD hst h] at hd;refine(YL ..).trans ?_;refine Rt.fin (Rt.ret (BJ (zl rfl hd) ?_));cases jZ kw<;>rfl
def GF(q:KW):List D:=q.map λp=>.tuple [BE p.1,wD p.2]
def OF(q:KW):List D:=q.map λp=>BE p.1
def jV(st:List Nd):D:=.list (st.map BE)
theorem Mb(st:List Nd)(p:Nd×List Nat):∀ks:List Nat,(Fo st p ks).length<=ks.length:=by
 intro ks;induction ks with
 |nil=>exact uK _
 |cons k ks ih=>
  show(PP st p k++Fo st p ks).length<=ks.length+1;have h:(PP st p k).length<=1:=by
   unfold PP;split
   ·split
    ·exact uK _
    ·exact uZ _
   ·exact uZ _
  rw[uE,vO];exact uR ih h
theorem eQ{st:List Nd}{p:Nd×List Nat}{ks:List Nat}:∀c∈Fo st p ks,c.2.length<=p.2.length+1:=by
 intro c hc;obtain⟨k,_,hk⟩:=List.mem_flatMap.mp hc;unfold PP at hk;split at hk
 ·split at hk
  ·rw[List.mem_singleton.mp hk];show(p.2++[k]).length<=_;rw[uE];exact uK _
  ·exact absurd hk vJ
 ·exact absurd hk vJ
theorem WL.adA:∀{cs kw:KW},WL kw->(∀c∈cs,c.2.length<=kw.length+1)->WL (AI kw cs):=by
 intro cs;induction cs with
 |nil=>intro kw h _;exact h
 |cons c cs ih=>
  intro kw h hc;exact ih (h.ad (hc c u4)) λd hd=>qA (hc d (u0 _ hd)) (uL (HR kw c).length_le)
theorem Eg.wl{st:List Nd}{kw kw':KW}{i:Nat}(h:Eg st kw i kw'):WL kw->WL kw':=by
 induction h with
 |fin=>exact id
 |step hp _ ih=>exact λw=>ih (w.adA λc hc=>qA (eQ c hc) (uL (w _ (v9 hp))))
theorem UI(st:List Nd):WL (F6 st):=by
 refine WL.adA (λp hp=>absurd hp vJ) λc hc=>?_;obtain⟨k,_,hk⟩:=List.mem_flatMap.mp hc;split at hk
 ·rw[List.mem_singleton.mp hk];exact uK 1
 ·exact absurd hk vJ
theorem Eg.next(h:Eg st kw i kw')(hp:kw[i]?=some p):Eg st (AI kw (Fo st p (v5 st.length))) (i+1) kw':=by
 induction h using Eg.casesOn with
 |fin h=>exact absurd (List.getElem?_eq_some_iff.mp hp).1 (Nat.not_lt.mpr h)
 |step hq r=>rw[hp] at hq;injection hq with hq;rw[hq];exact r
theorem Eg.end(h:Eg st kw i kw')(hi:kw.length<=i):kw'.drop i=[]:=by
 induction h using Eg.casesOn with
 |fin h=>exact wJ h
 |step hq r=>exact absurd (List.getElem?_eq_some_iff.mp hq).1 (Nat.not_lt.mpr hi)
theorem Ur{α:Type}{l:List α}{i:Nat}{a:α}(h:l[i]?=some a):l.drop i=a::l.drop (i+1):=by
 obtain⟨hi,e⟩:=List.getElem?_eq_some_iff.mp h;rw[wW hi,e]
theorem aO(kw:KW)(x:Nd):Ct (BE x) (.list (OF kw))=.ok (.bool !(NX kw x)):=by
 rw[FE rfl (qA (SZ x) (by decide))];exact congrArg (λb=>R.ok (vE !b)) (any_map S0 x kw)
theorem Y2{α β:Type}{f g:α->List β}:∀{l:List α},(∀k∈l,f k=g k)->l.flatMap f=l.flatMap g:=by
 intro l;induction l with
 |nil=>intro _;rfl
 |cons a l ih=>intro h;rw[zaZ,zaZ,h a u4,ih λk hk=>h k (u0 _ hk)]
theorem bq(a b:Bool):decide (a=b)=(a==b):=by induction a using tZ<;>induction b using tZ<;>rfl
theorem XH(o:OB):decide (oi o<2)=(o != some true):=by rcases o with _|_|_<;>rfl
section
variable{N:Nat}{st:List Nd}
abbrev fX(p:Nd×List Nat):List D:=[BE p.1,wD p.2,ds (zB p.1.1),ds (zB p.1.2.1),k9 p.1.2.2,O,O,O]
theorem f5(p:Nd×List Nat):ev G (zd G T 2000 (N+1)) fC (x0::x1::x2::x3::x4::fX p)=.ok (.bool (TX p.1)):=by
 have hq:I3 (ds (zB p.1.1)) (ds (zB p.1.2.1))=.ok (.bool (p.1.1==p.1.2.1)):=by rw[CL,Cq,bq]
 have he:I3 (k9 (A4 p.1.2.2 p.1.2.2)) (k9 p.1.2.2)=.ok (.bool (A4 p.1.2.2 p.1.2.2==p.1.2.2)):=by rw[He rfl rfl (by show 1<=4000;decide),Ly]
 have h0:U6 (.int (oi p.1.2.2.1)) (.int 2)=.ok (.bool (p.1.2.2.1 != some true)):=congrArg (λb=>R.ok (vE b)) (XH _);have h3:U6 (.int (oi p.1.2.2.2.2.2)) (.int 2)=.ok (.bool (p.1.2.2.2.2.2 != some true)):=congrArg (λb=>R.ok (vE b)) (XH _);exact Mf (ze rfl rfl hq) (Mf (ze (zl rfl (Ik _ _)) rfl he) (Mf (ze (ze rfl rfl rfl) rfl h0) (ze (ze rfl rfl rfl) rfl h3)))
inductive F0(st:List Nd)(lay sn:D)(more:KW)(p:Nd×List Nat)(k:Nat):zg->Prop
 |mk(t1:D):F0 st lay sn more p k (jV st::t1::lay::sn::.list (GF (more++Fo st p (v5 k)))::fX p)
theorem Ux{lay sn:D}{more:KW}{p:Nd×List Nat}{k:Nat}{ρ:zg}(hw:p.2.length<1000)(hm:more.length<10000)(hk:k<st.length)(hst:st.length<=4)(h:F0 st lay sn more p k ρ):Nx (zd G T 2000 (N+1)) (zj G T 2000 (N+1)) fK (ρ.set 1 (.int k)) (F0 st lay sn more p (k+1)):=by
 obtain⟨t1⟩:=h;have hs:=uA hk;have hi:jd (jV st) (.int k)=.ok (BE st[k]):=AM hs;have hq:I3 (ds (zB st[k].1)) (ds (zB p.1.2.1))=.ok (.bool (decide (st[k].1=p.1.2.1))):=by rw[CL,Cq]
 have e:Fo st p (v5 (k+1))=Fo st p (v5 k)++PP st p k:=Ic _ _;have hl:(GF (more++Fo st p (v5 k))).length<1000000:=by
  have:=Mb st p (v5 k);rw[List.length_range] at this;unfold GF;rw[uJ,uE];exact qB (uR (qC hm) (qA this (qC (qD hk hst)))) (by decide)
 have mk:=F0.mk (st:=st) (lay:=lay) (sn:=sn) (more:=more) (p:=p) (k:=k+1) (.int k);rw[e,<-uN] at mk;unfold PP at mk;rw[hs] at mk;dsimp only at mk;by_cases hg:st[k].1=p.1.2.1
 ·rw[decide_eq_true hg] at hq;rw[if_pos hg] at mk;refine⟨_,zu (ze (ze (ze rfl rfl hi) rfl rfl) rfl hq) (D7 (zV (zi (zV (zi rfl (zi (ze (ze rfl rfl hi) rfl rfl) (zi (zl (zi rfl (zi (ze (ze rfl rfl hi) rfl rfl) rfl)) (Ik _ _)) rfl))) rfl) (zi (ze rfl (Dg rfl rfl) (Tr hw)) rfl)) rfl) rfl hl rfl rfl),?_⟩;have e2:GF (more++Fo st p (v5 k)++[((p.1.1,st[k].2.1,A4 p.1.2.2 st[k].2.2),p.2++[k])])=GF (more++Fo st p (v5 k))++[.tuple [.tuple [ds (zB p.1.1),ds (zB st[k].2.1),k9 (A4 p.1.2.2 st[k].2.2)],wD (p.2++[k])]]:=vU;rw[e2] at mk;exact mk
 ·rw[decide_eq_false hg] at hq;rw[if_neg hg,vS] at mk;exact⟨_,zr (ze (ze (ze rfl rfl hi) rfl rfl) rfl hq) rfl,mk⟩
inductive LO(st:List Nd)(lay:D)(kw':KW)(i:Nat)(more:KW):Fl×zg->Prop
 |ret(w:List Nat)(σ:zg)(h:jZ (kw'.drop i)=some w):LO st lay kw' i more (.ret (wD w),σ)
 |nxt(kw2 more2:KW)(i2:Nat)(t1 t5 t6 t7 t8 t9:D)(r:Eg st kw2 i2 kw')(q:KM st kw2 i2 more2)(f:jZ (kw'.drop i)=jZ (kw'.drop i2))(l:more2.length<=4*i2)(le:i<=i2)(s:i2=i->more2=more):
  LO st lay kw' i more (.next,[jV st,t1,lay,.list (OF (kw2.take i2)),.list (GF more2),t5,t6,t7,t8,t9,O,O,O])
theorem Y1(hb:jy ρ g x=.ok ρ')(h:exec G cf cio 2000 s ρ'=.ok (.ret d,σ)):fl G cf cio 2000 g s (x::xs) ρ=.ok (.ret d,σ):=
 (congrArg (R.bind · _) hb).trans (congrArg (R.bind · _) h)
theorem El(hb:jy ρ g x=.ok ρ')(h:exec G cf cio 2000 s ρ'=.ok (.next,σ))(k:fl G cf cio 2000 g s xs σ=r):fl G cf cio 2000 g s (x::xs) ρ=r:=
 (congrArg (R.bind · _) hb).trans ((congrArg (R.bind · _) h).trans k)
theorem Tw(h:exec G cf cio 2000 s ρ=.ok (.ret d,σ)):exec G cf cio 2000 (.seq s t) ρ=.ok (.ret d,σ):=congrArg (R.bind · _) h
theorem YZ(hst:st.length<=4){kw':KW}(hl:kw'.length<=324)(hw:WL kw')(lay:D):∀(L:KW) {kw more:KW} {i:Nat} {t1 t5 t6 t7 t8 t9:D},Eg st kw i kw'->KM st kw i (L++more)->more.length<=4*i->
  ∃r,fl G (zd G T 2000 (N+1)) (zj G T 2000 (N+1)) 2000 (.many [5,6]) fB (GF L) [jV st,t1,lay,.list (OF (kw.take i)),.list (GF more),t5,t6,t7,t8,t9,O,O,O]=.ok r/\LO st lay kw' i more r:=by
 intro L;induction L with
 |nil=>intro kw more i t1 t5 t6 t7 t8 t9 hr hq hm;exact⟨_,rfl,.nxt kw more i _ _ _ _ _ _ hr hq rfl hm (uK _) λ_=>rfl⟩
 |cons c L ih=>
  intro kw more i t1 t5 t6 t7 t8 t9 hr hq hm;have hn:=aO (kw.take i) c.1;have hb:∀{x0 x1 x2 x3 x4 t5 t6 t7 t8 t9:D},jy [x0,x1,x2,x3,x4,t5,t6,t7,t8,t9,O,O,O] (.many [5,6]) (.tuple [BE c.1,wD c.2])=.ok [x0,x1,x2,x3,x4,BE c.1,wD c.2,t7,t8,t9,O,O,O]:=rfl;show ∃r,fl G _ _ 2000 (.many [5,6]) fB (.tuple [BE c.1,wD c.2]::GF L) _=_/\_;cases hh:NX (kw.take i) c.1 with
  |true=>
   rw[hh] at hn;obtain⟨r,e,o⟩:=ih (t1:=t1) (t5:=BE c.1) (t6:=wD c.2) (t7:=t7) (t8:=t8) (t9:=t9) hr (hq.seen hh) hm;exact⟨r,El hb (zr (ze rfl rfl hn) rfl) e,o⟩
  |false=>
   rw[hh] at hn;obtain⟨hg,hq1⟩:=hq.new hh;have hi:i<kw.length:=(List.getElem?_eq_some_iff.mp hg).1;have hi':i<kw'.length:=qD hi hr.pre.length_le;have hg':kw'[i]?=some c:=(DQ hr.pre hi).trans hg;have hcw:c.2.length<1000:=qB (hw c (v9 hg')) (qB hl (by decide));have hdr:=Ur hg';have hsn:OF (kw.take (i+1))=OF (kw.take i)++[BE c.1]:=by rw[EB hg];exact vU
   have hsl:(OF (kw.take i)).length<1000000:=by
    unfold OF;rw[uJ];exact qB (List.length_take_le ..) (uS hi' (qB hl (by decide)))
   have ap:∀{t1:D},exec G (zd G T 2000 (N+1)) (zj G T 2000 (N+1)) 2000 (.app 3 (.var 5)) [jV st,t1,lay,.list (OF (kw.take i)),.list (GF more),BE c.1,wD c.2,t7,t8,t9,O,O,O]=.ok (.next,[jV st,t1,lay,.list (OF (kw.take (i+1))),.list (GF more),BE c.1,wD c.2,t7,t8,t9,O,O,O]):=D7 rfl rfl hsl rfl hsn.symm;have asg:∀{t1 sn:D},exec G (zd G T 2000 (N+1)) (zj G T 2000 (N+1)) 2000 (.assign (.many [7,8,9]) (.var 5)) [jV st,t1,lay,sn,.list (GF more),BE c.1,wD c.2,t7,t8,t9,O,O,O]=.ok (.next,jV st::t1::lay::sn::.list (GF more)::fX c):=rfl;have hc:=λx0 x1 x2 x3 x4=>f5 (N:=N) c (x0:=x0) (x1:=x1) (x2:=x2) (x3:=x3) (x4:=x4);cases hx:TX c.1 with
   |true=>
    rw[hx] at hc;refine⟨_,Y1 hb (zu (ze rfl rfl hn) (zh ap (zh asg (Tw (zu (hc ..) rfl))))),.ret c.2 _ ?_⟩;rw[hdr,Cg,hx];rfl
   |false=>
    rw[hx] at hc;obtain⟨σ,e,q⟩:=IY (cf:=zd G T 2000 (N+1)) (cio:=zj G T 2000 (N+1)) (i:=1) (j:=0) (s:=fK) (P:=F0 st lay (.list (OF (kw.take (i+1)))) more c) (xs:=st.map BE) (ρ:=jV st::t1::lay::.list (OF (kw.take (i+1)))::.list (GF more)::fX c)
     (λk ρ hk=>Ux hcw (by exact qB hm (qB (vF 4 (qA (qC hi') hl)) (by decide))) (by rwa [uJ] at hk) hst) rfl (by rw[uJ];exact qA hst (by decide)) (by
      have:=F0.mk (st:=st) (lay:=lay) (sn:=.list (OF (kw.take (i+1)))) (more:=more) (p:=c) (k:=0) t1;rw[show more++Fo st c (v5 0)=more from vS _] at this;exact this)
    rw[uJ] at q;obtain⟨u1⟩:=q;have hr1:=hr.next hg;have hq2:KM st (AI kw (Fo st c (v5 st.length))) (i+1) ((L++more)++Fo st c (v5 st.length)):=hq1.go;rw[uN] at hq2;have ht:(AI kw (Fo st c (v5 st.length))).take (i+1)=kw.take (i+1):=Kg (Au _ _) hi;have hcl:=Mb st c (v5 st.length);rw[List.length_range] at hcl;obtain⟨r,e2,o⟩:=ih (t1:=u1) (t5:=BE c.1) (t6:=wD c.2) (t7:=ds (zB c.1.1)) (t8:=ds (zB c.1.2.1)) (t9:=k9 c.1.2.2) hr1 hq2 (by rw[uE];exact uR hm (qA hcl hst));rw[ht] at e2;refine⟨r,El hb (zu (ze rfl rfl hn) (zh ap (zh asg (zh (zr (hc ..) rfl) e)))) e2,?_⟩;have hf:jZ (kw'.drop i)=jZ (kw'.drop (i+1)):=by rw[hdr,Cg,hx];rfl
    induction o using LO.casesOn with
    |ret w σ h=>exact .ret w σ (hf.trans h)
    |nxt kw2 more2 i2 t1 t5 t6 t7 t8 t9 r q f l le s=>exact .nxt kw2 more2 i2 _ _ _ _ _ _ r q (hf.trans f) l (qC le) λe=>absurd le (by rw[e];exact Nat.not_succ_le_self _)
theorem Uy(hst:st.length<=4){kw':KW}(hl:kw'.length<=324)(hw:WL kw'):∀(m:Nat) {L kw:KW} {i:Nat} {t1 t4 t5 t6 t7 t8 t9:D},Eg st kw i kw'->KM st kw i L->1<=m->(L≠[]->kw'.length+2<=i+m)->
  ∃σ,wl G (zd G T 2000 (N+1)) (zj G T 2000 (N+1)) 2000 (.lit (.bool true)) fW m [jV st,t1,.list (GF L),.list (OF (kw.take i)),t4,t5,t6,t7,t8,t9,O,O,O]=.ok (match jZ (kw'.drop i) with|some w=>.ret (wD w)|none=>.next,σ):=by
 intro m;induction m with
 |zero=>intro L kw i t1 t4 t5 t6 t7 t8 t9 _ _ h;exact absurd h (by decide)
 |succ m ih=>
  intro L kw i t1 t4 t5 t6 t7 t8 t9 hr hq h1 hm;induction L using uB with
  |nil=>
   rw[hr.end hq.fin];exact⟨_,(GW rfl).trans rfl⟩
  |cons c L=>
   have hm:=hm (uI _ _);have hi:=qA hq.le hr.pre.length_le;have he:∀{x0 x1:D} {ρ:zg},ev G (zd G T 2000 (N+1)) (.bin .eq (.var 2) (.list .nil)) (x0::x1::.list (GF (c::L))::ρ)=.ok (.bool false):=ze rfl (Dg rfl rfl) (DF _);obtain⟨r,e,o⟩:=YZ (N:=N) hst hl hw (.list (GF (c::L))) (c::L) (more:=[]) (t1:=t1) (t5:=t5) (t6:=t6) (t7:=t7) (t8:=t8) (t9:=t9) hr (by rw[vS];exact hq) (uZ _);induction o using LO.casesOn with
   |ret w σ h=>
    rw[h];exact⟨σ,(GW rfl).trans (congrArg (R.bind · _) (zh (zr he rfl) (zh rfl (Tw (Ap (xs:=GF (c::L)) rfl e)))))⟩
   |nxt kw2 more2 i2 u1 u5 u6 u7 u8 u9 r q f l le s=>
    rw[f];obtain⟨σ,e2⟩:=ih (L:=more2) (t1:=u1) (t4:=.list (GF more2)) (t5:=u5) (t6:=u6) (t7:=u7) (t8:=u8) (t9:=u9) r q (by lia) (λhne=>by
     have:i2≠i:=λe=>hne (s e);exact qA hm (by rw[Nat.add_succ,<-Nat.succ_add];exact uM (Nat.lt_of_le_of_ne le (y7 this)) _))
    exact⟨σ,WJ rfl (zh (zr he rfl) (zh rfl (zh (Ap (xs:=GF (c::L)) rfl e) rfl))) e2⟩
theorem Qu(hst:st.length<=4){kw:KW}(h:Eg st (F6 st) 0 kw)(hl:kw.length<=324):zd G T 2000 (N+2) 24 [jV st]=.ok (zT (jZ kw)):=by
 refine(Jp ..).trans ?_;have h0:ev G (zd G T 2000 (N+1)) (.comp [none,none,(some 0)] true (.un .len (.var 0)) (.one 1) (.elt (.lit (.bool true)) (.tup (.cons (.bin .idx (.var 2) (.var 1)) (.cons (.list (.cons (.var 1) .nil)) .nil))))) [jV st,O,O,O,O,O,O,O,O,O,O,O,O]=.ok (.list (GF ((v5 st.length).flatMap λk=>match st[k]? with|some s=>[(s,[k])]|none=>[]))):=by
  have hL:ev G (zd G T 2000 (N+1)) (.un .len (.var 0)) [jV st,O,O,O,O,O,O,O,O,O,O,O,O]=.ok (.int (st.length:Nat)):=
   BJ (x:=jV st) rfl (congrArg (λn:Nat=>R.ok (uT n)) (uJ _))
  have hX:zA true (.int (st.length:Nat))=.ok ((v5 st.length).map λ(k:Nat)=>uT k):=
   if_pos ⟨wS _,Int.ofNat_le.mpr (qA hst (by decide))⟩
  refine(FW (g:=λd=>match jd (jV st) d with|.ok x=>.tuple [x,.list [d]]|_=>.none) (λσ=>∃a b,σ=[a,b,jV st]) hL hX (by rw[uJ,List.length_range];exact qB hst (by decide)) ⟨_,_,rfl⟩ ?_).trans ?_
  rotate_left
  ·rw[yU,GF,List.map_flatMap,List.map_eq_flatMap];refine congrArg (λl=>R.ok (w8 l)) (Y2 λk hk=>?_);have hk:=List.mem_range.mp hk;have hi:jd (jV st) (.int k)=.ok (BE st[k]):=AM (uA hk);show[match jd (jV st) (.int k) with|.ok x=>PyData.tuple [x,.list [.int k]]|_=>.none]=_;rw[hi,uA hk];rfl
  ·rintro σ ⟨a,b,rfl⟩ d hd;obtain⟨k,hk,rfl⟩:=List.mem_map.mp hd;have hk:=List.mem_range.mp hk;have hi:jd (jV st) (.int k)=.ok (BE st[k]):=AM (uA hk);refine⟨[a,.int k,jV st],⟨_,_,rfl⟩,rfl,?_⟩;rw[hi];exact⟨zV (zi (ze rfl rfl hi) (zi (Dg rfl rfl) rfl)) rfl,rfl⟩
 obtain⟨σ,e⟩:=Uy (N:=N) hst hl (h.wl (UI st)) 2000 (t1:=.none) (t4:=.none) (t5:=.none) (t6:=.none) (t7:=.none) (t8:=.none) (t9:=.none) h (QO st) (by decide) (λ_=>qA (uM hl 2) (by decide));rw[List.drop_zero] at e;cases hf:jZ kw with
 |none=>
  rw[hf] at e;exact Rt.fin (Rt.asg h0 (Rt.nxt rfl (Rt.nxt e (Rt.ret rfl))))
 |some w=>
  rw[hf] at e;exact Rt.fin (Rt.asg h0 (Rt.nxt rfl (Rt.seq ⟨σ,e⟩)))
end
inductive BL(t0 t1 t2 t3 t4 t6 t7:D)(M:Mx)(c:Nat):zg->Prop
 |mk(kvs:List (D×D))(t8:D)(h:EI kvs M c):BL t0 t1 t2 t3 t4 t6 t7 M c [t0,t1,t2,t3,t4,.dict kvs,t6,t7,t8,O,O,O,O,O,O]
section
variable{cf cio:Nat->List D->R D}{t0 t1 t2 t3 t4 t7 t8:D}{M:Mx}{c:Nat}{kvs:List (D×D)}
theorem DA(i j b:Bool)(hi:jd t7 (.int (b2 i))=.ok (.bool b))(hc:c<1000)(h:EI kvs M c):
  exec G cf cio 2000 Pu [t0,t1,t2,t3,t4,.dict kvs,.int (b2 j),t7,.int (b2 i),O,O,O,O,O,O]=.ok (.next,[t0,t1,t2,t3,t4,.dict (BI kvs (A5 i j) (.bool b)),.int (b2 j),t7,.int (b2 i),O,O,O,O,O,O]):=
 X6 (ze rfl rfl hi) rfl (h.put hc i j b).1
theorem G3(j:Bool)(o:OP)(hc:c<900)(h:EI kvs M c)(h1:O8 M false j=none)(h2:O8 M true j=none):
  Nx cf cio (.forr (.one 8) false (.var 7) Pu) [t0,t1,t2,t3,t4,.dict kvs,.int (b2 j),KX o,t8,O,O,O,O,O,O] (BL t0 t1 t2 t3 t4 (.int (b2 j)) (KX o) (DY (DY M false j o.1) true j o.2) (c+2)):=by
 obtain⟨o1,o2⟩:=o;have e1:DY M false j none=M:=by rw[<-h1,Gp]
 induction o1 using uW with
 |none=>
  rw[e1];induction o2 using uW with
  |none=>exact⟨_,rfl,⟨kvs,t8,by show EI kvs (DY M true j none) (c+2);rw[<-h2,Gp];exact h.up.up⟩⟩
  |some b=>exact⟨_,AC rfl (rB.trans (jU (DA true j b rfl (uS hc (by decide)) h) rfl)),⟨_,_,(h.put (uS hc (by decide)) true j b).2.up⟩⟩
 |some a=>
  have k:=(h.put (uS hc (by decide)) false j a).2;induction o2 using uW with
  |none=>
   refine⟨_,AC rfl (rA.trans (jU (DA false j a rfl (uS hc (by decide)) h) rfl)),⟨_,_,?_⟩⟩;have e2:DY (DY M false j (some a)) true j none=DY M false j (some a):=by
    have:O8 (DY M false j (some a)) true j=none:=by rw[at_set,if_neg (by induction j using tZ<;>decide),h2]
    rw[<-this,Gp]
   show EI _ (DY (DY M false j (some a)) true j none) (c+2);rw[e2];exact k.up
  |some b=>exact⟨_,AC rfl (rC.trans (jU (DA false j a rfl (uS hc (by decide)) h) (jU (DA true j b rfl (by exact qB ‹_› (by decide)) k) rfl))),⟨_,_,(k.put (by exact qB ‹_› (by decide)) true j b).2⟩⟩
end
noncomputable def BG(out:List Nd)(g:Nd):List Nd:=if out.contains g then out else out++[g]
noncomputable def gN(f g:Bool)(o o':OP):Nd:=(f,g,o.1,o'.1,o.2,o'.2)
noncomputable def cl(f:Bool)(p q:Tok):E->List Tok->List Nd->List Nd
 |.num _,_,out=>out
 |.name _,_,out=>out
 |.pred a,kn,out=>cl f p q a kn out
 |.succ a,kn,out=>cl f p q a kn out
 |.iff z a b,kn,out=>cl f p q b (kn++[z]) (cl f p q a kn out)
 |.call g a b,kn,out=>BG (cl f p q b kn (cl f p q a kn out)) (gN f g (bd p q kn a) (bd p q kn b))
noncomputable def E.nc:E->Nat
 |.num _=>0
 |.name _=>0
 |.pred a=>a.nc
 |.succ a=>a.nc
 |.iff _ a b=>a.nc+b.nc
 |.call _ a b=>a.nc+b.nc+1
theorem FO(out:List Nd)(g:Nd):(BG out g).length<=out.length+1:=by
 unfold BG;split
 ·exact w4 _
 ·rw[uE];exact uK _
theorem FV(f:Bool)(p q:Tok):∀(e:E) (kn:List Tok) (out:List Nd),(cl f p q e kn out).length<=out.length+e.nc:=by
 intro e;induction e with
 |num=>intro kn out;exact uK _
 |name=>intro kn out;exact uK _
 |pred a ih=>exact ih
 |succ a ih=>exact ih
 |iff z a b iha ihb=>
  intro kn out;exact qA (ihb _ _) (qA (uM (iha kn out) _) (vC (vD _ _ _)))
 |call g a b iha ihb=>
  intro kn out;exact qA (FO _ _) (uL (qA (ihb _ _) (qA (uM (iha kn out) _) (vC (vD _ _ _)))))
theorem E5{cf cio:Nat->List D->R D}{ρ:zg}{f i:Nat}{es:PEs}{xs:List D}{x:D}(h:evs G cf es ρ=.ok xs)(g:cio f (xs++[zq ρ i])=.ok x):exec G cf cio 2000 (.io f es i) ρ=.ok (.next,ρ.set i x):=(congrArg (R.bind · _) h).trans (pG g)
theorem Yl(x:Nd)(out:List Nd):((out.map Ay).any λy=>vK y (Ay x))=out.contains x:=by
 rw[List.any_map,List.contains_eq_any_beq];refine congrArg (List.any out) (funext λy=>?_);show vK (Ay y) (Ay x)=(x==y);rw[F4];exact Bool.beq_comm ..
theorem TN{cf cio:Nat->List D->R D}{t0 t1 t2 t3 t5 t6 t7 t8:D}{out:List Nd}{g:Nd}(ho:out.length<1000000):
  exec G cf cio 2000 (.ifs (.bin .nmem (.var 9) (.var 4)) (.app 4 (.var 9)) .skip) [t0,t1,t2,t3,jh out,t5,t6,t7,t8,Ay g,O,O,O,O,O]=.ok (.next,[t0,t1,t2,t3,jh (BG out g),t5,t6,t7,t8,Ay g,O,O,O,O,O]):=by
 have hn:=FE (x:=Ay g) rfl (qA (F3 g) (by decide)) (out.map Ay);rw[Yl] at hn;unfold BG;generalize out.contains g=w at hn;induction w using tZ with
 |false=>exact zu (ze rfl rfl hn) (D7 rfl rfl (by rw[uJ];exact ho) rfl (by show _=(out++[g]).map Ay;rw[vU];rfl))
 |true=>exact zr (ze rfl rfl hn) rfl
theorem nS{n:Nat}{a0 a1 a2 a3 a4 r:D}{σ:zg}(h:exec G (zd G T 2000 n) (zj G T 2000 n) 2000 DG.body [a0,a1,a2,a3,a4,O,O,O,O,O,O,O,O,O,O]=.ok (.next,σ))(e:zq σ 4=r):zj G T 2000 (n+1) 16 [a0,a1,a2,a3,a4]=.ok r:=
 (FX ..).trans ((congrArg (R.bind · _) h).trans (congrArg R.ok e))
theorem ZS{k a b m l:Nat}(h:k+(a+b)<m)(g:l<=k+a):l+b<m:=qB (uM g b) (vD k a b▸h)
theorem Jk{f:Bool}{p q:Tok}(hpq:p≠q):∀(e:E) (n:Nat) (kn:List Tok) (out:List Nd),e.wf p q->kn.length+e.dep<900->out.length+e.nc<900->e.dep<n->
  zj G T 2000 n 16 [ds (zB f),zm [p,q],e.d,zm kn,jh out]=.ok (jh (cl f p q e kn out)):=by
 intro e;induction e with
 |num i=>
  intro n kn out hw hk ho hn;refine FJ hn λn _=>?_;exact(FX ..).trans rfl
 |name z=>
  intro n kn out hw hk ho hn;refine FJ hn λn _=>?_;exact(FX ..).trans rfl
 |pred a ih=>
  intro n kn out hw hk ho hn;refine FJ hn λn hn'=>?_;exact nS (zu rfl (E5 rfl (ih n kn out hw (xG hk) ho hn'))) rfl
 |succ a ih=>
  intro n kn out hw hk ho hn;refine FJ hn λn hn'=>?_;exact nS (zu rfl (E5 rfl (ih n kn out hw (xG hk) ho hn'))) rfl
 |iff z a b iha ihb=>
  intro n kn out hw hk ho hn;refine FJ hn λn hn'=>?_;have iha:=iha n kn out hw.2.1 (nJ hk) (rW ho) (qB (vV ..) hn');have ihb:=ihb n (kn++[z]) (cl f p q a kn out) hw.2.2 (by rw[uE];exact iJ hk) (ZS ho (FV f p q a kn out)) (qB (vP ..) hn');have hap:=I6 kn z (qB (uV _ _) (uS hk (by decide)));exact nS (zr rfl (zu rfl (zh (E5 rfl iha) (E5 (zi rfl (zi rfl (zi rfl (zi (ze rfl rfl hap) rfl)))) ihb)))) rfl
 |call g a b iha ihb=>
  intro n kn out hw hk ho hn;refine FJ hn λn hn'=>?_;have ha':=qB (vV ..) hn';have hb':=qB (vP ..) hn';have ho':out.length+(a.nc+b.nc)<900:=xG ho;have iha:=iha n kn out hw.1 (nJ hk) (rW ho') ha';have ihb:=ihb n kn (cl f p q a kn out) hw.2 (rV hk) (ZS ho' (FV f p q a kn out)) hb';have hl2:=qB (FV f p q b kn (cl f p q a kn out)) (ZS ho' (FV f p q a kn out));have ba:=Je hpq a n kn hw.1 (nJ hk) ha';have bb:=Je hpq b n kn hw.2 (rV hk) hb';obtain⟨n,rfl,_⟩:=ki ha';obtain⟨σ,l0,⟨kvs,t8,h0⟩⟩:=G3 (cf:=zd G T 2000 (n+1)) (cio:=zj G T 2000 (n+1)) (t0:=ds (zB f)) (t1:=zm [p,q]) (t2:=(E.call g a b).d) (t3:=zm kn) (t4:=jh (cl f p q a kn out)) (t8:=.none) false (bd p q kn a) (by decide) EI.nil rfl rfl;obtain⟨σ,l1,⟨kvs',t8',h1⟩⟩:=G3 (cf:=zd G T 2000 (n+1)) (cio:=zj G T 2000 (n+1)) (t0:=ds (zB f)) (t1:=zm [p,q]) (t2:=(E.call g a b).d) (t3:=zm kn) (t4:=jh (cl f p q b kn (cl f p q a kn out))) (t8:=t8) true (bd p q kn b) (by decide) h0 rfl rfl;have har:=G1 (n:=n) h1;clear hn hn' ha' hb' ho ho' hk hw h0 h1;exact nS (zr rfl (zr rfl (zu rfl (zh rfl (zh (AC rfl (By.trans (jU (zh (E5 rfl iha) (zh (zw (zl rfl ba)) l0)) (jU (zh (E5 rfl ihb) (zh (zw (zl rfl bb)) l1)) rfl))))
    (zh (zw (zV (zi rfl (zi rfl (zi (zl rfl har) rfl))) rfl)) (TN (g:=gN f g (bd p q kn a) (bd p q kn b)) (uS hl2 (by decide))))))))) rfl
set_option genCtorIdx false in
set_option genInjectivity false in
structure Fn where
 me:Bool
 p:Tok
 q:Tok
 e:E
noncomputable def Fn.d(f:Fn):D:=.tuple [ds (zB f.me),zm [f.p,f.q],f.e.d]
def Fn.ok(f:Fn):Prop:=f.p≠f.q/\f.e.wf f.p f.q/\f.e.dep<100/\f.e.nc<100
theorem ND{n:Nat}{a b:Fn}(ha:a.ok)(hb:b.ok)(hn:100<=n):zd G T 2000 (n+1) 17 [.list [a.d,b.d]]=.ok (jh (cl b.me b.p b.q b.e [] (cl a.me a.p a.q a.e [] []))):=by
 refine(Ui ..).trans ?_;have l:=FV a.me a.p a.q a.e [] [];have ca:=Jk (f:=a.me) ha.1 a.e n [] [] ha.2.1 (by show 0+_<900;have:=ha.2.2.1;(apply bs;(repeat' first|exact qC ‹_›|assumption|exact uK 0|exact uK 1|apply uR);rfl)) (by show 0+_<900;have:=ha.2.2.2;(apply bs;(repeat' first|exact qC ‹_›|assumption|exact uK 0|exact uK 1|apply uR);rfl)) (qD ha.2.2.1 hn);have cb:=Jk (f:=b.me) hb.1 b.e n [] (cl a.me a.p a.q a.e [] []) hb.2.1 (by show 0+_<900;have:=hb.2.2.1;(apply bs;(repeat' first|exact qC ‹_›|assumption|exact uK 0|exact uK 1|apply uR);rfl)) (by have:=ha.2.2.2;have:=hb.2.2.2;change _<=0+_ at l;exact qB (uR (qA l (vC (xD _))) (qC this)) (qD (Nat.add_lt_add_right ‹a.e.nc<100› 100) (by decide))) (qD hb.2.2.1 hn);exact Rt.fin (Rt.nxt rfl (Rt.nxt (Ap (xs:=[a.d,b.d]) rfl (El rfl (E5 (zi rfl (zi rfl (zi rfl (zi rfl rfl)))) ca) (El rfl (E5 (zi rfl (zi rfl (zi rfl (zi rfl rfl)))) cb) rfl))) (Rt.ret rfl)))
set_option genCtorIdx false in
set_option genInjectivity false in
inductive X where
 |num(i:Nat)
 |name(z:Tok)
 |par(a:X)
 |pred(a:X)
 |succ(a:X)
 |iff(z:Tok)(a b:X)
 |call(g:Bool)(a b:X)
noncomputable def X.e:X->E
 |.num i=>.num i
 |.name z=>.name z
 |.par a=>a.e
 |.pred a=>.pred a.e
 |.succ a=>.succ a.e
 |.iff z a b=>.iff z a.e b.e
 |.call g a b=>.call g a.e b.e
noncomputable def X.tx:X->List Nat
 |.num i=>RI i
 |.name z=>z
 |.par a=>[40,32]++a.tx++[32,41]
 |.pred a=>a.tx++[32,45,32,49]
 |.succ a=>a.tx++[32,43,32,49]
 |.iff z a b=>[105,102,32]++z++[32,116,104,101,110,32]++a.tx++[32,101,108,115,101,32]++b.tx
 |.call g a b=>zB g++[32,40,32]++a.tx++[32,44,32]++b.tx++[32,41]
def pT(me:Bool):Tok:=bif me then Fb else nX
def qT(me:Bool):Tok:=bif me then nX else Fb
theorem iU(me:Bool):pT me≠qT me:=by induction me using tZ<;>decide
noncomputable def E.nk(p:Tok)(k0 k1:Bool):E->Bool
 |.name z=>if z=p then k0 else k1
 |_=>false
noncomputable def bk(p q:Tok):E->Bool->Bool->OP
 |.num i,k0,k1=>if i=0 then(some k0,some k1) else if i=1 then(if k0 then some false else none,if k1 then some false else none) else(none,none)
 |.name z,_,_=>if z=p then(some false,none) else(none,some false)
 |.pred a,k0,k1=>((bk p q a k0 k1).1.map (·||a.nk p k0 k1),(bk p q a k0 k1).2.map (·||a.nk p k0 k1))
 |.succ a,k0,k1=>(CG (bk p q a k0 k1).1,CG (bk p q a k0 k1).2)
 |.iff z a b,k0,k1=>(JF (bk p q a k0 k1).1 (bk p q b (k0||decide (z=p)) (k1||decide (z=q))).1,JF (bk p q a k0 k1).2 (bk p q b (k0||decide (z=p)) (k1||decide (z=q))).2)
 |.call _ _ _,_,_=>(none,none)
theorem Jo(kn:List Tok)(z p:Tok):(kn++[z]).contains p=(kn.contains p||decide (z=p)):=by
 rw[xX,wN,List.mem_append,List.mem_singleton,xY,wN,decide_eq_true_eq];exact⟨λh=>h.imp id vR,λh=>h.imp id vR⟩
theorem W4:∀(e:E) (kn:List Tok),e.wf p q->bd p q kn e=bk p q e (kn.contains p) (kn.contains q):=by
 intro e;induction e with
 |num i=>intro kn _;rfl
 |name z=>intro kn _;rfl
 |pred a ih=>
  intro kn hw;have h:a.nm? kn=a.nk p (kn.contains p) (kn.contains q):=by
   induction a using E.casesOn with
   |name z=>
    show kn.contains z=if z=p then _ else _
    by_cases e:z=p
    ·rw[if_pos e,e]
    ·rw[if_neg e,(show z=p\/z=q from hw).resolve_left e]
   |_=>rfl
  show(yN (λx=>x||a.nm? kn) (bd p q kn a).1,yN (λx=>x||a.nm? kn) (bd p q kn a).2)=_;rw[h,ih kn hw];rfl
 |succ a ih=>intro kn hw;show(CG (bd p q kn a).1,CG (bd p q kn a).2)=_;rw[ih kn hw];rfl
 |iff z a b iha ihb=>
  intro kn hw;show(JF (bd p q kn a).1 (bd p q (kn++[z]) b).1,JF (bd p q kn a).2 (bd p q (kn++[z]) b).2)=_;rw[iha kn hw.2.1,ihb _ hw.2.2,Jo,Jo];rfl
 |call g a b=>intro kn _;rfl
abbrev kM(me k0 k1:Bool)(x:X):OP:=bk (pT me) (qT me) x.e k0 k1
def PD(me k0 k1:Bool)(x:X):D:=.tuple [ds x.tx,x.e.d,.int (oi (kM me k0 k1 x).1),.int (oi (kM me k0 k1 x).2)]
def Bm(me:Bool):D:=.tuple [ds (pT me),ds (qT me)]
noncomputable def JR(p q:Tok):List X:=[.name p,.name q,.pred (.name p),.pred (.name q),.num 0,.num 1,.num 2,.num 10,.name p,.pred (.name p),.name q,.par (.name q)]
def j4(me:Bool)(j:Nat):X:=(JR (pT me) (qT me)).getD j (.num 0)
noncomputable def BY(c:Int):Nat:=(c % 12).toNat
theorem Dr(c:Int):BY c<12:=by unfold BY;exact(zbj (y0 _ (by decide))).mpr (yH _ (by decide))
theorem Z7(c:Int):((BY c:Nat):Int)=c % 12:=by unfold BY;exact zaa (y0 _ (by decide))
theorem J6(c:Int):Om (.int c) (.int 12)=.ok (.int (BY c)):=by rw[Z7];rfl
theorem RY(me:Bool):(pT me).length<=2:=by induction me using tZ<;>decide
theorem LH(me:Bool):(qT me).length<=2:=by induction me using tZ<;>decide
theorem N9(me k0 k1:Bool):([
  .tuple [ds (pT me),Ba (pT me),.int 1,.int 0],.tuple [ds (qT me),Ba (qT me),.int 0,.int 1],
  .tuple [ds (pT me++[32,45,32,49]),C3 (Ba (pT me)),.int (1+b2 k0),.int 0],.tuple [ds (qT me++[32,45,32,49]),C3 (Ba (qT me)),.int 0,.int (1+b2 k1)],
  .tuple [ds [48],Ej 0,.int (1+b2 k0),.int (1+b2 k1)],.tuple [ds [49],Ej 1,.int (b2 k0),.int (b2 k1)],
  .tuple [ds [50],Ej 2,.int 0,.int 0],.tuple [ds [49,48],Ej 10,.int 0,.int 0],
  .tuple [ds (pT me),Ba (pT me),.int 1,.int 0],.tuple [ds (pT me++[32,45,32,49]),C3 (Ba (pT me)),.int (1+b2 k0),.int 0],
  .tuple [ds (qT me),Ba (qT me),.int 0,.int 1],.tuple [ds ([40,32]++qT me++[32,41]),Ba (qT me),.int 0,.int 1]]:List D)=(JR (pT me) (qT me)).map (PD me k0 k1):=by
 induction me using tZ<;>induction k0 using tZ<;>induction k1 using tZ<;>rfl
theorem Rh(me:Bool)(j:Nat)(h:j<12):(JR (pT me) (qT me))[j]?=some (j4 me j):=by
 unfold j4;rw[uH,uA (show j<(JR (pT me) (qT me)).length from h)];rfl
theorem Iq(me k0 k1:Bool)(c:Int):zd G T 2000 (n+1) 19 [.int c,Bm me,.int (b2 k0),.int (b2 k1)]=.ok (PD me k0 k1 (j4 me (BY c))):=by
 refine(K9 ..).trans ?_;have hx:jd (.tuple ((JR (pT me) (qT me)).map (PD me k0 k1))) (.int (BY c))=.ok (PD me k0 k1 (j4 me (BY c))):=by
  rw[BK,v6,Rh me _ (Dr c)];rfl
 rw[<-N9] at hx;have s1:∀{ρ:zg},zq ρ 4=ds (pT me)->Sv (zd G T 2000 n) (.bin .add (.var 4) (.lit (.str ⟨#[32,45,32,49]⟩))) ρ (pT me++[32,45,32,49]) (2+4):=λh=>Sv.add ⟨congrArg R.ok h,RY me⟩ ⟨rfl,l4⟩ rfl;have s2:∀{ρ:zg},zq ρ 5=ds (qT me)->Sv (zd G T 2000 n) (.bin .add (.var 5) (.lit (.str ⟨#[32,45,32,49]⟩))) ρ (qT me++[32,45,32,49]) (2+4):=λh=>Sv.add ⟨congrArg R.ok h,LH me⟩ ⟨rfl,l4⟩ rfl;have s3:∀{ρ:zg},zq ρ 5=ds (qT me)->Sv (zd G T 2000 n) (.bin .add (.bin .add (.lit (.str ⟨#[40,32]⟩)) (.var 5)) (.lit (.str ⟨#[32,41]⟩))) ρ ([40,32]++qT me++[32,41]) (2+2+2):=λh=>Sv.add (Sv.add ⟨rfl,l2⟩ ⟨congrArg R.ok h,LH me⟩ rfl) ⟨rfl,l2⟩ rfl;exact Rt.fin (Rt.asgm rfl rfl (Rt.asg rfl (Rt.asg rfl (Rt.asg (zV (zi (s1 rfl).h rfl) rfl) (Rt.asg (zV (zi (s2 rfl).h rfl) rfl) (Rt.asg rfl (Rt.asg rfl (Rt.asg (zV (zi (s3 rfl).h rfl) rfl) (Rt.ret (ze rfl (ze rfl rfl (J6 c)) hx))))))))))
noncomputable def XJ(o:Bool)(x:X):X:=bif o then .succ x else .pred x
noncomputable def TC(o:Bool):Nat:=bif o then 43 else 45
inductive AE(c d:Int)(me k0 k1:Bool)(x:X):zg->Prop
 |mk(t9 t10 t11 t12:D):AE c d me k0 k1 x [.int c,.int d,Bm me,.int (b2 k0),.int (b2 k1),ds x.tx,x.e.d,.int (oi (kM me k0 k1 x).1),.int (oi (kM me k0 k1 x).2),t9,t10,t11,t12,O,O,O,O]
theorem MP(o:OB):max (oi o - 1) 0=oi (CG o):=by rcases o with _|_|_<;>rfl
theorem iS(x:X)(o:Bool):x.tx++[32]++[TC o]++[32,49]=(XJ o x).tx:=by
 induction o using tZ
 ·show _=x.tx++[32,45,32,49];rw[uN,uN];rfl
 ·show _=x.tx++[32,43,32,49];rw[uN,uN];rfl
theorem Hr(o:OB):o.map (·||false)=o:=by rcases o with _|_|_<;>rfl
theorem Vh(o:OB)(h:o=none\/o=some false)(k:Bool):J8 (.int (oi o)) (.int (1+b2 k))=.ok (.int (oi (o.map (·||k)))):=by
 rcases h with rfl|rfl<;>induction k using tZ<;>rfl
theorem Hn{e:E}{p:Tok}{k0 k1:Bool}(h:e.isName=false):e.nk p k0 k1=false:=by
 induction e using E.casesOn with
 |name z=>exact tf h
 |_=>rfl
theorem UT(e:E):I3 (ds e.kind) (.str ⟨#[110,97,109,101]⟩)=.ok (.bool e.isName):=by induction e using E.casesOn<;>rfl
section
variable{cf cio:Nat->List D->R D}{c d:Int}{me k0 k1:Bool}{x:X}{ρ:zg}
theorem Vv(o:Bool)(hl:x.tx.length<=500)(h:AE c d me k0 k1 x ρ):Nx cf cio cQ (ρ.set 12 (ds [TC o])) (AE c d me k0 k1 (XJ o x)):=by
 obtain⟨t9,t10,t11,t12⟩:=h;have st:∀{ρ:zg},zq ρ 5=ds x.tx->zq ρ 12=ds [TC o]->Sv cf (.bin .add (.bin .add (.bin .add (.var 5) (.lit (.str ⟨#[32]⟩))) (.var 12)) (.lit (.str ⟨#[32,49]⟩))) ρ (x.tx++[32]++[TC o]++[32,49]) (500+1+1+2):=
  λh g=>Sv.add (Sv.add (Sv.add ⟨congrArg R.ok h,hl⟩ ⟨rfl,l1⟩ rfl) ⟨congrArg R.ok g,l1⟩ rfl) ⟨rfl,l2⟩ rfl
 rw[iS] at st;induction o using tZ with
 |true=>
  refine⟨_,zh (zw (st rfl rfl).h) (zu rfl (zh (zw rfl) (zh (zw rfl) (zw rfl)))),?_⟩;have mk:=AE.mk (c:=c) (d:=d) (me:=me) (k0:=k0) (k1:=k1) (x:=.succ x) t9 t10 t11 (ds [TC true]);have e1:oi (kM me k0 k1 x.succ).1=max (oi (kM me k0 k1 x).1 - 1) 0:=(MP _).symm;have e2:oi (kM me k0 k1 x.succ).2=max (oi (kM me k0 k1 x).2 - 1) 0:=(MP _).symm;rw[e1,e2] at mk;exact mk
 |false=>
  have mk:=AE.mk (c:=c) (d:=d) (me:=me) (k0:=k0) (k1:=k1) (x:=.pred x) t9 t10 t11 (ds [TC false]);have hk:=UT x.e;cases hn:x.e.isName with
  |false=>
   rw[hn] at hk;have e1:(kM me k0 k1 x.pred).1=(kM me k0 k1 x).1:=by
    show yN (λb=>b||x.e.nk _ k0 k1) (kM me k0 k1 x).1=_;rw[Hn hn,Hr]
   have e2:(kM me k0 k1 x.pred).2=(kM me k0 k1 x).2:=by
    show yN (λb=>b||x.e.nk _ k0 k1) (kM me k0 k1 x).2=_;rw[Hn hn,Hr]
   rw[e1,e2] at mk;exact⟨_,zh (zw (st rfl rfl).h) (zr rfl (zh (zr (ze (ze rfl rfl rfl) rfl hk) rfl) (zw rfl))),mk⟩
  |true=>
   rw[hn] at hk;obtain⟨z,hz⟩:=N3 hn;have m1:J8 (.int (oi (kM me k0 k1 x).1)) (.int (1+b2 k0))=.ok (.int (oi (kM me k0 k1 x.pred).1)):=by
    show _=R.ok (uT (oi (yN (λb=>b||x.e.nk _ k0 k1) (kM me k0 k1 x).1)));unfold kM;rw[hz];show J8 (.int (oi (if z=pT me then(some false,none) else(none,some false):OP).1)) _=R.ok (uT (oi (yN (λb=>b||if z=pT me then k0 else k1) (if z=pT me then(some false,none) else(none,some false):OP).1)));split
    ·exact Vh _ (wF rfl) k0
    ·exact Vh _ (xS rfl) k0
   have m2:J8 (.int (oi (kM me k0 k1 x).2)) (.int (1+b2 k1))=.ok (.int (oi (kM me k0 k1 x.pred).2)):=by
    show _=R.ok (uT (oi (yN (λb=>b||x.e.nk _ k0 k1) (kM me k0 k1 x).2)));unfold kM;rw[hz];show J8 (.int (oi (if z=pT me then(some false,none) else(none,some false):OP).2)) _=R.ok (uT (oi (yN (λb=>b||if z=pT me then k0 else k1) (if z=pT me then(some false,none) else(none,some false):OP).2)));split
    ·exact Vh _ (xS rfl) k1
    ·exact Vh _ (wF rfl) k1
   exact⟨_,zh (zw (st rfl rfl).h) (zr rfl (zh (zu (ze (ze rfl rfl rfl) rfl hk) (zh (zw (ze rfl (ze rfl rfl rfl) m1)) (zw (ze rfl (ze rfl rfl rfl) m2)))) (zw rfl))),mk⟩
theorem RU(o:Bool)(x:X):(XJ o x).tx.length=x.tx.length+4:=by induction o using tZ<;>exact uE
theorem Vu:∀(ops:List Bool) {x:X} {ρ:zg},x.tx.length+4*ops.length<=500->AE c d me k0 k1 x ρ->FL cf cio (.one 12) cQ (ops.map λo=>ds [TC o]) ρ (AE c d me k0 k1 (ops.foldl (λx o=>XJ o x) x)):=by
 intro ops;induction ops with
 |nil=>intro x ρ _ h;exact FL.nil h
 |cons o ops ih=>
  intro x ρ hl h;rw[vB] at hl;obtain⟨σ,e,q⟩:=Vv (cf:=cf) (cio:=cio) o (by exact qA (uV _ _) ‹_›) h;exact FL.cons rfl e (ih (by rw[RU];rw[wT];exact hl) q)
end
def pz(me i:Bool):Tok:=bif i then qT me else pT me
noncomputable def kinds:List (Option Bool×List Bool):=[(none,[]),(none,[false]),(none,[]),(none,[false]),(none,[true]),(none,[false,true]),(none,[false,false]),(none,[true,false]),(some false,[]),(some true,[]),(some false,[false]),(some true,[true])]
def rJ(k:Option Bool×List Bool):D:=.tuple [.int (match k.1 with|none=>2|some b=>b2 b),ds (k.2.map TC)]
theorem Q5:G.getD 4 .none=.tuple (kinds.map rJ):=rfl
noncomputable def kd(j:Nat):Option Bool×List Bool:=kinds.getD j (none,[])
theorem Zr(h:j<12):kinds[j]?=some (kd j):=by
 unfold kd;rw[uH,uA (show j<kinds.length from h)];rfl
theorem Q1(j:Nat):(kd j).2.length<=2:=by
 unfold kd
 match j with
 |0=>decide
 |1=>decide
 |2=>decide
 |3=>decide
 |4=>decide
 |5=>decide
 |6=>decide
 |7=>decide
 |8=>decide
 |9=>decide
 |10=>decide
 |11=>decide
 |n+12=>exact uZ _
def mY(me:Bool)(i:Option Bool)(a b:X):X:=match i with
 |none=>a
 |some i=>.par (.iff (pz me i) a b)
def kj(me:Bool)(c d:Int):X:=(kd (BY d)).2.foldl (λx o=>XJ o x) (mY me (kd (BY d)).1 (j4 me (BY c)) (j4 me (BY (c+d))))
theorem Co(me:Bool)(j:Nat):(j4 me j).tx.length<=6:=by
 have h:∀l:List X,(l.all λx=>decide (x.tx.length<=6))=true->∀j,(l.getD j (.num 0)).tx.length<=6:=by
  intro l hl j;rw[uH];cases hj:l[j]? with
  |none=>decide
  |some x=>exact of_decide_eq_true (uF.mp hl x (v9 hj))
 induction me using tZ
 ·exact h _ rfl j
 ·exact h _ rfl j
theorem Gj(me i:Bool):(pz me i).length<=2:=by induction me using tZ<;>induction i using tZ<;>decide
theorem LD(me i:Bool):jd (Bm me) (.int (b2 i))=.ok (ds (pz me i)):=by induction i using tZ<;>rfl
theorem gJ(k i:Bool):max (b2 k) (b2 i)=b2 (k||i):=by induction k using tZ<;>induction i using tZ<;>rfl
theorem Yn(i:Bool):1 - b2 i=b2 (!i):=by induction i using tZ<;>rfl
theorem qJ(me i:Bool):decide (pz me i=pT me)=!i:=by induction me using tZ<;>induction i using tZ<;>rfl
theorem qK(me i:Bool):decide (pz me i=qT me)=i:=by induction me using tZ<;>induction i using tZ<;>rfl
theorem RM(a b:OB):min (oi a) (oi b)=oi (JF a b):=by rcases a with _|_|_<;>rcases b with _|_|_<;>rfl
theorem KT(me k0 k1:Bool)(c d:Int):zd G T 2000 (n+2) 20 [.int c,.int d,Bm me,.int (b2 k0),.int (b2 k1)]=.ok (PD me k0 k1 (kj me c d)):=by
 refine(NM ..).trans ?_;have hL:=Iq (n:=n) me k0 k1 c;have hK:jd (G.getD 4 .none) (.int (BY d))=.ok (rJ (kd (BY d))):=by
  rw[Q5,BK,v6,Zr (Dr d)];rfl
 have ll:=Co me (BY c);have l2':=Co me (BY (c+d));have hl:=Q1 (BY d);unfold kj;generalize j4 me (BY c)=x at *;cases hkk:kd (BY d) with
 |mk i ops=>
 rw[hkk] at hK hl;have fin:∀{y:X} {ρ:zg} {t9 t11 t12:D},y.tx.length<=100->ρ=[.int c,.int d,Bm me,.int (b2 k0),.int (b2 k1),ds y.tx,y.e.d,.int (oi (kM me k0 k1 y).1),.int (oi (kM me k0 k1 y).2),t9,ds (ops.map TC),t11,t12,O,O,O,O]->
   Rt G (zd G T 2000 (n+1)) (zj G T 2000 (n+1)) 2000 (.seq (.forr (.one 12) false (.var 10) cQ) (.ret (.tup (.cons (.var 5) (.cons (.var 6) (.cons (.var 7) (.cons (.var 8) .nil))))))) ρ (PD me k0 k1 (ops.foldl (λx o=>XJ o x) y)):=by
  intro y ρ t9 t11 t12 hy hρ;obtain⟨σ,e,q⟩:=Vu (cf:=zd G T 2000 (n+1)) (cio:=zj G T 2000 (n+1)) (c:=c) (d:=d) (me:=me) (k0:=k0) (k1:=k1) ops (x:=y) (ρ:=ρ) (by change ops.length<=2 at hl;lia) (by rw[hρ];exact⟨_,_,_,_⟩);obtain⟨u9,u10,u11,u12⟩:=q;have hi:exec G (zd G T 2000 (n+1)) (zj G T 2000 (n+1)) 2000 (.forr (.one 12) false (.var 10) cQ) ρ=fl G (zd G T 2000 (n+1)) (zj G T 2000 (n+1)) 2000 (.one 12) cQ ((ops.map TC).map λc=>ds [c]) ρ:=by rw[hρ];rfl
  rw[yU] at hi;exact Rt.nxt (hi.trans e) (Rt.ret rfl)
 induction i using uW with
 |none=>exact Rt.fin (Rt.asgm (zl rfl hL) rfl (Rt.asgm (ze rfl (ze rfl rfl (J6 d)) hK) rfl (Rt.nxt (zr rfl rfl) (fin (y:=x) (qA ll (by decide)) rfl))))
 |some i=>
  have hO:=Iq (n:=n) me (k0||!i) (k1||i) (c+d);generalize j4 me (BY (c+d))=o at *;rw[<-gJ,<-gJ,<-Yn] at hO;have hc:U6 (.int (b2 i)) (.int 2)=.ok (.bool true):=by induction i using tZ<;>rfl
  have st:∀{ρ:zg},zq ρ 2=Bm me->zq ρ 9=.int (b2 i)->zq ρ 5=ds x.tx->zq ρ 11=PD me (k0||!i) (k1||i) o->
    Sv (zd G T 2000 (n+1)) (.bin .add (.bin .add (.bin .add (.bin .add (.bin .add (.bin .add (.lit (.str ⟨#[40,32,105,102,32]⟩)) (.bin .idx (.var 2) (.var 9))) (.lit (.str ⟨#[32,116,104,101,110,32]⟩))) (.var 5)) (.lit (.str ⟨#[32,101,108,115,101,32]⟩))) (.bin .idx (.var 11) (.lit (.int 0)))) (.lit (.str ⟨#[32,41]⟩))) ρ ((X.par (.iff (pz me i) x o)).tx) (5+2+6+6+6+6+2):=by
   intro ρ h2 h9 h5 h11;have i1:ev G (zd G T 2000 (n+1)) (.bin .idx (.var 2) (.var 9)) ρ=.ok (ds (pz me i)):=ze (congrArg R.ok h2) (congrArg R.ok h9) (LD me i);have i2:ev G (zd G T 2000 (n+1)) (.bin .idx (.var 11) (.lit (.int 0))) ρ=.ok (ds o.tx):=ze (congrArg R.ok h11) rfl rfl;have s:Sv (zd G T 2000 (n+1)) (.bin .add (.bin .add (.bin .add (.bin .add (.bin .add (.bin .add (.lit (.str ⟨#[40,32,105,102,32]⟩)) (.bin .idx (.var 2) (.var 9))) (.lit (.str ⟨#[32,116,104,101,110,32]⟩))) (.var 5)) (.lit (.str ⟨#[32,101,108,115,101,32]⟩))) (.bin .idx (.var 11) (.lit (.int 0)))) (.lit (.str ⟨#[32,41]⟩))) ρ ([40,32,105,102,32]++pz me i++[32,116,104,101,110,32]++x.tx++[32,101,108,115,101,32]++o.tx++[32,41]) (5+2+6+6+6+6+2):=
    Sv.add (Sv.add (Sv.add (Sv.add (Sv.add (Sv.add ⟨rfl,uK 5⟩ ⟨i1,Gj me i⟩ rfl) ⟨rfl,l6⟩ rfl) ⟨congrArg R.ok h5,ll⟩ rfl) ⟨rfl,l6⟩ rfl) ⟨i2,l2'⟩ rfl) ⟨rfl,l2⟩ rfl
   exact s
  have bq1:kM me k0 k1 (.par (.iff (pz me i) x o))=(JF (kM me k0 k1 x).1 (kM me (k0||!i) (k1||i) o).1,JF (kM me k0 k1 x).2 (kM me (k0||!i) (k1||i) o).2):=by
   show(JF _ (bk _ _ o.e (k0||decide (pz me i=pT me)) (k1||decide (pz me i=qT me))).1,JF _ (bk _ _ o.e (k0||decide (pz me i=pT me)) (k1||decide (pz me i=qT me))).2)=_;rw[qJ,qK]
  have m1:=RM (kM me k0 k1 x).1 (kM me (k0||!i) (k1||i) o).1;have m2:=RM (kM me k0 k1 x).2 (kM me (k0||!i) (k1||i) o).2;rw[show JF (kM me k0 k1 x).1 (kM me (k0||!i) (k1||i) o).1=(kM me k0 k1 (.par (.iff (pz me i) x o))).1 by rw[bq1]] at m1;rw[show JF (kM me k0 k1 x).2 (kM me (k0||!i) (k1||i) o).2=(kM me k0 k1 (.par (.iff (pz me i) x o))).2 by rw[bq1]] at m2;have hy:(X.par (.iff (pz me i) x o)).tx.length<=100:=qA (st (ρ:=[O,O,Bm me,O,O,ds x.tx,O,O,O,.int (b2 i),O,PD me (k0||!i) (k1||i) o]) rfl rfl rfl rfl).l (by decide);exact Rt.fin (Rt.asgm (zl rfl hL) rfl (Rt.asgm (ze rfl (ze rfl rfl (J6 d)) hK) rfl (Rt.nxt (zu (ze rfl rfl hc) (zh (zw (zl rfl hO)) (zh (zw (st rfl rfl rfl rfl).h) (zh (zw (zV (zi rfl (zi (ze rfl rfl (LD me i)) rfl)) rfl))
   (zh (zw (ze rfl (ze rfl rfl rfl) (congrArg (λi=>R.ok (uT i)) m1))) (zw (ze rfl (ze rfl rfl rfl) (congrArg (λi=>R.ok (uT i)) m2)))))))) (fin (y:=.par (.iff (pz me i) x o)) hy rfl))))
theorem ML(x:D)(xs:List D):FA (.list (x::xs)) (.list [])=.ok (.bool true):=by
 have h:decide (4000<min (v7 (.list (x::xs))) 1)=false:=decide_eq_false λh=>absurd (qD h (zaw _ _)) (by decide);show(if(false||false||decide (4000<min (v7 (.list (x::xs))) 1))=true then R.stuck else R.ok (vE true))=_;rw[h];rfl
theorem Vt(ops:List Bool):∀x:X,(ops.foldl (λx o=>XJ o x) x).tx.length=x.tx.length+4*ops.length:=by
 induction ops with
 |nil=>intro x;rfl
 |cons o ops ih=>intro x;rw[wX,ih,RU,vB];exact wT _ _ _
set_option tactic.hygienic true in
theorem AU(me:Bool)(c d:Int):(kj me c d).tx.length<=50:=by
 unfold kj;rw[Vt];have h:=Q1 (BY d);have h1:=Co me (BY c);have h2:=Co me (BY (c+d));have h3:(mY me (kd (BY d)).1 (j4 me (BY c)) (j4 me (BY (c+d)))).tx.length<=33:=by
  unfold mY;split
  ·exact qA h1 (by decide)
  ·rename_i i _;exact z5 (n:=31) (m:=2) (z5 (n:=2) (m:=29) l2 (z5 (n:=23) (m:=6) (z5 (n:=17) (m:=6) (z5 (n:=11) (m:=6) (z5 (n:=5) (m:=6) (z5 (n:=3) (m:=2) l3 (Gj me i)) l6) h1) l6) h2)) l2
 exact qA (uR h3 (vF 4 h)) (by decide)
def MD(me k0 k1 g:Bool)(l r:X):D:=.tuple [ds (X.call g l r).tx,(X.call g l r).e.d,BE (gN me g (kM me k0 k1 l) (kM me k0 k1 r))]
noncomputable def M5:Tok:=[110,101,115,116]
section
variable{n:Nat}{me k0 k1 g:Bool}{x2 x3 x4 x5 x6 x7 x8 x9 x10 x11 x12 x13 x14 x16 x17 x18 t26 t27 t28 t29 t30 t31 t32 t33 t34 t35 t36:D}{fm:Tok}{c1 d1 c2 d2:Int}{mds:List D}{l:X}
theorem ZT(g:Bool):jd (.tuple [ds nF,ds nX]) (.int (b2 g))=.ok (ds (zB g)):=by induction g using tZ<;>rfl
theorem Iy(g:Bool):(zB g).length<=1:=by induction g using tZ<;>exact uK 1
theorem MG(hl:l.tx.length<=120)(hm:mds.length<1000):
  exec G (zd G T 2000 (n+2)) (zj G T 2000 (n+2)) 2000 rU [ds (zB me),Bm me,x2,x3,x4,x5,x6,x7,x8,x9,x10,x11,x12,x13,x14,ds fm,x16,x17,x18,.list mds,.int (b2 g),.tuple [.int (b2 k0),.int (b2 k1)],.int c1,.int d1,.int c2,.int d2,PD me k0 k1 l,t27,t28,t29,t30,t31,t32,t33,t34,t35,t36]=
  .ok (.next,[ds (zB me),Bm me,x2,x3,x4,x5,x6,x7,x8,x9,x10,x11,x12,x13,x14,ds fm,x16,x17,x18,.list (mds++[MD me k0 k1 g l (kj me c2 d2)]),.int (b2 g),.tuple [.int (b2 k0),.int (b2 k1)],.int c1,.int d1,.int c2,.int d2,PD me k0 k1 l,PD me k0 k1 (kj me c2 d2),ds (zB g),ds (X.call g l (kj me c2 d2)).tx,t30,t31,t32,t33,t34,t35,t36]):=by
 have hr:=KT (n:=n) me k0 k1 c2 d2;have rl:=AU me c2 d2;generalize kj me c2 d2=r at *;have st:∀{ρ:zg},zq ρ 28=ds (zB g)->zq ρ 26=PD me k0 k1 l->zq ρ 27=PD me k0 k1 r->Sv (zd G T 2000 (n+2)) (.bin .add (.bin .add (.bin .add (.bin .add (.bin .add (.var 28) (.lit (.str ⟨#[32,40,32]⟩))) (.bin .idx (.var 26) (.lit (.int 0)))) (.lit (.str ⟨#[32,44,32]⟩))) (.bin .idx (.var 27) (.lit (.int 0)))) (.lit (.str ⟨#[32,41]⟩))) ρ (zB g++[32,40,32]++l.tx++[32,44,32]++r.tx++[32,41]) (1+3+120+3+50+2):=by
  intro ρ h28 h26 h27;have i1:ev G (zd G T 2000 (n+2)) (.bin .idx (.var 26) (.lit (.int 0))) ρ=.ok (ds l.tx):=ze (congrArg R.ok h26) rfl rfl;have i2:ev G (zd G T 2000 (n+2)) (.bin .idx (.var 27) (.lit (.int 0))) ρ=.ok (ds r.tx):=ze (congrArg R.ok h27) rfl rfl;exact Sv.add (Sv.add (Sv.add (Sv.add (Sv.add ⟨congrArg R.ok h28,Iy g⟩ ⟨rfl,l3⟩ rfl) ⟨i1,hl⟩ rfl) ⟨rfl,l3⟩ rfl) ⟨i2,rl⟩ rfl) ⟨rfl,l2⟩ rfl
 exact zh (zw (zl rfl hr)) (zh (zw (ze rfl rfl (ZT g))) (zh (zw (st rfl rfl rfl).h) (D7 rfl rfl (uS hm (by decide)) rfl rfl)))
inductive MK(me:Bool)(fm:Tok)(x2 x3 x4 x5 x6 x7 x8 x9 x10 x11 x12 x13 x14 x16 x17 x18 md t30 t31 t32 t33 t34 t35 t36:D):zg->Prop
 |mk(y20 y21 y22 y23 y24 y25 y26 y27 y28 y29:D):MK me fm x2 x3 x4 x5 x6 x7 x8 x9 x10 x11 x12 x13 x14 x16 x17 x18 md t30 t31 t32 t33 t34 t35 t36 [ds (zB me),Bm me,x2,x3,x4,x5,x6,x7,x8,x9,x10,x11,x12,x13,x14,ds fm,x16,x17,x18,md,y20,y21,y22,y23,y24,y25,y26,y27,y28,y29,t30,t31,t32,t33,t34,t35,t36]
theorem Ry:Nx (zd G T 2000 (n+2)) (zj G T 2000 (n+2)) nG [ds (zB me),Bm me,x2,x3,x4,x5,x6,x7,x8,x9,x10,x11,x12,x13,x14,ds fm,x16,x17,x18,.list [],.int (b2 g),.tuple [.int (b2 k0),.int (b2 k1)],.int c1,.int d1,.int c2,.int d2,t26,t27,t28,t29,t30,t31,t32,t33,t34,t35,t36]
  (MK me fm x2 x3 x4 x5 x6 x7 x8 x9 x10 x11 x12 x13 x14 x16 x17 x18 (.list [MD me k0 k1 g (kj me c1 d1) (kj me c2 d2)]) t30 t31 t32 t33 t34 t35 t36):=by
 have hq:I3 (ds fm) (.str ⟨#[110,101,115,116]⟩)=.ok (.bool (decide (S fm=⟨#[110,101,115,116]⟩))):=rfl;have e1:exec G (zd G T 2000 (n+2)) (zj G T 2000 (n+2)) 2000 pP [ds (zB me),Bm me,x2,x3,x4,x5,x6,x7,x8,x9,x10,x11,x12,x13,x14,ds fm,x16,x17,x18,.list [],.int (b2 g),.tuple [.int (b2 k0),.int (b2 k1)],.int c1,.int d1,.int c2,.int d2,t26,t27,t28,t29,t30,t31,t32,t33,t34,t35,t36]=.ok (.next,[ds (zB me),Bm me,x2,x3,x4,x5,x6,x7,x8,x9,x10,x11,x12,x13,x14,ds fm,x16,x17,x18,.list [],.int (b2 g),.tuple [.int (b2 k0),.int (b2 k1)],.int c1,.int d1,.int c2,.int d2,PD me k0 k1 (kj me c1 d1),t27,t28,t29,t30,t31,t32,t33,t34,t35,t36]):=zw (zl rfl (KT (n:=n) me k0 k1 c1 d1));have e2:exec G (zd G T 2000 (n+2)) (zj G T 2000 (n+2)) 2000 pQ [ds (zB me),Bm me,x2,x3,x4,x5,x6,x7,x8,x9,x10,x11,x12,x13,x14,ds fm,x16,x17,x18,.list [],.int (b2 g),.tuple [.int (b2 k0),.int (b2 k1)],.int c1,.int d1,.int c2,.int d2,PD me k0 k1 (kj me c1 d1),t27,t28,t29,t30,t31,t32,t33,t34,t35,t36]=.ok (.next,[ds (zB me),Bm me,x2,x3,x4,x5,x6,x7,x8,x9,x10,x11,x12,x13,x14,ds fm,x16,x17,x18,.list [],.int (b2 g),.tuple [.int (b2 k0),.int (b2 k1)],.int c1,.int d1,.int c2,.int d2,PD me k0 k1 (kj me c1 d1),t27,t28,t29,t30,t31,t32,t33,t34,t35,t36]):=by
  refine zr ?_ rfl;generalize decide (S fm=⟨#[110,101,115,116]⟩)=b at hq;induction b using tZ with
  |true=>exact Ag (ze rfl rfl hq) rfl
  |false=>exact Df (ze rfl rfl hq)
 exact⟨_,zh e1 (zh e2 (MG (mds:=[]) (qA (AU me c1 d1) (by decide)) (by decide))),⟨_,_,_,_,_,_,_,_,_,_⟩⟩
def lX(me:Bool)(fm:Tok)(m:X)(c d:Int):X:=if fm=M5 then m else kj me c d
theorem Rz(hm:(X.call g' l' r').tx.length<=120):Nx (zd G T 2000 (n+2)) (zj G T 2000 (n+2)) nG [ds (zB me),Bm me,x2,x3,x4,x5,x6,x7,x8,x9,x10,x11,x12,x13,x14,ds fm,x16,x17,x18,.list [MD me k0' k1' g' l' r'],.int (b2 g),.tuple [.int (b2 k0),.int (b2 k1)],.int c1,.int d1,.int c2,.int d2,t26,t27,t28,t29,t30,t31,t32,t33,t34,t35,t36]
  (MK me fm x2 x3 x4 x5 x6 x7 x8 x9 x10 x11 x12 x13 x14 x16 x17 x18 (.list [MD me k0' k1' g' l' r',MD me k0 k1 g (lX me fm (.call g' l' r') c1 d1) (kj me c2 d2)]) t30 t31 t32 t33 t34 t35 t36):=by
 have hq:I3 (ds fm) (.str ⟨#[110,101,115,116]⟩)=.ok (.bool (decide (S fm=S M5))):=rfl;have e1:exec G (zd G T 2000 (n+2)) (zj G T 2000 (n+2)) 2000 pP [ds (zB me),Bm me,x2,x3,x4,x5,x6,x7,x8,x9,x10,x11,x12,x13,x14,ds fm,x16,x17,x18,.list [MD me k0' k1' g' l' r'],.int (b2 g),.tuple [.int (b2 k0),.int (b2 k1)],.int c1,.int d1,.int c2,.int d2,t26,t27,t28,t29,t30,t31,t32,t33,t34,t35,t36]=.ok (.next,[ds (zB me),Bm me,x2,x3,x4,x5,x6,x7,x8,x9,x10,x11,x12,x13,x14,ds fm,x16,x17,x18,.list [MD me k0' k1' g' l' r'],.int (b2 g),.tuple [.int (b2 k0),.int (b2 k1)],.int c1,.int d1,.int c2,.int d2,PD me k0 k1 (kj me c1 d1),t27,t28,t29,t30,t31,t32,t33,t34,t35,t36]):=zw (zl rfl (KT (n:=n) me k0 k1 c1 d1));have e2:exec G (zd G T 2000 (n+2)) (zj G T 2000 (n+2)) 2000 pQ [ds (zB me),Bm me,x2,x3,x4,x5,x6,x7,x8,x9,x10,x11,x12,x13,x14,ds fm,x16,x17,x18,.list [MD me k0' k1' g' l' r'],.int (b2 g),.tuple [.int (b2 k0),.int (b2 k1)],.int c1,.int d1,.int c2,.int d2,PD me k0 k1 (kj me c1 d1),t27,t28,t29,t30,t31,t32,t33,t34,t35,t36]=.ok (.next,[ds (zB me),Bm me,x2,x3,x4,x5,x6,x7,x8,x9,x10,x11,x12,x13,x14,ds fm,x16,x17,x18,.list [MD me k0' k1' g' l' r'],.int (b2 g),.tuple [.int (b2 k0),.int (b2 k1)],.int c1,.int d1,.int c2,.int d2,PD me k0 k1 (lX me fm (.call g' l' r') c1 d1),t27,t28,t29,t30,t31,t32,t33,t34,t35,t36]):=by
  unfold lX;by_cases h:fm=M5
  ·rw[if_pos h];rw[decide_eq_true (congrArg S h)] at hq;exact zu (Ag (ze rfl rfl hq) (ze rfl rfl (ML _ _))) (zw rfl)
  ·rw[if_neg h];rw[decide_eq_false (λe=>h ((EJ _ _).mp e))] at hq;exact zr (Df (ze rfl rfl hq)) rfl
 have hl:(lX me fm (.call g' l' r') c1 d1).tx.length<=120:=by
  unfold lX;split
  ·exact hm
  ·exact qA (AU me c1 d1) (by decide)
 exact⟨_,zh e1 (zh e2 (MG (mds:=[MD me k0' k1' g' l' r']) hl (by show 1<1000;decide))),⟨_,_,_,_,_,_,_,_,_,_⟩⟩
end
inductive Fm where
 |last|deep|both|nest|over|under|leaf
noncomputable def Fm.t:Fm->Tok
 |.last=>[108,97,115,116]
 |.deep=>[100,101,101,112]
 |.both=>[98,111,116,104]
 |.nest=>[110,101,115,116]
 |.over=>[111,118,101,114]
 |.under=>[117,110,100,101,114]
 |.leaf=>[108,101,97,102]
def Pw(me p:Bool)(f:Fm)(st m0 m1:X):X:=match f with
 |.last=>.iff (pz me p) st m1
 |.deep=>.iff (pz me p) st (.iff (pz me (!p)) m0 m1)
 |.both=>.iff (pz me p) m0 m1
 |.nest=>.iff (pz me p) st m1
 |.over=>.iff (pz me p) st (.succ m1)
 |.under=>.pred (.par (.iff (pz me p) st m1))
 |.leaf=>st
noncomputable def LX(f:Fm)(a b:Nd):List Nd:=match f with
 |.last=>[b]
 |.deep=>[a,b]
 |.both=>[a,b]
 |.nest=>[a,b]
 |.over=>[b]
 |.under=>[b]
 |.leaf=>[]
def hdT(me:Bool):List Nat:=zB me++[32,40,32]++pT me++[32,44,32]++qT me++[32,41,32,61,32]
def FR(me:Bool)(x:X)(ss:List Nd):D:=.tuple [ds (hdT me++x.tx),Fn.d ⟨me,pT me,qT me,x.e⟩,.list (ss.map BE)]
theorem XK(me p:Bool):∀{cf:Nat->List D->R D} {ρ:zg},zq ρ 1=Bm me->zq ρ 16=.int (b2 p)->ev G cf (.bin .idx (.var 1) (.bin .sub (.lit (.int 1)) (.var 16))) ρ=.ok (ds (pz me (!p))):=by
 intro cf ρ h1 h16;refine ze (congrArg R.ok h1) (ze rfl (congrArg R.ok h16) rfl) ?_;induction p using tZ<;>rfl
theorem Kc(me p:Bool):∀{cf:Nat->List D->R D} {ρ:zg},zq ρ 1=Bm me->zq ρ 16=.int (b2 p)->ev G cf (.bin .idx (.var 1) (.var 16)) ρ=.ok (ds (pz me p)):=
 λh1 h16=>ze (congrArg R.ok h1) (congrArg R.ok h16) (LD me p)
theorem Xr(ha:Sv cf a ρ z 2)(hb:Sv cf b ρ x.tx n)(hc:Sv cf c ρ y.tx m)(hn:n<=400)(hm:m<=400):
  Sv cf (.bin .add (.bin .add (.bin .add (.bin .add (.bin .add (.lit (.str ⟨#[105,102,32]⟩)) a) (.lit (.str ⟨#[32,116,104,101,110,32]⟩))) b) (.lit (.str ⟨#[32,101,108,115,101,32]⟩))) c) ρ (X.iff z x y).tx (3+2+6+n+6+m):=by
 have g:Sv cf (.bin .add (.bin .add (.bin .add (.bin .add (.bin .add (.lit (.str ⟨#[105,102,32]⟩)) a) (.lit (.str ⟨#[32,116,104,101,110,32]⟩))) b) (.lit (.str ⟨#[32,101,108,115,101,32]⟩))) c) ρ ([105,102,32]++z++[32,116,104,101,110,32]++x.tx++[32,101,108,115,101,32]++y.tx) (3+2+6+n+6+m):=
  Sv.add (Sv.add (Sv.add (Sv.add (Sv.add ⟨rfl,l3⟩ ha rfl) ⟨rfl,l6⟩ rfl) hb (zbe (by exact qA (uL (uD hn _)) (by decide)))) ⟨rfl,l6⟩ (zbe (by exact qA (uL (uM (uD hn _) _)) (by decide)))) hc (zbe (by exact qA (uL (uR (uM (uD hn _) _) hm)) (by decide)))
 exact g
theorem aD(me:Bool){cf:Nat->List D->R D}{ρ:zg}{x:X}(h0:zq ρ 0=ds (zB me))(h1:zq ρ 1=Bm me)(h:Sv cf (.var 30) ρ x.tx 900):
  Sv cf (.bin .add (.bin .add (.bin .add (.bin .add (.bin .add (.bin .add (.var 0) (.lit (.str ⟨#[32,40,32]⟩))) (.bin .idx (.var 1) (.lit (.int 0)))) (.lit (.str ⟨#[32,44,32]⟩))) (.bin .idx (.var 1) (.lit (.int 1)))) (.lit (.str ⟨#[32,41,32,61,32]⟩))) (.var 30)) ρ (hdT me++x.tx) (1+3+2+3+2+5+900):=by
 have i1:ev G cf (.bin .idx (.var 1) (.lit (.int 0))) ρ=.ok (ds (pT me)):=ze (congrArg R.ok h1) rfl rfl;have i2:ev G cf (.bin .idx (.var 1) (.lit (.int 1))) ρ=.ok (ds (qT me)):=ze (congrArg R.ok h1) rfl rfl;exact Sv.add (Sv.add (Sv.add (Sv.add (Sv.add (Sv.add ⟨congrArg R.ok h0,Iy me⟩ ⟨rfl,l3⟩ rfl) ⟨i1,RY me⟩ rfl) ⟨rfl,l3⟩ rfl) ⟨i2,LH me⟩ rfl) ⟨rfl,uK 5⟩ rfl) h rfl
section
variable{n:Nat}{me p k0 k1 k0' k1' g0 g1:Bool}{x2 x3 x4 x5 x6 x7 x8 x9 x10 x11 x12 x13 x14 x17 y20 y21 y22 y23 y24 y25 y26 y27 y28 y29 t30 t31 t32 t33 t34 t35 t36:D}{st l0 r0 l1 r1:X}{cf ci:Nat->List D->R D}
set_option maxHeartbeats 4000000 in
theorem Qz(f:Fm)(hs:st.tx.length<=120)(h0:(X.call g0 l0 r0).tx.length<=120)(h1:(X.call g1 l1 r1).tx.length<=180):
  Rt G cf ci 2000 fA [ds (zB me),Bm me,x2,x3,x4,x5,x6,x7,x8,x9,x10,x11,x12,x13,x14,ds f.t,.int (b2 p),x17,PD me false false st,.list [MD me k0 k1 g0 l0 r0,MD me k0' k1' g1 l1 r1],y20,y21,y22,y23,y24,y25,y26,y27,y28,y29,ds (X.call g1 l1 r1).tx,(X.call g1 l1 r1).e.d,BE (gN me g1 (kM me k0' k1' l1) (kM me k0' k1' r1)),.list [BE (gN me g1 (kM me k0' k1' l1) (kM me k0' k1' r1))],t34,t35,t36]
   (FR me (Pw me p f st (.call g0 l0 r0) (.call g1 l1 r1)) (LX f (gN me g0 (kM me k0 k1 l0) (kM me k0 k1 r0)) (gN me g1 (kM me k0' k1' l1) (kM me k0' k1' r1)))):=by
 have pl:(pz me p).length<=2:=Gj me p;have pl':(pz me (!p)).length<=2:=Gj me (!p);have fi:∀{ρ:zg} {s y:X} {sD:D},zq ρ 1=Bm me->zq ρ 16=.int (b2 p)->zq ρ 18=sD->jd sD (.int 0)=.ok (ds s.tx)->zq ρ 30=ds y.tx->s.tx.length<=120->y.tx.length<=400->
   Sv cf (.bin .add (.bin .add (.bin .add (.bin .add (.bin .add (.lit (.str ⟨#[105,102,32]⟩)) (.bin .idx (.var 1) (.var 16))) (.lit (.str ⟨#[32,116,104,101,110,32]⟩))) (.bin .idx (.var 18) (.lit (.int 0)))) (.lit (.str ⟨#[32,101,108,115,101,32]⟩))) (.var 30)) ρ (X.iff (pz me p) s y).tx 537:=
  λ{ρ s y sD} h1 h16 h18 hi h30 ls ly=>Xr (x:=s) (y:=y) (b:=.bin .idx (.var 18) (.lit (.int 0))) (c:=.var 30) (n:=120) (m:=400) ⟨Kc me p h1 h16,pl⟩ ⟨ze (congrArg R.ok h18) rfl hi,ls⟩ ⟨congrArg R.ok h30,ly⟩ (by decide) (by decide)
 have ro:∀{ρ:zg} {x:X},zq ρ 0=ds (zB me)->zq ρ 1=Bm me->zq ρ 30=ds x.tx->x.tx.length<=900->ev G cf (.bin .add (.bin .add (.bin .add (.bin .add (.bin .add (.bin .add (.var 0) (.lit (.str ⟨#[32,40,32]⟩))) (.bin .idx (.var 1) (.lit (.int 0)))) (.lit (.str ⟨#[32,44,32]⟩))) (.bin .idx (.var 1) (.lit (.int 1)))) (.lit (.str ⟨#[32,41,32,61,32]⟩))) (.var 30)) ρ=.ok (ds (hdT me++x.tx)):=
  λh0 h1 h30 hl=>(aD me h0 h1 ⟨congrArg R.ok h30,hl⟩).h
 have il:∀{s y:X},s.tx.length<=120->y.tx.length<=400->(X.iff (pz me p) s y).tx.length<=537:=λhs hy=>z5 (n:=137) (m:=400) (z5 (n:=131) (m:=6) (z5 (n:=11) (m:=120) (z5 (n:=5) (m:=6) (z5 (n:=3) (m:=2) l3 pl) l6) hs) l6) hy;induction f using Fm.casesOn with
 |last=>
  have h1:(X.call g1 l1 r1).tx.length<=400:=qA h1 (by decide);exact(Rt.iff rfl (Rt.iff rfl (Rt.iff rfl (Rt.iff rfl (Rt.asg (fi (s:=st) (y:=.call g1 l1 r1) rfl rfl rfl rfl rfl hs h1).h (Rt.asg (zV (zi rfl (zi (Kc me p rfl rfl) rfl)) rfl)
   (Rt.iff rfl (Rt.iff rfl (Rt.ret (zV (zi (ro (x:=.iff (pz me p) st (.call g1 l1 r1)) rfl rfl rfl (qA (il hs h1) (by decide))) rfl) rfl))))))))))
 |nest=>
  have h1:(X.call g1 l1 r1).tx.length<=400:=qA h1 (by decide);exact(Rt.iff rfl (Rt.iff rfl (Rt.nxt (zu rfl rfl) (Rt.iff rfl (Rt.asg (fi (s:=st) (y:=.call g1 l1 r1) rfl rfl rfl rfl rfl hs h1).h (Rt.asg (zV (zi rfl (zi (Kc me p rfl rfl) rfl)) rfl)
   (Rt.iff rfl (Rt.iff rfl (Rt.ret (zV (zi (ro (x:=.iff (pz me p) st (.call g1 l1 r1)) rfl rfl rfl (qA (il hs h1) (by decide))) rfl) rfl))))))))))
 |both=>
  have h1:(X.call g1 l1 r1).tx.length<=400:=qA h1 (by decide);exact(Rt.nxt (zu rfl rfl) (Rt.iff rfl (Rt.nxt (zu rfl rfl) (Rt.iff rfl (Rt.asg (fi (s:=.call g0 l0 r0) (y:=.call g1 l1 r1) rfl rfl rfl rfl rfl h0 h1).h (Rt.asg (zV (zi rfl (zi (Kc me p rfl rfl) rfl)) rfl)
   (Rt.iff rfl (Rt.iff rfl (Rt.ret (zV (zi (ro (x:=.iff (pz me p) (.call g0 l0 r0) (.call g1 l1 r1)) rfl rfl rfl (qA (il h0 h1) (by decide))) rfl) rfl))))))))))
 |over=>
  have h2:(X.succ (.call g1 l1 r1)).tx.length<=400:=qA (z5 h1 l4) (by decide);have so:∀{ρ:zg},zq ρ 30=ds (X.call g1 l1 r1).tx->Sv cf (.bin .add (.var 30) (.lit (.str ⟨#[32,43,32,49]⟩))) ρ (X.succ (.call g1 l1 r1)).tx (180+4):=λh=>Sv.add ⟨congrArg R.ok h,h1⟩ ⟨rfl,l4⟩ rfl;exact(Rt.iff rfl (Rt.iff rfl (Rt.iff rfl (Rt.nxt (zu rfl (zh (zw (so rfl).h) (zw rfl))) (Rt.asg (fi (s:=st) (y:=.succ (.call g1 l1 r1)) rfl rfl rfl rfl rfl hs h2).h (Rt.asg (zV (zi rfl (zi (Kc me p rfl rfl) rfl)) rfl)
   (Rt.iff rfl (Rt.iff rfl (Rt.ret (zV (zi (ro (x:=.iff (pz me p) st (.succ (.call g1 l1 r1))) rfl rfl rfl (qA (il hs h2) (by decide))) rfl) rfl))))))))))
 |deep=>
  have h2:(X.iff (pz me (!p)) (.call g0 l0 r0) (.call g1 l1 r1)).tx.length<=400:=qA (z5 (z5 (z5 (z5 (z5 l3 pl') l6) h0) l6) h1) (by decide);have sd:∀{ρ:zg},zq ρ 1=Bm me->zq ρ 16=.int (b2 p)->zq ρ 19=.list [MD me k0 k1 g0 l0 r0,MD me k0' k1' g1 l1 r1]->zq ρ 30=ds (X.call g1 l1 r1).tx->Sv cf (.bin .add (.bin .add (.bin .add (.bin .add (.bin .add (.lit (.str ⟨#[105,102,32]⟩)) (.bin .idx (.var 1) (.bin .sub (.lit (.int 1)) (.var 16)))) (.lit (.str ⟨#[32,116,104,101,110,32]⟩))) (.bin .idx (.bin .idx (.var 19) (.lit (.int 0))) (.lit (.int 0)))) (.lit (.str ⟨#[32,101,108,115,101,32]⟩))) (.var 30)) ρ (X.iff (pz me (!p)) (.call g0 l0 r0) (.call g1 l1 r1)).tx (3+2+6+120+6+180):=
   λh1' h16 h19 h30=>Xr (x:=.call g0 l0 r0) (y:=.call g1 l1 r1) (n:=120) (m:=180) ⟨XK me p h1' h16,pl'⟩ ⟨ze (ze (congrArg R.ok h19) rfl rfl) rfl rfl,h0⟩ ⟨congrArg R.ok h30,h1⟩ (by decide) (by decide)
  exact(Rt.iff rfl (Rt.nxt (zu rfl (zh (zw (sd rfl rfl rfl rfl).h) (zw (zV (zi rfl (zi (XK me p rfl rfl) rfl)) rfl)))) (Rt.nxt (zu rfl rfl) (Rt.iff rfl (Rt.asg (fi (s:=st) (y:=.iff (pz me (!p)) (.call g0 l0 r0) (.call g1 l1 r1)) rfl rfl rfl rfl rfl hs h2).h (Rt.asg (zV (zi rfl (zi (Kc me p rfl rfl) rfl)) rfl)
   (Rt.iff rfl (Rt.iff rfl (Rt.ret (zV (zi (ro (x:=.iff (pz me p) st (.iff (pz me (!p)) (.call g0 l0 r0) (.call g1 l1 r1))) rfl rfl rfl (qA (il hs h2) (by decide))) rfl) rfl))))))))))
 |under=>
  have h1:(X.call g1 l1 r1).tx.length<=400:=qA h1 (by decide);have su:∀{ρ:zg},zq ρ 30=ds (X.iff (pz me p) st (.call g1 l1 r1)).tx->Sv cf (.bin .add (.bin .add (.lit (.str ⟨#[40,32]⟩)) (.var 30)) (.lit (.str ⟨#[32,41,32,45,32,49]⟩))) ρ (X.pred (.par (.iff (pz me p) st (.call g1 l1 r1)))).tx (2+537+6):=by
   intro ρ h;have g:Sv cf (.bin .add (.bin .add (.lit (.str ⟨#[40,32]⟩)) (.var 30)) (.lit (.str ⟨#[32,41,32,45,32,49]⟩))) ρ ([40,32]++(X.iff (pz me p) st (.call g1 l1 r1)).tx++[32,41,32,45,32,49]) (2+537+6):=Sv.add (Sv.add ⟨rfl,l2⟩ ⟨congrArg R.ok h,il hs h1⟩ rfl) ⟨rfl,l6⟩ rfl;rw[show(X.pred (.par (.iff (pz me p) st (.call g1 l1 r1)))).tx=[40,32]++(X.iff (pz me p) st (.call g1 l1 r1)).tx++[32,41,32,45,32,49] from uN _ _ _];exact g
  have hu:(X.pred (.par (.iff (pz me p) st (.call g1 l1 r1)))).tx.length<=900:=qA (su (ρ:=vX 30 .none++[ds (X.iff (pz me p) st (.call g1 l1 r1)).tx]) rfl).l (by decide);exact(Rt.iff rfl (Rt.iff rfl (Rt.iff rfl (Rt.iff rfl (Rt.asg (fi (s:=st) (y:=.call g1 l1 r1) rfl rfl rfl rfl rfl hs h1).h (Rt.asg (zV (zi rfl (zi (Kc me p rfl rfl) rfl)) rfl)
   (Rt.nxt (zu rfl (zh (zw (su rfl).h) (zw rfl))) (Rt.iff rfl (Rt.ret (zV (zi (ro (x:=.pred (.par (.iff (pz me p) st (.call g1 l1 r1)))) rfl rfl rfl hu) rfl) rfl))))))))))
 |leaf=>
  have h1:(X.call g1 l1 r1).tx.length<=400:=qA h1 (by decide);exact(Rt.iff rfl (Rt.iff rfl (Rt.iff rfl (Rt.iff rfl (Rt.asg (fi (s:=st) (y:=.call g1 l1 r1) rfl rfl rfl rfl rfl hs h1).h (Rt.asg (zV (zi rfl (zi (Kc me p rfl rfl) rfl)) rfl)
   (Rt.iff rfl (Rt.nxt (zu rfl rfl) (Rt.ret (zV (zi (ro (x:=st) rfl rfl rfl (qA hs (by decide))) rfl) rfl))))))))))
theorem Uz(f:Fm)(hs:st.tx.length<=120)(h0:(X.call g0 l0 r0).tx.length<=120)(h1:(X.call g1 l1 r1).tx.length<=180):
  Rt G cf ci 2000 rD [ds (zB me),Bm me,x2,x3,x4,x5,x6,x7,x8,x9,x10,x11,x12,x13,x14,ds f.t,.int (b2 p),x17,PD me false false st,.list [MD me k0 k1 g0 l0 r0,MD me k0' k1' g1 l1 r1],y20,y21,y22,y23,y24,y25,y26,y27,y28,y29,t30,t31,t32,t33,t34,t35,t36]
   (FR me (Pw me p f st (.call g0 l0 r0) (.call g1 l1 r1)) (LX f (gN me g0 (kM me k0 k1 l0) (kM me k0 k1 r0)) (gN me g1 (kM me k0' k1' l1) (kM me k0' k1' r1)))):=
 Rt.asgm (ze rfl rfl rfl) rfl (Rt.nxt rfl (Qz f hs h0 h1))
end
noncomputable def jq(x:Int):Bool:=decide (x % 2=1)
theorem ZN(x:Int):Om (.int x) (.int 2)=.ok (.int (b2 (jq x))):=by
 show R.ok (uT (x % 2))=_;unfold jq;have h:x % 2=0\/x % 2=1:=Int.emod_two_eq x;rcases h with h|h
 ·rw[h];rfl
 ·rw[h];rfl
theorem bN(h:ev G cf a ρ=.ok (.tuple xs))(k:fl G cf cio 2000 g s xs ρ=r):exec G cf cio 2000 (.forr g false a s) ρ=r:=(congrArg (R.bind · _) h).trans k
noncomputable def Bk:List (Nat×Nat×Fm):=[(0,1,.last),(1,2,.deep),(0,1,.both),(1,1,.nest),(0,1,.over),(0,1,.under),(0,0,.leaf),(1,2,.deep)]
def s9(s:Nat×Nat×Fm):D:=.tuple [.int s.1,.int s.2.1,ds s.2.2.t]
theorem OA:G.getD 3 .none=.tuple (Bk.map s9):=rfl
noncomputable def sh(s:Int):Nat×Nat×Fm:=Bk.getD (s % 8).toNat (0,0,.leaf)
theorem aK(s:Int):jd (G.getD 3 .none) (.int (s % 8))=.ok (s9 (sh s)):=by
 have h:(s % 8).toNat<8:=(zbj (y0 _ (by decide))).mpr (yH _ (by decide));have e:s % 8=((s % 8).toNat:Nat):=(zaa (y0 _ (by decide))).symm;unfold sh;generalize (s % 8).toNat=j at *;rw[e,OA,BK,v6,uH,uA (show j<Bk.length from h)];rfl
noncomputable def hk(p:Bool):Nat->Bool×Bool
 |0=>(false,false)
 |1=>(!p,p)
 |_=>(true,true)
def rE(k:Bool×Bool):D:=.tuple [.int (b2 k.1),.int (b2 k.2)]
theorem QE(p:Bool){j:Nat}(h:j<3):jd (.tuple [.tuple [.int 0,.int 0],.tuple [.int (1 - b2 p),.int (b2 p)],.tuple [.int 1,.int 1]]) (.int j)=.ok (rE (hk p j)):=by
 refine B1 (P:=λj=>jd _ (.int j)=.ok (rE (hk p j))) ?_ (B1 ?_ (B1 ?_ ZC)) j h
 ·rfl
 ·induction p using tZ<;>rfl
 ·rfl
theorem lD(s:Int):(sh s).1<3/\(sh s).2.1<3:=by
 have h:∀j,(Bk.getD j (0,0,.leaf)).1<3/\(Bk.getD j (0,0,.leaf)).2.1<3:=by
  intro j;rw[uH];cases hj:Bk[j]? with
  |none=>decide
  |some x=>
   have ha:(Bk.all λx=>decide (x.1<3/\x.2.1<3))=true:=rfl;exact of_decide_eq_true (uF.mp ha x (v9 hj))
 exact h _
set_option genCtorIdx false in
set_option genInjectivity false in
structure Fc where
 me:Bool
 s:Int
 q:Int
 c:Int
 d:Int
 e:Int
 i:Int
 u:Int
 v:Int
 w:Int
 z:Int
namespace Fc
variable(a:Fc)
def f:Fm:=(sh a.s).2.2
def p:Bool:=jq a.q
def k0:Bool×Bool:=hk a.p (sh a.s).1
def k1:Bool×Bool:=hk a.p (sh a.s).2.1
def st:X:=j4 a.me (BY (a.c+a.q))
def g0:Bool:=jq (a.q / 2)
def g1:Bool:=jq (a.q / 4)
def m0:X:=.call a.g0 (kj a.me a.c a.d) (kj a.me a.e a.i)
def l1:X:=lX a.me a.f.t a.m0 a.u a.v
def m1:X:=.call a.g1 a.l1 (kj a.me a.w a.z)
def s0:Nd:=gN a.me a.g0 (kM a.me a.k0.1 a.k0.2 (kj a.me a.c a.d)) (kM a.me a.k0.1 a.k0.2 (kj a.me a.e a.i))
def s1:Nd:=gN a.me a.g1 (kM a.me a.k1.1 a.k1.2 a.l1) (kM a.me a.k1.1 a.k1.2 (kj a.me a.w a.z))
def x:X:=Pw a.me a.p a.f a.st a.m0 a.m1
def ss:List Nd:=LX a.f a.s0 a.s1
def fn:Fn:=⟨a.me,pT a.me,qT a.me,a.x.e⟩
noncomputable def cells:D:=.tuple [.int a.s,.int a.q,.int a.c,.int a.d,.int a.e,.int a.i,.int a.u,.int a.v,.int a.w,.int a.z]
def r:D:=FR a.me a.x a.ss
end Fc
theorem Ji(g:Bool)(hl:l.tx.length<=n)(hr:r.tx.length<=m):(X.call g l r).tx.length<=1+3+n+3+m+2:=z5 (z5 (z5 (z5 (z5 (Iy g) l3) hl) l3) hr) l2
theorem Lw(a:Fc):a.m0.tx.length<=120:=qA (Ji _ (AU ..) (AU ..)) (by decide)
theorem Zu(a:Fc):a.l1.tx.length<=120:=by
 unfold Fc.l1 lX;split
 ·exact Lw a
 ·exact qA (AU ..) (by decide)
theorem ZI(a:Fc):a.m1.tx.length<=180:=qA (Ji _ (Zu a) (AU ..)) (by decide)
theorem Mm{n:Nat}(a:Fc):zd G T 2000 (n+3) 21 [ds (zB a.me),Bm a.me,a.cells]=.ok a.r:=by
 refine(K7 ..).trans ?_;obtain⟨me,s,q,c,d,e,i,u,v,w,z⟩:=a;have hsh:=aK s;obtain⟨hl0,hl1⟩:=lD s;have hst:=Iq (n:=n+1) me false false (c+q);have t1:=Ry (n:=n) (me:=me) (k0:=(hk (jq q) (sh s).1).1) (k1:=(hk (jq q) (sh s).1).2) (g:=jq (q / 2)) (x2:=(Fc.cells ⟨me,s,q,c,d,e,i,u,v,w,z⟩)) (x3:=.int s) (x4:=.int q) (x5:=.int c) (x6:=.int d) (x7:=.int e) (x8:=.int i) (x9:=.int u) (x10:=.int v) (x11:=.int w) (x12:=.int z) (x13:=.int (sh s).1) (x14:=.int (sh s).2.1) (fm:=(sh s).2.2.t) (x16:=.int (b2 (jq q))) (x17:=.tuple [.tuple [.int 0,.int 0],.tuple [.int (1 - b2 (jq q)),.int (b2 (jq q))],.tuple [.int 1,.int 1]]) (x18:=PD me false false (j4 me (BY (c+q)))) (c1:=c) (d1:=d) (c2:=e) (d2:=i) (t26:=.none) (t27:=.none) (t28:=.none) (t29:=.none) (t30:=.none) (t31:=.none) (t32:=.none) (t33:=.none) (t34:=.none) (t35:=.none) (t36:=.none);obtain⟨σ,e1,⟨y20,y21,y22,y23,y24,y25,y26,y27,y28,y29⟩⟩:=t1;have t2:=Rz (n:=n) (me:=me) (k0:=(hk (jq q) (sh s).2.1).1) (k1:=(hk (jq q) (sh s).2.1).2) (g:=jq (q / 4)) (k0':=(hk (jq q) (sh s).1).1) (k1':=(hk (jq q) (sh s).1).2) (g':=jq (q / 2)) (l':=kj me c d) (r':=kj me e i) (x2:=(Fc.cells ⟨me,s,q,c,d,e,i,u,v,w,z⟩)) (x3:=.int s) (x4:=.int q) (x5:=.int c) (x6:=.int d) (x7:=.int e) (x8:=.int i) (x9:=.int u) (x10:=.int v) (x11:=.int w) (x12:=.int z) (x13:=.int (sh s).1) (x14:=.int (sh s).2.1) (fm:=(sh s).2.2.t) (x16:=.int (b2 (jq q))) (x17:=.tuple [.tuple [.int 0,.int 0],.tuple [.int (1 - b2 (jq q)),.int (b2 (jq q))],.tuple [.int 1,.int 1]]) (x18:=PD me false false (j4 me (BY (c+q)))) (c1:=u) (d1:=v) (c2:=w) (d2:=z) (t26:=y26) (t27:=y27) (t28:=y28) (t29:=y29) (t30:=.none) (t31:=.none) (t32:=.none) (t33:=.none) (t34:=.none) (t35:=.none) (t36:=.none) (Lw ⟨me,s,q,c,d,e,i,u,v,w,z⟩);obtain⟨σ,e2,⟨z20,z21,z22,z23,z24,z25,z26,z27,z28,z29⟩⟩:=t2;have tl:=Uz (cf:=zd G T 2000 (n+2)) (ci:=zj G T 2000 (n+2)) (me:=me) (p:=jq q) (k0:=(hk (jq q) (sh s).1).1) (k1:=(hk (jq q) (sh s).1).2) (k0':=(hk (jq q) (sh s).2.1).1) (k1':=(hk (jq q) (sh s).2.1).2) (g0:=jq (q / 2)) (g1:=jq (q / 4)) (l0:=kj me c d) (r0:=kj me e i) (l1:=lX me (sh s).2.2.t (.call (jq (q / 2)) (kj me c d) (kj me e i)) u v) (r1:=kj me w z) (st:=j4 me (BY (c+q))) (x2:=(Fc.cells ⟨me,s,q,c,d,e,i,u,v,w,z⟩)) (x3:=.int s) (x4:=.int q) (x5:=.int c) (x6:=.int d) (x7:=.int e) (x8:=.int i) (x9:=.int u) (x10:=.int v) (x11:=.int w) (x12:=.int z) (x13:=.int (sh s).1) (x14:=.int (sh s).2.1) (x17:=.tuple [.tuple [.int 0,.int 0],.tuple [.int (1 - b2 (jq q)),.int (b2 (jq q))],.tuple [.int 1,.int 1]]) (y20:=z20) (y21:=z21) (y22:=z22) (y23:=z23) (y24:=z24) (y25:=z25) (y26:=z26) (y27:=z27) (y28:=z28) (y29:=z29) (t30:=.none) (t31:=.none) (t32:=.none) (t33:=.none) (t34:=.none) (t35:=.none) (t36:=.none)
  (sh s).2.2 (qA (Co ..) (by decide)) (Lw ⟨me,s,q,c,d,e,i,u,v,w,z⟩) (ZI ⟨me,s,q,c,d,e,i,u,v,w,z⟩)
 have hf:exec G (zd G T 2000 (n+2)) (zj G T 2000 (n+2)) 2000 (.forr (.many [20,21,22,23,24,25]) false (.tup (.cons (.tup (.cons (.bin .mod (.bin .fdiv (.var 4) (.lit (.int 2))) (.lit (.int 2))) (.cons (.bin .idx (.var 17) (.var 13)) (.cons (.var 5) (.cons (.var 6) (.cons (.var 7) (.cons (.var 8) .nil))))))) (.cons (.tup (.cons (.bin .mod (.bin .fdiv (.var 4) (.lit (.int 4))) (.lit (.int 2))) (.cons (.bin .idx (.var 17) (.var 14)) (.cons (.var 9) (.cons (.var 10) (.cons (.var 11) (.cons (.var 12) .nil))))))) .nil))) nG)
   (ds (zB me)::Bm me::(Fc.cells ⟨me,s,q,c,d,e,i,u,v,w,z⟩)::.int s::.int q::.int c::.int d::.int e::.int i::.int u::.int v::.int w::.int z::.int (sh s).1::.int (sh s).2.1::ds (sh s).2.2.t::.int (b2 (jq q))::.tuple [.tuple [.int 0,.int 0],.tuple [.int (1 - b2 (jq q)),.int (b2 (jq q))],.tuple [.int 1,.int 1]]::PD me false false (j4 me (BY (c+q)))::.list []::nz 17)=.ok (.next,_):=
  bN (zV (zi (zV (zi (ze (ze rfl rfl rfl) rfl (ZN _)) (zi (ze rfl rfl (QE _ hl0)) rfl)) rfl) (zi (zV (zi (ze (ze rfl rfl rfl) rfl (ZN _)) (zi (ze rfl rfl (QE _ hl1)) rfl)) rfl) rfl)) rfl)
  (El rfl e1 (El rfl e2 rfl))
 have p0:exec G (zd G T 2000 (n+2)) (zj G T 2000 (n+2)) 2000 (.assign (.many [3,4,5,6,7,8,9,10,11,12]) (.var 2)) (ds (zB me)::Bm me::(Fc.cells ⟨me,s,q,c,d,e,i,u,v,w,z⟩)::nz 34)=.ok (.next,(ds (zB me)::Bm me::(Fc.cells ⟨me,s,q,c,d,e,i,u,v,w,z⟩)::.int s::.int q::.int c::.int d::.int e::.int i::.int u::.int v::.int w::.int z::nz 24)):=rfl;have p1:exec G (zd G T 2000 (n+2)) (zj G T 2000 (n+2)) 2000 (.assign (.many [13,14,15]) (.bin .idx (.glob 3) (.bin .mod (.var 3) (.lit (.int 8))))) (ds (zB me)::Bm me::(Fc.cells ⟨me,s,q,c,d,e,i,u,v,w,z⟩)::.int s::.int q::.int c::.int d::.int e::.int i::.int u::.int v::.int w::.int z::nz 24)=.ok (.next,(ds (zB me)::Bm me::(Fc.cells ⟨me,s,q,c,d,e,i,u,v,w,z⟩)::.int s::.int q::.int c::.int d::.int e::.int i::.int u::.int v::.int w::.int z::.int (sh s).1::.int (sh s).2.1::ds (sh s).2.2.t::nz 21)):=KG (ze rfl (ze rfl rfl rfl) hsh) rfl;have p2:exec G (zd G T 2000 (n+2)) (zj G T 2000 (n+2)) 2000 (.assign (.one 16) (.bin .mod (.var 4) (.lit (.int 2)))) (ds (zB me)::Bm me::(Fc.cells ⟨me,s,q,c,d,e,i,u,v,w,z⟩)::.int s::.int q::.int c::.int d::.int e::.int i::.int u::.int v::.int w::.int z::.int (sh s).1::.int (sh s).2.1::ds (sh s).2.2.t::nz 21)=.ok (.next,(ds (zB me)::Bm me::(Fc.cells ⟨me,s,q,c,d,e,i,u,v,w,z⟩)::.int s::.int q::.int c::.int d::.int e::.int i::.int u::.int v::.int w::.int z::.int (sh s).1::.int (sh s).2.1::ds (sh s).2.2.t::.int (b2 (jq q))::nz 20)):=zw (ze rfl rfl (ZN q));have p3:exec G (zd G T 2000 (n+2)) (zj G T 2000 (n+2)) 2000 (.assign (.one 17) (.tup (.cons (.tup (.cons (.lit (.int 0)) (.cons (.lit (.int 0)) .nil))) (.cons (.tup (.cons (.bin .sub (.lit (.int 1)) (.var 16)) (.cons (.var 16) .nil))) (.cons (.tup (.cons (.lit (.int 1)) (.cons (.lit (.int 1)) .nil))) .nil))))) (ds (zB me)::Bm me::(Fc.cells ⟨me,s,q,c,d,e,i,u,v,w,z⟩)::.int s::.int q::.int c::.int d::.int e::.int i::.int u::.int v::.int w::.int z::.int (sh s).1::.int (sh s).2.1::ds (sh s).2.2.t::.int (b2 (jq q))::nz 20)=.ok (.next,(ds (zB me)::Bm me::(Fc.cells ⟨me,s,q,c,d,e,i,u,v,w,z⟩)::.int s::.int q::.int c::.int d::.int e::.int i::.int u::.int v::.int w::.int z::.int (sh s).1::.int (sh s).2.1::ds (sh s).2.2.t::.int (b2 (jq q))::.tuple [.tuple [.int 0,.int 0],.tuple [.int (1 - b2 (jq q)),.int (b2 (jq q))],.tuple [.int 1,.int 1]]::nz 19)):=rfl;have p4:exec G (zd G T 2000 (n+2)) (zj G T 2000 (n+2)) 2000 (.assign (.one 18) (.call 19 (.cons (.bin .add (.var 5) (.var 4)) (.cons (.var 1) (.cons (.lit (.int 0)) (.cons (.lit (.int 0)) .nil)))))) (ds (zB me)::Bm me::(Fc.cells ⟨me,s,q,c,d,e,i,u,v,w,z⟩)::.int s::.int q::.int c::.int d::.int e::.int i::.int u::.int v::.int w::.int z::.int (sh s).1::.int (sh s).2.1::ds (sh s).2.2.t::.int (b2 (jq q))::.tuple [.tuple [.int 0,.int 0],.tuple [.int (1 - b2 (jq q)),.int (b2 (jq q))],.tuple [.int 1,.int 1]]::nz 19)=.ok (.next,(ds (zB me)::Bm me::(Fc.cells ⟨me,s,q,c,d,e,i,u,v,w,z⟩)::.int s::.int q::.int c::.int d::.int e::.int i::.int u::.int v::.int w::.int z::.int (sh s).1::.int (sh s).2.1::ds (sh s).2.2.t::.int (b2 (jq q))::.tuple [.tuple [.int 0,.int 0],.tuple [.int (1 - b2 (jq q)),.int (b2 (jq q))],.tuple [.int 1,.int 1]]::PD me false false (j4 me (BY (c+q)))::nz 18)):=zw (zl rfl hst);have p5:exec G (zd G T 2000 (n+2)) (zj G T 2000 (n+2)) 2000 (.newl 19 .nil) (ds (zB me)::Bm me::(Fc.cells ⟨me,s,q,c,d,e,i,u,v,w,z⟩)::.int s::.int q::.int c::.int d::.int e::.int i::.int u::.int v::.int w::.int z::.int (sh s).1::.int (sh s).2.1::ds (sh s).2.2.t::.int (b2 (jq q))::.tuple [.tuple [.int 0,.int 0],.tuple [.int (1 - b2 (jq q)),.int (b2 (jq q))],.tuple [.int 1,.int 1]]::PD me false false (j4 me (BY (c+q)))::nz 18)=.ok (.next,(ds (zB me)::Bm me::(Fc.cells ⟨me,s,q,c,d,e,i,u,v,w,z⟩)::.int s::.int q::.int c::.int d::.int e::.int i::.int u::.int v::.int w::.int z::.int (sh s).1::.int (sh s).2.1::ds (sh s).2.2.t::.int (b2 (jq q))::.tuple [.tuple [.int 0,.int 0],.tuple [.int (1 - b2 (jq q)),.int (b2 (jq q))],.tuple [.int 1,.int 1]]::PD me false false (j4 me (BY (c+q)))::.list []::nz 17)):=rfl;exact Rt.fin (Rt.nxt p0 (Rt.nxt p1 (Rt.nxt p2 (Rt.nxt p3 (Rt.nxt p4 (Rt.nxt p5 (Rt.nxt hf tl)))))))
structure Mu(μ:Tok->Int)(α ι γ:Int):Prop where
 nm:∀{x:Tok},Av x=true->μ x=α
 nu:∀{x:Tok},isNumT x=true->μ x=α
 pl:μ [43]+α=0
 mi:μ [45]+α=0
 ii:μ BR+α+μ kL+μ Ad=ι
 pp:μ [40]+μ [41]=0
 cm:μ [44]=γ
noncomputable def W(μ:Tok->Int):List Tok->Int
 |[]=>0
 |t::r=>μ t+W μ r
theorem C0{μ:Tok->Int}(a b:List Tok):W μ (a++b)=W μ a+W μ b:=by
 induction a with
 |nil=>exact(Int.zero_add _).symm
 |cons t a ih=>show μ t+W μ (a++b)=μ t+W μ a+W μ b;rw[ih,Int.add_assoc]
mutual
inductive Wd(α ι γ:Int):D->Int->Prop
 |num(i:Int):Wd α ι γ (Ej i) α
 |name(x:Tok):Wd α ι γ (Ba x) α
 |pred{a:D}{k:Int}(h:Wd α ι γ a k):Wd α ι γ (C3 a) k
 |succ{a:D}{k:Int}(h:Wd α ι γ a k):Wd α ι γ (FZ a) k
 |iff{x:Tok}{a b:D}{k m:Int}(h:Wd α ι γ a k)(g:Wd α ι γ b m):Wd α ι γ (cB x a b) (k+m+ι)
 |call{f:Tok}{as:List D}{k:Int}(h:Wds α ι γ as k):Wd α ι γ (EO f as) (α+k)
inductive Wds(α ι γ:Int):List D->Int->Prop
 |one{a:D}{m:Int}(g:Wd α ι γ a m):Wds α ι γ [a] m
 |snoc{as:List D}{a:D}{k m:Int}(h:Wds α ι γ as k)(g:Wd α ι γ a m):Wds α ι γ (as++[a]) (k+(γ+m))
end
theorem B5{α β:Type}{x:R α}{f:α->R β}{r:β}(h:R.bind x f=.ok r):∃a,x=.ok a/\f a=.ok r:=by
 induction x using R.casesOn with
 |ok a=>exact⟨a,rfl,h⟩
 |ve=>exact nv h
 |stuck=>exact ns h
theorem A2{r r':List Tok}{w:Tok}(hw:w≠[])(h:jC r w=.ok r'):r=w::r':=by
 obtain⟨h1,h2,h3⟩:=Gz hw h;induction r using uB with
 |nil=>exact absurd rfl h3
 |cons t r=>rw[h2];exact congrArg (·::r) h1
set_option tactic.hygienic true in
theorem Et{r:List Tok}{x:Tok}(h:kz r=.ok x):r=x::r.drop 1/\Av x=true:=by
 unfold kz at h;split at h
 ·rename_i hb;have e:=jz h;induction r using uB with
  |nil=>exact ff hb
  |cons t r=>exact⟨congrArg (·::r) e,e▸hb⟩
 ·exact nv h
theorem GP{r:List Tok}{t:Tok}(h:pk r=t)(ht:t≠[]):r=t::r.drop 1:=by
 induction r using uB with
 |nil=>exact absurd h.symm ht
 |cons u r=>exact congrArg (·::r) h
section
variable{μ:Tok->Int}{α ι γ:Int}
inductive WT(μ:Tok->Int)(α ι γ:Int)(r:List Tok)(d:D)(r':List Tok):Prop
 |mk(u:List Tok)(k:Int)(e:r=u++r')(h:Wd α ι γ d k)(w:W μ u=k)
theorem lJ(M:Mu μ α ι γ):∀(d:D) (r:List Tok) (q:D×List Tok),Ky d r=.ok q->∀{k:Int},Wd α ι γ d k->∃u,r=u++q.2/\Wd α ι γ q.1 k/\W μ u=0:=by
 intro d r
 fun_induction Ky d r with
 |case1 d=>intro q h k hd;rw[<-jz h];exact⟨[],rfl,hd,rfl⟩
 |case2 d t h=>intro q h;exact nv h
 |case3 d t h=>intro q h k hd;rw[<-jz h];exact⟨[],rfl,hd,rfl⟩
 |case4 d t r h ih=>
  intro q hq k hd;obtain⟨u,e,h1,h2⟩:=ih q hq (k:=k) (by split;exact .succ hd;exact .pred hd);refine⟨t::[49]::u,by rw[e];rfl,h1,?_⟩;show μ t+(μ [49]+W μ u)=0;rw[h2,M.nu (x:=[49]) rfl,xZ];rcases h with rfl|rfl
  ·exact M.pl
  ·exact M.mi
 |case5 d t u r h h2=>intro q h;exact nv h
 |case6 d t u r h=>intro q h k hd;rw[<-jz h];exact⟨[],rfl,hd,rfl⟩
set_option tactic.hygienic true in
theorem o8(M:Mu μ α ι γ){pf:List Tok->PR}(ih:∀r q,pf r=.ok q->WT μ α ι γ r q.1 q.2):∀(m:Nat) (as:List D) (r:List Tok) (q:List D×List Tok),Tz pf m as r=.ok q->as≠[]->∀{k:Int},Wds α ι γ as k->
  ∃u k',r=u++q.2/\Wds α ι γ q.1 k'/\k+W μ u=k':=by
 intro m;induction m with
 |zero=>intro as r q h;exact ns h
 |succ m ihm=>
  intro as r q h hne k hk;rw[Bi] at h;split at h
  ·rename_i hc;have hr:=GP (hc.resolve_left hne) (by decide);obtain⟨p,h1,h2⟩:=B5 h;obtain⟨u,k1,e,hd,hw⟩:=ih _ _ h1;obtain⟨v,k2,e2,hs,hw2⟩:=ihm _ _ q h2 (by simp) (.snoc hk hd);refine⟨[44]::(u++v),k2,by rw[hr,e,e2];simp,hs,?_⟩;show k+(μ [44]+W μ (u++v))=k2;rw[C0,M.cm,hw,<-hw2];simp only[Int.add_assoc]
  ·rw[<-jz h];exact⟨[],k,rfl,hk,xZ _⟩
set_option tactic.hygienic true in
theorem oB(M:Mu μ α ι γ){pf:List Tok->PR}(ih:∀r q,pf r=.ok q->WT μ α ι γ r q.1 q.2){r:List Tok}{q:D×List Tok}(h:O7 pf r=.ok q):WT μ α ι γ r q.1 q.2:=by
 unfold O7 at h;split at h
 ·rename_i hp;have hr:=GP hp (by decide);obtain⟨p,h1,h2⟩:=B5 h;obtain⟨r2,h3,h4⟩:=B5 h2;obtain⟨u,k,e,hd,hw⟩:=ih _ _ h1;have e3:=A2 (by decide) h3;rw[<-jz h4];refine⟨[40]::(u++[[41]]),k,by rw[hr,e,e3];simp,hd,?_⟩;show μ [40]+W μ (u++[[41]])=k;rw[C0,hw,Int.add_left_comm];show k+(μ [40]+(μ [41]+0))=k;rw[xZ,M.pp,xZ]
 ·split at h
  ·rename_i hN;obtain⟨d,h1,h2⟩:=B5 h;have hr:=GP (t:=pk r) rfl (λe=>by rw[e] at hN;exact ff hN);rw[<-jz h2];have hd:∃i,d=Ej i:=by
    unfold Lz at h1;split at h1
    ·exact nv h1
    ·split at h1
     ·exact⟨_,(jz h1).symm⟩
     ·exact ns h1
   obtain⟨i,rfl⟩:=hd;exact⟨[pk r],α,hr,.num i,by show μ (pk r)+0=α;rw[xZ,M.nu hN]⟩
  ·obtain⟨x,h1,h2⟩:=B5 h;obtain⟨hr,hx⟩:=Et h1;split at h2
   ·rename_i hp;have hr2:=GP hp (by decide);obtain⟨p,h3,h4⟩:=B5 h2;obtain⟨r2,h5,h6⟩:=B5 h4;rw[Bi,if_pos (xS rfl)] at h3;obtain⟨p1,h7,h8⟩:=B5 h3;obtain⟨u,k,e,hd,hw⟩:=ih _ _ h7;obtain⟨v,k2,e2,hs,hw2⟩:=o8 M ih _ _ _ p h8 (uI _ _) (.one hd);have e5:=A2 (by decide) h5;rw[<-jz h6];refine⟨x::[40]::(u++v++[[41]]),α+k2,by rw[hr,hr2,e,e2,e5];simp,.call hs,?_⟩;show μ x+(μ [40]+W μ (u++v++[[41]]))=α+k2;rw[C0,C0,M.nm hx,hw,hw2];show α+(μ [40]+(k2+(μ [41]+0)))=α+k2;rw[xZ,Int.add_left_comm (μ [40]),M.pp,xZ]
   ·rw[<-jz h2];exact⟨[x],α,hr,.name x,by show μ x+0=α;rw[xZ,M.nm hx]⟩
set_option tactic.hygienic true in
theorem oO(M:Mu μ α ι γ){pe pa:List Tok->PR}(ihE:∀r q,pe r=.ok q->WT μ α ι γ r q.1 q.2)(ihA:∀r q,pa r=.ok q->WT μ α ι γ r q.1 q.2){r:List Tok}{q:D×List Tok}(h:Mh pe pa r=.ok q):WT μ α ι γ r q.1 q.2:=by
 unfold Mh at h;split at h
 ·rename_i hp;have hr:=GP hp (by decide);obtain⟨x,h1,h⟩:=B5 h;obtain⟨r1,h2,h⟩:=B5 h;obtain⟨p,h3,h⟩:=B5 h;obtain⟨r2,h4,h⟩:=B5 h;obtain⟨p2,h5,h⟩:=B5 h;obtain⟨e1,hx⟩:=Et h1;have e2:=A2 (by decide) h2;have e4:=A2 (by decide) h4;obtain⟨u,k,e3,hd,hw⟩:=ihE _ _ h3;obtain⟨v,m,e5,hd2,hw2⟩:=ihE _ _ h5;rw[<-jz h];have e6:r.drop 2=(r.drop 1).drop 1:=by rw[wG]
  refine⟨BR::x::kL::(u++Ad::v),k+m+ι,?_,.iff hd hd2,?_⟩
  ·rw[hr,e1,<-e6,e2,e3,e4,e5];simp
  ·show μ BR+(μ x+(μ kL+W μ (u++Ad::v)))=k+m+ι;rw[C0,M.nm hx,hw];show μ BR+(α+(μ kL+(k+(μ Ad+W μ v))))=k+m+ι;rw[hw2,<-M.ii];lia
 ·obtain⟨p,h1,h2⟩:=B5 h;obtain⟨u,k,e,hd,hw⟩:=ihA _ _ h1;obtain⟨v,e2,hd2,hw2⟩:=lJ M _ _ _ h2 hd;exact⟨u++v,k,by rw[e,e2,uN],hd2,by rw[C0,hw,hw2,xZ]⟩
theorem qG(M:Mu μ α ι γ):∀n:Nat,(∀r q,pE n r=.ok q->WT μ α ι γ r q.1 q.2)/\(∀r q,pA n r=.ok q->WT μ α ι γ r q.1 q.2):=by
 intro n;induction n with
 |zero=>exact⟨λr q h=>ns h,λr q h=>ns h⟩
 |succ n ih=>
  rw[MR,MQ];split
  ·exact⟨λr q h=>ns h,λr q h=>ns h⟩
  ·exact⟨λr q h=>oO M ih.1 ih.2 h,λr q h=>oB M ih.1 h⟩
theorem qH(M:Mu μ α ι γ):∀(ps r:List Tok) (q:List Tok×List Tok),VD ps r=.ok q->∃(u:List Tok) (j:Nat),r=u++q.2/\q.1.length=ps.length+j/\W μ u=j*(γ+α):=by
 intro ps r
 fun_induction VD ps r with
 |case1 ps=>intro q h;rw[<-jz h];exact⟨[],0,rfl,rfl,(Int.zero_mul _).symm⟩
 |case2 ps=>intro q h;exact nv h
 |case3 ps c h=>intro q h;rw[<-jz h];exact⟨[],0,rfl,rfl,(Int.zero_mul _).symm⟩
 |case4 ps x r hx ih=>
  intro q h;obtain⟨u,j,e,hl,hw⟩:=ih q h;refine⟨[44]::x::u,j+1,by rw[e];rfl,by rw[hl,uE,vD,vO [x].length];rfl,?_⟩;show μ [44]+(μ x+W μ u)=_;rw[M.cm,M.nm hx,hw,<-Int.add_assoc,Int.natCast_add,Int.add_mul,Int.add_comm];exact congrArg (λz=>(j:Int)*(γ+α)+z) (Int.one_mul _).symm
 |case5 ps x r h=>intro q h;exact nv h
 |case6 ps c x r h=>intro q h;rw[<-jz h];exact⟨[],0,rfl,rfl,(Int.zero_mul _).symm⟩
inductive dQ(μ:Tok->Int)(α ι γ:Int)(ts:List Tok)(r:kG):Prop
 |mk(k:Int)(j:Nat)(hp:r.ps.length=j+1)(h:Wd α ι γ r.b k)(w:W μ ts=α+α+j*(γ+α)+μ [61]+k)
set_option tactic.hygienic true in
theorem MX(M:Mu μ α ι γ)(h:zY n ts=.ok r):dQ μ α ι γ ts r:=by
 unfold zY at h;obtain⟨f,h1,h⟩:=B5 h;obtain⟨r1,h2,h⟩:=B5 h;obtain⟨p,h3,h⟩:=B5 h;obtain⟨q,h4,h⟩:=B5 h;obtain⟨r2,h5,h⟩:=B5 h;obtain⟨r3,h6,h⟩:=B5 h;obtain⟨e,h7,h⟩:=B5 h;split at h
 ·exact nv h
 rename_i hc;have he:e.2=[]:=by
  cases hx:e.2 with
  |nil=>rfl
  |cons=>exact absurd (xS (by rw[hx];exact uI _ _)) hc
 obtain⟨e1,hf⟩:=Et h1;have e2:=A2 (by decide) h2;obtain⟨e3,hp⟩:=Et h3;obtain⟨u,j,e4,hl,hw⟩:=qH M _ _ _ h4;have e5:=A2 (by decide) h5;have e6:=A2 (by decide) h6;obtain⟨v,k,e7,hd,hw2⟩:=(qG M n).1 _ _ h7;rw[<-jz h];refine⟨k,j,by rw[hl,vO];rfl,hd,?_⟩;have et:ts=f::[40]::p::(u++[41]::[61]::v):=by
  rw[e1,e2,e3,e4,e5,e6,e7,he];simp
 rw[et];show μ f+(μ [40]+(μ p+W μ (u++[41]::[61]::v)))=_;rw[C0,M.nm hf,M.nm hp,hw];show α+(μ [40]+(α+(j*(γ+α)+(μ [41]+(μ [61]+W μ v)))))=_;have hpp:=M.pp;rw[hw2];generalize (j:Int)*(γ+α)=z;clear hw hw2 hd e7 e6 e5 e4 e3 e2 e1 et hl hf hp hc he h h1 h2 h3 h4 h5 h6 h7 M;lia
end
noncomputable def Cz(l:List (Tok×Int))(a:Int)(t:Tok):Int:=match l.lookup t with
 |some k=>k
 |none=>a
theorem FG(hl:(l.map (·.1)).all (λt=>!Av t&&!isNumT t)=true)(h1:Cz l α [43]+α=0)(h2:Cz l α [45]+α=0)(h3:Cz l α BR+α+Cz l α kL+Cz l α Ad=ι)(h4:Cz l α [40]+Cz l α [41]=0)(h5:Cz l α [44]=γ):Mu (Cz l α) α ι γ:=by
 have key:∀{x:Tok},(Av x||isNumT x)=true->Cz l α x=α:=by
  intro x hx;unfold Cz;cases hc:l.lookup x with
  |none=>rfl
  |some k=>
   exfalso;have hm:x∈l.map (·.1):=by
    clear h1 h2 h3 h4 h5 hl;induction l with
    |nil=>exact nn hc
    |cons p l ih=>
     obtain⟨t,v⟩:=p;rw[vM] at hc;by_cases e:x=t
     ·rw[e];exact u4
     ·have:(x==t)=false:=by rw[beq_eq_false_iff_ne];exact e
      rw[this] at hc;exact u0 _ (ih hc)
   have:=uF.mp hl x hm;cases h1:Av x<;>cases h2:isNumT x<;>rw[h1,h2] at this hx<;>first|exact ff this|exact ff hx
 exact⟨λhx=>key (by rw[hx];rfl),λhx=>key (by rw[hx];exact Bool.or_true _),h1,h2,h3,h4,h5⟩
def iI:Tok->Int:=Cz [([44],-2),([43],-1),([45],-1),(kL,-1),(Ad,-1),(BR,0),([40],0),([41],0),([61],0)] 1
def pU:Tok->Int:=Cz [([40],1),([41],-1)] 0
def pW:Tok->Int:=Cz [(BR,1),(kL,-1)] 0
def muT:Tok->Int:=Cz [(kL,1),(Ad,-1)] 0
def pV:Tok->Int:=Cz [([61],1)] 0
theorem fY:Mu iI 1 (-1) (-2):=FG (by decide) rfl rfl rfl rfl rfl
theorem QQ:Mu pU 0 0 0:=FG (by decide) rfl rfl rfl rfl rfl
theorem fV:Mu pW 0 0 0:=FG (by decide) rfl rfl rfl rfl rfl
theorem fU:Mu pV 0 0 0:=FG (by decide) rfl rfl rfl rfl rfl
theorem WE{d:D}{k:Int}(h:Wd 0 0 0 d k):k=0:=
 Wd.rec (motive_1:=λ_ k _=>k=0) (motive_2:=λ_ k _=>k=0) (λ_=>rfl) (λ_=>rfl) (λ_ i=>i) (λ_ i=>i) (λ_ _ i j=>by rw[i,j];rfl) (λ_ i=>by rw[i];rfl) (λ_ i=>i) (λ_ _ i j=>by rw[i,j];rfl) h
inductive AR:D->Prop
 |num(i:Int):AR (Ej i)
 |name(x:Tok):AR (Ba x)
 |pred{a:D}(h:AR a):AR (C3 a)
 |succ{a:D}(h:AR a):AR (FZ a)
 |iff{x:Tok}{a b:D}(h:AR a)(g:AR b):AR (cB x a b)
 |call{f:Tok}{a b:D}(h:AR a)(g:AR b):AR (EO f [a,b])
theorem Gn(M:Mu μ 0 0 0)(h:zY n ts=.ok r):W μ ts=μ [61]:=by
 obtain⟨k,j,_,hd,hw⟩:=MX M h;rw[hw,WE hd];show 0+0+(j:Int)*(0+0)+μ [61]+0=μ [61];simp
theorem XR(h:zY n ts=.ok r):W pU ts=0:=Gn QQ h
theorem XS(h:zY n ts=.ok r):W pW ts=0:=Gn fV h
theorem Kk(h:zY n ts=.ok r):W pV ts=1:=Gn fU h
section
variable{cf ci:Nat->List D->R D}{ρ σ:zg}{a:PE}{s t:PS}{x:D}
theorem D8(h:ev G cf a ρ=.ok x):exec G cf ci 2000 (.exp a) ρ=.ok (.next,ρ):=congrArg (R.bind · _) h
theorem KH(h:ev G cf a ρ=.ve):exec G cf ci 2000 (.exp a) ρ=.ve:=congrArg (R.bind · _) h
theorem GX(h:exec G cf ci 2000 s ρ=.ve):exec G cf ci 2000 (.seq s t) ρ=.ve:=congrArg (R.bind · _) h
end
theorem Kz(l:List Tok):A8 (l.map ds)=some (l.map S):=by
 induction l with
 |nil=>rfl
 |cons t l ih=>show(A8 (l.map ds)).bind (λr=>some (S t::r))=_;rw[ih];rfl
theorem UF{ns:List Tok}{f:Tok}(h:ns.contains f=true):∃i:Nat,Ig (zm ns) (ds f)=.ok (.int i)/\jd (.list (ns.map λ_=>uT 2)) (.int i)=.ok (.int 2):=by
 have hm:S f∈ns.map S:=zaG (wN.mp h);have hl:(ns.map S).idxOf (S f)<ns.length:=by have:=List.idxOf_lt_length_iff.mpr hm;rwa [uJ] at this
 refine⟨(ns.map S).idxOf (S f),?_,?_⟩
 ·show R.bind (ji (A8 (ns.map ds))) (QM (S f))=_;rw[Kz];show(if(ns.map S).contains (S f) then R.ok (uT ((ns.map S).idxOf (S f))) else .stuck)=_;rw[if_pos (wN.mpr hm)]
 ·rw[Bt,v6,uA hl];rfl
section
variable(ps ns:List Tok)
abbrev JU(n:Nat)(d:D):R D:=zd G T 2000 n 6 [d,zm ps,zm ns,.list (ns.map λ_=>uT 2)]
inductive WY(n:Nat)(d:D):Prop
 |ok(h:JU ps ns n d=.ok .none)(b:AR d)
 |ve(h:JU ps ns n d=.ve)
inductive LkL(n:Nat)(as:List D):Prop
 |mk(h:∀a∈as,WY ps ns n a)
variable{ps ns}
abbrev Iu(d d4:D):zg:=[d,zm ps,zm ns,.list (ns.map λ_=>uT 2),d4,O,O,O]
theorem BA{n:Nat}{d:D}{σ:zg}(h:exec G (zd G T 2000 n) (zj G T 2000 n) 2000 Fp.body (Iu (ps:=ps) (ns:=ns) d .none)=.ok (.next,σ)):JU ps ns (n+1) d=.ok .none:=(Qb ..).trans (congrArg (R.bind · kZ) h)
theorem DK{n:Nat}{d:D}(h:exec G (zd G T 2000 n) (zj G T 2000 n) 2000 Fp.body (Iu (ps:=ps) (ns:=ns) d .none)=.ve):JU ps ns (n+1) d=.ve:=(Qb ..).trans (congrArg (R.bind · kZ) h)
theorem U3{n:Nat}{d:D}:∀(as:List D) (d4:D),(∀a∈as,WY ps ns n a)->
  ((∃t,fl G (zd G T 2000 n) (zj G T 2000 n) 2000 (.one 4) Zy as (Iu (ps:=ps) (ns:=ns) d d4)=.ok (.next,Iu (ps:=ps) (ns:=ns) d t))/\∀a∈as,AR a)\/fl G (zd G T 2000 n) (zj G T 2000 n) 2000 (.one 4) Zy as (Iu (ps:=ps) (ns:=ns) d d4)=.ve:=by
 intro as;induction as with
 |nil=>intro d4 _;exact .inl ⟨⟨d4,rfl⟩,nofun⟩
 |cons a as ih=>
  intro d4 h;cases h a u4 with
  |ve e=>exact .inr (congrArg (R.bind · (cJ G (zd G T 2000 n) (zj G T 2000 n) 2000 (.one 4) Zy as)) (KH (ρ:=Iu (ps:=ps) (ns:=ns) d a) (zl rfl e)))
  |ok e b=>
   have k:fl G (zd G T 2000 n) (zj G T 2000 n) 2000 (.one 4) Zy (a::as) (Iu (ps:=ps) (ns:=ns) d d4)=fl G (zd G T 2000 n) (zj G T 2000 n) 2000 (.one 4) Zy as (Iu (ps:=ps) (ns:=ns) d a):=
    congrArg (R.bind · (cJ G (zd G T 2000 n) (zj G T 2000 n) 2000 (.one 4) Zy as)) (D8 (ρ:=Iu (ps:=ps) (ns:=ns) d a) (zl rfl e))
   rcases ih a (λx hx=>h x (u0 _ hx)) with⟨⟨t,e1⟩,hb⟩|e1
   ·refine .inl ⟨⟨t,k.trans e1⟩,λx hx=>?_⟩
    (rcases List.mem_cons.mp hx with zr1|hx<;>(try (replace zr1:=vR zr1;subst zr1)))
    ·exact b
    ·exact hb x hx
   ·exact .inr (k.trans e1)
theorem Lb:∀{l:List D},a∈l->v7 a<=vG l:=by
 intro l;induction l with
 |nil=>intro h;cases h
 |cons b l ih=>
  intro h;rcases List.mem_cons.mp h with rfl|h
  ·exact vV _ _
  ·exact qA (ih h) (vP _ _)
theorem YQ:∀{a:List D},vG a<=vG (a++b):=by
 intro a;induction a with
 |nil=>exact uZ _
 |cons x a ih=>exact Nat.max_le.mpr ⟨vV _ _,qA ih (vP _ _)⟩
theorem FY{a:D}{l:List D}(h:a∈l){n:Nat}(hn:v7 (.tuple l)<=n):v7 a<n:=qD (za3 (Lb h)) hn
theorem Rm{d:D}{k:Int}(h:Wd 0 0 0 d k):∀n,v7 d<n->WY ps ns n d:=by
 refine Wd.rec (motive_1:=λd _ _=>∀n,v7 d<n->WY ps ns n d) (motive_2:=λas _ _=>∀n,vG as<n->∀a∈as,WY ps ns n a)
  ?num ?name ?pred ?succ ?iff ?call ?one ?snoc h
 case num=>
  intro i n hn;refine FJ hn λn _=>?_;exact .ok (BA rfl) (.num i)
 case name=>
  intro x n hn;refine FJ hn λn _=>?_;have h:=Bc x ps;cases hc:ps.contains x with
  |true=>rw[hc] at h;exact .ok (BA (zh (zr (Ag rfl (ze rfl rfl h)) rfl) rfl)) (.name x)
  |false=>rw[hc] at h;exact .ve (DK (GX (zu (Ag rfl (ze rfl rfl h)) rfl)))
 case pred=>
  intro d k _ ih n hn;refine FJ hn λn hn'=>?_;cases ih n (FY (u0 _ u4) hn') with
  |ok e b=>exact .ok (BA (zh rfl (zh (zu rfl (D8 (zl rfl e))) rfl))) (.pred b)
  |ve e=>exact .ve (DK (zh rfl (GX (zu rfl (KH (zl rfl e))))))
 case succ=>
  intro d k _ ih n hn;refine FJ hn λn hn'=>?_;cases ih n (FY (u0 _ u4) hn') with
  |ok e b=>exact .ok (BA (zh rfl (zh (zu rfl (D8 (zl rfl e))) rfl))) (.succ b)
  |ve e=>exact .ve (DK (zh rfl (GX (zu rfl (KH (zl rfl e))))))
 case iff=>
  intro x _ _ _ _ _ _ ih ih2 n hn;refine FJ hn λn hn'=>?_;have hm:=Bc x ps;cases hc:ps.contains x with
  |false=>rw[hc] at hm;exact .ve (DK (zh rfl (zh rfl (GX (zu rfl (GX (zu (ze rfl rfl hm) rfl)))))))
  |true=>
   rw[hc] at hm;cases ih n (FY (u0 _ (u0 _ u4)) hn') with
   |ve e=>exact .ve (DK (zh rfl (zh rfl (GX (zu rfl (zh (zr (ze rfl rfl hm) rfl) (GX (KH (zl rfl e)))))))))
   |ok e b=>
    cases ih2 n (FY (u0 _ (u0 _ (u0 _ u4))) hn') with
    |ve e2=>exact .ve (DK (zh rfl (zh rfl (GX (zu rfl (zh (zr (ze rfl rfl hm) rfl) (zh (D8 (zl rfl e)) (KH (zl rfl e2)))))))))
    |ok e2 b2=>exact .ok (BA (zh rfl (zh rfl (zh (zu rfl (zh (zr (ze rfl rfl hm) rfl) (zh (D8 (zl rfl e)) (D8 (zl rfl e2))))) rfl)))) (.iff b b2)
 case call=>
  intro f as _ _ ih n hn;refine FJ hn λn hn'=>?_;have hN:=ih n (xG (FY (u0 _ (u0 _ u4)) hn'));have hm:=Bc f ns;cases hc:ns.contains f with
  |false=>rw[hc] at hm;exact .ve (DK (zh rfl (zh rfl (zh rfl (zu rfl (GX (zu (Js (ze rfl rfl hm)) rfl)))))))
  |true=>
   rw[hc] at hm;obtain⟨i,h1,h2⟩:=UF hc;by_cases hl:as.length=2
   ·have hne:FA (.int 2) (.int (as.length:Nat))=.ok (.bool false):=congrArg (λb=>R.ok (vE !b)) (decide_eq_true (by rw[hl];rfl));rcases U3 (n:=n) (d:=EO f as) as .none hN with⟨⟨t,e⟩,hb⟩|e
    ·have hb2:AR (EO f as):=by
      match as,hl,hb with
      |[a,b],_,hb=>exact .call (hb a u4) (hb b (u0 _ u4))
     exact .ok (BA (zh rfl (zh rfl (zh rfl (zu rfl (zh (zr (Cf (ze rfl rfl hm) (ze (ze rfl h1 h2) (BJ rfl rfl) hne)) rfl) (Ap rfl e))))))) hb2
    ·exact .ve (DK (zh rfl (zh rfl (zh rfl (zu rfl (zh (zr (Cf (ze rfl rfl hm) (ze (ze rfl h1 h2) (BJ rfl rfl) hne)) rfl) (Ap rfl e)))))))
   ·have hne:FA (.int 2) (.int (as.length:Nat))=.ok (.bool true):=congrArg (λb=>R.ok (vE !b)) (decide_eq_false λe=>hl (Int.ofNat_inj.mp e.symm));exact .ve (DK (zh rfl (zh rfl (zh rfl (zu rfl (GX (zu (Cf (ze rfl rfl hm) (ze (ze rfl h1 h2) (BJ rfl rfl) hne)) rfl)))))))
 case one=>
  intro _ _ _ ih n hn a ha;rw[List.mem_singleton.mp ha];exact ih n (qB (Lb u4) hn)
 case snoc=>
  intro _ _ _ _ _ _ ih ih2 n hn a ha;rcases List.mem_append.mp ha with ha|ha
  ·exact ih n (qB YQ hn) a ha
  ·rw[List.mem_singleton.mp ha];exact ih2 n (qB (Lb (xQ _ u4)) hn)
end
noncomputable def Dv:D->Tok
 |.tuple (.str x::_)=>x.cps.toList
 |_=>[]
section
variable{α ι γ:Int}
theorem bL(h:Wd α ι γ (Ej i) k):k=α:=by
 generalize hd:Ej i=d at h;induction h using Wd.casesOn with
 |num=>rfl
 |name=>exact absurd (show Fa=BU from congrArg Dv hd) (by decide)
 |pred=>exact absurd (show Fa=kQ from congrArg Dv hd) (by decide)
 |succ=>exact absurd (show Fa=Ab from congrArg Dv hd) (by decide)
 |iff=>exact absurd (show Fa=BR from congrArg Dv hd) (by decide)
 |call=>exact absurd (show Fa=BT from congrArg Dv hd) (by decide)
theorem WG(h:Wd α ι γ (Ba x) k):k=α:=by
 generalize hd:Ba x=d at h;induction h using Wd.casesOn with
 |num=>exact absurd (show BU=Fa from congrArg Dv hd) (by decide)
 |name=>rfl
 |pred=>exact absurd (show BU=kQ from congrArg Dv hd) (by decide)
 |succ=>exact absurd (show BU=Ab from congrArg Dv hd) (by decide)
 |iff=>exact absurd (show BU=BR from congrArg Dv hd) (by decide)
 |call=>exact absurd (show BU=BT from congrArg Dv hd) (by decide)
theorem WH(h:Wd α ι γ (C3 a) k):Wd α ι γ a k:=by
 generalize hd:C3 a=d at h;induction h using Wd.casesOn with
 |num=>exact absurd (show kQ=Fa from congrArg Dv hd) (by decide)
 |name=>exact absurd (show kQ=BU from congrArg Dv hd) (by decide)
 |pred h=>injection hd with hd;injection hd with _ hd;injection hd with hd;exact hd▸h
 |succ=>exact absurd (show kQ=Ab from congrArg Dv hd) (by decide)
 |iff=>exact absurd (show kQ=BR from congrArg Dv hd) (by decide)
 |call=>exact absurd (show kQ=BT from congrArg Dv hd) (by decide)
theorem WI(h:Wd α ι γ (FZ a) k):Wd α ι γ a k:=by
 generalize hd:FZ a=d at h;induction h using Wd.casesOn with
 |num=>exact absurd (show Ab=Fa from congrArg Dv hd) (by decide)
 |name=>exact absurd (show Ab=BU from congrArg Dv hd) (by decide)
 |pred=>exact absurd (show Ab=kQ from congrArg Dv hd) (by decide)
 |succ h=>injection hd with hd;injection hd with _ hd;injection hd with hd;exact hd▸h
 |iff=>exact absurd (show Ab=BR from congrArg Dv hd) (by decide)
 |call=>exact absurd (show Ab=BT from congrArg Dv hd) (by decide)
theorem bK(h:Wd α ι γ (cB x a b) k):∃p q,Wd α ι γ a p/\Wd α ι γ b q/\k=p+q+ι:=by
 generalize hd:cB x a b=d at h;induction h using Wd.casesOn with
 |num=>exact absurd (show BR=Fa from congrArg Dv hd) (by decide)
 |name=>exact absurd (show BR=BU from congrArg Dv hd) (by decide)
 |pred=>exact absurd (show BR=kQ from congrArg Dv hd) (by decide)
 |succ=>exact absurd (show BR=Ab from congrArg Dv hd) (by decide)
 |iff h g=>
  injection hd with hd;injection hd with _ hd;injection hd with _ hd;injection hd with h1 hd;injection hd with h2
  exact⟨_,_,h1▸h,h2▸g,rfl⟩
 |call=>exact absurd (show BR=BT from congrArg Dv hd) (by decide)
theorem WF(h:Wd α ι γ (EO f as) k):∃p,Wds α ι γ as p/\k=α+p:=by
 generalize hd:EO f as=d at h;induction h using Wd.casesOn with
 |num=>exact absurd (show BT=Fa from congrArg Dv hd) (by decide)
 |name=>exact absurd (show BT=BU from congrArg Dv hd) (by decide)
 |pred=>exact absurd (show BT=kQ from congrArg Dv hd) (by decide)
 |succ=>exact absurd (show BT=Ab from congrArg Dv hd) (by decide)
 |iff=>exact absurd (show BT=BR from congrArg Dv hd) (by decide)
 |call h=>
  injection hd with hd;injection hd with _ hd;injection hd with _ hd;injection hd with hd
  injection hd with hd
  exact⟨_,hd▸h,rfl⟩
theorem Ts(h:Wds α ι γ as k):as≠[]:=by induction h using Wds.casesOn<;>simp
theorem bM(h:Wds α ι γ [a,b] k):∃p q,Wd α ι γ a p/\Wd α ι γ b q/\k=p+(γ+q):=by
 generalize hd:[a,b]=l at h;induction h using Wds.casesOn with
 |one=>cases hd
 |@snoc as c p q h g=>
  match as,h,hd with
  |[x],h,hd=>
   injection hd with h1 hd;injection hd with h2
   generalize hx:[x]=l at h;induction h using Wds.casesOn with
   |one g1=>injection hx with hx;exact⟨_,_,by rw[h1,hx];exact g1,h2▸g,rfl⟩
   |@snoc as' c' p' q' h' g'=>
    match as',h',hx with
    |[],h',hx=>exact absurd rfl (Ts h')
    |y::r,h',hx=>injection hx with _ hx;induction r using uB<;>cases hx
  |[],h,hd=>exact absurd rfl (Ts h)
  |x::y::r,h,hd=>injection hd with _ hd;injection hd with _ hd;induction r using uB<;>cases hd
end
theorem eM(h:AR d):∀{k:Int},Wd 1 (-1) (-2) d k->k=1:=by
 induction h with
 |num=>intro k h;exact bL h
 |name=>intro k h;exact WG h
 |pred h ih=>intro k h;exact ih (WH h)
 |succ h ih=>intro k h;exact ih (WI h)
 |iff h g ih1 ih2=>
  intro k h;obtain⟨p,q,hp,hq,e⟩:=bK h;rw[e,ih1 hp,ih2 hq];rfl
 |call h g ih1 ih2=>
  intro k h;obtain⟨r,hr,e⟩:=WF h;obtain⟨p,q,hp,hq,e2⟩:=bM hr;rw[e,e2,ih1 hp,ih2 hq];rfl
theorem XT(h:zY n ts=.ok r)(hp:r.ps.length=2)(hb:AR r.b):W iI ts=2:=by
 obtain⟨k,j,hj,hd,hw⟩:=MX fY h;have e:j=1:=zbD (hj.symm.trans hp);rw[hw,eM hb hd,e];rfl
theorem ZQ(t:Tok)(h1:iI t=0)(h2:pU t=0)(h3:pW t=0)(h4:pV t=0):False:=by
 by_cases a1:t=[44]
 ·rw[a1] at h1;exact absurd h1 (by decide)
 by_cases a2:t=[43]
 ·rw[a2] at h1;exact absurd h1 (by decide)
 by_cases a3:t=[45]
 ·rw[a3] at h1;exact absurd h1 (by decide)
 by_cases a4:t=kL
 ·rw[a4] at h1;exact absurd h1 (by decide)
 by_cases a5:t=Ad
 ·rw[a5] at h1;exact absurd h1 (by decide)
 by_cases a6:t=BR
 ·rw[a6] at h3;exact absurd h3 (by decide)
 by_cases a7:t=[40]
 ·rw[a7] at h2;exact absurd h2 (by decide)
 by_cases a8:t=[41]
 ·rw[a8] at h2;exact absurd h2 (by decide)
 by_cases a9:t=[61]
 ·rw[a9] at h4;exact absurd h4 (by decide)
 have e:iI t=1:=by
  have f:∀{x:Tok},¬t=x->(t==x)=false:=λh=>beq_eq_false_iff_ne.mpr h;unfold iI Cz;simp only[vM,f a1,f a2,f a3,f a4,f a5,f a6,f a7,f a8,f a9,List.lookup_nil]
 rw[e] at h1;exact absurd h1 (by decide)
theorem dT:W μ (u++t::v)=W μ (u++v)+μ t:=by
 rw[C0,C0];show W μ u+(μ t+W μ v)=_;rw[Int.add_assoc,Int.add_comm (W μ v)]
theorem DL(h:W μ (u++t::v)=k)(g:W μ (u++v)=k):μ t=0:=by
 rw[dT,g] at h;exact Int.add_left_cancel (h.trans (xZ k).symm)
theorem Jq(h:zY n (u++t::v)=.ok r)(hp:r.ps.length=2)(hb:AR r.b)(h':zY m (u++v)=.ok r')(hp':r'.ps.length=2)(hb':AR r'.b):False:=
 ZQ t (DL (XT h hp hb) (XT h' hp' hb')) (DL (XR h) (XR h')) (DL (XS h) (XS h')) (DL (Kk h) (Kk h'))
theorem Ok(h:zY n a=.ok r)(h':zY m b=.ok r')(g:zY k (a++b)=.ok q):False:=by
 have e:=Kk g;rw[C0,Kk h,Kk h'] at e;exact absurd e (by decide)
theorem U4:∀(e:E) (n:Nat),e.wf p q->e.dep<n->JU [p,q] fx n e.d=.ok .none:=by
 have hz:∀z,z=p\/z=q->Ct (ds z) (zm [p,q])=.ok (.bool false):=by
  intro z h;refine(Bc z [p,q]).trans (congrArg (λb=>R.ok (vE !b)) (show[p,q].contains z=true from ?_));exact wN.mpr (by rcases h with rfl|rfl;exact u4;exact u0 _ u4)
 intro e;induction e with
 |num i=>intro n _ hn;exact FJ hn λn _=>BA rfl
 |name z=>intro n hw hn;exact FJ hn λn _=>BA (zh (zr (Ag rfl (ze rfl rfl (hz z hw))) rfl) rfl)
 |pred a ih=>intro n hw hn;exact FJ hn λn hn'=>BA (zh rfl (zh (zu rfl (D8 (zl rfl (ih n hw hn')))) rfl))
 |succ a ih=>intro n hw hn;exact FJ hn λn hn'=>BA (zh rfl (zh (zu rfl (D8 (zl rfl (ih n hw hn')))) rfl))
 |iff z a b iha ihb=>
  intro n hw hn;refine FJ hn λn hn'=>?_;have ha:=iha n hw.2.1 (qB (vV ..) hn');have hb:=ihb n hw.2.2 (qB (vP ..) hn');exact BA (zh rfl (zh rfl (zh (zu rfl (zh (zr (ze rfl rfl (hz z hw.1)) rfl) (zh (D8 (zl rfl ha)) (D8 (zl rfl hb))))) rfl)))
 |call g a b iha ihb=>
  intro n hw hn;refine FJ hn λn hn'=>?_;have ha:=iha n hw.1 (qB (vV ..) hn');have hb:=ihb n hw.2 (qB (vP ..) hn');induction g using tZ with
  |false=>exact BA (zh rfl (zh rfl (zh rfl (zu rfl (zh (zr rfl rfl) (Ap rfl (jU (D8 (zl rfl ha)) (jU (D8 (zl rfl hb)) rfl))))))))
  |true=>exact BA (zh rfl (zh rfl (zh rfl (zu rfl (zh (zr rfl rfl) (Ap rfl (jU (D8 (zl rfl ha)) (jU (D8 (zl rfl hb)) rfl))))))))
def Ie(r:List Tok):Prop:=pk r≠[43]/\pk r≠[45]/\pk r≠[40]
def PN(k:Nat)(ts:List Tok)(d:D):Prop:=∀n r,k<=n->pk r≠[40]->pE n (ts++r)=Ky d r
def PX(k:Nat)(ts:List Tok)(d:D):Prop:=∀n r,k<=n->Ie r->pE n (ts++r)=.ok (d,r)
theorem S2(h:Ie r):Ky d r=.ok (d,r):=by
 have hh:∀t,pk r=t->¬(t=[43]\/t=[45]):=by
  rintro t rfl (h'|h')
  ·exact h.1 h'
  ·exact h.2.1 h'
 match r,hh with
 |[],_=>rfl
 |[t],hh=>rw[Ky,if_neg (hh t rfl)]
 |t::u::r,hh=>rw[Ky,if_neg (hh t rfl)]
theorem PN.px(h:PN k ts d):PX k ts d:=λn r hn hr=>by rw[h n r hn hr.2.2,S2 hr]
theorem PX.mono(h:PX k ts d)(hk:k<=k'):PX k' ts d:=λn r hn hr=>h n r (qA hk hn) hr
theorem PN.mono(h:PN k ts d)(hk:k<=k'):PN k' ts d:=λn r hn hr=>h n r (qA hk hn) hr
theorem Oq(h:3<=n):pE n=Mh (pE (n - 1)) (pA (n - 1)):=by
 obtain⟨n,rfl⟩:∃k,n=k+1:=⟨n - 1,by exact(zaf (qB (uZ _) ‹_›)).symm⟩;rw[MR,if_neg (by exact Nat.not_le.mpr ‹_›)];rfl
theorem RX(h:3<=n):pA n=O7 (pE (n - 1)):=by
 obtain⟨n,rfl⟩:∃k,n=k+1:=⟨n - 1,by exact(zaf (qB (uZ _) ‹_›)).symm⟩;rw[MQ,if_neg (by exact Nat.not_le.mpr ‹_›)];rfl
theorem Z1(h:i=0\/i=1\/i=2\/i=10):PN 4 [RI i] (Ej i):=by
 intro n r hn hr;rw[Oq (by exact qC ‹_›),Mh,RX (by exact vW ‹_›)];rcases h with rfl|rfl|rfl|rfl<;>rfl
theorem Oo(h:Av x=true):∃c t,x=c::t/\AD c=true/\My.contains x=false:=by
 induction x using uB with
 |nil=>exact ff h
 |cons c t=>
  simp only[Av,uU,Bool.not_eq_true'] at h;exact⟨c,t,rfl,h.1,h.2⟩
theorem VC(h:Av x=true):PN 4 [x] (Ba x):=by
 intro n r hn hr;obtain⟨c,t,rfl,hc,hk⟩:=Oo h;rw[Oq (by exact qC ‹_›),Mh,RX (by exact vW ‹_›)];have h1:¬(pk ([c::t]++r)=BR):=by
  intro e;have e:c::t=BR:=e;rw[e] at hk;exact tf hk
 have h2:¬(pk ([c::t]++r)=[40]):=by
  intro e;have e:c::t=[40]:=e;injection e with e _
  subst e;exact ff hc
 have h3:¬(isNumT (pk ([c::t]++r))=true):=by
  show ¬(Bw c=true);simp[AD] at hc;simp[Bw];exact λ_=>qD (by decide) hc.1
 rw[if_neg h1,O7,if_neg h2,if_neg h3];have h4:kz ([c::t]++r)=.ok (c::t):=by
  show(if Av (c::t)=true then _ else _)=_;rw[if_pos h];rfl
 rw[h4];show R.bind (if pk r=[40] then _ else _) _=_;rw[if_neg hr];rfl
theorem PX.paren(h:PX k ts d):PN (k+5) ([[40]]++ts++[[41]]) d:=by
 intro n r hn hr;rw[Oq (by exact qB (vY _ _) ‹_›),Mh,if_neg (by simp[pk]),RX (by exact vW (qA (qA (by decide) (vY 5 k)) hn)),O7,if_pos (by rfl)];have:=h (n - 1 - 1) ([[41]]++r) (by exact vW (vW (qA (uD (show 2<=5 by decide) k) hn))) (by simp[Ie,pk]);simp only[uN,xN,y2,cA,c9] at this ⊢;rw[this];rfl
theorem PN.plus(h:PN k ts d):PN k (ts++[[43],[49]]) (FZ d):=by
 intro n r hn hr;rw[uN,h n _ hn (by simp[pk])];rfl
theorem PN.minus(h:PN k ts d):PN k (ts++[[45],[49]]) (C3 d):=by
 intro n r hn hr;rw[uN,h n _ hn (by simp[pk])];rfl
theorem iV(hx:Av x=true)(ha:PX k ta a)(hb:PX k tb b):PX (k+3) ([BR,x,kL]++ta++[Ad]++tb) (cB x a b):=by
 intro n r hn hr;have h1:=ha (n - 1) ([Ad]++tb++r) (by exact vW (qA (uD (show 1<=3 by decide) k) hn)) (by simp[Ie,pk]);have h2:=hb (n - 1) r (by exact vW (qA (uD (show 1<=3 by decide) k) hn)) hr;rw[Oq (by exact qB (vY _ _) ‹_›),Mh,if_pos (by rfl)];simp only[uN,xN,y2,cA,c9] at h1 h2 ⊢;simp only[kz,MS,hx,if_true,jC,R.bind_ok,cA,c9,h1,h2]
theorem VB(g:Bool)(ha:PX k ta a)(hb:PX k tb b):PN (k+5) ([zB g,[40]]++ta++[[44]]++tb++[[41]]) (EO (zB g) [a,b]):=by
 intro n r hn hr;have h1:=ha (n - 1 - 1) ([[44]]++tb++[[41]]++r) (by exact vW (vW (qA (uD (show 2<=5 by decide) k) hn))) ⟨nofun,nofun,nofun⟩;have h2:=hb (n - 1 - 1) ([[41]]++r) (by exact vW (vW (qA (uD (show 2<=5 by decide) k) hn))) ⟨nofun,nofun,nofun⟩;have hi:¬(zB g=BR):=by induction g using tZ<;>decide
 have h40:¬(zB g=[40]):=by induction g using tZ<;>decide
 have hN:¬(isNumT (zB g)=true):=by induction g using tZ<;>decide
 have hf:Av (zB g)=true:=by induction g using tZ<;>decide
 rw[Oq (by exact qB (vY _ _) ‹_›),Mh];refine(if_neg hi).trans ?_;rw[RX (by exact vW (qA (qA (by decide) (vY 5 k)) hn)),O7];refine(congrArg (λz:PR=>R.bind z λq=>Ky q.1 q.2) ((if_neg h40).trans (if_neg hN))).trans ?_;simp only[uN,xN,y2,cA,c9] at h1 h2 ⊢;simp only[kz,MS,hf,if_true,R.bind_ok];rw[Bi,if_pos (xS rfl)];simp only[cA,c9,h1,R.bind_ok,y2];rw[Bi,if_pos (show[a]=[]\/pk ([44]::(tb++[41]::r))=[44] from wF rfl)];simp only[cA,c9,h2,R.bind_ok];rw[Bi,if_neg (by simp[pk])];rfl
def tQ(c:Nat):Prop:=cls c=0
theorem Sp(h:cls c≠0)(b:List Nat)(hd:cls d=0):same c (d::b)=false:=by simp[same,hd,h]
theorem M8(hc:cls c=0)(b:List Nat):∀a:List Nat,tok (a++c::b)=tok a++tok (c::b):=by
 intro a;induction a with
 |nil=>rfl
 |cons d a ih=>
  rw[xN,An,ih]
  conv=>rhs;rw[An]
  by_cases h32:d=32
  ·rw[if_pos h32,if_pos h32]
  ·rw[if_neg h32,if_neg h32];induction a using uB with
   |nil=>
    have h1:¬(cls d≠0/\same d ([]++c::b)=true):=by
     rintro⟨h1,h2⟩;rw[y2,Sp h1 b hc] at h2;exact ff h2
    rw[if_neg h1,if_neg (by simp[same])];rfl
   |cons e a=>
    have es:same d (e::a++c::b)=same d (e::a):=rfl;rw[es];by_cases hs:cls d≠0/\same d (e::a)=true
    ·rw[if_pos hs,if_pos hs];have hne:tok (e::a)≠[]:=by
      have he:cls e≠0:=by
       have:cls d=cls e:=by simpa [same] using hs.2
       rw[<-this];exact hs.1
      rw[FI he a e rfl];exact uI _ _
     cases hx:tok (e::a) with
     |nil=>exact absurd hx hne
     |cons t ts=>rfl
    ·rw[if_neg hs,if_neg hs];rfl
theorem M7(hc:cls c=0)(h:c≠32)(b:List Nat):tok (c::b)=[c]::tok b:=by rw[An,if_neg h,if_neg (by simp[hc])]
theorem BS(b:List Nat):tok (32::b)=tok b:=by rw[An,if_pos rfl]
theorem M6(hc:cls c=0)(h:c≠32):tok (a++c::b)=tok a++[c]::tok b:=by rw[M8 hc,M7 hc h]
theorem ED:tok (a++32::b)=tok a++tok b:=by rw[M8 K0,BS]
theorem AZ(r:List Tok)(w:Tok):jC r w≠.stuck:=by unfold jC;split<;>nofun
theorem DM(r:List Tok):kz r≠.stuck:=by unfold kz;split<;>nofun
def kE(r r':List Tok):Prop:=∃u,r=u++r'/\[63]∉u
theorem kE.refl(r:List Tok):kE r r:=⟨[],rfl,by trivial⟩
theorem kE.trans(h1:kE a b)(h2:kE b c):kE a c:=by
 obtain⟨u,rfl,hu⟩:=h1;obtain⟨v,rfl,hv⟩:=h2;exact⟨u++v,by exact(uN _ _ _).symm,by simp[hu,hv]⟩
theorem kE.len(h:kE a b):b.length<=a.length:=by obtain⟨u,rfl,_⟩:=h;simp
theorem C2(h:t≠[63]):kE (t::r) r:=⟨[t],rfl,by simp;exact λe=>h e.symm⟩
def B9(r:List Tok):Prop:=∀t∈r,isNumT t=true->Lz t≠.stuck
theorem kE.good(h:kE a b)(g:B9 a):B9 b:=by
 obtain⟨u,rfl,_⟩:=h;exact λt ht=>g t (by exact xQ _ ‹_›)
theorem Ao(hw:w≠[])(hq:w≠[63])(h:jC r w=.ok r'):kE r r'/\r'.length+1=r.length:=by
 obtain⟨h1,h2,h3⟩:=Gz hw h;induction r using uB with
 |nil=>exact absurd rfl h3
 |cons t r=>
  have e:t=w:=h1;subst e;subst h2;exact⟨C2 hq,by rfl⟩
theorem CO(h:kz r=.ok x):kE r (r.drop 1)/\(r.drop 1).length+1=r.length:=by
 induction r using uB with
 |nil=>exact nv h
 |cons t r=>
  refine⟨C2 ?_,by rfl⟩;rintro rfl;exact nv h
theorem NR{P:α->Prop}:(R.ve:R α)≠.stuck/\∀q,R.ve=.ok q->P q:=⟨λh=>nT h,λq h=>nv h⟩
theorem Bs{x:R α}{f:α->R β}{P:β->Prop}(h:x≠.stuck)(k:∀a,x=.ok a->f a≠.stuck/\∀q,f a=.ok q->P q):R.bind x f≠.stuck/\∀q,R.bind x f=.ok q->P q:=by
 induction x using R.casesOn with
 |ok a=>exact k a rfl
 |ve=>exact NR
 |stuck=>exact absurd rfl h
theorem Ek{a:α}{P:α->Prop}(h:P a):R.ok a≠.stuck/\∀q,R.ok a=.ok q->P q:=⟨λh=>os h,λ_ e=>jz e▸h⟩
theorem S1:∀(d:D) (r:List Tok),Ky d r≠.stuck/\∀q,Ky d r=.ok q->kE r q.2:=by
 intro d r
 fun_induction Ky d r with
 |case1 d=>exact Ek (kE.refl _)
 |case2 d t h=>exact NR
 |case3 d t h=>exact Ek (kE.refl _)
 |case4 d t r h ih=>
  refine⟨ih.1,λq hq=>kE.trans (C2 ?_) (kE.trans (C2 (by decide)) (ih.2 q hq))⟩;rcases h with rfl|rfl<;>decide
 |case5 d t u r h h2=>exact NR
 |case6 d t u r h=>exact Ek (kE.refl _)
def Nn(r:List Tok)(x:PR):Prop:=x≠.stuck/\∀q,x=.ok q->kE r q.2/\q.2.length<r.length
theorem TO:∀(m:Nat) (as:List D) (r:List Tok),r.length<m->B9 r->(as=[]->pk r=[40])->
  (∀r',r'.length<r.length->B9 r'->Nn r' (pf r'))->Tz pf m as r≠.stuck/\∀q,Tz pf m as r=.ok q->kE r q.2:=by
 intro m;induction m with
 |zero=>intro as r h;exact absurd h (by exact absurd ‹_› (wY _))
 |succ m ih=>
  intro as r hm hg h0 hp;rw[Bi];by_cases h:as=[]\/pk r=[44]
  ·rw[if_pos h];have hr:∃t r1,r=t::r1/\t≠[63]:=by
    induction r using uB with
    |nil=>exact h.elim (λh=>nomatch (h0 h)) (λh=>nomatch h)
    |cons t r1=>
     refine⟨t,r1,rfl,?_⟩;rintro rfl;rcases h with h|h
     ·have:=h0 h;cases this
     ·cases h
   obtain⟨t,r1,rfl,ht⟩:=hr;have hg1:B9 r1:=λx hx=>hg x (by exact u0 _ ‹_›);have f:=hp r1 (by simp) hg1;show R.bind (pf r1) _≠_/\∀q,R.bind (pf r1) _=_->_;refine Bs f.1 λq hx=>?_;obtain⟨hc,hl⟩:=f.2 q hx;have i:=ih (as++[q.1]) q.2 (uS hl (yF hm)) (hc.good hg1) (λe=>absurd (List.append_eq_nil_iff.mp e).2 (uI _ _)) (λr' hr' hg'=>hp r' (zam (uS hr' hl)) hg');exact⟨i.1,λq' h'=>(C2 ht).trans (hc.trans (i.2 q' h'))⟩
  ·rw[if_neg h];exact Ek (kE.refl _)
theorem Qt:∀(n:Nat),(∀r:List Tok,B9 r->r.length<1000->2*r.length+6<=n->Nn r (pE n r))/\(∀r:List Tok,B9 r->r.length<1000->2*r.length+5<=n->Nn r (pA n r)):=by
 intro n;induction n with
 |zero=>exact⟨λr _ _ h=>absurd h (wY _),λr _ _ h=>absurd h (wY _)⟩
 |succ n ih=>
  obtain⟨ihE,ihA⟩:=ih;constructor
  ·intro r hg hl hn;rw[Oq (qB (vY _ _) hn),Nat.add_sub_cancel,Mh];by_cases h:pk r=BR
   ·rw[if_pos h];induction r using uB with
    |nil=>cases h
    |cons t r1=>
     have e:t=BR:=h;subst e;have hn:2*r1.length+7<=n:=za5 hn;have hl:=xG hl;have c0:kE (BR::r1) r1:=C2 (by decide);show Nn _ (R.bind (kz r1) _);refine Bs (DM _) λx hx=>?_;obtain⟨c1,l1⟩:=CO hx;refine Bs (AZ _ _) λr2 hw=>?_;obtain⟨c2,l2⟩:=Ao (by decide) (by decide) hw;have cc:=c0.trans (c1.trans c2);have l:=uS (y6 (vC l2)) (y6 (vC l1));have f:=ihE r2 (cc.good hg) (uS l hl) (qA (uM (vF 2 (qC l)) 6) (za2 hn));refine Bs f.1 λq ha=>?_;obtain⟨c3,l3⟩:=f.2 q ha;refine Bs (AZ _ _) λr4 hw=>?_;obtain⟨c4,l4⟩:=Ao (by decide) (by decide) hw;have cc:=cc.trans (c3.trans c4);have l:=uS (y6 (vC l4)) (uS l3 l);have f:=ihE r4 (cc.good hg) (uS l hl) (qA (uM (vF 2 (qC l)) 6) (za2 hn));refine Bs f.1 λq ha=>?_;obtain⟨c5,l5⟩:=f.2 q ha;exact Ek ⟨cc.trans c5,zam (uS l5 l)⟩
   ·rw[if_neg h];have f:=ihA r hg hl (wV hn);refine Bs f.1 λq ha=>?_;obtain⟨c1,l1⟩:=f.2 q ha;have s:=S1 q.1 q.2;exact⟨s.1,λq' h'=>⟨c1.trans (s.2 q' h'),qB (s.2 q' h').len l1⟩⟩
  ·intro r hg hl hn;rw[RX (qB (vY _ _) hn),Nat.add_sub_cancel,O7];by_cases h:pk r=[40]
   ·rw[if_pos h];induction r using uB with
    |nil=>cases h
    |cons t r1=>
     have e:t=[40]:=h;subst e;have hn:2*r1.length+6<=n:=za5 hn;have c0:kE ([40]::r1) r1:=C2 (by decide);have f:=ihE r1 (c0.good hg) (xG hl) hn;show Nn _ (R.bind (pE n r1) _);refine Bs f.1 λq ha=>?_;obtain⟨c1,l1⟩:=f.2 q ha;refine Bs (AZ _ _) λr2 hw=>?_;obtain⟨c2,l2⟩:=Ao (by decide) (by decide) hw;exact Ek ⟨c0.trans (c1.trans c2),zam (uS (y6 (vC l2)) l1)⟩
   ·rw[if_neg h];by_cases hN:isNumT (pk r)=true
    ·rw[if_pos hN];induction r using uB with
     |nil=>exact ff hN
     |cons t r1=>
      have ht:t≠[63]:=by rintro rfl;exact ff hN
      show Nn _ (R.bind (Lz t) _);exact Bs (hg t u4 hN) λd _=>Ek ⟨C2 ht,w9 _⟩
    ·rw[if_neg hN];refine Bs (DM _) λx hx=>?_;obtain⟨c1,l1⟩:=CO hx;have l:=y6 (vC l1);by_cases hq:pk (r.drop 1)=[40]
     ·rw[if_pos hq];have ag:=TO (pf:=pE n) 2000 [] (r.drop 1) (uS l (qD hl (by decide))) (c1.good hg) (λ_=>hq) (λr' hr' hg'=>ihE r' hg' (uS hr' (uS l hl)) (qA (uD (show 6<=8 by decide) _) (qA (uM (vF 2 (show _+2<=r.length from l1▸uL hr')) 4) (za5 hn))));refine Bs ag.1 λq ha=>?_;have c2:=ag.2 q ha;refine Bs (AZ _ _) λr2 hw=>?_;obtain⟨c3,l3⟩:=Ao (by decide) (by decide) hw;exact Ek ⟨c1.trans (c2.trans c3),qB (c2.trans c3).len l⟩
     ·rw[if_neg hq];exact Ek ⟨c1,l⟩
theorem VE:∀(ps r:List Tok),VD ps r≠.stuck/\∀q,VD ps r=.ok q->kE r q.2:=by
 intro ps r
 fun_induction VD ps r with
 |case1 ps=>exact Ek (kE.refl _)
 |case2 ps=>exact NR
 |case3 ps c h=>exact Ek (kE.refl _)
 |case4 ps x r h ih=>
  refine⟨ih.1,λq hq=>kE.trans (C2 (by decide)) (kE.trans (C2 ?_) (ih.2 q hq))⟩;rintro rfl;exact ff h
 |case5 ps x r h=>exact NR
 |case6 ps c x r h=>exact Ek (kE.refl _)
set_option tactic.hygienic true in
theorem IF(hg:B9 ts)(hl:ts.length<1000)(hn:2*ts.length+6<=n):zY n ts≠.stuck/\∀r,zY n ts=.ok r->kE ts []:=by
 unfold zY;refine Bs (DM _) λf h1=>?_;have c1:=(CO h1).1;refine Bs (AZ _ _) λr2 h2=>?_;have c2:=(Ao (by decide) (by decide) h2).1;refine Bs (DM _) λp h3=>?_;have c3:=(CO h3).1;have f4:=VE [p] (r2.drop 1);refine Bs f4.1 λq h4=>?_;have c4:=f4.2 q h4;refine Bs (AZ _ _) λr5 h5=>?_;have c5:=(Ao (by decide) (by decide) h5).1;refine Bs (AZ _ _) λr6 h6=>?_;have cc:=c1.trans (c2.trans (c3.trans (c4.trans (c5.trans (Ao (by decide) (by decide) h6).1))));have f7:=(Qt n).1 r6 (cc.good hg) (qB cc.len hl) (qA (uM (vF 2 cc.len) 6) hn);refine Bs f7.1 λe h7=>?_;have c7:=(f7.2 e h7).1;split
 ·exact NR
 ·rename_i hne;have:e.2=[]:=by
   by_cases hx:e.2=[]
   ·exact hx
   ·exact absurd (xS hx) hne
  rw[<-this];exact Ek (cc.trans c7)
abbrev H1:List Tok:=[nF,[40],nX,[44],Fb,[41],[61]]
abbrev H2:List Tok:=[nX,[40],Fb,[44],nX,[41],[61]]
def G6(n:Nat)(f:Tok)(ps:List Tok)(b:List Tok):R kG:=R.bind (pE n b) λe=>if e.2≠[]\/KC ps=true then .ve else .ok ⟨f,ps,e.1⟩
theorem DW(n:Nat)(b:List Tok):zY n (H1++b)=G6 n nF [nX,Fb] b:=rfl
theorem FH(n:Nat)(b:List Tok):zY n (H2++b)=G6 n nX [Fb,nX] b:=rfl
theorem UC(n:Nat)(b:List Tok)(hb:pk b≠[61]):∀i,i<7->zY n (H1.eraseIdx i++b)=.ve:=by
 intro i hi;have hw:jC b [61]=.ve:=if_neg hb
 match i,hi with
 |0,_=>rfl
 |1,_=>rfl
 |2,_=>rfl
 |3,_=>rfl
 |4,_=>rfl
 |5,_=>induction b using uB<;>rfl
 |6,_=>
  induction b using uB with
  |nil=>rfl
  |cons t b=>show R.bind (jC (t::b) [61]) _=R.ve;rw[hw];rfl
theorem UD(n:Nat)(b:List Tok)(hb:pk b≠[61]):∀i,i<7->zY n (H2.eraseIdx i++b)=.ve:=by
 refine B1 rfl (B1 rfl (B1 rfl (B1 rfl (B1 rfl (B1 ?_ (B1 ?_ ZC))))))
 ·induction b using uB<;>rfl
 ·have hw:jC b [61]=.ve:=if_neg hb;induction b using uB with
  |nil=>rfl
  |cons t b=>show R.bind (jC (t::b) [61]) _=R.ve;rw[hw];rfl
theorem Fj(h:G6 n f ps b=.ok r):r.f=f/\r.ps=ps:=by
 obtain⟨e,h1,h2⟩:=B5 h;split at h2
 ·exact nv h2
 ·rw[<-jz h2];exact⟨rfl,rfl⟩
theorem Me(n:Nat):∀k,k<8->0<k->zY n (H1.take k)≠.ve->k=7:=
 B1 (λh _=>absurd h (zad 0)) (B1 (λ_ h=>absurd rfl h) (B1 (λ_ h=>absurd rfl h) (B1 (λ_ h=>absurd rfl h) (B1 (λ_ h=>absurd rfl h) (B1 (λ_ h=>absurd rfl h) (B1 (λ_ h=>absurd rfl h) (B1 (λ_ _=>rfl) ZC)))))))
theorem lU:KC fx=false:=by decide
theorem RD(h:r.f=nF)(h2:r2.f=nX):BO [r,r2]=zm fx:=by
 show zm [r.f,r2.f]=_;rw[h,h2]
theorem NK(h:r.ps.length=2)(h2:r2.ps.length=2):AJ [r,r2]=.list (fx.map λ_=>uT 2):=by
 show w8 [.int (r.ps.length:Nat),.int (r2.ps.length:Nat)]=_;rw[h,h2];rfl
def B0(n:Nat)(rs:List kG):R (List kG):=if rs.isEmpty=true\/KC (rs.map kG.f)=true then .ve else R.bind (Zx n (BO rs) (AJ rs) rs) λ_=>.ok rs
theorem LC(n:Nat)(ls:List (List Nat)):Gi n ls=R.bind (DX n ls) (B0 n):=rfl
theorem Gw(h:r.f=nF)(h2:r2.f=nX)(hp:r.ps=[nX,Fb])(hp2:r2.ps=[Fb,nX]):
  B0 n [r,r2]=R.bind (JU [nX,Fb] fx n r.b) λ_=>R.bind (JU [Fb,nX] fx n r2.b) λ_=>.ok [r,r2]:=by
 unfold B0;rw[if_neg]
 ·rw[RD h h2,NK (by rw[hp];rfl) (by rw[hp2];rfl),Ir,Ir,hp,hp2];show R.bind (R.bind (JU [nX,Fb] fx n r.b) _) _=_;cases JU [nX,Fb] fx n r.b with
  |ve=>rfl
  |stuck=>rfl
  |ok x=>
   show R.bind (R.bind (JU [Fb,nX] fx n r2.b) _) _=_;cases JU [Fb,nX] fx n r2.b<;>rfl
 ·have e:KC ([r,r2].map kG.f)=false:=by show KC [r.f,r2.f]=false;rw[h,h2];exact lU
  rw[e];exact λh=>h.elim (λh=>nomatch h) λh=>nomatch h
structure HP(n:Nat)(f:Tok)(ps:List Tok)(A:List Tok):Prop where
 ns:zY n A≠.stuck
 rd:∀r,zY n A=.ok r->r.f=f/\r.ps=ps/\WY ps fx n r.b/\¬AR r.b
theorem R7(hrows:Y=R.bind (zY n A) λr=>R.bind (zY n B) λr2=>.ok [r,r2])(hA:HP n nF [nX,Fb] A)(hB:zY n B=.ok r2)(h2:r2.f=nX)(hp2:r2.ps=[Fb,nX]):R.bind Y (B0 n)=.ve:=by
 rw[hrows];cases h:zY n A with
 |stuck=>exact absurd h hA.ns
 |ve=>rfl
 |ok r=>
  obtain⟨hf,hp,hl,hb⟩:=hA.rd r h;rw[hB];show B0 n [r,r2]=_;rw[Gw hf h2 hp hp2];induction hl using WY.casesOn with
  |ok _ b=>exact absurd b hb
  |ve e=>rw[e];rfl
theorem R8(hrows:Y=R.bind (zY n A) λr=>R.bind (zY n B) λr2=>.ok [r,r2])(hA:zY n A=.ok r)(hf:r.f=nF)(hp:r.ps=[nX,Fb])(hl:JU [nX,Fb] fx n r.b=.ok .none)(hB:HP n nX [Fb,nX] B):R.bind Y (B0 n)=.ve:=by
 rw[hrows,hA];cases h:zY n B with
 |stuck=>exact absurd h hB.ns
 |ve=>rfl
 |ok r2=>
  obtain⟨h2,hp2,hl2,hb⟩:=hB.rd r2 h;show B0 n [r,r2]=_;rw[Gw hf h2 hp hp2,hl];induction hl2 using WY.casesOn with
  |ok _ b=>exact absurd b hb
  |ve e=>show R.bind (JU [Fb,nX] fx n r2.b) _=_;rw[e];rfl
theorem Wi(h:zY m (H1++(u++t::v))=.ok r)(hb:AR r.b)(hg:B9 (H1++(u++v)))(hl:(H1++(u++v)).length<1000)(hn:2*(H1++(u++v)).length+6<=n)
  (hd:∀r',zY n (H1++(u++v))=.ok r'->v7 r'.b<n):HP n nF [nX,Fb] (H1++(u++v)):=by
 refine⟨(IF hg hl hn).1,λr' h'=>?_⟩;obtain⟨e1,e2⟩:=Fj ((DW n (u++v)).symm.trans h');obtain⟨k,j,_,hs,_⟩:=MX QQ h';refine⟨e1,e2,Rm hs n (hd r' h'),λhb'=>?_⟩;obtain⟨_,e3⟩:=Fj ((DW m (u++t::v)).symm.trans h);rw[<-uN] at h h';exact Jq h (by rw[e3];rfl) hb h' (by rw[e2];rfl) hb'
theorem Wj(h:zY m (H2++(u++t::v))=.ok r)(hb:AR r.b)(hg:B9 (H2++(u++v)))(hl:(H2++(u++v)).length<1000)(hn:2*(H2++(u++v)).length+6<=n)
  (hd:∀r',zY n (H2++(u++v))=.ok r'->v7 r'.b<n):HP n nX [Fb,nX] (H2++(u++v)):=by
 refine⟨(IF hg hl hn).1,λr' h'=>?_⟩;obtain⟨e1,e2⟩:=Fj ((FH n (u++v)).symm.trans h');obtain⟨k,j,_,hs,_⟩:=MX QQ h';refine⟨e1,e2,Rm hs n (hd r' h'),λhb'=>?_⟩;obtain⟨_,e3⟩:=Fj ((FH m (u++t::v)).symm.trans h);rw[<-uN] at h h';exact Jq h (by rw[e3];rfl) hb h' (by rw[e2];rfl) hb'
inductive WU(r:List Tok)(d:D)(r':List Tok):Prop
 |mk(u:List Tok)(e:r=u++r')(h:v7 d<=2*u.length)
theorem W9(t x:D)(h:v7 t=0)(h2:v7 x=0):v7 (.tuple [t,x])<=2:=by
 show max (v7 t) (max (v7 x) 0)+1<=2;rw[h,h2];decide
theorem eW(t x:D)(h:v7 t=0)(h2:v7 x<=m):v7 (.tuple [t,x])<=m+1:=by
 show max (v7 t) (max (v7 x) 0)+1<=m+1;rw[h];exact uL (Nat.max_le.mpr ⟨uZ _,Nat.max_le.mpr ⟨h2,uZ _⟩⟩)
theorem lH:∀(d:D) (r:List Tok) (q:D×List Tok),Ky d r=.ok q->∀{m:Nat},v7 d<=m->∃u,r=u++q.2/\v7 q.1<=m+2*u.length:=by
 intro d r
 fun_induction Ky d r with
 |case1 d=>intro q h m hd;rw[<-jz h];exact⟨[],rfl,hd⟩
 |case2 d t h=>intro q h;exact nv h
 |case3 d t h=>intro q h m hd;rw[<-jz h];exact⟨[],rfl,hd⟩
 |case4 d t r h ih=>
  intro q hq m hd;obtain⟨u,e,h1⟩:=ih q hq (m:=m+1) (by split<;>exact eW _ _ rfl hd);refine⟨t::[49]::u,by rw[e];rfl,qA h1 ?_⟩;simp only[vB];rw[vD];exact uD (qA (vC (vO 1 _)) (uD (show 1<=4 by decide) (2*u.length))) _
 |case5 d t u r h h2=>intro q h;exact nv h
 |case6 d t u r h=>intro q h m hd;rw[<-jz h];exact⟨[],rfl,hd⟩
theorem Uh(h:vG as<=m)(g:v7 a<=m):vG (as++[a])<=m:=by
 induction as with
 |nil=>exact Nat.max_le.mpr ⟨g,uZ _⟩
 |cons x as ih=>
  obtain⟨h1,h2⟩:=Nat.max_le.mp h;exact Nat.max_le.mpr ⟨h1,ih h2⟩
set_option tactic.hygienic true in
theorem o7(ih:∀r q,pf r=.ok q->WU r q.1 q.2):∀(m:Nat) (as:List D) (r:List Tok) (q:List D×List Tok),Tz pf m as r=.ok q->as≠[]->∀{k:Nat},vG as<=k->∃u,r=u++q.2/\vG q.1<=k+2*u.length:=by
 intro m;induction m with
 |zero=>intro as r q h;exact ns h
 |succ m ihm=>
  intro as r q h hne k hk;rw[Bi] at h;split at h
  ·rename_i hc;have hr:=GP (hc.resolve_left hne) (by decide);obtain⟨p,h1,h2⟩:=B5 h;obtain⟨u,e,hd⟩:=ih _ _ h1;obtain⟨v,e2,hs⟩:=ihm _ _ q h2 (by simp) (k:=k+2*u.length) (Uh (qA hk (uV _ _)) (qA hd (vY _ _)));refine⟨[44]::(u++v),by rw[hr,e,e2];simp,qA hs ?_⟩;simp only[vB,uE];rw[vD,<-Nat.mul_add];exact uD (vF 2 (w4 _)) _
  ·rw[<-jz h];exact⟨[],rfl,hk⟩
set_option tactic.hygienic true in
theorem oA(ih:∀r q,pf r=.ok q->WU r q.1 q.2)(h:O7 pf r=.ok q):WU r q.1 q.2:=by
 unfold O7 at h;split at h
 ·rename_i hp;have hr:=GP hp (by decide);obtain⟨p,h1,h2⟩:=B5 h;obtain⟨r2,h3,h4⟩:=B5 h2;obtain⟨u,e,hd⟩:=ih _ _ h1;have e3:=A2 (by decide) h3;rw[<-jz h4];refine⟨[40]::(u++[[41]]),by rw[hr,e,e3];simp,qA hd ?_⟩;simp only[vB,uE];exact vF 2 (uV _ 2)
 ·split at h
  ·rename_i hN;obtain⟨d,h1,h2⟩:=B5 h;have hr:=GP (t:=pk r) rfl (λe=>by rw[e] at hN;exact ff hN);rw[<-jz h2];have hd:∃i,d=Ej i:=by
    unfold Lz at h1;split at h1
    ·exact nv h1
    ·split at h1
     ·exact⟨_,(jz h1).symm⟩
     ·exact ns h1
   obtain⟨i,rfl⟩:=hd;exact⟨[pk r],hr,W9 _ _ rfl rfl⟩
  ·obtain⟨x,h1,h2⟩:=B5 h;obtain⟨hr,hx⟩:=Et h1;split at h2
   ·rename_i hp;have hr2:=GP hp (by decide);obtain⟨p,h3,h4⟩:=B5 h2;obtain⟨r2,h5,h6⟩:=B5 h4;rw[Bi,if_pos (xS rfl)] at h3;obtain⟨p1,h7,h8⟩:=B5 h3;obtain⟨u,e,hd⟩:=ih _ _ h7;obtain⟨v,e2,hs⟩:=o7 ih _ _ _ p h8 (uI _ _) (k:=2*u.length) (Nat.max_le.mpr ⟨hd,uZ _⟩);have e5:=A2 (by decide) h5;rw[<-jz h6];refine⟨x::[40]::(u++v++[[41]]),by rw[hr,hr2,e,e2,e5];simp,?_⟩;show max 0 (max 0 (max (vG p.1+1) 0))+1<=_;simp only[vB,uE];lia
   ·rw[<-jz h2];exact⟨[x],hr,W9 _ _ rfl rfl⟩
set_option tactic.hygienic true in
theorem oM(ihE:∀r q,pe r=.ok q->WU r q.1 q.2)(ihA:∀r q,pa r=.ok q->WU r q.1 q.2)(h:Mh pe pa r=.ok q):WU r q.1 q.2:=by
 unfold Mh at h;split at h
 ·rename_i hp;have hr:=GP hp (by decide);obtain⟨x,h1,h⟩:=B5 h;obtain⟨r1,h2,h⟩:=B5 h;obtain⟨p,h3,h⟩:=B5 h;obtain⟨r2,h4,h⟩:=B5 h;obtain⟨p2,h5,h⟩:=B5 h;obtain⟨e1,hx⟩:=Et h1;have e2:=A2 (by decide) h2;have e4:=A2 (by decide) h4;obtain⟨u,e3,hd⟩:=ihE _ _ h3;obtain⟨v,e5,hd2⟩:=ihE _ _ h5;rw[<-jz h];have e6:r.drop 2=(r.drop 1).drop 1:=by rw[wG]
  refine⟨BR::x::kL::(u++Ad::v),?_,?_⟩
  ·rw[hr,e1,<-e6,e2,e3,e4,e5];simp
  ·rw[vB,vB,vB,uE];exact uL (mz (mz (mx (qA hd (vN (vF 2 (qA (uV _ _) (uV _ 2))))) (XG (qA hd2 (vN (vF 2 (qA (qA (w4 _) (vY _ _)) (uV _ 2)))))))))
 ·obtain⟨p,h1,h2⟩:=B5 h;obtain⟨u,e,hd⟩:=ihA _ _ h1;obtain⟨v,e2,hd2⟩:=lH _ _ _ h2 hd;exact⟨u++v,by rw[e,e2,uN],by rw[uE,Nat.mul_add];exact hd2⟩
theorem qF:∀n:Nat,(∀r q,pE n r=.ok q->WU r q.1 q.2)/\(∀r q,pA n r=.ok q->WU r q.1 q.2):=by
 intro n;induction n with
 |zero=>exact⟨λr q h=>ns h,λr q h=>ns h⟩
 |succ n ih=>
  rw[MR,MQ];split
  ·exact⟨λr q h=>ns h,λr q h=>ns h⟩
  ·exact⟨λr q h=>oM ih.1 ih.2 h,λr q h=>oA ih.1 h⟩
theorem Px(h:G6 n f ps b=.ok r):v7 r.b<=2*b.length:=by
 obtain⟨e,h1,h2⟩:=B5 h;split at h2
 ·exact nv h2
 ·obtain⟨u,hu,hd⟩:=(qF n).1 _ _ h1;rw[<-jz h2];refine qA hd (vF 2 ?_);rw[hu,uE];exact uV _ _
noncomputable def X.w:X->List Tok
 |.num i=>[RI i]
 |.name z=>[z]
 |.par a=>[[40]]++a.w++[[41]]
 |.pred a=>a.w++[[45],[49]]
 |.succ a=>a.w++[[43],[49]]
 |.iff z a b=>[BR,z,kL]++a.w++[Ad]++b.w
 |.call g a b=>[zB g,[40]]++a.w++[[44]]++b.w++[[41]]
noncomputable def jn(s:List Nat):List (List Nat)->List Nat
 |[]=>[]
 |a::r=>match r with
  |[]=>a
  |_::_=>a++(s++jn s r)
noncomputable abbrev jw:List Tok->List Nat:=jn [32]
theorem UN(a:Tok)(h:r≠[]):jw (a::r)=a++32::jw r:=by
 induction r using uB with
 |nil=>exact absurd rfl h
 |cons b r=>rfl
theorem Ai:∀(a:List Tok) {b:List Tok},a≠[]->b≠[]->jw (a++b)=jw a++32::jw b:=by
 intro a;induction a with
 |nil=>intro b h;exact absurd rfl h
 |cons x a ih=>
  intro b _ hb;induction a using uB with
  |nil=>exact UN x hb
  |cons y a=>
   show x++32::jw (y::a++b)=(x++32::jw (y::a))++32::jw b;rw[ih (uI _ _) hb,uN];rfl
theorem Ff(x:X):x.w≠[]:=by
 induction x with
 |num i=>exact uI _ _
 |name z=>exact uI _ _
 |par a=>exact uI _ _
 |pred a=>exact λh=>absurd (List.append_eq_nil_iff.mp h).2 (uI _ _)
 |succ a=>exact λh=>absurd (List.append_eq_nil_iff.mp h).2 (uI _ _)
 |iff z a b=>exact uI _ _
 |call g a b=>exact uI _ _
theorem lV:∀x:X,x.tx=jw x.w:=by
 intro x;induction x with
 |num i=>rfl
 |name z=>rfl
 |par a ih=>
  show[40,32]++a.tx++[32,41]=jw ([[40]]++a.w++[[41]]);rw[Ai ([[40]]++a.w) (uI _ _) (uI _ _),Ai [[40]] (uI _ _) (Ff a),ih];rfl
 |pred a ih=>
  show a.tx++[32,45,32,49]=jw (a.w++[[45],[49]]);rw[Ai _ (Ff a) (uI _ _),ih];rfl
 |succ a ih=>
  show a.tx++[32,43,32,49]=jw (a.w++[[43],[49]]);rw[Ai _ (Ff a) (uI _ _),ih];rfl
 |iff z a b iha ihb=>
  show[105,102,32]++z++[32,116,104,101,110,32]++a.tx++[32,101,108,115,101,32]++b.tx=jw ([BR,z,kL]++a.w++[Ad]++b.w);rw[Ai ([BR,z,kL]++a.w++[Ad]) (uI _ _) (Ff b),Ai ([BR,z,kL]++a.w) (uI _ _) (uI _ _),Ai [BR,z,kL] (uI _ _) (Ff a),<-iha,<-ihb];show _=([105,102]++32::(z++32::[116,104,101,110]))++32::a.tx++32::[101,108,115,101]++32::b.tx;simp only[uN,xN,y2]
 |call g a b iha ihb=>
  show zB g++[32,40,32]++a.tx++[32,44,32]++b.tx++[32,41]=jw ([zB g,[40]]++a.w++[[44]]++b.w++[[41]]);rw[Ai ([zB g,[40]]++a.w++[[44]]++b.w) (uI _ _) (uI _ _),Ai ([zB g,[40]]++a.w++[[44]]) (uI _ _) (Ff b),Ai ([zB g,[40]]++a.w) (uI _ _) (uI _ _),Ai [zB g,[40]] (uI _ _) (Ff a),<-iha,<-ihb];show _=(zB g++32::[40])++32::a.tx++32::[44]++32::b.tx++32::[41];simp only[uN,xN,y2]
def WS:List Tok:=[[102],[120],[97,98],[40],[41],[44],[61],[43],[45],[48],[49],[50],[49,48],BR,kL,Ad]
noncomputable def EF(ws:List Tok):Bool:=ws.all λw=>WS.contains w
theorem jR(h:EF a=true)(g:EF b=true):EF (a++b)=true:=by
 unfold EF at *;rw[zbk,h,g];rfl
theorem b4:∀ws:List Tok,(∀w∈ws,tok w=[w])->tok (jw ws)=ws:=by
 intro ws;induction ws with
 |nil=>intro _;rfl
 |cons a r ih=>
  intro h;induction r using uB with
  |nil=>exact h a u4
  |cons b r=>
   show tok (a++32::jw (b::r))=_;rw[ED,h a u4,ih λw hw=>h w (u0 _ hw)];rfl
noncomputable def SW:List Tok->Nat
 |[]=>0
 |w::r=>w.length+2+SW r
theorem jW(a b:List Tok):SW (a++b)=SW a+SW b:=by
 induction a with
 |nil=>exact(xD _).symm
 |cons w a ih=>show w.length+2+SW (a++b)=w.length+2+SW a+SW b;rw[ih,<-vD]
noncomputable def X.at:X->Bool
 |.iff ..=>false
 |_=>true
noncomputable def X.ok:X->Bool
 |.num i=>[0,1,2,10].contains i
 |.name z=>Av z
 |.par a=>a.ok
 |.pred a=>a.at&&a.ok
 |.succ a=>a.at&&a.ok
 |.iff z a b=>Av z&&(a.ok&&b.ok)
 |.call _ a b=>a.ok&&b.ok
noncomputable def X.k:X->Nat
 |.num _=>4
 |.name _=>4
 |.par a=>a.k+5
 |.pred a=>a.k
 |.succ a=>a.k
 |.iff _ a b=>max a.k b.k+3
 |.call _ a b=>max a.k b.k+5
theorem ZV{i:Nat}(h:[0,1,2,10].contains i=true):i=0\/i=1\/i=2\/i=10:=by simpa using h
theorem qI:∀x:X,x.ok=true->PX x.k x.w x.e.d/\(x.at=true->PN x.k x.w x.e.d):=by
 intro x;induction x with
 |num i=>intro h;have k:=Z1 (ZV h);exact⟨k.px,λ_=>k⟩
 |name z=>intro h;have k:=VC h;exact⟨k.px,λ_=>k⟩
 |par a ih=>intro h;have k:=(ih h).1.paren;exact⟨k.px,λ_=>k⟩
 |pred a ih=>intro h;have k:=((ih (z7 h)).2 (jg h)).minus;exact⟨k.px,λ_=>k⟩
 |succ a ih=>intro h;have k:=((ih (z7 h)).2 (jg h)).plus;exact⟨k.px,λ_=>k⟩
 |iff z a b iha ihb=>intro h;exact⟨iV (jg h) ((iha (jg (z7 h))).1.mono (vV _ _)) ((ihb (z7 (z7 h))).1.mono (vP _ _)),λe=>ff e⟩
 |call g a b iha ihb=>intro h;have k:=VB g ((iha (jg h)).1.mono (vV _ _)) ((ihb (z7 h)).1.mono (vP _ _));exact⟨k.px,λ_=>k⟩
noncomputable def E.wfB(p q:Tok):E->Bool
 |.num i=>[0,1,2,10].contains i
 |.name z=>z==p||z==q
 |.pred a=>a.wfB p q
 |.succ a=>a.wfB p q
 |.iff z a b=>(z==p||z==q)&&(a.wfB p q&&b.wfB p q)
 |.call _ a b=>a.wfB p q&&b.wfB p q
theorem sE{z p q:Tok}(h:(z==p||z==q)=true):z=p\/z=q:=by
 rw[xY,beq_iff_eq,beq_iff_eq] at h;exact h
theorem LZ{p q:Tok}:∀e:E,e.wfB p q=true->e.wf p q:=by
 intro e;induction e with
 |num i=>intro h;exact ZV h
 |name z=>intro h;exact sE h
 |pred a ih=>exact ih
 |succ a ih=>exact ih
 |iff z a b iha ihb=>intro h;exact⟨sE (jg h),iha (jg (z7 h)),ihb (z7 (z7 h))⟩
 |call g a b iha ihb=>intro h;exact⟨iha (jg h),ihb (z7 h)⟩
structure Gx(me:Bool)(x:X)(K Dp Sw Nc:Nat):Prop where
 ok:x.ok=true
 k:x.k<=K
 dp:x.e.dep<=Dp
 sw:SW x.w<=Sw
 nc:x.e.nc<=Nc
 wf:x.e.wfB (pT me) (qT me)=true
 ws:EF x.w=true
def oR(me:Bool)(S:Nat)(x:X):Bool:=x.ok&&(x.at&&(Nat.ble x.k 17&&(Nat.ble x.e.dep 4&&(Nat.ble (SW x.w) S&&(Nat.beq x.e.nc 0&&(x.e.wfB (pT me) (qT me)&&EF x.w))))))
theorem Xi{me:Bool}{S:Nat}{x:X}(h:oR me S x=true):Gx me x 17 4 S 0:=
 have h2:=z7 (z7 h)
 ⟨jg h,xR (jg h2),xR (jg (z7 h2)),xR (jg (z7 (z7 h2))),vC (Nat.eq_of_beq_eq_true (jg (z7 (z7 (z7 h2))))),jg (z7 (z7 (z7 (z7 h2)))),z7 (z7 (z7 (z7 (z7 h2))))⟩
def o9(me:Bool)(j d o:Nat):X:=(kd d).2.foldl (λx o=>XJ o x) (mY me (kd d).1 (j4 me j) (j4 me o))
theorem TR:(eO.all λme=>(v5 12).all λj=>(v5 12).all λd=>(v5 12).all λo=>oR me 60 (o9 me j d o))=true:=by decide +kernel
theorem Cc(me:Bool)(c d:Int):Gx me (kj me c d) 17 4 60 0:=
 Xi (uF.mp (uF.mp (uF.mp (uF.mp TR me (Fk me)) _ (List.mem_range.mpr (Dr c))) _ (List.mem_range.mpr (Dr d))) _ (List.mem_range.mpr (Dr (c+d))))
theorem Rg:(eO.all λme=>(v5 12).all λj=>oR me 12 (j4 me j))=true:=by decide +kernel
theorem MA(me:Bool)(c:Int):Gx me (j4 me (BY c)) 17 4 12 0:=
 Xi (uF.mp (uF.mp Rg me (Fk me)) _ (List.mem_range.mpr (Dr c)))
theorem iW(me i:Bool):Av (pz me i)=true:=by induction me using tZ<;>induction i using tZ<;>decide
theorem iX(me i:Bool):(pz me i==pT me||pz me i==qT me)=true:=by induction me using tZ<;>induction i using tZ<;>decide
theorem iY(me i:Bool):EF [pz me i]=true:=by induction me using tZ<;>induction i using tZ<;>decide
theorem iK(g:Bool):EF [zB g,[40]]=true:=by induction g using tZ<;>decide
theorem sI(w v:Tok):SW [w,v]=w.length+2+(v.length+2):=rfl
section
variable{me:Bool}{x y:X}{K K' D D' S S' N N':Nat}
theorem Gx.call(g:Bool)(h:Gx me x K D S N)(h':Gx me y K' D' S' N'):Gx me (.call g x y) (max K K'+5) (max D D'+1) (S+S'+12) (N+N'+1):=by
 refine⟨E8 h.ok h'.ok,uM (Nat.max_le.mpr ⟨qA h.k (vV ..),qA h'.k (vP ..)⟩) 5,uL (Nat.max_le.mpr ⟨qA h.dp (vV ..),qA h'.dp (vP ..)⟩),?_,uL (uR h.nc h'.nc),E8 h.wf h'.wf,jR (jR (jR (jR (iK g) h.ws) (by decide)) h'.ws) (by decide)⟩;show SW ([zB g,[40]]++x.w++[[44]]++y.w++[[41]])<=_;have h1:=h.sw;have h2:=h'.sw;have h3:=Iy g;rw[jW,jW,jW,jW,sI,show SW [[44]]=3 from rfl,show SW [[41]]=3 from rfl,show List.length [40]=1 from rfl];exact qA (uM (uR (uM (uR (uM (uM h3 2) 3) h1) 3) h2) 3) (vC (by rw[vO (1+2+3) S,vD S,wT S _ S',vD]))
theorem Gx.iff(i:Bool)(h:Gx me x K D S N)(h':Gx me y K' D' S' N'):Gx me (.iff (pz me i) x y) (max K K'+3) (max D D'+1) (S+S'+20) (N+N'):=by
 refine⟨E8 (iW me i) (E8 h.ok h'.ok),uM (Nat.max_le.mpr ⟨qA h.k (vV ..),qA h'.k (vP ..)⟩) 3,uL (Nat.max_le.mpr ⟨qA h.dp (vV ..),qA h'.dp (vP ..)⟩),?_,uR h.nc h'.nc,E8 (iX me i) (E8 h.wf h'.wf),jR (jR (jR (jR (a:=[BR]) (by decide) (jR (a:=[pz me i]) (iY me i) (by decide))) h.ws) (by decide)) h'.ws⟩;show SW ([BR,pz me i,kL]++x.w++[Ad]++y.w)<=_;have h1:=h.sw;have h2:=h'.sw;have h3:=Gj me i;rw[jW,jW,jW,show SW [Ad]=6 from rfl,show SW [BR,pz me i,kL]=4+((pz me i).length+2+6) from rfl];exact qA (uR (uM (uR (uD (uM (uM h3 2) 6) 4) h1) 6) h2) (vC (by rw[vO (4+(2+2+6)) S,vD S,wT S _ S']))
theorem Gx.succ(ha:x.at=true)(h:Gx me x K D S N):Gx me (.succ x) K (D+1) (S+6) N:=by
 refine⟨E8 ha h.ok,h.k,uL h.dp,?_,h.nc,h.wf,jR h.ws (by decide)⟩;show SW (x.w++[[43],[49]])<=_;rw[jW];exact uM h.sw 6
theorem Gx.predp(h:Gx me x K D S N):Gx me (.pred (.par x)) (K+5) (D+1) (S+12) N:=by
 refine⟨E8 rfl h.ok,uM h.k 5,uL h.dp,?_,h.nc,h.wf,jR (jR (jR (a:=[[40]]) (by decide) h.ws) (by decide)) (by decide)⟩;show SW ([[40]]++x.w++[[41]]++[[45],[49]])<=_;have h1:=h.sw;rw[jW,jW,jW,show SW [[40]]=3 from rfl,show SW [[41]]=3 from rfl,show SW [[45],[49]]=6 from rfl];rw[vD,vO 3,vD];exact uM h1 _
theorem Gx.mono(h:Gx me x K D S N)(h1:Nat.ble K K'=true)(h2:Nat.ble D D'=true)(h3:Nat.ble S S'=true)(h4:Nat.ble N N'=true):Gx me x K' D' S' N':=
 ⟨h.ok,W5 h.k h1,W5 h.dp h2,W5 h.sw h3,W5 h.nc h4,h.wf,h.ws⟩
end
theorem XE(a:Fc):Gx a.me a.m0 22 5 132 1:=(Cc ..).call _ (Cc ..)
theorem XB(a:Fc):Gx a.me a.l1 22 5 132 1:=by
 unfold Fc.l1 lX;split
 ·exact XE a
 ·exact(Cc ..).mono rfl rfl rfl rfl
theorem iC(a:Fc):Gx a.me a.m1 27 6 204 2:=(XB a).call _ (Cc ..)
theorem S6{f:Fm}(h:f.t=M5):f=.nest:=by
 induction f using Fm.casesOn with
 |nest=>rfl
 |_=>exact absurd h (by decide)
theorem ZG(a:Fc)(h:a.f≠.nest):Gx a.me a.m1 22 5 132 1:=by
 unfold Fc.m1 Fc.l1 lX;rw[if_neg λe=>h (S6 e)];exact(Cc ..).call _ (Cc ..)
theorem GC(a:Fc):Gx a.me a.x 40 12 330 3:=by
 have hs:Gx a.me a.st 17 4 12 0:=MA ..;have h0:=XE a;have h1:=ZG a;have h2:=iC a;unfold Fc.x;generalize a.f=f at *;induction f using Fm.casesOn with
 |last=>exact(hs.iff a.p (h1 nofun)).mono rfl rfl rfl rfl
 |deep=>exact(hs.iff a.p (h0.iff (!a.p) (h1 nofun))).mono rfl rfl rfl rfl
 |both=>exact(h0.iff a.p (h1 nofun)).mono rfl rfl rfl rfl
 |nest=>exact(hs.iff a.p h2).mono rfl rfl rfl rfl
 |over=>exact(hs.iff a.p ((h1 nofun).succ rfl)).mono rfl rfl rfl rfl
 |under=>exact((hs.iff a.p (h1 nofun)).predp).mono rfl rfl rfl rfl
 |leaf=>exact hs.mono rfl rfl rfl rfl
theorem Qy(a:Fc):a.fn.ok:=⟨iU a.me,LZ _ (GC a).wf,qB (GC a).dp (by decide),qB (GC a).nc (by decide)⟩
theorem Mc{f:Bool}{p q:Tok}:∀(e:E),e.nc=0->∀kn out,cl f p q e kn out=out:=by
 intro e;induction e with
 |num i=>intro _ kn out;rfl
 |name z=>intro _ kn out;rfl
 |pred a ih=>exact ih
 |succ a ih=>exact ih
 |iff z a b iha ihb=>
  intro h kn out;have h:a.nc+b.nc=0:=h;show cl f p q b (kn++[z]) (cl f p q a kn out)=out;rw[iha (by exact(Nat.add_eq_zero_iff.mp h).1),ihb (by exact(Nat.add_eq_zero_iff.mp h).2)]
 |call g a b=>intro h;exact absurd h (yW _)
theorem HV{me g:Bool}{l r:X}{kn:List Tok}{out out':List Nd}{k:Bool×Bool}(hk:kn.contains (pT me)=k.1/\kn.contains (qT me)=k.2)(hl:l.e.wf (pT me) (qT me))(hr:r.e.wf (pT me) (qT me))(e:cl me (pT me) (qT me) l.e kn out=out')(hn:r.e.nc=0):
  cl me (pT me) (qT me) (X.call g l r).e kn out=BG out' (gN me g (kM me k.1 k.2 l) (kM me k.1 k.2 r)):=by
 show BG (cl me (pT me) (qT me) r.e kn (cl me (pT me) (qT me) l.e kn out)) (gN me g (bd (pT me) (qT me) kn l.e) (bd (pT me) (qT me) kn r.e))=_;rw[e,Mc _ hn,W4 _ _ hl,W4 _ _ hr,hk.1,hk.2]
noncomputable def nR:Fm->Nat×Nat
 |.last=>(0,1)
 |.deep=>(1,2)
 |.both=>(0,1)
 |.nest=>(1,1)
 |.over=>(0,1)
 |.under=>(0,1)
 |.leaf=>(0,0)
theorem lC(s:Int):((sh s).1,(sh s).2.1)=nR (sh s).2.2:=by
 have h:∀j,((Bk.getD j (0,0,.leaf)).1,(Bk.getD j (0,0,.leaf)).2.1)=nR (Bk.getD j (0,0,.leaf)).2.2:=by
  intro j
  match j with
  |0=>rfl
  |1=>rfl
  |2=>rfl
  |3=>rfl
  |4=>rfl
  |5=>rfl
  |6=>rfl
  |7=>rfl
  |n+8=>rfl
 exact h _
theorem tC(me p:Bool):([]:List Tok).contains (pT me)=(hk p 0).1/\([]:List Tok).contains (qT me)=(hk p 0).2:=⟨rfl,rfl⟩
theorem Zt(me p:Bool):([]++[pz me p]).contains (pT me)=(hk p 1).1/\([]++[pz me p]).contains (qT me)=(hk p 1).2:=by induction me using tZ<;>induction p using tZ<;>decide
theorem tE(me p:Bool):([]++[pz me p]++[pz me (!p)]).contains (pT me)=(hk p 2).1/\([]++[pz me p]++[pz me (!p)]).contains (qT me)=(hk p 2).2:=by induction me using tZ<;>induction p using tZ<;>decide
theorem W7(a:Fc)(out:List Nd):cl a.me (pT a.me) (qT a.me) a.x.e [] out=a.ss.foldl BG out:=by
 have gs:Gx a.me a.st 17 4 12 0:=MA ..;have hs:∀kn out,cl a.me (pT a.me) (qT a.me) a.st.e kn out=out:=Mc _ (Nat.le_zero.mp gs.nc);have ag:∀c d,(kj a.me c d).e.wf (pT a.me) (qT a.me)/\(kj a.me c d).e.nc=0:=λc d=>⟨LZ _ (Cc a.me c d).wf,Nat.le_zero.mp (Cc a.me c d).nc⟩;have e0:∀{kn out},kn.contains (pT a.me)=a.k0.1/\kn.contains (qT a.me)=a.k0.2->cl a.me (pT a.me) (qT a.me) a.m0.e kn out=BG out a.s0:=λhk=>HV hk (ag ..).1 (ag ..).1 (Mc _ (ag ..).2 _ _) (ag ..).2;have hf:=lC a.s;have wl:a.l1.e.wf (pT a.me) (qT a.me):=LZ _ (XB a).wf;have hk0:a.k0=hk a.p (nR a.f).1:=congrArg (λz:Nat×Nat=>hk a.p z.1) hf;have hk1:a.k1=hk a.p (nR a.f).2:=congrArg (λz:Nat×Nat=>hk a.p z.2) hf;have e1:∀{kn out},a.f≠.nest->kn.contains (pT a.me)=a.k1.1/\kn.contains (qT a.me)=a.k1.2->cl a.me (pT a.me) (qT a.me) a.m1.e kn out=BG out a.s1:=by
  intro kn out hn hk;refine HV hk wl (ag ..).1 ?_ (ag ..).2;unfold Fc.l1 lX;rw[if_neg λh=>hn (S6 h)];exact Mc _ (ag ..).2 _ _
 have e2:∀{kn out},a.f=.nest->kn.contains (pT a.me)=a.k0.1/\kn.contains (qT a.me)=a.k0.2->kn.contains (pT a.me)=a.k1.1/\kn.contains (qT a.me)=a.k1.2->cl a.me (pT a.me) (qT a.me) a.m1.e kn out=BG (BG out a.s0) a.s1:=by
  intro kn out hn hk hk';refine HV hk' wl (ag ..).1 ?_ (ag ..).2;unfold Fc.l1 lX;rw[if_pos (by rw[hn];rfl)];exact e0 hk
 rw[hk0] at e0 e2;rw[hk1] at e1 e2;unfold Fc.x Fc.ss;generalize a.f=f at *;induction f using Fm.casesOn with
 |last=>
  show cl _ _ _ a.m1.e ([]++[pz a.me a.p]) (cl _ _ _ a.st.e [] out)=_;rw[hs,e1 nofun (Zt ..)];rfl
 |deep=>
  show cl _ _ _ a.m1.e ([]++[pz a.me a.p]++[pz a.me (!a.p)]) (cl _ _ _ a.m0.e ([]++[pz a.me a.p]) (cl _ _ _ a.st.e [] out))=_;rw[hs,e0 (Zt ..),e1 nofun (tE ..)];rfl
 |both=>
  show cl _ _ _ a.m1.e ([]++[pz a.me a.p]) (cl _ _ _ a.m0.e [] out)=_;rw[e0 (tC ..),e1 nofun (Zt ..)];rfl
 |nest=>
  show cl _ _ _ a.m1.e ([]++[pz a.me a.p]) (cl _ _ _ a.st.e [] out)=_;rw[hs,e2 rfl (Zt ..) (Zt ..)];rfl
 |over=>
  show cl _ _ _ a.m1.e ([]++[pz a.me a.p]) (cl _ _ _ a.st.e [] out)=_;rw[hs,e1 nofun (Zt ..)];rfl
 |under=>
  show cl _ _ _ a.m1.e ([]++[pz a.me a.p]) (cl _ _ _ a.st.e [] out)=_;rw[hs,e1 nofun (Zt ..)];rfl
 |leaf=>exact hs _ _
theorem IP(a:Fc):a.ss.length<=2:=by unfold Fc.ss;cases a.f<;>first|exact uK 2|exact w4 1|exact uZ 2
theorem Fv(s:List Nat):∀ls:List (List Nat),wK (S s) (ls.map S)=S (jn s ls):=by
 intro ls;induction ls with
 |nil=>rfl
 |cons a r ih=>
  induction r using uB with
  |nil=>rfl
  |cons b r=>
   show S a++S s++wK (S s) ((b::r).map S)=_;rw[ih,FM,FM,uN];rfl
theorem Zj:∀{a b c d:List Nat},s∉a->s∉c->a++s::b=c++s::d->a=c/\b=d:=by
 intro a;induction a with
 |nil=>
  intro b c d _ hc h;induction c using uB with
  |nil=>injection h with _ h;exact⟨rfl,h⟩
  |cons e c=>injection h with h _;exact absurd (h▸u4) hc
 |cons e a ih=>
  intro b c d ha hc h;induction c using uB with
  |nil=>injection h with h _;exact absurd (h▸u4) ha
  |cons f c=>
   injection h with h1 h2
   obtain⟨h3,h4⟩:=ih (λhm=>ha (u0 _ hm)) (λhm=>hc (u0 _ hm)) h2;exact⟨by rw[h1,h3],h4⟩
theorem Zk:∀(ls ms:List (List Nat)),ls≠[]->ms≠[]->(∀l∈ls,s∉l)->(∀l∈ms,s∉l)->jn [s] ls=jn [s] ms->ls=ms:=by
 intro ls;induction ls with
 |nil=>intro ms h;exact absurd rfl h
 |cons a ls ih=>
  intro ms _ hms hl hm h;induction ms using uB with
  |nil=>exact absurd rfl hms
  |cons c ms=>
   have ha:=hl a u4;have hc:=hm c u4;induction ls using uB with
   |nil=>
    induction ms using uB with
    |nil=>exact congrArg (λz=>[z]) h
    |cons d ms=>exact absurd ((show a=c++s::jn [s] (d::ms) from h)▸xQ _ u4) ha
   |cons b ls=>
    induction ms using uB with
    |nil=>exact absurd ((show a++s::jn [s] (b::ls)=c from h)▸xQ _ u4) hc
    |cons d ms=>
     obtain⟨h1,h2⟩:=Zj ha hc h;rw[h1,ih (d::ms) (uI _ _) (uI _ _) (λl hx=>hl l (u0 _ hx)) (λl hx=>hm l (u0 _ hx)) h2]
theorem Kv(s:Nat)(ls:List (List Nat))(hne:ls≠[])(h:∀l∈ls,s∉l):zag (S (jn [s] ls)) (S [s])=ls.map S:=by
 have h1:=StrLaws.join_split (S (jn [s] ls)) (S [s]);have h2:=StrLaws.split_free (S (jn [s] ls)) s;have h3:=PyProof.Rows.split_pos (S (jn [s] ls)) (S [s]);generalize zag (S (jn [s] ls)) (S [s])=ps at *;have e:ps=(ps.map λp=>p.cps.toList).map S:=by
  rw[yU];have:(S ∘ λp:Str=>p.cps.toList)=id:=by funext p;rfl
  rw[this,List.map_id]
 rw[e] at h1 ⊢;rw[Fv,EJ] at h1;rw[Zk _ ls (by intro hc;rw[List.map_eq_nil_iff] at hc;rw[hc] at h3;exact absurd h3 (wY _)) hne ?_ h h1];intro l hl;obtain⟨p,hp,rfl⟩:=List.mem_map.mp hl;exact h2 p hp
noncomputable def mX{α:Type}(c:α):List (List α)->List (List α)
 |[]=>[[c]]
 |r::rs=>(c::r)::rs
noncomputable def LV:List Nat->List (List Nat)
 |[]=>[[]]
 |c::l=>if c=10 then[]::LV l else mX c (LV l)
noncomputable def AX:List Tok->List (List Tok)
 |[]=>[[]]
 |t::l=>if t=[10] then[]::AX l else mX t (AX l)
theorem Dt(c:Nat)(l:List Nat):LV (c::l)=if c=10 then[]::LV l else mX c (LV l):=rfl
theorem As(t:Tok)(l:List Tok):AX (t::l)=if t=[10] then[]::AX l else mX t (AX l):=rfl
theorem Ds(l:List Nat):∃r rs,LV l=r::rs:=by
 induction l using uB with
 |nil=>exact⟨_,_,rfl⟩
 |cons c l=>
  rw[Dt];split
  ·exact⟨_,_,rfl⟩
  ·cases LV l<;>exact⟨_,_,rfl⟩
set_option tactic.hygienic true in
theorem aS(l:List Nat):jn [10] (LV l)=l:=by
 induction l with
 |nil=>rfl
 |cons c l ih=>
  obtain⟨r,rs,e⟩:=Ds l;rw[Dt];rw[e] at ih ⊢;split
  ·rename_i h;show[]++10::jn [10] (r::rs)=_;rw[ih,h];rfl
  ·induction rs using uB with
   |nil=>exact congrArg (c::·) ih
   |cons b rs=>exact congrArg (c::·) ih
set_option tactic.hygienic true in
theorem SX(l:List Nat):∀r∈LV l,10∉r:=by
 induction l with
 |nil=>intro r hr;rw[List.mem_singleton.mp hr];exact vJ
 |cons c l ih=>
  obtain⟨r,rs,e⟩:=Ds l;rw[Dt];rw[e] at ih ⊢;split
  ·intro x hx;rcases List.mem_cons.mp hx with e|hx
   ·rw[e];exact vJ
   ·exact ih x hx
  ·rename_i h;intro x hx;rcases List.mem_cons.mp hx with e|hx
   ·rw[e];exact λhm=>(List.mem_cons.mp hm).elim (λe=>h e.symm) (ih r u4)
   ·exact ih x (u0 _ hx)
theorem M3(l:List Nat):(LV l).length<=l.length+1/\∀r∈LV l,r.length<=l.length:=by
 induction l with
 |nil=>exact⟨uK _,λr hr=>by rw[List.mem_singleton.mp hr];exact uK _⟩
 |cons c l ih=>
  obtain⟨r,rs,e⟩:=Ds l;rw[Dt];rw[e] at ih ⊢;split
  ·refine⟨uL ih.1,λx hx=>?_⟩;rcases List.mem_cons.mp hx with e|hx
   ·rw[e];exact uZ _
   ·exact vN (ih.2 x hx)
  ·refine⟨vN ih.1,λx hx=>?_⟩;rcases List.mem_cons.mp hx with e|hx
   ·rw[e];exact uL (ih.2 r u4)
   ·exact vN (ih.2 x (u0 _ hx))
theorem Wf:∀l:List Nat,AX (tok l)=(LV l).map tok:=by
 intro l;induction l with
 |nil=>rfl
 |cons c l ih=>
  obtain⟨r,rs,e⟩:=Ds l;rw[Dt,An];by_cases h10:c=10
  ·rw[if_pos h10,h10,if_neg (by decide),if_neg (λh=>h.1 rfl),As,if_pos rfl,ih];rfl
  rw[if_neg h10];rw[e] at ih ⊢;show _=tok (c::r)::rs.map tok;have ih:AX (tok l)=tok r::rs.map tok:=ih;by_cases h32:c=32
  ·rw[if_pos h32,ih,An,if_pos h32]
  rw[if_neg h32,An,if_neg h32];by_cases hs:cls c≠0/\same c l=true
  ·rw[if_pos hs];induction l using uB with
   |nil=>exact ff hs.2
   |cons d l=>
    have hd:cls c=cls d:=eq_of_beq hs.2;have hd10:d≠10:=λh=>hs.1 (by rw[hd,h];rfl);have hd0:cls d≠0:=hd▸hs.1;have hr:∃r',r=d::r':=by
     rw[Dt,if_neg hd10] at e;obtain⟨r1,rs1,e1⟩:=Ds l;rw[e1] at e;injection e with e _
     exact⟨r1,e.symm⟩
    obtain⟨r',rfl⟩:=hr;rw[if_pos (show cls c≠0/\same c (d::r')=true from hs)];have ht:=FI hd0 l d rfl;rw[ht] at ih ⊢;have hne:(d::l.takeWhile λx=>cls x==cls d)≠[10]:=λh=>hd10 (by injection h);rw[As,if_neg hne] at ih;show AX ((c::d::l.takeWhile λx=>cls x==cls d)::_)=_;rw[As,if_neg (λh=>h10 (by injection h))];generalize AX (tok (l.dropWhile λx=>cls x==cls d))=z at ih ⊢;induction z using uB with
    |nil=>injection ih with h1 h2;rw[<-h1,<-h2];rfl
    |cons u us=>injection ih with h1 h2;rw[<-h1,<-h2];rfl
  ·rw[if_neg hs,As,if_neg (λh=>h10 (by injection h)),ih,if_neg]
   ·rfl
   ·intro h;refine hs ⟨h.1,?_⟩;induction l using uB with
    |nil=>cases(show r=[] by injection e with e _;exact e.symm);exact h.2
    |cons d l=>
     rw[Dt] at e;split at e
     ·injection e with e _;rw[<-e] at h;exact ff h.2
     ·obtain⟨r1,rs1,e1⟩:=Ds l;rw[e1] at e;injection e with e _
      rw[<-e] at h;exact h.2
noncomputable def Be(n:Nat):List (List Tok)->R (List kG)
 |[]=>.ok []
 |ts::r=>if ts=[] then Be n r else R.bind (zY n ts) λa=>R.bind (Be n r) λrs=>.ok (a::rs)
theorem AW(n:Nat)(ts:List Tok)(r:List (List Tok)):Be n (ts::r)=if ts=[] then Be n r else R.bind (zY n ts) λa=>R.bind (Be n r) λrs=>.ok (a::rs):=rfl
theorem aF(n:Nat):∀ls:List (List Nat),DX n ls=Be n (ls.map tok):=by
 intro ls;induction ls with
 |nil=>rfl
 |cons l ls ih=>rw[Kl,ih];rfl
def PT(n:Nat)(ts:List Tok):R (List kG):=R.bind (Be n (AX ts)) (B0 n)
theorem Vy(hl:l.length<900):Gi (n+3) (LV l)=PT (n+3) (tok l):=by
 rw[LC,aF,<-Wf];rfl
theorem OW(l:List Nat):zag (S l) (S [10])=(LV l).map S:=by
 have h:=Kv 10 (LV l) (by obtain⟨r,rs,e⟩:=Ds l;rw[e];exact uI _ _) (SX l)
 rwa [aS] at h
theorem Hy(hl:l.length<900):match PT (n+3) (tok l) with
  |.ok rs=>zd G T 2000 (n+4) 8 [ds l]=.ok (.list (rs.map kG.d))
  |.ve=>zd G T 2000 (n+4) 8 [ds l]=.ve
  |.stuck=>True:=by
 have h:=R0 (n:=n) (OW l) (uS hl (by decide)) (λr hr=>qB ((M3 l).2 r hr) hl) (qB (M3 l).1 (by exact qB ‹_› (by decide)))
 rwa [Vy hl] at h
theorem R1(hl:l.length<900)(ht:tok l=ts)(h:PT (n+3) ts=.ok rs):zd G T 2000 (n+4) 8 [ds l]=.ok (.list (rs.map kG.d)):=by
 have k:=Hy (n:=n) hl;rw[ht,h] at k;exact k
theorem R2(hl:l.length<900)(ht:tok l=ts)(h:PT (n+3) ts=.ve):zd G T 2000 (n+4) 8 [ds l]=.ve:=by
 have k:=Hy (n:=n) hl;rw[ht,h] at k;exact k
theorem We(ts:List Tok):∃r rs,AX ts=r::rs:=by
 induction ts using uB with
 |nil=>exact⟨_,_,rfl⟩
 |cons c l=>
  rw[As];split
  ·exact⟨_,_,rfl⟩
  ·cases AX l<;>exact⟨_,_,rfl⟩
theorem D3:∀{a:List Tok},(∀t∈a,t≠[10])->AX a=[a]/\∀b,AX (a++[10]::b)=a::AX b:=by
 intro a;induction a with
 |nil=>intro _;exact⟨rfl,λb=>rfl⟩
 |cons t a ih=>
  intro h;obtain⟨h1,h2⟩:=ih λx hx=>h x (u0 _ hx);have ht:=h t u4;refine⟨?_,λb=>?_⟩
  ·rw[As,if_neg ht,h1];rfl
  ·show AX (t::(a++[10]::b))=_;rw[As,if_neg ht,h2];rfl
theorem Ku:∀a:List Tok,AX (a++[[10]])=AX a++[[]]:=by
 intro a;induction a with
 |nil=>rfl
 |cons t a ih=>
  show AX (t::(a++[[10]]))=_;obtain⟨r,rs,e⟩:=We a;rw[As,As,ih,e];split<;>rfl
theorem HC(n:Nat):∀l:List (List Tok),Be n (l++[[]])=Be n l:=by
 intro l;induction l with
 |nil=>rfl
 |cons ts l ih=>show Be n (ts::(l++[[]]))=_;rw[AW,AW,ih]
theorem TI(n:Nat)(ts:List Tok):PT n ([10]::(ts++[[10],[10]]))=PT n ts:=by
 unfold PT;rw[As,if_pos rfl,AW,if_pos rfl,show ts++[[10],[10]]=ts++[[10]]++[[10]] by rw[uN];rfl,Ku,HC,Ku,HC]
theorem Ko(hA:∀t∈A,t≠[10])(hB:∀t∈B,t≠[10])(nA:A≠[])(nB:B≠[]):Be n (AX (A++[10]::B))=R.bind (zY n A) λr=>R.bind (zY n B) λr2=>.ok [r,r2]:=by
 rw[(D3 hA).2,(D3 hB).1,AW,if_neg nA,AW,if_neg nB];cases zY n A with
 |ve=>rfl
 |stuck=>rfl
 |ok r=>cases zY n B<;>rfl
theorem Kn(hA:∀t∈A,t≠[10])(nA:A≠[]):Be n (AX A)=R.bind (zY n A) λr=>.ok [r]:=by
 rw[(D3 hA).1,AW,if_neg nA];cases zY n A<;>rfl
theorem GB(h:EF ws=true)(k:WS.all P=true):∀t∈ws,P t=true:=
 λt ht=>uF.mp k t (wN.mp (uF.mp h t ht))
theorem HM(h:EF ws=true):∀t∈ws,t≠[10]:=λt ht=>of_decide_eq_true (GB (P:=λt=>decide (t≠[10])) h (by decide) t ht)
theorem IX(h:EF ws=true):B9 ws:=by
 intro t ht hn hs;have k:=GB (P:=λt=>!(isNumT t)||(match Lz t with|.stuck=>false|_=>true)) h (by decide +kernel) t ht;rw[hn,hs] at k;exact ff k
def HH(me:Bool):List Tok:=[zB me,[40],pT me,[44],qT me,[41],[61]]
theorem fG(me:Bool):EF (HH me)=true:=by induction me using tZ<;>decide
theorem fF(me:Bool):SW (HH me)=22:=by induction me using tZ<;>rfl
theorem Mp(me:Bool)(x:X):hdT me++x.tx=jw (HH me++x.w):=by
 rw[Ai (HH me) (uI _ _) (Ff x),<-lV];induction me using tZ<;>rfl
abbrev Am(a:Fc):List Tok:=HH a.me++a.x.w
theorem BZ(a:Fc):EF (Am a)=true:=jR (fG _) (GC a).ws
theorem E1(a:Fc):SW (Am a)<=352:=by rw[jW,fF];have:=(GC a).sw;exact uD ‹_› _
theorem Pe:∀{ws:List Tok},(∀w∈ws,w≠[])->3*ws.length<=SW ws:=by
 intro ws;induction ws with
 |nil=>intro _;exact uK _
 |cons w ws ih=>
  intro h;have h1:=ih λx hx=>h x (u0 _ hx);have h2:0<w.length:=List.length_pos_iff.mpr (h w u4);show 3*(ws.length+1)<=w.length+2+SW ws;rw[vO (w.length+2)];exact uR h1 (uM h2 2)
theorem mC(h:EF ws=true):∀w∈ws,w≠[]:=λt ht=>of_decide_eq_true (GB (P:=λt=>decide (t≠[])) h (by decide) t ht)
def ju(a:Fc):kG:=⟨zB a.me,[pT a.me,qT a.me],a.x.e.d⟩
theorem L8(hn:40<=n)(a:Fc)(ht:KC ps=false):G6 n f ps a.x.w=.ok ⟨f,ps,a.x.e.d⟩:=by
 have h:=(qI a.x (GC a).ok).1 n [] (qA (GC a).k hn) ⟨nofun,nofun,nofun⟩;rw[vS] at h;unfold G6;rw[h];show(if([]:List Tok)≠[]\/KC ps=true then R.ve else _)=_;rw[if_neg (by rw[ht];exact λh=>h.elim (λh=>h rfl) λh=>ff h)]
theorem CD(hn:40<=n)(a:Fc):zY n (Am a)=.ok (ju a):=by
 unfold ju;cases hm:a.me with
 |false=>
  have:=(DW n a.x.w).trans (L8 hn a (by decide));unfold Am;rw[hm];exact this
 |true=>
  have:=(FH n a.x.w).trans (L8 hn a (by decide));unfold Am;rw[hm];exact this
theorem Iv(hn:40<=n)(a:Fc):JU [pT a.me,qT a.me] fx n a.x.e.d=.ok .none:=U4 _ n (Qy a).2.1 (qB (GC a).dp (qD (by decide) hn))
section
variable{n:Nat}{a b:Fc}(ha:a.me=false)(hb:b.me=true)(hn:40<=n)
include ha hb hn
theorem MY:Be n (AX (Am a++[10]::Am b))=.ok [ju a,ju b]:=by
 rw[Ko (HM (BZ a)) (HM (BZ b)) (uI _ _) (uI _ _),CD hn a,CD hn b];rfl
theorem Wn:B0 n [ju a,ju b]=.ok [ju a,ju b]:=by
 rw[Gw (by unfold ju;rw[ha];rfl) (by unfold ju;rw[hb];rfl) (by unfold ju;rw[ha];rfl) (by unfold ju;rw[hb];rfl)];have h1:=Iv hn a;have h2:=Iv hn b;rw[ha] at h1;rw[hb] at h2;rw[show JU [nX,Fb] fx n (ju a).b=.ok .none from h1];show R.bind (JU [Fb,nX] fx n (ju b).b) _=_;rw[show JU [Fb,nX] fx n (ju b).b=.ok .none from h2];rfl
theorem dN:PT n (Am a++[10]::Am b)=.ok [ju a,ju b]:=by
 unfold PT;rw[MY ha hb hn];exact Wn ha hb hn
end
theorem Qi:∀e:E,AR e.d:=by
 intro e;induction e with
 |num i=>exact .num i
 |name z=>exact .name z
 |pred a ih=>exact .pred ih
 |succ a ih=>exact .succ ih
 |iff z a b iha ihb=>exact .iff iha ihb
 |call g a b iha ihb=>exact .call iha ihb
theorem Bp{α:Type}:∀{l:List α} {i:Nat},i<l.length->∃u t v,l=u++t::v/\l.eraseIdx i=u++v:=by
 intro l;induction l with
 |nil=>intro i h;exact absurd h (wY _)
 |cons a l ih=>
  intro i h;induction i using w3 with
  |zero=>exact⟨[],a,l,rfl,rfl⟩
  |succ i=>
   obtain⟨u,t,v,e1,e2⟩:=ih (yF h);exact⟨a::u,t,v,congrArg (a::·) e1,congrArg (a::·) e2⟩
theorem H7{α:Type}:∀{a b:List α} {i:Nat},i<a.length->(a++b).eraseIdx i=a.eraseIdx i++b:=λh=>List.eraseIdx_append_of_lt_length h _
theorem H8{α:Type}{a b:List α}{i:Nat}(h:a.length<=i):(a++b).eraseIdx i=a++b.eraseIdx (i - a.length):=List.eraseIdx_append_of_length_le h _
theorem KR(u v:List Tok)(t:Tok):SW (u++v)<=SW (u++t::v):=by
 rw[jW,jW];exact uD (vY _ _) _
theorem FK(h:EF (u++t::v)=true):EF (u++v)=true:=by
 unfold EF at *;rw[zbk,List.all_cons] at h;rw[zbk,jg h,z7 (z7 h)];rfl
theorem LI(h:EF ws=true)(hs:SW ws<=950):ws.length<=316:=by
 have:=Pe (mC h);lia
theorem R3(h:a≠[]):pk (a++b)=pk a:=by
 induction a using uB with
 |nil=>exact absurd rfl h
 |cons=>rfl
theorem iT:∀x:X,x.ok=true->pk x.w≠[61]:=by
 intro x;induction x with
 |num i=>intro h;rcases ZV h with rfl|rfl|rfl|rfl<;>decide
 |name z=>
  intro h e;have e:z=[61]:=e;rw[e] at h;exact ff h
 |par a=>exact λ_=>nofun
 |pred a ih=>exact λh=>(R3 (b:=[[45],[49]]) (Ff a)).symm▸ih (z7 h)
 |succ a ih=>exact λh=>(R3 (b:=[[43],[49]]) (Ff a)).symm▸ih (z7 h)
 |iff z a b=>exact λ_=>nofun
 |call g a b=>
  intro _;induction g using tZ with
  |false=>exact λh=>absurd (show nF=[61] from h) (by decide)
  |true=>exact λh=>absurd (show nX=[61] from h) (by decide)
theorem HO(hA:EF A=true)(hB:EF B=true)(nA:A≠[])(nB:B≠[]):PT n (A++[10]::B)=R.bind (R.bind (zY n A) λr=>R.bind (zY n B) λr2=>.ok [r,r2]) (B0 n):=by
 unfold PT;rw[Ko (HM hA) (HM hB) nA nB]
section
variable{n:Nat}{a b:Fc}(ha:a.me=false)(hb:b.me=true)(hn:639=n)
include ha hb hn
theorem YR{i:Nat}(hi:i<(Am a).length):PT n ((Am a).eraseIdx i++[10]::Am b)=.ve:=by
 have e1:Am a=H1++a.x.w:=by unfold Am;rw[ha];rfl
 have hB:zY n (Am b)=.ok (ju b):=CD (by rw[<-hn];decide) b;have hA:zY n (Am a)=.ok (ju a):=CD (by rw[<-hn];decide) a;have wA:=BZ a;have sA:=E1 a;rw[e1] at hi wA sA hA ⊢;by_cases h7:i<7
 ·rw[H7 (a:=H1) h7];have hv:=UC n a.x.w (iT _ (GC a).ok) i h7;have ne:H1.eraseIdx i++a.x.w≠[]:=by
   intro h;exact Ff a.x (List.append_eq_nil_iff.mp h).2
  have hw:EF (H1.eraseIdx i++a.x.w)=true:=by
   obtain⟨u,t,v,e2,e3⟩:=Bp (l:=H1) h7;rw[e3,uN];rw[e2,uN] at wA;exact FK wA
  rw[HO hw (BZ b) ne (uI _ _),hv];rfl
 ·have h7:7<=i:=yV h7;rw[H8 (a:=H1) h7];rw[uE] at hi;obtain⟨u,t,v,e2,e3⟩:=Bp (l:=a.x.w) (i:=i - H1.length) (by show i - 7<_;change i<7+_ at hi;exact Nat.sub_lt_left_of_lt_add h7 hi);rw[e3];rw[e2] at hA wA sA;have wA':EF (H1++(u++v))=true:=by
   rw[<-uN] at wA ⊢;exact FK wA
  have sA':SW (H1++(u++v))<=950:=by
   refine qA ?_ (qA sA (by decide));rw[<-uN,<-uN];exact KR _ _ _
  have hl:=LI wA' sA';refine(HO wA' (BZ b) (uI _ _) (uI _ _)).trans ?_;refine R7 rfl (Wi hA (Qi _) (IX wA') (qB hl (by decide)) (by rw[<-hn];exact qA (uM (vF 2 hl) 6) (by decide)) λr' h'=>?_) hB (by unfold ju;rw[hb];rfl) (by unfold ju;rw[hb];rfl);have hd:=Px ((DW n (u++v)).symm.trans h');rw[uE] at hl
  change 7+(u++v).length<=316 at hl
  exact hn▸qB hd (qB (vF 2 (qA (vY _ 7) hl)) (by decide))
theorem YS{i:Nat}(hi:i<(Am b).length):PT n (Am a++[10]::(Am b).eraseIdx i)=.ve:=by
 have e1:Am b=H2++b.x.w:=by unfold Am;rw[hb];rfl
 have hB:zY n (Am b)=.ok (ju b):=CD (by rw[<-hn];decide) b;have hA:zY n (Am a)=.ok (ju a):=CD (by rw[<-hn];decide) a;have wB:=BZ b;have sB:=E1 b;have hla:=Iv (n:=n) (by rw[<-hn];decide) a;rw[ha] at hla;rw[e1] at hi wB sB hB ⊢;by_cases h7:i<7
 ·rw[H7 (a:=H2) h7];have hv:=UD n b.x.w (iT _ (GC b).ok) i h7;have ne:H2.eraseIdx i++b.x.w≠[]:=by
   intro h;exact Ff b.x (List.append_eq_nil_iff.mp h).2
  have hw:EF (H2.eraseIdx i++b.x.w)=true:=by
   obtain⟨u,t,v,e2,e3⟩:=Bp (l:=H2) h7;rw[e3,uN];rw[e2,uN] at wB;exact FK wB
  rw[HO (BZ a) hw (uI _ _) ne,hv,hA];rfl
 ·have h7:7<=i:=yV h7;rw[H8 (a:=H2) h7];rw[uE] at hi;obtain⟨u,t,v,e2,e3⟩:=Bp (l:=b.x.w) (i:=i - H2.length) (by show i - 7<_;change i<7+_ at hi;exact Nat.sub_lt_left_of_lt_add h7 hi);rw[e3];rw[e2] at hB wB sB;have wB':EF (H2++(u++v))=true:=by
   rw[<-uN] at wB ⊢;exact FK wB
  have sB':SW (H2++(u++v))<=950:=by
   refine qA ?_ (qA sB (by decide));rw[<-uN,<-uN];exact KR _ _ _
  have hl:=LI wB' sB';refine(HO (BZ a) wB' (uI _ _) (uI _ _)).trans ?_;refine R8 rfl hA (by unfold ju;rw[ha];rfl) (by unfold ju;rw[ha];rfl) hla (Wj hB (Qi _) (IX wB') (qB hl (by decide)) (by rw[<-hn];exact qA (uM (vF 2 hl) 6) (by decide)) λr' h'=>?_);have hd:=Px ((FH n (u++v)).symm.trans h');rw[uE] at hl
  change 7+(u++v).length<=316 at hl
  exact hn▸qB hd (qB (vF 2 (qA (vY _ 7) hl)) (by decide))
omit ha hb in
theorem Us:PT n (Am a++Am b)=.ve:=by
 have hw:=jR (BZ a) (BZ b);have hs:SW (Am a++Am b)<=950:=by
  rw[jW];have h1:=E1 a;have h2:=E1 b;exact qA (uR h1 h2) (by decide)
 have hl:=LI hw hs;have hB:zY n (Am b)=.ok (ju b):=CD (by rw[<-hn];decide) b;have hA:zY n (Am a)=.ok (ju a):=CD (by rw[<-hn];decide) a;unfold PT;rw[Kn (HM hw) (uI _ _)];cases h:zY n (Am a++Am b) with
 |ve=>rfl
 |stuck=>exact absurd h (IF (IX hw) (qB hl (by decide)) (by rw[<-hn];exact qA (uM (vF 2 hl) 6) (by decide))).1
 |ok q=>exact(Ok hA hB h).elim
theorem TH{i:Nat}(hi:i<(Am a++[10]::Am b).length):PT n ((Am a++[10]::Am b).eraseIdx i)=.ve:=by
 by_cases h1:i<(Am a).length
 ·rw[H7 h1];exact YR ha hb hn h1
 ·have h1:(Am a).length<=i:=yV h1;rw[H8 h1];rw[uE,vB] at hi;cases h2:i - (Am a).length with
  |zero=>exact Us hn
  |succ j=>exact YS ha hb hn (by rw[<-zaf h1,h2,vO (j+1)] at hi;exact yF (Nat.lt_of_add_lt_add_left hi))
omit hb in
theorem Yd(hk:k<8):PT n ((Am a++[10]::Am b).take k)=.ve:=by
 have e1:Am a=H1++a.x.w:=by unfold Am;rw[ha];rfl
 have e2:(Am a++[10]::Am b).take k=H1.take k:=by
  rw[e1,uN];exact List.take_append_of_le_length (wV hk)
 rw[e2];by_cases h0:k=0
 ·rw[h0];rfl
 have hw:EF (H1.take k)=true:=by
  have h:=show EF H1=true by decide
  rw[<-zat k H1] at h;unfold EF at *;rw[zbk] at h;exact jg h
 have ne:H1.take k≠[]:=by
  induction k using w3 with
  |zero=>exact absurd rfl h0
  |succ k=>exact uI _ _
 unfold PT;rw[Kn (HM hw) ne];have hv:zY n (H1.take k)=.ve:=by
  by_cases h7:k=7
  ·rw[h7];show zY n (H1++[])=.ve;rw[DW,<-hn];exact Ij (by decide +kernel)
  ·cases h:zY n (H1.take k) with
   |ve=>rfl
   |stuck=>exact absurd (Me n k hk (zaM h0) (by rw[h];exact λh=>sv h)) h7
   |ok r=>exact absurd (Me n k hk (zaM h0) (by rw[h];exact λh=>ov h)) h7
 rw[hv];rfl
end
noncomputable def sO(d:D):List Nat:=match d with
 |.str x=>x.cps.toList
 |_=>[]
noncomputable def eA(d:D):List (List Nat):=match d with
 |.tuple xs=>xs.map sO
 |_=>[]
def lZ:List (List Nat):=eA (G.getD 5 .none)
def m3:List (List Nat):=eA (G.getD 6 .none)
theorem Wy:(m3.all λl=>UL (zY 639 (tok l))&&((tok l).all λt=>decide (t≠[10]))&&!(tok l).isEmpty)=true:=by decide +kernel
noncomputable def nH:Tok:=[104]
def qU(x:R kG):Bool:=match x with
 |.ok r=>r.f==nF||(r.f==nH&&(Nat.beq r.ps.length 1&&UL (zd G T 2000 639 6 [r.b,zm r.ps,zm [nH,nF,nX],.list [.int 1,.int 2,.int 2]])))
 |.ve=>true
 |.stuck=>false
theorem Wx:(lZ.all λl=>qU (zY 639 (tok l))&&((tok l).all λt=>decide (t≠[10]))&&!(tok l).isEmpty)=true:=by decide +kernel
section
variable{a b:Fc}(ha:a.me=false)(hb:b.me=true)
include ha hb
theorem Km(h1:((tok l).all λt=>decide (t≠[10]))=true)(h2:(!(tok l).isEmpty)=true):Be 639 (AX (tok l++[10]::(Am a++[10]::Am b)))=R.bind (zY 639 (tok l)) λr=>.ok [r,ju a,ju b]:=by
 have ne:tok l≠[]:=by
  intro h;rw[h] at h2;exact ff h2
 rw[(D3 λt ht=>of_decide_eq_true (uF.mp h1 t ht)).2,AW,if_neg ne,MY ha hb (by decide)];rfl
theorem Yg(h:l∈m3):PT 639 (tok l++[10]::(Am a++[10]::Am b))=.ve:=by
 have k:=uF.mp Wy l h;unfold PT;rw[Km ha hb (z7 (jg k)) (z7 k),Ij (jg (jg k))];rfl
theorem Ye(h:l∈lZ):PT 639 (tok l++[10]::(Am a++[10]::Am b))=.ve:=by
 have k:=uF.mp Wx l h;unfold PT;rw[Km ha hb (z7 (jg k)) (z7 k)];have k:=jg (jg k);cases hr:zY 639 (tok l) with
 |ve=>rfl
 |stuck=>rw[hr] at k;exact ff k
 |ok r=>
  rw[hr] at k;have k:(r.f==nF||(r.f==nH&&(Nat.beq r.ps.length 1&&UL (zd G T 2000 639 6 [r.b,zm r.ps,zm [nH,nF,nX],.list [.int 1,.int 2,.int 2]]))))=true:=k;have fa:(ju a).f=nF:=by unfold ju;rw[ha];rfl
  have fb:(ju b).f=nX:=by unfold ju;rw[hb];rfl
  show B0 639 [r,ju a,ju b]=.ve;unfold B0;rw[show[r,ju a,ju b].map kG.f=[r.f,nF,nX] by rw[<-fa,<-fb];rfl];by_cases hf:r.f=nF
  ·rw[if_pos (wF (by rw[hf];decide))]
  ·rw[beq_eq_false_iff_ne.mpr hf,Bool.false_or] at k;have hf2:r.f=nH:=eq_of_beq (jg k);have hp:r.ps.length=1:=Nat.eq_of_beq_eq_true (jg (z7 k));rw[if_neg (by rw[hf2];exact λh=>h.elim (λh=>ff h) (λh=>absurd h (by decide)))];have e1:BO [r,ju a,ju b]=zm [nH,nF,nX]:=by show zm [r.f,(ju a).f,(ju b).f]=_;rw[hf2,fa,fb]
   have e2:AJ [r,ju a,ju b]=.list [.int 1,.int 2,.int 2]:=by show w8 [.int (r.ps.length:Nat),.int 2,.int 2]=_;rw[hp];rfl
   rw[e1,e2,Ir,Ij (z7 (z7 k))];rfl
end
theorem Z9(x y z:Str)(hy:(y.length==0)=false):∃ps:List (List Nat),x=wK y (ps.map S)/\wE x y z=wK z (ps.map S):=by
 have conv:∀ps:List Str,ps=(ps.map λp=>p.cps.toList).map S:=by
  intro ps;rw[yU];have:(S ∘ λp:Str=>p.cps.toList)=id:=by funext p;rfl
  rw[this,List.map_id]
 unfold wE;rw[hy,Bool.false_and,Bool.or_false];split
 ·exact⟨[x.cps.toList],rfl,rfl⟩
 ·refine⟨(Builtin.Str.partsBetween x (Builtin.Str.occurrences x y 0 x.length (x.length+1)) y.length).map λp=>p.cps.toList,?_,?_⟩
  ·rw[<-conv,<-xA,StrLaws.glued_between_self]
  ·rw[<-conv,<-xA]
theorem Zl(h:s'.length<=s.length):∀ps:List (List Nat),(jn s' ps).length<=(jn s ps).length:=by
 intro ps;induction ps with
 |nil=>exact uK _
 |cons a r ih=>
  induction r using uB with
  |nil=>exact uK _
  |cons b r=>
   show(a++(s'++jn s' (b::r))).length<=(a++(s++jn s (b::r))).length;rw[uE,uE,uE,uE];exact uD (uR h ih) _
theorem Zm(hc:cls m=0)(h32:m≠32):∀ps:List (List Nat),tok (jn [m] ps)=tok (jn [32,m,32] ps):=by
 intro ps;induction ps with
 |nil=>rfl
 |cons a r ih=>
  induction r using uB with
  |nil=>rfl
  |cons b r=>
   show tok (a++m::jn [m] (b::r))=tok (a++32::m::32::jn [32,m,32] (b::r));rw[M6 hc h32,ED,M7 hc h32,BS,ih]
theorem Sg(hc:cls m=0)(h32:m≠32)(l:List Nat):∃l',wE (S l) (S [32,m,32]) (S [m])=S l'/\tok l'=tok l/\l'.length<=l.length:=by
 obtain⟨ps,h1,h2⟩:=Z9 (S l) (S [32,m,32]) (S [m]) rfl;rw[Fv,EJ] at h1;rw[Fv] at h2;exact⟨_,h2,by rw[Zm hc h32,<-h1],by rw[h1];exact Zl (s:=[32,m,32]) (s':=[m]) (show 1<=3 by decide) ps⟩
noncomputable def Hs:List Nat:=[40,41,44,45,43,61]
def sp1(x:Str):Str:=Hs.foldl (λx m=>wE x (S [32,m,32]) (S [m])) x
noncomputable def wt:List Nat->Nat
 |[]=>0
 |c::l=>(if c=32 then 2 else 1)+wt l
theorem EG(a b:List Nat):wt (a++b)=wt a+wt b:=by
 induction a with
 |nil=>exact(xD _).symm
 |cons c a ih=>show(if c=32 then 2 else 1)+wt (a++b)=(if c=32 then 2 else 1)+wt a+wt b;rw[ih,vD]
theorem Dk(l:List Nat):l.length<=wt l:=by
 induction l with
 |nil=>exact uK _
 |cons c l ih=>show l.length+1<=(if c=32 then 2 else 1)+wt l;split<;>lia
theorem Qd(c k:Nat)(r:List Nat):yG c (k::r)=if k=c then k::k::yG c r else k::yG c r:=rfl
theorem YO(l:List Nat):(yG 32 l).length=wt l:=by
 induction l with
 |nil=>rfl
 |cons c l ih=>
  rw[Qd];show _=(if c=32 then 2 else 1)+wt l;split
  ·rw[vB,vB,ih];exact vO (wt l) 2
  ·rw[vB,ih,vO]
theorem Qe(c:Nat)(l:List Nat):same c (yG 32 l)=same c l:=by
 induction l using uB with
 |nil=>rfl
 |cons d l=>rw[Qd];split<;>rfl
theorem Ul(l:List Nat):tok (yG 32 l)=tok l:=by
 induction l with
 |nil=>rfl
 |cons c l ih=>
  rw[Qd];by_cases h:c=32
  ·rw[if_pos h,h,BS,BS,BS,ih]
  ·rw[if_neg h,An,An,Qe,ih]
def sp2(x:Str):Str:=S [10,32,32]++wE x (S [32]) (S [32,32])++S [10,32,10]
theorem SU(l:List Nat):∃l',sp2 (S l)=S l'/\tok l'=[10]::(tok l++[[10],[10]])/\l'.length=wt l+6:=by
 have h:=StrLaws.replace_double (S l) 32;have e:wE (S l) (S [32]) (S [32,32])=S (yG 32 l):=by
  have h:(wE (S l) (S [32]) (S [32,32])).cps.toList=yG 32 l:=h;rw[<-h]
 refine⟨[10,32,32]++yG 32 l++[10,32,10],?_,?_,?_⟩
 ·unfold sp2;rw[e,FM,FM]
 ·show tok (10::32::32::(yG 32 l++[10,32,10]))=_;rw[M7 (by decide) (by decide),BS,BS,M6 (by decide) (by decide),Ul,BS];rfl
 ·rw[uE,uE,YO];show 3+wt l+3=_;rw[vO 3]
def spX(k:Int)(x:Str):Str:=if k=1 then sp1 x else if k=2 then sp2 x else x
abbrev rK:PS:=(zU (BX (jA zW) (lI 24)) R9)
abbrev rL:PS:=(jp 1 (B3 21 (lS [102]) (zF (lS [120]) (lS [97,98])) (MU (ix 0 3) (ix 0 4) (ix 0 5) (ix 0 6) (ix 0 7) (ix 0 8) (ix 0 9) (ix 0 10) (ix 0 11) (ix 0 12))))
abbrev rM:PS:=(jp 2 (B3 21 (lS [120]) (zF (lS [97,98]) (lS [120])) (MU (ix 0 13) (ix 0 14) (ix 0 15) (ix 0 16) (ix 0 17) (ix 0 18) (ix 0 19) (ix 0 20) (ix 0 21) (ix 0 22))))
abbrev rN:PS:=(jp 3 (zp (zp (ix 1 0) (lS [32,10,32])) (ix 2 0)))
abbrev rO:PS:=(jp 4 (.m1 .split z8 (lS [32])))
abbrev rP:PS:=(jp 5 (Ak kX (lI 8)))
abbrev rQ:PS:=(zU (zM jB (lI 4)) (jp 3 (zp (zp (zt (.glob 5) (Ak jO (lI 12))) (lS [32,10,32])) z8)))
abbrev rR:PS:=(zU (zM jB (lI 5)) (jp 3 (zp (zp (zt (.glob 6) (Ak jO (lI 12))) (lS [32,10,32])) z8)))
abbrev rS:PS:=(zU (zM jB (lI 6)) (Al (jp 6 (Ak jO (jA jx))) (jp 3 (.m1 .join (lS [32]) (zp (.bin .upto jx A6) (.bin .from_ jx (zp A6 jL)))))))
abbrev rT:PS:=(zU (zM jB (lI 7)) (jp 3 (.m1 .join (lS [32]) (.bin .upto jx (Ak jO (lI 8))))))
abbrev U8:PS:=(jp 7 (Ak (ix 0 23) (lI 3)))
abbrev pL:PS:=(jp 9 nN)
abbrev gU:PS:=(jp 10 cR)
abbrev ZD:PS:=(.tryv (jp 9 (Dq 8 z8)) 10 (.bool true))
abbrev ZE:PS:=(zU (kW (.var 10) (.bin .gt jB (lI 3))) Fe)
abbrev gV:PS:=(zU (.var 10) R9)
abbrev gW:PS:=(zU (kW B4 (DR (ix 1 1) (ix 2 1))) Fe)
noncomputable abbrev gX:PS:=(.newl 11 .nil)
abbrev gZ:PS:=(.forr (.one 12) false (zp (ix 1 2) (ix 2 2)) (zU (Ar E0 EZ) (.app 11 E0)))
noncomputable abbrev hH:PS:=(.newl 13 .nil)
abbrev hM:PS:=(.forr (.many [14,15,16]) false EZ (.app 13 (B3 23 (.var 14) CB DS)))
abbrev hU:PS:=(jp 17 (Dq 17 B4))
abbrev hV:PS:=(zU (kW HB (.var 13)) Fe)
abbrev i4:PS:=(jp 18 (Dq 24 EZ))
abbrev i5:PS:=(zU (kW (Dq 13 HB) (.var 18)) Fe)
abbrev i6:PS:=(jp 19 (Dq 18 B4))
abbrev i7:PS:=(zU (.un .not (.un .tyB (.var 19))) Fe)
abbrev i8:PS:=(zU (kW (.var 19) (.un .isNone (.var 18))) Fe)
abbrev i9:PS:=(zU (kW EZ Z2) (AO (.assign (.many [14,15,16]) (ix 11 0)) (.assign (.many [20,21,22]) (zt EZ (.un .neg jL))) (jp 23 nN) (AO (jp 24 cR) (.tryv (jp 23 (Ax 10 (ix 17 0) (zt HB (.un .neg jL)))) 24 (.bool true)) (zU (kW (.var 24) (kW CB (.var 20))) Fe) (zU (AH (zM CB (.var 20)) (kW (.var 23) (B3 23 (.var 14) (.var 21) (Ax 22 DS (.var 22))))) Fe))))
abbrev iA:PS:=(zU (kW HB (.var 13)) Fe)
abbrev iB:PS:=(zU (kW B4 (DR (ix 1 1) (ix 2 1))) Fe)
abbrev pM:PS:=R9
def Dj:PS:=(LG rK rL rM rN rO rP rQ rR (CV rS rT U8))
def Er:PS:=(LG pL gU ZD ZE gV gW gX gZ (AO hH hM hU hV))
def Fx:PS:=(LG i4 i5 i6 i7 i8 i9 iA iB pM)
abbrev ww(a b:Fc):List Tok:=Am a++[10]::Am b
theorem mG(a b:Fc):SW (ww a b)<=707:=by
 have h1:=E1 a;have h2:=E1 b;rw[jW];show SW (Am a)+(1+2+SW (Am b))<=707;exact qA (uR h1 (uD h2 3)) (by decide)
theorem Tt{a b:Fc}{P:Tok->Bool}(h:WS.all P=true)(h10:P [10]=true):∀w∈ww a b,P w=true:=by
 intro w hw;rcases List.mem_append.mp hw with hw|hw
 ·exact GB (BZ a) h w hw
 ·rcases List.mem_cons.mp hw with e|hw
  ·rw[e];exact h10
  ·exact GB (BZ b) h w hw
def XI(ws:List Tok):Prop:=∀w∈ws,(decide (tok w=[w])&&decide (32∉w))=true
theorem mF(a b:Fc):XI (ww a b):=Tt (P:=λw=>decide (tok w=[w])&&decide (32∉w)) (by decide +kernel) (by decide +kernel)
theorem mE:∀{w:List Nat},32∉w->wt w=w.length:=by
 intro w;induction w with
 |nil=>intro _;rfl
 |cons c w ih=>
  intro h;show(if c=32 then 2 else 1)+wt w=w.length+1;rw[if_neg λ(e:c=32)=>h (e▸u4),ih λm=>h (u0 _ m),vO]
theorem HN:∀{ws:List Tok},XI ws->wt (jw ws)<=SW ws:=by
 intro ws;induction ws with
 |nil=>intro _;exact uK _
 |cons w r ih=>
  intro h;have h1:wt w=w.length:=mE (of_decide_eq_true (z7 (h w u4)));have h2:=ih λx hx=>h x (u0 _ hx);induction r using uB with
  |nil=>show wt w<=w.length+2+0;exact qA (vC h1) (uV _ _)
  |cons v r=>
   show wt (w++([32]++jn [32] (v::r)))<=w.length+2+SW (v::r);rw[EG,EG,h1];show w.length+(2+wt (jw (v::r)))<=_;rw[<-vD];exact uD h2 _
theorem ID{ws:List Tok}(h:XI ws):tok (jw ws)=ws:=b4 ws λw hw=>of_decide_eq_true (jg (h w hw))
theorem Wh{ws:List Tok}(h:XI ws)(hne:ws≠[])(hs:SW ws<=1000):Ex (ds (jw ws)) (ds [32])=.ok (zm ws):=by
 have e:=Kv 32 ws hne λw hw=>of_decide_eq_true (z7 (h w hw));show(if(S [32]).length=1/\(S (jw ws)).length<zv then R.ok (w8 ((zag (S (jw ws)) (S [32])).map .str)) else .stuck)=_;rw[if_pos ⟨rfl,qB (qA (Dk _) (qA (HN h) hs)) (by decide)⟩,e,yU];rfl
theorem aZ(ws:List Tok):((ws.map S).map (·.length)).sum+(ws.map S).length*(S [32]).length<=SW ws:=by
 induction ws with
 |nil=>exact uK _
 |cons w ws ih=>
  rw[vZ,vZ,List.sum_cons,vB];show w.length+_+(_+1)*1<=w.length+2+SW ws
  change _+_*1<=_ at ih
  lia
theorem QW{ws:List Tok}(hs:SW ws<=1000):JM (ds [32]) (zm ws)=.ok (ds (jw ws)):=by
 show R.bind (ji (A8 (ws.map ds))) (Xv (S [32]))=_;rw[Kz];show(if((ws.map S).map (·.length)).sum+(ws.map S).length*(S [32]).length<=zv then R.ok (PyData.str (Txt.join (S [32]) (ws.map S))) else .stuck)=_;rw[if_pos (qA (aZ ws) (qA hs (by decide)))];show R.ok (PyData.str (zbC (S [32]) (ws.map S)))=_;rw[xA,Fv]
theorem eZ{cf:Nat->List D->R D}{ρ:zg}{a b:PE}{y z:D}{l:Str}(h:ev G cf a ρ=.ok (.str l))(g:ev G cf b ρ=.ok y)(k:Ex (.str l) y=.ok z):ev G cf (.m1 .split a b) ρ=.ok z:=
 (congrArg (R.bind · _) h).trans ((congrArg (R.bind · (Ex (.str l))) g).trans k)
theorem S9{ws vs:List Tok}(h:ws.length+vs.length<=1000):E6 (zm ws) (zm vs)=.ok (zm (ws++vs)):=by
 show Vg (ws.map ds++vs.map ds)=_;unfold Vg;rw[if_pos]
 ·show _=R.ok (w8 ((ws++vs).map ds));rw[vU]
 ·rw[uE,uJ,uJ];exact qA h (by decide)
theorem NU(ns:List Tok)(i:Nat):Xg (zm ns) (.int i)=.ok (zm (ns.drop i)):=by
 show(if(0:Int)<=i then R.ok (w8 ((ns.map ds).drop (i:Int).toNat)) else .stuck)=_;rw[if_pos (wS _),Int.toNat_natCast,<-List.map_drop]
theorem L2(ws:List Tok)(i:Nat):SW (ws.take i)<=SW ws:=by
 conv=>rhs;rw[<-zat i ws,jW]
 exact uV _ _
theorem I4(ws:List Tok)(i:Nat):SW (ws.eraseIdx i)<=SW ws:=by
 by_cases h:i<ws.length
 ·obtain⟨u,t,v,e1,e2⟩:=Bp h;rw[e2]
  conv=>rhs;rw[e1]
  exact KR u v t
 ·rw[List.eraseIdx_of_length_le (yV h)];exact uK _
theorem J9{ws:List Tok}(h:XI ws)(i:Nat):XI (ws.take i):=λw hw=>h w (y1 hw)
theorem Hw{ws:List Tok}(h:XI ws)(i:Nat):XI (ws.eraseIdx i):=λw hw=>h w (List.mem_of_mem_eraseIdx hw)
theorem b7:G.getD 5 .none=.tuple (lZ.map ds):=rfl
theorem b9:G.getD 6 .none=.tuple (m3.map ds):=rfl
theorem b8:(lZ.all λl=>decide (wt l<=40))=true:=by decide +kernel
theorem bA:(m3.all λl=>decide (wt l<=40))=true:=by decide +kernel
theorem Sk{ls:List (List Nat)}(h:ls.length=12)(c:Int):∃l∈ls,jd (.tuple (ls.map ds)) (.int (BY c))=.ok (ds l):=by
 have hl:BY c<ls.length:=by rw[h];exact Dr c
 exact⟨ls[BY c],List.getElem_mem hl,by rw[BK,v6,uA hl];rfl⟩
theorem L6{l t:List Nat}:tok (l++[32,10,32]++t)=tok l++[10]::tok t:=by
 rw[uN];show tok (l++32::10::32::t)=_;rw[ED,M7 (by decide) (by decide),BS]
structure TM(a b:Fc)(md:Int)(t:List Nat):Prop where
 wt:wt t<=890
 p:(md<=3/\PT 639 (tok t)=.ok [ju a,ju b])\/(3<md/\PT 639 (tok t)=.ve)
inductive Yh(a b:Fc)(sc:D)(s:Nat->Int):zg->Prop
 |mk(t:List Nat)(t6:D)(h:TM a b (s 0 % 8) t):Yh a b sc s (sc::a.r::b.r::ds t::zm (ww a b)::.int (s 0 % 8)::t6::.int (s 23 % 3)::nz 33)
noncomputable def Xd(s:Nat->Int):Fc:=⟨false,s 3,s 4,s 5,s 6,s 7,s 8,s 9,s 10,s 11,s 12⟩
noncomputable def Xe(s:Nat->Int):Fc:=⟨true,s 13,s 14,s 15,s 16,s 17,s 18,s 19,s 20,s 21,s 22⟩
theorem jI{cf ci:Nat->List D->R D}{ρ σ:zg}{i j:Int}{s:PS}{k:Nat}(h:zq ρ k=.int i)(d:(i=j/\exec G cf ci 2000 s ρ=.ok (.next,σ))\/(i≠j/\σ=ρ)):exec G cf ci 2000 (.ifs (.bin .eq (.var k) (.lit (.int j))) s .skip) ρ=.ok (.next,σ):=by
 have hc:ev G cf (.bin .eq (.var k) (.lit (.int j))) ρ=.ok (.bool (decide (i=j))):=ze (congrArg R.ok h) rfl rfl;rcases d with⟨e,g⟩|⟨e,g⟩
 ·rw[decide_eq_true e] at hc;exact zu hc g
 ·rw[decide_eq_false e] at hc;rw[g];exact zr hc rfl
theorem tG{m:Int}(h:m<8)(a:m≠7)(b:m≠6)(c:m≠5)(d:m≠4):m<=3:=
 have l:∀{k:Int},m<k+1->m≠k->m<k:=λh n=>Int.lt_iff_le_and_ne.mpr ⟨Int.le_of_lt_add_one h,n⟩
 Int.le_of_lt_add_one (l (k:=4) (l (k:=5) (l (k:=6) (l (k:=7) h a) b) c) d)
theorem UY{sc:D}{s:Nat->Int}(hl:∃m:Nat,JS sc=.ok (.int m)/\24<=m)(hx:∀i,i<24->jd sc (.int (i:Nat))=.ok (.int (s i))):
  Nx (zd G T 2000 640) (zj G T 2000 640) Dj (sc::nz 40) (Yh (Xd s) (Xe s) sc s):=by
 have fa:=Mm (n:=637) (Xd s);have fb:=Mm (n:=637) (Xe s);have ha:(Xd s).me=false:=rfl;have hb:(Xe s).me=true:=rfl;generalize hA:Xd s=a at *;generalize hB:Xe s=b at *;have ok:=mF a b;have sw:=mG a b;have wtl:wt (jw (ww a b))<=707:=qA (HN ok) sw;have jl:(jw (ww a b)).length<=707:=qA (Dk _) wtl;have e0:exec G (zd G T 2000 640) (zj G T 2000 640) 2000 rK (sc::nz 40)=.ok (.next,(sc::nz 40)):=by
  obtain⟨m,h1,h2⟩:=hl;refine zr (ze (BJ rfl h1) rfl (congrArg (λb=>R.ok (vE b)) (decide_eq_false ?_))) rfl;exact λh=>absurd (Int.ofNat_lt.mp h) (Nat.not_lt.mpr h2)
 have e1:exec G (zd G T 2000 640) (zj G T 2000 640) 2000 rL (sc::nz 40)=.ok (.next,(sc::a.r::nz 39)):=by
  refine zw (zl (zi rfl (zi rfl (zi (zV (zi (ze rfl rfl (hx 3 (by decide))) (zi (ze rfl rfl (hx 4 (by decide))) (zi (ze rfl rfl (hx 5 (by decide))) (zi (ze rfl rfl (hx 6 (by decide))) (zi (ze rfl rfl (hx 7 (by decide))) (zi (ze rfl rfl (hx 8 (by decide))) (zi (ze rfl rfl (hx 9 (by decide))) (zi (ze rfl rfl (hx 10 (by decide))) (zi (ze rfl rfl (hx 11 (by decide))) (zi (ze rfl rfl (hx 12 (by decide))) (rfl))))))))))) rfl) rfl))) ?_);rw[<-hA] at fa ⊢;exact fa
 have e2:exec G (zd G T 2000 640) (zj G T 2000 640) 2000 rM (sc::a.r::nz 39)=.ok (.next,(sc::a.r::b.r::nz 38)):=by
  refine zw (zl (zi rfl (zi rfl (zi (zV (zi (ze rfl rfl (hx 13 (by decide))) (zi (ze rfl rfl (hx 14 (by decide))) (zi (ze rfl rfl (hx 15 (by decide))) (zi (ze rfl rfl (hx 16 (by decide))) (zi (ze rfl rfl (hx 17 (by decide))) (zi (ze rfl rfl (hx 18 (by decide))) (zi (ze rfl rfl (hx 19 (by decide))) (zi (ze rfl rfl (hx 20 (by decide))) (zi (ze rfl rfl (hx 21 (by decide))) (zi (ze rfl rfl (hx 22 (by decide))) (rfl))))))))))) rfl) rfl))) ?_);rw[<-hB] at fb ⊢;exact fb
 have tA:(hdT a.me++a.x.tx).length<=707:=by
  rw[Mp];exact qA (Dk _) (qA (HN λw hw=>ok w (zbn _ hw)) (qA (E1 a) (by decide)))
 have tB:(hdT b.me++b.x.tx).length<=707:=by
  rw[Mp];exact qA (Dk _) (qA (HN λw hw=>ok w (xQ _ (u0 _ hw))) (qA (E1 b) (by decide)))
 have jj:hdT a.me++a.x.tx++[32,10,32]++(hdT b.me++b.x.tx)=jw (ww a b):=by
  rw[Mp,Mp,Ai (Am a) (uI _ _) (uI _ _),uN];rfl
 have e3:exec G (zd G T 2000 640) (zj G T 2000 640) 2000 rN (sc::a.r::b.r::nz 38)=.ok (.next,(sc::a.r::b.r::ds (jw (ww a b))::nz 37)):=by
  have g:Sv (zd G T 2000 640) (.bin .add (.bin .add (.bin .idx (.var 1) (.lit (.int 0))) (.lit (.str ⟨#[32,10,32]⟩))) (.bin .idx (.var 2) (.lit (.int 0)))) (sc::a.r::b.r::nz 38) (hdT a.me++a.x.tx++[32,10,32]++(hdT b.me++b.x.tx)) (707+3+707):=Sv.add (Sv.add ⟨ze rfl rfl rfl,tA⟩ ⟨rfl,l3⟩ rfl) ⟨ze rfl rfl rfl,tB⟩ rfl;rw[jj] at g;exact zw g.h
 have e4:exec G (zd G T 2000 640) (zj G T 2000 640) 2000 rO (sc::a.r::b.r::ds (jw (ww a b))::nz 37)=.ok (.next,(sc::a.r::b.r::ds (jw (ww a b))::zm (ww a b)::nz 36)):=zw (eZ rfl rfl (Wh ok (uI _ _) (qA sw (by decide))));have e5:exec G (zd G T 2000 640) (zj G T 2000 640) 2000 rP (sc::a.r::b.r::ds (jw (ww a b))::zm (ww a b)::nz 36)=.ok (.next,(sc::a.r::b.r::ds (jw (ww a b))::zm (ww a b)::.int (s 0 % 8)::nz 35)):=zw (ze (ze rfl rfl (hx 0 (by decide))) rfl rfl);have e10:∀{t:List Nat} {t6:D},exec G (zd G T 2000 640) (zj G T 2000 640) 2000 U8 (sc::a.r::b.r::ds t::zm (ww a b)::.int (s 0 % 8)::t6::nz 34)=.ok (.next,(sc::a.r::b.r::ds t::zm (ww a b)::.int (s 0 % 8)::t6::.int (s 23 % 3)::nz 33)):=zw (ze (ze rfl rfl (hx 23 (by decide))) rfl rfl);have hm:0<=s 0 % 8/\s 0 % 8<8:=⟨y0 _ (by decide),yH _ (by decide)⟩;have hx1:=hx 1 (by decide);have fin:∀{t:List Nat} {t6:D},TM a b (s 0 % 8) t->exec G (zd G T 2000 640) (zj G T 2000 640) 2000 (.seq rQ (.seq rR (.seq rS (.seq rT U8)))) (sc::a.r::b.r::ds (jw (ww a b))::zm (ww a b)::.int (s 0 % 8)::nz 35)=exec G (zd G T 2000 640) (zj G T 2000 640) 2000 U8 (sc::a.r::b.r::ds t::zm (ww a b)::.int (s 0 % 8)::t6::nz 34)->Nx (zd G T 2000 640) (zj G T 2000 640) Dj (sc::nz 40) (Yh a b sc s):=
  λh g=>⟨_,zh e0 (zh e1 (zh e2 (zh e3 (zh e4 (zh e5 (g.trans e10)))))),⟨_,_,h⟩⟩
 have ptok:=ID ok;generalize hmd:s 0 % 8=md at *;by_cases m4:md=4
 ·obtain⟨l,hlm,hr⟩:=Sk (ls:=lZ) (by decide) (s 1);rw[<-b7] at hr;have wl:wt l<=40:=of_decide_eq_true (uF.mp b8 l hlm);have g:Sv (zd G T 2000 640) (.bin .add (.bin .add (.bin .idx (.glob 5) (.bin .mod (.bin .idx (.var 0) (.lit (.int 1))) (.lit (.int 12)))) (.lit (.str ⟨#[32,10,32]⟩))) (.var 3)) (sc::a.r::b.r::ds (jw (ww a b))::zm (ww a b)::.int (s 0 % 8)::nz 35) (l++[32,10,32]++jw (ww a b)) (40+3+707):=Sv.add (Sv.add ⟨ze rfl (ze (ze rfl rfl hx1) rfl (J6 _)) hr,qA (Dk l) wl⟩ ⟨rfl,l3⟩ rfl) ⟨rfl,jl⟩ rfl;refine fin (t:=l++[32,10,32]++jw (ww a b)) (t6:=.none) ⟨?_,wF ⟨by rw[m4];decide,?_⟩⟩ ?_
  ·rw[EG,EG,show wt [32,10,32]=5 from rfl];exact qA (uR (uM wl 5) wtl) (by decide)
  ·rw[L6,ptok];exact Ye ha hb hlm
  ·exact zh (jI rfl (xS ⟨m4,zw g.h⟩)) (zh (jI rfl (wF ⟨by rw[m4];decide,rfl⟩)) (zh (jI rfl (wF ⟨by rw[m4];decide,rfl⟩)) (zh (jI rfl (wF ⟨by rw[m4];decide,rfl⟩)) rfl)))
 by_cases m5:md=5
 ·obtain⟨l,hlm,hr⟩:=Sk (ls:=m3) (by decide) (s 1);rw[<-b9] at hr;have wl:wt l<=40:=of_decide_eq_true (uF.mp bA l hlm);have g:Sv (zd G T 2000 640) (.bin .add (.bin .add (.bin .idx (.glob 6) (.bin .mod (.bin .idx (.var 0) (.lit (.int 1))) (.lit (.int 12)))) (.lit (.str ⟨#[32,10,32]⟩))) (.var 3)) (sc::a.r::b.r::ds (jw (ww a b))::zm (ww a b)::.int (s 0 % 8)::nz 35) (l++[32,10,32]++jw (ww a b)) (40+3+707):=Sv.add (Sv.add ⟨ze rfl (ze (ze rfl rfl hx1) rfl (J6 _)) hr,qA (Dk l) wl⟩ ⟨rfl,l3⟩ rfl) ⟨rfl,jl⟩ rfl;refine fin (t:=l++[32,10,32]++jw (ww a b)) (t6:=.none) ⟨?_,wF ⟨by rw[m5];decide,?_⟩⟩ ?_
  ·rw[EG,EG,show wt [32,10,32]=5 from rfl];exact qA (uR (uM wl 5) wtl) (by decide)
  ·rw[L6,ptok];exact Yg ha hb hlm
  ·exact zh (jI rfl (wF ⟨m4,rfl⟩)) (zh (jI rfl (xS ⟨m5,zw g.h⟩)) (zh (jI rfl (wF ⟨by rw[m5];decide,rfl⟩)) (zh (jI rfl (wF ⟨by rw[m5];decide,rfl⟩)) rfl)))
 by_cases m6:md=6
 ·have hL:0<(ww a b).length:=by show 0<(_::_).length;exact yX _
  have e:s 1 % ((ww a b).length:Nat)=((s 1 % ((ww a b).length:Nat)).toNat:Nat):=(zaa (y0 _ (Int.ne_of_gt (Int.ofNat_lt.mpr hL)))).symm;have hi:(s 1 % ((ww a b).length:Nat)).toNat<(ww a b).length:=by
   have:=yH (s 1) (show(0:Int)<((ww a b).length:Nat) from Int.ofNat_lt.mpr hL);rw[e] at this;exact Int.ofNat_lt.mp this
  have hmod:Om (.int (s 1)) (.int (((ww a b).map ds).length:Nat))=.ok (.int ((s 1 % ((ww a b).length:Nat)).toNat:Nat)):=by
   rw[uJ];show(if(0:Int)<((ww a b).length:Nat) then R.ok (uT (s 1 % ((ww a b).length:Nat))) else .stuck)=_;rw[if_pos (show(0:Int)<((ww a b).length:Nat) from Int.ofNat_lt.mpr hL),<-e]
  generalize (s 1 % ((ww a b).length:Nat)).toNat=i at *;have sl:=Pe (ws:=ww a b) λw hw=>of_decide_eq_true (Tt (P:=λw=>decide (w≠[])) (by decide) (by decide) w hw);have ap:=S9 (ws:=(ww a b).take i) (vs:=(ww a b).drop (i+1)) (by
   have h2:(ww a b).length<=236:=qC (Nat.lt_of_mul_lt_mul_left (a:=3) (qB (qA sl sw) (show 707<3*236 by decide)));rw[List.length_take,xO];exact qA (uR (qA (zaw _ _) h2) (qA (zbq _ _) h2)) (by decide))
  rw[<-List.eraseIdx_eq_take_drop_succ] at ap;have jn:=QW (ws:=(ww a b).eraseIdx i) (qA (I4 _ i) (qA sw (by decide)));refine fin (t:=jw ((ww a b).eraseIdx i)) (t6:=.int i) ⟨qA (HN (Hw ok i)) (qA (I4 _ i) (qA sw (by decide))),wF ⟨by rw[m6];decide,?_⟩⟩ ?_
  ·rw[ID (Hw ok i)];exact TH ha hb rfl hi
  ·exact zh (jI rfl (wF ⟨m4,rfl⟩)) (zh (jI rfl (wF ⟨m5,rfl⟩)) (zh (jI rfl (xS ⟨m6,zh (zw (ze (ze rfl rfl hx1) (BJ rfl rfl) hmod)) (zw (eY rfl (ze (ze rfl rfl (EE _ i)) (ze rfl (ze rfl rfl rfl) (NU _ (i+1))) ap) jn))⟩)) (zh (jI rfl (wF ⟨by rw[m6];decide,rfl⟩)) rfl)))
 by_cases m7:md=7
 ·have e:s 1 % 8=((s 1 % 8).toNat:Nat):=(zaa (y0 _ (by decide))).symm;have hk:(s 1 % 8).toNat<8:=(zbj (y0 _ (by decide))).mpr (yH _ (by decide));have hmod:Om (.int (s 1)) (.int 8)=.ok (.int ((s 1 % 8).toNat:Nat)):=by rw[<-e];rfl
  generalize (s 1 % 8).toNat=k at *;have jn:=QW (ws:=(ww a b).take k) (qA (L2 _ k) (qA sw (by decide)));refine fin (t:=jw ((ww a b).take k)) (t6:=.none) ⟨qA (HN (J9 ok k)) (qA (L2 _ k) (qA sw (by decide))),wF ⟨by rw[m7];decide,?_⟩⟩ ?_
  ·rw[ID (J9 ok k)];exact Yd ha rfl hk
  ·exact zh (jI rfl (wF ⟨m4,rfl⟩)) (zh (jI rfl (wF ⟨m5,rfl⟩)) (zh (jI rfl (wF ⟨m6,rfl⟩)) (zh (jI rfl (xS ⟨m7,zw (eY rfl (ze rfl (ze (ze rfl rfl hx1) rfl hmod) (EE _ k)) jn)⟩)) rfl)))
 refine fin (t:=jw (ww a b)) (t6:=.none) ⟨qA wtl (by decide),xS ⟨by exact tG hm.2 m7 m6 m5 m4,?_⟩⟩ ?_
 ·rw[ptok];exact dN ha hb (by decide)
 ·exact zh (jI rfl (wF ⟨m4,rfl⟩)) (zh (jI rfl (wF ⟨m5,rfl⟩)) (zh (jI rfl (wF ⟨m6,rfl⟩)) (zh (jI rfl (wF ⟨m7,rfl⟩)) rfl)))
def dd(a b:Fc):List Nd:=(a.ss++b.ss).foldl BG []
theorem Ld(h:xM xs xs=true):vK (.tuple xs) (.tuple xs)=true:=h
theorem YY(h:xM xs xs=true):vK (.list xs) (.list xs)=true:=h
theorem AK(h:vK x x=true)(g:xM r r=true):xM (x::r) (x::r)=true:=E8 h g
theorem E9(x:Str):vK (.str x) (.str x)=true:=beq_self_eq_true x
theorem YU:∀e:E,vK e.d e.d=true:=by
 intro e;induction e with
 |num i=>exact Ld (AK (E9 _) (AK (beq_self_eq_true (i:Int)) rfl))
 |name z=>exact Ld (AK (E9 _) (AK (E9 _) rfl))
 |pred a ih=>exact Ld (AK (E9 _) (AK ih rfl))
 |succ a ih=>exact Ld (AK (E9 _) (AK ih rfl))
 |iff z a b iha ihb=>exact Ld (AK (E9 _) (AK (E9 _) (AK iha (AK ihb rfl))))
 |call g a b iha ihb=>exact Ld (AK (E9 _) (AK (E9 _) (AK (YY (AK iha (AK ihb rfl))) rfl)))
theorem dm(h:d<=2*a+1)(g:a<=b):d<=2*b+1:=qA h (uL (vF 2 g))
theorem Ut:∀e:E,v7 e.d<=2*e.dep+1:=by
 intro e;induction e with
 |num i=>exact uK 1
 |name z=>exact uK 1
 |pred a ih=>exact uL (mz (XG (vN ih)))
 |succ a ih=>exact uL (mz (XG (vN ih)))
 |iff z a b iha ihb=>exact uL (mz (mz (mx (vN (dm iha (vV _ _))) (XG (vN (dm ihb (vP _ _)))))))
 |call g a b iha ihb=>exact uL (mz (mz (XG (uL (mx (dm iha (vV _ _)) (XG (dm ihb (vP _ _))))))))
theorem FC(h:isDict a=false)(hd:v7 a<=4000)(he:vK a a=true):FA a a=.ok (.bool false):=by
 show(if(isDict a||isDict a||deep a a)=true then R.stuck else R.ok (vE !(vK a a)))=_;rw[h,he,if_neg]
 ·rfl
 ·unfold deep;rw[decide_eq_false (Nat.not_lt.mpr (qA (Nat.min_le_left _ _) hd))];exact λh=>ff h
theorem Ml(f:Fn):vK f.d f.d=true:=Ld (AK (E9 _) (AK (YY (AK (E9 _) (AK (E9 _) rfl))) (AK (YU f.e) rfl)))
theorem MT(a b:Fc):FA (.list [a.fn.d,b.fn.d]) (.list [a.fn.d,b.fn.d])=.ok (.bool false):=by
 refine FC rfl ?_ (YY (AK (Ml _) (AK (Ml _) rfl)));have key:∀c:Fc,max 0 (max 1 (max (v7 c.x.e.d) 0))+1<=3999:=λc=>uL (mz (mx (by decide) (XG (qA (dm (Ut c.x.e) (GC c).dp) (by decide)))));exact uL (mx (key a) (XG (key b)))
theorem Lc(hf:∀x y,vK (f x) (f y)=(x==y)):∀l:List Nd,xM (l.map f) (l.map f)=true:=by
 intro l;induction l with
 |nil=>rfl
 |cons x l ih=>exact E8 ((hf x x).trans (beq_self_eq_true x)) ih
theorem YF(hf:∀x,v7 (f x)<=k):∀l:List Nd,vG (l.map f)<=k:=by
 intro l;induction l with
 |nil=>exact uZ _
 |cons x l ih=>exact Nat.max_le.mpr ⟨hf x,ih⟩
theorem Mo(st:List Nd):FA (jh st) (jh st)=.ok (.bool false):=FC rfl (uL (qA (YF F3 st) (by decide))) (Lc F4 st)
theorem Nw(o:Option (List Nat)):FA (zT o) (zT o)=.ok (.bool false):=by
 induction o using uW with
 |none=>rfl
 |some w=>
  have h1:∀w:List Nat,xM (w.map λ(k:Nat)=>uT k) (w.map λ(k:Nat)=>uT k)=true:=by
   intro w;induction w with
   |nil=>rfl
   |cons k w ih=>exact E8 (beq_self_eq_true (k:Int)) ih
  have h2:∀w:List Nat,vG (w.map λ(k:Nat)=>uT k)<=0:=by
   intro w;induction w with
   |nil=>exact uK _
   |cons k w ih=>exact Nat.max_le.mpr ⟨uK _,ih⟩
  exact FC rfl (uL (qA (h2 w) (by decide))) (h1 w)
theorem Ym(x:Nd)(out:List Nd):((out.map BE).any λy=>vK y (BE x))=out.contains x:=by
 rw[List.any_map,List.contains_eq_any_beq];refine congrArg (List.any out) (funext λy=>?_);show vK (BE y) (BE x)=(x==y);rw[S0];exact Bool.beq_comm ..
section
variable{a b:Fc}{sc t4 t6 t7 t8 t12:D}{t:List Nat}{md:Int}{cf ci:Nat->List D->R D}
inductive nY(a b:Fc)(sc t4 t6 t7 t8:D)(t:List Nat)(md:Int)(out:List Nd):zg->Prop
 |mk(t12:D):nY a b sc t4 t6 t7 t8 t md out (sc::a.r::b.r::ds t::t4::.int md::t6::t7::t8::.list [a.fn.d,b.fn.d]::.bool false::jV out::t12::nz 28)
abbrev sK:PS:=(zU (Ar E0 EZ) (.app 11 E0))
theorem tN:∀(l out:List Nd) {ρ:zg},out.length+l.length<=100->nY a b sc t4 t6 t7 t8 t md out ρ->FL cf ci (.one 12) sK (l.map BE) ρ (nY a b sc t4 t6 t7 t8 t md (l.foldl BG out)):=by
 intro l;induction l with
 |nil=>intro out ρ _ h;exact FL.nil h
 |cons x l ih=>
  intro out ρ hl h;obtain⟨t12⟩:=h;have hn:=FE (x:=BE x) rfl (qA (SZ x) (by decide)) (out.map BE);rw[Ym] at hn;have al:=FO out x;rw[vB] at hl;have ih:=λ{ρ} h=>ih (BG out x) (ρ:=ρ) (by exact qA (uM al _) (by rw[wT];exact hl)) h;rw[wX];generalize hout:BG out x=out' at ih;unfold BG at hout;cases hc:out.contains x with
  |true=>
   rw[hc] at hn hout;rw[if_pos rfl] at hout;subst hout;exact FL.cons rfl (zr (ze rfl rfl hn) rfl) (ih ⟨_⟩)
  |false=>
   rw[hc] at hn hout;rw[if_neg (by decide)] at hout;subst hout;exact FL.cons rfl (zu (ze rfl rfl hn) (D7 rfl rfl (by rw[uJ];exact qB (qA (uV _ _) hl) (by decide)) rfl (by show _=(out++[x]).map BE;rw[vU];rfl))) (ih ⟨_⟩)
inductive nZ(a b:Fc)(sc t4 t6 t7 t8 t12:D)(t:List Nat)(md:Int)(out:List Nd):zg->Prop
 |mk(t14 t15 t16:D):nZ a b sc t4 t6 t7 t8 t12 t md out (sc::a.r::b.r::ds t::t4::.int md::t6::t7::t8::.list [a.fn.d,b.fn.d]::.bool false::jV (dd a b)::t12::jh out::t14::t15::t16::nz 24)
abbrev sL:PS:=(.app 13 (B3 23 (.var 14) CB DS))
theorem tP:∀(l out:List Nd) {ρ:zg},out.length+l.length<=100->nZ a b sc t4 t6 t7 t8 t12 t md out ρ->FL (zd G T 2000 (n+1)) ci (.many [14,15,16]) sL (l.map BE) ρ (nZ a b sc t4 t6 t7 t8 t12 t md (out++l)):=by
 intro l;induction l with
 |nil=>intro out ρ _ h;rw[vS];exact FL.nil h
 |cons x l ih=>
  intro out ρ hl h;obtain⟨t14,t15,t16⟩:=h;rw[vB] at hl;have ih:=λ{ρ} h=>ih (out++[x]) (ρ:=ρ) (by rw[uE,List.length_singleton];rw[wT];exact hl) h;rw[uN] at ih;exact FL.cons rfl (D7 (zl rfl (Kp x)) rfl (by rw[uJ];exact qB (qA (uV _ _) hl) (by decide)) rfl (by show _=(out++[x]).map Ay;rw[vU];rfl)) (ih ⟨_,_,_⟩)
end
theorem KK(h:exec G cf ci 2000 s ρ=.ok (.next,σ)):exec G cf ci 2000 (.tryv s i l) ρ=.ok (.next,σ):=by
 show(match exec G cf ci 2000 s ρ with|.ve=>R.ok (Fl.next,ρ.set i l.d)|r=>r)=_;rw[h]
theorem X5(h:ev G cf a ρ=.ve):exec G cf ci 2000 (.assign g a) ρ=.ve:=congrArg (R.bind · _) h
theorem H0(a b:Fc):(dd a b).length<=4:=by
 have key:∀(l out:List Nd),(l.foldl BG out).length<=out.length+l.length:=by
  intro l;induction l with
  |nil=>intro out;exact uK _
  |cons x l ih=>intro out;exact qA (ih _) (by have:=FO out x;rw[vB];exact qA (uM this _) (vC (wT _ _ _)))
 have h:=key (a.ss++b.ss) [];rw[uE] at h;have h1:=IP a;have h2:=IP b;show((a.ss++b.ss).foldl BG []).length<=4
 change _<=0+_ at h
 exact qA h (qA (vC (xD _)) (uR h1 h2))
theorem Jj(a b:Fc)(hn:100<=n):zd G T 2000 (n+1) 17 [.list [a.fn.d,b.fn.d]]=.ok (jh (dd a b)):=by
 rw[ND (Qy a) (Qy b) hn];show R.ok (jh (cl b.me (pT b.me) (qT b.me) b.x.e [] (cl a.me (pT a.me) (qT a.me) a.x.e [] [])))=_;rw[W7,W7];unfold dd;rw[za0]
inductive dK(a b:Fc)(sc t4 t6 t7 t8:D)(t:List Nat)(md:Int):zg->Prop
 |mk(t12 t14 t15 t16:D):dK a b sc t4 t6 t7 t8 t md (sc::a.r::b.r::ds t::t4::.int md::t6::t7::t8::.list [a.fn.d,b.fn.d]::.bool false::jV (dd a b)::t12::jh (dd a b)::t14::t15::t16::jh (dd a b)::nz 23)
theorem UX(h8:md<8)(hl:t.length<900)(hp:(md<=3/\PT 639 (tok t)=.ok [ju a,ju b])\/(3<md/\PT 639 (tok t)=.ve)):
  Rt G (zd G T 2000 640) (zj G T 2000 640) 2000 Er (sc::a.r::b.r::ds t::t4::.int md::t6::t7::t8::nz 32) (.bool true)\/Nx (zd G T 2000 640) (zj G T 2000 640) Er (sc::a.r::b.r::ds t::t4::.int md::t6::t7::t8::nz 32) (dK a b sc t4 t6 t7 t8 t md):=by
 have e14:exec G (zd G T 2000 640) (zj G T 2000 640) 2000 gU (sc::a.r::b.r::ds t::t4::.int md::t6::t7::t8::nz 32)=.ok (.next,(sc::a.r::b.r::ds t::t4::.int md::t6::t7::t8::.none::.bool false::nz 30)):=rfl;rcases hp with⟨hm,hp⟩|⟨hm,hp⟩
 ·right;have pa:=R1 (n:=636) hl rfl hp;have e15:exec G (zd G T 2000 640) (zj G T 2000 640) 2000 ZD (sc::a.r::b.r::ds t::t4::.int md::t6::t7::t8::.none::.bool false::nz 30)=.ok (.next,(sc::a.r::b.r::ds t::t4::.int md::t6::t7::t8::.list [a.fn.d,b.fn.d]::.bool false::nz 30)):=KK (zw (zl rfl pa));have hg:fE (.int md) (.int 3)=.ok (.bool false):=congrArg (λb=>R.ok (vE b)) (decide_eq_false (Int.not_lt.mpr hm));have e16:exec G (zd G T 2000 640) (zj G T 2000 640) 2000 ZE (sc::a.r::b.r::ds t::t4::.int md::t6::t7::t8::.list [a.fn.d,b.fn.d]::.bool false::nz 30)=.ok (.next,(sc::a.r::b.r::ds t::t4::.int md::t6::t7::t8::.list [a.fn.d,b.fn.d]::.bool false::nz 30)):=zr (ze rfl (ze rfl rfl hg) rfl) rfl;have e17:exec G (zd G T 2000 640) (zj G T 2000 640) 2000 gV (sc::a.r::b.r::ds t::t4::.int md::t6::t7::t8::.list [a.fn.d,b.fn.d]::.bool false::nz 30)=.ok (.next,(sc::a.r::b.r::ds t::t4::.int md::t6::t7::t8::.list [a.fn.d,b.fn.d]::.bool false::nz 30)):=zr rfl rfl;have e18:exec G (zd G T 2000 640) (zj G T 2000 640) 2000 gW (sc::a.r::b.r::ds t::t4::.int md::t6::t7::t8::.list [a.fn.d,b.fn.d]::.bool false::nz 30)=.ok (.next,(sc::a.r::b.r::ds t::t4::.int md::t6::t7::t8::.list [a.fn.d,b.fn.d]::.bool false::nz 30)):=zr (ze rfl (Dg (zi (ze rfl rfl rfl) (zi (ze rfl rfl rfl) rfl)) rfl) (MT a b)) rfl;have e19:exec G (zd G T 2000 640) (zj G T 2000 640) 2000 gX (sc::a.r::b.r::ds t::t4::.int md::t6::t7::t8::.list [a.fn.d,b.fn.d]::.bool false::nz 30)=.ok (.next,(sc::a.r::b.r::ds t::t4::.int md::t6::t7::t8::.list [a.fn.d,b.fn.d]::.bool false::.list []::nz 29)):=rfl;have l1:=IP a;have l2:=IP b;have had:E6 (.list (a.ss.map BE)) (.list (b.ss.map BE))=.ok (.list ((a.ss++b.ss).map BE)):=by
   show Vg _=_;unfold Vg;rw[vU,if_pos];rw[uE,uJ,uJ];exact qA (uR l1 l2) (by decide)
  obtain⟨σ,f20,⟨t12⟩⟩:=tN (a:=a) (b:=b) (sc:=sc) (t4:=t4) (t6:=t6) (t7:=t7) (t8:=t8) (t:=t) (md:=md) (cf:=zd G T 2000 640) (ci:=zj G T 2000 640) (a.ss++b.ss) [] (ρ:=(sc::a.r::b.r::ds t::t4::.int md::t6::t7::t8::.list [a.fn.d,b.fn.d]::.bool false::.list []::nz 29)) (by rw[uE];show 0+_<=100;(apply W5;(repeat' first|exact qC ‹_›|assumption|exact uK 0|exact uK 1|apply uR);rfl)) ⟨_⟩;have e20:exec G (zd G T 2000 640) (zj G T 2000 640) 2000 gZ (sc::a.r::b.r::ds t::t4::.int md::t6::t7::t8::.list [a.fn.d,b.fn.d]::.bool false::.list []::nz 29)=.ok (.next,(sc::a.r::b.r::ds t::t4::.int md::t6::t7::t8::.list [a.fn.d,b.fn.d]::.bool false::jV (dd a b)::t12::nz 28)):=Ap (ze (ze rfl rfl rfl) (ze rfl rfl rfl) had) f20;have e21:exec G (zd G T 2000 640) (zj G T 2000 640) 2000 hH (sc::a.r::b.r::ds t::t4::.int md::t6::t7::t8::.list [a.fn.d,b.fn.d]::.bool false::jV (dd a b)::t12::nz 28)=.ok (.next,(sc::a.r::b.r::ds t::t4::.int md::t6::t7::t8::.list [a.fn.d,b.fn.d]::.bool false::jV (dd a b)::t12::.list []::nz 27)):=rfl;have dl:=H0 a b;obtain⟨σ,f22,⟨t14,t15,t16⟩⟩:=tP (n:=639) (a:=a) (b:=b) (sc:=sc) (t4:=t4) (t6:=t6) (t7:=t7) (t8:=t8) (t12:=t12) (t:=t) (md:=md) (ci:=zj G T 2000 640) (dd a b) [] (ρ:=(sc::a.r::b.r::ds t::t4::.int md::t6::t7::t8::.list [a.fn.d,b.fn.d]::.bool false::jV (dd a b)::t12::.list []::nz 27)) (by show 0+_<=100;(apply W5;(repeat' first|exact qC ‹_›|assumption|exact uK 0|exact uK 1|apply uR);rfl)) ⟨_,_,_⟩;have e22:exec G (zd G T 2000 640) (zj G T 2000 640) 2000 hM (sc::a.r::b.r::ds t::t4::.int md::t6::t7::t8::.list [a.fn.d,b.fn.d]::.bool false::jV (dd a b)::t12::.list []::nz 27)=.ok (.next,(sc::a.r::b.r::ds t::t4::.int md::t6::t7::t8::.list [a.fn.d,b.fn.d]::.bool false::jV (dd a b)::t12::jh (dd a b)::t14::t15::t16::nz 24)):=Ap (xs:=(dd a b).map BE) rfl f22;have e23:exec G (zd G T 2000 640) (zj G T 2000 640) 2000 hU (sc::a.r::b.r::ds t::t4::.int md::t6::t7::t8::.list [a.fn.d,b.fn.d]::.bool false::jV (dd a b)::t12::jh (dd a b)::t14::t15::t16::nz 24)=.ok (.next,(sc::a.r::b.r::ds t::t4::.int md::t6::t7::t8::.list [a.fn.d,b.fn.d]::.bool false::jV (dd a b)::t12::jh (dd a b)::t14::t15::t16::jh (dd a b)::nz 23)):=zw (zl rfl (Jj (n:=639) a b (by decide)));have e24:exec G (zd G T 2000 640) (zj G T 2000 640) 2000 hV (sc::a.r::b.r::ds t::t4::.int md::t6::t7::t8::.list [a.fn.d,b.fn.d]::.bool false::jV (dd a b)::t12::jh (dd a b)::t14::t15::t16::jh (dd a b)::nz 23)=.ok (.next,(sc::a.r::b.r::ds t::t4::.int md::t6::t7::t8::.list [a.fn.d,b.fn.d]::.bool false::jV (dd a b)::t12::jh (dd a b)::t14::t15::t16::jh (dd a b)::nz 23)):=zr (ze rfl rfl (Mo _)) rfl;exact⟨_,zh (σ:=(sc::a.r::b.r::ds t::t4::.int md::t6::t7::t8::nz 32)) rfl (zh e14 (zh e15 (zh e16 (zh e17 (zh e18 (zh e19 (zh e20 (zh e21 (zh e22 (zh e23 e24)))))))))),⟨_,_,_,_⟩⟩
 ·left;have pa:=R2 (n:=636) hl rfl hp;have e15:exec G (zd G T 2000 640) (zj G T 2000 640) 2000 ZD (sc::a.r::b.r::ds t::t4::.int md::t6::t7::t8::.none::.bool false::nz 30)=.ok (.next,(sc::a.r::b.r::ds t::t4::.int md::t6::t7::t8::.none::.bool true::nz 30)):=KL (X5 (zl rfl pa));have hg:fE (.int md) (.int 3)=.ok (.bool true):=congrArg (λb=>R.ok (vE b)) (decide_eq_true hm);have e16:exec G (zd G T 2000 640) (zj G T 2000 640) 2000 ZE (sc::a.r::b.r::ds t::t4::.int md::t6::t7::t8::.none::.bool true::nz 30)=.ok (.next,(sc::a.r::b.r::ds t::t4::.int md::t6::t7::t8::.none::.bool true::nz 30)):=zr (ze rfl (ze rfl rfl hg) rfl) rfl;exact Rt.nxt (σ:=(sc::a.r::b.r::ds t::t4::.int md::t6::t7::t8::nz 32)) rfl (Rt.nxt e14 (Rt.nxt e15 (Rt.nxt e16 (Rt.seq (Rt.ift rfl (Rt.ret rfl))))))
theorem JE:∀(x:Nd) (l:List Nd),(x::l).length<=4->∃y,jd (.list ((x::l).map f)) (.int (-1))=.ok (f y)/\y=(x::l).getLast (uI _ _):=by
 intro x l h
 match l,h with
 |[],_=>exact⟨_,rfl,rfl⟩
 |[a],_=>exact⟨_,rfl,rfl⟩
 |[a,b],_=>exact⟨_,rfl,rfl⟩
 |[a,b,c],_=>exact⟨_,rfl,rfl⟩
 |a::b::c::d::r,h=>exact absurd h (by show ¬(r.length+5<=4);lia)
theorem Uw(h:Eg (dd a b) (F6 (dd a b)) 0 kw)(hl:kw.length<=324):zd G T 2000 640 18 [.list [a.fn.d,b.fn.d]]=.ok (.bool (jZ kw).isNone):=by
 refine(YI ..).trans ?_;exact Rt.fin (Rt.ret (zl (zi (zl rfl (Jj (n:=638) a b (by decide))) rfl) (VM (N:=634) (H0 a b) h hl)))
theorem T1(o:Option (List Nat)):FA (.bool o.isNone) (.bool (isNone (zT o)))=.ok (.bool false):=by induction o using uW<;>rfl
inductive cY(a b:Fc)(sc t4 t6 t7 t8 t12:D)(t:List Nat)(md:Int)(o:Option (List Nat)):zg->Prop
 |mk(t14 t15 t16 t20 t21 t22 t23 t24:D):cY a b sc t4 t6 t7 t8 t12 t md o (sc::a.r::b.r::ds t::t4::.int md::t6::t7::t8::.list [a.fn.d,b.fn.d]::.bool false::jV (dd a b)::t12::jh (dd a b)::t14::t15::t16::jh (dd a b)::zT o::.bool o.isNone::t20::t21::t22::t23::t24::nz 16)
section
variable{a b:Fc}{sc t4 t6 t7 t8 t12 t14 t15 t16:D}{t:List Nat}{md:Int}{o:Option (List Nat)}
theorem Zv:Nx (zd G T 2000 640) (zj G T 2000 640) i9 (sc::a.r::b.r::ds t::t4::.int md::t6::t7::t8::.list [a.fn.d,b.fn.d]::.bool false::jV (dd a b)::t12::jh (dd a b)::t14::t15::t16::jh (dd a b)::zT o::.bool o.isNone::nz 21) (cY a b sc t4 t6 t7 t8 t12 t md o):=by
 have dl:=H0 a b;cases hd:dd a b with
 |nil=>exact⟨_,zr rfl rfl,(by rw[<-hd];exact⟨_,_,_,_,_,_,_,_⟩)⟩
 |cons x r=>
  rw[hd] at dl;obtain⟨y,i1,e1⟩:=JE (f:=BE) x r dl;obtain⟨y',i2,e2⟩:=JE (f:=Ay) x r dl;rw[e2.trans e1.symm] at i2;clear e1 e2;rw[<-hd] at i1 i2;have j1:jd (jV (dd a b)) (.int 0)=.ok (BE x):=by rw[hd];rfl
  have j2:jd (jh (dd a b)) (.int 0)=.ok (Ay x):=by rw[hd];rfl
  have hne:FA (jV (dd a b)) (.list [])=.ok (.bool true):=by rw[hd];exact ML _ _
  rw[<-hd];have e14:exec G (zd G T 2000 640) (zj G T 2000 640) 2000 (.assign (.many [14,15,16]) (.bin .idx (.var 11) (.lit (.int 0)))) (sc::a.r::b.r::ds t::t4::.int md::t6::t7::t8::.list [a.fn.d,b.fn.d]::.bool false::jV (dd a b)::t12::jh (dd a b)::t14::t15::t16::jh (dd a b)::zT o::.bool o.isNone::nz 21)=.ok (.next,(sc::a.r::b.r::ds t::t4::.int md::t6::t7::t8::.list [a.fn.d,b.fn.d]::.bool false::jV (dd a b)::t12::jh (dd a b)::ds (zB x.1)::ds (zB x.2.1)::k9 x.2.2::jh (dd a b)::zT o::.bool o.isNone::nz 21)):=KG (ze rfl rfl j1) rfl;have e20:exec G (zd G T 2000 640) (zj G T 2000 640) 2000 (.assign (.many [20,21,22]) (.bin .idx (.var 11) (.un .neg (.lit (.int 1))))) (sc::a.r::b.r::ds t::t4::.int md::t6::t7::t8::.list [a.fn.d,b.fn.d]::.bool false::jV (dd a b)::t12::jh (dd a b)::ds (zB x.1)::ds (zB x.2.1)::k9 x.2.2::jh (dd a b)::zT o::.bool o.isNone::nz 21)=.ok (.next,(sc::a.r::b.r::ds t::t4::.int md::t6::t7::t8::.list [a.fn.d,b.fn.d]::.bool false::jV (dd a b)::t12::jh (dd a b)::ds (zB x.1)::ds (zB x.2.1)::k9 x.2.2::jh (dd a b)::zT o::.bool o.isNone::ds (zB y.1)::ds (zB y.2.1)::k9 y.2.2::nz 18)):=KG (ze rfl rfl i1) rfl;have e24:exec G (zd G T 2000 640) (zj G T 2000 640) 2000 (.assign (.one 24) (.lit (.bool false))) (sc::a.r::b.r::ds t::t4::.int md::t6::t7::t8::.list [a.fn.d,b.fn.d]::.bool false::jV (dd a b)::t12::jh (dd a b)::ds (zB x.1)::ds (zB x.2.1)::k9 x.2.2::jh (dd a b)::zT o::.bool o.isNone::ds (zB y.1)::ds (zB y.2.1)::k9 y.2.2::nz 18)=.ok (.next,(sc::a.r::b.r::ds t::t4::.int md::t6::t7::t8::.list [a.fn.d,b.fn.d]::.bool false::jV (dd a b)::t12::jh (dd a b)::ds (zB x.1)::ds (zB x.2.1)::k9 x.2.2::jh (dd a b)::zT o::.bool o.isNone::ds (zB y.1)::ds (zB y.2.1)::k9 y.2.2::.none::.bool false::nz 16)):=rfl;have hq:FA (ds (zB x.2.1)) (ds (zB y.1))=.ok (.bool !decide (x.2.1=y.1)):=by rw[FB,Cq]
  have hq':I3 (ds (zB x.2.1)) (ds (zB y.1))=.ok (.bool (decide (x.2.1=y.1))):=by rw[CL,Cq]
  by_cases hg:x.2.1=y.1
  ·rw[decide_eq_true hg] at hq hq';have et:exec G (zd G T 2000 640) (zj G T 2000 640) 2000 (.tryv (.assign (.one 23) (.call 10 (.cons (.bin .idx (.var 17) (.lit (.int 0))) (.cons (.bin .idx (.var 17) (.un .neg (.lit (.int 1)))) .nil)))) 24 (.bool true)) (sc::a.r::b.r::ds t::t4::.int md::t6::t7::t8::.list [a.fn.d,b.fn.d]::.bool false::jV (dd a b)::t12::jh (dd a b)::ds (zB x.1)::ds (zB x.2.1)::k9 x.2.2::jh (dd a b)::zT o::.bool o.isNone::ds (zB y.1)::ds (zB y.2.1)::k9 y.2.2::.none::.bool false::nz 16)=.ok (.next,(sc::a.r::b.r::ds t::t4::.int md::t6::t7::t8::.list [a.fn.d,b.fn.d]::.bool false::jV (dd a b)::t12::jh (dd a b)::ds (zB x.1)::ds (zB x.2.1)::k9 x.2.2::jh (dd a b)::zT o::.bool o.isNone::ds (zB y.1)::ds (zB y.2.1)::k9 y.2.2::Ay (x.1,y.2.1,A4 x.2.2 y.2.2)::.bool false::nz 16)):=KK (zw (zl (zi (ze rfl rfl j2) (zi (ze rfl rfl i2) rfl)) (De (n:=638) hg)));have ei:exec G (zd G T 2000 640) (zj G T 2000 640) 2000 (.ifs (.bin .ne (.var 24) (.bin .ne (.var 15) (.var 20))) (.ret (.lit (.bool false))) .skip) (sc::a.r::b.r::ds t::t4::.int md::t6::t7::t8::.list [a.fn.d,b.fn.d]::.bool false::jV (dd a b)::t12::jh (dd a b)::ds (zB x.1)::ds (zB x.2.1)::k9 x.2.2::jh (dd a b)::zT o::.bool o.isNone::ds (zB y.1)::ds (zB y.2.1)::k9 y.2.2::Ay (x.1,y.2.1,A4 x.2.2 y.2.2)::.bool false::nz 16)=.ok (.next,(sc::a.r::b.r::ds t::t4::.int md::t6::t7::t8::.list [a.fn.d,b.fn.d]::.bool false::jV (dd a b)::t12::jh (dd a b)::ds (zB x.1)::ds (zB x.2.1)::k9 x.2.2::jh (dd a b)::zT o::.bool o.isNone::ds (zB y.1)::ds (zB y.2.1)::k9 y.2.2::Ay (x.1,y.2.1,A4 x.2.2 y.2.2)::.bool false::nz 16)):=zr (ze rfl (ze rfl rfl hq) rfl) rfl;have ne:FA (Ay (x.1,y.2.1,A4 x.2.2 y.2.2)) (Ay (x.1,y.2.1,A4 x.2.2 y.2.2))=.ok (.bool false):=FC rfl (qA (F3 _) (by decide)) ((F4 _ _).trans (beq_self_eq_true _));have ej:exec G (zd G T 2000 640) (zj G T 2000 640) 2000 (.ifs (.and_ (.bin .eq (.var 15) (.var 20)) (.bin .ne (.var 23) (.call 23 (.cons (.var 14) (.cons (.var 21) (.cons (.call 22 (.cons (.var 16) (.cons (.var 22) .nil))) .nil)))))) (.ret (.lit (.bool false))) .skip) (sc::a.r::b.r::ds t::t4::.int md::t6::t7::t8::.list [a.fn.d,b.fn.d]::.bool false::jV (dd a b)::t12::jh (dd a b)::ds (zB x.1)::ds (zB x.2.1)::k9 x.2.2::jh (dd a b)::zT o::.bool o.isNone::ds (zB y.1)::ds (zB y.2.1)::k9 y.2.2::Ay (x.1,y.2.1,A4 x.2.2 y.2.2)::.bool false::nz 16)=.ok (.next,(sc::a.r::b.r::ds t::t4::.int md::t6::t7::t8::.list [a.fn.d,b.fn.d]::.bool false::jV (dd a b)::t12::jh (dd a b)::ds (zB x.1)::ds (zB x.2.1)::k9 x.2.2::jh (dd a b)::zT o::.bool o.isNone::ds (zB y.1)::ds (zB y.2.1)::k9 y.2.2::Ay (x.1,y.2.1,A4 x.2.2 y.2.2)::.bool false::nz 16)):=
    zr (Ag (ze rfl rfl hq') (ze rfl (zl (zi rfl (zi rfl (zi (zl rfl (Ik (n:=639) _ _)) rfl))) (Kp (n:=639) (x.1,y.2.1,A4 x.2.2 y.2.2))) ne)) rfl
   exact⟨_,zu (ze rfl rfl hne) (zh e14 (zh e20 (zh (σ:=(sc::a.r::b.r::ds t::t4::.int md::t6::t7::t8::.list [a.fn.d,b.fn.d]::.bool false::jV (dd a b)::t12::jh (dd a b)::ds (zB x.1)::ds (zB x.2.1)::k9 x.2.2::jh (dd a b)::zT o::.bool o.isNone::ds (zB y.1)::ds (zB y.2.1)::k9 y.2.2::nz 18)) rfl (zh e24 (zh et (zh ei ej)))))),⟨_,_,_,_,_,_,_,_⟩⟩
  ·rw[decide_eq_false hg] at hq hq';have et:exec G (zd G T 2000 640) (zj G T 2000 640) 2000 (.tryv (.assign (.one 23) (.call 10 (.cons (.bin .idx (.var 17) (.lit (.int 0))) (.cons (.bin .idx (.var 17) (.un .neg (.lit (.int 1)))) .nil)))) 24 (.bool true)) (sc::a.r::b.r::ds t::t4::.int md::t6::t7::t8::.list [a.fn.d,b.fn.d]::.bool false::jV (dd a b)::t12::jh (dd a b)::ds (zB x.1)::ds (zB x.2.1)::k9 x.2.2::jh (dd a b)::zT o::.bool o.isNone::ds (zB y.1)::ds (zB y.2.1)::k9 y.2.2::.none::.bool false::nz 16)=.ok (.next,(sc::a.r::b.r::ds t::t4::.int md::t6::t7::t8::.list [a.fn.d,b.fn.d]::.bool false::jV (dd a b)::t12::jh (dd a b)::ds (zB x.1)::ds (zB x.2.1)::k9 x.2.2::jh (dd a b)::zT o::.bool o.isNone::ds (zB y.1)::ds (zB y.2.1)::k9 y.2.2::.none::.bool true::nz 16)):=KL (X5 (zl (zi (ze rfl rfl j2) (zi (ze rfl rfl i2) rfl)) (K5 (n:=638) hg)));have ei:exec G (zd G T 2000 640) (zj G T 2000 640) 2000 (.ifs (.bin .ne (.var 24) (.bin .ne (.var 15) (.var 20))) (.ret (.lit (.bool false))) .skip) (sc::a.r::b.r::ds t::t4::.int md::t6::t7::t8::.list [a.fn.d,b.fn.d]::.bool false::jV (dd a b)::t12::jh (dd a b)::ds (zB x.1)::ds (zB x.2.1)::k9 x.2.2::jh (dd a b)::zT o::.bool o.isNone::ds (zB y.1)::ds (zB y.2.1)::k9 y.2.2::.none::.bool true::nz 16)=.ok (.next,(sc::a.r::b.r::ds t::t4::.int md::t6::t7::t8::.list [a.fn.d,b.fn.d]::.bool false::jV (dd a b)::t12::jh (dd a b)::ds (zB x.1)::ds (zB x.2.1)::k9 x.2.2::jh (dd a b)::zT o::.bool o.isNone::ds (zB y.1)::ds (zB y.2.1)::k9 y.2.2::.none::.bool true::nz 16)):=zr (ze rfl (ze rfl rfl hq) rfl) rfl;have ej:exec G (zd G T 2000 640) (zj G T 2000 640) 2000 (.ifs (.and_ (.bin .eq (.var 15) (.var 20)) (.bin .ne (.var 23) (.call 23 (.cons (.var 14) (.cons (.var 21) (.cons (.call 22 (.cons (.var 16) (.cons (.var 22) .nil))) .nil)))))) (.ret (.lit (.bool false))) .skip) (sc::a.r::b.r::ds t::t4::.int md::t6::t7::t8::.list [a.fn.d,b.fn.d]::.bool false::jV (dd a b)::t12::jh (dd a b)::ds (zB x.1)::ds (zB x.2.1)::k9 x.2.2::jh (dd a b)::zT o::.bool o.isNone::ds (zB y.1)::ds (zB y.2.1)::k9 y.2.2::.none::.bool true::nz 16)=.ok (.next,(sc::a.r::b.r::ds t::t4::.int md::t6::t7::t8::.list [a.fn.d,b.fn.d]::.bool false::jV (dd a b)::t12::jh (dd a b)::ds (zB x.1)::ds (zB x.2.1)::k9 x.2.2::jh (dd a b)::zT o::.bool o.isNone::ds (zB y.1)::ds (zB y.2.1)::k9 y.2.2::.none::.bool true::nz 16)):=
    zr (Df (ze rfl rfl hq')) rfl
   exact⟨_,zu (ze rfl rfl hne) (zh e14 (zh e20 (zh (σ:=(sc::a.r::b.r::ds t::t4::.int md::t6::t7::t8::.list [a.fn.d,b.fn.d]::.bool false::jV (dd a b)::t12::jh (dd a b)::ds (zB x.1)::ds (zB x.2.1)::k9 x.2.2::jh (dd a b)::zT o::.bool o.isNone::ds (zB y.1)::ds (zB y.2.1)::k9 y.2.2::nz 18)) rfl (zh e24 (zh et (zh ei ej)))))),⟨_,_,_,_,_,_,_,_⟩⟩
theorem Rd:Rt G (zd G T 2000 640) (zj G T 2000 640) 2000 Fx (sc::a.r::b.r::ds t::t4::.int md::t6::t7::t8::.list [a.fn.d,b.fn.d]::.bool false::jV (dd a b)::t12::jh (dd a b)::t14::t15::t16::jh (dd a b)::nz 23) (.bool true):=by
 have dl:=H0 a b;obtain⟨kw,hr,hl⟩:=aG (dd a b) 400 (kw:=F6 (dd a b)) (i:=0) (by decide) (FN (cs:=(v5 (dd a b).length).flatMap λk=>match (dd a b)[k]? with|some s=>[(s,[k])]|none=>[]) (kw:=[]) List.nodup_nil);have h1:=Qu (N:=638) dl hr hl;have h2:=Hd (N:=636) (qA dl (by decide)) hr hl;have h3:=Uw hr hl;rw[HD dl hr] at h2;generalize jZ kw=o at *;have hb:=Nw o;have e26:exec G (zd G T 2000 640) (zj G T 2000 640) 2000 i4 (sc::a.r::b.r::ds t::t4::.int md::t6::t7::t8::.list [a.fn.d,b.fn.d]::.bool false::jV (dd a b)::t12::jh (dd a b)::t14::t15::t16::jh (dd a b)::nz 23)=.ok (.next,(sc::a.r::b.r::ds t::t4::.int md::t6::t7::t8::.list [a.fn.d,b.fn.d]::.bool false::jV (dd a b)::t12::jh (dd a b)::t14::t15::t16::jh (dd a b)::zT o::nz 22)):=zw (zl rfl h1);have e27:exec G (zd G T 2000 640) (zj G T 2000 640) 2000 i5 (sc::a.r::b.r::ds t::t4::.int md::t6::t7::t8::.list [a.fn.d,b.fn.d]::.bool false::jV (dd a b)::t12::jh (dd a b)::t14::t15::t16::jh (dd a b)::zT o::nz 22)=.ok (.next,(sc::a.r::b.r::ds t::t4::.int md::t6::t7::t8::.list [a.fn.d,b.fn.d]::.bool false::jV (dd a b)::t12::jh (dd a b)::t14::t15::t16::jh (dd a b)::zT o::nz 22)):=zr (ze (zl rfl h2) rfl hb) rfl;have e28:exec G (zd G T 2000 640) (zj G T 2000 640) 2000 i6 (sc::a.r::b.r::ds t::t4::.int md::t6::t7::t8::.list [a.fn.d,b.fn.d]::.bool false::jV (dd a b)::t12::jh (dd a b)::t14::t15::t16::jh (dd a b)::zT o::nz 22)=.ok (.next,(sc::a.r::b.r::ds t::t4::.int md::t6::t7::t8::.list [a.fn.d,b.fn.d]::.bool false::jV (dd a b)::t12::jh (dd a b)::t14::t15::t16::jh (dd a b)::zT o::.bool o.isNone::nz 21)):=zw (zl rfl h3);have e29:exec G (zd G T 2000 640) (zj G T 2000 640) 2000 i7 (sc::a.r::b.r::ds t::t4::.int md::t6::t7::t8::.list [a.fn.d,b.fn.d]::.bool false::jV (dd a b)::t12::jh (dd a b)::t14::t15::t16::jh (dd a b)::zT o::.bool o.isNone::nz 21)=.ok (.next,(sc::a.r::b.r::ds t::t4::.int md::t6::t7::t8::.list [a.fn.d,b.fn.d]::.bool false::jV (dd a b)::t12::jh (dd a b)::t14::t15::t16::jh (dd a b)::zT o::.bool o.isNone::nz 21)):=zr rfl rfl;have hbn:FA (.bool o.isNone) (.bool (isNone (zT o)))=.ok (.bool false):=T1 o;have e30:exec G (zd G T 2000 640) (zj G T 2000 640) 2000 i8 (sc::a.r::b.r::ds t::t4::.int md::t6::t7::t8::.list [a.fn.d,b.fn.d]::.bool false::jV (dd a b)::t12::jh (dd a b)::t14::t15::t16::jh (dd a b)::zT o::.bool o.isNone::nz 21)=.ok (.next,(sc::a.r::b.r::ds t::t4::.int md::t6::t7::t8::.list [a.fn.d,b.fn.d]::.bool false::jV (dd a b)::t12::jh (dd a b)::t14::t15::t16::jh (dd a b)::zT o::.bool o.isNone::nz 21)):=zr (ze rfl (BJ rfl rfl) hbn) rfl;obtain⟨σ,e31,⟨u14,u15,u16,u20,u21,u22,u23,u24⟩⟩:=Zv (a:=a) (b:=b) (sc:=sc) (t4:=t4) (t6:=t6) (t7:=t7) (t8:=t8) (t12:=t12) (t14:=t14) (t15:=t15) (t16:=t16) (t:=t) (md:=md) (o:=o);have e32:exec G (zd G T 2000 640) (zj G T 2000 640) 2000 iA (sc::a.r::b.r::ds t::t4::.int md::t6::t7::t8::.list [a.fn.d,b.fn.d]::.bool false::jV (dd a b)::t12::jh (dd a b)::u14::u15::u16::jh (dd a b)::zT o::.bool o.isNone::u20::u21::u22::u23::u24::nz 16)=.ok (.next,(sc::a.r::b.r::ds t::t4::.int md::t6::t7::t8::.list [a.fn.d,b.fn.d]::.bool false::jV (dd a b)::t12::jh (dd a b)::u14::u15::u16::jh (dd a b)::zT o::.bool o.isNone::u20::u21::u22::u23::u24::nz 16)):=zr (ze rfl rfl (Mo _)) rfl;have e33:exec G (zd G T 2000 640) (zj G T 2000 640) 2000 iB (sc::a.r::b.r::ds t::t4::.int md::t6::t7::t8::.list [a.fn.d,b.fn.d]::.bool false::jV (dd a b)::t12::jh (dd a b)::u14::u15::u16::jh (dd a b)::zT o::.bool o.isNone::u20::u21::u22::u23::u24::nz 16)=.ok (.next,(sc::a.r::b.r::ds t::t4::.int md::t6::t7::t8::.list [a.fn.d,b.fn.d]::.bool false::jV (dd a b)::t12::jh (dd a b)::u14::u15::u16::jh (dd a b)::zT o::.bool o.isNone::u20::u21::u22::u23::u24::nz 16)):=zr (ze rfl (Dg (zi (ze rfl rfl rfl) (zi (ze rfl rfl rfl) rfl)) rfl) (MT a b)) rfl;exact Rt.nxt e26 (Rt.nxt e27 (Rt.nxt e28 (Rt.nxt e29 (Rt.nxt e30 (Rt.nxt e31 (Rt.nxt e32 (Rt.nxt e33 (Rt.ret rfl))))))))
end
theorem Oy:∀(ms:List Nat),(∀m∈ms,cls m=0/\m≠32)->∀l,∃l',(ms.map λm=>S [m]).foldl (λx m=>B6 (S [32]) x m) (S l)=S l'/\tok l'=tok l/\l'.length<=l.length:=by
 intro ms;induction ms with
 |nil=>intro _ l;exact⟨l,rfl,rfl,uK _⟩
 |cons m ms ih=>
  intro h l;obtain⟨l1,e1,t1,n1⟩:=Sg (h m u4).1 (h m u4).2 l;obtain⟨l2,e2,t2,n2⟩:=ih (λx hx=>h x (u0 _ hx)) l1;refine⟨l2,?_,t2.trans t1,qA n2 n1⟩;rw[vZ,wX];have:B6 (S [32]) (S l) (S [m])=S l1:=by
   unfold B6;rw[FM,FM];exact e1
  rw[this];exact e2
theorem Rq:∀m∈Hs,cls m=0/\m≠32:=λm hm=>of_decide_eq_true (uF.mp (show(Hs.all λm=>decide (cls m=0/\m≠32))=true by decide) m hm)
section
variable{ms:List (Str×Nat×Pos)}(hm:ms.map (·.1)=Hs.map λm=>S [m])
include hm
theorem MI(k:Nat)(l:List Nat):∃l',(ms.take k).foldl (λx q=>B6 (S [32]) x q.1) (S l)=S l'/\tok l'=tok l/\l'.length<=l.length:=by
 have e:(ms.take k).foldl (λx q=>B6 (S [32]) x q.1) (S l)=((Hs.take k).map λm=>S [m]).foldl (λx m=>B6 (S [32]) x m) (S l):=by
  rw[List.map_take,<-hm,<-List.map_take,List.foldl_map]
 rw[e];exact Oy _ (λm h=>Rq m (y1 h)) l
theorem ZP(l:List Nat):∃l',ms.foldl (λx q=>B6 (S [32]) x q.1) (S l)=S l'/\tok l'=tok l/\l'.length<=l.length:=by
 have:=MI hm ms.length l
 rwa [zav] at this
theorem Q9(ns:List Int):KQ G (zd G T 2000 640) (zj G T 2000 640) 2000 Dj Er Fx ([.list (ns.map uT)]++vX (Br.nv - Br.np) .none) (λy=>ms.foldl (λx q=>B6 (S [32]) x q.1) y) (Wa (S [10,32,32]) (S [32]) (S [32,32]) (S [10,32,10])) (λy=>∀k,((ms.take k).foldl (λx q=>B6 (S [32]) x q.1) y).length<=1000):=by
 refine⟨?_⟩;by_cases h:(((ns.map uT).length:Nat):Int)<24
 ·left;have r:Rt G (zd G T 2000 640) (zj G T 2000 640) 2000 Dj ([.list (ns.map uT)]++vX (Br.nv - Br.np) .none) (.bool true):=Rt.seq (Rt.ift (ze (BJ rfl rfl) rfl (congrArg (λb=>R.ok (vE b)) (decide_eq_true h))) (Rt.ret rfl));exact r.casesOn λσ h=>⟨σ,h⟩
 ·right;rw[uJ] at h;have hle:24<=ns.length:=Int.ofNat_le.mp (Int.not_lt.mp h);obtain⟨σ,e,⟨t,t6,tm⟩⟩:=UY (sc:=.list (ns.map uT)) (s:=(ns.getD · 0)) ⟨ns.length,by rw[Es,uJ],hle⟩ (λi hi=>by
   have hl:i<ns.length:=qD hi hle;rw[Bt,v6,uA hl,uH,uA hl];rfl)
  have wl:=Dk t;have tw:=tm.wt;refine⟨_,S t,ns.getD 23 0 % 3,e,rfl,rfl,by show 9<=41;decide,λk=>?_,λ_=>?_,λt8=>?_⟩
  ·obtain⟨l',e1,_,n1⟩:=MI hm k t;rw[e1];show l'.length<=1000;exact qA n1 (qA wl (qA tw (by decide)))
  ·obtain⟨l',e1,_,n1⟩:=SU t;rw[show Wa (S [10,32,32]) (S [32]) (S [32,32]) (S [10,32,10]) (S t)=S l' from e1];show l'.length<=2000;exact n1▸qA (uM tw 6) (by decide)
  ·have ex:∃l',(if ns.getD 23 0 % 3=2 then Wa (S [10,32,32]) (S [32]) (S [32,32]) (S [10,32,10]) (S t) else if ns.getD 23 0 % 3=1 then ms.foldl (λx q=>B6 (S [32]) x q.1) (S t) else S t)=S l'/\PT 639 (tok l')=PT 639 (tok t)/\l'.length<900:=by
    split
    ·obtain⟨l',e1,t1,n1⟩:=SU t;exact⟨l',e1,by rw[t1,TI],by exact n1▸qB (uM tw 6) (by decide)⟩
    ·split
     ·obtain⟨l',e1,t1,n1⟩:=ZP hm t;exact⟨l',e1,by rw[t1],by exact qB (qA n1 (qA wl tw)) (by decide)⟩
     ·exact⟨t,rfl,rfl,by exact qB (qA wl tw) (by decide)⟩
   obtain⟨l',e1,p1,n1⟩:=ex;rw[e1];have hp:=tm.p;rw[<-p1] at hp;rcases UX (a:=Xd (ns.getD · 0)) (b:=Xe (ns.getD · 0)) (sc:=.list (ns.map uT)) (t4:=zm (ww (Xd (ns.getD · 0)) (Xe (ns.getD · 0)))) (t6:=t6) (t7:=.int (ns.getD 23 0 % 3)) (t8:=t8) (t:=l') (md:=ns.getD 0 0 % 8) (by exact yH _ (by decide)) n1 hp with r|r
   ·left;exact r.casesOn λσ h=>⟨σ,h⟩
   ·right;obtain⟨σ3,e3,⟨t12,t14,t15,t16⟩⟩:=r;refine⟨_,_,e3,rfl,λd hd=>?_,?_⟩
    ·obtain⟨x,_,rfl⟩:=List.mem_map.mp hd;refine⟨rfl,λd hd=>?_⟩;obtain⟨i,j,c,rfl⟩:=DE x.2.2 d hd;exact⟨rfl⟩
    ·have r:=Rd (a:=Xd (ns.getD · 0)) (b:=Xe (ns.getD · 0)) (sc:=.list (ns.map uT)) (t4:=zm (ww (Xd (ns.getD · 0)) (Xe (ns.getD · 0)))) (t6:=t6) (t7:=.int (ns.getD 23 0 % 3)) (t8:=t8) (t12:=t12) (t14:=t14) (t15:=t15) (t16:=t16) (t:=l') (md:=ns.getD 0 0 % 8);exact r.casesOn λσ h=>⟨σ,h⟩
end
end Mine
set_option tactic.hygienic true
open PySem PySem.W PyProof.Rows PySem.Calls
set_option Elab.async false
set_option maxRecDepth 100000
set_option maxHeartbeats 8000000
namespace Mine
noncomputable def sT:Stmt->Bool
 |.Assign [.Name n _] _ _=>n==uQ "__name__"
 |_=>false
noncomputable def To:uP:={PySem.Challenge.pw_sx_r010_2 with main:={PySem.Challenge.pw_sx_r010_2.main with body:=PySem.Challenge.pw_sx_r010_2.main.body.filter λs=>!sT s}}
noncomputable def K1:List (Str×D):=[(uQ "_letters",G.getD 0 .none),(uQ "_digits",G.getD 1 .none),(uQ "_keys",G.getD 2 .none),(uQ "_law_shapes",G.getD 3 .none),(uQ "_law_kinds",G.getD 4 .none),(uQ "_law_unbound",G.getD 5 .none),(uQ "_law_unread",G.getD 6 .none)]
theorem sR:G=K1.map (·.2):=rfl
noncomputable def qQ(d:DefRec):zL:=⟨d.name,d.params,d.body,d.scope⟩
def bV:List zL:=(recsOf To).map qQ
noncomputable def WV:List zL:=bV.take 25
noncomputable def n6:List Str:=[uQ "_calls"]
theorem TF:bV.length=26:=by decide +kernel
theorem qR:lN WV K1 T n6=true:=by decide +kernel
theorem tr1:(WV.map λfi=>KO ⟨fi.scope.names,WV.map (·.name),n6,K1.map (·.1)⟩ fi.body)=(T.take WV.length).map λfd=>some fd.body:=by kernel_rfl
noncomputable def Cn:zL:=bV.getD 25 ⟨⟨#[]⟩,default,[],default⟩
def NL:Cx:=⟨Cn.scope.names,WV.map (·.name),n6,K1.map (·.1)⟩
theorem oQ:QA Cn Br ⟨Cn.scope.names,WV.map (·.name),n6,K1.map (·.1)⟩=true:=by decide +kernel
theorem lQ:KO NL (Cn.body.take 11)=some Dj:=by kernel_rfl
theorem lP:KO NL ((Cn.body.drop 13).take 12)=some Er:=by kernel_rfl
theorem b6:KO NL (Cn.body.drop 26)=some Fx:=by kernel_rfl
noncomputable def Ra(p:uP):List Stmt:=match p.main.body.getLast? with
 |some (.FunctionDef _ _ b _ _ _ _ _ _ _)=>b
 |_=>[]
theorem Ep:Cn.body=Ra PySem.Challenge.pw_sx_r010_2:=by kernel_rfl
theorem cK:Cn.name=uQ "law":=by decide +kernel
theorem gO:Cn∈bV:=by
 have h:25<bV.length:=by rw[TF];decide
 have:Cn=bV[25]:=by unfold Cn;rw[uH,uA h];rfl
 rw[this];exact List.getElem_mem h
theorem VH:25<(recsOf To).length:=by decide +kernel
def tF:DefRec:=(recsOf To)[25]'(VH)
def pS:Option Stmt->List (Str×Nat×Pos)
 |some (.If _ [.For _ (.Tuple es _ _) _ _ _] _ _)=>es.filterMap λe=>match e with
  |.Constant (.str s) k p=>some (s,k,p)
  |_=>none
 |_=>[]
def XF:List (Str×Nat×Pos):=pS (Ra PySem.Challenge.pw_sx_r010_2)[11]?
theorem On:XF.map (·.1)=Hs.map λm=>S [m]:=by kernel_rfl
def Xh:CR->List VS
 |.st l=>l
 |_=>[]
def cW:List VS:=Xh (chk none Dj none (KN Br.io Br.np Br.nv))
def qV:List VS:=Xh (chk none Er none cW)
theorem bH:chk none Dj none (KN Br.io Br.np Br.nv)=.st cW:=by kernel_rfl
theorem bI:chk none Er none cW=.st qV:=by kernel_rfl
noncomputable def pZ:CR->Bool
 |.err=>false
 |_=>true
theorem aV:pZ (chk none Fx none qV)=true:=by decide +kernel
theorem aU(l:List Stmt){x y z:Stmt}(h1:l[11]?=some x)(h2:l[12]?=some y)(h3:l[25]?=some z):l=l.take 11++(x::y::((l.drop 13).take 12++(z::l.drop 26))):=by
 have g:∀{l:List Stmt} {n:Nat} {x},l[n]?=some x->l.drop n=x::l.drop (n+1):=λ{l n x} h=>by
  obtain⟨hl,e⟩:=List.getElem?_eq_some_iff.mp h;rw[wW hl,e]
 have h3':(l.drop 13)[12]?=some z:=by rw[List.getElem?_drop];exact h3
 have e3:(l.drop 13).drop 12=z::l.drop 26:=(g h3').trans (by rw[wG]);rw[<-e3,zat,<-g h2,<-g h1,zat]
theorem bJ{p:VS->Bool}{st:List VS}(h:st.all p=true)(hu:p .u=true)(i:Nat):p (VS.at st i)=true:=by
 unfold VS.at;rw[uH];cases e:st[i]? with
 |none=>exact hu
 |some v=>exact uF.mp h _ (v9 e)
theorem Tq{st:List VS}{i j:Nat}(h:VS.at st i=.f):VS.at (st.set j .f) i=.f:=by
 unfold VS.at at *;rw[uH] at *;by_cases e:j=i
 ·subst e;rw[List.getElem?_set_self'];cases e:st[j]? with
  |none=>rw[e] at h;exact nomatch h
  |some v=>rfl
 ·rw[List.getElem?_set_ne e];exact h
theorem iL{l:List (Str×NameKind)}(h:(l.all λy=>decide (y.2≠.cell/\y.2≠.free))=true)(x:Str):¬(l.lookup x=some .cell\/l.lookup x=some .free):=λg=>by
 rcases g with g|g
 ·exact(of_decide_eq_true (uF.mp h _ (jm g))).1 rfl
 ·exact(of_decide_eq_true (uF.mp h _ (jm g))).2 rfl
theorem MH{msx:List (Str×Nat×Pos)}{b y:Str}{jj:Nat}{q:Str×Nat×Pos}(h:msx[jj]?=some q):(msx.take (jj+1)).foldl (λx q=>B6 b x q.1) y=B6 b ((msx.take jj).foldl (λx q=>B6 b x q.1) y) q.1:=by rw[List.take_add_one,h,za0];rfl
theorem ZO:∀q∈XF,(q.1.length==0)=false/\(S [32]++q.1++S [32]==q.1)=false/\v8 q.1=true/\q.1.length<=10:=λq hq=>of_decide_eq_true (uF.mp (show(XF.all λq=>decide ((q.1.length==0)=false/\(S [32]++q.1++S [32]==q.1)=false/\v8 q.1=true/\q.1.length<=10))=true by decide +kernel) q hq)
abbrev qL(y:Str):Str:=XF.foldl (λx q=>B6 (S [32]) x q.1) y
abbrev pY(y:Str):Prop:=∀k,((XF.take k).foldl (λx q=>B6 (S [32]) x q.1) y).length<=1000
theorem oS:∃t,(Ra PySem.Challenge.pw_sx_r010_2)[11]?=some t/\∀{H w A env Pt s},(NL.names.map (·.1)).Nodup->Ph H w (Io NL env A Pt s) cW qL pY t:=by
 refine⟨.If (.Compare (.Name _ _) [.Eq] [.Constant (.int 1) _ _] _) [.For (.Name _ _) (.Tuple _ _ _) [.Assign [.Name _ _] (.Call (.Attribute (.Name _ _) "replace" _) [.BinOp (.BinOp (.Constant (.str _) _ _) .Add (.Name _ _) _) .Add (.Constant (.str _) _ _) _,.Name _ _] [] _) _] [] _] [] _,rfl,λhnd=>?_⟩
 intro zc n ρ P ad s Q E y k c hk hy n3 ok1 h;refine aQ (kk:=.local) (ms:=XF) (i:=7) (j:=3) (im:=8) (Y:=λk=>(XF.take k).foldl (λx q=>B6 (S [32]) x q.1) y) c hnd (by kernel_rfl) rfl (by decide +kernel) (by decide +kernel) hk hy (by kernel_rfl) (by decide) n3 (λ_ _ z=>z) rfl
   (λi=>of_decide_eq_true (bJ (p:=λv=>decide (v≠.o)) (by decide +kernel) rfl i)) (λi h=>Tq (Tq h)) (by kernel_rfl) (by decide +kernel) (λjj q hq=>?_) λt8 P' s' c'=>h t8 P' s' (by rw[zav] at c';exact c')
 have z:=ZO q (v9 hq);refine⟨z.2.2.1,z.2.2.2,?_⟩;rw[MH hq];exact Wc (kt:=.local) (b:=S [32]) hnd (by kernel_rfl) rfl (by decide +kernel) (by decide +kernel) (by kernel_rfl) (by decide +kernel) rfl (by decide +kernel) z.1 z.2.1 z.2.2.1 z.2.2.2 (by decide +kernel) (ok1 jj) (by have:=ok1 (jj+1);rw[MH hq] at this;exact this) (by decide +kernel)
theorem oU:∃t,(Ra PySem.Challenge.pw_sx_r010_2)[12]?=some t/\∀{H w A env Pt s},(NL.names.map (·.1)).Nodup->Pi H w (Io NL env A Pt s) cW (Wa (S [10,32,32]) (S [32]) (S [32,32]) (S [10,32,10])) t:=by
 refine⟨.If (.Compare (.Name _ _) [.Eq] [.Constant (.int 2) _ _] _) [.Assign [.Name _ _] (.BinOp (.BinOp (.Constant (.str _) _ _) .Add (.Call (.Attribute (.Name _ _) "replace" _) [.Constant (.str _) _ _,.Constant (.str _) _ _] [] _) _) .Add (.Constant (.str _) _ _) _) _] [] _,rfl,λhnd=>?_⟩
 intro zc n ρ P ad s Q E y k c hk hy hl hz h;exact aR (kk:=.local) (kt:=.local) (i:=7) (j:=3) (a:=S [10,32,32]) (b:=S [32]) (r:=S [32,32]) (d:=S [10,32,10]) c hnd (by kernel_rfl) rfl (by decide +kernel) (by decide +kernel) hk (by kernel_rfl) rfl (by decide +kernel) (by decide +kernel) hy (by kernel_rfl) rfl (by decide +kernel) (by decide +kernel) (by decide +kernel) (by decide +kernel) (by decide +kernel) (by decide +kernel) hl (by decide +kernel) hz (by decide +kernel) h
theorem oV:∃t xg,(Ra PySem.Challenge.pw_sx_r010_2)[25]?=some t/\NL.names[17]?=some (xg,.local)/\∀{H w mg mb},Pc H w WV K1 mg mb NL xg t:=by
 refine⟨.If (.Call (.Name _ _) [gE (.UnaryOp .Not (.Compare (.Call (.Name _ _) [.Subscript (.Name _ _) (.Constant (.int 2) _ _) _] [] _) [.Is] [.Name _ _] _) _) (.Name _ _) (nE _ _ _ _ _) _ _ _ _ _ _] [] _) [.Return (some (.Constant (.bool false) _ _)) _] [] _,uQ "graphs",rfl,(by kernel_rfl),?_⟩
 intro H w mg mb zc A env s c Pt lg P gvs gs Q E B hL hs hk hg hb hh hroom ca hv hl hr hP hlP hG h;exact wpAny_If (wpAny_isTrue_value (TP (cx':=⟨_,NL.funs,NL.ios,NL.consts⟩) B hL (by decide +kernel) hs hk hg hb hh hroom ca (by decide +kernel) hv hl hr hP hlP hG
   rfl (closureFor_none (by decide +kernel)) (by decide +kernel) (by decide +kernel) rfl rfl (iL (by decide +kernel)) (by decide +kernel) (by decide +kernel) (by decide +kernel) (by decide +kernel) (by decide +kernel) (by decide +kernel) λc' s' k t o g=>xI (yK (h _ s' k t o g))))
theorem cM{H:uP}{w:World}{mg mb:Str->Option Value}{s:tX}(B:kq WV K1 mg mb s.heap)
  {fa a c Pt:Addr}{o:Obj}{pm doc:Value}(ho:s.heap.get? fa=some o)(hdat:o.data=.func (docDef Cn.name Cn.params Cn.body Cn.scope pm (.ref c) doc))(hcd:s.heap.CodeRec (.ref c) Cn.name)(isc:s.heap.IsCode c Pt #[])(tab:s.heap.TableAt c Pt #[])(hPs:Pt≠yY)
  (hbm:∃bm o,mg "__builtins__"=some (.ref bm)/\bm≠wM/\s.heap.get? bm=some o/\o.cls=.type "module"/\o.dict=some wM/\o.data=.plain)
  {Pa:Params}{ns:List Int}{vs:List Value}{wx:List WData}(hW:Well Pa s.heap (.ref a) (.list wx))(hL:s.heap.IsList a vs.toArray)(hI:IntsAre vs ns)(hlen:ns.length<=63):
  zaD (model H w) callerA (.call (.ref fa) ⟨[.ref a],[]⟩) (λr s'=>r=.ok (.ret (.bool true))/\OldK s.heap s'.heap/\s'.os=s.os/\(vT s.gens->vT s'.gens)) s:=by
 obtain⟨t1,e1,H1⟩:=oS;obtain⟨t2,e2,H2⟩:=oU;obtain⟨t3,xg,e3,n17,H3⟩:=oV;exact Rc (cx:=NL) (T:=T) (fd:=Br) (st1:=cW) (st2:=qV) B sR (b5 tr1 qR) rfl (Id oQ).1 rfl rfl ho hdat hcd isc tab hPs hbm hW hL hI hlen
  (aU Cn.body ((congrArg (·[11]?) Ep).trans e1) ((congrArg (·[12]?) Ep).trans e2) ((congrArg (·[25]?) Ep).trans e3))
  lQ lP b6 bH bI (λh=>by have:=aV;rw[h] at this;exact nomatch this) H1 H2 H3
  (λy h=>⟨h 0,by have:=h XF.length;rw[zav] at this;exact this⟩) n17 rfl (by decide +kernel) (Q9 On ns)
end Mine
theorem PySem.Challenge.cw_sx_r010_2_holds : PySem.Challenge.rw_sx_r010_2.Holds := by
  w_on
  refine holds_law (by decide +kernel) fun said => ?_
  refine holds_open (q := Mine.To) (d := Mine.tF) (kwd := []) (loose := [uQ "_keys"]) (Xt := fun s => xlAt Mine.To [] s && recOk (RowW.records (OpenRow.toRowW PySem.Challenge.rw_sx_r010_2.row)) s) (XP := XL Mine.To []) (Yf := Hook.obs (Mine.sS Mine.K1)) (Ya := Hook.val (Mine.sS Mine.K1)) (YP := Hook.says (Mine.sS Mine.K1)) (N := 5000) ?hl (Hook.of (Mine.sS Mine.K1)) (Hook.keeps (Mine.sS Mine.K1)) (fun s e => xl_of s (Bool.and_eq_true_iff.mp e).1) XL.keeps (by kernel_rfl) (by kernel_rfl) (by kernel_rfl) (fun s e => recFacts_of (Bool.and_eq_true_iff.mp e).2) (by rfl) (by first | assumption | decide +kernel) (by decide +kernel) ⟨rfl, rfl, rfl, rfl, rfl, by decide +kernel⟩ ?hw ?hc
  case hl => intro w; kernel_rfl
  case hw => w_witness2
  case hc =>
    intro w s₀ s₁ mg mb G Y fa o pm cd doc dV kV ho hd hcd hD hmg hg args vals as hpre hlay hrd hwl hlo
    have hY : Mine.HE Mine.K1 s₁.heap.get? = true := Y
    refine Ground.open G ?_
    intro T B D TE TW
    have hB : Mine.kq Mine.WV Mine.K1 mg mb s₁.heap :=
      { g := T.g, b := T.b, nolimit := T.nolimit, bi := T.builtins
        fn := fun i fi hi => by
          have hm : fi ∈ Mine.bV := y1 (v9 hi)
          obtain ⟨d, hd', rfl⟩ := List.mem_map.mp hm
          exact T.fn d hd'
        const := Mine.aH T.g hY
        free := Mine.cT T.g hY }
    have hLaw : ∃ o pm c Pt doc, s₁.heap.get? fa = some o ∧ o.data = .func (docDef Mine.Cn.name Mine.Cn.params Mine.Cn.body Mine.Cn.scope pm (.ref c) doc) ∧ s₁.heap.CodeRec (.ref c) Mine.Cn.name ∧ s₁.heap.IsCode c Pt #[] ∧ s₁.heap.TableAt c Pt #[] ∧ Pt ≠ yY := by
      obtain ⟨d, hd', e⟩ := List.mem_map.mp Mine.gO
      obtain ⟨a, o, pm, cd, doc, h1, h2, h3, h4⟩ := T.fn d hd'
      obtain ⟨a', o', fd, c, Pt, g1, g2, g3, g4, g5, g6⟩ := T.tab d hd'
      have ea' : a' = a := by injection wZ (g1.symm.trans h1)
      subst ea'
      rw [h2] at g2
      cases g2
      rw [h3] at g3
      injection g3 with g3
      subst g3
      have g4 : cd = .ref c := g4
      subst g4
      have e1 : d.name = Mine.Cn.name := by rw [← e]; rfl
      rw [e1, Mine.cK] at h1
      have hmg : mg (uQ "law") = some (.ref fa) := hmg
      have ea : a' = fa := by injection wZ (h1.symm.trans hmg)
      refine ⟨o, pm, c, Pt, doc, ea ▸ h2, by rw [h3, ← e]; rfl, by rw [← e1]; exact h4, g5, g6, fun q => ?_⟩
      obtain ⟨mc, ⟨oz, es, ep, z1, z2, _⟩, _⟩ := T.nodigits
      have z3 := g6.2
      rw [q, z1] at z3
      rw [wZ z3] at z2
      exact nomatch z2
    clear hd hcd hD ho
    obtain ⟨o, pm, c, Pt, doc, ho, hdat, hcd, isc, tab, hPs⟩ := hLaw
    have hbm := T.bmain
    wrow_args hpre hlay hrd hwl hlo
    all_goals (
      first | refine callC_kw (enter_call ?_) | refine enter_call ?_ | refine callC_kw (enter_callW ?_) | refine enter_callW ?_ | w_how
      w_top on
      rename_i ns _ _ _ _ _ _ _ a vs _ hL _ hW _ hI _ hle _
      refine codeAny_mono (Mine.cM hB ho hdat hcd isc tab hPs hbm hW hL hI (by omega)) ?_
      intro r s' h
      obtain ⟨rfl, hk, hos, hgn⟩ := h
      refine ⟨xS ⟨_, _, _, rfl, raisesW_false ?_, .bool true, ?_, unshared_nil⟩, hk, hos, hgn (.of_eq hg)⟩
      · wrow_none_raised
      · wrow_post)
