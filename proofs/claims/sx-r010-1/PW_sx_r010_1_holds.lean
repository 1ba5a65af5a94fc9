import PyProof.Rows.All
import PyProof.Claim2
import PyProof.ForAny
import PyProof.StrWalks
import PyProof.CompFree
import PyProof.DictWalks
import PyProof.EqAt
import PyProof.EqKinds
import PyProof.P3Statements
import PyProof.ExcFactsAll.ValueError
import PyProof.StrBlockL
import PyProof.WalksMore
import PyProof.Rows.Catch
import PyProof.StrCalls6
import PyProof.Rows.StrItems
import PyProof.StrLawsTight
import PyProof.Rows.EqDataRows
import Wide.Well
import Open.Head
import OpenK.KWalk
import OpenK.KRaise
import OpenK.KOwn
import Wide.All
import OpenK.AllK
import KE.KIntText
import KE.KDictList
import KE.KSortTup
import Wide.FinOn
import PySem.Challenge.RW_sx_r010_1
set_option Elab.async false
set_option linter.all false
set_option tactic.hygienic false
set_option backward.defeqAttrib.useBackward true
set_option backward.isDefEq.respectTransparency.types false
set_option genSizeOf false
namespace Mine
open PySem
noncomputable abbrev D:=PyData
inductive R(α:Type) where
 |ok(a:α)
 |ve
 |stuck
namespace R
noncomputable def bind{α β:Type}:R α->(α->R β)->R β
 |.ok a,f=>f a
 |.ve,_=>.ve
 |.stuck,_=>.stuck
@[simp] theorem bind_ok{α β:Type}(a:α)(f:α->R β):(R.bind (.ok a) f)=f a:=rfl
@[simp] theorem bind_ve{α β:Type}(f:α->R β):(R.bind .ve f)=.ve:=rfl
@[simp] theorem zuo{α β:Type}(f:α->R β):(R.bind .stuck f)=.stuck:=rfl
end R
theorem qA{a b c:Nat}(h:a<=b)(k:b<=c):a<=c:=Nat.le_trans h k
theorem qB{a b c:Nat}(h:a<=b)(k:b<c):a<c:=Nat.lt_of_le_of_lt h k
theorem qC{a b:Nat}(h:a<b):a<=b:=Nat.le_of_lt h
theorem qD{a b c:Nat}(h:a<b)(k:b<=c):a<c:=Nat.lt_of_lt_of_le h k
noncomputable abbrev OO:D:=.none
theorem bs{x k N:Nat}(h:x<=k)(d:Nat.blt k N=true):x<N:=qB h (Nat.le_of_ble_eq_true d)
theorem bs'{x k N:Nat}(h:x<=k)(d:Nat.ble k N=true):x<=N:=qA h (Nat.le_of_ble_eq_true d)
theorem nn{α:Type}{x:α}{C:Prop}(h:(none:Option α)=some x):C:=nomatch h
theorem sn{α:Type}{x:α}{C:Prop}(h:some x=(none:Option α)):C:=nomatch h
theorem ff{C:Prop}(h:false=true):C:=nomatch h
theorem tf{C:Prop}(h:true=false):C:=nomatch h
theorem an1{a b:Bool}(h:(a&&b)=true):a=true:=by cases a<;>first|rfl|exact ff h
theorem an2{a b:Bool}(h:(a&&b)=true):b=true:=by cases a<;>first|exact h|exact ff h
theorem nt1{a:Bool}(h:(!a)=true):a=false:=by cases a<;>first|rfl|exact ff h
theorem soI{α:Type}{a b:α}(h:some a=some b):a=b:=Option.some.inj h
section
variable{α:Type}{r:α}
theorem ns{C:Prop}(h:(R.stuck:R α)=.ok r):C:=nomatch h
theorem nv{C:Prop}(h:(R.ve:R α)=.ok r):C:=nomatch h
theorem os{C:Prop}(h:R.ok r=.stuck):C:=nomatch h
theorem ov{C:Prop}(h:R.ok r=.ve):C:=nomatch h
theorem sv{C:Prop}(h:(R.stuck:R α)=.ve):C:=nomatch h
theorem vs'{C:Prop}(h:(R.ve:R α)=.stuck):C:=nomatch h
theorem okI{a b:α}(h:R.ok a=.ok b):a=b:=R.ok.inj h
end
set_option genInjectivity false
inductive Lit where
 |none
 |bool(b:Bool)
 |int(i:Int)
 |str(x:Str)
noncomputable def Lit.d:Lit->D
 |.none=>.none
 |.bool b=>.bool b
 |.int i=>.int i
 |.str x=>.str x
inductive Ty where
 |bool
 |int
set_option genCtorIdx false in
inductive Un where
 |not|neg|len|str|int|isNone|notNone
 |isB(b:Bool)|notB (b:Bool)
 |tyIs(t:Ty)|tyNot (t:Ty)
 |keys
inductive Bin where
 |add|sub|mul|mod|fdiv
 |eq|ne|lt|le|gt|ge|mem|nmem
 |idx|upto|from_
 |max|min
inductive Tri where
 |slice
inductive M1 where
 |join|split|count|index
inductive M2 where
 |get
set_option genCtorIdx false in
inductive Tg where
 |one(i:Nat)
 |many(is:List Nat)
set_option genCtorIdx false in
mutual
inductive PE where
 |lit(l:Lit)
 |var(i:Nat)
 |glob(i:Nat)
 |un(o:Un)(a:PE)
 |bin(o:Bin)(a b:PE)
 |tri(o:Tri)(a b c:PE)
 |m1(o:M1)(a b:PE)
 |m2(o:M2)(a b c:PE)
 |and_(a b:PE)
 |or_(a b:PE)
 |ite(c a b:PE)
 |tup(es:PEs)
 |list(es:PEs)
 |call(f:Nat)(es:PEs)
 |comp(caps:List (Option Nat))(rg:Bool)(it:PE)(t:Tg)(g:PG)
inductive PEs where
 |nil
 |cons(a:PE)(r:PEs)
inductive PG where
 |elt(c:PE)(e:PE)
 |more(c:PE)(rg:Bool)(it:PE)(t:Tg)(g:PG)
end
set_option genCtorIdx false in
inductive PS where
 |skip
 |seq(a b:PS)
 |assign(t:Tg)(e:PE)
 |newl(x:Nat)(es:PEs)
 |newd(x:Nat)
 |app(x:Nat)(e:PE)
 |put(x:Nat)(k v:PE)
 |ifs(c:PE)(a b:PS)
 |whil(c:PE)(b:PS)
 |forr(t:Tg)(rg:Bool)(e:PE)(b:PS)
 |ret(e:PE)
 |raise
 |brk
 |cont
 |exp(e:PE)
 |io(f:Nat)(es:PEs)(x:Nat)
 |tryv(b:PS)(x:Nat)(l:Lit)
set_option genInjectivity true
noncomputable abbrev ze:=List D
noncomputable def zp:Nat:=2 ^ 20
noncomputable def zM:D->R Bool
 |.bool b=>.ok b
 |_=>.stuck
theorem zpI:∀(b:Bool),zM (PyData.bool b)=R.ok b:=fun _=>rfl
noncomputable def sub(x:Str)(i j:Nat):Str:=⟨x.cps.extract i j⟩
theorem zcZ{d:D}{C:Prop}(h:zM d=.ve):C:=by
 induction d using PyData.casesOn with
 |bool=>exact ov h
 |_=>exact sv h
theorem bts{β:Type}{x:R D}{k:Bool->R β}(h:R.bind x zM=.stuck):(R.bind x fun y=>R.bind (zM y) k)=.stuck:=by
 induction x using R.casesOn with
 |stuck=>rfl
 |ve=>exact vs' h
 |ok d=>induction d using PyData.casesOn with
  |bool=>exact os h
  |_=>rfl
theorem btt{β γ:Type}{x:R D}{k:Bool->R β}{g:β->R γ}(h:R.bind x zM=.stuck):R.bind (R.bind x fun y=>R.bind (zM y) k) g=.stuck:=by rw[bts h];rfl
noncomputable def onI{α:Type}(f:Int->R α):D->R α
 |.int i=>f i
 |_=>.stuck
noncomputable def onS{α:Type}(f:Str->R α):D->R α
 |.str x=>f x
 |_=>.stuck
noncomputable def onL{α:Type}(f:List D->R α):D->R α
 |.list xs=>f xs
 |_=>.stuck
noncomputable def onT{α:Type}(f:List D->R α):D->R α
 |.tuple xs=>f xs
 |_=>.stuck
noncomputable def on1{α:Type}(f:D->R α):List D->R α
 |[]=>.stuck
 |x::r=>bif r.isEmpty then f x else .stuck
noncomputable def on2{α:Type}(f:D->D->R α):List D->R α
 |[]=>.stuck
 |x::r=>on1 (f x) r
noncomputable def zvJ:D->Bool
 |.int i=>decide (i=0\/i=1)
 |_=>false
noncomputable def zyC:List D->Bool
 |[]=>false
 |x::r=>zvJ x&&r.isEmpty
noncomputable def zmg:List D->Bool
 |[]=>false
 |x::r=>zvJ x&&zyC r
noncomputable def zfN:D->Bool
 |.int i=>decide (0<=i/\i<1000000)
 |.str _=>true
 |.tuple xs=>zmg xs
 |_=>false
noncomputable def eqI(i:Int):D->Bool
 |.int j=>i==j
 |_=>false
noncomputable def eqS(x:Str):D->Bool
 |.str y=>x==y
 |_=>false
noncomputable def zyi:D->D->Bool
 |.int i=>eqI i
 |_=>fun _=>false
noncomputable def znb:List D->List D->Bool
 |[]=>fun ys=>ys.isEmpty
 |x::r=>fun ys=>match ys with
  |[]=>false
  |y::t=>zyi x y&&znb r t
noncomputable def eqT(xs:List D):D->Bool
 |.tuple ys=>znb xs ys
 |_=>false
noncomputable def jS:D->D->Bool
 |.int i=>eqI i
 |.str x=>eqS x
 |.tuple xs=>eqT xs
 |_=>fun _=>false
noncomputable def zaY:D->Nat
 |.int _=>1
 |.str _=>2
 |.tuple _=>3
 |_=>0
noncomputable def zE(a b:D):Bool:=(zaY a==zaY b)&&(zaY a != 0)
noncomputable def kD:List (D×D)->D->Option D
 |[],_=>none
 |(k,v)::r,x=>if jS k x then some v else kD r x
theorem zgy:∀(x k v:D) (r:List (D×D)),kD ((k,v)::r) x=if jS k x=true then some v else kD r x:=fun _ _ _ _=>rfl
noncomputable def zen:List (D×D)->D->D->List (D×D)
 |[],x,y=>[(x,y)]
 |(k,v)::r,x,y=>if jS k x then(k,y)::r else(k,v)::zen r x y
noncomputable def mkS(x:Str):R D:=if x.length<=zp then .ok (.str x) else .stuck
noncomputable def mkL(xs:List D):R D:=if xs.length<=zp then .ok (.list xs) else .stuck
noncomputable def zcX:List (Int×Int):=[(0,0),(0,1),(1,0),(1,1)]
noncomputable def zcC(p:Int×Int):D:=.tuple [.int p.1,.int p.2]
noncomputable def zcF:D->Bool
 |.tuple xs=>zmg xs
 |_=>false
noncomputable def zpQ(kvs:List (D×D)):R D:=
 if kvs.all fun kv=>zcF kv.1 then
  .ok (.list ((zcX.filter fun p=>(kD kvs (zcC p)).isSome).map zcC))
 else .stuck
noncomputable def zkA(x:Str):Option Int:=
 if x=⟨#[48]⟩ then some 0 else if x=⟨#[49]⟩ then some 1 else if x=⟨#[50]⟩ then some 2 else if x=⟨#[49,48]⟩ then some 10 else none
noncomputable def zpc(i:Int):Option Str:=
 if i=0 then some ⟨#[48]⟩ else if i=1 then some ⟨#[49]⟩ else if i=2 then some ⟨#[50]⟩ else if i=10 then some ⟨#[49,48]⟩ else none
noncomputable def zwy:D->Option Int
 |.int i=>some i
 |_=>none
noncomputable def zxL:D->Option Str
 |.str i=>some i
 |_=>none
noncomputable def zaE:List D->Option (List Int)
 |[]=>some []
 |d::r=>(zwy d).bind fun i=>(zaE r).bind fun l=>some (i::l)
noncomputable def zeu:List D->Option (List Str)
 |[]=>some []
 |d::r=>(zxL d).bind fun i=>(zeu r).bind fun l=>some (i::l)
noncomputable def z7{α:Type}:Option α->R α
 |some a=>.ok a
 |none=>.stuck
noncomputable def isNone:D->Bool
 |.none=>true
 |_=>false
noncomputable def zkm:D->Bool
 |.bool _=>true
 |_=>false
noncomputable def zgB:D->Bool
 |.int _=>true
 |_=>false
noncomputable def tyIs:Ty->D->Bool
 |.bool=>zkm
 |.int=>zgB
noncomputable def isDict:D->Bool
 |.dict _=>true
 |_=>false
noncomputable def zrc:D->R D
 |.bool b=>.ok (.bool !b)
 |_=>.stuck
noncomputable def zyG:D->R D:=onI fun i=>.ok (.int (-i))
noncomputable def zdU:D->R D
 |.str x=>.ok (.int x.length)
 |.list xs=>.ok (.int xs.length)
 |.tuple xs=>.ok (.int xs.length)
 |_=>.stuck
noncomputable def zwj:D->R D:=onI fun i=>R.bind (z7 (zpc i)) fun x=>.ok (.str x)
noncomputable def zxN:D->R D:=onS fun x=>R.bind (z7 (zkA x)) fun i=>.ok (.int i)
noncomputable def zvi(b:Bool):D->R D
 |.bool c=>.ok (.bool (c==b))
 |_=>.stuck
noncomputable def zni(b:Bool):D->R D
 |.bool c=>.ok (.bool !(c==b))
 |_=>.stuck
noncomputable def zqv:D->R D
 |.dict kvs=>zpQ kvs
 |_=>.stuck
noncomputable def un:Un->D->R D
 |.not=>zrc
 |.neg=>zyG
 |.len=>zdU
 |.str=>zwj
 |.int=>zxN
 |.isNone=>fun d=>.ok (.bool (isNone d))
 |.notNone=>fun d=>.ok (.bool !(isNone d))
 |.isB b=>zvi b
 |.notB b=>zni b
 |.tyIs t=>fun d=>.ok (.bool (tyIs t d))
 |.tyNot t=>fun d=>.ok (.bool !(tyIs t d))
 |.keys=>zqv
theorem zbS(a:D):un Un.len a=zdU a:=rfl
theorem zxA(d:D):un Un.isNone d=R.ok (PyData.bool (isNone d)):=rfl
noncomputable def deep(a b:D):Bool:=decide (4000<min a.depth b.depth)
noncomputable def zmv(x:D):D->R Bool
 |.list xs=>if isDict x||decide (4000<min (PyData.depthAll xs) x.depth) then .stuck else .ok (xs.any fun y=>PyData.eqv y x)
 |.tuple xs=>if isDict x||decide (4000<min (PyData.depthAll xs) x.depth) then .stuck else .ok (xs.any fun y=>PyData.eqv y x)
 |.str y=>onS (fun z=>if z.length=1 then .ok (y.cps.contains (z.cps.getD 0 0)) else .stuck) x
 |.dict kvs=>if zfN x&&(kvs.all fun kv=>zE kv.1 x) then .ok (kD kvs x).isSome else .stuck
 |_=>.stuck
noncomputable def z9:List Int->List Int->Bool
 |_,[]=>false
 |[],_::_=>true
 |i::r,j::t=>if i=j then z9 r t else decide (i<j)
theorem zvh:∀(head:Int) (tail:List Int),z9 [] (head::tail)=true:=fun _ _=>rfl
theorem zjI:∀(i:Int) (r:List Int) (j:Int) (t:List Int),z9 (i::r) (j::t)=if i=j then z9 r t else decide (i<j):=fun _ _ _ _=>rfl
noncomputable def zxI(i j:Int)(xs ys:List D):R Bool:=R.bind (z7 (zaE xs)) fun a=>R.bind (z7 (zaE ys)) fun b=>.ok (if i=j then z9 a b else decide (i<j))
noncomputable def zyj(xs ys:List D):R Bool:=on2 (fun p q=>onI (fun i=>onL (fun a=>on2 (fun p' q'=>onI (fun j=>onL (fun b=>zxI i j a b) q') p') ys) q) p) xs
noncomputable def zoh:D->D->R Bool
 |.int i=>onI fun j=>.ok (decide (i<j))
 |.tuple xs=>onT fun ys=>zyj xs ys
 |_=>fun _=>.stuck
noncomputable def zea(i:Int):Bool:=decide (i.natAbs<2 ^ 60)
noncomputable def mkT(xs ys:List D):R D:=if xs.length+ys.length<=zp then .ok (.tuple (xs++ys)) else .stuck
noncomputable def zdx:D->D->R D
 |.int i=>onI fun j=>.ok (.int (i+j))
 |.str x=>onS fun y=>mkS (x++y)
 |.list xs=>onL fun ys=>mkL (xs++ys)
 |.tuple xs=>onT fun ys=>mkT xs ys
 |_=>fun _=>.stuck
noncomputable def zfw{α:Type}(f:Int->Int->R α)(a b:D):R α:=onI (fun i=>onI (f i) b) a
noncomputable def zrk:D->D->R D:=zfw fun i j=>.ok (.int (i - j))
noncomputable def zeG:D->D->R D
 |.int i=>onI fun j=>if zea i&&zea j then .ok (.int (i*j)) else .stuck
 |.list xs=>onI fun j=>on1 (fun x=>if 0<=j/\j<=4 then .ok (.list (List.replicate j.toNat x)) else .stuck) xs
 |_=>fun _=>.stuck
noncomputable def zh7:D->D->R D:=zfw fun i j=>if 0<j then .ok (.int (i % j)) else .stuck
noncomputable def ztr:D->D->R D:=zfw fun i j=>if 0<j/\j<1000 then .ok (.int (i / j)) else .stuck
noncomputable def eqD(a b:D):R D:=if isDict a||isDict b||deep a b then .stuck else .ok (.bool (PyData.eqv a b))
noncomputable def neD(a b:D):R D:=if isDict a||isDict b||deep a b then .stuck else .ok (.bool !(PyData.eqv a b))
noncomputable def ltD(a b:D):R D:=R.bind (zoh a b) fun c=>.ok (.bool c)
noncomputable def gtD:D->D->R D:=zfw fun i j=>.ok (.bool (decide (j<i)))
noncomputable def leD:D->D->R D:=zfw fun i j=>.ok (.bool (decide (i<=j)))
noncomputable def geD:D->D->R D:=zfw fun i j=>.ok (.bool (decide (j<=i)))
noncomputable def inD(a b:D):R D:=R.bind (zmv a b) fun c=>.ok (.bool c)
noncomputable def zbR(a b:D):R D:=if isDict b then .stuck else R.bind (zmv a b) fun c=>.ok (.bool !c)
noncomputable def nth(xs:List D):Int->R D
 |.ofNat k=>z7 xs[k]?
 |.negSucc k=>z7 ((seqIndex? (.negSucc k) xs.length).bind (xs[·]?))
noncomputable def zs0(x:Str):Int->R Nat
 |.ofNat k=>z7 x.cps.toList[k]?
 |.negSucc k=>z7 ((seqIndex? (.negSucc k) x.length).bind (x.cps[·]?))
noncomputable def jg:D->D->R D
 |.list xs=>onI (nth xs)
 |.tuple xs=>onI (nth xs)
 |.str x=>onI fun i=>R.bind (zs0 x i) fun c=>.ok (.str ⟨#[c]⟩)
 |.dict kvs=>fun k=>if zfN k then z7 (kD kvs k) else .stuck
 |_=>fun _=>.stuck
noncomputable def zli(x:Str)(i:Int):R D:=if 0<=i then .ok (.str (sub x 0 (min i.toNat x.length))) else if i=-1/\1<=x.length then .ok (.str (sub x 0 (x.length - 1))) else .stuck
noncomputable def zk9:D->D->R D
 |.list xs=>onI fun i=>if 0<=i then .ok (.list (xs.take i.toNat)) else .stuck
 |.str x=>onI (zli x)
 |_=>fun _=>.stuck
noncomputable def ziA:D->D->R D
 |.list xs=>onI fun i=>if 0<=i then .ok (.list (xs.drop i.toNat)) else .stuck
 |.str x=>onI fun i=>if 0<=i/\i<=x.length then .ok (.str (sub x i.toNat x.length)) else .stuck
 |_=>fun _=>.stuck
noncomputable def zwk:D->D->R D:=zfw fun i j=>.ok (.int (max i j))
noncomputable def zuY:D->D->R D:=zfw fun i j=>.ok (.int (min i j))
noncomputable def zwv(x:Str)(ts:List Str):R D:=if(ts.map (·.length)).sum+ts.length*x.length<=zp then .ok (.str (Txt.join x ts)) else .stuck
noncomputable def zei(a b:D):R D:=onS (fun x=>onL (fun ys=>R.bind (z7 (zeu ys)) (zwv x)) b) a
noncomputable def zjv(a b:D):R D:=onS (fun x=>onS (fun y=>if y.length=1/\x.length<zp then .ok (.list ((Txt.split x y).map .str)) else .stuck) b) a
noncomputable def zoD(a b:D):R D:=onS (fun x=>onS (fun y=>if y.length=1 then .ok (.int (Txt.count x y)) else .stuck) b) a
noncomputable def zu0(y:Str)(ts:List Str):R D:=if ts.contains y then .ok (.int (ts.idxOf y)) else .stuck
noncomputable def zdX(a b:D):R D:=onL (fun xs=>onS (fun y=>R.bind (z7 (zeu xs)) (zu0 y)) b) a
noncomputable def bin:Bin->D->D->R D
 |.add=>zdx
 |.sub=>zrk
 |.mul=>zeG
 |.mod=>zh7
 |.fdiv=>ztr
 |.eq=>eqD
 |.ne=>neD
 |.lt=>ltD
 |.gt=>gtD
 |.le=>leD
 |.ge=>geD
 |.mem=>inD
 |.nmem=>zbR
 |.idx=>jg
 |.upto=>zk9
 |.from_=>ziA
 |.max=>zwk
 |.min=>zuY
theorem zdO(a b:D):bin Bin.add a b=zdx a b:=rfl
theorem zjQ(a b:D):bin Bin.sub a b=zrk a b:=rfl
theorem zoj(a b:D):bin Bin.mul a b=zeG a b:=rfl
theorem zju(a b:D):bin Bin.mod a b=zh7 a b:=rfl
theorem jo(a b:D):bin Bin.eq a b=eqD a b:=rfl
theorem zp0(a b:D):bin Bin.ne a b=neD a b:=rfl
theorem zbJ(a b:D):bin Bin.lt a b=ltD a b:=rfl
theorem zhb(a b:D):bin Bin.le a b=leD a b:=rfl
theorem zdq(a b:D):bin Bin.ge a b=geD a b:=rfl
theorem zte(a b:D):bin Bin.mem a b=inD a b:=rfl
theorem kT(a b:D):bin Bin.nmem a b=zbR a b:=rfl
theorem zR(a b:D):bin Bin.idx a b=jg a b:=rfl
theorem zeE(a b:D):bin Bin.from_ a b=ziA a b:=rfl
noncomputable def zeZ:D->Bool
 |.str _=>true
 |_=>false
noncomputable def kR:D->Bool
 |.list _=>true
 |_=>false
noncomputable def zmE:M1->D->Bool
 |.join=>zeZ
 |.split=>zeZ
 |.count=>zeZ
 |.index=>kR
noncomputable def zf8:M1->D->D->R D
 |.join=>zei
 |.split=>zjv
 |.count=>zoD
 |.index=>zdX
noncomputable def zuz(x:Str)(i j:Int):R D:=if 0<=i/\i<=j/\j<=x.length then .ok (.str (sub x i.toNat j.toNat)) else .stuck
noncomputable def zgr(a b c:D):R D:=onS (fun x=>onI (fun i=>onI (fun j=>zuz x i j) c) b) a
noncomputable def zm4:D->D->D->R D
 |.dict kvs=>fun k v=>if zfN k&&!isDict v&&(kvs.all fun kv=>zE kv.1 k) then .ok ((kD kvs k).getD v) else .stuck
 |_=>fun _ _=>.stuck
noncomputable def tri:Tri->D->D->D->R D
 |.slice=>zgr
noncomputable def zpp:M2->D->Bool
 |.get=>isDict
noncomputable def zie:M2->D->D->D->R D
 |.get=>zm4
noncomputable def noVe{α:Type}:R α->R α
 |.ok a=>.ok a
 |_=>.stuck
noncomputable def zus:D->R (List D)
 |.list xs=>.ok xs
 |.tuple xs=>.ok xs
 |.str x=>.ok (x.cps.toList.map fun c=>.str ⟨#[c]⟩)
 |.dict kvs=>if(kvs.all fun kv=>zgB kv.1) then .ok (kvs.map (·.1)) else .stuck
 |_=>.stuck
noncomputable def zG:Bool->D->R (List D)
 |false=>zus
 |true=>onI fun i=>if 0<=i/\i<=zp then .ok ((List.range i.toNat).map fun(k:Nat)=>PyData.int k) else .stuck
noncomputable def zzf(ρ:ze)(i:Nat)(d:D):ze:=ρ.set i d
noncomputable def jE:ze->List Nat->List D->R ze
 |ρ,[],[]=>.ok ρ
 |ρ,i::is,d::ds=>jE (ρ.set i d) is ds
 |_,_,_=>.stuck
theorem ztw:∀(x:ze) (i:Nat) (is:List Nat) (d:D) (ds:List D),jE x (i::is) (d::ds)=jE (List.set x i d) is ds:=fun _ _ _ _ _=>rfl
noncomputable def ja(ρ:ze):Tg->D->R ze
 |.one i,d=>.ok (ρ.set i d)
 |.many is,.tuple ds=>jE ρ is ds
 |.many _,_=>.stuck
theorem zxT:∀(ρ:ze) (is:List Nat) (ds:List PyData),ja ρ (Tg.many is) (PyData.tuple ds)=jE ρ is ds:=fun _ _ _=>rfl
noncomputable def zr(ρ:ze)(i:Nat):D:=ρ.getD i .none
noncomputable def jU(turn:ze->D->R (List D×ze)):ze->List D->R (List D×ze)
 |σ,[]=>.ok ([],σ)
 |σ,d::ds=>R.bind (turn σ d) fun r=>R.bind (jU turn r.2 ds) fun q=>.ok (r.1++q.1,q.2)
theorem ztY:∀(turn:ze->D->R (List D×ze)) (x:ze) (d:D) (ds:List D),jU turn x (d::ds)=(turn x d).bind fun(r:List D×ze)=>(jU turn r.snd ds).bind fun(q:List D×ze)=>R.ok (r.fst++q.fst,q.snd):=fun _ _ _ _=>rfl
mutual
noncomputable def ev(G:List D)(cf:Nat->List D->R D):PE->ze->R D
 |.lit l,_=>.ok l.d
 |.var i,ρ=>.ok (zr ρ i)
 |.glob i,_=>.ok (G.getD i .none)
 |.un o a,ρ=>R.bind (ev G cf a ρ) (un o)
 |.bin o a b,ρ=>R.bind (ev G cf a ρ) fun x=>R.bind (ev G cf b ρ) fun y=>bin o x y
 |.tri o a b c,ρ=>R.bind (ev G cf a ρ) fun x=>R.bind (ev G cf b ρ) fun y=>R.bind (ev G cf c ρ) fun z=>tri o x y z
 |.m1 o a b,ρ=>R.bind (ev G cf a ρ) fun x=>if zmE o x then R.bind (ev G cf b ρ) fun y=>zf8 o x y else .stuck
 |.m2 o a b c,ρ=>R.bind (ev G cf a ρ) fun x=>if zpp o x then R.bind (ev G cf b ρ) fun y=>R.bind (ev G cf c ρ) fun z=>zie o x y z else .stuck
 |.and_ a b,ρ=>R.bind (ev G cf a ρ) fun x=>R.bind (zM x) fun t=>if t then R.bind (ev G cf b ρ) fun y=>R.bind (zM y) fun u=>.ok (.bool u) else .ok (.bool false)
 |.or_ a b,ρ=>R.bind (ev G cf a ρ) fun x=>R.bind (zM x) fun t=>if t then .ok (.bool true) else R.bind (ev G cf b ρ) fun y=>R.bind (zM y) fun u=>.ok (.bool u)
 |.ite c a b,ρ=>R.bind (ev G cf c ρ) fun x=>R.bind (zM x) fun t=>if t then ev G cf a ρ else ev G cf b ρ
 |.tup es,ρ=>R.bind (evs G cf es ρ) fun ds=>if ds.any isDict then .stuck else .ok (.tuple ds)
 |.list es,ρ=>R.bind (evs G cf es ρ) fun ds=>if ds.any isDict then .stuck else .ok (.list ds)
 |.call f es,ρ=>R.bind (evs G cf es ρ) fun ds=>cf f ds
 |.comp caps rg it t g,ρ=>noVe <| R.bind (ev G cf it ρ) fun x=>R.bind (zG rg x) fun xs=>
   R.bind (jU (fun σ d=>R.bind (ja σ t d) fun σ'=>evG G cf g σ') (caps.map fun c=>match c with|some i=>zr ρ i|none=>.none) xs) fun r=>
    if r.1.length<=zp then .ok (.list r.1) else .stuck
noncomputable def evs(G:List D)(cf:Nat->List D->R D):PEs->ze->R (List D)
 |.nil,_=>.ok []
 |.cons a r,ρ=>R.bind (ev G cf a ρ) fun x=>R.bind (evs G cf r ρ) fun xs=>.ok (x::xs)
noncomputable def evG(G:List D)(cf:Nat->List D->R D):PG->ze->R (List D×ze)
 |.elt c e,σ=>R.bind (ev G cf c σ) fun x=>R.bind (zM x) fun t=>if t then R.bind (ev G cf e σ) fun d=>if isDict d then .stuck else .ok ([d],σ) else .ok ([],σ)
 |.more c rg it t g,σ=>R.bind (ev G cf c σ) fun x=>R.bind (zM x) fun b=>if b then
   R.bind (ev G cf it σ) fun y=>R.bind (zG rg y) fun ys=>jU (fun τ d=>R.bind (ja τ t d) fun τ'=>evG G cf g τ') σ ys
  else .ok ([],σ)
end
inductive Fl where
 |next|brk|cont
 |ret(d:D)
noncomputable def zbF(test:ze->R Bool)(body:ze->R (Fl×ze)):Nat->ze->R (Fl×ze)
 |0,_=>.stuck
 |n+1,ρ=>R.bind (test ρ) fun t=>if t then R.bind (body ρ) fun r=>match r.1 with
   |.next|.cont=>zbF test body n r.2
   |.brk=>.ok (.next,r.2)
   |.ret d=>.ok (.ret d,r.2)
  else .ok (.next,ρ)
theorem zxz:∀(test:ze->R Bool) (body:ze->R (Fl×ze)) (x:ze) (n:Nat),zbF test body (n+1) x=(test x).bind fun(t:Bool)=>if t=true then(body x).bind fun(r:Fl×ze)=>match r.fst with|Fl.next=>zbF test body n r.snd|Fl.cont=>zbF test body n r.snd|Fl.brk=>R.ok (Fl.next,r.snd)|Fl.ret d=>R.ok (Fl.ret d,r.snd) else R.ok (Fl.next,x):=fun _ _ _ _=>rfl
noncomputable def zab(bd:ze->D->R ze)(body:ze->R (Fl×ze)):List D->ze->R (Fl×ze)
 |[],ρ=>.ok (.next,ρ)
 |d::ds,ρ=>R.bind (bd ρ d) fun ρ'=>R.bind (body ρ') fun r=>match r.1 with
   |.next|.cont=>zab bd body ds r.2
   |.brk=>.ok (.next,r.2)
   |.ret v=>.ok (.ret v,r.2)
theorem zxX:∀(bd:ze->D->R ze) (body:ze->R (Fl×ze)) (x:ze),zab bd body [] x=R.ok (Fl.next,x):=fun _ _ _=>rfl
theorem zwE:∀(bd:ze->D->R ze) (body:ze->R (Fl×ze)) (x:ze) (d:D) (ds:List D),zab bd body (d::ds) x=(bd x d).bind fun(ρ':ze)=>(body ρ').bind fun(r:Fl×ze)=>match r.fst with|Fl.next=>zab bd body ds r.snd|Fl.cont=>zab bd body ds r.snd|Fl.brk=>R.ok (Fl.next,r.snd)|Fl.ret v=>R.ok (Fl.ret v,r.snd):=fun _ _ _ _ _=>rfl
noncomputable def zfG(d:D)(x:D):R D:=match d with
 |.list xs=>if isDict x||decide (zp<=xs.length) then .stuck else .ok (.list (xs++[x]))
 |_=>.stuck
noncomputable def zbL(d k v:D):R D:=match d with
 |.dict kvs=>if zfN k&&!isDict v&&decide (kvs.length<zp)&&(kvs.all fun kv=>zE kv.1 k) then .ok (.dict (zen kvs k v)) else .stuck
 |_=>.stuck
noncomputable def exec(G:List D)(cf cio:Nat->List D->R D)(wf:Nat):PS->ze->R (Fl×ze)
 |.skip,ρ=>.ok (.next,ρ)
 |.seq a b,ρ=>R.bind (exec G cf cio wf a ρ) fun r=>match r.1 with
  |.next=>exec G cf cio wf b r.2
  |f=>.ok (f,r.2)
 |.assign t e,ρ=>R.bind (ev G cf e ρ) fun d=>R.bind (ja ρ t d) fun ρ'=>.ok (.next,ρ')
 |.newl x es,ρ=>R.bind (evs G cf es ρ) fun ds=>if ds.any isDict then .stuck else .ok (.next,ρ.set x (.list ds))
 |.newd x,ρ=>.ok (.next,ρ.set x (.dict []))
 |.app x e,ρ=>if kR (zr ρ x) then R.bind (ev G cf e ρ) fun d=>R.bind (zfG (zr ρ x) d) fun l=>.ok (.next,ρ.set x l) else .stuck
 |.put x k v,ρ=>R.bind (ev G cf v ρ) fun d=>R.bind (ev G cf k ρ) fun i=>R.bind (zbL (zr ρ x) i d) fun l=>.ok (.next,ρ.set x l)
 |.ifs c a b,ρ=>R.bind (ev G cf c ρ) fun x=>R.bind (zM x) fun t=>if t then exec G cf cio wf a ρ else exec G cf cio wf b ρ
 |.whil c b,ρ=>zbF (fun σ=>R.bind (ev G cf c σ) zM) (fun σ=>exec G cf cio wf b σ) wf ρ
 |.forr t rg e b,ρ=>R.bind (ev G cf e ρ) fun x=>R.bind (zG rg x) fun xs=>zab (fun σ d=>ja σ t d) (fun σ=>exec G cf cio wf b σ) xs ρ
 |.ret e,ρ=>R.bind (ev G cf e ρ) fun d=>.ok (.ret d,ρ)
 |.raise,_=>.ve
 |.brk,ρ=>.ok (.brk,ρ)
 |.cont,ρ=>.ok (.cont,ρ)
 |.exp e,ρ=>R.bind (ev G cf e ρ) fun _=>.ok (.next,ρ)
 |.io f es x,ρ=>R.bind (evs G cf es ρ) fun ds=>R.bind (noVe (cio f (ds++[zr ρ x]))) fun d=>.ok (.next,ρ.set x d)
 |.tryv b x l,ρ=>match exec G cf cio wf b ρ with
  |.ve=>.ok (.next,ρ.set x l.d)
  |r=>r
structure zL where
 np:Nat
 nv:Nat
 io:Bool
 body:PS
noncomputable def za9(T:List zL)(f:Nat):Bool:=match T[f]? with|some fd=>fd.io|none=>false
noncomputable def zb3(G:List D)(T:List zL)(wf:Nat):Nat->Nat->List D->R (D×D)
 |0,_,_=>.stuck
 |n+1,f,args=>match T[f]? with
  |none=>.stuck
  |some fd=>if args.length=fd.np then
    R.bind (exec G (fun g as=>if za9 T g then .stuck else R.bind (zb3 G T wf n g as) fun r=>.ok r.1) (fun g as=>if za9 T g then R.bind (zb3 G T wf n g as) fun r=>.ok r.2 else .stuck) wf fd.body (args++List.replicate (fd.nv - fd.np) .none)) fun r=>
     match r.1 with
     |.ret d=>.ok (d,zr r.2 (fd.np - 1))
     |.next=>.ok (.none,zr r.2 (fd.np - 1))
     |_=>.stuck
   else .stuck
theorem zkG:∀(G:List D) (T:List zL) (wf x:Nat) (x_1:List D) (n:Nat),zb3 G T wf (n+1) x x_1=match T[x]? with|none=>R.stuck|some fd=>if x_1.length=fd.np then(exec G (fun(g:Nat) (as:List D)=>if za9 T g=true then R.stuck else(zb3 G T wf n g as).bind fun(r:D×D)=>R.ok r.fst) (fun(g:Nat) (as:List D)=>if za9 T g=true then(zb3 G T wf n g as).bind fun(r:D×D)=>R.ok r.snd else R.stuck) wf fd.body (x_1++List.replicate (fd.nv - fd.np) PyData.none)).bind fun(r:Fl×ze)=>match r.fst with|Fl.ret d=>R.ok (d,zr r.snd (fd.np - 1))|Fl.next=>R.ok (PyData.none,zr r.snd (fd.np - 1))|x=>R.stuck else R.stuck:=fun _ _ _ _ _ _=>rfl
noncomputable def zd(G:List D)(T:List zL)(wf n f:Nat)(args:List D):R D:=if za9 T f then .stuck else R.bind (zb3 G T wf n f args) fun r=>.ok r.1
noncomputable def zk(G:List D)(T:List zL)(wf n f:Nat)(args:List D):R D:=if za9 T f then R.bind (zb3 G T wf n f args) fun r=>.ok r.2 else .stuck
section rules
variable{G:List D}{cf cio:Nat->List D->R D}{wf:Nat}{ρ:ze}
theorem zk8{o:Un}{a:PE}:ev G cf (.un o a) ρ=R.bind (ev G cf a ρ) (un o):=rfl
theorem zv6{o:Bin}{a b:PE}:ev G cf (.bin o a b) ρ=R.bind (ev G cf a ρ) fun x=>R.bind (ev G cf b ρ) fun y=>bin o x y:=rfl
theorem zvq{o:Tri}{a b c:PE}:ev G cf (.tri o a b c) ρ=R.bind (ev G cf a ρ) fun x=>R.bind (ev G cf b ρ) fun y=>R.bind (ev G cf c ρ) fun z=>tri o x y z:=rfl
theorem zwI{o:M1}{a b:PE}:ev G cf (.m1 o a b) ρ=R.bind (ev G cf a ρ) fun x=>if zmE o x then R.bind (ev G cf b ρ) fun y=>zf8 o x y else .stuck:=rfl
theorem zwR{o:M2}{a b c:PE}:ev G cf (.m2 o a b c) ρ=R.bind (ev G cf a ρ) fun x=>if zpp o x then R.bind (ev G cf b ρ) fun y=>R.bind (ev G cf c ρ) fun z=>zie o x y z else .stuck:=rfl
theorem zpq{a b:PE}:ev G cf (.and_ a b) ρ=R.bind (ev G cf a ρ) fun x=>R.bind (zM x) fun t=>if t then R.bind (ev G cf b ρ) fun y=>R.bind (zM y) fun u=>.ok (.bool u) else .ok (.bool false):=rfl
theorem zt7{a b:PE}:ev G cf (.or_ a b) ρ=R.bind (ev G cf a ρ) fun x=>R.bind (zM x) fun t=>if t then .ok (.bool true) else R.bind (ev G cf b ρ) fun y=>R.bind (zM y) fun u=>.ok (.bool u):=rfl
theorem zp1{c a b:PE}:ev G cf (.ite c a b) ρ=R.bind (ev G cf c ρ) fun x=>R.bind (zM x) fun t=>if t then ev G cf a ρ else ev G cf b ρ:=rfl
theorem zvC{es:PEs}:ev G cf (.tup es) ρ=R.bind (evs G cf es ρ) fun ds=>if ds.any isDict then .stuck else .ok (.tuple ds):=rfl
theorem zsG{es:PEs}:ev G cf (.list es) ρ=R.bind (evs G cf es ρ) fun ds=>if ds.any isDict then .stuck else .ok (.list ds):=rfl
theorem zs9{f:Nat}{es:PEs}:ev G cf (.call f es) ρ=R.bind (evs G cf es ρ) fun ds=>cf f ds:=rfl
theorem zvE:evs G cf .nil ρ=.ok []:=rfl
theorem zhe{a:PE}{r:PEs}:evs G cf (.cons a r) ρ=R.bind (ev G cf a ρ) fun x=>R.bind (evs G cf r ρ) fun xs=>.ok (x::xs):=rfl
theorem zuC{a b:PS}:exec G cf cio wf (.seq a b) ρ=R.bind (exec G cf cio wf a ρ) fun r=>match r.1 with|.next=>exec G cf cio wf b r.2|f=>.ok (f,r.2):=rfl
theorem zb7{t:Tg}{e:PE}:exec G cf cio wf (.assign t e) ρ=R.bind (ev G cf e ρ) fun d=>R.bind (ja ρ t d) fun ρ'=>.ok (.next,ρ'):=rfl
theorem zsR{x:Nat}{es:PEs}:exec G cf cio wf (.newl x es) ρ=R.bind (evs G cf es ρ) fun ds=>if ds.any isDict then .stuck else .ok (.next,ρ.set x (.list ds)):=rfl
theorem zsW{x:Nat}:exec G cf cio wf (.newd x) ρ=.ok (.next,ρ.set x (.dict [])):=rfl
theorem zvo{x:Nat}{e:PE}:exec G cf cio wf (.app x e) ρ=if kR (zr ρ x) then R.bind (ev G cf e ρ) fun d=>R.bind (zfG (zr ρ x) d) fun l=>.ok (.next,ρ.set x l) else .stuck:=rfl
theorem zuj{x:Nat}{k v:PE}:exec G cf cio wf (.put x k v) ρ=R.bind (ev G cf v ρ) fun d=>R.bind (ev G cf k ρ) fun i=>R.bind (zbL (zr ρ x) i d) fun l=>.ok (.next,ρ.set x l):=rfl
theorem zvT{c:PE}{a b:PS}:exec G cf cio wf (.ifs c a b) ρ=R.bind (ev G cf c ρ) fun x=>R.bind (zM x) fun t=>if t then exec G cf cio wf a ρ else exec G cf cio wf b ρ:=rfl
theorem zrL{c:PE}{b:PS}:exec G cf cio wf (.whil c b) ρ=zbF (fun σ=>R.bind (ev G cf c σ) zM) (fun σ=>exec G cf cio wf b σ) wf ρ:=rfl
theorem zta{t:Tg}{rg:Bool}{e:PE}{b:PS}:exec G cf cio wf (.forr t rg e b) ρ=R.bind (ev G cf e ρ) fun x=>R.bind (zG rg x) fun xs=>zab (fun σ d=>ja σ t d) (fun σ=>exec G cf cio wf b σ) xs ρ:=rfl
theorem zuU{e:PE}:exec G cf cio wf (.ret e) ρ=R.bind (ev G cf e ρ) fun d=>.ok (.ret d,ρ):=rfl
theorem zpv{e:PE}:exec G cf cio wf (.exp e) ρ=R.bind (ev G cf e ρ) fun _=>.ok (.next,ρ):=rfl
theorem zwx{f x:Nat}{es:PEs}:exec G cf cio wf (.io f es x) ρ=R.bind (evs G cf es ρ) fun ds=>R.bind (noVe (cio f (ds++[zr ρ x]))) fun d=>.ok (.next,ρ.set x d):=rfl
theorem zfd{b:PS}{x:Nat}{l:Lit}:exec G cf cio wf (.tryv b x l) ρ=match exec G cf cio wf b ρ with|.ve=>.ok (.next,ρ.set x l.d)|r=>r:=rfl
end rules
end Mine
namespace Mine
open PySem PyProof.Rows
mutual
inductive Rep(P:Addr->Prop)(h:Heap):Value->D->Prop
 |none:Rep P h .none .none
 |bool(b:Bool):Rep P h (.bool b) (.bool b)
 |int(i:Int)(t:Tok):Rep P h (.int i t) (.int i)
 |str(x:Str)(t:Tok):PyData.strOk x=true->x.length<=zp->Rep P h (.str x t) (.str x)
 |list{a:Addr}{o:Obj}{vs:Array Value}{n:Nat}{xs:List D}:P a->h.get? a=some o->o.cls=.type "list"->o.dict=none->o.data=.seq vs n->
   zi P h vs.toList xs->xs.length<=zp->Rep P h (.ref a) (.list xs)
 |tuple{a:Addr}{o:Obj}{vs:Array Value}{n:Nat}{xs:List D}:P a->h.get? a=some o->o.cls=.type "tuple"->o.data=.seq vs n->
   zi P h vs.toList xs->xs.length<=zp->Rep P h (.ref a) (.tuple xs)
inductive zi(P:Addr->Prop)(h:Heap):List Value->List D->Prop
 |nil:zi P h [] []
 |cons{v:Value}{vs:List Value}{d:D}{ds:List D}:Rep P h v d->zi P h vs ds->zi P h (v::vs) (d::ds)
end
noncomputable def zc4(P:Addr->Prop)(h h':Heap):Prop:=∀a o,P a->h.get? a=some o->∃o',h'.get? a=some o'/\o'.cls=o.cls/\o'.dict=o.dict/\o'.data=o.data
section
variable{P P':Addr->Prop}{h h':Heap}
theorem zc4.refl:zc4 P h h:=fun _ o _ e=>⟨o,e,rfl,rfl,rfl⟩
theorem zc4.of_keep(k:∀a o,h.get? a=some o->h'.get? a=some o):zc4 P h h':=fun a o _ e=>⟨o,k a o e,rfl,rfl,rfl⟩
theorem zc4.trans{h₂:Heap}(x:zc4 P h h')(y:zc4 P h' h₂):zc4 P h h₂:=fun a o p e=>by
 obtain⟨o',e',c1,c2,c3⟩:=x a o p e;obtain⟨o₂,e₂,d1,d2,d3⟩:=y a o' p e';exact⟨o₂,e₂,d1.trans c1,d2.trans c2,d3.trans c3⟩
theorem zc4.sub(x:zc4 P' h h')(hp:∀a,P a->P' a):zc4 P h h':=fun a o p e=>x a o (hp a p) e
theorem zkZ(hp:∀a,P a->P' a)(hs:zc4 P h h'):(∀{v:Value} {d:D},Rep P h v d->Rep P' h' v d)/\∀{vs:List Value} {ds:List D},zi P h vs ds->zi P' h' vs ds:=by
 constructor
 all_goals intro v d x
 ·refine Rep.rec (motive_1:=fun v d _=>Rep P' h' v d) (motive_2:=fun vs ds _=>zi P' h' vs ds) .none .bool .int .str ?_ ?_ .nil (fun _ _ a r=>.cons a r) x
  ·intro a o vs n xs p ho hc hd hda _ hz r;obtain⟨o',e',c1,c2,c3⟩:=hs _ o p ho;exact .list (hp _ p) e' (c1.trans hc) (c2.trans hd) (c3.trans hda) r hz
  ·intro a o vs n xs p ho hc hda _ hz r;obtain⟨o',e',c1,c2,c3⟩:=hs _ o p ho;exact .tuple (hp _ p) e' (c1.trans hc) (c3.trans hda) r hz
 ·refine zi.rec (motive_1:=fun v d _=>Rep P' h' v d) (motive_2:=fun vs ds _=>zi P' h' vs ds) .none .bool .int .str ?_ ?_ .nil (fun _ _ a r=>.cons a r) x
  ·intro a o vs n xs p ho hc hd hda _ hz r;obtain⟨o',e',c1,c2,c3⟩:=hs _ o p ho;exact .list (hp _ p) e' (c1.trans hc) (c2.trans hd) (c3.trans hda) r hz
  ·intro a o vs n xs p ho hc hda _ hz r;obtain⟨o',e',c1,c2,c3⟩:=hs _ o p ho;exact .tuple (hp _ p) e' (c1.trans hc) (c3.trans hda) r hz
theorem Rep.mono(hp:∀a,P a->P' a)(hs:zc4 P h h'){v:Value}{d:D}(x:Rep P h v d):Rep P' h' v d:=(zkZ hp hs).1 x
theorem zi.mono(hp:∀a,P a->P' a)(hs:zc4 P h h'){vs:List Value}{ds:List D}(x:zi P h vs ds):zi P' h' vs ds:=(zkZ hp hs).2 x
theorem Rep.keep(k:∀a o,h.get? a=some o->h'.get? a=some o){v:Value}{d:D}(x:Rep P h v d):Rep P h' v d:=x.mono (fun _ p=>p) (.of_keep k)
theorem zi.keep(k:∀a o,h.get? a=some o->h'.get? a=some o){v:List Value}{d:List D}(x:zi P h v d):zi P h' v d:=x.mono (fun _ p=>p) (.of_keep k)
theorem Rep.sub(hp:∀a,P a->P' a){v:Value}{d:D}(x:Rep P h v d):Rep P' h v d:=x.mono hp .refl
theorem zi.sub(hp:∀a,P a->P' a){v:List Value}{d:List D}(x:zi P h v d):zi P' h v d:=x.mono hp .refl
theorem Rep.reads{v:Value}{d:D}(r:Rep P h v d):∃as,Reads h v d as:=
 Rep.rec (motive_1:=fun v d _=>∃as,Reads h v d as) (motive_2:=fun vs ds _=>∃as,ReadsAll h vs ds as) ⟨_,.none⟩ (fun b=>⟨_,.bool b⟩) (fun i t=>⟨_,.int i t⟩) (fun x t _ _=>⟨_,.str x t⟩)
  (fun _ ho hc _ hda _ _ ih=>ih.elim fun _ q=>⟨_,.list ho hc hda q⟩) (fun _ ho hc hda _ _ ih=>ih.elim fun _ q=>⟨_,.tuple ho hc hda q⟩) ⟨_,.nil⟩ (fun _ _ ia ir=>ia.elim fun _ q=>ir.elim fun _ p=>⟨_,.cons q p⟩) r
theorem zi.reads{vs:List Value}{ds:List D}(r:zi P h vs ds):∃as,ReadsAll h vs ds as:=
 zi.rec (motive_1:=fun _ _ _=>True) (motive_2:=fun vs ds _=>∃as,ReadsAll h vs ds as) trivial (fun _=>trivial) (fun _ _=>trivial) (fun _ _ _ _=>trivial)
  (fun _ _ _ _ _ _ _ _=>trivial) (fun _ _ _ _ _ _ _=>trivial) ⟨_,.nil⟩ (fun a _ _ ir=>(Rep.reads a).elim fun _ q=>ir.elim fun _ p=>⟨_,.cons q p⟩) r
theorem Rep.lay{v:Value}{d:D}(r:Rep P h v d):d.canLay0=true:=
 Rep.rec (motive_1:=fun _ d _=>d.canLay0=true) (motive_2:=fun _ ds _=>PyData.canLayAll0 ds=true) rfl (fun _=>rfl) (fun _ _=>rfl) (fun _ _ h1 _=>h1)
  (fun _ _ _ _ _ _ _ ih=>ih) (fun _ _ _ _ _ _ ih=>ih) rfl (fun _ _ ia ir=>Bool.and_eq_true_iff.mpr ⟨ia,ir⟩) r
theorem zi.lay{vs:List Value}{ds:List D}(r:zi P h vs ds):PyData.canLayAll0 ds=true:=
 zi.rec (motive_1:=fun _ _ _=>True) (motive_2:=fun _ ds _=>PyData.canLayAll0 ds=true) trivial (fun _=>trivial) (fun _ _=>trivial) (fun _ _ _ _=>trivial)
  (fun _ _ _ _ _ _ _ _=>trivial) (fun _ _ _ _ _ _ _=>trivial) rfl (fun a _ _ ir=>Bool.and_eq_true_iff.mpr ⟨Rep.lay a,ir⟩) r
theorem zi.length{vs:List Value}:∀{ds:List D},zi P h vs ds->vs.length=ds.length:=by
 induction vs with
 |nil=>intro ds r;cases r;rfl
 |cons v vs ih=>intro ds r;cases r with|cons _ r=>exact congrArg (·+1) (ih r)
theorem zi.get{vs:List Value}:∀{ds:List D},zi P h vs ds->∀{i:Nat} {d:D},ds[i]?=some d->∃v,vs[i]?=some v/\Rep P h v d:=by
 induction vs with
 |nil=>intro ds r i d e;cases r;exact nn e
 |cons v vs ih=>
  intro ds r i d e;cases r with
  |cons a r=>induction i using Nat.casesOn with
   |zero=>(obtain rfl:=soI e;clear e);exact⟨v,rfl,a⟩
   |succ i=>exact ih r e
theorem zi.append{vs:List Value}:∀{ds:List D},zi P h vs ds->∀{ws:List Value} {es:List D},zi P h ws es->zi P h (vs++ws) (ds++es):=by
 induction vs with
 |nil=>intro ds r ws es q;cases r;exact q
 |cons v vs ih=>intro ds r ws es q;cases r with|cons a r=>exact .cons a (ih r q)
theorem zi.take{vs:List Value}:∀{ds:List D},zi P h vs ds->∀n,zi P h (vs.take n) (ds.take n):=by
 induction vs with
 |nil=>intro ds r n;cases r;cases n<;>exact .nil
 |cons v vs ih=>
  intro ds r n;cases r with
  |cons a r=>induction n using Nat.casesOn with
   |zero=>exact .nil
   |succ n=>exact .cons a (ih r n)
theorem zi.drop{vs:List Value}:∀{ds:List D},zi P h vs ds->∀n,zi P h (vs.drop n) (ds.drop n):=by
 induction vs with
 |nil=>intro ds r n;cases r;cases n<;>exact .nil
 |cons v vs ih=>
  intro ds r n;cases r with
  |cons a r=>induction n using Nat.casesOn with
   |zero=>exact .cons a r
   |succ n=>exact ih r n
theorem zi.one{v:Value}{d:D}(x:Rep P h v d):zi P h [v] [d]:=.cons x .nil
end
end Mine
set_option backward.match.sparseCases false
namespace Mine
open PySem
structure Cx where
 names:List (Str×NameKind)
 funs:List Str
 ios:List Str
 consts:List Str
noncomputable def Cx.kind(cx:Cx)(x:Str):Option NameKind:=cx.names.lookup x
noncomputable def kj:NameKind->Bool
 |.local|.cell|.free=>true
 |_=>false
noncomputable def jz(x:Str):Bool:=!(x==("__debug__" : Str))&&!(x==("__classdict__" : Str))&&!(x==("__name__" : Str))
noncomputable def Cx.var?(cx:Cx)(x:Str):Option Nat:=
 match cx.names.lookup x with
 |some k=>if kj k&&jz x then cx.names.findIdx? (·.1==x) else none
 |none=>none
noncomputable def Cx.isGlob(cx:Cx)(x:Str):Bool:=cx.names.lookup x==some .globalImplicit&&jz x
noncomputable def Cx.fun?(cx:Cx)(x:Str):Option Nat:=if cx.isGlob x then cx.funs.findIdx? (·==x) else none
noncomputable def Cx.const?(cx:Cx)(x:Str):Option Nat:=if cx.isGlob x then cx.consts.findIdx? (·==x) else none
noncomputable def Cx.isB(cx:Cx)(x:Str)(b:String):Bool:=cx.isGlob x&&x==Str.ofString b
noncomputable def zgj:Operator->Option Bin
 |.Add=>some .add
 |.Sub=>some .sub
 |.Mult=>some .mul
 |.Mod=>some .mod
 |.FloorDiv=>some .fdiv
 |_=>none
noncomputable def zgn:CmpOp->Option Bin
 |.Eq=>some .eq
 |.NotEq=>some .ne
 |.Lt=>some .lt
 |.LtE=>some .le
 |.Gt=>some .gt
 |.GtE=>some .ge
 |.In=>some .mem
 |.NotIn=>some .nmem
 |_=>none
noncomputable def zft:Const->Option Lit
 |.none=>some .none
 |.bool b=>some (.bool b)
 |.int i=>some (.int i)
 |.str x=>if PyData.strOk x&&decide (x.length<=zp) then some (.str x) else none
 |_=>none
inductive OBd{α β:Type}(o:Option α)(f:α->Option β)(b:β):Prop
 |mk(a:α)(h:o=some a)(k:f a=some b)
theorem ob{α β:Type}{o:Option α}{f:α->Option β}{b:β}(h:o.bind f=some b):OBd o f b:=by
 induction o using Option.casesOn with
 |none=>exact nn h
 |some a=>exact⟨a,rfl,h⟩
theorem ifn{α:Type}{c:Prop}[Decidable c]{x:Option α}{y:α}(h:(if c then x else none)=some y):c/\x=some y:=
 if hc:c then⟨hc,(if_pos hc).symm.trans h⟩ else nn ((if_neg hc).symm.trans h)
theorem ifo{α:Type}{c:Prop}[Decidable c]{x z:Option α}{y:α}(h:(if c then x else z)=some y):(c/\x=some y)\/(¬c/\z=some y):=
 if hc:c then .inl ⟨hc,(if_pos hc).symm.trans h⟩ else .inr ⟨hc,(if_neg hc).symm.trans h⟩
theorem emp{α:Type}{l:List α}(h:l.isEmpty=true):l=[]:=by cases l<;>first|rfl|exact ff h
inductive MM{α β:Type}(f:α->Option β)(a:α)(as:List α):List β->Prop
 |mk(b:β)(bs:List β)(h:f a=some b)(k:as.mapM f=some bs):MM f a as (b::bs)
theorem mm{α β:Type}{f:α->Option β}{a:α}{as:List α}{bs:List β}(h:(a::as).mapM f=some bs):MM f a as bs:=by
 rw[List.mapM_cons] at h;replace h:=ob h;obtain⟨b,h1,h⟩:=h;replace h:=ob h;obtain⟨bs',h2,h⟩:=h
 (obtain rfl:=soI h;clear h)
 exact⟨b,bs',h1,h2⟩
theorem mm0{α β:Type}{f:α->Option β}{bs:List β}(h:[].mapM f=some bs):bs=[]:=by
 rw[List.mapM_nil] at h;(obtain rfl:=soI h;clear h);rfl
noncomputable def zek{α:Type}:List α->Option α
 |[]=>none
 |a::r=>if r.isEmpty then some a else none
inductive zxR{α:Type}(a:α):List α->Prop
 |mk:zxR a [a]
theorem kE{α:Type}{a:α}{l:List α}(h:zek l=some a):zxR a l:=by
 induction l using List.casesOn with
 |nil=>exact nn h
 |cons b r=>
  obtain⟨h1,h2⟩:=ifn h
  (obtain rfl:=soI h2;clear h2);cases emp h1;exact⟨⟩
noncomputable def zbw:Expr->Option Str
 |.Name x _=>some x
 |_=>none
inductive zwM(x:Str):Expr->Prop
 |mk(p:Pos):zwM x (.Name x p)
theorem j4{e:Expr}{x:Str}(h:zbw e=some x):zwM x e:=by
 cases e<;>first|exact nn h|((obtain rfl:=soI h;clear h);exact⟨_⟩)
noncomputable def zqZ:Expr->Option Const
 |.Constant c _ _=>some c
 |_=>none
inductive zt2(c:Const):Expr->Prop
 |mk(k:Nat)(p:Pos):zt2 c (.Constant c k p)
theorem zkL{e:Expr}{x:Const}(h:zqZ e=some x):zt2 x e:=by
 cases e<;>first|exact nn h|((obtain rfl:=soI h;clear h);exact⟨_,_⟩)
noncomputable def zmX:Const->Bool
 |.str _=>true
 |_=>false
inductive zxM:Const->Prop
 |mk(s:Str):zxM (.str s)
theorem zoC{c:Const}(h:zmX c=true):zxM c:=by
 cases c<;>first|exact ff h|exact⟨_⟩
noncomputable def znj:Expr->Option (List Expr)
 |.Tuple es _ _=>some es
 |_=>none
inductive zyd(es:List Expr):Expr->Prop
 |mk(k:Nat)(p:Pos):zyd es (.Tuple es k p)
theorem zs6{e:Expr}{x:List Expr}(h:znj e=some x):zyd x e:=by
 cases e<;>first|exact nn h|((obtain rfl:=soI h;clear h);exact⟨_,_⟩)
noncomputable def zvY:Expr->Option (List Expr)
 |.List es _=>some es
 |_=>none
inductive zxd(es:List Expr):Expr->Prop
 |mk(p:Pos):zxd es (.List es p)
theorem zsP{e:Expr}{x:List Expr}(h:zvY e=some x):zxd x e:=by
 cases e<;>first|exact nn h|((obtain rfl:=soI h;clear h);exact⟨_⟩)
noncomputable def zx3:Expr->Bool
 |.Dict ks vs _=>ks.isEmpty&&vs.isEmpty
 |_=>false
inductive zxc:Expr->Prop
 |mk(p:Pos):zxc (.Dict [] [] p)
theorem zui{e:Expr}(h:zx3 e=true):zxc e:=by
 induction e using PySem.Expr.casesOn with
 |Dict ks vs p=>
  have h1:=emp (an1 h);have h2:=emp (an2 h);subst h1 h2;exact⟨_⟩
 |_=>exact ff h
noncomputable def ziy:Expr->Option (Expr×List Expr×Pos)
 |.Call f args kws p=>if kws.isEmpty then some (f,args,p) else none
 |_=>none
inductive zw0(q:Expr×List Expr×Pos):Expr->Prop
 |mk:zw0 q (.Call q.1 q.2.1 [] q.2.2)
theorem zc0{e:Expr}{q:Expr×List Expr×Pos}(h:ziy e=some q):zw0 q e:=by
 induction e using PySem.Expr.casesOn with
 |Call f args kws p=>obtain⟨h1,h2⟩:=ifn h;(obtain rfl:=soI h2;clear h2);cases emp h1;exact⟨⟩
 |_=>exact nn h
noncomputable def zgw(e:Expr):Option (Str×Expr):=(ziy e).bind fun q=>(zbw q.1).bind fun f=>(zek q.2.1).bind fun x=>some (f,x)
inductive zwV(q:Str×Expr):Expr->Prop
 |mk(p pos:Pos):zwV q (.Call (.Name q.1 p) [q.2] [] pos)
theorem zdT{e:Expr}{q:Str×Expr}(h:zgw e=some q):zwV q e:=by
 replace h:=ob h;obtain⟨⟨a,b,c⟩,h1,h⟩:=h;replace h:=ob h;obtain⟨f,h2,h⟩:=h;replace h:=ob h;obtain⟨x,h3,h⟩:=h
 (obtain rfl:=soI h;clear h);cases zc0 h1;cases j4 h2
 have h3:=kE h3;dsimp only at h3 ⊢;cases h3;exact⟨_,_⟩
noncomputable def Cx.tv?(cx:Cx)(x:Str):Option Nat:=
 match cx.names.lookup x with
 |some .local=>cx.var? x
 |some .cell=>cx.var? x
 |_=>none
noncomputable def kt(cx:Cx)(e:Expr):Option Nat:=(zbw e).bind cx.tv?
noncomputable def zaA(cx:Cx):Expr->Option Tg
 |.Name x _=>(cx.tv? x).bind fun i=>some (.one i)
 |.Tuple es _ _=>(es.mapM (kt cx)).bind fun is=>some (.many is)
 |_=>none
inductive zvr(cx:Cx):Expr->Tg->Prop
 |one{x:Str}{p:Pos}{i:Nat}(h:cx.tv? x=some i):zvr cx (.Name x p) (.one i)
 |many{es:List Expr}{k:Nat}{p:Pos}{is:List Nat}(h:es.mapM (kt cx)=some is):zvr cx (.Tuple es k p) (.many is)
theorem zrG{cx:Cx}{e:Expr}{t:Tg}(h:zaA cx e=some t):zvr cx e t:=by
 induction e using PySem.Expr.casesOn with
 |Name x p=>replace h:=ob h;obtain⟨i,h1,h⟩:=h;(obtain rfl:=soI h;clear h);exact .one h1
 |Tuple es k p=>replace h:=ob h;obtain⟨i,h1,h⟩:=h;(obtain rfl:=soI h;clear h);exact .many h1
 |_=>exact nn h
noncomputable def zxh(cx:Cx)(p:Str×NameKind):Option (Option Nat):=match p.2 with
 |.free=>if cx.kind p.1==some .cell||cx.kind p.1==some .free then(cx.var? p.1).map some else none
 |_=>some none
noncomputable def zcE(cx:Cx)(names:List (Str×NameKind)):Option (List (Option Nat)):=names.mapM (zxh cx)
noncomputable def zaw:List PE->Option PE
 |[]=>none
 |[a]=>some a
 |a::r=>(zaw r).map (.and_ a)
noncomputable def zbV:List PE->Option PE
 |[]=>none
 |[a]=>some a
 |a::r=>(zbV r).map (.or_ a)
noncomputable def jW:List PE->PEs
 |[]=>.nil
 |a::r=>.cons a (jW r)
noncomputable def ziL(cx:Cx)(e:Expr):Option Expr:=(zgw e).bind fun q=>if cx.isB q.1 "range"=true then some q.2 else none
noncomputable def zbn(sc:Scope):Bool:=sc.kind==.function&&(sc.names.all fun p=>p.2 != .cell)&&decide ((sc.names.map (·.1)).Nodup)
noncomputable def zvH(tr:Cx->Expr->Option PE)(cx:Cx):List Expr->Option PE
 |[]=>some (.lit (.bool true))
 |c::r=>if r.isEmpty then tr cx c else none
noncomputable def itK(tr:Cx->Expr->Option PE)(cx:Cx)(e:Expr):Option Expr->Option (Bool×PE)
 |some x=>(tr cx x).bind fun p=>some (true,p)
 |none=>(tr cx e).bind fun p=>some (false,p)
noncomputable def it?(tr:Cx->Expr->Option PE)(cx:Cx)(e:Expr):Option (Bool×PE):=itK tr cx e (ziL cx e)
noncomputable def zeI(tr:Cx->Expr->Option PE)(cx:Cx)(elt:Expr):List Expr->List Comprehension->Option PG
 |ifs,[]=>(zvH tr cx ifs).bind fun c=>(tr cx elt).bind fun e=>some (.elt c e)
 |ifs,⟨t,it,ifs',a⟩::r=>if a=0 then(zvH tr cx ifs).bind fun c=>(zaA cx t).bind fun t=>(it? tr cx it).bind fun q=>(zeI tr cx elt ifs' r).bind fun g=>some (.more c q.1 q.2 t g)
  else none
noncomputable def j8:Expr->Bool
 |.Call f args kws _=>(zbw f).isSome&&args.isEmpty&&kws.isEmpty
 |_=>false
noncomputable def m1?(m:Str):Option M1:=if m==("join" : Str) then some .join else if m==("split" : Str) then some .split
  else if m==("count" : Str) then some .count else if m==("index" : Str) then some .index else none
noncomputable def zvj(tr:Cx->Expr->Option PE)(cx:Cx)(m:Str)(x p:PE):List Expr->Option PE
 |[]=>(m1? m).bind fun k=>some (.m1 k x p)
 |b::r=>if(m==("get" : Str)&&r.isEmpty)=true then(tr cx b).bind fun q=>some (.m2 .get x p q) else none
noncomputable def zxn(tr:Cx->Expr->Option PE)(cx:Cx)(m:Str)(x:PE):List Expr->Option PE
 |[]=>none
 |a::r=>(tr cx a).bind fun p=>zvj tr cx m x p r
noncomputable def zwp(cx:Cx)(f:Str):Option Un:=if cx.isB f "len"=true then some .len else if cx.isB f "str"=true then some .str else if cx.isB f "int"=true then some .int else none
noncomputable def zvM(cx:Cx)(f:Str):Option Bin:=if cx.isB f "max"=true then some .max else if cx.isB f "min"=true then some .min else none
noncomputable def zy5(tr:Cx->Expr->Option PE)(cx:Cx)(f:Str)(p:PE):List Expr->Option PE
 |[]=>(zwp cx f).bind fun u=>some (.un u p)
 |b::r=>if r.isEmpty then(zvM cx f).bind fun o=>(tr cx b).bind fun q=>some (.bin o p q) else none
noncomputable def bi?(tr:Cx->Expr->Option PE)(cx:Cx)(f:Str):List Expr->Option PE
 |[]=>none
 |a::r=>(tr cx a).bind fun p=>zy5 tr cx f p r
noncomputable def ty?(cx:Cx)(b:Str):Option Ty:=if cx.isB b "bool"=true then some .bool else if cx.isB b "int"=true then some .int else none
noncomputable def isU(ng:Bool):Const->Option Un
 |.none=>some (bif ng then .notNone else .isNone)
 |.bool b=>some (bif ng then .notB b else .isB b)
 |_=>none
noncomputable def is?(tr:Cx->Expr->Option PE)(cx:Cx)(ng:Bool)(l:Expr):Expr->Option PE
 |.Constant c _ _=>(isU ng c).bind fun u=>(tr cx l).bind fun p=>some (.un u p)
 |.Name b _=>(zgw l).bind fun q=>if cx.isB q.1 "type"=true then(ty? cx b).bind fun t=>(tr cx q.2).bind fun p=>some (.un (bif ng then .tyNot t else .tyIs t) p) else none
 |_=>none
noncomputable def zug(tr:Cx->Expr->Option PE)(cx:Cx)(l:Expr)(op:CmpOp)(r:Expr):Option PE:=
 (zgn op).bind fun o=>(tr cx l).bind fun p=>(tr cx r).bind fun q=>some (.bin o p q)
noncomputable def zwD(tr:Cx->Expr->Option PE)(cx:Cx)(l:Expr)(op:CmpOp)(r:Expr):Option PE:=
 match op with
 |.Is=>is? tr cx false l r
 |.IsNot=>is? tr cx true l r
 |op=>zug tr cx l op r
noncomputable def slU(tr:Cx->Expr->Option PE)(cx:Cx)(v:Expr):Option Expr->Option PE
 |none=>none
 |some u=>(tr cx v).bind fun p=>(tr cx u).bind fun q=>some (.bin .upto p q)
noncomputable def slL(tr:Cx->Expr->Option PE)(cx:Cx)(v l:Expr):Option Expr->Option PE
 |none=>(tr cx v).bind fun p=>(tr cx l).bind fun q=>some (.bin .from_ p q)
 |some u=>(tr cx v).bind fun p=>(tr cx l).bind fun q=>(tr cx u).bind fun r=>some (.tri .slice p q r)
noncomputable def sl?(tr:Cx->Expr->Option PE)(cx:Cx)(v:Expr)(u:Option Expr):Option Expr->Option PE
 |none=>slU tr cx v u
 |some l=>slL tr cx v l u
noncomputable def zyN:Expr->Bool
 |.Slice ..=>true
 |_=>false
noncomputable def slE(tr:Cx->Expr->Option PE)(cx:Cx)(v:Expr):Expr->Option PE
 |.Slice l u s _=>if s.isNone=true then sl? tr cx v u l else none
 |_=>none
noncomputable def zxQ(tr:Cx->Expr->Option PE)(cx:Cx)(v i:Expr):Option PE:=
 if zyN i=true then slE tr cx v i else(tr cx v).bind fun p=>(tr cx i).bind fun q=>some (.bin .idx p q)
noncomputable def znM(p:Pos):Expr->Option Expr
 |.Attribute o k ap=>if(k==("keys" : Str)&&(ap.endLine==p.line&&!j8 o))=true then some o else none
 |_=>none
noncomputable def zu6(e:Expr):Option Expr:=(ziy e).bind fun q=>if q.2.1.isEmpty=true then znM q.2.2 q.1 else none
noncomputable def ztK(l:List Expr):Option Expr:=(zek l).bind zu6
noncomputable def zuT(tr:Cx->Expr->Option PE)(cx:Cx)(f:Str)(args:List Expr):Option Nat->Option PE
 |some i=>if args.isEmpty=false then(args.mapM (tr cx)).bind fun xs=>some (.call i (jW xs)) else none
 |none=>bi? tr cx f args
noncomputable def zoa(tr:Cx->Expr->Option PE)(cx:Cx)(f:Str)(args:List Expr):Option PE:=
 if cx.isB f "sorted"=true then(ztK args).bind fun o=>(tr cx o).bind fun p=>some (.un .keys p)
 else zuT tr cx f args (cx.fun? f)
noncomputable def zqi(tr:Cx->Expr->Option PE)(cx:Cx)(args:List Expr)(p:Pos):Expr->Option PE
 |.Name f _=>zoa tr cx f args
 |.Attribute o m ap=>if(ap.endLine==p.line&&!j8 o)=true then(tr cx o).bind fun x=>zxn tr cx m x args else none
 |_=>none
noncomputable def znm(cx:Cx)(x:Str):Option Nat->Option PE
 |some i=>some (.var i)
 |none=>(cx.const? x).bind fun i=>some (.glob i)
noncomputable def zuE(es:List PE):BoolOp->Option PE
 |.And=>zaw es
 |.Or=>zbV es
noncomputable def zwB:UnaryOp->Option Un
 |.Not=>some .not
 |.USub=>some .neg
 |_=>none
noncomputable def znQ(tr:Cx->Expr->Option PE)(cx:Cx)(elt:Expr)(scope:Scope):List Comprehension->Option PE
 |[]=>none
 |⟨t,it,ifs,a⟩::r=>if a=0/\zbn scope=true then(it? tr cx it).bind fun q=>(zcE cx scope.names).bind fun caps=>(zaA {cx with names:=scope.names} t).bind fun t=>
    (zeI tr {cx with names:=scope.names} elt ifs r).bind fun g=>some (.comp caps q.1 q.2 t g)
   else none
noncomputable def trE:Nat->Cx->Expr->Option PE
 |0,_,_=>none
 |n+1,cx,e=>match e with
  |.Constant c _ _=>(zft c).bind fun l=>some (.lit l)
  |.Name x _=>znm cx x (cx.var? x)
  |.BoolOp op vs _=>if 2<=vs.length then(vs.mapM (trE n cx)).bind fun es=>zuE es op else none
  |.BinOp l op r _=>(zgj op).bind fun o=>(trE n cx l).bind fun p=>(trE n cx r).bind fun q=>some (.bin o p q)
  |.UnaryOp op x _=>(zwB op).bind fun o=>(trE n cx x).bind fun p=>some (.un o p)
  |.IfExp c a b _=>(trE n cx c).bind fun p=>(trE n cx a).bind fun q=>(trE n cx b).bind fun r=>some (.ite p q r)
  |.List es _=>if es.length<=1000 then(es.mapM (trE n cx)).bind fun xs=>some (.list (jW xs)) else none
  |.Tuple es _ _=>if es.length<=1000 then(es.mapM (trE n cx)).bind fun xs=>some (.tup (jW xs)) else none
  |.Compare l ops rs _=>(zek ops).bind fun op=>(zek rs).bind fun r=>zwD (trE n) cx l op r
  |.Call f args kws p=>if kws.isEmpty=true then zqi (trE n) cx args p f else none
  |.Subscript v i _=>zxQ (trE n) cx v i
  |.ListComp elt gens scope _=>znQ (trE n) cx elt scope gens
  |_=>none
noncomputable def ky:List PS->PS
 |[]=>.skip
 |[a]=>a
 |a::r=>.seq a (ky r)
noncomputable def ztT(cx:Cx)(f:Str)(p:Pos)(args:List Expr)(q:Pos):Option PS:=
 if cx.ios.any (·==f)=true then(cx.fun? f).bind fun i=>(args.dropLast.mapM (trE 40 cx)).bind fun es=>args.getLast?.bind fun l=>(zbw l).bind fun x=>(cx.tv? x).bind fun v=>some (.io i (jW es) v)
 else(trE 40 cx (.Call (.Name f p) args [] q)).bind fun e=>some (.exp e)
noncomputable def zdL(e:Expr):Option Str:=(ziy e).bind fun q=>zbw q.1
noncomputable def zwZ(cx:Cx):Stmt->Option PS
 |.Expr e _=>(zdL e).bind fun _=>(trE 40 cx e).bind fun p=>some (.exp p)
 |.Assign ts e _=>(zdL e).bind fun _=>(zek ts).bind fun t=>(zbw t).bind fun x=>(cx.tv? x).bind fun i=>(trE 40 cx e).bind fun p=>some (.assign (.one i) p)
 |_=>none
noncomputable def ztv(cx:Cx)(b:List Stmt):Option PS:=(zek b).bind (zwZ cx)
noncomputable def zwU(cx:Cx)(i:Nat)(v:Expr):Option (List Expr)->Option PS
 |some es=>if es.length<=1000 then(es.mapM (trE 40 cx)).bind fun xs=>some (.newl i (jW xs)) else none
 |none=>if zx3 v=true then some (.newd i) else(trE 40 cx v).bind fun p=>some (.assign (.one i) p)
noncomputable def ztM(cx:Cx)(t v:Expr)(ts:List Expr):Option (List Expr)->Option PS
 |some vs=>if(vs.all (constantsAlone 8)&&!(vs.all (foldedForSure 8)))=false then(ts.mapM (kt cx)).bind fun is=>if is.Nodup then(trE 40 cx v).bind fun p=>some (.assign (.many is) p) else none else none
 |none=>(zaA cx t).bind fun t=>(trE 40 cx v).bind fun p=>some (.assign t p)
noncomputable def zyf(cx:Cx)(t v:Expr):Option PS:=
 match t with
 |.Name x _=>(cx.tv? x).bind fun i=>zwU cx i v (zvY v)
 |.Subscript o k _=>(zbw o).bind fun x=>(cx.tv? x).bind fun i=>(trE 40 cx k).bind fun p=>(trE 40 cx v).bind fun q=>some (.put i p q)
 |.Tuple ts _ _=>ztM cx t v ts (znj v)
 |_=>none
noncomputable def zne(cx:Cx)(args:List Expr)(q:Pos):Expr->Option PS
 |.Attribute o m ap=>if(m==("append" : Str)&&ap.endLine==q.line)=true then(zbw o).bind fun x=>(zek args).bind fun e=>(cx.tv? x).bind fun i=>(trE 40 cx e).bind fun p=>some (.app i p) else none
 |.Name f p=>ztT cx f p args q
 |_=>none
noncomputable def zoi(cx:Cx)(e:Expr):Option PS:=(zgw e).bind fun q=>(zqZ q.2).bind fun c=>if(zmX c&&cx.isB q.1 "ValueError")=true then some .raise else none
noncomputable def ztV:Stmt->Option (Str×Const)
 |.Assign ts v _=>(zek ts).bind fun t=>(zbw t).bind fun y=>(zqZ v).bind fun c=>some (y,c)
 |_=>none
inductive zwz(q:Str×Const):Stmt->Prop
 |mk(p p2 pos:Pos)(k:Nat):zwz q (.Assign [.Name q.1 p] (.Constant q.2 k p2) pos)
theorem zpL{s:Stmt}{q:Str×Const}(h:ztV s=some q):zwz q s:=by
 induction s using PySem.Stmt.casesOn with
 |Assign ts v pos=>
  replace h:=ob h;obtain⟨t,h1,h⟩:=h;replace h:=ob h;obtain⟨y,h2,h⟩:=h;replace h:=ob h;obtain⟨c,h3,h⟩:=h
  (obtain rfl:=soI h;clear h);cases kE h1;cases j4 h2;cases zkL h3
  exact⟨_,_,_,_⟩
 |_=>exact nn h
noncomputable def zts(cx:Cx)(b:List Stmt):ExceptHandler->Option PS
 |.ExceptHandler ty nm body _=>if nm.isNone=true then ty.bind fun t=>(zbw t).bind fun x=>(zek body).bind fun s=>(ztV s).bind fun q=>if cx.isB x "ValueError"=true then(ztv cx b).bind fun b=>(cx.tv? q.1).bind fun i=>(zft q.2).bind fun l=>some (.tryv b i l) else none else none
noncomputable def trS:Nat->Cx->Stmt->Option PS
 |0,_,_=>none
 |n+1,cx,st=>match st with
  |.Expr e _=>(ziy e).bind fun q=>zne cx q.2.1 q.2.2 q.1
  |.Assign ts v _=>(zek ts).bind fun t=>zyf cx t v
  |.If c a b _=>(trE 40 cx c).bind fun c=>(a.mapM (trS n cx)).bind fun a=>(b.mapM (trS n cx)).bind fun b=>some (.ifs c (ky a) (ky b))
  |.While c b o _=>if o.isEmpty=true then(trE 40 cx c).bind fun c=>(b.mapM (trS n cx)).bind fun b=>some (.whil c (ky b)) else none
  |.For t it b o _=>if o.isEmpty=true then(zaA cx t).bind fun t=>(it? (trE 40) cx it).bind fun q=>(b.mapM (trS n cx)).bind fun b=>some (.forr t q.1 q.2 (ky b)) else none
  |.Return e _=>e.bind fun e=>(trE 40 cx e).bind fun p=>some (.ret p)
  |.Raise e c _=>if c.isNone=true then e.bind (zoi cx) else none
  |.Break _=>some .brk
  |.Continue _=>some .cont
  |.Try b hs o f _=>if(o.isEmpty&&f.isEmpty)=true then(zek hs).bind fun h=>zts cx b h else none
  |_=>none
noncomputable def trB(cx:Cx)(body:List Stmt):Option PS:=(body.mapM (trS 40 cx)).map ky
inductive VS where
 |u|f|o
 deriving DecidableEq
noncomputable def VS.at(st:List VS)(i:Nat):VS:=st.getD i .u
noncomputable def zZ(st:List VS):Tg->List VS
 |.one i=>st.set i .f
 |.many is=>is.foldl (fun s i=>s.set i .f) st
mutual
noncomputable def lkE(st:List VS)(b:Bool):PE->Bool
 |.lit _=>true
 |.var i=>match VS.at st i with|.u=>false|.f=>true|.o=>b
 |.glob _=>true
 |.un _ a=>lkE st true a
 |.bin _ x y=>lkE st true x&&lkE st true y
 |.tri _ x y z=>lkE st true x&&lkE st true y&&lkE st true z
 |.m1 _ x y=>lkE st true x&&lkE st true y
 |.m2 _ x y z=>lkE st true x&&lkE st true y&&lkE st false z
 |.and_ x y=>lkE st true x&&lkE st true y
 |.or_ x y=>lkE st true x&&lkE st true y
 |.ite c x y=>lkE st true c&&lkE st b x&&lkE st b y
 |.tup es=>zgl st es
 |.list es=>zgl st es
 |.call _ es=>zgl st es
 |.comp caps rg it t g=>lkE st rg it&&lkG (zZ (caps.map fun c=>match c with|some i=>VS.at st i|none=>.u) t) g
noncomputable def zgl(st:List VS):PEs->Bool
 |.nil=>true
 |.cons a r=>lkE st false a&&zgl st r
noncomputable def lkG(st:List VS):PG->Bool
 |.elt c e=>lkE st true c&&lkE st false e
 |.more c rg it t g=>lkE st true c&&lkE st rg it&&lkG (zZ st t) g
end
end Mine
set_option backward.match.sparseCases true
namespace Mine
open PySem PyProof.Rows PySem.Calls
noncomputable def zA(h h':Heap):Prop:=∀a o,h.get? a=some o->h'.get? a=some o
theorem zA.refl(h:Heap):zA h h:=fun _ _ e=>e
theorem zA.trans{h h' h₂:Heap}(x:zA h h')(y:zA h' h₂):zA h h₂:=fun a o e=>y a o (x a o e)
theorem zA.push(h:Heap)(o:Obj):zA h (h.push o):=fun _ _ e=>Heap.get?_push_of_some o e
noncomputable def km(P:Addr->Prop)(h:Heap):Prop:=∀a,h.get? a=none->P a
theorem km.keep{P:Addr->Prop}{h h':Heap}(x:km P h)(k:zA h h'):km P h':=fun a e=>x a (by
 cases q:h.get? a with
 |none=>rfl
 |some o=>rw[k a o q] at e;exact sn e)
theorem km.at_size{P:Addr->Prop}{h:Heap}(x:km P h):P h.objs.size:=x _ (Heap.get?_none_of_le (Nat.le_refl _))
inductive KVs(P:Addr->Prop)(h:Heap){K:Type}(enc:K->D):List (K×Value)->List (D×D)->Prop
 |nil:KVs P h enc [] []
 |cons{k:K}{v:Value}{d:D}{l:List (K×Value)}{kvs:List (D×D)}:Rep P h v d->KVs P h enc l kvs->KVs P h enc ((k,v)::l) ((enc k,d)::kvs)
inductive KVH(P:Addr->Prop)(h:Heap):List (List Int×Addr×Value)->List (D×D)->Prop
 |nil:KVH P h [] []
 |cons{i j:Int}{a:Addr}{v:Value}{d:D}{l:List (List Int×Addr×Value)}{kvs:List (D×D)}:P a->Rep P h v d->KVH P h l kvs->KVH P h (([i,j],a,v)::l) ((.tuple [.int i,.int j],d)::kvs)
section
variable(prog:Program)(w:World)
noncomputable def zu(P:Addr->Prop)(h:Heap)(a:Addr)(kvs:List (D×D)):Prop:=
 (a==sysModules)=false/\kvs.length<=zp/\
 ((∃l,h.DictOf (intKind prog w) a l/\KVs P h PyData.int l kvs)\/(∃l,h.DictOf (strKind prog w) a l/\KVs P h PyData.str l kvs)\/
 (∃l,h.DictOfH (tupleKind (intKind prog w)) a l/\KVH P h l kvs))
inductive zl(T P:Addr->Prop)(h:Heap):Value->D->Prop
 |rep{v:Value}{d:D}:Rep P h v d->zl T P h v d
 |list{a:Addr}{o:Obj}{vs:Array Value}{n:Nat}{xs:List D}:T a->h.get? a=some o->o.cls=.type "list"->o.dict=none->o.data=.seq vs n->
   zi P h vs.toList xs->xs.length<=zp->zl T P h (.ref a) (.list xs)
 |dict{a:Addr}{kvs:List (D×D)}:T a->zu prog w P h a kvs->zl T P h (.ref a) (.dict kvs)
end
theorem zbE:zp<=sizeLine:=by decide
section
variable{prog:Program}{w:World}{A:Around}{E:Value->Shared->Prop}{s:Shared}{P T:Addr->Prop}
theorem zl.of{v:Value}{d:D}(x:Rep P s.heap v d):zl prog w T P s.heap v d:=.rep x
inductive II(i:Int)(v:Value):Prop
 |mk(t:Tok)(e:v=.int i t)
inductive IS(x:Str)(v:Value):Prop
 |mk(t:Tok)(e:v=.str x t)(h1:PyData.strOk x=true)(h2:x.length<=zp)
inductive IL(P:Addr->Prop)(h:Heap)(xs:List D)(v:Value):Prop
 |mk(a:Addr)(o:Obj)(vs:Array Value)(n:Nat)(e:v=.ref a)(ho:h.get? a=some o)(hc:o.cls=.type "list")(hd:o.dict=none)(hda:o.data=.seq vs n)(hr:zi P h vs.toList xs)(hz:xs.length<=zp)
inductive IT(P:Addr->Prop)(h:Heap)(xs:List D)(v:Value):Prop
 |mk(a:Addr)(o:Obj)(vs:Array Value)(n:Nat)(e:v=.ref a)(p:P a)(ho:h.get? a=some o)(hc:o.cls=.type "tuple")(hda:o.data=.seq vs n)(hr:zi P h vs.toList xs)(hz:xs.length<=zp)
inductive IDc(prog:Program)(w:World)(P:Addr->Prop)(h:Heap)(kvs:List (D×D))(v:Value):Prop
 |mk(a:Addr)(e:v=.ref a)(r:zu prog w P h a kvs)
theorem zl.inv_int{h:Heap}{v:Value}{i:Int}(x:zl prog w T P h v (.int i)):II i v:=by
 cases x with
 |rep r=>cases r;exact⟨_,rfl⟩
theorem zl.inv_bool{h:Heap}{v:Value}{i:Bool}(x:zl prog w T P h v (.bool i)):v=.bool i:=by
 cases x with
 |rep r=>cases r;rfl
theorem zl.inv_none{h:Heap}{v:Value}(x:zl prog w T P h v .none):v=.none:=by
 cases x with
 |rep r=>cases r;rfl
theorem zl.inv_str{h:Heap}{v:Value}{x:Str}(r:zl prog w T P h v (.str x)):IS x v:=by
 cases r with
 |rep r=>cases r with|str _ _ h1 h2=>exact⟨_,rfl,h1,h2⟩
theorem zl.inv_list{h:Heap}{v:Value}{xs:List D}(r:zl prog w T P h v (.list xs)):IL P h xs v:=by
 cases r with
 |rep r=>cases r with|list _ ho hc hd hda hr hz=>exact⟨_,_,_,_,rfl,ho,hc,hd,hda,hr,hz⟩
 |list _ ho hc hd hda hr hz=>exact⟨_,_,_,_,rfl,ho,hc,hd,hda,hr,hz⟩
theorem zl.inv_tuple{h:Heap}{v:Value}{xs:List D}(r:zl prog w T P h v (.tuple xs)):IT P h xs v:=by
 cases r with
 |rep r=>cases r with|tuple p ho hc hda hr hz=>exact⟨_,_,_,_,rfl,p,ho,hc,hda,hr,hz⟩
theorem zl.inv_dict{h:Heap}{v:Value}{kvs:List (D×D)}(r:zl prog w T P h v (.dict kvs)):IDc prog w P h kvs v:=by
 cases r with
 |rep r=>cases r
 |dict _ r=>exact⟨_,rfl,r⟩
theorem kI{h h':Heap}{a:Addr}(k:zA h h')(e:h'.get? a=none):h.get? a=none:=by
 cases q:h.get? a with
 |none=>rfl
 |some o=>exact sn ((k a o q).symm.trans e)
section
variable{α β:Type}{r:α}
inductive OI(f:Int->R α)(r:α)(d:D):Prop
 |mk(i:Int)(e:d=.int i)(h:f i=.ok r)
theorem jG{f:Int->R α}{d:D}(h:onI f d=.ok r):OI f r d:=by
 induction d using PyData.casesOn with
 |int i=>exact⟨i,rfl,h⟩
 |_=>exact ns h
inductive OS(f:Str->R α)(r:α)(d:D):Prop
 |mk(i:Str)(e:d=.str i)(h:f i=.ok r)
theorem zaW{f:Str->R α}{d:D}(h:onS f d=.ok r):OS f r d:=by
 induction d using PyData.casesOn with
 |str i=>exact⟨i,rfl,h⟩
 |_=>exact ns h
inductive OL(f:List D->R α)(r:α)(d:D):Prop
 |mk(i:List D)(e:d=.list i)(h:f i=.ok r)
theorem ze0{f:List D->R α}{d:D}(h:onL f d=.ok r):OL f r d:=by
 induction d using PyData.casesOn with
 |list i=>exact⟨i,rfl,h⟩
 |_=>exact ns h
inductive OT(f:List D->R α)(r:α)(d:D):Prop
 |mk(i:List D)(e:d=.tuple i)(h:f i=.ok r)
theorem zpm{f:List D->R α}{d:D}(h:onT f d=.ok r):OT f r d:=by
 induction d using PyData.casesOn with
 |tuple i=>exact⟨i,rfl,h⟩
 |_=>exact ns h
inductive O1(f:D->R α)(r:α)(l:List D):Prop
 |mk(x:D)(e:l=[x])(h:f x=.ok r)
theorem zqg{f:D->R α}{l:List D}(h:on1 f l=.ok r):O1 f r l:=by
 induction l using List.casesOn with
 |nil=>exact ns h
 |cons x t=>induction t using List.casesOn with
  |nil=>exact⟨x,rfl,h⟩
  |cons=>exact ns h
inductive O2(f:D->D->R α)(r:α)(l:List D):Prop
 |mk(x y:D)(e:l=[x,y])(h:f x y=.ok r)
theorem zpH{f:D->D->R α}{l:List D}(h:on2 f l=.ok r):O2 f r l:=by
 induction l using List.casesOn with
 |nil=>exact ns h
 |cons x t=>replace h:=zqg h;obtain⟨y,rfl,h⟩:=h;exact⟨x,y,rfl,h⟩
inductive OII(f:Int->Int->R α)(r:α)(a b:D):Prop
 |mk(i j:Int)(e:a=.int i)(e':b=.int j)(h:f i j=.ok r)
theorem zaG{f:Int->Int->R α}{a b:D}(h:zfw f a b=.ok r):OII f r a b:=by
 obtain⟨i,e,h⟩:=jG h;obtain⟨j,e',h⟩:=jG h;exact⟨i,j,e,e',h⟩
inductive RB(x:R β)(f:β->R α)(r:α):Prop
 |mk(a:β)(h:x=.ok a)(k:f a=.ok r)
theorem rb{x:R β}{f:β->R α}(h:R.bind x f=.ok r):RB x f r:=by
 induction x using R.casesOn with
 |ok a=>exact⟨a,rfl,h⟩
 |ve=>exact nv h
 |stuck=>exact ns h
theorem ifS{c:Prop}[Decidable c]{x:R α}(h:(if c then x else .stuck)=.ok r):c/\x=.ok r:=
 if hc:c then⟨hc,(if_pos hc).symm.trans h⟩ else ns ((if_neg hc).symm.trans h)
theorem zon{c:Prop}[Decidable c]{x:R α}(h:(if c then .stuck else x)=.ok r):¬c/\x=.ok r:=
 if hc:c then ns ((if_pos hc).symm.trans h) else⟨hc,(if_neg hc).symm.trans h⟩
theorem jh{o:Option α}(h:z7 o=.ok r):o=some r:=by
 induction o using Option.casesOn with
 |none=>exact ns h
 |some y=>(obtain rfl:=okI h;clear h);rfl
end
theorem zl.reads{h:Heap}{v:Value}{d:D}(r:zl prog w T P h v d)(hd:isDict d=false):(∃as,Reads h v d as)/\d.canLay0=true:=by
 induction r using zl.casesOn with
 |rep r=>exact⟨r.reads,r.lay⟩
 |list _ ho hc _ hda hr _=>exact⟨let ⟨_,q⟩:=hr.reads;⟨_,.list ho hc hda q⟩,by exact hr.lay⟩
 |dict _ _=>exact tf hd
theorem zbr{x y:Str}(h1:PyData.strOk x=true)(h2:PyData.strOk y=true):PyData.strOk (x++y)=true:=by
 unfold PyData.strOk at *;rw[Str.cps_append,Array.all_append,h1,h2];rfl
noncomputable def zD(P:Addr->Prop)(d:D)(Q:Value->Shared->Prop)(s:Shared):Prop:=
 ∀v h' tk,zA s.heap h'->Rep P h' v d->Q v {s with heap:=h',toks:=tk}
theorem zD.here{d:D}{Q:Value->Shared->Prop}(g:zD P d Q s){v:Value}(r:Rep P s.heap v d)(tk:Nat):Q v {s with toks:=tk}:=g v s.heap tk (zA.refl _) r
theorem zmP{i j:Int}(h:(zea i&&zea j)=true):IntMulOk i j:=by
 simp only[zea,Bool.and_eq_true,decide_eq_true_eq] at h;have e:(2:Nat) ^ 60=1152921504606846976:=by decide
 have e':(2:Int) ^ 64=18446744073709551616:=by decide
 exact .of_left (intBits_le_64 (by rw[e'];lia) (by rw[e'];lia))
theorem zal{h:Heap}{a:Addr}{o:Obj}{vs:Array Value}{n:Nat}(ho:h.get? a=some o)(hc:o.cls=.type "list")(hd:o.data=.seq vs n):h.IsList a vs:=⟨o,ho,hc,n,hd⟩
theorem zdj{h:Heap}{a:Addr}{o:Obj}{vs:Array Value}{n:Nat}(ho:h.get? a=some o)(hc:o.cls=.type "tuple")(hd:o.data=.seq vs n):IsTup h a vs:=⟨o,ho,hc,n,hd⟩
theorem z8{h:Heap}{vs:Array Value}{xs:List D}(r:zi P h vs.toList xs):vs.size=xs.length:=by rw[←r.length];rfl
theorem jQ{h:Heap}(hP:km P h){vs:Array Value}{xs:List D}(r:zi P h vs.toList xs)(hz:xs.length<=zp):
  Rep P (h.push {cls:=.type "list",data:=.seq vs}) (.ref h.objs.size) (.list xs):=
 .list hP.at_size (Heap.get?_push_size _ rfl) rfl rfl rfl (r.keep (zA.push _ _)) hz
theorem zco{h:Heap}(hP:km P h){vs:Array Value}{xs:List D}(r:zi P h vs.toList xs)(hz:xs.length<=zp):
  Rep P (h.push {cls:=.type "tuple",data:=.seq vs}) (.ref h.objs.size) (.tuple xs):=
 .tuple hP.at_size (Heap.get?_push_size _ rfl) rfl rfl (r.keep (zA.push _ _)) hz
theorem zfc{a b:Addr}{oa ob:Obj}{va vb:Array Value}{na nb:Nat}{xs ys:List D}{Q:Value->Shared->Prop}(hP:km P s.heap)
  (ha:s.heap.get? a=some oa)(ca:oa.cls=.type "list")(da:oa.data=.seq va na)(ra:zi P s.heap va.toList xs)
  (hb:s.heap.get? b=some ob)(cb:ob.cls=.type "list")(db:ob.data=.seq vb nb)(rb:zi P s.heap vb.toList ys)
  (hz:(xs++ys).length<=zp)(g:zD P (.list (xs++ys)) Q s):wpAny (model prog w) A (binaryOp .Add (.ref a) (.ref b)) Q E s:=by
 obtain⟨cls,dd,data,sl⟩:=oa;obtain⟨zrj,dd2,data2,sl2⟩:=ob;simp only at ca da cb db;subst ca da cb db;have hz':va.size+vb.size<=sizeLine:=by
  rw[z8 ra,z8 rb];simp only[List.length_append] at hz;exact qA hz zbE
 refine concat_meets ⟨_,ha,rfl⟩ ⟨_,hb,rfl⟩ noFill_list_add seq_list_add PySem.F.slot_list_add PySem.F.entry_list_add (PySem.F.args_list_add_2 _ _) (list_addW a b va vb na nb dd dd2 sl sl2 hz') ⟨ha,hb,?_⟩;exact g _ _ s.toks (zA.push _ _) (jQ hP (by simpa using ra.append rb) hz)
theorem zem{a b:Addr}{oa ob:Obj}{va vb:Array Value}{na nb:Nat}{xs ys:List D}{Q:Value->Shared->Prop}(hP:km P s.heap)(pa:P a)(pb:P b)
  (ha:s.heap.get? a=some oa)(ca:oa.cls=.type "tuple")(da:oa.data=.seq va na)(ra:zi P s.heap va.toList xs)
  (hb:s.heap.get? b=some ob)(cb:ob.cls=.type "tuple")(db:ob.data=.seq vb nb)(rb:zi P s.heap vb.toList ys)
  (hz:xs.length+ys.length<=zp)(g:zD P (.tuple (xs++ys)) Q s):wpAny (model prog w) A (binaryOp .Add (.ref a) (.ref b)) Q E s:=by
 have ia:=zdj ha ca da;have ib:=zdj hb cb db;obtain⟨cls,dd,data,sl⟩:=oa;obtain⟨zrj,dd2,data2,sl2⟩:=ob;simp only at ca da cb db;subst ca da cb db;have la:=z8 ra;have lb:=z8 rb;by_cases hv:va=#[]
 ·have e:xs=[]:=by rw[hv] at la;exact List.eq_nil_of_length_eq_zero la.symm
  refine concat_meets ⟨_,ha,rfl⟩ ⟨_,hb,rfl⟩ noFill_tuple_add seq_tuple_add PySem.F.slot_tuple_add PySem.F.entry_tuple_add (PySem.F.args_tuple_add_2 _ _)
   (tuple_addW0 a b va vb na nb dd dd2 sl sl2 (by simp[hv])) ⟨ha,hb,?_⟩
  exact g.here (by rw[e];exact .tuple pb hb rfl rfl rb (by simp;exact qA (Nat.le_add_left _ _) ‹_›)) s.toks
 ·by_cases hw:vb=#[]
  ·have e:ys=[]:=by rw[hw] at lb;exact List.eq_nil_of_length_eq_zero lb.symm
   refine concat_meets ⟨_,ha,rfl⟩ ⟨_,hb,rfl⟩ noFill_tuple_add seq_tuple_add PySem.F.slot_tuple_add PySem.F.entry_tuple_add (PySem.F.args_tuple_add_2 _ _)
    (tuple_addW1 a b va vb na nb dd dd2 sl sl2 (by simpa using hv) (by simp[hw])) ⟨ha,hb,?_⟩
   exact g.here (by rw[e,List.append_nil];exact .tuple pa ha rfl rfl ra (by exact qA (Nat.le_add_right _ _) ‹_›)) s.toks
  ·refine concat_meets ⟨_,ha,rfl⟩ ⟨_,hb,rfl⟩ noFill_tuple_add seq_tuple_add PySem.F.slot_tuple_add PySem.F.entry_tuple_add (PySem.F.args_tuple_add_2 _ _)
    (tuple_addW2 a b va vb na nb dd dd2 sl sl2 (by simpa using hv) (by simpa using hw) (by rw[la,lb];exact qA hz zbE)) ⟨ha,hb,?_⟩
   exact g _ _ s.toks (zA.push _ _) (zco hP (by simpa using ra.append rb) (by simpa using hz))
theorem zi.replicate{h:Heap}{v:Value}{d:D}(r:Rep P h v d):∀n,zi P h (List.replicate n v) (List.replicate n d)
 |0=>.nil
 |n+1=>.cons r (zi.replicate r n)
theorem zeK{a:Addr}{oa:Obj}{va:Array Value}{na:Nat}{x:D}{j:Int}{u:Tok}{Q:Value->Shared->Prop}(hP:km P s.heap)
  (ha:s.heap.get? a=some oa)(ca:oa.cls=.type "list")(da:oa.data=.seq va na)(ra:zi P s.heap va.toList [x])
  (h0:0<=j)(h4:j<=4)(g:zD P (.list (List.replicate j.toNat x)) Q s):wpAny (model prog w) A (binaryOp .Mult (.ref a) (.int j u)) Q E s:=by
 obtain⟨cls,d,data,sl⟩:=oa;simp only at ca da;subst ca da;have la:va.size=1:=z8 ra;have hsz':va.size*j.toNat<=2 ^ 24:=by rw[la];have:(2:Nat) ^ 24=16777216:=(by decide);lia
 refine wpAny_binaryOp_repeat_ref (T:="list") (U:="int") (by decide) ⟨_,ha,rfl⟩ (fun s'=>typeIs_int s' j u) noFill_list_mul F.fills_int_mul F.slot_int_rmul repeat_list F.slot_int_index.lookup
  (call_meets F.slot_int_rmul (typeIs_int s j u) F.entry_int_rmul (F.args_int_rmul_2 _ _) (lm_int_rmul_list_any j u a va na d sl)
   ⟨ha,rfl,⟨_,ha,rfl⟩,call_meets F.slot_list_mul ⟨_,ha,rfl⟩ F.entry_list_mul (F.args_list_mul_2 _ _)
    (lm_list_mul_any a va na d sl j u (by simp[Builtin.List.listFitsIndex];lia) (by lia) (by simp[Builtin.List.listTooLong,sizeLine];assumption))
    ⟨ha,?_⟩⟩)
 obtain⟨l⟩:=va;obtain⟨v,rfl⟩:∃v,l=[v]:=List.length_eq_one_iff.mp la;refine g _ _ s.toks (zA.push _ _) ?_;have hr:Rep P s.heap v x:=by
  have ra':zi P s.heap [v] [x]:=ra;cases ra';assumption
 refine jQ hP ?_ (by simp;have:zp=1048576:=(by decide);lia);have e:(List.foldl (fun x1 x2=>x1++x2) #[] (List.replicate (if(#[v]:Array Value).isEmpty=true then 0 else j.toNat) #[v])).toList=List.replicate j.toNat v:=by
  have q:∀(n:Nat) (acc:Array Value),(List.foldl (fun x1 x2=>x1++x2) acc (List.replicate n #[v])).toList=acc.toList++List.replicate n v:=by
   intro n;induction n with
   |zero=>intro acc;simp
   |succ n ih=>intro acc;rw[List.replicate_succ,List.foldl_cons,ih];simp[List.replicate_succ]
  exact q j.toNat #[]
 rw[e];exact zi.replicate hr _
theorem zl5{a b:Value}{da db d:D}{Q:Value->Shared->Prop}(hP:km P s.heap)(ra:zl prog w T P s.heap a da)(rb:zl prog w T P s.heap b db)
  (h:zdx da db=.ok d)(g:zD P d Q s):wpAny (model prog w) A (binaryOp .Add a b) Q E s:=by
 induction da using PyData.casesOn with
 |int i=>
  obtain⟨j,rfl,h⟩:=jG h;clear h
  (obtain rfl:=okI h;clear h)
  obtain⟨t,rfl⟩:=ra.inv_int;obtain⟨u,rfl⟩:=rb.inv_int;exact wpAny_add_int (g.here (.int _ _) _)
 |str x=>
  obtain⟨y,rfl,h⟩:=zaW h;clear h;obtain⟨hz,h⟩:=ifS h
  (obtain rfl:=okI h;clear h)
  obtain⟨t,rfl,h1,_⟩:=ra.inv_str;obtain⟨u,rfl,h2,_⟩:=rb.inv_str;exact PyProof.Rows.add_str (fun t' tk=>g.here (.str _ _ (zbr h1 h2) hz) _) (by
   rw[Str.length_append] at hz;exact qA hz zbE)
 |list xs=>
  obtain⟨ys,rfl,h⟩:=ze0 h;clear h;obtain⟨hz,h⟩:=ifS h
  (obtain rfl:=okI h;clear h)
  obtain⟨a,oa,va,na,rfl,ha,ca,_,da,ra,_⟩:=ra.inv_list;clear ra;obtain⟨b,ob,vb,nb,rfl,hb,cb,_,db,rb,_⟩:=rb.inv_list;clear rb;exact zfc hP ha ca da ra hb cb db rb hz g
 |tuple xs=>
  obtain⟨ys,rfl,h⟩:=zpm h;clear h;obtain⟨hz,h⟩:=ifS h
  (obtain rfl:=okI h;clear h)
  obtain⟨a,oa,va,na,rfl,pa,ha,ca,da,ra,_⟩:=ra.inv_tuple;clear ra;obtain⟨b,ob,vb,nb,rfl,pb,hb,cb,db,rb,_⟩:=rb.inv_tuple;clear rb;exact zem hP pa pb ha ca da ra hb cb db rb hz g
 |_=>exact ns h
end
end Mine
namespace Mine
open PySem PyProof.Rows PySem.Calls
section
variable{prog:Program}{w:World}{A:Around}{E:Value->Shared->Prop}{s:Shared}{P T T':Addr->Prop}{Q:Value->Shared->Prop}{a b:Value}{da db d:D}
theorem zma(ra:zl prog w T P s.heap a da)(rb:zl prog w T' P s.heap b db)(h:zrk da db=.ok d)(g:zD P d Q s):
  wpAny (model prog w) A (binaryOp .Sub a b) Q E s:=by
 obtain⟨i,j,rfl,rfl,h⟩:=zaG h;clear h
 (obtain rfl:=okI h;clear h)
 obtain⟨t,rfl⟩:=ra.inv_int;obtain⟨u,rfl⟩:=rb.inv_int;exact PyProof.Rows.sub_int (g.here (.int _ _) _)
theorem zmN(ra:zl prog w T P s.heap a da)(rb:zl prog w T' P s.heap b db)(h:zh7 da db=.ok d)(g:zD P d Q s):
  wpAny (model prog w) A (binaryOp .Mod a b) Q E s:=by
 obtain⟨i,j,rfl,rfl,h⟩:=zaG h;clear h;obtain⟨hj,h⟩:=ifS h
 (obtain rfl:=okI h;clear h)
 obtain⟨t,rfl⟩:=ra.inv_int;obtain⟨u,rfl⟩:=rb.inv_int;refine PyProof.Rows.mod_int (by lia) ?_;rw[Int.fmod_eq_emod_of_nonneg i (by exact Int.le_of_lt ‹_›)];exact g.here (.int _ _) _
theorem zjD(ra:zl prog w T P s.heap a da)(rb:zl prog w T' P s.heap b db)(h:ztr da db=.ok d)(g:zD P d Q s):
  wpAny (model prog w) A (binaryOp .FloorDiv a b) Q E s:=by
 obtain⟨i,j,rfl,rfl,h⟩:=zaG h;clear h;obtain⟨hj,h⟩:=ifS h
 (obtain rfl:=okI h;clear h)
 obtain⟨t,rfl⟩:=ra.inv_int;obtain⟨u,rfl⟩:=rb.inv_int;refine AutoIntOps.floordiv_1 (by simp;lia) ?_ ?_
 ·have:=PyProof.noPylong_small (x:=i) (y:=j) (by lia);rw[this];trivial
 ·rw[Int.fdiv_eq_ediv_of_nonneg i (by lia)];exact g.here (.int _ _) _
theorem zlJ(hP:km P s.heap)(ra:zl prog w T P s.heap a da)(rb:zl prog w T' P s.heap b db)(h:zeG da db=.ok d)(g:zD P d Q s):
  wpAny (model prog w) A (binaryOp .Mult a b) Q E s:=by
 induction da using PyData.casesOn with
 |int i=>
  obtain⟨j,rfl,h⟩:=jG h;clear h;obtain⟨hs,h⟩:=ifS h
  (obtain rfl:=okI h;clear h)
  obtain⟨t,rfl⟩:=ra.inv_int;obtain⟨u,rfl⟩:=rb.inv_int;exact PyProof.Rows.mul_int (g.here (.int _ _) _) (zmP hs)
 |list xs=>
  obtain⟨j,rfl,h⟩:=jG h;clear h;obtain⟨x,rfl,h⟩:=zqg h;clear h;obtain⟨hj,h⟩:=ifS h
  (obtain rfl:=okI h;clear h)
  obtain⟨a,oa,va,na,rfl,ha,ca,_,da,ra,_⟩:=ra.inv_list;clear ra;obtain⟨u,rfl⟩:=rb.inv_int;exact zeK hP ha ca da ra hj.1 hj.2 g
 |_=>exact ns h
theorem zit{op:Operator}{o:Bin}(hP:km P s.heap)(hop:zgj op=some o)(ra:zl prog w T P s.heap a da)(rb:zl prog w T P s.heap b db)
  (h:bin o da db=.ok d)(g:zD P d Q s):wpAny (model prog w) A (binaryOp op a b) Q E s:=by
 induction op using PySem.Operator.casesOn with
 |Add=>(obtain rfl:=soI hop;clear hop);exact zl5 hP ra rb h g
 |Sub=>(obtain rfl:=soI hop;clear hop);exact zma ra rb h g
 |Mult=>(obtain rfl:=soI hop;clear hop);exact zlJ hP ra rb h g
 |Mod=>(obtain rfl:=soI hop;clear hop);exact zmN ra rb h g
 |FloorDiv=>(obtain rfl:=soI hop;clear hop);exact zjD ra rb h g
 |_=>exact nn hop
theorem zv5(hu:A.units+4001<cLine)(ra:zl prog w T P s.heap a da)(rb:zl prog w T' P s.heap b db)(h:eqD da db=.ok d)(g:zD P d Q s):
  wpAny (model prog w) A (compareOp .Eq a b) Q E s:=by
 obtain⟨hc,h⟩:=zon h
 (obtain rfl:=okI h;clear h)
 simp only[Bool.or_eq_true,not_or,Bool.not_eq_true,deep,decide_eq_false_iff_not] at hc;obtain⟨⟨_,q1⟩,l1⟩:=ra.reads hc.1.1;obtain⟨⟨_,q2⟩,l2⟩:=rb.reads hc.1.2;exact PySem.SeqAt.compareEq_reads q1 q2 l1 l2 (by lia) (g.here (.bool _) s.toks)
theorem zvx(hu:A.units+4001<cLine)(ra:zl prog w T P s.heap a da)(rb:zl prog w T' P s.heap b db)(h:neD da db=.ok d)(g:zD P d Q s):
  wpAny (model prog w) A (compareOp .NotEq a b) Q E s:=by
 obtain⟨hc,h⟩:=zon h
 (obtain rfl:=okI h;clear h)
 simp only[Bool.or_eq_true,not_or,Bool.not_eq_true,deep,decide_eq_false_iff_not] at hc;obtain⟨⟨_,q1⟩,l1⟩:=ra.reads hc.1.1;obtain⟨⟨_,q2⟩,l2⟩:=rb.reads hc.1.2;exact PySem.SeqAt.compareNe_reads q1 q2 l1 l2 (by lia) (g.here (.bool _) s.toks)
theorem zvu(ra:zl prog w T P s.heap a da)(rb:zl prog w T' P s.heap b db)(h:gtD da db=.ok d)(g:zD P d Q s):
  wpAny (model prog w) A (compareOp .Gt a b) Q E s:=by
 obtain⟨i,j,rfl,rfl,h⟩:=zaG h;clear h
 (obtain rfl:=okI h;clear h)
 obtain⟨t,rfl⟩:=ra.inv_int;obtain⟨u,rfl⟩:=rb.inv_int;exact PyProof.Rows.gt_int (g.here (.bool _) s.toks)
theorem zv3(ra:zl prog w T P s.heap a da)(rb:zl prog w T' P s.heap b db)(h:leD da db=.ok d)(g:zD P d Q s):
  wpAny (model prog w) A (compareOp .LtE a b) Q E s:=by
 obtain⟨i,j,rfl,rfl,h⟩:=zaG h;clear h
 (obtain rfl:=okI h;clear h)
 obtain⟨t,rfl⟩:=ra.inv_int;obtain⟨u,rfl⟩:=rb.inv_int;exact PyProof.Rows.le_int (g.here (.bool _) s.toks)
theorem zuN(ra:zl prog w T P s.heap a da)(rb:zl prog w T' P s.heap b db)(h:geD da db=.ok d)(g:zD P d Q s):
  wpAny (model prog w) A (compareOp .GtE a b) Q E s:=by
 obtain⟨i,j,rfl,rfl,h⟩:=zaG h;clear h
 (obtain rfl:=okI h;clear h)
 obtain⟨t,rfl⟩:=ra.inv_int;obtain⟨u,rfl⟩:=rb.inv_int;exact PyProof.Rows.ge_int (g.here (.bool _) s.toks)
theorem zc6(x:Str)(c:Nat):Txt.contains x ⟨#[c]⟩=x.cps.contains c:=by
 unfold Txt.contains;rw[StrLaws.found_one];obtain⟨⟨l⟩⟩:=x;simp
theorem KVs.get{h:Heap}{K:Type}[DecidableEq K]{enc:K->D}{l:List (K×Value)}{kvs:List (D×D)}(r:KVs P h enc l kvs)(hs:∀i j,jS (enc i) (enc j)=decide (i=j))(k:K):
  (valueAt l k=none/\kD kvs (enc k)=none)\/∃v d,valueAt l k=some v/\kD kvs (enc k)=some d/\Rep P h v d:=by
 induction r with
 |nil=>exact .inl ⟨rfl,rfl⟩
 |@cons k' v' d' l' kvs' rr r ih=>
  by_cases e:k'=k
  ·refine .inr ⟨v',d',?_,?_,rr⟩
   ·simp[valueAt,e]
   ·simp[zgy,hs,e]
  ·have e1:valueAt ((k',v')::l') k=valueAt l' k:=by simp[valueAt,e]
   have e2:kD ((enc k',d')::kvs') (enc k)=kD kvs' (enc k):=by simp[zgy,hs,e]
   rw[e1,e2];exact ih
theorem KVH.get{h:Heap}{l:List (List Int×Addr×Value)}{kvs:List (D×D)}(r:KVH P h l kvs)(i j:Int):
  (atKey l [i,j]=none/\kD kvs (.tuple [.int i,.int j])=none)\/∃a v d,atKey l [i,j]=some (a,v)/\kD kvs (.tuple [.int i,.int j])=some d/\Rep P h v d:=by
 induction r with
 |nil=>exact .inl ⟨rfl,rfl⟩
 |@cons i' j' a' v' d' l' kvs' _ rr r ih=>
  by_cases e:i'=i/\j'=j
  ·refine .inr ⟨a',v',d',?_,?_,rr⟩
   ·simp[atKey,e]
   ·show(if(i'==i&&(j'==j&&true))=true then some d' else _)=_;rw[e.1,e.2];simp
  ·have e1:atKey (([i',j'],a',v')::l') [i,j]=atKey l' [i,j]:=by
    have:decide ([i',j']=[i,j])=false:=by simpa using e
    unfold atKey;rw[List.find?_cons];simp only[this]
   have e2:kD ((.tuple [.int i',.int j'],d')::kvs') (.tuple [.int i,.int j])=kD kvs' (.tuple [.int i,.int j]):=by
    show(if(i'==i&&(j'==j&&true))=true then some d' else _)=_;rw[if_neg (by simpa using e)]
   rw[e1,e2];exact ih
theorem KVs.nil_inv{h:Heap}{K:Type}{enc:K->D}{l:List (K×Value)}(r:KVs P h enc l []):l=[]:=by cases r;rfl
theorem KVH.nil_inv{h:Heap}{l:List (List Int×Addr×Value)}(r:KVH P h l []):l=[]:=by cases r;rfl
theorem KVs.kind{h:Heap}{K:Type}{enc:K->D}{l:List (K×Value)}{kvs:List (D×D)}{k:D}(r:KVs P h enc l kvs)(hk:(kvs.all fun kv=>zE kv.1 k)=true)(hn:∀x,zE (enc x) k=false):kvs=[]:=by
 induction r using KVs.casesOn with
 |nil=>rfl
 |cons _ _=>exact ff ((hn _).symm.trans (an1 hk))
theorem KVH.kind{h:Heap}{l:List (List Int×Addr×Value)}{kvs:List (D×D)}{k:D}(r:KVH P h l kvs)(hk:(kvs.all fun kv=>zE kv.1 k)=true)(hn:∀x,zE (.tuple x) k=false):kvs=[]:=by
 induction r using KVH.casesOn with
 |nil=>rfl
 |cons _ _=>exact ff ((hn _).symm.trans (an1 hk))
theorem zdi{K K':Type}[DecidableEq K][DecidableEq K']{knd:KeyKind prog w K}{knd':KeyKind prog w K'}{h:Heap}{x:Addr}(m:h.DictOf knd x []):h.DictOf knd' x []:=by
 obtain⟨o,es,ep,ho,he,hd,hk,hp,hn⟩:=m;have e:es=#[]:=by
  have:es.toList=[]:=by generalize es.toList=l at hp;cases hp;rfl
  exact Array.toList_inj.mp this
 subst e;exact⟨o,#[],ep,ho,he,hd,fun e he=>by simp at he,.nil,by simp⟩
theorem zct{K K':Type}[DecidableEq K][DecidableEq K']{knd:KeyKind prog w K}{knd':HeapKind prog w K'}{h:Heap}{x:Addr}(m:h.DictOf knd x []):h.DictOfH knd' x []:=by
 obtain⟨o,es,ep,ho,he,hd,hk,hp,hn⟩:=m;have e:es.toList=[]:=by generalize es.toList=l at hp;cases hp;rfl
 exact⟨o,es,ep,ho,he,hd,by exact e,fun _ hx=>by exact absurd hx List.not_mem_nil,by simp⟩
theorem zcn{K K':Type}[DecidableEq K][DecidableEq K']{knd:HeapKind prog w K}{knd':KeyKind prog w K'}{h:Heap}{x:Addr}(m:h.DictOfH knd x []):h.DictOf knd' x []:=by
 obtain⟨o,es,ep,ho,he,hd,hp,hi,hn⟩:=m;have e:es=#[]:=Array.toList_inj.mp (hp);subst e;exact⟨o,#[],ep,ho,he,hd,fun e he=>by simp at he,.nil,by simp⟩
theorem zu.int{h:Heap}{x:Addr}{kvs:List (D×D)}{i:Int}(r:zu prog w P h x kvs)(hk:(kvs.all fun kv=>zE kv.1 (.int i))=true):
  ∃l,h.DictOf (intKind prog w) x l/\KVs P h PyData.int l kvs:=by
 obtain⟨_,_,⟨l,m,q⟩|⟨l,m,q⟩|⟨l,m,q⟩⟩:=r
 ·exact⟨l,m,q⟩
 ·have e:=q.kind hk (fun _=>rfl);subst e;have e:=q.nil_inv;subst e;exact⟨[],zdi m,.nil⟩
 ·have e:=q.kind hk (fun _=>rfl);subst e;have e:=q.nil_inv;subst e;exact⟨[],zcn m,.nil⟩
theorem zu.str{h:Heap}{x:Addr}{kvs:List (D×D)}{i:Str}(r:zu prog w P h x kvs)(hk:(kvs.all fun kv=>zE kv.1 (.str i))=true):
  ∃l,h.DictOf (strKind prog w) x l/\KVs P h PyData.str l kvs:=by
 obtain⟨_,_,⟨l,m,q⟩|⟨l,m,q⟩|⟨l,m,q⟩⟩:=r
 ·have e:=q.kind hk (fun _=>rfl);subst e;have e:=q.nil_inv;subst e;exact⟨[],zdi m,.nil⟩
 ·exact⟨l,m,q⟩
 ·have e:=q.kind hk (fun _=>rfl);subst e;have e:=q.nil_inv;subst e;exact⟨[],zcn m,.nil⟩
theorem zu.tup{h:Heap}{x:Addr}{kvs:List (D×D)}{i:List D}(r:zu prog w P h x kvs)(hk:(kvs.all fun kv=>zE kv.1 (.tuple i))=true):
  ∃l,h.DictOfH (tupleKind (intKind prog w)) x l/\KVH P h l kvs:=by
 obtain⟨_,_,⟨l,m,q⟩|⟨l,m,q⟩|⟨l,m,q⟩⟩:=r
 ·have e:=q.kind hk (fun _=>rfl);subst e;have e:=q.nil_inv;subst e;exact⟨[],zct m,.nil⟩
 ·have e:=q.kind hk (fun _=>rfl);subst e;have e:=q.nil_inv;subst e;exact⟨[],zct m,.nil⟩
 ·exact⟨l,m,q⟩
theorem zgV{a b:D}(h:jS a b=true):zaY a=zaY b/\zaY a≠0:=by
 induction a using PyData.casesOn with
 |int i=>induction b using PyData.casesOn with
  |int=>exact⟨rfl,nofun⟩
  |_=>exact ff h
 |str i=>induction b using PyData.casesOn with
  |str=>exact⟨rfl,nofun⟩
  |_=>exact ff h
 |tuple i=>induction b using PyData.casesOn with
  |tuple=>exact⟨rfl,nofun⟩
  |_=>exact ff h
 |_=>exact ff h
theorem zrM{a b:D}(h:zaY a=zaY b)(h0:zaY a≠0):zE a b=true:=by
 simp[zE,h0,←h]
theorem zo8{k d:D}{kvs:List (D×D)}(h:kD kvs k=some d):∃kv∈kvs,jS kv.1 k=true:=by
 induction kvs with
 |nil=>exact nn h
 |cons kv r ih=>
  rcases ifo h with⟨e,_⟩|⟨_,h⟩
  ·exact⟨_,.head _,e⟩
  ·obtain⟨kv,hm,hs⟩:=ih h;exact⟨kv,.tail _ hm,hs⟩
theorem KVs.kinds{h:Heap}{K:Type}{enc:K->D}{c:Nat}(hc:∀k,zaY (enc k)=c){l:List (K×Value)}{kvs:List (D×D)}(r:KVs P h enc l kvs):∀kv∈kvs,zaY kv.1=c:=by
 induction r with
 |nil=>exact nofun
 |cons _ _ ih=>
  intro kv hm;cases hm with
  |head=>exact hc _
  |tail _ hm=>exact ih kv hm
theorem KVH.kinds{h:Heap}{l:List (List Int×Addr×Value)}{kvs:List (D×D)}(r:KVH P h l kvs):∀kv∈kvs,zaY kv.1=3:=by
 induction r with
 |nil=>exact nofun
 |cons _ _ _ ih=>
  intro kv hm;cases hm with
  |head=>rfl
  |tail _ hm=>exact ih kv hm
theorem zu.kind_of_get{h:Heap}{x:Addr}{kvs:List (D×D)}{k d:D}(r:zu prog w P h x kvs)(hg:kD kvs k=some d):(kvs.all fun kv=>zE kv.1 k)=true:=by
 obtain⟨kv,hm,hs⟩:=zo8 hg;have ⟨e1,e2⟩:=zgV hs;have key:∀c,(∀kv∈kvs,zaY kv.1=c)->(kvs.all fun kv=>zE kv.1 k)=true:=fun c hc=>
  List.all_eq_true.mpr fun kv' hm'=>zrM (((hc _ hm').trans (hc _ hm).symm).trans e1) (by rw[hc _ hm',←hc _ hm];exact e2)
 obtain⟨_,_,⟨l,_,q⟩|⟨l,_,q⟩|⟨l,_,q⟩⟩:=r
 ·exact key 1 (KVs.kinds (c:=1) (fun _=>rfl) q)
 ·exact key 2 (KVs.kinds (c:=2) (fun _=>rfl) q)
 ·exact key 3 q.kinds
theorem zaH(i j:Int):jS (.int i) (.int j)=decide (i=j):=rfl
theorem zaC(i j:Str):jS (.str i) (.str j)=decide (i=j):=by
 show(i==j)=_;by_cases h:i=j<;>rfl
end
end Mine
namespace Mine
open PySem PyProof.Rows PySem.Calls
section
variable{prog:Program}{w:World}{A:Around}{E:Value->Shared->Prop}{s:Shared}{P T T':Addr->Prop}{Q:Value->Shared->Prop}{a b:Value}{da db d:D}
theorem zmH{n:Nat}(h:n<=zp):(n:Int)<2 ^ 63:=by
 have e:zp=1048576:=by decide
 have e':(2:Int) ^ 63=9223372036854775808:=by decide
 lia
theorem zlX(ra:zl prog w T P s.heap a da)(h:zdU da=.ok d)(g:zD P d Q s):
  wpAny (model prog w) A (call (.builtin "len") [a]) Q E s:=by
 induction da using PyData.casesOn with
 |str x=>
  (obtain rfl:=okI h;clear h)
  obtain⟨t,rfl,_,hz⟩:=ra.inv_str;exact PyProof.Rows.len_str (by have:=zmH hz;exact Int.not_le.mpr ‹_›) (g.here (.int _ _) _)
 |list xs=>
  (obtain rfl:=okI h;clear h)
  obtain⟨a,oa,va,na,rfl,ha,ca,_,da,rr,hz⟩:=ra.inv_list;refine call_len_list (zal ha ca da) (by rw[z8 rr];exact zmH hz) ?_;rw[z8 rr];exact g.here (.int _ _) _
 |tuple xs=>
  (obtain rfl:=okI h;clear h)
  obtain⟨a,oa,va,na,rfl,_,ha,ca,da,rr,hz⟩:=ra.inv_tuple;refine PyProof.Rows.len_tuple (zdj ha ca da) (by rw[z8 rr];exact zmH hz) ?_;rw[z8 rr];exact g.here (.int _ _) _
 |_=>exact ns h
theorem k9{i:Int}{n j:Nat}(h:seqIndex? i n=some j):-(n:Int)<=i/\i<n/\j<n/\(0<=i->j=i.toNat)/\(i<0->j=(i+n).toNat):=by
 unfold seqIndex? at h;dsimp only at h;by_cases hi:i<0
 ·rw[if_pos hi] at h;by_cases c:(decide (0<=i+(n:Int))&&decide (i+(n:Int)<n))=true
  ·rw[if_pos c] at h;have e:=soI h;have c1:=of_decide_eq_true (an1 c);have c2:=of_decide_eq_true (an2 c);clear h c;exact⟨by clear c2 e hi;lia,Int.lt_of_lt_of_le hi (Int.natCast_nonneg n),e▸(Int.toNat_lt c1).mpr c2,fun h0=>absurd hi (Int.not_lt.mpr h0),fun _=>e.symm⟩
  ·rw[if_neg c] at h;exact nn h
 ·rw[if_neg hi] at h;by_cases c:(decide (0<=i)&&decide (i<(n:Int)))=true
  ·rw[if_pos c] at h;have e:=soI h;have c1:=of_decide_eq_true (an1 c);have c2:=of_decide_eq_true (an2 c);exact⟨Int.le_trans (Int.neg_nonpos_of_nonneg (Int.natCast_nonneg n)) c1,c2,e▸(Int.toNat_lt c1).mpr c2,fun _=>e.symm,fun h=>absurd h hi⟩
  ·rw[if_neg c] at h;exact nn h
theorem zfH(p len:Nat):seqIndex? (p:Int) len=if p<len then some p else none:=by
 unfold seqIndex?;have h:¬((p:Int)<0):=by lia
 simp only[h,if_false];by_cases hp:p<len
 ·rw[if_pos hp,if_pos (by simp;assumption)];rfl
 ·rw[if_neg hp,if_neg (by simp;exact Nat.not_lt.mp ‹_›)]
inductive NI{α:Type}(xs:List α)(i:Int)(d:α):Prop
 |mk(j:Nat)(hj:seqIndex? i xs.length=some j)(hx:xs[j]?=some d)
theorem zos{α:Type}{xs:List α}{k:Nat}{d:α}(h:xs[k]?=some d):NI xs (k:Nat) d:=
 ⟨k,by rw[zfH,if_pos (List.getElem?_eq_some_iff.mp h).1],h⟩
theorem znf{xs:List D}{i:Int}{d:D}(h:nth xs i=.ok d):NI xs i d:=by
 induction i using Int.casesOn with
 |ofNat k=>exact zos (jh h)
 |negSucc k=>
  obtain⟨j,h1,h2⟩:=ob (jh h);exact⟨j,h1,h2⟩
theorem zsc{x:Str}{i:Int}{c:Nat}(h:zs0 x i=.ok c):NI x.cps.toList i c:=by
 induction i using Int.casesOn with
 |ofNat k=>exact zos (jh h)
 |negSucc k=>
  obtain⟨j,h1,h2⟩:=ob (jh h);exact⟨j,by exact h1,by simpa using h2⟩
theorem ztj{kvs:List (D×D)}{x:Addr}{i:Int}{t:Tok}{d:D}(r:zu prog w P s.heap x kvs)(hkd:(kvs.all fun kv=>zE kv.1 (.int i))=true)(h:kD kvs (.int i)=some d)(g:zD P d Q s):wpAny (model prog w) A (getItem (.ref x) (.int i t)) Q E s:=by
 obtain⟨l,m,q⟩:=r.int hkd;rcases q.get zaH _ with⟨_,e⟩|⟨v,d',e1,e2,rv⟩
 ·rw[h] at e;exact sn e
 ·rw[h] at e2;(obtain rfl:=soI e2;clear e2);exact wpAny_getItem_of (knd:=intKind prog w) (by simp[intKind,Value.isInt]) m.mapOf e1 (g.here rv _)
theorem ztc{kvs:List (D×D)}{x:Addr}{i:Str}{t:Tok}{d:D}(r:zu prog w P s.heap x kvs)(hkd:(kvs.all fun kv=>zE kv.1 (.str i))=true)(h:kD kvs (.str i)=some d)(g:zD P d Q s):wpAny (model prog w) A (getItem (.ref x) (.str i t)) Q E s:=by
 obtain⟨l,m,q⟩:=r.str hkd;rcases q.get zaC _ with⟨_,e⟩|⟨v,d',e1,e2,rv⟩
 ·rw[h] at e;exact sn e
 ·rw[h] at e2;(obtain rfl:=soI e2;clear e2);exact wpAny_getItem_of (knd:=strKind prog w) (by simp[PySem.strKind,Value.isStrOf]) m.mapOf e1 (g.here rv _)
inductive K2(xs:List D):Prop
 |mk(i j:Int)(e:xs=[.int i,.int j])(h:(i=0\/i=1)/\(j=0\/j=1))
theorem zkT{d:D}(h:zvJ d=true):∃i,d=.int i/\(i=0\/i=1):=by
 induction d using PyData.casesOn with
 |int i=>exact⟨i,rfl,of_decide_eq_true h⟩
 |_=>exact ff h
theorem zdo{xs:List D}(h:zmg xs=true):K2 xs:=by
 induction xs using List.casesOn with
 |nil=>exact ff h
 |cons x r=>induction r using List.casesOn with
  |nil=>exact ff (an2 h)
  |cons y r=>
   obtain⟨i,rfl,hi⟩:=zkT (an1 h);obtain⟨j,rfl,hj⟩:=zkT (an1 (an2 h));cases emp (an2 (an2 h));exact⟨i,j,rfl,hi,hj⟩
theorem zaO{h:Heap}{x:Addr}{o:Obj}{vk:Array Value}{n:Nat}{i j:Int}(ho:h.get? x=some o)(hc:o.cls=.type "tuple")(hd:o.data=.seq vk n)(r:zi P h vk.toList [.int i,.int j]):
  (tupleKind (intKind prog w)).is h [i,j] x:=by
 refine⟨o,vk,n,ho,hc,hd,?_⟩;generalize vk.toList=lk at r;cases r with
 |cons r1 r2=>cases r2 with
  |cons r3 r4=>cases r4;cases r1;cases r3;exact .cons (by simp[intKind,Value.isInt]) (.cons (by simp[intKind,Value.isInt]) .nil)
theorem zrB(hu:A.units+1<cLine){kvs:List (D×D)}{x:Addr}{xs:List D}(rb:zl prog w T' P s.heap b (.tuple xs))(hk:zmg xs=true)(r:zu prog w P s.heap x kvs)(hkd:(kvs.all fun kv=>zE kv.1 (.tuple xs))=true)(h:kD kvs (.tuple xs)=some d)(g:zD P d Q s):wpAny (model prog w) A (getItem (.ref x) b) Q E s:=by
 obtain⟨i,j,rfl,_⟩:=zdo hk;obtain⟨kb,ok,vk,nk,rfl,_,hok,cok,dok,rk,_⟩:=rb.inv_tuple;obtain⟨l,m,q⟩:=r.tup hkd;rcases q.get i j with⟨_,e⟩|⟨ka,v,d',e1,e2,rv⟩
 ·rw[h] at e;exact sn e
 ·rw[h] at e2;(obtain rfl:=soI e2;clear e2);exact wpAny_getItem_heap (knd:=tupleKind (intKind prog w)) (k:=[i,j]) (tupleKind_room_in1 hu) (zaO hok cok dok rk) m e1 (g.here rv _)
theorem zoc{a:Addr}{oa:Obj}{va:Array Value}{na:Nat}{xs:List D}{i:Int}{t:Tok}(ha:s.heap.get? a=some oa)(ca:oa.cls=.type "list")(da:oa.data=.seq va na)(ra:zi P s.heap va.toList xs)(hz:xs.length<=zp)(h:nth xs i=.ok d)(g:zD P d Q s):
  wpAny (model prog w) A (getItem (.ref a) (.int i t)) Q E s:=by
 obtain⟨j,hj,hx⟩:=znf h;obtain⟨v,hv,rv⟩:=ra.get hx;have hb:=k9 hj;have h63:=zmH hz;have hv':va[j]?=some v:=by simpa using hv
 have hn:=z8 ra;by_cases h0:0<=i
 ·refine wpAny_getItem_list (zal ha ca da) h0 (Int.lt_trans hb.2.1 h63) ?_ (g.here rv s.toks);rw[←hb.2.2.2.1 h0];exact hv'
 ·refine wpAny_getItem_list_neg (zal ha ca da) (Int.not_le.mp h0) (by rw[hn];exact hb.1) (by lia) ?_ (g.here rv s.toks);rw[hn,←hb.2.2.2.2 (Int.not_le.mp h0)];exact hv'
theorem zmG{a:Addr}{oa:Obj}{va:Array Value}{na:Nat}{xs:List D}{i:Int}{t:Tok}(ha:s.heap.get? a=some oa)(ca:oa.cls=.type "tuple")(da:oa.data=.seq va na)(ra:zi P s.heap va.toList xs)(hz:xs.length<=zp)(h:nth xs i=.ok d)(g:zD P d Q s):
  wpAny (model prog w) A (getItem (.ref a) (.int i t)) Q E s:=by
 obtain⟨j,hj,hx⟩:=znf h;obtain⟨v,hv,rv⟩:=ra.get hx;have hb:=k9 hj;have h63:=zmH hz;exact PyProof.Rows.getItem_tuple (zdj ha ca da) (by lia) (by lia) (by rw[z8 ra];exact hj) (by simpa using hv) (g.here rv s.toks)
theorem zsS{x:Str}{i:Int}{t u:Tok}{c:Nat}(h1:PyData.strOk x=true)(hz:x.length<=zp)(h:zs0 x i=.ok c)(g:zD P (.str ⟨#[c]⟩) Q s):
  wpAny (model prog w) A (getItem (.str x t) (.int i u)) Q E s:=by
 obtain⟨j,hj,hx⟩:=zsc h;have hb:=k9 hj;have h63:=zmH hz;have hl:x.cps.toList.length=x.length:=by rfl
 have hc:(seqIndex? i x.length).bind (x.cps[·]?)=some c:=by rw[←hl,hj];simpa using hx
 refine PyProof.Rows.getItem_str (by simp;lia) hc (g.here (.str _ _ ?_ (show 1<=zp by decide)) _);have q:c<0x110000:=by
  have:=Array.all_eq_true.mp h1 j (hb.2.2.1);obtain⟨hlt,hx⟩:=List.getElem?_eq_some_iff.mp hx;subst hx
  simpa using this
 simpa [PyData.strOk] using q
theorem zlP(hu:A.units+1<cLine)(ra:zl prog w T P s.heap a da)(rb:zl prog w T' P s.heap b db)(h:jg da db=.ok d)(g:zD P d Q s):
  wpAny (model prog w) A (getItem a b) Q E s:=by
 induction da using PyData.casesOn with
 |list xs=>
  obtain⟨i,rfl,h⟩:=jG h;clear h;obtain⟨a,oa,va,na,rfl,ha,ca,_,da,rr,hz⟩:=ra.inv_list;obtain⟨t,rfl⟩:=rb.inv_int;exact zoc ha ca da rr hz h g
 |tuple xs=>
  obtain⟨i,rfl,h⟩:=jG h;clear h;obtain⟨a,oa,va,na,rfl,_,ha,ca,da,rr,hz⟩:=ra.inv_tuple;obtain⟨t,rfl⟩:=rb.inv_int;exact zmG ha ca da rr hz h g
 |str x=>
  obtain⟨i,rfl,h⟩:=jG h;clear h;obtain⟨c,h1,h⟩:=Mine.rb h
  (obtain rfl:=okI h;clear h)
  obtain⟨t,rfl,h2,hz⟩:=ra.inv_str;obtain⟨u,rfl⟩:=rb.inv_int;exact zsS h2 hz h1 g
 |dict kvs=>
  replace h:=ifS h;obtain⟨hk,h⟩:=h;have h:=jh h;obtain⟨x,rfl,r⟩:=ra.inv_dict;have hkd:=r.kind_of_get h;induction db using PyData.casesOn with
  |int i=>obtain⟨t,rfl⟩:=rb.inv_int;exact ztj r hkd h g
  |str i=>obtain⟨t,rfl,_⟩:=rb.inv_str;exact ztc r hkd h g
  |tuple xs=>exact zrB hu rb hk r hkd h g
  |_=>exact ff hk
 |_=>exact ns h
end
end Mine
namespace Mine
open PySem PyProof.Rows PySem.Calls
section
variable{prog:Program}{w:World}{A:Around}{E:Value->Shared->Prop}{s:Shared}{P T T':Addr->Prop}{Q:Value->Shared->Prop}{a b:Value}{da db d:D}
theorem zwo{kvs:List (D×D)}{x:Addr}{i:Int}{t:Tok}(r:zu prog w P s.heap x kvs)(hkd:(kvs.all fun kv=>zE kv.1 (.int i))=true)(g:zD P (.bool (kD kvs (.int i)).isSome) Q s):wpAny (model prog w) A (compareOp .In (.int i t) (.ref x)) Q E s:=by
 obtain⟨l,m,q⟩:=r.int hkd;refine wpAny_in_of (knd:=intKind prog w) (k:=i) (by simp[intKind,Value.isInt]) r.1 m.mapOf ?_;rcases q.get zaH _ with⟨e1,e2⟩|⟨v,d',e1,e2,rv⟩<;>(rw[e1];rw[e2] at g;exact g.here (.bool _) _)
theorem zvX{kvs:List (D×D)}{x:Addr}{i:Str}{t:Tok}(r:zu prog w P s.heap x kvs)(hkd:(kvs.all fun kv=>zE kv.1 (.str i))=true)(g:zD P (.bool (kD kvs (.str i)).isSome) Q s):wpAny (model prog w) A (compareOp .In (.str i t) (.ref x)) Q E s:=by
 obtain⟨l,m,q⟩:=r.str hkd;refine wpAny_in_of (knd:=PySem.strKind prog w) (k:=i) (by simp[PySem.strKind,Value.isStrOf]) r.1 m.mapOf ?_;rcases q.get zaC _ with⟨e1,e2⟩|⟨v,d',e1,e2,rv⟩<;>(rw[e1];rw[e2] at g;exact g.here (.bool _) _)
theorem zu3(hu:A.units+4002<cLine){kvs:List (D×D)}{x:Addr}{xs:List D}(ra:zl prog w T P s.heap a (.tuple xs))(hk:zmg xs=true)(r:zu prog w P s.heap x kvs)(hkd:(kvs.all fun kv=>zE kv.1 (.tuple xs))=true)(g:zD P (.bool (kD kvs (.tuple xs)).isSome) Q s):wpAny (model prog w) A (compareOp .In a (.ref x)) Q E s:=by
 (replace hk:=zdo hk;obtain⟨i,j,rfl,_⟩:=hk)
 (replace ra:=ra.inv_tuple;obtain⟨kb,ok,vk,nk,rfl,_,hok,cok,dok,rk,_⟩:=ra)
 obtain⟨l,m,q⟩:=r.tup hkd;refine wpAny_in_heap (knd:=tupleKind (intKind prog w)) (k:=[i,j]) (tupleKind_room_in1 (by lia)) (zaO hok cok dok rk) r.1 m ?_;rcases q.get i j with⟨e1,e2⟩|⟨ka,v,d',e1,e2,rv⟩<;>(rw[e1];rw[e2] at g;exact g.here (.bool _) _)
theorem zyH{z:Str}(hz:z.length=1):∃c,z=⟨#[c]⟩:=by
 obtain⟨⟨l⟩⟩:=z;obtain⟨c,rfl⟩:=List.length_eq_one_iff.mp hz;exact⟨c,rfl⟩
theorem zeW{op:CmpOp}(f:Bool->Bool)(hop:(op=.In/\f=id)\/(op=.NotIn/\f=not))(hu:A.units+4002<cLine)(hnd:op=.NotIn->isDict db=false){c:Bool}(ra:zl prog w T P s.heap a da)(rb:zl prog w T' P s.heap b db)(h:zmv da db=.ok c)(g:zD P (.bool (f c)) Q s):
  wpAny (model prog w) A (compareOp op a b) Q E s:=by
 induction db using PyData.casesOn with
 |list xs=>
  obtain⟨hc,h⟩:=zon h
  (obtain rfl:=okI h;clear h)
  simp only[Bool.or_eq_true,not_or,Bool.not_eq_true,decide_eq_true_eq] at hc;obtain⟨⟨_,q1⟩,l1⟩:=ra.reads hc.1;obtain⟨⟨_,q2⟩,l2⟩:=rb.reads rfl;have l2:PyData.canLayAll0 xs=true:=l2;rcases hop with⟨rfl,rfl⟩|⟨rfl,rfl⟩
  ·exact PySem.SeqAt.in_list_reads q2 q1 l2 l1 (by lia) (g.here (.bool _) s.toks)
  ·exact PySem.SeqAt.notIn_list_reads q2 q1 l2 l1 (by lia) (g.here (.bool _) s.toks)
 |tuple xs=>
  obtain⟨hc,h⟩:=zon h
  (obtain rfl:=okI h;clear h)
  simp only[Bool.or_eq_true,not_or,Bool.not_eq_true,decide_eq_true_eq] at hc;obtain⟨⟨_,q1⟩,l1⟩:=ra.reads hc.1;obtain⟨⟨_,q2⟩,l2⟩:=rb.reads rfl;have l2:PyData.canLayAll0 xs=true:=l2;rcases hop with⟨rfl,rfl⟩|⟨rfl,rfl⟩
  ·exact PySem.SeqAt.in_tuple_reads q2 q1 l2 l1 (by lia) (g.here (.bool _) s.toks)
  ·exact PySem.SeqAt.notIn_tuple_reads q2 q1 l2 l1 (by lia) (g.here (.bool _) s.toks)
 |str y=>
  clear hnd hu;obtain⟨z,rfl,h⟩:=zaW h;clear h;clear db;obtain⟨hz,h⟩:=ifS h
  (obtain rfl:=okI h;clear h)
  (replace ra:=ra.inv_str;obtain⟨t,rfl,_⟩:=ra)
  (replace rb:=rb.inv_str;obtain⟨u,rfl,_⟩:=rb)
  (replace hz:=zyH hz;obtain⟨c,rfl⟩:=hz)
  clear h T' T;rcases hop with⟨rfl,rfl⟩|⟨rfl,rfl⟩
  ·exact SB.contains (by rw[zc6];exact g.here (.bool _) s.toks)
  ·exact SB.notContains (by rw[zc6];exact g.here (.bool _) s.toks)
 |dict kvs=>
  obtain⟨hk,h⟩:=ifS h
  (obtain rfl:=okI h;clear h)
  (replace rb:=rb.inv_dict;obtain⟨x,rfl,r⟩:=rb)
  clear h db T';rcases hop with⟨rfl,rfl⟩|⟨rfl,rfl⟩
  ·clear hnd;induction da using PyData.casesOn with
   |int i=>(replace ra:=ra.inv_int;obtain⟨t,rfl⟩:=ra);exact zwo r (an2 hk) g
   |str i=>(replace ra:=ra.inv_str;obtain⟨t,rfl,_⟩:=ra);exact zvX r (an2 hk) g
   |tuple xs=>exact zu3 hu ra (an1 hk) r (an2 hk) g
   |_=>exact ff hk
  ·exact nomatch hnd rfl
 |_=>exact ns h
inductive TyV(s:Shared)(a:Value)(da:D):Prop
 |mk(X:String)(h:s.TypeIs a X)(h1:(Value.type X==Value.type "builtin_function_or_method")=false)(h2:(X=="bool")=zkm da)(h3:(X=="int")=zgB da)(h4:plainIs a .none=true)(h5:(a==Value.none)=isNone da)
theorem zeQ(ra:zl prog w T P s.heap a da):TyV s a da:=by
 induction da using PyData.casesOn with
 |none=>rw[ra.inv_none];exact⟨"NoneType",rfl,by decide,rfl,rfl,rfl,rfl⟩
 |bool b=>rw[ra.inv_bool];exact⟨"bool",rfl,by decide,rfl,rfl,rfl,rfl⟩
 |int i=>(replace ra:=ra.inv_int;obtain⟨t,rfl⟩:=ra);exact⟨"int",rfl,by decide,rfl,rfl,rfl,rfl⟩
 |str x=>(replace ra:=ra.inv_str;obtain⟨t,rfl,_⟩:=ra);exact⟨"str",rfl,by decide,rfl,rfl,rfl,rfl⟩
 |list xs=>(replace ra:=ra.inv_list;obtain⟨a,oa,va,na,rfl,ha,ca,_⟩:=ra);exact⟨"list",⟨_,ha,ca⟩,by decide,rfl,rfl,rfl,rfl⟩
 |tuple xs=>(replace ra:=ra.inv_tuple;obtain⟨a,oa,va,na,rfl,_,ha,ca,_⟩:=ra);exact⟨"tuple",⟨_,ha,ca⟩,by decide,rfl,rfl,rfl,rfl⟩
 |dict kvs=>
  (replace ra:=ra.inv_dict;obtain⟨a,rfl,r⟩:=ra)
  have ht:s.TypeIs (.ref a) "dict":=by
   obtain⟨_,_,⟨l,m,_⟩|⟨l,m,_⟩|⟨l,m,_⟩⟩:=r
   ·exact m.typeIs
   ·exact m.typeIs
   ·exact m.typeIs
  exact⟨"dict",ht,by decide,rfl,rfl,rfl,rfl⟩
theorem zl.plain_none(ra:zl prog w T P s.heap a da):plainIs a .none=true:=(zeQ ra).casesOn fun _ _ _ _ _ h _=>h
theorem zl.eq_none(ra:zl prog w T P s.heap a da):(a==Value.none)=isNone da:=(zeQ ra).casesOn fun _ _ _ _ _ _ h=>h
theorem zfE(ra:zl prog w T P s.heap a da)(g:zD P (.bool (isNone da)) Q s):wpAny (model prog w) A (compareOp .Is a .none) Q E s:=
 wpAny_is_plain (ra.plain_none) (by rw[ra.eq_none];exact g.here (.bool _) s.toks)
theorem zdP(ra:zl prog w T P s.heap a da)(g:zD P (.bool !(isNone da)) Q s):wpAny (model prog w) A (compareOp .IsNot a .none) Q E s:=
 wpAny_isNot_plain (ra.plain_none) (by rw[ra.eq_none];exact g.here (.bool _) s.toks)
theorem zmL(hh:A.handled=none)(ra:zl prog w T P s.heap a da)(rb:zl prog w T' P s.heap b db)(h:zwk da db=.ok d)(g:zD P d Q s):
  wpAny (model prog w) A (call (.builtin "max") [a,b]) Q E s:=by
 obtain⟨i,j,rfl,rfl,h⟩:=zaG h;clear h
 (obtain rfl:=okI h;clear h)
 (replace ra:=ra.inv_int;obtain⟨t,rfl⟩:=ra)
 (replace rb:=rb.inv_int;obtain⟨u,rfl⟩:=rb)
 refine max_two_ints hh fun h' tk k=>g _ h' tk k ?_;split
 ·rw[Int.max_eq_right (by exact Int.le_of_lt ‹_›)];exact .int _ _
 ·rw[Int.max_eq_left (by exact Int.not_lt.mp ‹_›)];exact .int _ _
theorem zlT(hh:A.handled=none)(ra:zl prog w T P s.heap a da)(rb:zl prog w T' P s.heap b db)(h:zuY da db=.ok d)(g:zD P d Q s):
  wpAny (model prog w) A (call (.builtin "min") [a,b]) Q E s:=by
 obtain⟨i,j,rfl,rfl,h⟩:=zaG h;clear h
 (obtain rfl:=okI h;clear h)
 obtain⟨t,rfl⟩:=ra.inv_int;obtain⟨u,rfl⟩:=rb.inv_int;refine min_two_ints hh fun h' tk k=>g _ h' tk k ?_;split
 ·rw[Int.min_eq_right (by exact Int.le_of_lt ‹_›)];exact .int _ _
 ·rw[Int.min_eq_left (by exact Int.not_lt.mp ‹_›)];exact .int _ _
end
end Mine
namespace Mine
open PySem PyProof.Rows PySem.Calls PySem.SeqAt PySem.MeetsSeq PySem.MeetsSeq3
noncomputable def IA(zG:Array Value)(xs:List Int):Prop:=zG.size=xs.length/\∀(j:Nat) (x:Int),xs[j]?=some x->∃t,zG[j]?=some (Value.int x t)
theorem IA.none{zG:Array Value}{xs:List Int}{i:Nat}(h:IA zG xs)(hi:i<=zG.size)(e:zG[i]?=none):xs.drop i=[]/\i=zG.size:=by
 have:zG.size<=i:=by simpa using e
 exact⟨List.drop_eq_nil_of_le (by rw[←h.1];exact this),by exact Nat.le_antisymm ‹_› ‹_›⟩
theorem IA.some{zG:Array Value}{xs:List Int}{i:Nat}{v:Value}(h:IA zG xs)(e:zG[i]?=some v):∃x t,v=.int x t/\xs.drop i=x::xs.drop (i+1)/\i<zG.size:=by
 obtain⟨hi,_⟩:=Array.getElem?_eq_some_iff.mp e;have hi':i<xs.length:=by rw[←h.1];exact hi
 obtain⟨t,ht⟩:=h.2 i xs[i] (List.getElem?_eq_getElem hi');rw[e] at ht;exact⟨xs[i],t,by(obtain rfl:=soI ht;clear ht);rfl,List.drop_eq_getElem_cons hi',hi⟩
theorem zmb(l b:Addr)(zG items2:Array Value)(n n2:Nat)(dd dd2:Option Addr)(sl sl2:Array (Option Value))(xs ys:List Int)(hx:IA zG xs)(hy:IA items2 ys)(k:Nat):
  ∀i:Nat,zG.size - i=k->i<=zG.size->i<=items2.size->Meets (Builtin.«list.__eq__.loop» ⟨[.ref l,.ref b,rawInt i,rawInt 0],[]⟩)
   (fun A R s=>s.heap.get? l=some {cls:=.type "list",dict:=dd,data:=.seq zG n,slots:=sl}/\s.heap.get? b=some {cls:=.type "list",dict:=dd2,data:=.seq items2 n2,slots:=sl2}/\
    R (.ok (.ret (.bool (z9 (xs.drop i) (ys.drop i))))) s):=by
 induction k using Nat.strongRecOn with
 |_ k ih=>
  intro i hk h1 h2 prog w A R s h;obtain⟨hp,g,d,tk,os⟩:=s;obtain⟨hl,hb,h⟩:=h
  wp_walk using wpAny_loadPart' hl,wpAny_loadPart' hb
  have hii:((i:Nat):Int).toNat=i:=by rfl
  have hc:((i:Int)+1)=((i+1:Nat):Int):=by push_cast;rfl
  rw[hii];cases e1:zG[i]? with
  |none=>
   obtain⟨d1,q1⟩:=hx.none h1 e1;rw[d1] at h;cases e2:items2[i]? with
   |none=>
    obtain⟨d2,q2⟩:=hy.none h2 e2;rw[d2] at h
    wp_walk using wpAny_loadPart' hl,wpAny_loadPart' hb
    show R (.ok (.ret (.bool (decide (zG.size<items2.size))))) _;have:decide (zG.size<items2.size)=z9 [] []:=by rw[←q1,←q2];simp[z9]
    rw[this];exact h
   |some v2=>
    obtain⟨x2,t2,rfl,d2,q2⟩:=hy.some e2;rw[d2] at h
    wp_walk using wpAny_loadPart' hl,wpAny_loadPart' hb
    show R (.ok (.ret (.bool (decide (zG.size<items2.size))))) _;have:decide (zG.size<items2.size)=z9 [] (x2::ys.drop (i+1)):=by simp[zvh];lia
    rw[this];exact h
  |some v1=>
   obtain⟨x1,t1,rfl,d1,q1⟩:=hx.some e1;rw[d1] at h;cases e2:items2[i]? with
   |none=>
    obtain⟨d2,q2⟩:=hy.none h2 e2;rw[d2] at h
    wp_walk using wpAny_loadPart' hl,wpAny_loadPart' hb
    show R (.ok (.ret (.bool (decide (zG.size<items2.size))))) _;have:decide (zG.size<items2.size)=z9 (x1::xs.drop (i+1)) []:=by simp[z9];lia
    rw[this];exact h
   |some v2=>
    obtain⟨x2,t2,rfl,d2,q2⟩:=hy.some e2;rw[d2] at h;refine wpAny_bind (EqAt.int_int x1 t1 x2 t2 prog w _ _ ?_);by_cases hxy:x1=x2
    ·have hb':(x1==x2)=true:=by exact if_pos ‹_›
     have hl':z9 (x1::xs.drop (i+1)) (x2::ys.drop (i+1))=z9 (xs.drop (i+1)) (ys.drop (i+1)):=by exact if_pos ‹_›
     rw[hl'] at h;rw[hb']
     wp_walk
     rw[hc];exact⟨plainId_quiet plain_eq_loop _,codeAny_builtin entry_eq_loop (by
      rw[Around.under_plainId plain_eq_loop _];exact ih (zG.size - (i+1)) (by lia) (i+1) rfl (by assumption) (by assumption) prog w A R _ ⟨hl,hb,h⟩)⟩
    ·have hb':(x1==x2)=false:=by exact if_neg ‹_›
     have hl':z9 (x1::xs.drop (i+1)) (x2::ys.drop (i+1))=decide (x1<x2):=by exact if_neg ‹_›
     rw[hl'] at h;rw[hb']
     wp_walk using wpAny_loadPart' hl,wpAny_loadPart' hb
     rw[e1,e2];refine wpAny_bind ?_;exact lt_int (s:=⟨hp,g,d,tk,os⟩) (wpAny_pure h)
theorem zlt(l b:Addr)(zG items2:Array Value)(n n2:Nat)(dd dd2:Option Addr)(sl sl2:Array (Option Value))(xs ys:List Int)(hx:IA zG xs)(hy:IA items2 ys):
  Meets (Builtin.«list.__lt__» ⟨[.ref l,.ref b],[]⟩)
   (fun A R s=>s.heap.get? l=some {cls:=.type "list",dict:=dd,data:=.seq zG n,slots:=sl}/\s.heap.get? b=some {cls:=.type "list",dict:=dd2,data:=.seq items2 n2,slots:=sl2}/\
    R (.ok (.ret (.bool (z9 xs ys)))) s):=by
 intro prog w A R s h;obtain⟨hp,g,d,tk,os⟩:=s;obtain⟨hl,hb,h⟩:=h;have f3:=AutoSeq1.sub_list_list
 wp_walk using wpAny_loadPart' hl,wpAny_loadPart' hb
 exact⟨plainId_quiet plain_eq_loop _,codeAny_builtin entry_eq_loop (by
  rw[Around.under_plainId plain_eq_loop _];exact zmb l b zG items2 n n2 dd dd2 sl sl2 xs ys hx hy _ 0 rfl (Nat.zero_le _) (Nat.zero_le _) prog w A R _ ⟨hl,hb,by exact h⟩)⟩
end Mine
namespace Mine
open PySem PyProof.Rows PySem.Calls PySem.SeqAt PySem.MeetsSeq PySem.MeetsSeq3
section
variable{prog:Program}{w:World}{A:Around}{E:Value->Shared->Prop}{s:Shared}
theorem zqY{l b:Addr}{o1 o2:Obj}{zG items2:Array Value}{n n2:Nat}{xs ys:List Int}{Q:Value->Shared->Prop}(h1:s.heap.get? l=some o1)(c1:o1.cls=.type "list")(d1:o1.data=.seq zG n)(h2:s.heap.get? b=some o2)(c2:o2.cls=.type "list")(d2:o2.data=.seq items2 n2)
  (hx:IA zG xs)(hy:IA items2 ys)(hu:A.units<cLine)(h:Q (.bool (z9 xs ys)) s):wpAny (model prog w) A (richCompare .Lt (.ref l) (.ref b)) Q E s:=by
 obtain⟨cls,dd,data,sl⟩:=o1;obtain⟨zrj,dd2,data2,sl2⟩:=o2;simp only at c1 d1 c2 d2;subst c1 d1 c2 d2;exact richCompare_meets_room (op:=.Lt) ⟨_,h1,rfl⟩ ⟨_,h2,rfl⟩ F.slot_list_lt F.entry_list_lt (F.args_list_lt_2 _ _) (zlt l b zG items2 n n2 dd dd2 sl sl2 xs ys hx hy)
  ⟨h1,h2,show Value.bool (z9 xs ys)≠Value.notImplemented/\Q (.bool (z9 xs ys)) s from⟨(fun x=>nomatch x),h⟩⟩ hu
theorem zm8{a b:Addr}{oa ob:Obj}{xs ys:Array Value}{na nb:Nat}{i j:Int}{t u:Tok}{l m:Value}{e c:Bool}{Q:Value->Shared->Prop}(ha:s.heap.get? a=some oa)(ca:oa.cls=.type "tuple")(da:oa.data=.seq xs na)(hb:s.heap.get? b=some ob)(cb:ob.cls=.type "tuple")(db:ob.data=.seq ys nb)
  (hx:xs.toList=[.int i t,l])(hy:ys.toList=[.int j u,m])(hu:A.units<cLine)
  (he:∀A':Around,A'.units<=A.units+2->EqAt A' s l m e)(hc:e=false->∀(A':Around) (E:Value->Shared->Prop) (Q:Value->Shared->Prop),A'.units<=A.units+2->Q (.bool c) s->wpAny (model prog w) A' (richCompare .Lt l m) Q E s)
  (h:Q (.bool (if i=j then(if e then false else c) else decide (i<j))) s):wpAny (model prog w) A (richCompare .Lt (.ref a) (.ref b)) Q E s:=by
 refine wpAny_richCompare_same_room (op:=.Lt) ⟨oa,ha,ca⟩ ⟨ob,hb,cb⟩ F.slot_tuple_lt (wpAny_call_entry F.slot_tuple_lt ⟨oa,ha,ca⟩ F.entry_tuple_lt ?_ (F.args_tuple_lt_2 _ _)) hu;show wpAny _ _ (isInstance (.ref b) (.type "tuple") >>= _) _ _ s
 refine wpAny_bind (wpAny_isInstance ⟨ob,hb,cb⟩ isSubtype_tuple_tuple ?_);refine wpAny_bind (wpAny_tupleItemsOf ha da ?_);refine wpAny_bind (wpAny_tupleItemsOf hb db ?_);rw[hx,hy];have hsz:Builtin.Tuple.tupleCompareSizes CmpOp.Lt xs.size ys.size=.bool false:=by
  have e1:xs.size=2:=by rw[←Array.length_toList,hx];rfl
  have e2:ys.size=2:=by rw[←Array.length_toList,hy];rfl
  rw[e1,e2];rfl
 rw[List.zip_cons_cons,List.zip_cons_cons,List.zip_nil_left,List.forIn_cons];refine wpAny_bind (wpAny_bind (wpAny_bind (EqAt.int_int i t j u prog w _ _ ?_)));by_cases hij:i=j
 ·have q1:(i==j)=true:=by exact if_pos ‹_›
  rw[q1];refine wpAny_pure ?_;simp only[if_pos hij] at h;dsimp only;rw[List.forIn_cons];refine wpAny_bind (wpAny_bind (he _ (by show A.units+1<=A.units+2;exact Nat.le_succ _) prog w _ _ ?_));induction e using Bool.casesOn with
  |true=>
   simp only[Bool.not_true,Bool.false_eq_true,if_false,if_true] at h ⊢;refine wpAny_pure ?_;dsimp only;rw[List.forIn_nil];refine wpAny_pure ?_;dsimp only;rw[hsz];exact wpAny_pure ⟨_,rfl,(fun x=>nomatch x),h⟩
  |false=>
   refine wpAny_bind (wpAny_rule (wpAny_bind (hc rfl _ _ _ (by show A.units+1<=A.units+2;exact Nat.le_succ _) ?_)));exact wpAny_bind (wpAny_pure (wpAny_pure (wpAny_pure (wpAny_pure ⟨_,rfl,(fun x=>nomatch x),h⟩))))
 ·have q1:(i==j)=false:=by exact if_neg ‹_›
  rw[q1];simp only[if_neg hij] at h;simp only[Bool.not_false,if_true];refine wpAny_bind (wpAny_rule (wpAny_bind ?_));exact lt_int (wpAny_bind (wpAny_pure (wpAny_pure (wpAny_pure (wpAny_pure ⟨_,rfl,(fun x=>nomatch x),h⟩)))))
end
end Mine
namespace Mine
open PySem PyProof.Rows PySem.Calls
section
variable{prog:Program}{w:World}{A:Around}{E:Value->Shared->Prop}{s:Shared}{P T T':Addr->Prop}{Q:Value->Shared->Prop}{a b:Value}{da db d:D}
theorem zsQ{d:D}{i:Int}(h:zwy d=some i):d=.int i:=by
 induction d using PyData.casesOn with
 |int j=>(obtain rfl:=soI h;clear h);rfl
 |_=>exact nn h
theorem zec{xs:List D}:∀{a:List Int},zaE xs=some a->xs=a.map .int:=by
 induction xs with
 |nil=>intro a h;(obtain rfl:=soI h;clear h);rfl
 |cons d r ih=>
  intro a h;replace h:=ob h;obtain⟨i,h1,h⟩:=h;replace h:=ob h;obtain⟨l,h2,h⟩:=h
  (obtain rfl:=soI h;clear h);rw[zsQ h1,ih h2];rfl
theorem zxZ{h:Heap}{a:List Int}:∀{vs:List Value},zi P h vs (a.map .int)->vs.length=a.length/\∀(j:Nat) (x:Int),a[j]?=some x->∃t,vs[j]?=some (Value.int x t):=by
 induction a with
 |nil=>intro vs r;cases r;exact⟨rfl,fun j x e=>nomatch e⟩
 |cons i a ih=>
  intro vs r;cases r with
  |cons r1 r2=>
   cases r1 with
   |int i t=>
    obtain⟨g1,g2⟩:=ih r2;refine⟨congrArg (·+1) g1,fun j x e=>?_⟩;induction j using Nat.casesOn with
    |zero=>(obtain rfl:=soI e;clear e);exact⟨t,rfl⟩
    |succ j=>exact g2 j x e
theorem zfv(a:List Int):z9 a a=false:=by
 induction a with
 |nil=>
  exact rfl
 |cons i r ih=>
  simp[zjI,ih]
theorem zhi{a:List Int}:∀{b:List Int},PyData.eqvAll (a.map .int) (b.map .int)=true->a=b:=by
 induction a with
 |nil=>intro b h;induction b using List.casesOn with
  |nil=>rfl
  |cons=>exact ff h
 |cons i a ih=>intro b h;induction b using List.casesOn with
  |nil=>exact ff h
  |cons j b=>rw[eq_of_beq (show(i==j)=true from an1 h),ih (an2 h)]
theorem zjj(a:List Int):PyData.depthAll (a.map .int)<=1:=by
 induction a with
 |nil=>exact Nat.zero_le _
 |cons i a ih=>exact Nat.max_le.mpr ⟨Nat.zero_le _,ih⟩
inductive zwK(P:Addr->Prop)(h:Heap)(i:Int)(l:List D)(vs:List Value):Prop
 |mk(t:Tok)(z:Addr)(o:Obj)(its:Array Value)(m:Nat)(e:vs=[.int i t,.ref z])(ho:h.get? z=some o)(hc:o.cls=.type "list")(hd:o.data=.seq its m)(r:zi P h its.toList l)(r':Rep P h (.ref z) (.list l))
theorem ztC{h:Heap}{vs:List Value}{i:Int}{l:List D}(r:zi P h vs [.int i,.list l]):zwK P h i l vs:=by
 cases r with
 |cons r1 r2=>cases r2 with
  |cons r3 r4=>
   cases r4
   cases r1
   have r3':=r3;cases r3 with
   |list p ho hc hd hda hr hz=>exact⟨_,_,_,_,_,rfl,ho,hc,hda,hr,r3'⟩
set_option tactic.hygienic true in
theorem zm0(la lb:List Int){i j:Int}:(if i=j then(if PyData.eqv (.list (la.map .int)) (.list (lb.map .int))=true then false else z9 la lb) else decide (i<j))=(if i=j then z9 la lb else decide (i<j)):=by
 congr 1
 split
 ·rename_i he;have:la=lb:=zhi he;rw[this,zfv]
 ·rfl
theorem zqu{h:Heap}{its:Array Value}{a:List Int}(r:zi P h its.toList (a.map .int)):IA its a:=by
 obtain⟨g1,g2⟩:=zxZ r;exact⟨by exact g1,fun j x e=>by simpa using g2 j x e⟩
theorem zqa(hu:A.units+100<cLine){a b:Addr}{oa ob:Obj}{va vb:Array Value}{na nb:Nat}{i j:Int}{la lb:List Int}(hoa:s.heap.get? a=some oa)(hca:oa.cls=.type "tuple")(hda:oa.data=.seq va na)(rra:zi P s.heap va.toList [.int i,.list (la.map .int)])
  (hob:s.heap.get? b=some ob)(hcb:ob.cls=.type "tuple")(hdb:ob.data=.seq vb nb)(rrb:zi P s.heap vb.toList [.int j,.list (lb.map .int)])(h:Q (.bool (if i=j then z9 la lb else decide (i<j))) s):
  wpAny (model prog w) A (compareOp .Lt (.ref a) (.ref b)) Q E s:=by
 obtain⟨t,za,oza,ia,ma,ea,hza,cza,dza,rza,rpa⟩:=ztC rra;obtain⟨u,zb,ozb,ib,mb,eb,hzb,czb,dzb,rzb,rpb⟩:=ztC rrb;obtain⟨_,q1⟩:=rpa.reads;obtain⟨_,q2⟩:=rpb.reads;have hdep:min (PyData.list (la.map .int)).depth (PyData.list (lb.map .int)).depth<=3:=qA (Nat.min_le_left _ _) (qA (Nat.succ_le_succ (zjj la)) (by decide));refine zm8 (e:=PyData.eqv (.list (la.map .int)) (.list (lb.map .int))) (c:=z9 la lb) hoa hca hda hob hcb hdb ea eb (by exact qB (Nat.le_add_right _ _) ‹_›) (fun A' hA=>PySem.SeqAt.eqAt_reads _ _ A' s _ _ _ _ q1 q2 rpa.lay rpb.lay (by lia)) (fun _ A' E' Q' hA hq=>zqY hza cza dza hzb czb dzb (zqu rza) (zqu rzb) (by lia) hq) ?_;rw[zm0];exact h
theorem zjx(hu:A.units+100<cLine){c:Bool}(ra:zl prog w T P s.heap a da)(rb:zl prog w T' P s.heap b db)(h:zoh da db=.ok c)(g:zD P (.bool c) Q s):
  wpAny (model prog w) A (compareOp .Lt a b) Q E s:=by
 induction da using PyData.casesOn with
 |int i=>
  obtain⟨j,rfl,h⟩:=jG h;clear h
  (obtain rfl:=okI h;clear h)
  obtain⟨t,rfl⟩:=ra.inv_int;obtain⟨u,rfl⟩:=rb.inv_int;exact lt_int (g.here (.bool _) s.toks)
 |tuple xs=>
  obtain⟨ys,rfl,h⟩:=zpm h;clear h;obtain⟨p,q,rfl,h⟩:=zpH h;clear h;obtain⟨i,rfl,h⟩:=jG h;clear h;obtain⟨a',rfl,h⟩:=ze0 h;clear h;obtain⟨p',q',rfl,h⟩:=zpH h;clear h;obtain⟨j,rfl,h⟩:=jG h;clear h;obtain⟨b',rfl,h⟩:=ze0 h;clear h;obtain⟨la,h1,h⟩:=Mine.rb h;replace h:=Mine.rb h;obtain⟨lb,h2,h⟩:=h
  (obtain rfl:=okI h;clear h)
  have ex:=zec (jh h1);have ey:=zec (jh h2);subst ex ey;obtain⟨xa,oa,va,na,rfl,_,hoa,hca,hda,rra,_⟩:=ra.inv_tuple;obtain⟨xb,ob,vb,nb,rfl,_,hob,hcb,hdb,rrb,_⟩:=rb.inv_tuple;exact zqa hu hoa hca hda rra hob hcb hdb rrb (g.here (.bool _) s.toks)
 |_=>exact ns h
theorem zvg(hu:A.units+100<cLine)(ra:zl prog w T P s.heap a da)(rb:zl prog w T' P s.heap b db)(h:ltD da db=.ok d)(g:zD P d Q s):
  wpAny (model prog w) A (compareOp .Lt a b) Q E s:=by
 replace h:=Mine.rb h;obtain⟨c,h1,h⟩:=h
 (obtain rfl:=okI h;clear h)
 exact zjx hu ra rb h1 g
theorem zmD{op:CmpOp}{o:Bin}(hu:A.units+4090<cLine)(hh:A.handled=none)(hop:zgn op=some o)(ra:zl prog w T P s.heap a da)(rb:zl prog w T' P s.heap b db)
  (h:bin o da db=.ok d)(g:zD P d Q s):wpAny (model prog w) A (compareOp op a b) Q E s:=by
 induction op using PySem.CmpOp.casesOn with
 |Eq=>(obtain rfl:=soI hop;clear hop);exact zv5 (by lia) ra rb h g
 |NotEq=>(obtain rfl:=soI hop;clear hop);exact zvx (by lia) ra rb h g
 |Lt=>(obtain rfl:=soI hop;clear hop);exact zvg (by lia) ra rb h g
 |LtE=>(obtain rfl:=soI hop;clear hop);exact zv3 ra rb h g
 |Gt=>(obtain rfl:=soI hop;clear hop);exact zvu ra rb h g
 |GtE=>(obtain rfl:=soI hop;clear hop);exact zuN ra rb h g
 |In=>
  (obtain rfl:=soI hop;clear hop)
  obtain⟨c,hm,h⟩:=Mine.rb h
  (obtain rfl:=okI h;clear h);exact zeW id (.inl ⟨rfl,rfl⟩) (by lia) (fun e=>by cases e) ra rb hm g
 |NotIn=>
  (obtain rfl:=soI hop;clear hop)
  obtain⟨hn,h⟩:=zon h;obtain⟨c,hm,h⟩:=Mine.rb h
  (obtain rfl:=okI h;clear h);exact zeW not (.inr ⟨rfl,rfl⟩) (by lia) (fun _=>by simpa using hn) ra rb hm g
 |_=>exact nn hop
end
end Mine
namespace Mine
open PySem PyProof.Rows PySem.Calls
structure zH where
 name:Str
 params:Arguments
 body:List Stmt
 scope:Scope
noncomputable def jt:List Str:=["len","str","int","max","min","type","range","sorted","ValueError","bool"]
structure kH(F:List zH)(K:List (Str×D))(mg mb:Str->Option Value)(zc:Heap):Prop where
 g:zc.Ns mainGlobals mg
 b:zc.Ns builtinsNs mb
 nolimit:zc.NoLimit
 bi:∀x:Str,x≠"__name__"->mb x=bootBuiltins x
 fn:∀(i:Nat) (fi:zH),F[i]?=some fi->∃a o pm cd doc,mg fi.name=some (.ref a)/\zc.get? a=some o/\o.data=.func (docDef fi.name fi.params fi.body fi.scope pm cd doc)/\zc.CodeRec cd fi.name
 const:∀(i:Nat) (x:Str) (d:D),K[i]?=some (x,d)->∃v,mg x=some v/\Rep (fun a=>∃o,zc.get? a=some o) zc v d
 free:∀x∈jt,mg x=none
inductive zF(env:Env)(h:Heap)(x:Str)(v:Value):Prop
 |loc(m:Str->Option Value):env.kindOf x=some .local->h.Ns env.locals m->m x=some v->zF env h x v
 |cell(c:Addr):(env.kindOf x=some .cell\/env.kindOf x=some .free)->env.cells.lookup x=some c->h.IsCell c (some v)->zF env h x v
theorem zF.keep{env:Env}{h h':Heap}{x:Str}{v:Value}(r:zF env h x v)(k:zA h h'):zF env h' x v:=by
 induction r using zF.casesOn with
 |loc m a b c=>exact .loc m a (b.keeps k) c
 |cell c a b d=>exact .cell c a b (d.keeps k)
structure Ch(s s':Shared):Prop where
 keep:zA s.heap s'.heap
 os:s'.os=s.os
 gens:AllBare s.gens->AllBare s'.gens
theorem Ch.refl(s:Shared):Ch s s:=⟨zA.refl _,rfl,fun x=>x⟩
theorem Ch.trans{s s' s₂:Shared}(x:Ch s s')(y:Ch s' s₂):Ch s s₂:=⟨x.keep.trans y.keep,y.os.trans x.os,fun g=>y.gens (x.gens g)⟩
theorem Ch.of{s:Shared}{h':Heap}(tk:Nat)(k:zA s.heap h'):Ch s {s with heap:=h',toks:=tk}:=⟨k,rfl,fun x=>x⟩
theorem Ch.tok{s:Shared}(tk:Nat):Ch s {s with toks:=tk}:=⟨zA.refl _,rfl,fun x=>x⟩
noncomputable def frs(fs:List Env):List Addr:=fs.filterMap (·.frame)
noncomputable def za6(fs:List Env)(s:Shared)(x:Value)(s':Shared):Prop:=
 ∃(e:Addr) (B:Heap) (a0:Value),x=.ref e/\(∀a o,s.heap.get? a=some o->a∉frs fs->B.get? a=some o)/\Heap.FlyingW B fs e (.type "ValueError") a0 s'.heap/\s.heap.UpToSlots s'.heap/\
  s'.os=s.os/\(AllBare s.gens->AllBare s'.gens)
theorem za6.after{fs:List Env}{s s₁ s':Shared}{x:Value}(c:Ch s s₁)(r:za6 fs s₁ x s'):za6 fs s x s':=by
 obtain⟨e,B,a0,h1,h2,h3,h4,h5,h6⟩:=r;exact⟨e,B,a0,h1,fun a o q n=>h2 a o (c.keep a o q) n,h3,(Heap.UpToSlots.of_keeps c.keep).trans h4,h5.trans c.os,fun g=>h6 (c.gens g)⟩
noncomputable def Own(env:Env)(a:Addr):Prop:=a=env.locals\/∃x,env.cells.lookup x=some a
noncomputable def Mut(names:List (Str×NameKind))(env:Env)(a:Addr):Prop:=a=env.locals\/∃x,names.lookup x=some .cell/\env.cells.lookup x=some a
theorem Mut.own{names:List (Str×NameKind)}{env:Env}{a:Addr}(h:Mut names env a):Own env a:=h.elim .inl fun⟨x,_,e⟩=>.inr ⟨x,e⟩
structure EC(zc:Heap)(P:Addr->Prop)(A:Around)(fs:List Env)(n:Nat)(env:Env)(h:Heap):Prop where
 stays:zc.StaysIn h
 pnew:km P h
 pbase:∀a o,zc.get? a=some o->P a
 handled:A.handled=none
 frames:A.frames=some fs
 funs:h.FunFrames zc fs
 depth:A.depth+n<1000
 units:A.units+3*n+4100<cLine
 kind:env.scope.kind=.function
 globals:env.globals=mainGlobals
 builtins:env.builtins=builtinsNs
 own:∀a,P a->¬Own env a
 nofr:∀a,P a->a∉frs fs
 inj:∀x y c,env.cells.lookup x=some c->env.cells.lookup y=some c->x=y
theorem EC.keep{zc:Heap}{P:Addr->Prop}{A:Around}{fs:List Env}{n:Nat}{env:Env}{h h':Heap}(e:EC zc P A fs n env h)(k:zA h h'):EC zc P A fs n env h':=
 {e with stays:=fun a o q=>k a o (e.stays a o q),pnew:=e.pnew.keep k,funs:=e.funs.of_keeps fun b o hb _=>⟨o,k b o hb,rfl⟩}
noncomputable def zpo(b:Bool)(P:Addr->Prop):Addr->Prop:=if b then fun _=>True else P
section
variable(prog:Program)(w:World)
theorem zu.mono{P P':Addr->Prop}{h h':Heap}(hp:∀a,P a->P' a)(k:zA h h'){a:Addr}{kvs:List (D×D)}(r:zu prog w P h a kvs):zu prog w P' h' a kvs:=by
 have kk:∀{K:Type} {enc:K->D} {l:List (K×Value)} {kvs:List (D×D)},KVs P h enc l kvs->KVs P' h' enc l kvs:=by
  intro K enc l kvs r;induction r with
  |nil=>exact .nil
  |cons a _ ih=>exact .cons (a.mono hp (.of_keep k)) ih
 have kh:∀{l:List (List Int×Addr×Value)} {kvs:List (D×D)},KVH P h l kvs->KVH P' h' l kvs:=by
  intro l kvs r;induction r with
  |nil=>exact .nil
  |cons p a _ ih=>exact .cons (hp _ p) (a.mono hp (.of_keep k)) ih
 have dk:∀{K:Type} [DecidableEq K] {knd:PySem.KeyKind prog w K} {l},h.DictOf knd a l->h'.DictOf knd a l:=fun m=>let ⟨o,es,ep,ho,r⟩:=m;⟨o,es,ep,k _ _ ho,r⟩;obtain⟨h1,h2,⟨l,m,q⟩|⟨l,m,q⟩|⟨l,m,q⟩⟩:=r
 ·exact⟨h1,h2,.inl ⟨l,dk m,kk q⟩⟩
 ·exact⟨h1,h2,.inr (.inl ⟨l,dk m,kk q⟩)⟩
 ·refine⟨h1,h2,.inr (.inr ⟨l,?_,kh q⟩)⟩;obtain⟨o,es,ep,ho,he,hd,hp',hi,hn⟩:=m;refine⟨o,es,ep,k _ _ ho,he,hd,hp',fun x hx=>?_,hn⟩;obtain⟨o',its,n,ho',hc',hd',r'⟩:=hi x hx;exact⟨o',its,n,k _ _ ho',hc',hd',r'⟩
theorem zl.mono{T T' P P':Addr->Prop}{h h':Heap}(ht:∀a,T a->T' a)(hp:∀a,P a->P' a)(k:zA h h'){v:Value}{d:D}(r:zl prog w T P h v d):zl prog w T' P' h' v d:=by
 induction r using zl.casesOn with
 |rep r=>exact .rep (r.mono hp (.of_keep k))
 |list t ho hc hd hda hr hz=>exact .list (ht _ t) (k _ _ ho) hc hd hda (hr.mono hp (.of_keep k)) hz
 |dict t r=>exact .dict (ht _ t) (r.mono prog w hp k)
theorem zl.keep{T P:Addr->Prop}{h h':Heap}(k:zA h h'){v:Value}{d:D}(r:zl prog w T P h v d):zl prog w T P h' v d:=r.mono prog w (fun _ x=>x) (fun _ x=>x) k
theorem zl.top{T P:Addr->Prop}{h:Heap}{v:Value}{d:D}(r:zl prog w T P h v d):zl prog w (fun _=>True) P h v d:=r.mono prog w (fun _ _=>trivial) (fun _ x=>x) (zA.refl _)
theorem zl.toRep{P:Addr->Prop}{h:Heap}{v:Value}{d:D}(r:zl prog w P P h v d)(hd:isDict d=false):Rep P h v d:=by
 induction r using zl.casesOn with
 |rep r=>exact r
 |list t ho hc hd' hda hr hz=>exact .list t ho hc hd' hda hr hz
 |dict t r=>exact tf hd
noncomputable def VOK(env:Env)(names:List (Str×NameKind))(st:List VS)(ρ:ze)(P:Addr->Prop)(h:Heap):Prop:=
 ∀(i:Nat) (x:Str) (k:NameKind),names[i]?=some (x,k)->kj k=true->VS.at st i≠.u->
  ∃v,zF env h x v/\zl prog w (if VS.at st i=.o then(fun a=>¬Own env a) else P) P h v (zr ρ i)
theorem VOK.keep{env:Env}{names:List (Str×NameKind)}{st:List VS}{ρ:ze}{P:Addr->Prop}{h h':Heap}(r:VOK prog w env names st ρ P h)(k:zA h h'):VOK prog w env names st ρ P h':=
 fun i x kk e v u=>by
  obtain⟨y,h1,h2⟩:=r i x kk e v u;exact⟨y,h1.keep k,h2.keep prog w k⟩
structure Lnk(cx:Cx)(env:Env):Prop where
 glob:∀x,cx.names.lookup x=some .globalImplicit->env.kindOf x=some .globalImplicit
 cell:∀x,(cx.names.lookup x=some .cell\/cx.names.lookup x=some .free)->(env.kindOf x=some .cell\/env.kindOf x=some .free)/\∃c,env.cells.lookup x=some c
variable(zc:Heap)(G:List D)(cf:Nat->List D->R D)(n:Nat)
noncomputable def zt(names:List (Str×NameKind))(st:List VS)(b:Bool)(env:Env)(t:Sem Value)(pe:PE):Prop:=
 ∀(P:Addr->Prop) (A:Around) (fs:List Env) (s:Shared) (ρ:ze) (Q E:Value->Shared->Prop),EC zc P A fs n env s.heap->VOK prog w env names st ρ P s.heap->
  (∀d v s',ev G cf pe ρ=.ok d->Ch s s'->zl prog w (zpo b P) P s'.heap v d->Q v s')->
  (ev G cf pe ρ=.ve->∀x s',za6 fs s x s'->E x s')->ev G cf pe ρ≠.stuck->wpAny (model prog w) A t Q E s
noncomputable def zaR(names:List (Str×NameKind))(st:List VS)(env:Env)(t:Sem Bool)(pe:PE):Prop:=
 ∀(P:Addr->Prop) (A:Around) (fs:List Env) (s:Shared) (ρ:ze) (Q:Bool->Shared->Prop) (E:Value->Shared->Prop),EC zc P A fs n env s.heap->VOK prog w env names st ρ P s.heap->
  (∀c s',ev G cf pe ρ=.ok (.bool c)->Ch s s'->Q c s')->
  (ev G cf pe ρ=.ve->∀x s',za6 fs s x s'->E x s')->R.bind (ev G cf pe ρ) zM≠.stuck->wpAny (model prog w) A t Q E s
end
end Mine
namespace Mine
open PySem PyProof.Rows PySem.Calls
theorem zaj{x:Str}:PyData.strOk x=true↔∀c∈x.cps.toList,c<0x110000:=by
 unfold PyData.strOk;obtain⟨⟨l⟩⟩:=x;simp
theorem zcY(x:Str)(i j:Nat):(sub x i j).cps.toList=(x.cps.toList.drop i).take (j - i):=by
 unfold sub;simp[List.extract_eq_take_drop]
theorem zcc{x:Str}{i j:Nat}(h:PyData.strOk x=true):PyData.strOk (sub x i j)=true:=by
 rw[zaj] at *;intro c hc;rw[zcY] at hc;exact h c (List.mem_of_mem_drop (List.mem_of_mem_take hc))
theorem zg6{x y:Str}(h:x.cps.toList=y.cps.toList):x=y:=by
 obtain⟨⟨l⟩⟩:=x;obtain⟨⟨m⟩⟩:=y;simp at h;rw[h]
theorem jY(x:Str)(l u:Option Int):Txt.slice x l u=StrLaws.sliceText x l u:=rfl
theorem zjz{x:Str}{i j:Int}(h0:0<=i)(h1:i<=j)(h2:j<=x.length):Txt.slice x (some i) (some j)=sub x i.toNat j.toNat:=by
 have hl:(x.length:Int)=x.cps.toList.length:=by rfl
 rw[jY,StrLaws.sliceText_plain ⟨h0,h1,by assumption⟩];apply zg6;rw[zcY];have:(j - i).toNat=j.toNat - i.toNat:=by
  obtain⟨a,rfl⟩:=Int.eq_ofNat_of_zero_le h0;obtain⟨b,rfl⟩:=Int.eq_ofNat_of_zero_le (Int.le_trans h0 h1);exact Int.toNat_sub b a
 simp[this]
theorem zcU{x:Str}{j:Int}(h0:0<=j)(h2:j<=x.length):Txt.slice x none (some j)=sub x 0 j.toNat:=by
 have hl:(x.length:Int)=x.cps.toList.length:=by rfl
 rw[jY,StrLaws.sliceText_to ⟨h0,by assumption⟩];apply zg6;rw[zcY];simp
theorem zjb{x:Str}{i:Int}(h0:0<=i)(h2:i<=x.length):Txt.slice x (some i) none=sub x i.toNat x.length:=by
 have hl:(x.length:Int)=x.cps.toList.length:=by rfl
 rw[jY,StrLaws.sliceText_from ⟨h0,by assumption⟩];apply zg6;rw[zcY];have e:x.length=x.cps.toList.length:=by rfl
 have e2:((x.cps.size:Int) - i).toNat=x.cps.size - i.toNat:=by
  obtain⟨a,rfl⟩:=Int.eq_ofNat_of_zero_le h0;exact Int.toNat_sub _ a
 simp[e,e2]
theorem zgH{x:Str}{j:Int}(h2:(x.length:Int)<=j):Txt.slice x none (some j)=sub x 0 x.length:=by
 have e:Builtin.Str.strSliceIndices none (some j) 1 x.length=Builtin.Str.strSliceIndices none (some (x.length:Int)) 1 x.length:=by
  have e1:min j (x.length:Int)=x.length:=by lia
  have e2:¬j<0:=by lia
  have e3:¬(x.length:Int)<0:=by lia
  simp[Builtin.Str.strSliceIndices,e1,e2,e3]
 have:Txt.slice x none (some j)=Txt.slice x none (some (x.length:Int)):=by unfold Txt.slice;rw[e]
 rw[this,zcU (by exact Int.natCast_nonneg _) (Int.le_refl _)];rfl
theorem zgo{x:Str}(h:1<=x.length):Txt.slice x none (some (-1))=sub x 0 (x.length - 1):=by
 have e:(-1:Int)+x.length=((x.length - 1:Nat):Int):=by rw[Int.ofNat_sub h,Int.add_comm];rfl
 rw[jY,StrLaws.sliceText_neg_hi (j:=-1) x none (by decide) (Int.neg_le_neg (Int.ofNat_le.mpr h)),←jY,e,zcU (Int.natCast_nonneg _) (Int.ofNat_le.mpr (Nat.sub_le _ _))];rfl
section
variable{prog:Program}{w:World}{A:Around}{E:Value->Shared->Prop}{s:Shared}{P T T':Addr->Prop}{Q:Value->Shared->Prop}{a b:Value}{da db d:D}
inductive zx9(i:Int)(x:Str):Prop
 |mk(h1:i.natAbs.log2<1920)(h2:Str.ofString (toString i)=x)(h3:PyData.strOk x=true)(h4:x.length<=zp)
theorem zlD{i:Int}{x:Str}(h:zpc i=some x):zx9 i x:=by
 rcases ifo h with⟨rfl,h⟩|⟨_,h⟩
 ·(obtain rfl:=soI h;clear h);exact⟨by decide +kernel,by decide +kernel,by decide +kernel,by decide +kernel⟩
 rcases ifo h with⟨rfl,h⟩|⟨_,h⟩
 ·(obtain rfl:=soI h;clear h);exact⟨by decide +kernel,by decide +kernel,by decide +kernel,by decide +kernel⟩
 rcases ifo h with⟨rfl,h⟩|⟨_,h⟩
 ·(obtain rfl:=soI h;clear h);exact⟨by decide +kernel,by decide +kernel,by decide +kernel,by decide +kernel⟩
 replace h:=ifn h;obtain⟨rfl,h⟩:=h
 (obtain rfl:=soI h;clear h);exact⟨by decide +kernel,by decide +kernel,by decide +kernel,by decide +kernel⟩
theorem zpB{i:Int}{x:Str}(h:zkA x=some i):PySem.intText? x=some i/\x.length<=640:=by
 rcases ifo h with⟨rfl,h⟩|⟨_,h⟩
 ·(obtain rfl:=soI h;clear h);exact⟨by decide +kernel,by decide +kernel⟩
 rcases ifo h with⟨rfl,h⟩|⟨_,h⟩
 ·(obtain rfl:=soI h;clear h);exact⟨by decide +kernel,by decide +kernel⟩
 rcases ifo h with⟨rfl,h⟩|⟨_,h⟩
 ·(obtain rfl:=soI h;clear h);exact⟨by decide +kernel,by decide +kernel⟩
 replace h:=ifn h;obtain⟨rfl,h⟩:=h
 (obtain rfl:=soI h;clear h);exact⟨by decide +kernel,by decide +kernel⟩
theorem zmy(ra:zl prog w T P s.heap a da)(h:zwj da=.ok d)(g:zD P d Q s):wpAny (model prog w) A (call (.type "str") [a]) Q E s:=by
 obtain⟨i,rfl,h⟩:=jG h;clear h;obtain⟨x,h1,h⟩:=Mine.rb h
 (obtain rfl:=okI h;clear h)
 obtain⟨t,rfl⟩:=ra.inv_int;obtain⟨k1,k2,k3,k4⟩:=zlD (jh h1);refine PySem.P.str_of_int k1 ?_;have e:((toString i:String):Str)=x:=k2;rw[e];exact g.here (.str _ _ k3 k4) _
theorem zlL(ra:zl prog w T P s.heap a da)(h:zxN da=.ok d)(g:zD P d Q s):wpAny (model prog w) A (call (.type "int") [a]) Q E s:=by
 obtain⟨x,rfl,h⟩:=zaW h;clear h;obtain⟨i,h1,h⟩:=Mine.rb h
 (obtain rfl:=okI h;clear h)
 obtain⟨t,rfl,_⟩:=ra.inv_str;obtain⟨k1,k2⟩:=zpB (jh h1);exact PySem.W.KIN.call_text k1 k2 (g.here (.int _ _) _)
theorem zdF{x:Str}{t:Tok}{sl:Addr}{l u:Option (Int×Tok)}{y:Str}(hs:s.heap.IsSlice sl l u none)(hz:x.length<=zp)(hy:Txt.slice x (l.map (·.1)) (u.map (·.1))=y)(hok:PyData.strOk y=true)(g:zD P (.str y) Q s):
  wpAny (model prog w) A (getItem (.str x t) (.ref sl)) Q E s:=by
 refine wpAny_getItem_str_slice hs rfl ?_;refine post_val_or_str ⟨?_,fun t' k=>?_⟩
 ·exact qA (Txt.slice_le x _ _) (qA hz zbE)
 ·have e:Txt.slice x (l.map (·.1)) (u.map (·.1))=y:=hy;have e2:(Txt.slice x (l.map (·.1)) (u.map (·.1))).length<=zp:=qA (Txt.slice_le x _ _) hz;rw[e] at e2;show Q (.str (Txt.slice x (l.map (·.1)) (u.map (·.1))) t') _;rw[e];exact g.here (.str _ _ hok e2) _
theorem zrt{d:D}{i:Str}(h:zxL d=some i):d=.str i:=by
 induction d using PyData.casesOn with
 |str j=>(obtain rfl:=soI h;clear h);rfl
 |_=>exact nn h
theorem zdt{ys:List D}:∀{ts:List Str},zeu ys=some ts->ys=ts.map .str:=by
 induction ys with
 |nil=>intro a h;(obtain rfl:=soI h;clear h);rfl
 |cons d r ih=>
  intro a h;replace h:=ob h;obtain⟨i,h1,h⟩:=h;replace h:=ob h;obtain⟨l,h2,h⟩:=h
  (obtain rfl:=soI h;clear h);rw[zrt h1,ih h2];rfl
inductive zwL(vs:List Value)(ts:List Str):Prop
 |mk(l:List (Str×Tok))(e:vs=strValues l)(e2:l.map (·.1)=ts)(h:∀x∈ts,PyData.strOk x=true/\x.length<=zp)
theorem zeh{h:Heap}{ts:List Str}:∀{vs:List Value},zi P h vs (ts.map .str)->zwL vs ts:=by
 induction ts with
 |nil=>intro vs r;cases r;exact⟨[],rfl,rfl,nofun⟩
 |cons t ts ih=>
  intro vs r;cases r with
  |cons a r=>
   cases a with
   |str x tk h1 h2=>
    obtain⟨l,e1,e2,e3⟩:=ih r;refine⟨(t,tk)::l,by rw[e1];rfl,congrArg (t::·) e2,fun x hx=>?_⟩;cases hx with
    |head=>exact⟨h1,h2⟩
    |tail _ hx=>exact e3 x hx
theorem ze2{x:Str}(hx:PyData.strOk x=true):∀{ts:List Str},(∀y∈ts,PyData.strOk y=true)->PyData.strOk (Str.join x ts)=true
 |[],_=>by rw[show Str.join x []=Str.empty from by unfold Str.join;rfl,zaj];trivial
 |[y],h=>by rw[show Str.join x [y]=y from by unfold Str.join;rfl];exact h y (.head _)
 |y::z::r,h=>by
  show PyData.strOk (y++x++Str.join x (z::r))=true;exact zbr (zbr (h y (.head _)) hx) (ze2 hx fun u hu=>h u (.tail _ hu))
theorem zjZ(ra:zl prog w T P s.heap a da)(rb:zl prog w T' P s.heap b db)(h:zei da db=.ok d)(g:zD P d Q s):wpAny (model prog w) A (call (.builtin "str.join") [a,b]) Q E s:=by
 obtain⟨x,rfl,h⟩:=zaW h;clear h;obtain⟨ys,rfl,h⟩:=ze0 h;clear h;replace h:=Mine.rb h;obtain⟨ts,hts,h⟩:=h;replace h:=ifS h;obtain⟨hz,h⟩:=h
 (obtain rfl:=okI h;clear h)
 have e:=zdt (jh hts);subst e;obtain⟨t,rfl,h1,h2⟩:=ra.inv_str;obtain⟨l,ol,vl,nl,rfl,hl,cl,_,dl,rl,_⟩:=rb.inv_list;obtain⟨q,e1,e2,e3⟩:=zeh rl;have e4:vl=(strValues q).toArray:=by rw[←e1]
 refine SC.join (by rw[←e4];exact zal hl cl dl) e2 ?_ fun t' k=>g.here (.str _ _ ?_ ?_) _
 ·unfold JoinOk;rw[StrLaws.joinTotal];have:=qA hz zbE;unfold Builtin.Str.tooLong;simp;assumption
 ·show PyData.strOk (Builtin.Str.glued x ts)=true;rw[StrLaws.glued_eq_join];exact ze2 h1 fun y hy=>(e3 y hy).1
 ·show(Builtin.Str.glued x ts).length<=zp;rw[StrLaws.glued_eq_join];exact qA (StrLaws.join_length_le x ts) hz
open Builtin Builtin.Str in
theorem zhD{x y:Str}{t u:Tok}(hy:(y.length==0)=false)(hsz:x.length<=sizeLine)(hsz2:(partsBetween x (occurrences x y 0 x.length (x.length+1)) y.length).length<=sizeLine)
  (hq:∀l k,l.map (·.1)=Txt.split x y->Q (.ref s.heap.objs.size) {s with heap:=s.heap.push {cls:=.type "list",data:=.seq (strValues l).toArray},toks:=k}):
  wpAny (model prog w) A (call (.builtin "str.split") [.str x t,.str y u]) Q E s:=by
 cases h1:(decide (x.length<y.length)||decide (Builtin.Str.strKind x<Builtin.Str.strKind y))
 ·cases hf:(occurrences x y 0 x.length (x.length+1)).isEmpty
  ·refine call_meets PySem.F.slot_str_split (typeIs_str _ _ _) PySem.F.entry_str_split (PySem.F.args_str_split_2 _ _) (meets_str_split_sep x y t u h1 hy hf hsz hsz2) ?_;show wants Q E _ {s with toks:=_,heap:=s.heap.push {cls:=.type "list",data:=.seq (strsFrom s.toks (partsBetween x (occurrences x y 0 x.length (x.length+1)) y.length)).toArray}}
   rw[strsFrom_eq];exact hq (numbered s.toks _) _ ((numbered_texts _ _).trans ((if_neg (ne_true_of_eq_false h1)).trans (if_neg (ne_true_of_eq_false hf))).symm)
  ·exact call_meets PySem.F.slot_str_split (typeIs_str _ _ _) PySem.F.entry_str_split (PySem.F.args_str_split_2 _ _) (meets_str_split_not_found x y t u h1 hy hf)
    (hq [(x,t)] s.toks ((if_neg (ne_true_of_eq_false h1)).trans (if_pos hf)).symm)
 ·exact call_meets PySem.F.slot_str_split (typeIs_str _ _ _) PySem.F.entry_str_split (PySem.F.args_str_split_2 _ _) (meets_str_split_cannot_occur x y t u h1)
   (hq [(x,t)] s.toks (if_pos h1).symm)
theorem zhY(y p q:Str)(r:List Str):Str.join y (p::q::r)=p++y++Str.join y (q::r):=rfl
theorem zm2(y p:Str):Str.join y [p]=p:=rfl
theorem zh3{y:Str}:∀{ps:List Str} {p:Str},p∈ps->(∀c∈p.cps.toList,c∈(Str.join y ps).cps.toList)/\p.length<=(Str.join y ps).length
 |[],p,h=>by exact absurd h List.not_mem_nil
 |[q],p,h=>by
  have e:p=q:=by simpa using h
  (replace e:=Eq.symm e;subst e)
  rw[zm2];exact⟨fun _ h=>h,Nat.le_refl _⟩
 |q::r::t,p,h=>by
  rw[zhY]
  (rcases List.mem_cons.mp h with zr25|h<;>(try (replace zr25:=Eq.symm zr25;subst zr25)))
  ·refine⟨fun c hc=>?_,?_⟩
   ·simp[Str.cps_append];exact .inl (by simpa using hc)
   ·simp only[Str.length_append];lia
  ·have ih:=zh3 (y:=y) h;refine⟨fun c hc=>?_,?_⟩
   ·have:=ih.1 c hc;simp[Str.cps_append];exact .inr (.inr (by simpa using this))
   ·simp only[Str.length_append];have:=ih.2;lia
theorem zh0{y:Str}(hy:y.length=1):∀{ps:List Str},ps.length<=(Str.join y ps).length+1
 |[]=>by simp
 |[q]=>by exact Nat.zero_lt_succ _
 |q::r::t=>by
  have ih:=zh0 hy (ps:=r::t);rw[zhY];simp only[Str.length_append,List.length_cons] at *;lia
theorem znX{h:Heap}{l:List (Str×Tok)}:(∀x∈l.map (·.1),PyData.strOk x=true/\x.length<=zp)->zi P h (strValues l) ((l.map (·.1)).map .str):=by
 induction l with
 |nil=>
  intro _;exact .nil
 |cons zhd r ih=>
  obtain⟨x,t⟩:=zhd;intro hx;exact .cons (.str x t (hx x (.head _)).1 (hx x (.head _)).2) (ih fun y hy=>hx y (.tail _ hy))
open Builtin Builtin.Str in
theorem zf9(x:Str):∀(cuts:List Nat) (w a:Nat),(StrLaws.partsFrom x w a cuts).length=cuts.length+1
 |[],w,a=>by rfl
 |c::r,w,a=>by
  show(strSub x a c::StrLaws.partsFrom x w (c+w) r).length=_;rw[List.length_cons,zf9 x r];rfl
theorem zh5(hP:km P s.heap)(ra:zl prog w T P s.heap a da)(rb:zl prog w T' P s.heap b db)(h:zjv da db=.ok d)(g:zD P d Q s):wpAny (model prog w) A (call (.builtin "str.split") [a,b]) Q E s:=by
 obtain⟨x,rfl,h⟩:=zaW h;clear h;obtain⟨y,rfl,h⟩:=zaW h;clear h;replace h:=ifS h;obtain⟨hc,h⟩:=h
 (obtain rfl:=okI h;clear h)
 obtain⟨t,rfl,h1,h2⟩:=ra.inv_str;obtain⟨u,rfl,h3,h4⟩:=rb.inv_str;have e1:zp=1048576:=by decide
 have e2:sizeLine=16777216:=by decide
 refine zhD (by simp[hc.1]) (qA h2 zbE) ?_ fun l k hl=>?_
 ·rw[StrLaws.partsBetween_eq,zf9];have:=StrLaws.occ_length_le x y 0 x.length (x.length+1);lia
 ·refine g _ _ k (zA.push _ _) ?_;have hj:=StrLaws.join_split x y;have hx:∀p∈l.map (·.1),PyData.strOk p=true/\p.length<=zp:=by
   rw[hl];intro p hp;have:=zh3 (y:=y) hp;rw[hj] at this;exact⟨zaj.mpr fun c hc'=>zaj.mp h1 c (this.1 c hc'),qA this.2 h2⟩
  have r:=znX (P:=P) (h:=s.heap) hx;rw[hl] at r;refine jQ hP (r) ?_;have:=zh0 hc.1 (ps:=Txt.split x y);rw[hj] at this;simp;lia
theorem ziJ(ra:zl prog w T P s.heap a da)(rb:zl prog w T' P s.heap b db)(h:zoD da db=.ok d)(g:zD P d Q s):wpAny (model prog w) A (call (.builtin "str.count") [a,b]) Q E s:=by
 obtain⟨x,rfl,h⟩:=zaW h;clear h;obtain⟨y,rfl,h⟩:=zaW h;clear h;replace h:=ifS h;obtain⟨_,h⟩:=h
 (obtain rfl:=okI h;clear h)
 obtain⟨t,rfl,h1,h2⟩:=ra.inv_str;obtain⟨u,rfl,h3,h4⟩:=rb.inv_str;exact SC.count (g.here (.int _ _) _)
end
end Mine
namespace Mine
open PySem PyProof.Rows PySem.Calls
section
variable{prog:Program}{w:World}{A:Around}{E:Value->Shared->Prop}{s:Shared}{P T T' T₂:Addr->Prop}{Q:Value->Shared->Prop}{a b c:Value}{da db dc d:D}
noncomputable def zpu(x:Str):Value->Bool
 |.str y _=>y==x
 |_=>false
theorem zhT(ra:zl prog w T P s.heap a da)(rb:zl prog w T' P s.heap b db)(h:zdX da db=.ok d)(g:zD P d Q s):wpAny (model prog w) A (call (.builtin "list.index") [a,b]) Q E s:=by
 obtain⟨xs,rfl,h⟩:=ze0 h;clear h;obtain⟨y,rfl,h⟩:=zaW h;clear h;replace h:=Mine.rb h;obtain⟨ts,hts,h⟩:=h;replace h:=ifS h;obtain⟨hc,h⟩:=h
 (obtain rfl:=okI h;clear h)
 have e:=zdt (jh hts);subst e;obtain⟨u,rfl,_⟩:=rb.inv_str;obtain⟨l,ol,vl,nl,rfl,hl,cl,_,dl,rl,hz⟩:=ra.inv_list;obtain⟨q,e1,e2,e3⟩:=zeh rl;obtain⟨cls,dd,data,sl⟩:=ol;simp only at cl dl;subst cl dl;have e4:vl=(strValues q).toArray:=by rw[←e1]
 have hn:vl.size=ts.length:=by simpa using z8 rl
 have hat:∀(j:Nat) (hj:j<vl.size),zpu y vl[j]=(ts[j]'(by lia)==y):=by
  intro j hj;have hq:j<q.length:=by rw[←e2] at hn;simp at hn;lia
  have e5:vl[j]?=some (.str q[j].1 q[j].2):=by
   rw[e4];simp[strValues,hq]
  rw[Array.getElem?_eq_getElem hj] at e5;have e6:=Option.some.inj e5;rw[e6];have e7:ts[j]'(by lia)=q[j].1:=by subst e2;simp
  rw[e7];rfl
 have hm:y∈ts:=by simpa using hc
 have hj:ts.idxOf y<ts.length:=List.idxOf_lt_length_iff.mpr hm;have e8:zp=1048576:=by decide
 have e9:(2:Int) ^ 63=9223372036854775808:=by decide
 simp at hz;refine call_meets PySem.F.slot_list_index ⟨_,hl,rfl⟩ PySem.F.entry_list_index (PySem.F.args_list_index_2 _ _)
  (PySem.SeqAt.list_indexAt l vl nl dd sl (.str y u) (zpu y) (ts.idxOf y) (by lia) (by lia) ?_ ?_) ⟨hl,fun v hv=>?_,g.here (.int _ _) _⟩
 ·rw[hat _ (by lia)]
  simpa using List.getElem_idxOf hj
 ·intro j hjs hlt;rw[hat j hjs];have:=List.not_of_lt_findIdx hlt;exact this
 ·rw[e4] at hv;simp[strValues] at hv;obtain⟨x',t',_,rfl⟩:=hv;exact PySem.SeqAt.EqAt.str_str _ _ _ _
theorem zrz{kvs:List (D×D)}{x:Addr}{i:Int}{t:Tok}(r:zu prog w P s.heap x kvs)(hkd:(kvs.all fun kv=>zE kv.1 (.int i))=true)(rc:Rep P s.heap c dc)(g:zD P ((kD kvs (.int i)).getD dc) Q s):wpAny (model prog w) A (call (.builtin "dict.get") [.ref x,.int i t,c]) Q E s:=by
 obtain⟨l,m,q⟩:=r.int hkd;refine call_meetsIn PySem.F.slot_dict_get m.typeIs PySem.F.entry_dict_get (PySem.F.args_dict_get_3 _ _ _) (meets_dict_get_default (intKind prog w) x (k:=i) (by simp[intKind,Value.isInt]) r.1 c) ⟨_,m.mapOf,?_⟩;rcases q.get zaH _ with⟨e1,e2⟩|⟨v,d',e1,e2,rv⟩
 ·rw[e1];rw[e2] at g;exact g.here rc _
 ·rw[e1];rw[e2] at g;exact g.here rv _
theorem zqG{kvs:List (D×D)}{x:Addr}{i:Str}{t:Tok}(r:zu prog w P s.heap x kvs)(hkd:(kvs.all fun kv=>zE kv.1 (.str i))=true)(rc:Rep P s.heap c dc)(g:zD P ((kD kvs (.str i)).getD dc) Q s):wpAny (model prog w) A (call (.builtin "dict.get") [.ref x,.str i t,c]) Q E s:=by
 obtain⟨l,m,q⟩:=r.str hkd;refine call_meetsIn PySem.F.slot_dict_get m.typeIs PySem.F.entry_dict_get (PySem.F.args_dict_get_3 _ _ _) (meets_dict_get_default (PySem.strKind prog w) x (k:=i) (by simp[PySem.strKind,Value.isStrOf]) r.1 c) ⟨_,m.mapOf,?_⟩;rcases q.get zaC _ with⟨e1,e2⟩|⟨v,d',e1,e2,rv⟩
 ·rw[e1];rw[e2] at g;exact g.here rc _
 ·rw[e1];rw[e2] at g;exact g.here rv _
theorem zsd(hu:A.units+2<cLine){kvs:List (D×D)}{x:Addr}{xs:List D}(rb:zl prog w T' P s.heap b (.tuple xs))(hk:zmg xs=true)(r:zu prog w P s.heap x kvs)(hkd:(kvs.all fun kv=>zE kv.1 (.tuple xs))=true)(rc:Rep P s.heap c dc)(g:zD P ((kD kvs (.tuple xs)).getD dc) Q s):wpAny (model prog w) A (call (.builtin "dict.get") [.ref x,b,c]) Q E s:=by
 obtain⟨i,j,rfl,_⟩:=zdo hk;obtain⟨kb,ok,vk,nk,rfl,_,hok,cok,dok,rk,_⟩:=rb.inv_tuple;obtain⟨l,m,q⟩:=r.tup hkd;refine call_meetsIn PySem.F.slot_dict_get m.typeIs PySem.F.entry_dict_get (PySem.F.args_dict_get_3 _ _ _) (meetsH_dict_get_default (tupleKind (intKind prog w)) x kb r.1 c) ⟨tupleKind_room_in1 (by exact qC ‹_›),[i,j],l,zaO hok cok dok rk,m,?_⟩;rcases q.get i j with⟨e1,e2⟩|⟨ka,v,d',e1,e2,rv⟩
 ·rw[e1];rw[e2] at g;exact g.here rc _
 ·rw[e1];rw[e2] at g;exact g.here rv _
theorem zmB(hu:A.units+2<cLine)(ra:zl prog w T P s.heap a da)(rb:zl prog w T' P s.heap b db)(rc:zl prog w P P s.heap c dc)(h:zm4 da db dc=.ok d)(g:zD P d Q s):
  wpAny (model prog w) A (call (.builtin "dict.get") [a,b,c]) Q E s:=by
 induction da using PyData.casesOn with
 |dict kvs=>
  replace h:=ifS h;obtain⟨hk,h⟩:=h
  (obtain rfl:=okI h;clear h)
  have rc':=rc.toRep prog w (nt1 (an2 (an1 hk)));obtain⟨x,rfl,r⟩:=ra.inv_dict;induction db using PyData.casesOn with
  |int i=>obtain⟨t,rfl⟩:=rb.inv_int;exact zrz r (an2 hk) rc' g
  |str i=>obtain⟨t,rfl,_⟩:=rb.inv_str;exact zqG r (an2 hk) rc' g
  |tuple xs=>exact zsd hu rb (an1 (an1 hk)) r (an2 hk) rc' g
  |_=>exact ff hk
 |_=>exact ns h
end
end Mine
namespace Mine
open PySem PyProof.Rows PySem.Calls
section
variable{α β:Type}
theorem nvO{a:α}:R.ok a≠.ve:=nofun
theorem nvS:(R.stuck:R α)≠.ve:=nofun
theorem jA{f:Int->R α}{d:D}(h:∀i,f i≠.ve):onI f d≠.ve:=by
 induction d using PyData.casesOn with
 |int i=>exact h i
 |_=>exact nvS
theorem zaX{f:Str->R α}{d:D}(h:∀i,f i≠.ve):onS f d≠.ve:=by
 induction d using PyData.casesOn with
 |str i=>exact h i
 |_=>exact nvS
theorem zfp{f:List D->R α}{d:D}(h:∀i,f i≠.ve):onL f d≠.ve:=by
 induction d using PyData.casesOn with
 |list i=>exact h i
 |_=>exact nvS
theorem zov{f:List D->R α}{d:D}(h:∀i,f i≠.ve):onT f d≠.ve:=by
 induction d using PyData.casesOn with
 |tuple i=>exact h i
 |_=>exact nvS
theorem zoB{f:D->R α}{l:List D}(h:∀x,f x≠.ve):on1 f l≠.ve:=by
 induction l using List.casesOn with
 |nil=>exact nvS
 |cons x r=>induction r using List.casesOn with
  |nil=>exact h x
  |cons=>exact nvS
theorem znl{f:D->D->R α}{l:List D}(h:∀x y,f x y≠.ve):on2 f l≠.ve:=by
 induction l using List.casesOn with
 |nil=>exact nvS
 |cons x r=>exact zoB (h x)
theorem zd2{f:Int->Int->R α}{a b:D}(h:∀i j,f i j≠.ve):zfw f a b≠.ve:=jA fun i=>jA (h i)
theorem jk{c:Prop}[Decidable c]{x y:R α}(h:x≠.ve)(h2:y≠.ve):(if c then x else y)≠.ve:=by split<;>assumption
theorem zcu{x:R β}{f:β->R α}(h:x≠.ve)(h2:∀a,f a≠.ve):R.bind x f≠.ve:=by
 induction x using R.casesOn with
 |ok a=>exact h2 a
 |ve=>exact absurd rfl h
 |stuck=>exact nvS
theorem zda{o:Option α}:z7 o≠.ve:=by cases o<;>exact nofun
end
theorem zvL{x y:D}:zdx x y≠.ve:=by
 induction x using PyData.casesOn with
 |int i=>exact jA fun _=>nvO
 |str i=>exact zaX fun _=>jk nvO nvS
 |list i=>exact zfp fun _=>jk nvO nvS
 |tuple i=>exact zov fun _=>jk nvO nvS
 |_=>exact nvS
theorem zva{x y:D}:zeG x y≠.ve:=by
 induction x using PyData.casesOn with
 |int i=>exact jA fun _=>jk nvO nvS
 |list i=>exact jA fun _=>zoB fun _=>jk nvO nvS
 |_=>exact nvS
theorem zsJ{x y:D}:zoh x y≠.ve:=by
 induction x using PyData.casesOn with
 |int i=>exact jA fun _=>nvO
 |tuple i=>exact zov fun _=>znl fun _ _=>jA fun _=>zfp fun _=>znl fun _ _=>jA fun _=>zfp fun _=>zcu zda fun _=>zcu zda fun _=>nvO
 |_=>exact nvS
theorem zpJ{x y:D}:zmv x y≠.ve:=by
 induction y using PyData.casesOn with
 |list i=>exact jk nvS nvO
 |tuple i=>exact jk nvS nvO
 |str i=>exact zaX fun _=>jk nvO nvS
 |dict i=>exact jk nvO nvS
 |_=>exact nvS
theorem zqr{xs:List D}{i:Int}:nth xs i≠.ve:=by cases i<;>exact zda
theorem zqI{x:Str}{i:Int}:zs0 x i≠.ve:=by cases i<;>exact zda
theorem zvp{x y:D}:jg x y≠.ve:=by
 induction x using PyData.casesOn with
 |list i=>exact jA fun _=>zqr
 |tuple i=>exact jA fun _=>zqr
 |str i=>exact jA fun _=>zcu zqI fun _=>nvO
 |dict i=>exact jk zda nvS
 |_=>exact nvS
theorem zqM{x y:D}:zk9 x y≠.ve:=by
 induction x using PyData.casesOn with
 |list i=>exact jA fun _=>jk nvO nvS
 |str i=>exact jA fun _=>jk nvO (jk nvO nvS)
 |_=>exact nvS
theorem zth{x y:D}:ziA x y≠.ve:=by
 induction x using PyData.casesOn with
 |list i=>exact jA fun _=>jk nvO nvS
 |str i=>exact jA fun _=>jk nvO nvS
 |_=>exact nvS
theorem zmu{o:Bin}{x y:D}(h:bin o x y=.ve):False:=by
 induction o using Bin.casesOn with
 |add=>exact zvL h
 |sub=>exact zd2 (fun _ _=>nvO) h
 |mul=>exact zva h
 |mod=>exact zd2 (fun _ _=>jk nvO nvS) h
 |fdiv=>exact zd2 (fun _ _=>jk nvO nvS) h
 |eq=>exact jk nvS nvO h
 |ne=>exact jk nvS nvO h
 |lt=>exact zcu zsJ (fun _=>nvO) h
 |le=>exact zd2 (fun _ _=>nvO) h
 |gt=>exact zd2 (fun _ _=>nvO) h
 |ge=>exact zd2 (fun _ _=>nvO) h
 |mem=>exact zcu zpJ (fun _=>nvO) h
 |nmem=>exact jk nvS (zcu zpJ (fun _=>nvO)) h
 |idx=>exact zvp h
 |upto=>exact zqM h
 |from_=>exact zth h
 |max=>exact zd2 (fun _ _=>nvO) h
 |min=>exact zd2 (fun _ _=>nvO) h
theorem zeN{names:List (Str×NameKind)}{x:Str}{k:NameKind}{i:Nat}(h1:names.lookup x=some k)(h2:names.findIdx? (·.1==x)=some i):names[i]?=some (x,k):=by
 induction names generalizing i with
 |nil=>exact nn h1
 |cons p r ih=>
  obtain⟨y,l⟩:=p;by_cases e:x=y
  ·subst e;rw[List.findIdx?_cons] at h2;simp at h1 h2;subst h1;subst h2;rfl
  ·have e':(x==y)=false:=by exact if_neg ‹_›
   have e2:(y==x)=false:=by simpa using Ne.symm e
   rw[List.lookup_cons,e'] at h1;rw[List.findIdx?_cons] at h2;simp only[e2] at h2;cases hj:r.findIdx? (·.1==x) with
   |none=>rw[hj] at h2;exact nn h2
   |some j=>
    rw[hj] at h2;simp at h2;subst h2;exact ih h1 hj
set_option tactic.hygienic true in
theorem zak{cx:Cx}{x:Str}{i:Nat}(h:cx.var? x=some i):∃k,cx.names[i]?=some (x,k)/\kj k=true/\jz x=true:=by
 unfold Cx.var? at h;split at h
 ·rename_i k hk;split at h
  ·rename_i hc;simp only[Bool.and_eq_true] at hc;exact⟨k,zeN hk h,hc.1,hc.2⟩
  ·exact nn h
 ·exact nn h
theorem kZ{x:Str}(h:jz x=true):(x==("__debug__" : Str))=false/\(x==("__classdict__" : Str))=false/\x≠("__name__" : Str):=by
 unfold jz at h;simp only[Bool.and_eq_true,Bool.not_eq_true'] at h;exact⟨h.1.1,h.1.2,fun e=>by rw[e] at h;exact absurd h (by decide)⟩
section
variable{prog:Program}{w:World}{zc:Heap}{G:List D}{cf:Nat->List D->R D}{n:Nat}{names:List (Str×NameKind)}{st:List VS}{b:Bool}{env:Env}
theorem zht{A:Around}{E:Value->Shared->Prop}{s:Shared}{x:Str}{pos:Pos}{v:Value}{Q:Value->Shared->Prop}(hk:env.scope.kind=.function)(hp:jz x=true)(hv:zF env s.heap x v)(h:Q v s):
  wpAny (model prog w) A (eval (.Name x pos) env) Q E s:=by
 refine wpAny_Name ?_ (kZ hp).1;induction hv using zF.casesOn with
 |loc m h1 h2 h3=>exact wpAny_loadName_local hk h1 h2 h3 h
 |cell c h1 h2 h3=>
  rcases h1 with h1|h1
  ·exact wpAny_loadName_cell hk h1 h2 h3 h
  ·exact wpAny_loadName_free hk h1 h2 h3 h (kZ hp).2.1
theorem zrQ{c:Const}{k:Nat}{pos:Pos}{l:Lit}(h:zft c=some l):
  zt prog w zc G cf n names st b env (eval (.Constant c k pos) env) (.lit l):=by
 intro P A fs s ρ Q E ec vo hok _ _;induction c using PySem.Const.casesOn with
 |none=>(obtain rfl:=soI h;clear h);exact Constant_none (hok _ _ s rfl (Ch.refl s) (.rep .none))
 |bool b=>(obtain rfl:=soI h;clear h);exact Constant_bool (hok _ _ s rfl (Ch.refl s) (.rep (.bool _)))
 |int i=>(obtain rfl:=soI h;clear h);exact wpAny_Constant_int (hok _ _ _ rfl (Ch.tok _) (.rep (.int _ _)))
 |str x=>
  obtain⟨hz,h⟩:=ifn h
  (obtain rfl:=soI h;clear h)
  exact Constant_str (hok _ _ _ rfl (Ch.tok _) (.rep (.str _ _ (an1 hz) (of_decide_eq_true (an2 hz)))))
 |_=>exact nn h
theorem zsL{cx:Cx}{x:Str}{pos:Pos}{i:Nat}(h:cx.var? x=some i)(hl:lkE st b (.var i)=true):
  zt prog w zc G cf n cx.names st b env (eval (.Name x pos) env) (.var i):=by
 intro P A fs s ρ Q E ec vo hok _ _;obtain⟨k,h1,h2,h3⟩:=zak h;have hl:(match VS.at st i with|.u=>false|.f=>true|.o=>b)=true:=hl;have hu:VS.at st i≠.u:=fun e=>by rw[e] at hl;exact ff hl
 obtain⟨v,hv,rv⟩:=vo i x k h1 h2 hu;refine zht ec.kind h3 hv (hok _ _ s rfl (Ch.refl s) ?_);cases hs:VS.at st i with
 |u=>exact absurd hs hu
 |f=>rw[hs,if_neg (by trivial)] at rv;exact rv.mono prog w (fun a x=>by cases b<;>first|exact x|trivial) (fun _ x=>x) (zA.refl _)
 |o=>
  rw[hs] at hl;have hb:b=true:=hl
  (replace hb:=Eq.symm hb;subst hb)
  exact rv.top
theorem kH.load{F:List zH}{K:List (Str×D)}{mg mb:Str->Option Value}(B:kH F K mg mb zc){A:Around}{E:Value->Shared->Prop}{s:Shared}{x:Str}{pos:Pos}{v:Value}{Q:Value->Shared->Prop}
  (hs:zc.StaysIn s.heap)(hk:env.scope.kind=.function)(hg:env.globals=mainGlobals)(hx:env.kindOf x=some .globalImplicit)(hp:jz x=true)(hv:mg x=some v)(h:Q v s):
  wpAny (model prog w) A (eval (.Name x pos) env) Q E s:=
 Name_function_global hk hx (loadGlobal_global (by rw[hg];exact B.g.keeps hs) hv h) (kZ hp).1
theorem kH.loadB{F:List zH}{K:List (Str×D)}{mg mb:Str->Option Value}(B:kH F K mg mb zc){A:Around}{E:Value->Shared->Prop}{s:Shared}{x:Str}{pos:Pos}{v:Value}{Q:Value->Shared->Prop}
  (hs:zc.StaysIn s.heap)(hk:env.scope.kind=.function)(hg:env.globals=mainGlobals)(hb:env.builtins=builtinsNs)(hx:env.kindOf x=some .globalImplicit)(hp:jz x=true)(hm:x∈jt)(hv:bootBuiltins x=some v)(h:Q v s):
  wpAny (model prog w) A (eval (.Name x pos) env) Q E s:=
 Name_function_global hk hx (loadGlobal_builtin (by rw[hg];exact B.g.keeps hs) (B.free x hm) (by rw[hb];exact B.b.keeps hs) (by rw[B.bi x (kZ hp).2.2];exact hv) h) (kZ hp).1
theorem zbH{cx:Cx}{x:Str}(h:cx.isGlob x=true):cx.names.lookup x=some .globalImplicit/\jz x=true:=by
 unfold Cx.isGlob at h;simp only[Bool.and_eq_true,beq_iff_eq] at h;exact h
set_option tactic.hygienic true in
theorem zpG{F:List zH}{K:List (Str×D)}{mg mb:Str->Option Value}(B:kH F K mg mb zc)(hG:G=K.map (·.2)){cx:Cx}(hC:cx.consts=K.map (·.1))(hL:Lnk cx env){x:Str}{pos:Pos}{i:Nat}(h:cx.const? x=some i):
  zt prog w zc G cf n names st b env (eval (.Name x pos) env) (.glob i):=by
 intro P A fs s ρ Q E ec vo hok _ _;unfold Cx.const? at h;split at h
 ·rename_i hg;obtain⟨hg1,hg2⟩:=zbH hg;rw[hC] at h;obtain⟨hi,hx⟩:=List.findIdx?_eq_some_iff_getElem.mp h;simp only[List.getElem_map,List.length_map] at hi hx;obtain⟨v,hv,rv⟩:=B.const i K[i].1 K[i].2 (by rw[List.getElem?_eq_getElem hi]);have e:K[i].1=x:=by simpa using hx.1
  rw[e] at hv;refine B.load ec.stays ec.kind ec.globals (hL.glob x hg1) hg2 hv (hok _ _ s rfl (Ch.refl s) (.rep ?_));have e2:G.getD i .none=K[i].2:=by rw[hG];simp[hi]
  rw[e2];exact rv.mono (fun a ⟨o,q⟩=>ec.pbase a o q) (.of_keep ec.stays)
 ·exact nn h
theorem zD.mk'{P T:Addr->Prop}{d:D}{Q:Value->Shared->Prop}{s:Shared}(h:∀v s',Ch s s'->zl prog w T P s'.heap v d->Q v s'):zD P d Q s:=
 fun v h' tk k r=>h v {s with heap:=h',toks:=tk} (Ch.of tk k) (.rep r)
theorem zbm{x y t:Sem Value}{o:Bin}{a c:PE}{W:Around->(Value->Shared->Prop)->(Value->Shared->Prop)->Value->Value->Shared->Prop}
  (hrule:∀{A E s Q P fs},EC zc P A fs n env s.heap->wpAny (model prog w) A x (fun u s₁=>wpAny (model prog w) A y (fun v s₂=>W A Q E u v s₂) E s₁) E s->wpAny (model prog w) A t Q E s)
  (hprim:∀{A:Around} {P:Addr->Prop} {fs:List Env} {Q E:Value->Shared->Prop} {s:Shared} {u v:Value} {du dv d:D},EC zc P A fs n env s.heap->zl prog w (fun _=>True) P s.heap u du->zl prog w (fun _=>True) P s.heap v dv->
   bin o du dv=.ok d->(∀v s',Ch s s'->Rep P s'.heap v d->Q v s')->W A Q E u v s)
  (ha:zt prog w zc G cf n names st true env x a)(hc:zt prog w zc G cf n names st true env y c):
  zt prog w zc G cf n names st b env t (.bin o a c):=by
 intro P A fs s ρ Q E ec vo hok hve hns;simp only[zv6] at hok hve hns;refine hrule ec (ha P A fs s ρ _ E ec vo (fun x v s₁ hx c1 rx=>?_) (fun hx=>?_) (fun hx=>hns (by rw[hx];rfl)))
 ·rw[hx] at hok hve hns;refine hc P A fs s₁ ρ _ E (ec.keep c1.keep) (vo.keep prog w c1.keep) (fun y u s₂ hy c2 ry=>?_) (fun hy x s' he=>?_) (fun hy=>hns (by rw[hy];rfl))
  ·rw[hy] at hok hve hns;cases hd:bin o x y with
   |stuck=>exact absurd hd hns
   |ve=>exact(zmu hd).elim
   |ok d=>exact hprim ((ec.keep c1.keep).keep c2.keep) (rx.keep prog w c2.keep) ry hd fun v' s' c3 r3=>hok d v' s' hd ((c1.trans c2).trans c3) (.rep r3)
  ·exact hve (by rw[hy];rfl) x s' (he.after c1)
 ·intro x s' he;exact hve (by rw[hx];rfl) x s' he
theorem jI{P:Addr->Prop}{d:D}{Q:Value->Shared->Prop}{s:Shared}(h:∀v s',Ch s s'->Rep P s'.heap v d->Q v s'):zD P d Q s:=
 fun v h' tk k r=>h v {s with heap:=h',toks:=tk} (Ch.of tk k) r
theorem zmd{l r:Expr}{op:Operator}{pos:Pos}{o:Bin}{a c:PE}(hop:zgj op=some o)
  (ha:zt prog w zc G cf n names st true env (eval l env) a)(hc:zt prog w zc G cf n names st true env (eval r env) c):
  zt prog w zc G cf n names st b env (eval (.BinOp l op r pos) env) (.bin o a c):=
 zbm (W:=fun A Q E u v s=>wpAny (model prog w) A (binaryOp op u v) Q E s) (fun _ h=>wpAny_BinOp h) (fun ec ru rv hd g=>zit ec.pnew hop ru rv hd (jI g)) ha hc
theorem zsj{A:Around}{E:Value->Shared->Prop}{s:Shared}{e:Expr}{o r:Value}{Q:Unit->Shared->Prop}(h:Q () s):wpAny (model prog w) A (letTemporaryGo e o r) Q E s:=by
 have key:wpAny (model prog w) A (do let _ ←holding [r] (runValue (.builtin "proto.let_go" {}))) Q E s:=wpAny_bind (wpAny_holding (wpAny_runValue (codeAny_builtin entry_let_go (show wpAny _ _ (ret .none) _ _ s from wpAny_pure (wpAny_pure h)))))
 induction e using PySem.Expr.casesOn with
 |Name=>exact wpAny_pure h
 |_=>cases o<;>first|exact wpAny_pure h|exact key
theorem zmk{P T:Addr->Prop}{s:Shared}{u:Value}{du dv d:D}(r:zl prog w T P s.heap u du)(h:jg du dv=.ok d):∃X id,s.TypeIs u X/\typeLookup (.type X) "__getitem__"=pure (some (.builtin id)):=by
 induction du using PyData.casesOn with
 |list xs=>obtain⟨a,oa,va,na,rfl,ha,ca,_⟩:=r.inv_list;exact⟨"list",_,⟨_,ha,ca⟩,slot_list_getitem.lookup⟩
 |tuple xs=>obtain⟨a,oa,va,na,rfl,_,ha,ca,_⟩:=r.inv_tuple;exact⟨"tuple",_,⟨_,ha,ca⟩,slot_tuple_getitem.lookup⟩
 |str x=>obtain⟨t,rfl,_⟩:=r.inv_str;exact⟨"str",_,typeIs_str _ _ _,PySem.F.slot_str_getitem.lookup⟩
 |dict kvs=>
  obtain⟨a,rfl,_,_,⟨l,m,_⟩|⟨l,m,_⟩|⟨l,m,_⟩⟩:=r.inv_dict
  ·exact⟨"dict",_,m.typeIs,slot_dict_getitem.lookup⟩
  ·exact⟨"dict",_,m.typeIs,slot_dict_getitem.lookup⟩
  ·exact⟨"dict",_,m.typeIs,slot_dict_getitem.lookup⟩
 |_=>exact ns h
noncomputable def zyt:Expr->Bool
 |.Slice ..=>true
 |_=>false
theorem zcg{A:Around}{E:Value->Shared->Prop}{s:Shared}{value slice:Expr}{o i:Value}{X id:String}{Q:Value->Shared->Prop}(hT:s.TypeIs o X)
  (hl:typeLookup (.type X) "__getitem__"=pure (some (.builtin id)))(h:wpAny (model prog w) A (getItem o i) Q E s):wpAny (model prog w) A (subscriptTail value slice o i) Q E s:=by
 unfold subscriptTail;refine wpAny_bind ?_;rw[getitemInPython_of_ne hT.not_modules];refine wpAny_bind (wpAny_specialOf hT hl ?_);have fin:wpAny (model prog w) A (subscripted slice false o i) (fun r s₃=>wpAny (model prog w) A (letTemporaryGo value o r >>= fun _=>pure r) Q E s₃) E s:=by
  have key:∀l,wpAny (model prog w) A (operate l (getItem o i)) (fun r s₃=>wpAny (model prog w) A (letTemporaryGo value o r >>= fun _=>pure r) Q E s₃) E s:=fun l=>wpAny_operating (wpAny_mono h (fun r s₃ h₃=>wpAny_bind (zsj (wpAny_pure h₃))) fun _ _ x=>x);induction slice using PySem.Expr.casesOn with
  |Slice _ _ st=>induction st using Option.casesOn with
   |none=>exact key _
   |some=>exact key _
  |_=>exact key _
 first
  |exact wpAny_pure (wpAny_bind fin)
  |exact wpAny_bind (wpAny_pure (wpAny_bind fin))
  |exact wpAny_bind fin
theorem zst{l r:Expr}{pos:Pos}{a c:PE}
  (ha:zt prog w zc G cf n names st true env (eval l env) a)(hc:zt prog w zc G cf n names st true env (eval r env) c):
  zt prog w zc G cf n names st b env (eval (.Subscript l r pos) env) (.bin .idx a c):=
 zbm (W:=fun A Q E u v s=>wpAny (model prog w) A (subscriptTail l r u v) Q E s) (fun _ h=>Subscript_ h) (fun ec ru rv hd g=>by
  obtain⟨X,id,hT,hl⟩:=zmk ru hd;exact zcg hT hl (zlP (by have:=ec.units;lia) ru rv hd (jI g))) ha hc
end
end Mine
namespace Mine
open PySem PyProof.Rows PySem.Calls
inductive BD(f:Bool->D)(x d:D):Prop
 |mk(b:Bool)(e:x=.bool b)(h:d=f b)
theorem zsn{x d:D}(h:zrc x=.ok d):BD (fun b=>.bool !b) x d:=by
 induction x using PyData.casesOn with
 |bool b=>(obtain rfl:=okI h;clear h);exact⟨b,rfl,rfl⟩
 |_=>exact ns h
theorem zra{c:Bool}{x d:D}(h:zvi c x=.ok d):BD (fun b=>.bool (b==c)) x d:=by
 induction x using PyData.casesOn with
 |bool b=>(obtain rfl:=okI h;clear h);exact⟨b,rfl,rfl⟩
 |_=>exact ns h
theorem znD{c:Bool}{x d:D}(h:zni c x=.ok d):BD (fun b=>.bool !(b==c)) x d:=by
 induction x using PyData.casesOn with
 |bool b=>(obtain rfl:=okI h;clear h);exact⟨b,rfl,rfl⟩
 |_=>exact ns h
theorem zvB{x:D}:zrc x≠.ve:=by cases x<;>exact nofun
theorem zwb{x:D}:zdU x≠.ve:=by cases x<;>exact nofun
theorem zvc{b:Bool}{x:D}:zvi b x≠.ve:=by cases x<;>exact nofun
theorem zq9{b:Bool}{x:D}:zni b x≠.ve:=by cases x<;>exact nofun
theorem zrn{x:D}:zqv x≠.ve:=by
 induction x using PyData.casesOn with
 |dict kvs=>exact jk nvO nvS
 |_=>exact nvS
theorem zob{o:Un}{x:D}(h:un o x=.ve):False:=by
 induction o using Un.casesOn with
 |not=>exact zvB h
 |neg=>exact jA (fun _=>nvO) h
 |len=>exact zwb h
 |str=>exact jA (fun _=>zcu zda fun _=>nvO) h
 |int=>exact zaX (fun _=>zcu zda fun _=>nvO) h
 |isB b=>exact zvc h
 |notB b=>exact zq9 h
 |keys=>exact zrn h
 |_=>exact ov h
section
variable{prog:Program}{w:World}{zc:Heap}{G:List D}{cf:Nat->List D->R D}{n:Nat}{names:List (Str×NameKind)}{st:List VS}{b:Bool}{env:Env}
theorem zcw{op:CmpOp}{r:Expr}(h:∀es k p,r≠.Set es k p):behindInMarks op r=false:=by
 cases r<;>first|rfl|exact absurd rfl (h _ _ _)
theorem zjU{A:Around}{E:Value->Shared->Prop}{s:Shared}{l r:Expr}{op:CmpOp}{pos:Pos}{Q:Value->Shared->Prop}(hn:∀es k p,r≠.Set es k p)
  (h:wpAny (model prog w) A (eval l env) (fun u s₁=>wpAny (model prog w) A (eval r env) (fun v s₂=>wpAny (model prog w) A (compareOp op u v) Q E s₂) E s₁) E s):
  wpAny (model prog w) A (eval (.Compare l [op] [r] pos) env) Q E s:=
 wpAny_Compare1 h (zcw hn)
theorem zsC{l r:Expr}{op:CmpOp}{pos:Pos}{o:Bin}{a c:PE}(hop:zgn op=some o)(hn:∀es k p,r≠.Set es k p)
  (ha:zt prog w zc G cf n names st true env (eval l env) a)(hc:zt prog w zc G cf n names st true env (eval r env) c):
  zt prog w zc G cf n names st b env (eval (.Compare l [op] [r] pos) env) (.bin o a c):=
 zbm (W:=fun A Q E u v s=>wpAny (model prog w) A (compareOp op u v) Q E s) (fun _ h=>zjU hn h) (fun ec ru rv hd g=>zmD (by have:=ec.units;lia) ec.handled hop ru rv hd (jI g)) ha hc
theorem zfC{A:Around}{E:Value->Shared->Prop}{s:Shared}{l r:Expr}{op:CmpOp}{pos:Pos}{whole:Sem Value}{Q:Bool->Shared->Prop}(hn:∀es k p,r≠.Set es k p)
  (h:wpAny (model prog w) A (eval (.Compare l [op] [r] pos) env) (fun c s₃=>wpAny (model prog w) A (truthy c) Q E s₃) E s):
  wpAny (model prog w) A (isTrue (.Compare l [op] [r] pos) env whole) Q E s:=fun Γ p hΓ=>by
 have h':=h Γ p hΓ;have hm:=zcw (op:=op) hn;simp only[isTrue_Compare1,eval_Compare1,markedBehindIn_of_false hm,Sem.wp_bind',Sem.wp_holding,Sem.wp_cmd_standAt,Sem.wp_operate] at h' ⊢;exact Sem.wp_mono _ Γ _ (fun a p₁ s₁ h₁=>Sem.wp_mono _ Γ _ (fun b _ s₂ h₂=>Sem.wp_mono _ Γ _ (fun c p₃ s₃ h₃=>h₃ Γ p₃ hΓ) (fun _ _ _ h'=>h') _ _ h₂) (fun _ _ _ h'=>h') _ _ h₁) (fun _ _ _ h'=>h') _ _ h'
theorem zil{t:Sem Value}{tb:Sem Bool}{pe:PE}(h:zt prog w zc G cf n names st true env t pe)
  (hr:∀{A E s Q},wpAny (model prog w) A t (fun c s₃=>wpAny (model prog w) A (truthy c) Q E s₃) E s->wpAny (model prog w) A tb Q E s):zaR prog w zc G cf n names st env tb pe:=by
 intro P A fs s ρ Q E ec vo hok hve hns;refine hr (h P A fs s ρ _ E ec vo (fun d v s' hd c r=>?_) hve (fun hd=>hns (by rw[hd];rfl)));rw[hd] at hns;induction d using PyData.casesOn with
 |bool x=>
  rw[r.inv_bool];exact wpAny_truthy_bool (hok x s' hd c)
 |_=>exact absurd rfl hns
theorem kS{x t:Sem Value}{o:Un}{a:PE}{W:Around->(Value->Shared->Prop)->(Value->Shared->Prop)->Value->Shared->Prop}
  (hrule:∀{A E s Q P fs},EC zc P A fs n env s.heap->wpAny (model prog w) A x (fun u s₁=>W A Q E u s₁) E s->wpAny (model prog w) A t Q E s)
  (hprim:∀{A:Around} {P:Addr->Prop} {fs:List Env} {Q E:Value->Shared->Prop} {s:Shared} {u:Value} {du d:D},EC zc P A fs n env s.heap->zl prog w (fun _=>True) P s.heap u du->
   un o du=.ok d->(∀v s',Ch s s'->Rep P s'.heap v d->Q v s')->W A Q E u s)
  (ha:zt prog w zc G cf n names st true env x a):zt prog w zc G cf n names st b env t (.un o a):=by
 intro P A fs s ρ Q E ec vo hok hve hns;simp only[zk8] at hok hve hns;refine hrule ec (ha P A fs s ρ _ E ec vo (fun x v s₁ hx c1 rx=>?_) (fun hx=>?_) (fun hx=>hns (by rw[hx];rfl)))
 ·rw[hx] at hok hve hns;simp only[R.bind_ok] at hok hve hns;cases hd:un o x with
  |stuck=>exact absurd hd hns
  |ve=>exact(zob hd).elim
  |ok d=>exact hprim (ec.keep c1.keep) rx hd fun v' s' c3 r3=>hok d v' s' hd (c1.trans c3) (.rep r3)
 ·intro x s' he;exact hve (by rw[hx];rfl) x s' he
theorem zqD{x:Expr}{pos:Pos}{a:PE}(ha:zt prog w zc G cf n names st true env (eval x env) a):
  zt prog w zc G cf n names st b env (eval (.UnaryOp .Not x pos) env) (.un .not a):=
 kS (W:=fun A Q E u s=>wpAny (model prog w) A (unaryOp .Not u) Q E s) (fun _ h=>UnaryOp_ h) (fun _ ru hd g=>by
  obtain⟨z,rfl,rfl⟩:=zsn hd;rw[ru.inv_bool];exact not_of (wpAny_truthy_bool (g _ _ (Ch.refl _) (.bool _)))) ha
theorem zrA{x:Expr}{pos:Pos}{a:PE}(ha:zt prog w zc G cf n names st true env (eval x env) a):
  zt prog w zc G cf n names st b env (eval (.UnaryOp .USub x pos) env) (.un .neg a):=
 kS (W:=fun A Q E u s=>wpAny (model prog w) A (unaryOp .USub u) Q E s) (fun _ h=>UnaryOp_ h) (fun _ ru hd g=>by
  obtain⟨i,rfl,hd⟩:=jG hd;clear hd
  (obtain rfl:=okI hd;clear hd)
  obtain⟨t,rfl⟩:=ru.inv_int;exact PyProof.Rows.neg_int (g _ _ (Ch.tok _) (.int _ _))) ha
theorem btn{x:R D}(h:R.bind x zM=.stuck):R.bind (R.bind x (un .not)) zM=.stuck:=by
 induction x using R.casesOn with
 |stuck=>rfl
 |ve=>exact vs' h
 |ok d=>induction d using PyData.casesOn with
  |bool=>exact os h
  |_=>rfl
theorem zqb{x:Expr}{pos:Pos}{whole:Sem Value}{a:PE}(ha:zaR prog w zc G cf n names st env (isTrue x env (eval x env)) a):
  zaR prog w zc G cf n names st env (isTrue (.UnaryOp .Not x pos) env whole) (.un .not a):=by
 intro P A fs s ρ Q E ec vo hok hve hns;simp only[zk8] at hok hve hns;refine PyProof.Rows.isTrue_not (ha P A fs s ρ _ E ec vo (fun c s' hd ch=>?_) (fun hd=>hve (by rw[hd];rfl)) (fun hd=>hns ?_))
 ·exact hok (!c) s' (by rw[hd];rfl) ch
 ·exact btn hd
end
end Mine
namespace Mine
open PySem PyProof.Rows PySem.Calls
inductive zaz{α β:Type}(R:α->β->Prop):List α->List β->Prop
 |nil:zaz R [] []
 |cons{a:α}{b:β}{as:List α}{bs:List β}:R a b->zaz R as bs->zaz R (a::as) (b::bs)
theorem zaz.length{α β:Type}{R:α->β->Prop}{as:List α}{bs:List β}(r:zaz R as bs):as.length=bs.length:=by
 induction r with
 |nil=>rfl
 |cons _ _ ih=>exact congrArg (·+1) ih
section
variable{prog:Program}{w:World}{zc:Heap}{G:List D}{cf:Nat->List D->R D}{n:Nat}{names:List (Str×NameKind)}{st:List VS}{b:Bool}{env:Env}
noncomputable def EvT(prog:Program)(w:World)(zc:Heap)(G:List D)(cf:Nat->List D->R D)(n:Nat)(names:List (Str×NameKind))(st:List VS)(env:Env)(e:Expr)(pe:PE):Prop:=
 zt prog w zc G cf n names st true env (eval e env) pe/\zaR prog w zc G cf n names st env (isTrue e env (eval e env)) pe
theorem kQ{d:D}{c:Bool}(h:zM d=.ok c):d=.bool c:=by
 cases d<;>first|(cases h;rfl)|exact ns h
theorem zns{x:Expr}{e₂:Expr}{rest:List Expr}{pos:Pos}{a c:PE}(ha:zt prog w zc G cf n names st true env (eval x env) a)
  (hc:zt prog w zc G cf n names st true env (eval (.BoolOp .And (e₂::rest) pos) env) c):zt prog w zc G cf n names st b env (eval (.BoolOp .And (x::e₂::rest) pos) env) (.and_ a c):=by
 intro P A fs s ρ Q E ec vo hok hve hns;simp only[zpq] at hok hve hns;refine BoolOp_and (ha P A fs s ρ _ E ec vo (fun d v s₁ hd c1 r1=>?_) (fun hd=>hve (by rw[hd];rfl)) (fun hd=>hns (by rw[hd];rfl)));rw[hd] at hok hve hns;simp only[R.bind_ok] at hok hve hns;cases ht:zM d with
 |stuck=>rw[ht] at hns;exact absurd rfl hns
 |ve=>exact zcZ ht
 |ok t=>
  have e:=kQ ht;subst e;rw[ht] at hok hve hns;simp only[R.bind_ok] at hok hve hns;rw[r1.inv_bool];refine wpAny_truthy_bool ?_;induction t using Bool.casesOn with
  |false=>
   simp only[Bool.false_eq_true,if_false] at hok ⊢;exact hok _ _ s₁ rfl c1 (.rep (.bool _))
  |true=>
   simp only[if_true] at hok hve hns ⊢;refine hc P A fs s₁ ρ _ E (ec.keep c1.keep) (vo.keep prog w c1.keep) (fun d2 v2 s₂ hd2 c2 r2=>?_) (fun hd2 x s' he=>hve (by rw[hd2];rfl) x s' (he.after c1)) (fun hd2=>hns (by rw[hd2];rfl));rw[hd2] at hok hve hns;simp only[R.bind_ok] at hok hve hns;cases ht2:zM d2 with
   |stuck=>rw[ht2] at hns;exact absurd rfl hns
   |ve=>exact zcZ ht2
   |ok t2=>
    have e:=kQ ht2;subst e;rw[ht2] at hok;rw[r2.inv_bool];exact hok _ _ s₂ rfl (c1.trans c2) (.rep (.bool _))
theorem zsq{x:Expr}{e₂:Expr}{rest:List Expr}{pos:Pos}{a c:PE}(ha:zt prog w zc G cf n names st true env (eval x env) a)
  (hc:zt prog w zc G cf n names st true env (eval (.BoolOp .Or (e₂::rest) pos) env) c):zt prog w zc G cf n names st b env (eval (.BoolOp .Or (x::e₂::rest) pos) env) (.or_ a c):=by
 intro P A fs s ρ Q E ec vo hok hve hns;simp only[zt7] at hok hve hns;refine BoolOp_or (ha P A fs s ρ _ E ec vo (fun d v s₁ hd c1 r1=>?_) (fun hd=>hve (by rw[hd];rfl)) (fun hd=>hns (by rw[hd];rfl)));rw[hd] at hok hve hns;simp only[R.bind_ok] at hok hve hns;cases ht:zM d with
 |stuck=>rw[ht] at hns;exact absurd rfl hns
 |ve=>exact zcZ ht
 |ok t=>
  have e:=kQ ht;subst e;rw[ht] at hok hve hns;rw[r1.inv_bool];refine wpAny_truthy_bool ?_;induction t using Bool.casesOn with
  |true=>
   exact hok _ _ s₁ rfl c1 (.rep (.bool _))
  |false=>
   refine hc P A fs s₁ ρ _ E (ec.keep c1.keep) (vo.keep prog w c1.keep) (fun d2 v2 s₂ hd2 c2 r2=>?_) (fun hd2 x s' he=>hve (by rw[hd2];rfl) x s' (he.after c1)) (fun hd2=>hns (by rw[hd2];rfl));rw[hd2] at hok hve hns;simp only[R.bind_ok] at hok hve hns;cases ht2:zM d2 with
   |stuck=>rw[ht2] at hns;exact absurd rfl hns
   |ve=>exact zcZ ht2
   |ok t2=>
    have e:=kQ ht2;subst e;rw[ht2] at hok;rw[r2.inv_bool];exact hok _ _ s₂ rfl (c1.trans c2) (.rep (.bool _))
theorem zlA{x:Expr}{rest:List Expr}{pos:Pos}{whole:Sem Value}{a c:PE}(ha:zaR prog w zc G cf n names st env (isTrue x env (eval x env)) a)
  (hc:zaR prog w zc G cf n names st env (isTrue (.BoolOp .And rest pos) env whole) c):zaR prog w zc G cf n names st env (isTrue (.BoolOp .And (x::rest) pos) env whole) (.and_ a c):=by
 intro P A fs s ρ Q E ec vo hok hve hns;simp only[zpq] at hok hve hns;refine PyProof.Rows.isTrue_and (ha P A fs s ρ _ E ec vo (fun t s₁ hd c1=>?_) (fun hd=>hve (by rw[hd];rfl)) (fun hd=>hns ?_))
 ·rw[hd] at hok hve hns;simp only[R.bind_ok,zpI] at hok hve hns;induction t using Bool.casesOn with
  |false=>simp only[Bool.false_eq_true,if_false] at hok ⊢;exact hok _ s₁ rfl c1
  |true=>
   simp only[if_true] at hok hve hns ⊢;refine hc P A fs s₁ ρ _ E (ec.keep c1.keep) (vo.keep prog w c1.keep) (fun t2 s₂ hd2 c2=>?_) (fun hd2 x s' he=>hve (by rw[hd2];rfl) x s' (he.after c1)) (fun hd2=>hns ?_)
   ·exact hok t2 s₂ (by rw[hd2];rfl) (c1.trans c2)
   ·exact btt hd2
 ·first|exact btt hd|exact bts hd
theorem zoW{x:Expr}{rest:List Expr}{pos:Pos}{whole:Sem Value}{a c:PE}(ha:zaR prog w zc G cf n names st env (isTrue x env (eval x env)) a)
  (hc:zaR prog w zc G cf n names st env (isTrue (.BoolOp .Or rest pos) env whole) c):zaR prog w zc G cf n names st env (isTrue (.BoolOp .Or (x::rest) pos) env whole) (.or_ a c):=by
 intro P A fs s ρ Q E ec vo hok hve hns;simp only[zt7] at hok hve hns;refine PyProof.Rows.isTrue_or (ha P A fs s ρ _ E ec vo (fun t s₁ hd c1=>?_) (fun hd=>hve (by rw[hd];rfl)) (fun hd=>hns ?_))
 ·rw[hd] at hok hve hns;simp only[R.bind_ok,zpI] at hok hve hns;induction t using Bool.casesOn with
  |true=>simp only[if_true] at hok ⊢;exact hok _ s₁ rfl c1
  |false=>
   simp only[Bool.false_eq_true,if_false] at hok hve hns ⊢;refine hc P A fs s₁ ρ _ E (ec.keep c1.keep) (vo.keep prog w c1.keep) (fun t2 s₂ hd2 c2=>?_) (fun hd2 x s' he=>hve (by rw[hd2];rfl) x s' (he.after c1)) (fun hd2=>hns ?_)
   ·exact hok t2 s₂ (by rw[hd2];rfl) (c1.trans c2)
   ·exact btt hd2
 ·first|exact btt hd|exact bts hd
theorem zmm{x:Expr}{pos:Pos}{whole:Sem Value}{a:PE}(ha:zaR prog w zc G cf n names st env (isTrue x env (eval x env)) a):
  zaR prog w zc G cf n names st env (isTrue (.BoolOp .And [x] pos) env whole) a:=by
 intro P A fs s ρ Q E ec vo hok hve hns;refine PyProof.Rows.isTrue_and (ha P A fs s ρ _ E ec vo (fun t s₁ hd c1=>?_) hve hns);induction t using Bool.casesOn with
 |false=>exact hok _ s₁ hd c1
 |true=>exact isTrue_and_nil (hok _ s₁ hd c1)
theorem zqc{x:Expr}{pos:Pos}{whole:Sem Value}{a:PE}(ha:zaR prog w zc G cf n names st env (isTrue x env (eval x env)) a):
  zaR prog w zc G cf n names st env (isTrue (.BoolOp .Or [x] pos) env whole) a:=by
 intro P A fs s ρ Q E ec vo hok hve hns;refine PyProof.Rows.isTrue_or (ha P A fs s ρ _ E ec vo (fun t s₁ hd c1=>?_) hve hns);induction t using Bool.casesOn with
 |true=>exact hok _ s₁ hd c1
 |false=>exact isTrue_or_nil (hok _ s₁ hd c1)
theorem zj6{pos:Pos}{vs:List Expr}{es:List PE}(z:zaz (EvT prog w zc G cf n names st env) vs es):∀{pe:PE},zaw es=some pe->EvT prog w zc G cf n names st env (.BoolOp .And vs pos) pe:=by
 induction z with
 |nil=>intro pe h;exact nn h
 |cons h1 r ih=>
  intro pe h;induction r using zaz.casesOn with
  |nil=>(obtain rfl:=soI h;clear h);exact⟨fun P A fs s ρ Q E ec vo hok hve hns=>BoolOp_one (h1.1 P A fs s ρ Q E ec vo hok hve hns),zmm h1.2⟩
  |cons h2 r=>
   obtain⟨q,hr,h⟩:=ob (by rw[←Option.map_eq_bind];exact h)
   (obtain rfl:=soI h;clear h)
   have ih:=ih hr;exact⟨zns h1.1 ih.1,zlA h1.2 ih.2⟩
theorem zmo{pos:Pos}{vs:List Expr}{es:List PE}(z:zaz (EvT prog w zc G cf n names st env) vs es):∀{pe:PE},zbV es=some pe->EvT prog w zc G cf n names st env (.BoolOp .Or vs pos) pe:=by
 induction z with
 |nil=>intro pe h;exact nn h
 |cons h1 r ih=>
  intro pe h;induction r using zaz.casesOn with
  |nil=>(obtain rfl:=soI h;clear h);exact⟨fun P A fs s ρ Q E ec vo hok hve hns=>BoolOp_one (h1.1 P A fs s ρ Q E ec vo hok hve hns),zqc h1.2⟩
  |cons h2 r=>
   obtain⟨q,hr,h⟩:=ob (by rw[←Option.map_eq_bind];exact h)
   (obtain rfl:=soI h;clear h)
   have ih:=ih hr;exact⟨zsq h1.1 ih.1,zoW h1.2 ih.2⟩
theorem zsu{c x y:Expr}{pos:Pos}{pc px py:PE}(hc:zaR prog w zc G cf n names st env (isTrue c env (eval c env)) pc)
  (hx:zt prog w zc G cf n names st b env (eval x env) px)(hy:zt prog w zc G cf n names st b env (eval y env) py):
  zt prog w zc G cf n names st b env (eval (.IfExp c x y pos) env) (.ite pc px py):=by
 intro P A fs s ρ Q E ec vo hok hve hns;simp only[zp1] at hok hve hns;refine IfExp_ (hc P A fs s ρ _ E ec vo (fun t s₁ hd c1=>?_) (fun hd=>hve (by rw[hd];rfl)) (fun hd=>hns ?_))
 ·rw[hd] at hok hve hns;induction t using Bool.casesOn with
  |true=>
   exact hx P A fs s₁ ρ Q E (ec.keep c1.keep) (vo.keep prog w c1.keep) (fun d v s' h1 h2 h3=>hok d v s' h1 (c1.trans h2) h3) (fun h1 x s' h2=>hve h1 x s' (h2.after c1)) hns
  |false=>
   exact hy P A fs s₁ ρ Q E (ec.keep c1.keep) (vo.keep prog w c1.keep) (fun d v s' h1 h2 h3=>hok d v s' h1 (c1.trans h2) h3) (fun h1 x s' h2=>hve h1 x s' (h2.after c1)) hns
 ·first|exact btt hd|exact bts hd
end
end Mine
namespace Mine
open PySem PyProof.Rows PySem.Calls
section
variable{prog:Program}{w:World}{zc:Heap}{G:List D}{cf:Nat->List D->R D}{n:Nat}{names:List (Str×NameKind)}{st:List VS}{b:Bool}{env:Env}
noncomputable def zbI(prog:Program)(w:World)(P:Addr->Prop)(h:Heap)(vs:List Value)(ds:List D):Prop:=zaz (zl prog w P P h) vs ds
theorem zbI.keep{P:Addr->Prop}{h h':Heap}(k:zA h h'){vs:List Value}{ds:List D}(r:zbI prog w P h vs ds):zbI prog w P h' vs ds:=by
 unfold zbI at *;induction r with
 |nil=>exact .nil
 |cons a _ ih=>exact .cons (a.keep prog w k) ih
theorem or1{a b:Bool}(h:(a||b)=false):a=false:=by cases a<;>first|rfl|exact tf h
theorem or2{a b:Bool}(h:(a||b)=false):b=false:=by cases a<;>first|exact h|exact tf h
theorem zbI.repAll{P:Addr->Prop}{h:Heap}{vs:List Value}{ds:List D}(r:zbI prog w P h vs ds):ds.any isDict=false->zi P h vs ds:=by
 unfold zbI at r;induction r with
 |nil=>intro _;exact .nil
 |cons a _ ih=>intro hd;exact .cons (a.toRep prog w (or1 hd)) (ih (or2 hd))
noncomputable def zyo(prog:Program)(w:World)(zc:Heap)(G:List D)(cf:Nat->List D->R D)(n:Nat)(names:List (Str×NameKind))(st:List VS)(env:Env)(t:Sem (List Value))(es:PEs):Prop:=
 ∀(P:Addr->Prop) (A:Around) (fs:List Env) (s:Shared) (ρ:ze) (Q:List Value->Shared->Prop) (E:Value->Shared->Prop),EC zc P A fs n env s.heap->VOK prog w env names st ρ P s.heap->
  (∀ds vs s',evs G cf es ρ=.ok ds->Ch s s'->zbI prog w P s'.heap vs ds->Q vs s')->
  (evs G cf es ρ=.ve->∀x s',za6 fs s x s'->E x s')->evs G cf es ρ≠.stuck->wpAny (model prog w) A t Q E s
noncomputable def zy(e:Expr):Prop:=∀x p,e≠.Starred x p
theorem zx{e:Expr}{rest:List Expr}(h:zy e):starEach (e::rest) env=(false,eval e env)::starEach rest env:=by
 cases e<;>first|rfl|exact absurd rfl (h _ _)
noncomputable def One(prog:Program)(w:World)(zc:Heap)(G:List D)(cf:Nat->List D->R D)(n:Nat)(names:List (Str×NameKind))(st:List VS)(env:Env)(e:Expr)(pe:PE):Prop:=
 zy e/\zt prog w zc G cf n names st false env (eval e env) pe
theorem zaD{pos:Pos}{as:List Expr}{es:List PE}(z:zaz (One prog w zc G cf n names st env) as es):zyo prog w zc G cf n names st env (spliced (backTo pos (starEach as env))) (jW es):=by
 induction z with
 |nil=>
  intro P A fs s ρ Q E ec vo hok hve hns;exact spliced_nil (hok [] [] s rfl (Ch.refl s) .nil)
 |cons h1 r ih=>
  intro P A fs s ρ Q E ec vo hok hve hns;rw[zx h1.1];simp only[jW,zhe] at hok hve hns;refine spliced_cons (h1.2 P A fs s ρ _ E ec vo (fun d v s₁ hd c1 r1=>?_) (fun hd=>hve (by rw[hd];rfl)) (fun hd=>hns (by rw[hd];rfl)));rw[hd] at hok hve hns;refine ih P A fs s₁ ρ _ E (ec.keep c1.keep) (vo.keep prog w c1.keep) (fun ds vs s₂ hds c2 r2=>?_) (fun hds x s' he=>hve (by rw[hds];rfl) x s' (he.after c1)) (fun hds=>hns (by rw[hds];rfl));exact hok (d::ds) (v::vs) s₂ (by rw[hds];rfl) (c1.trans c2) (.cons (r1.keep prog w c2.keep) r2)
theorem zcR{ρ:ze}{es:List PE}:∀{ds:List D},evs G cf (jW es) ρ=.ok ds->ds.length=es.length:=by
 induction es with
 |nil=>
  intro ds h;simp only[jW,zvE] at h;(obtain rfl:=okI h;clear h);rfl
 |cons a r ih=>
  intro ds h;skip;simp only[jW,zhe] at h;cases h1:ev G cf a ρ with
  |ok x=>
   cases h2:evs G cf (jW r) ρ with
   |ok xs=>rw[h1,h2] at h;(obtain rfl:=okI h;clear h);simp[ih h2]
   |ve=>rw[h1,h2] at h;exact nv h
   |stuck=>rw[h1,h2] at h;exact ns h
  |ve=>rw[h1] at h;exact nv h
  |stuck=>rw[h1] at h;exact ns h
theorem zdG{m:Nat}(h:m<=1000):m<=zp/\m<=sizeLine:=by
 have e1:zp=1048576:=by decide
 have e2:sizeLine=16777216:=by decide
 lia
set_option tactic.hygienic true in
theorem zrK{as:List Expr}{es:List PE}{k:Nat}{pos:Pos}(h:zaz (One prog w zc G cf n names st env) as es)(hz:as.length<=1000):
  zt prog w zc G cf n names st b env (eval (.Tuple as k pos) env) (.tup (jW es)):=by
 intro P A fs s ρ Q E ec vo hok hve hns;simp only[zvC] at hok hve hns;refine wpAny_Tuple (zaD h P A fs s ρ _ E ec vo (fun ds vs s₁ hd c1 r1=>?_) (fun hd=>hve (by rw[hd];rfl)) (fun hd=>hns (by rw[hd];rfl)));have hl:ds.length=as.length:=(zcR hd).trans h.length.symm;have hv:vs.length=ds.length:=zaz.length r1;have hs:=zdG hz;refine⟨by lia,?_⟩;rw[hd] at hok hns;simp only[R.bind_ok] at hok hns;split at hns
 ·exact absurd rfl hns
 ·rename_i hdi;rw[if_neg hdi] at hok;refine hok _ _ _ rfl (c1.trans (Ch.of s₁.toks (zA.push _ _))) (.rep ?_);exact zco (ec.keep c1.keep).pnew (by exact zbI.repAll r1 (by simpa using hdi)) (by lia)
set_option tactic.hygienic true in
theorem zqz{as:List Expr}{es:List PE}{pos:Pos}(h:zaz (One prog w zc G cf n names st env) as es)(hz:as.length<=1000):
  zt prog w zc G cf n names st b env (eval (.List as pos) env) (.list (jW es)):=by
 intro P A fs s ρ Q E ec vo hok hve hns;simp only[zsG] at hok hve hns;refine wpAny_List (zaD h P A fs s ρ _ E ec vo (fun ds vs s₁ hd c1 r1=>?_) (fun hd=>hve (by rw[hd];rfl)) (fun hd=>hns (by rw[hd];rfl)));have hl:ds.length=as.length:=(zcR hd).trans h.length.symm;have hv:vs.length=ds.length:=zaz.length r1;have hs:=zdG hz;refine⟨by lia,?_⟩;rw[hd] at hok hns;simp only[R.bind_ok] at hok hns;split at hns
 ·exact absurd rfl hns
 ·rename_i hdi;rw[if_neg hdi] at hok;refine hok _ _ _ rfl (c1.trans (Ch.of s₁.toks (zA.push _ _))) (.rep ?_);exact jQ (ec.keep c1.keep).pnew (by exact zbI.repAll r1 (by simpa using hdi)) (by lia)
variable{F:List zH}{K:List (Str×D)}{mg mb:Str->Option Value}
noncomputable def zdw(prog:Program)(w:World)(F:List zH)(mg:Str->Option Value)(zc:Heap)(cf:Nat->List D->R D)(n:Nat):Prop:=
 ∀(i:Nat) (fi:zH) (fa:Addr),F[i]?=some fi->mg fi.name=some (.ref fa)->∀(P:Addr->Prop) (A:Around) (fs:List Env) (env:Env) (s:Shared) (vs:List Value) (ds:List D) (Q E:Value->Shared->Prop),
  EC zc P A fs n env s.heap->zbI prog w P s.heap vs ds->
  (∀d v s',cf i ds=.ok d->Ch s s'->zl prog w P P s'.heap v d->Q v s')->(cf i ds=.ve->∀x s',za6 fs s x s'->E x s')->cf i ds≠.stuck->
  wpAny (model prog w) A (call (.ref fa) vs) Q E s
set_option tactic.hygienic true in
theorem zf0{cx:Cx}{x:Str}{i:Nat}(h:cx.fun? x=some i):cx.names.lookup x=some .globalImplicit/\jz x=true/\cx.funs[i]?=some x:=by
 unfold Cx.fun? at h;split at h
 ·rename_i hg;obtain⟨hg1,hg2⟩:=zbH hg;obtain⟨hi,hx⟩:=List.findIdx?_eq_some_iff_getElem.mp h;exact⟨hg1,hg2,by rw[List.getElem?_eq_getElem hi];have:=hx.1;simp at this;rw[this]⟩
 ·exact nn h
theorem zpE(B:kH F K mg mb zc){cx:Cx}(hF:cx.funs=F.map (·.name))(hL:Lnk cx env)(C:zdw prog w F mg zc cf n){f:Str}{p pos:Pos}{i:Nat}{a:Expr}{as:List Expr}{es:List PE}(hi:cx.fun? f=some i)
  (h:zaz (One prog w zc G cf n names st env) (a::as) es):zt prog w zc G cf n names st b env (eval (.Call (.Name f p) (a::as) [] pos) env) (.call i (jW es)):=by
 intro P A fs s ρ Q E ec vo hok hve hns;simp only[zs9] at hok hve hns;obtain⟨hg1,hg2,hx⟩:=zf0 hi;rw[hF,List.getElem?_map] at hx;cases hfi:F[i]? with
 |none=>rw[hfi] at hx;exact nn hx
 |some fi=>
  rw[hfi] at hx;have e:fi.name=f:=by simpa using hx
  obtain⟨fa,o,pm,cd,doc,hm,ho,hdat,hcd⟩:=B.fn i fi hfi;show wpAny (model prog w) A (do callWith pos (←eval (.Name f p) env) [] (backTo pos (starEach (a::as) env)) (backToKw pos (keywordEach [] env))) Q E s;refine wpAny_bind (B.load ec.stays ec.kind ec.globals (hL.glob f hg1) hg2 (by rw[←e];exact hm) ?_);have hst:zy a:=by cases h with|cons h1 _=>exact h1.1
  refine callWith_def_at (h':=zc) ho hdat (zaD h P A fs s ρ _ E ec vo (fun ds vs s₁ hd c1 r1=>⟨(ec.keep c1.keep).stays _ _ ho,?_⟩) (fun hd=>hve (by rw[hd];rfl)) (fun hd=>hns (by rw[hd];rfl))) (zx hst);rw[hd] at hok hve hns;exact C i fi fa hfi hm P A fs env s₁ vs ds Q E (ec.keep c1.keep) r1 (fun d v s' h1 h2 h3=>hok d v s' h1 (c1.trans h2) (h3.mono prog w (fun a x=>by cases b<;>first|exact x|trivial) (fun _ x=>x) (zA.refl _)))
   (fun h1 x s' h2=>hve h1 x s' (h2.after c1)) hns
end
end Mine
namespace Mine
open PySem PyProof.Rows PySem.Calls
theorem znh:bootBuiltins (Str.ofString "len")=some (.builtin "len"):=by decide +kernel
theorem zqx:bootBuiltins (Str.ofString "str")=some (.type "str"):=by decide +kernel
theorem zhW:bootBuiltins (Str.ofString "int")=some (.type "int"):=by decide +kernel
theorem zl2:bootBuiltins (Str.ofString "bool")=some (.type "bool"):=by decide +kernel
theorem zp4:bootBuiltins (Str.ofString "max")=some (.builtin "max"):=by decide +kernel
theorem zpz:bootBuiltins (Str.ofString "min")=some (.builtin "min"):=by decide +kernel
theorem zfO:bootBuiltins (Str.ofString "type")=some (.type "type"):=by decide +kernel
theorem zjH:bootBuiltins (Str.ofString "range")=some (.type "range"):=by decide +kernel
theorem zh1:bootBuiltins (Str.ofString "sorted")=some (.builtin "sorted"):=by decide +kernel
theorem zlj:bootBuiltins (Str.ofString "ValueError")=some (.type "ValueError"):=by decide +kernel
section
variable{prog:Program}{w:World}{zc:Heap}{G:List D}{cf:Nat->List D->R D}{n:Nat}{names:List (Str×NameKind)}{st:List VS}{b:Bool}{env:Env}{F:List zH}{K:List (Str×D)}{mg mb:Str->Option Value}
theorem za1{cx:Cx}{x:Str}{nm:String}(h:cx.isB x nm=true):cx.names.lookup x=some .globalImplicit/\jz x=true/\x=Str.ofString nm:=by
 unfold Cx.isB at h;simp only[Bool.and_eq_true,beq_iff_eq] at h;obtain⟨h1,h2⟩:=zbH h.1;exact⟨h1,h2,h.2⟩
theorem zcL(B:kH F K mg mb zc){cx:Cx}(hL:Lnk cx env){nm:String}{f:Str}(hf:cx.isB f nm=true){fv:Value}(hb:bootBuiltins (Str.ofString nm)=some fv)(hm:Str.ofString nm∈jt)(hfv:(∃id,fv=.builtin id)\/∃X,fv=.type X)
  {A:Around}{E:Value->Shared->Prop}{s:Shared}{x:Expr}{p pos:Pos}{Q:Value->Shared->Prop}(hs:zc.StaysIn s.heap)(hk:env.scope.kind=.function)(hg:env.globals=mainGlobals)(hbi:env.builtins=builtinsNs)(hx:zy x)
  (h:wpAny (model prog w) A (eval x env) (fun u s₁=>wpAny (model prog w) A (call fv [u]) Q E s₁) E s):
  wpAny (model prog w) A (eval (.Call (.Name f p) [x] [] pos) env) Q E s:=by
 obtain⟨h1,h2,rfl⟩:=za1 hf;show wpAny (model prog w) A (do callWith pos (←eval (.Name (Str.ofString nm) p) env) [] (backTo pos (starEach [x] env)) (backToKw pos (keywordEach [] env))) Q E s;refine wpAny_bind (B.loadB hs hk hg hbi (hL.glob _ h1) h2 hm hb ?_);rw[zx hx];have hsp:wpAny (model prog w) A (evalArgs fv true ((false,eval x env)::backTo pos (starEach [] env)) []) (fun a s₁=>wpAny (model prog w) A (call fv ([]++a.pos) a.kw) Q E s₁) E s:=
  evalArgs_plain (spliced_cons (wpAny_mono h (fun u s₁ h₁=>spliced_nil h₁) fun _ _ e=>e))
 rcases hfv with⟨id,rfl⟩|⟨X,rfl⟩
 ·exact callWith_builtin rfl hsp
 ·exact PyProof.Rows.callWith_type rfl hsp
theorem zoO(B:kH F K mg mb zc){cx:Cx}(hL:Lnk cx env){nm:String}{f:Str}(hf:cx.isB f nm=true){id:String}(hb:bootBuiltins (Str.ofString nm)=some (.builtin id))(hm:Str.ofString nm∈jt)
  {A:Around}{E:Value->Shared->Prop}{s:Shared}{x y:Expr}{p pos:Pos}{Q:Value->Shared->Prop}(hs:zc.StaysIn s.heap)(hk:env.scope.kind=.function)(hg:env.globals=mainGlobals)(hbi:env.builtins=builtinsNs)(hx:zy x)(hy:zy y)
  (h:wpAny (model prog w) A (eval x env) (fun u s₁=>wpAny (model prog w) A (eval y env) (fun v s₂=>wpAny (model prog w) A (call (.builtin id) [u,v]) Q E s₂) E s₁) E s):
  wpAny (model prog w) A (eval (.Call (.Name f p) [x,y] [] pos) env) Q E s:=by
 obtain⟨h1,h2,rfl⟩:=za1 hf;show wpAny (model prog w) A (do callWith pos (←eval (.Name (Str.ofString nm) p) env) [] (backTo pos (starEach [x,y] env)) (backToKw pos (keywordEach [] env))) Q E s;refine wpAny_bind (B.loadB hs hk hg hbi (hL.glob _ h1) h2 hm hb ?_);rw[zx hx,zx hy];exact callWith_builtin rfl (evalArgs_plain (spliced_cons (wpAny_mono h (fun u s₁ h₁=>spliced_cons (wpAny_mono h₁ (fun v s₂ h₂=>spliced_nil h₂) fun _ _ e=>e)) fun _ _ e=>e)))
theorem zsl:Str.ofString "len"∈jt:=by decide +kernel
theorem zsk:Str.ofString "str"∈jt:=by decide +kernel
theorem zkU:Str.ofString "int"∈jt:=by decide +kernel
theorem zm5:Str.ofString "bool"∈jt:=by decide +kernel
theorem zrm:Str.ofString "max"∈jt:=by decide +kernel
theorem zrh:Str.ofString "min"∈jt:=by decide +kernel
theorem zim:Str.ofString "type"∈jt:=by decide +kernel
theorem mem_range:Str.ofString "range"∈jt:=by decide +kernel
theorem ziR:Str.ofString "sorted"∈jt:=by decide +kernel
theorem zoU:Str.ofString "ValueError"∈jt:=by decide +kernel
theorem zsg(B:kH F K mg mb zc){cx:Cx}(hL:Lnk cx env){f:Str}(hf:cx.isB f "len"=true){x:Expr}{p pos:Pos}{a:PE}(hx:zy x)(ha:zt prog w zc G cf n names st true env (eval x env) a):
  zt prog w zc G cf n names st b env (eval (.Call (.Name f p) [x] [] pos) env) (.un .len a):=
 kS (W:=fun A Q E u s=>wpAny (model prog w) A (call (.builtin "len") [u]) Q E s) (fun ec h=>zcL B hL hf znh zsl (.inl ⟨_,rfl⟩) ec.stays ec.kind ec.globals ec.builtins hx h)
  (fun _ ru hd g=>zlX ru hd (jI g)) ha
theorem zqF(B:kH F K mg mb zc){cx:Cx}(hL:Lnk cx env){f:Str}(hf:cx.isB f "str"=true){x:Expr}{p pos:Pos}{a:PE}(hx:zy x)(ha:zt prog w zc G cf n names st true env (eval x env) a):
  zt prog w zc G cf n names st b env (eval (.Call (.Name f p) [x] [] pos) env) (.un .str a):=
 kS (W:=fun A Q E u s=>wpAny (model prog w) A (call (.type "str") [u]) Q E s) (fun ec h=>zcL B hL hf zqx zsk (.inr ⟨_,rfl⟩) ec.stays ec.kind ec.globals ec.builtins hx h)
  (fun _ ru hd g=>zmy ru hd (jI g)) ha
theorem zrN(B:kH F K mg mb zc){cx:Cx}(hL:Lnk cx env){f:Str}(hf:cx.isB f "int"=true){x:Expr}{p pos:Pos}{a:PE}(hx:zy x)(ha:zt prog w zc G cf n names st true env (eval x env) a):
  zt prog w zc G cf n names st b env (eval (.Call (.Name f p) [x] [] pos) env) (.un .int a):=
 kS (W:=fun A Q E u s=>wpAny (model prog w) A (call (.type "int") [u]) Q E s) (fun ec h=>zcL B hL hf zhW zkU (.inr ⟨_,rfl⟩) ec.stays ec.kind ec.globals ec.builtins hx h)
  (fun _ ru hd g=>zlL ru hd (jI g)) ha
theorem zqT(B:kH F K mg mb zc){cx:Cx}(hL:Lnk cx env){f:Str}(hf:cx.isB f "max"=true){x y:Expr}{p pos:Pos}{a c:PE}(hx:zy x)(hy:zy y)(ha:zt prog w zc G cf n names st true env (eval x env) a)
  (hc:zt prog w zc G cf n names st true env (eval y env) c):zt prog w zc G cf n names st b env (eval (.Call (.Name f p) [x,y] [] pos) env) (.bin .max a c):=
 zbm (W:=fun A Q E u v s=>wpAny (model prog w) A (call (.builtin "max") [u,v]) Q E s) (fun ec h=>zoO B hL hf zp4 zrm ec.stays ec.kind ec.globals ec.builtins hx hy h)
  (fun ec ru rv hd g=>zmL ec.handled ru rv hd (jI g)) ha hc
theorem zsK(B:kH F K mg mb zc){cx:Cx}(hL:Lnk cx env){f:Str}(hf:cx.isB f "min"=true){x y:Expr}{p pos:Pos}{a c:PE}(hx:zy x)(hy:zy y)(ha:zt prog w zc G cf n names st true env (eval x env) a)
  (hc:zt prog w zc G cf n names st true env (eval y env) c):zt prog w zc G cf n names st b env (eval (.Call (.Name f p) [x,y] [] pos) env) (.bin .min a c):=
 zbm (W:=fun A Q E u v s=>wpAny (model prog w) A (call (.builtin "min") [u,v]) Q E s) (fun ec h=>zoO B hL hf zpz zrh ec.stays ec.kind ec.globals ec.builtins hx hy h)
  (fun ec ru rv hd g=>zlT ec.handled ru rv hd (jI g)) ha hc
theorem ju{c:Const}{k:Nat}{p:Pos}:∀es q r,(Expr.Constant c k p)≠.Set es q r:=fun _ _ _ h=>by cases h
theorem zaF{x:Str}{p:Pos}:∀es q r,(Expr.Name x p)≠.Set es q r:=fun _ _ _ h=>by cases h
theorem zjC{x:Expr}{k:Nat}{p pos:Pos}{a:PE}(ha:zt prog w zc G cf n names st true env (eval x env) a):
  zt prog w zc G cf n names st b env (eval (.Compare x [.Is] [.Constant .none k p] pos) env) (.un .isNone a):=
 kS (W:=fun A Q E u s=>wpAny (model prog w) A (compareOp .Is u .none) Q E s) (fun _ h=>zjU ju (wpAny_mono h (fun u s₁ h₁=>Constant_none h₁) fun _ _ e=>e))
  (fun _ ru hd g=>by(obtain rfl:=okI hd;clear hd);exact zfE ru (jI g)) ha
theorem zhM{x:Expr}{k:Nat}{p pos:Pos}{a:PE}(ha:zt prog w zc G cf n names st true env (eval x env) a):
  zt prog w zc G cf n names st b env (eval (.Compare x [.IsNot] [.Constant .none k p] pos) env) (.un .notNone a):=
 kS (W:=fun A Q E u s=>wpAny (model prog w) A (compareOp .IsNot u .none) Q E s) (fun _ h=>zjU ju (wpAny_mono h (fun u s₁ h₁=>Constant_none h₁) fun _ _ e=>e))
  (fun _ ru hd g=>by(obtain rfl:=okI hd;clear hd);exact zdP ru (jI g)) ha
theorem zqK{x:Expr}{c:Bool}{k:Nat}{p pos:Pos}{a:PE}(ha:zt prog w zc G cf n names st true env (eval x env) a):
  zt prog w zc G cf n names st b env (eval (.Compare x [.Is] [.Constant (.bool c) k p] pos) env) (.un (.isB c) a):=
 kS (W:=fun A Q E u s=>wpAny (model prog w) A (compareOp .Is u (.bool c)) Q E s) (fun _ h=>zjU ju (wpAny_mono h (fun u s₁ h₁=>Constant_bool h₁) fun _ _ e=>e))
  (fun _ ru hd g=>by
   obtain⟨z,rfl,rfl⟩:=zra hd;rw[ru.inv_bool];refine wpAny_is_plain rfl ?_;have e:(Value.bool z==Value.bool c)=(z==c):=by cases z<;>cases c<;>rfl
   rw[e];exact g _ _ (Ch.refl _) (.bool _)) ha
theorem znK{x:Expr}{c:Bool}{k:Nat}{p pos:Pos}{a:PE}(ha:zt prog w zc G cf n names st true env (eval x env) a):
  zt prog w zc G cf n names st b env (eval (.Compare x [.IsNot] [.Constant (.bool c) k p] pos) env) (.un (.notB c) a):=
 kS (W:=fun A Q E u s=>wpAny (model prog w) A (compareOp .IsNot u (.bool c)) Q E s) (fun _ h=>zjU ju (wpAny_mono h (fun u s₁ h₁=>Constant_bool h₁) fun _ _ e=>e))
  (fun _ ru hd g=>by
   obtain⟨z,rfl,rfl⟩:=znD hd;rw[ru.inv_bool];refine wpAny_isNot_plain rfl ?_;have e:(Value.bool z==Value.bool c)=(z==c):=by cases z<;>cases c<;>rfl
   rw[e];exact g _ _ (Ch.refl _) (.bool _)) ha
noncomputable def zcJ:Ty->String
 |.bool=>"bool"
 |.int=>"int"
theorem zkI(t:Ty):bootBuiltins (Str.ofString (zcJ t))=some (.type (zcJ t)):=by cases t;exact zl2;exact zhW
theorem zpe(t:Ty):Str.ofString (zcJ t)∈jt:=by cases t;exact zm5;exact zkU
theorem zuc{P T:Addr->Prop}{s:Shared}{a:Value}{da:D}(t:Ty)(r:zl prog w T P s.heap a da):∃X,s.TypeIs a X/\(Value.type X==Value.type "builtin_function_or_method")=false/\(Value.type X==Value.type (zcJ t))=tyIs t da:=by
 obtain⟨X,h1,h2,h3,h4,_,_⟩:=zeQ r;have e:∀Y:String,(Value.type X==Value.type Y)=(X==Y):=fun Y=>by
  by_cases q:X=Y
  ·rw[q,beq_self_eq_true,beq_self_eq_true]
  ·rw[beq_eq_false_iff_ne.mpr q,beq_eq_false_iff_ne.mpr fun z=>q (by injection z)]
 exact⟨X,h1,h2,(e _).trans (by cases t;exact h3;exact h4)⟩
theorem zpU(B:kH F K mg mb zc){cx:Cx}(hL:Lnk cx env){f g:Str}(t:Ty)(hf:cx.isB f "type"=true)(hg:cx.isB g (zcJ t)=true){x:Expr}{p q r pos:Pos}{a:PE}(hx:zy x)
  (ha:zt prog w zc G cf n names st true env (eval x env) a):
  zt prog w zc G cf n names st b env (eval (.Compare (.Call (.Name f p) [x] [] q) [.Is] [.Name g r] pos) env) (.un (.tyIs t) a):=by
 intro P A fs s ρ Q E ec vo hok hve hns;simp only[zk8] at hok hve hns;refine zjU zaF (zcL B hL hf zfO zim (.inr ⟨_,rfl⟩) ec.stays ec.kind ec.globals ec.builtins hx (ha P A fs s ρ _ E ec vo (fun d v s₁ hx c1 rx=>?_) (fun hx=>hve (by rw[hx];rfl)) (fun hx=>hns (by rw[hx];rfl))));obtain⟨X,h1,h2,h3⟩:=zuc t rx;obtain⟨g1,g2,rfl⟩:=za1 hg;refine call_type_of h1 h2 (B.loadB (ec.keep c1.keep).stays ec.kind ec.globals ec.builtins (hL.glob _ g1) g2 (zpe t) (zkI t) (wpAny_is_plain rfl ?_));rw[h3];exact hok _ _ s₁ (by rw[hx];rfl) c1 (.rep (.bool _))
theorem zmF(B:kH F K mg mb zc){cx:Cx}(hL:Lnk cx env){f g:Str}(t:Ty)(hf:cx.isB f "type"=true)(hg:cx.isB g (zcJ t)=true){x:Expr}{p q r pos:Pos}{a:PE}(hx:zy x)
  (ha:zt prog w zc G cf n names st true env (eval x env) a):
  zt prog w zc G cf n names st b env (eval (.Compare (.Call (.Name f p) [x] [] q) [.IsNot] [.Name g r] pos) env) (.un (.tyNot t) a):=by
 intro P A fs s ρ Q E ec vo hok hve hns;simp only[zk8] at hok hve hns;refine zjU zaF (zcL B hL hf zfO zim (.inr ⟨_,rfl⟩) ec.stays ec.kind ec.globals ec.builtins hx (ha P A fs s ρ _ E ec vo (fun d v s₁ hx c1 rx=>?_) (fun hx=>hve (by rw[hx];rfl)) (fun hx=>hns (by rw[hx];rfl))));obtain⟨X,h1,h2,h3⟩:=zuc t rx;obtain⟨g1,g2,rfl⟩:=za1 hg;refine call_type_of h1 h2 (B.loadB (ec.keep c1.keep).stays ec.kind ec.globals ec.builtins (hL.glob _ g1) g2 (zpe t) (zkI t) (wpAny_isNot_plain rfl ?_));rw[h3];exact hok _ _ s₁ (by rw[hx];rfl) c1 (.rep (.bool _))
theorem zqW{A:Around}{P T:Addr->Prop}{Q E:Value->Shared->Prop}{s:Shared}{l sl:Expr}{o:Value}{i:Int}{t:Tok}{xs:List D}(hP:km P s.heap)(ru:zl prog w T P s.heap o (.list xs))(hi:0<=i)(g:∀v s',Ch s s'->Rep P s'.heap v (.list (xs.take i.toNat))->Q v s'):
  wpAny (model prog w) A (subscriptTail l sl o (.ref s.heap.objs.size)) Q E {s with heap:=s.heap.push {cls:=.type "slice",data:=.fields #[.none,.int i t,.none]}}:=by
 have kp:zA s.heap (s.heap.push {cls:=.type "slice",data:=.fields #[.none,.int i t,.none]}):=zA.push _ _
 obtain⟨x,ox,vx,nx,rfl,hox,cx',_,dx,rx,hz⟩:=ru.inv_list;have il:=zal (kp _ _ hox) cx' dx;refine zcg (Heap.IsList.typeIs (s:={s with heap:=_}) il) slot_list_getitem.lookup (wpAny_getItem_list_slice il (Heap.IsSliceOf.new ..) .none (.int i t) .none (by trivial) ?_ (by rw[z8 rx];exact qA hz zbE));refine g _ _ ⟨(zA.push _ _).trans (zA.push _ _),rfl,fun x=>x⟩ (jQ (hP.keep kp) ?_ (qA (by rw[List.length_take];exact Nat.min_le_right _ _) hz));obtain⟨k,rfl⟩:=Int.eq_ofNat_of_zero_le hi;obtain⟨vl⟩:=vx;rw[slicePick_upto' vl.toArray k];exact(rx.keep kp).take k
theorem zuW{A:Around}{P:Addr->Prop}{Q E:Value->Shared->Prop}{s:Shared}{l sl:Expr}{i:Int}{t u:Tok}{x:Str}{d:D}(h1:PyData.strOk x=true)(h2:x.length<=zp)(hd:zli x i=.ok d)(g:∀v s',Ch s s'->Rep P s'.heap v d->Q v s'):
  wpAny (model prog w) A (subscriptTail l sl (.str x u) (.ref s.heap.objs.size)) Q E {s with heap:=s.heap.push {cls:=.type "slice",data:=.fields #[.none,.int i t,.none]}}:=by
 have kp:zA s.heap (s.heap.push {cls:=.type "slice",data:=.fields #[.none,.int i t,.none]}):=zA.push _ _
 have hsl:(s.heap.push {cls:=.type "slice",data:=.fields #[.none,.int i t,.none]}).IsSlice s.heap.objs.size none (some (i,t)) none:=⟨_,Heap.get?_push_size _ rfl,rfl,rfl⟩
 have key:∀y,Txt.slice x none (some i)=y->PyData.strOk y=true->(∀v s',Ch s s'->Rep P s'.heap v (.str y)->Q v s')->wpAny (model prog w) A (subscriptTail l sl (.str x u) (.ref s.heap.objs.size)) Q E {s with heap:=s.heap.push {cls:=.type "slice",data:=.fields #[.none,.int i t,.none]}}:=fun y hy ho g=>
  zcg (typeIs_str _ _ _) PySem.F.slot_str_getitem.lookup (zdF (P:=P) hsl h2 hy ho (fun v' h' tk k r=>g v' _ ⟨kp.trans k,rfl,fun x=>x⟩ r))
 by_cases hi:0<=i
 ·rw[zli,if_pos hi] at hd
  (obtain rfl:=okI hd;clear hd)
  refine key _ ?_ (zcc h1) g;by_cases hle:i<=x.length
  ·rw[Nat.min_eq_left (Int.toNat_le.mpr hle)];exact zcU hi hle
  ·rw[Nat.min_eq_right (by lia)];exact zgH (Int.le_of_lt (Int.not_le.mp hle))
 ·rw[zli,if_neg hi] at hd;obtain⟨⟨e,hi2⟩,hd'⟩:=ifS hd;clear hd
  (obtain rfl:=okI hd';clear hd');subst e
  exact key _ (zgo hi2) (zcc h1) g
theorem zsD{l u:Expr}{q pos:Pos}{a c:PE}(ha:zt prog w zc G cf n names st true env (eval l env) a)(hc:zt prog w zc G cf n names st true env (eval u env) c):
  zt prog w zc G cf n names st b env (eval (.Subscript l (.Slice none (some u) none q) pos) env) (.bin .upto a c):=
 zbm (W:=fun A Q E o v s=>wpAny (model prog w) A (subscriptTail l (.Slice none (some u) none q) o (.ref s.heap.objs.size)) Q E {s with heap:=s.heap.push {cls:=.type "slice",data:=.fields #[.none,v,.none]}})
  (fun _ h=>Subscript_ (wpAny_mono h (fun o s₁ h₁=>wpAny_Slice (by rw[evalPart_none,evalPart_some];exact wpAny_pure (wpAny_mono h₁ (fun v s₂ h₂=>wpAny_pure h₂) fun _ _ e=>e))) fun _ _ e=>e))
  (fun {A P fs Q E s o v du dv d} ec ru rv hd g=>by
   induction du using PyData.casesOn with
   |list xs=>
    obtain⟨i,rfl,hd⟩:=jG hd;clear hd;obtain⟨hi,hd⟩:=ifS hd
    (obtain rfl:=okI hd;clear hd)
    obtain⟨t,rfl⟩:=rv.inv_int;exact zqW ec.pnew ru hi g
   |str x=>
    obtain⟨i,rfl,hd⟩:=jG hd;clear hd;obtain⟨t,rfl⟩:=rv.inv_int;obtain⟨tx,rfl,h1,h2⟩:=ru.inv_str;exact zuW h1 h2 hd g
   |_=>exact ns hd) ha hc
end
end Mine
namespace Mine
open PySem PyProof.Rows PySem.Calls
section
variable{prog:Program}{w:World}{zc:Heap}{G:List D}{cf:Nat->List D->R D}{n:Nat}{names:List (Str×NameKind)}{st:List VS}{b:Bool}{env:Env}{F:List zH}{K:List (Str×D)}{mg mb:Str->Option Value}
theorem zmw{A:Around}{P T:Addr->Prop}{Q E:Value->Shared->Prop}{s:Shared}{l sl:Expr}{o:Value}{i:Int}{t:Tok}{xs:List D}(hP:km P s.heap)(ru:zl prog w T P s.heap o (.list xs))(hi:0<=i)(g:∀v s',Ch s s'->Rep P s'.heap v (.list (xs.drop i.toNat))->Q v s'):
  wpAny (model prog w) A (subscriptTail l sl o (.ref s.heap.objs.size)) Q E {s with heap:=s.heap.push {cls:=.type "slice",data:=.fields #[.int i t,.none,.none]}}:=by
 have kp:zA s.heap (s.heap.push {cls:=.type "slice",data:=.fields #[.int i t,.none,.none]}):=zA.push _ _
 obtain⟨x,ox,vx,nx,rfl,hox,cx',_,dx,rx,hz⟩:=ru.inv_list;have il:=zal (kp _ _ hox) cx' dx;refine zcg (Heap.IsList.typeIs (s:={s with heap:=_}) il) slot_list_getitem.lookup (wpAny_getItem_list_slice il (Heap.IsSliceOf.new ..) (.int i t) .none .none (by trivial) ?_ (by rw[z8 rx];exact qA hz zbE));refine g _ _ ⟨(zA.push _ _).trans (zA.push _ _),rfl,fun x=>x⟩ (jQ (hP.keep kp) ?_ (qA (by rw[List.length_drop];exact Nat.sub_le _ _) hz));obtain⟨k,rfl⟩:=Int.eq_ofNat_of_zero_le hi;obtain⟨vl⟩:=vx;rw[slicePick_from' vl.toArray k];exact(rx.keep kp).drop k
theorem ztg{l u:Expr}{q pos:Pos}{a c:PE}(ha:zt prog w zc G cf n names st true env (eval l env) a)(hc:zt prog w zc G cf n names st true env (eval u env) c):
  zt prog w zc G cf n names st b env (eval (.Subscript l (.Slice (some u) none none q) pos) env) (.bin .from_ a c):=
 zbm (W:=fun A Q E o v s=>wpAny (model prog w) A (subscriptTail l (.Slice (some u) none none q) o (.ref s.heap.objs.size)) Q E {s with heap:=s.heap.push {cls:=.type "slice",data:=.fields #[v,.none,.none]}})
  (fun _ h=>Subscript_ (wpAny_mono h (fun o s₁ h₁=>wpAny_Slice (by rw[evalPart_none,evalPart_some];exact wpAny_mono h₁ (fun v s₂ h₂=>wpAny_pure (wpAny_pure h₂)) fun _ _ e=>e)) fun _ _ e=>e))
  (fun {A P fs Q E s o v du dv d} ec ru rv hd g=>by
   induction du using PyData.casesOn with
   |list xs=>
    obtain⟨i,rfl,hd⟩:=jG hd;clear hd;obtain⟨hi,hd⟩:=ifS hd
    (obtain rfl:=okI hd;clear hd)
    obtain⟨t,rfl⟩:=rv.inv_int;exact zmw ec.pnew ru hi g
   |str x=>
    obtain⟨i,rfl,hd⟩:=jG hd;clear hd;obtain⟨hi,hd⟩:=ifS hd
    (obtain rfl:=okI hd;clear hd)
    obtain⟨t,rfl⟩:=rv.inv_int;obtain⟨tx,rfl,h1,h2⟩:=ru.inv_str;have kp:zA s.heap (s.heap.push {cls:=.type "slice",data:=.fields #[.int i t,.none,.none]}):=zA.push _ _
    have hsl:(s.heap.push {cls:=.type "slice",data:=.fields #[.int i t,.none,.none]}).IsSlice s.heap.objs.size (some (i,t)) none none:=⟨_,Heap.get?_push_size _ rfl,rfl,rfl⟩
    exact zcg (typeIs_str _ _ _) PySem.F.slot_str_getitem.lookup (zdF (P:=P) hsl h2 (zjb hi.1 hi.2) (zcc h1) (fun v' h' tk k r=>g v' _ ⟨kp.trans k,rfl,fun x=>x⟩ r))
   |_=>exact ns hd) ha hc
theorem zmV{o:Tri}{x y z:D}(h:tri o x y z=.ve):False:=by
 cases o;exact zaX (fun _=>jA fun _=>jA fun _=>jk nvO nvS) h
theorem zhl{o:M1}{x y:D}(h:zf8 o x y=.ve):False:=by
 induction o using M1.casesOn with
 |join=>exact zaX (fun _=>zfp fun _=>zcu zda fun _=>jk nvO nvS) h
 |split=>exact zaX (fun _=>zaX fun _=>jk nvO nvS) h
 |count=>exact zaX (fun _=>zaX fun _=>jk nvO nvS) h
 |index=>exact zfp (fun _=>zaX fun _=>zcu zda fun _=>jk nvO nvS) h
theorem zuZ{x y z:D}:zm4 x y z≠.ve:=by
 induction x using PyData.casesOn with
 |dict kvs=>exact jk nvO nvS
 |_=>exact nvS
theorem zhn{o:M2}{x y z:D}(h:zie o x y z=.ve):False:=by
 cases o;exact zuZ h
theorem zqE{l u v:Expr}{q pos:Pos}{a c e:PE}(ha:zt prog w zc G cf n names st true env (eval l env) a)(hc:zt prog w zc G cf n names st true env (eval u env) c)(he:zt prog w zc G cf n names st true env (eval v env) e):
  zt prog w zc G cf n names st b env (eval (.Subscript l (.Slice (some u) (some v) none q) pos) env) (.tri .slice a c e):=by
 intro P A fs s ρ Q E ec vo hok hve hns;simp only[zvq] at hok hve hns;refine Subscript_ (ha P A fs s ρ _ E ec vo (fun x o s₁ hx c1 rx=>?_) (fun hx=>hve (by rw[hx];rfl)) (fun hx=>hns (by rw[hx];rfl)));rw[hx] at hok hve hns;have ec1:=ec.keep c1.keep;refine wpAny_Slice ?_;rw[evalPart_some,evalPart_some];refine hc P A fs s₁ ρ _ E ec1 (vo.keep prog w c1.keep) (fun y vy s₂ hy c2 ry=>?_) (fun hy x s' q=>hve (by rw[hy];rfl) x s' (q.after c1)) (fun hy=>hns (by rw[hy];rfl));rw[hy] at hok hve hns;have ec2:=ec1.keep c2.keep;refine he P A fs s₂ ρ _ E ec2 ((vo.keep prog w c1.keep).keep prog w c2.keep) (fun z vz s₃ hz c3 rz=>?_) (fun hz x s' q=>hve (by rw[hz];rfl) x s' (q.after (c1.trans c2))) (fun hz=>hns (by rw[hz];rfl));rw[hz] at hok hve hns;simp only[R.bind_ok] at hok hve hns;refine wpAny_pure ?_;cases hd:tri .slice x y z with
 |stuck=>exact absurd hd hns
 |ve=>exact(zmV hd).elim
 |ok d=>
  rw[hd] at hok;have rx':=(rx.keep prog w c2.keep).keep prog w c3.keep;have ry':=ry.keep prog w c3.keep;have kp:zA s₃.heap (s₃.heap.push {cls:=.type "slice",data:=.fields #[vy,vz,.none]}):=zA.push _ _
  have hd':zgr x y z=.ok d:=hd;obtain⟨xx,rfl,k1⟩:=zaW hd';obtain⟨i,rfl,k2⟩:=jG k1;obtain⟨j,rfl,k3⟩:=jG k2;obtain⟨hij,k4⟩:=ifS k3;clear hd hd' k1 k2 k3
  (obtain rfl:=okI k4;clear k4)
  obtain⟨t,rfl⟩:=ry'.inv_int;obtain⟨t2,rfl⟩:=rz.inv_int;obtain⟨tx,rfl,h1,h2⟩:=rx'.inv_str;have hsl:(s₃.heap.push {cls:=.type "slice",data:=.fields #[.int i t,.int j t2,.none]}).IsSlice s₃.heap.objs.size (some (i,t)) (some (j,t2)) none:=⟨_,Heap.get?_push_size _ rfl,rfl,rfl⟩
  refine zcg (typeIs_str _ _ _) PySem.F.slot_str_getitem.lookup (zdF (P:=P) hsl h2 ?_ (zcc h1) (fun v' h' tk k r=>hok _ v' _ rfl ((c1.trans (c2.trans c3)).trans ⟨kp.trans k,rfl,fun x=>x⟩) (.rep r)));exact zjz hij.1 hij.2.1 hij.2.2
end
end Mine
namespace Mine
open PySem PyProof.Rows PySem.Calls
section
variable{prog:Program}{w:World}{zc:Heap}{G:List D}{cf:Nat->List D->R D}{n:Nat}{names:List (Str×NameKind)}{st:List VS}{b:Bool}{env:Env}{F:List zH}{K:List (Str×D)}{mg mb:Str->Option Value}
theorem ze9{o:Expr}{m:Str}(h:j8 o=false):attributeBase o m env (eval o env)=eval o env:=by
 induction o using PySem.Expr.casesOn with
 |Call f args kws p=>
  induction f using PySem.Expr.casesOn with
  |Name x q=>
   induction args using List.casesOn with
   |nil=>induction kws using List.casesOn with
    |nil=>exact tf h
    |cons=>rfl
   |cons=>rfl
  |_=>rfl
 |_=>rfl
theorem znn{A:Around}{E:Value->Shared->Prop}{s:Shared}{o x:Expr}{m:Str}{ap pos:Pos}{T id:String}{Q:Value->Shared->Prop}(hs:j8 o=false)(hp:(ap.endLine==pos.line)=true)(hx:zy x)
  (pa:PlainAttrs T)(slot:Slot T m id)(hty:typeOf (.builtin id)=pure (.type "method_descriptor"))
  (h:wpAny (model prog w) A (eval o env) (fun ov s₁=>s₁.TypeIs ov T/\(∀a,ov=.ref a->∃ob,s₁.heap.get? a=some ob/\ob.dict=none)/\
   wpAny (model prog w) A (eval x env) (fun u s₂=>wpAny (model prog w) A (call (.builtin id) [ov,u]) Q E s₂) E s₁) E s):
  wpAny (model prog w) A (eval (.Call (.Attribute o m ap) [x] [] pos) env) Q E s:=by
 refine wpAny_Call_method (ze9 hs) ?_ hp pa slot hty (wpAny_mono h (fun ov s₁ h₁=>⟨h₁.1,h₁.2.1,?_⟩) fun _ _ e=>e)
 ·rw[zx hx];rfl
 ·rw[zx hx];exact callWith_builtin rfl (evalArgs_plain (spliced_cons (wpAny_mono h₁.2.2 (fun u s₂ h₂=>spliced_nil h₂) fun _ _ e=>e)))
theorem zvy{A:Around}{E:Value->Shared->Prop}{s:Shared}{o x y:Expr}{m:Str}{ap pos:Pos}{T id:String}{Q:Value->Shared->Prop}(hs:j8 o=false)(hp:(ap.endLine==pos.line)=true)(hx:zy x)(hy:zy y)
  (pa:PlainAttrs T)(slot:Slot T m id)(hty:typeOf (.builtin id)=pure (.type "method_descriptor"))
  (h:wpAny (model prog w) A (eval o env) (fun ov s₁=>s₁.TypeIs ov T/\(∀a,ov=.ref a->∃ob,s₁.heap.get? a=some ob/\ob.dict=none)/\
   wpAny (model prog w) A (eval x env) (fun u s₂=>wpAny (model prog w) A (eval y env) (fun v s₃=>wpAny (model prog w) A (call (.builtin id) [ov,u,v]) Q E s₃) E s₂) E s₁) E s):
  wpAny (model prog w) A (eval (.Call (.Attribute o m ap) [x,y] [] pos) env) Q E s:=by
 refine wpAny_Call_method (ze9 hs) ?_ hp pa slot hty (wpAny_mono h (fun ov s₁ h₁=>⟨h₁.1,h₁.2.1,?_⟩) fun _ _ e=>e)
 ·rw[zx hx,zx hy];rfl
 ·rw[zx hx,zx hy];exact callWith_builtin rfl (evalArgs_plain (spliced_cons (wpAny_mono h₁.2.2 (fun u s₂ h₂=>spliced_cons (wpAny_mono h₂ (fun v s₃ h₃=>spliced_nil h₃) fun _ _ e=>e)) fun _ _ e=>e)))
theorem zwh{A:Around}{E:Value->Shared->Prop}{s:Shared}{o:Expr}{m:Str}{ap pos:Pos}{T id:String}{Q:Value->Shared->Prop}(hs:j8 o=false)(hp:(ap.endLine==pos.line)=true)
  (pa:PlainAttrs T)(slot:Slot T m id)(hty:typeOf (.builtin id)=pure (.type "method_descriptor"))
  (h:wpAny (model prog w) A (eval o env) (fun ov s₁=>s₁.TypeIs ov T/\(∀a,ov=.ref a->∃ob,s₁.heap.get? a=some ob/\ob.dict=none)/\wpAny (model prog w) A (call (.builtin id) [ov]) Q E s₁) E s):
  wpAny (model prog w) A (eval (.Call (.Attribute o m ap) [] [] pos) env) Q E s:=by
 refine wpAny_Call_method (ze9 hs) rfl hp pa slot hty (wpAny_mono h (fun ov s₁ h₁=>⟨h₁.1,h₁.2.1,?_⟩) fun _ _ e=>e);exact callWith_builtin rfl (PySem.evalArgs_none h₁.2.2)
noncomputable def zbh:M1->String×String×String
 |.join=>("str","join","str.join")
 |.split=>("str","split","str.split")
 |.count=>("str","count","str.count")
 |.index=>("list","index","list.index")
theorem zqH(o:M1):PlainAttrs (zbh o).1/\Slot (zbh o).1 (Str.ofString (zbh o).2.1) (zbh o).2.2/\typeOf (.builtin (zbh o).2.2)=pure (.type "method_descriptor"):=by
 cases o
 ·exact⟨PySem.F.plainAttrs_str,PySem.F.slot_str_join,PySem.F.type_str_join⟩
 ·exact⟨PySem.F.plainAttrs_str,PySem.F.slot_str_split,PySem.F.type_str_split⟩
 ·exact⟨PySem.F.plainAttrs_str,PySem.F.slot_str_count,PySem.F.type_str_count⟩
 ·exact⟨PySem.F.plainAttrs_list,PySem.F.slot_list_index,PySem.F.type_list_index⟩
theorem zvl{P T:Addr->Prop}{s:Shared}{o:M1}{u:Value}{du:D}(r:zl prog w T P s.heap u du)(h:zmE o du=true):s.TypeIs u (zbh o).1/\∀a,u=.ref a->∃ob,s.heap.get? a=some ob/\ob.dict=none:=by
 have hs:∀{du:D},zl prog w T P s.heap u du->zeZ du=true->s.TypeIs u "str"/\∀a,u=.ref a->∃ob,s.heap.get? a=some ob/\ob.dict=none:=by
  intro du r h;cases du<;>simp[zeZ] at h;obtain⟨t,rfl,_⟩:=r.inv_str;exact⟨typeIs_str _ _ _,fun a e=>by cases e⟩
 cases o
 ·exact hs r h
 ·exact hs r h
 ·exact hs r h
 ·cases du<;>simp[zmE,kR] at h
  obtain⟨a,oa,va,na,rfl,ha,ca,hd,_⟩:=r.inv_list;exact⟨⟨_,ha,ca⟩,fun b e=>by cases e;exact⟨_,ha,hd⟩⟩
theorem zsE{P T T':Addr->Prop}{A:Around}{E:Value->Shared->Prop}{s:Shared}{o:M1}{u v:Value}{du dv d:D}{Q:Value->Shared->Prop}(hP:km P s.heap)(ru:zl prog w T P s.heap u du)(rv:zl prog w T' P s.heap v dv)
  (h:zf8 o du dv=.ok d)(g:zD P d Q s):wpAny (model prog w) A (call (.builtin (zbh o).2.2) [u,v]) Q E s:=by
 cases o
 ·exact zjZ ru rv h g
 ·exact zh5 hP ru rv h g
 ·exact ziJ ru rv h g
 ·exact zhT ru rv h g
theorem zum{o:M1}{l x:Expr}{m:Str}{ap pos:Pos}{a c:PE}(hm:m=Str.ofString (zbh o).2.1)(hs:j8 l=false)(hp:(ap.endLine==pos.line)=true)(hx:zy x)
  (ha:zt prog w zc G cf n names st true env (eval l env) a)(hc:zt prog w zc G cf n names st true env (eval x env) c):
  zt prog w zc G cf n names st b env (eval (.Call (.Attribute l m ap) [x] [] pos) env) (.m1 o a c):=by
 intro P A fs s ρ Q E ec vo hok hve hns;simp only[zwI] at hok hve hns
 (replace hm:=Eq.symm hm;subst hm)
 obtain⟨f1,f2,f3⟩:=zqH o;refine znn hs hp hx f1 f2 f3 (ha P A fs s ρ _ E ec vo (fun d u s₁ hd c1 r1=>?_) (fun hd=>hve (by rw[hd];rfl)) (fun hd=>hns (by rw[hd];rfl)));rw[hd] at hok hve hns;simp only[R.bind_ok] at hok hve hns;cases hpre:zmE o d with
 |false=>rw[hpre] at hns;exact absurd rfl hns
 |true=>
  rw[hpre] at hok hve hns;obtain⟨t1,t2⟩:=zvl r1 hpre;refine⟨t1,t2,hc P A fs s₁ ρ _ E (ec.keep c1.keep) (vo.keep prog w c1.keep) (fun y v s₂ hy c2 r2=>?_) (fun hy x s' q=>hve (by rw[hy];rfl) x s' (q.after c1)) (fun hy=>hns (by rw[hy];rfl))⟩;rw[hy] at hok hve hns;cases hr:zf8 o d y with
  |stuck=>exact absurd hr hns
  |ve=>exact(zhl hr).elim
  |ok z=>exact zsE ((ec.keep c1.keep).keep c2.keep).pnew (r1.keep prog w c2.keep) r2 hr (jI fun v' s' c3 r3=>hok z v' s' hr ((c1.trans c2).trans c3) (.rep r3))
theorem zyq{P:Addr->Prop}{h:Heap}{x:Addr}{kvs:List (D×D)}(r:zu prog w P h x kvs):∃o,h.get? x=some o/\o.cls=.type "dict"/\o.dict=none:=by
 obtain⟨_,_,⟨l,m,_⟩|⟨l,m,_⟩|⟨l,m,_⟩⟩:=r
 ·obtain⟨o,es,ep,ho,he,_⟩:=m;exact⟨o,ho,he.1,he.2.1⟩
 ·obtain⟨o,es,ep,ho,he,_⟩:=m;exact⟨o,ho,he.1,he.2.1⟩
 ·obtain⟨o,es,ep,ho,he,_⟩:=m;exact⟨o,ho,he.1,he.2.1⟩
theorem zsO{P T:Addr->Prop}{s:Shared}{u:Value}{d:D}(r:zl prog w T P s.heap u d)(h:zpp .get d=true):s.TypeIs u "dict"/\∀a,u=.ref a->∃ob,s.heap.get? a=some ob/\ob.dict=none:=by
 induction d using PyData.casesOn with
 |dict kvs=>
  obtain⟨x,rfl,q⟩:=r.inv_dict;obtain⟨o,h1,h2,h3⟩:=zyq q;exact⟨⟨o,h1,h2⟩,fun a e=>by injection e with e;exact⟨o,e▸h1,h3⟩⟩
 |_=>exact ff h
theorem zqU{l x y:Expr}{ap pos:Pos}{a c e:PE}(hs:j8 l=false)(hp:(ap.endLine==pos.line)=true)(hx:zy x)(hy:zy y)
  (ha:zt prog w zc G cf n names st true env (eval l env) a)(hc:zt prog w zc G cf n names st true env (eval x env) c)(he:zt prog w zc G cf n names st false env (eval y env) e):
  zt prog w zc G cf n names st b env (eval (.Call (.Attribute l (Str.ofString "get") ap) [x,y] [] pos) env) (.m2 .get a c e):=by
 intro P A fs s ρ Q E ec vo hok hve hns;simp only[zwR] at hok hve hns;refine zvy hs hp hx hy PySem.F.plainAttrs_dict PySem.F.slot_dict_get PySem.F.type_dict_get (ha P A fs s ρ _ E ec vo (fun d u s₁ hd c1 r1=>?_) (fun hd=>hve (by rw[hd];rfl)) (fun hd=>hns (by rw[hd];rfl)));rw[hd] at hok hve hns;simp only[R.bind_ok] at hok hve hns;cases hpre:zpp .get d with
 |false=>rw[hpre] at hns;exact absurd rfl hns
 |true=>
  rw[hpre] at hok hve hns;have ht:s₁.TypeIs u "dict"/\∀a,u=.ref a->∃ob,s₁.heap.get? a=some ob/\ob.dict=none:=by
   exact zsO r1 hpre
  have ec1:=ec.keep c1.keep;refine⟨ht.1,ht.2,hc P A fs s₁ ρ _ E ec1 (vo.keep prog w c1.keep) (fun y v s₂ hy c2 r2=>?_) (fun hy x s' q=>hve (by rw[hy];rfl) x s' (q.after c1)) (fun hy=>hns (by rw[hy];rfl))⟩;rw[hy] at hok hve hns;refine he P A fs s₂ ρ _ E (ec1.keep c2.keep) ((vo.keep prog w c1.keep).keep prog w c2.keep) (fun z v3 s₃ hz c3 r3=>?_) (fun hz x s' q=>hve (by rw[hz];rfl) x s' (q.after (c1.trans c2))) (fun hz=>hns (by rw[hz];rfl));rw[hz] at hok hve hns;cases hr:zie .get d y z with
  |stuck=>exact absurd hr hns
  |ve=>exact(zhn hr).elim
  |ok q=>exact zmB (by have:=ec.units;lia) ((r1.keep prog w c2.keep).keep prog w c3.keep) (r2.keep prog w c3.keep) r3 hr (jI fun v' s' c4 r4=>hok q v' s' hr ((c1.trans (c2.trans c3)).trans c4) (.rep r4))
end
end Mine
namespace Mine
open PySem PyProof.Rows PySem.Calls
section
variable{P P' T T':Addr->Prop}{h h':Heap}
theorem zhQ(hm:∀a o,P a->h.get? a=some o->P' a/\h'.get? a=some o):(∀{v:Value} {d:D},Rep P h v d->Rep P' h' v d)/\∀{vs:List Value} {ds:List D},zi P h vs ds->zi P' h' vs ds:=by
 constructor
 all_goals intro v d x
 ·exact Rep.rec (motive_1:=fun v d _=>Rep P' h' v d) (motive_2:=fun vs ds _=>zi P' h' vs ds) .none .bool .int .str (fun p ho hc hd hda _ hz r=>.list (hm _ _ p ho).1 (hm _ _ p ho).2 hc hd hda r hz) (fun p ho hc hda _ hz r=>.tuple (hm _ _ p ho).1 (hm _ _ p ho).2 hc hda r hz) .nil (fun _ _ a r=>.cons a r) x
 ·exact zi.rec (motive_1:=fun v d _=>Rep P' h' v d) (motive_2:=fun vs ds _=>zi P' h' vs ds) .none .bool .int .str (fun p ho hc hd hda _ hz r=>.list (hm _ _ p ho).1 (hm _ _ p ho).2 hc hd hda r hz) (fun p ho hc hda _ hz r=>.tuple (hm _ _ p ho).1 (hm _ _ p ho).2 hc hda r hz) .nil (fun _ _ a r=>.cons a r) x
theorem Rep.move(hm:∀a o,P a->h.get? a=some o->P' a/\h'.get? a=some o){v:Value}{d:D}(x:Rep P h v d):Rep P' h' v d:=(zhQ hm).1 x
theorem zi.move(hm:∀a o,P a->h.get? a=some o->P' a/\h'.get? a=some o){vs:List Value}{ds:List D}(x:zi P h vs ds):zi P' h' vs ds:=(zhQ hm).2 x
variable{prog:Program}{w:World}
theorem zu.move(hm:∀a o,P a->h.get? a=some o->P' a/\h'.get? a=some o){a:Addr}(ha:∀o,h.get? a=some o->h'.get? a=some o){kvs:List (D×D)}(r:zu prog w P h a kvs):zu prog w P' h' a kvs:=by
 have kk:∀{K:Type} {enc:K->D} {l:List (K×Value)} {kvs:List (D×D)},KVs P h enc l kvs->KVs P' h' enc l kvs:=by
  intro K enc l kvs r;induction r with
  |nil=>exact .nil
  |cons a _ ih=>exact .cons (a.move hm) ih
 have dk:∀{K:Type} [DecidableEq K] {knd:PySem.KeyKind prog w K} {l},h.DictOf knd a l->h'.DictOf knd a l:=fun m=>let ⟨o,es,ep,ho,r⟩:=m;⟨o,es,ep,ha _ ho,r⟩;obtain⟨h1,h2,⟨l,m,q⟩|⟨l,m,q⟩|⟨l,m,q⟩⟩:=r
 ·exact⟨h1,h2,.inl ⟨l,dk m,kk q⟩⟩
 ·exact⟨h1,h2,.inr (.inl ⟨l,dk m,kk q⟩)⟩
 ·obtain⟨o,es,ep,ho,he,hd,hp',hi,hn⟩:=m;have kh:∀{l:List (List Int×Addr×Value)} {kvs:List (D×D)},(∀x∈l,∃o,h.get? x.2.1=some o)->KVH P h l kvs->KVH P' h' l kvs:=by
   intro l kvs hx r;induction r with
   |nil=>exact .nil
   |cons p a _ ih=>
    obtain⟨o,ho⟩:=hx _ (List.mem_cons_self ..);exact .cons (hm _ _ p ho).1 (a.move hm) (ih fun x h=>hx x (List.mem_cons_of_mem _ h))
  have pk:∀{l:List (List Int×Addr×Value)} {kvs:List (D×D)},KVH P h l kvs->∀x∈l,P x.2.1:=by
   intro l kvs r;induction r with
   |nil=>intro x hx;cases hx
   |cons p a _ ih=>intro x hx;cases hx with
    |head=>exact p
    |tail _ hx=>exact ih x hx
  refine⟨h1,h2,.inr (.inr ⟨l,?_,kh (fun x hx=>?_) q⟩)⟩
  ·refine⟨o,es,ep,ha _ ho,he,hd,hp',fun x hx=>?_,hn⟩;obtain⟨o',its,n,ho',hc',hd',r'⟩:=hi x hx;exact⟨o',its,n,(hm _ _ (pk q x hx) ho').2,hc',hd',r'⟩
  ·obtain⟨o',its,n,ho',hc',hd',r'⟩:=hi x hx;exact⟨o',ho'⟩
theorem zu.alloc{a:Addr}{kvs:List (D×D)}(r:zu prog w P h a kvs):∃o,h.get? a=some o:=by
 obtain⟨h1,h2,⟨l,m,q⟩|⟨l,m,q⟩|⟨l,m,q⟩⟩:=r
 ·obtain⟨o,es,ep,ho,_⟩:=m;exact⟨o,ho⟩
 ·obtain⟨o,es,ep,ho,_⟩:=m;exact⟨o,ho⟩
 ·obtain⟨o,es,ep,ho,_⟩:=m;exact⟨o,ho⟩
theorem zl.move(ht:∀a o,T a->h.get? a=some o->T' a/\h'.get? a=some o)(hm:∀a o,P a->h.get? a=some o->P' a/\h'.get? a=some o){v:Value}{d:D}(r:zl prog w T P h v d):zl prog w T' P' h' v d:=by
 induction r using zl.casesOn with
 |rep r=>exact .rep (r.move hm)
 |list t ho hc hd hda hr hz=>exact .list (ht _ _ t ho).1 (ht _ _ t ho).2 hc hd hda (hr.move hm) hz
 |dict t r=>obtain⟨o,ho⟩:=r.alloc;exact .dict (ht _ _ t ho).1 (r.move hm fun o ho=>(ht _ _ t ho).2)
end
structure zbB(names:List (Str×NameKind))(env:Env)(h:Heap):Prop where
 ns:∃m,h.Ns env.locals m
 loc:∀x,names.lookup x=some .local->env.kindOf x=some .local
 cell:∀x,names.lookup x=some .cell->env.kindOf x=some .cell/\∃c o,env.cells.lookup x=some c/\h.IsCell c o
 inj:∀x y c,env.cells.lookup x=some c->env.cells.lookup y=some c->x=y
 ne:∀x c,env.cells.lookup x=some c->c≠env.locals
 fn:env.scope.kind=.function
theorem zbB.keep{names:List (Str×NameKind)}{env:Env}{h h':Heap}(f:zbB names env h)(k:∀a o,Mut names env a->h.get? a=some o->h'.get? a=some o):zbB names env h':=
 {f with
  ns:=let ⟨m,hm⟩:=f.ns;⟨m,hm.at' fun o e=>k _ o (.inl rfl) e⟩
  cell:=fun x hx=>by
   obtain⟨h1,c,o,h2,ob,h3,h4⟩:=f.cell x hx;exact⟨h1,c,o,h2,ob,k _ _ (.inr ⟨x,hx,h2⟩) h3,h4⟩}
noncomputable def NF(o:Obj):Prop:=∀vs,o.data≠.fields vs
noncomputable def jF(h h':Heap):Prop:=∀a o,h.get? a=some o->∃o',h'.get? a=some o'/\(NF o->NF o')
theorem jF.refl(h:Heap):jF h h:=fun _ o e=>⟨o,e,id⟩
theorem jF.trans{h h' h₂:Heap}(x:jF h h')(y:jF h' h₂):jF h h₂:=fun a o e=>by
 obtain⟨o',e',n'⟩:=x a o e;obtain⟨o₂,e₂,n₂⟩:=y a o' e';exact⟨o₂,e₂,fun n=>n₂ (n' n)⟩
theorem jF.of_keep{h h':Heap}(k:zA h h'):jF h h':=fun a o e=>⟨o,k a o e,id⟩
structure Bnd(names:List (Str×NameKind))(env:Env)(h h':Heap):Prop where
 keep:∀a o,¬Mut names env a->h.get? a=some o->h'.get? a=some o
 alloc:jF h h'
theorem Bnd.refl(names:List (Str×NameKind))(env:Env)(h:Heap):Bnd names env h h:=⟨fun _ _ _ e=>e,jF.refl h⟩
theorem Bnd.trans{names:List (Str×NameKind)}{env:Env}{h h' h₂:Heap}(x:Bnd names env h h')(y:Bnd names env h' h₂):Bnd names env h h₂:=
 ⟨fun a o n e=>y.keep a o n (x.keep a o n e),x.alloc.trans y.alloc⟩
theorem Bnd.of_keep{names:List (Str×NameKind)}{env:Env}{h h':Heap}(k:zA h h'):Bnd names env h h':=⟨fun a o _ e=>k a o e,.of_keep k⟩
theorem Bnd.keepO{names:List (Str×NameKind)}{env:Env}{h h':Heap}(x:Bnd names env h h')(a:Addr)(o:Obj)(n:¬Own env a)(e:h.get? a=some o):h'.get? a=some o:=x.keep a o (fun q=>n q.own) e
noncomputable def ANF(h h':Heap):Prop:=∀a o,h.get? a=some o->NF o->∃o',h'.get? a=some o'/\NF o'
theorem jF.nf{h h':Heap}(k:jF h h'):ANF h h':=fun a o e n=>let ⟨o',e',n'⟩:=k a o e;⟨o',e',n' n⟩
theorem jD{h h' zc:Heap}(k:ANF h h'):∀{l:List Env},h.FunFrames zc l->h'.FunFrames zc l
 |[],_=>trivial
 |_::_,⟨h1,⟨L,o,h2,h3,h4,h5⟩,h6⟩=>by
  obtain⟨o',e',n'⟩:=k L o h4 h5;exact⟨h1,⟨L,o',h2,h3,e',n'⟩,jD k h6⟩
noncomputable def zrp(fs:List Env)(h h':Heap):Prop:=∀a∈frs fs,∀o,h.get? a=some o->NF o->∃o',h'.get? a=some o'/\NF o'
theorem ANF.f{fs:List Env}{h h':Heap}(k:ANF h h'):zrp fs h h':=fun a _ o e n=>k a o e n
theorem zaM{h h' zc:Heap}:∀{l:List Env},zrp l h h'->h.FunFrames zc l->h'.FunFrames zc l
 |[],_,_=>trivial
 |env::l,k,⟨h1,⟨L,o,h2,h3,h4,h5⟩,h6⟩=>by
  obtain⟨o',e',n'⟩:=k L (List.mem_filterMap.mpr ⟨env,.head _,h2⟩) o h4 h5;exact⟨h1,⟨L,o',h2,h3,e',n'⟩,zaM (fun a ha=>k a (by
   obtain⟨e,he,hf⟩:=List.mem_filterMap.mp ha;exact List.mem_filterMap.mpr ⟨e,.tail _ he,hf⟩)) h6⟩
theorem EC.change'{zc:Heap}{P P':Addr->Prop}{A:Around}{fs:List Env}{n:Nat}{env:Env}{h h':Heap}(e:EC zc P A fs n env h)(hk:∀a o,P a->h.get? a=some o->P' a/\h'.get? a=some o)(k:zrp fs h h')(hO:∀a,P' a->¬Own env a)(hN:∀a,P' a->a∉frs fs)(hn:km P' h'):
  EC zc P' A fs n env h':=
 {e with
  stays:=fun a o q=>(hk a o (e.pbase a o q) (e.stays a o q)).2
  pnew:=hn
  pbase:=fun a o q=>(hk a o (e.pbase a o q) (e.stays a o q)).1
  funs:=zaM k e.funs
  own:=hO
  nofr:=hN}
theorem EC.change{zc:Heap}{P P':Addr->Prop}{A:Around}{fs:List Env}{n:Nat}{env:Env}{h h':Heap}(e:EC zc P A fs n env h)(hk:∀a o,P a->h.get? a=some o->P' a/\h'.get? a=some o)(k:ANF h h')(hO:∀a,P' a->¬Own env a)(hN:∀a,P' a->a∉frs fs)(hn:km P' h'):
  EC zc P' A fs n env h':=
 {e with
  stays:=fun a o q=>(hk a o (e.pbase a o q) (e.stays a o q)).2
  pnew:=hn
  pbase:=fun a o q=>(hk a o (e.pbase a o q) (e.stays a o q)).1
  funs:=jD k e.funs
  own:=hO
  nofr:=hN}
theorem km.alloc{P:Addr->Prop}{h h':Heap}(x:km P h)(k:jF h h'):km P h':=fun a e=>x a (by
 cases q:h.get? a with
 |none=>rfl
 |some o=>obtain⟨o',e',_⟩:=k a o q;rw[e'] at e;exact sn e)
theorem zmY{h:Heap}{a:Addr}{m:Str->Option Value}(hn:h.Ns a m):∃o,h.get? a=some o/\NF o:=by
 obtain⟨o,es,ep,ho,hd,_⟩:=hn;exact⟨o,ho,fun vs q=>by rw[hd] at q;cases q⟩
theorem zqR{h:Heap}{a:Addr}{m:Option Value}(hn:h.IsCell a m):∃o,h.get? a=some o/\NF o:=by
 obtain⟨o,ho,hd⟩:=hn;exact⟨o,ho,fun vs q=>by rw[hd] at q;cases q⟩
section
variable{prog:Program}{w:World}{A:Around}{E:Value->Shared->Prop}{s:Shared}{env:Env}{names:List (Str×NameKind)}
theorem zge{x:Str}{k:NameKind}{v:Value}{Q:Unit->Shared->Prop}(F:zbB names env s.heap)(hx:names.lookup x=some k)(hk:k=.local\/k=.cell)
  (h:∀h' tk,Bnd names env s.heap h'->zbB names env h'->zF env h' x v->(∀y u,y≠x->zF env s.heap y u->zF env h' y u)->Q () {s with heap:=h',toks:=tk}):
  wpAny (model prog w) A (storeName env x v) Q E s:=by
 have hp:(env.scope.kind==.class||(env.scope.kind==.module&&env.locals != env.globals))=false:=by rw[F.fn];rfl
 rcases hk with rfl|rfl
 ·obtain⟨m,hm⟩:=F.ns;refine wpAny_storeName_local (F.loc x hx) hm (fun h' hn hs=>?_) hp;have B:Bnd names env s.heap h':=⟨fun a o na e=>hs.extBut a o (fun q=>na (.inl q)) e,fun a o e=>by
   by_cases q:a=env.locals
   ·obtain⟨ob,hob,hnf⟩:=zmY hn;exact⟨ob,q▸hob,fun _=>hnf⟩
   ·exact⟨o,hs.extBut a o q e,id⟩⟩
  refine h h' _ B {F with ns:=⟨_,hn⟩,cell:=fun y hy=>?_} (.loc _ (F.loc x hx) hn (by simp)) fun y u hne hv=>?_
  ·obtain⟨h1,c,o,h2,ob,h3,h4⟩:=F.cell y hy;exact⟨h1,c,o,h2,ob,hs.extBut c ob (F.ne y c h2) h3,h4⟩
  ·induction hv using zF.casesOn with
   |loc m' a b c=>exact .loc _ a hn (by simp only[if_neg hne];rw[←c];exact hm.agree b y)
   |cell c a b d=>obtain⟨ob,h3,h4⟩:=d;exact .cell c a b ⟨ob,hs.extBut c ob (F.ne y c b) h3,h4⟩
 ·obtain⟨h1,c,o,h2,hc⟩:=F.cell x hx;refine wpAny_storeName_cell F.fn h1 h2 hc fun h' hn hs=>?_;have B:Bnd names env s.heap h':=⟨fun a o na e=>hs.extBut a o (fun q=>na (.inr ⟨x,hx,q▸h2⟩)) e,fun a o e=>by
   by_cases q:a=c
   ·obtain⟨ob,hob,hnf⟩:=zqR hn;exact⟨ob,q▸hob,fun _=>hnf⟩
   ·exact⟨o,hs.extBut a o q e,id⟩⟩
  have hsame:(({s with heap:=h'}:Shared))={s with heap:=h',toks:=s.toks}:=rfl;rw[hsame];refine h h' _ B {F with ns:=?_,cell:=fun y hy=>?_} (.cell c (.inl h1) h2 hn) fun y u hne hv=>?_
  ·obtain⟨m,hm⟩:=F.ns;exact⟨m,hm.at' fun o e=>hs.extBut _ o (fun q=>F.ne x c h2 q.symm) e⟩
  ·obtain⟨g1,c',o',g2,ob,g3,g4⟩:=F.cell y hy;by_cases q:c'=c
   ·subst q;exact⟨g1,c',some v,g2,hn⟩
   ·exact⟨g1,c',o',g2,ob,hs.extBut c' ob q g3,g4⟩
  ·induction hv using zF.casesOn with
   |loc m' a b d=>exact .loc m' a (b.at' fun o e=>hs.extBut _ o (fun q=>F.ne x c h2 q.symm) e) d
   |cell c' a b d=>
    have q:c'≠c:=fun q=>hne (F.inj y x c (q▸b) h2);obtain⟨ob,h3,h4⟩:=d;exact .cell c' a b ⟨ob,hs.extBut c' ob q h3,h4⟩
end
section
variable(prog:Program)(w:World)
noncomputable def kP(env:Env)(names:List (Str×NameKind))(st:List VS)(ρ:ze)(T P:Addr->Prop)(h:Heap):Prop:=
 ∀(i:Nat) (x:Str) (k:NameKind),names[i]?=some (x,k)->kj k=true->VS.at st i≠.u->
  ∃v,zF env h x v/\zl prog w (if VS.at st i=.o then T else P) P h v (zr ρ i)
end
section
variable{prog:Program}{w:World}{A:Around}{E:Value->Shared->Prop}{s:Shared}{env:Env}{names:List (Str×NameKind)}{st:List VS}{ρ:ze}{T T' P P':Addr->Prop}{h h':Heap}
theorem VOK.vokt(r:VOK prog w env names st ρ P h):kP prog w env names st ρ (fun a=>¬Own env a) P h:=r
set_option tactic.hygienic true in
theorem kP.move(r:kP prog w env names st ρ T P h)(hv:∀x u,zF env h x u->zF env h' x u)(ht:∀a o,T a->h.get? a=some o->T' a/\h'.get? a=some o)(hm:∀a o,P a->h.get? a=some o->P' a/\h'.get? a=some o):
  kP prog w env names st ρ T' P' h':=fun i x k h1 h2 h3=>by
 obtain⟨v,h4,h5⟩:=r i x k h1 h2 h3;refine⟨v,hv _ _ h4,h5.move (fun a o q e=>?_) hm⟩;split at q
 ·rename_i c;rw[if_pos c];exact ht a o q e
 ·rename_i c;rw[if_neg c];exact hm a o q e
theorem kP.vok(r:kP prog w env names st ρ T P h)(hT:∀a,T a->¬Own env a):VOK prog w env names st ρ P h:=
 r.move (T':=fun a=>¬Own env a) (fun _ _ q=>q) (fun a _ t e=>⟨hT a t,e⟩) (fun _ _ t e=>⟨t,e⟩)
theorem kP.keep(r:kP prog w env names st ρ T P h)(k:zA h h'):kP prog w env names st ρ T P h':=
 r.move (fun _ _ q=>q.keep k) (fun a o t e=>⟨t,k a o e⟩) (fun a o t e=>⟨t,k a o e⟩)
noncomputable def VS.le:VS->VS->Bool
 |.u,_=>true
 |.f,.f=>true
 |.o,.o=>true
 |_,_=>false
theorem VS.at_set{st:List VS}{i j:Nat}{k:VS}:VS.at (st.set i k) j=if i=j/\j<st.length then k else VS.at st j:=by
 unfold VS.at;rw[List.getD_eq_getElem?_getD,List.getD_eq_getElem?_getD,List.getElem?_set];by_cases h1:i=j
 ·subst h1;by_cases h2:i<st.length
  ·simp[h2]
  ·simp[h2]
 ·simp[h1]
theorem zat{ρ:ze}{i j:Nat}{d:D}:zr (ρ.set i d) j=if i=j/\j<ρ.length then d else zr ρ j:=by
 unfold zr;rw[List.getD_eq_getElem?_getD,List.getD_eq_getElem?_getD,List.getElem?_set];by_cases h1:i=j
 ·subst h1;by_cases h2:i<ρ.length
  ·simp[h2]
  ·simp[h2]
 ·simp[h1]
theorem ze7{names:List (Str×NameKind)}(hnd:(names.map (·.1)).Nodup){i j:Nat}{x:Str}{k k':NameKind}(hi:names[i]?=some (x,k))(hj:names[j]?=some (x,k')):i=j:=by
 obtain⟨h1,e1⟩:=List.getElem?_eq_some_iff.mp hi;obtain⟨h2,e2⟩:=List.getElem?_eq_some_iff.mp hj;exact(List.getElem_inj (xs:=names.map (·.1)) (i:=i) (j:=j) (h₀:=by simpa using h1) (h₁:=by simpa using h2) hnd).mp (by simp[e1,e2])
set_option tactic.hygienic true in
theorem kP.store(r:kP prog w env names st ρ T P h)(hnd:(names.map (·.1)).Nodup)(hlen:st.length=ρ.length){i:Nat}{x:Str}{k:NameKind}(hi:names[i]?=some (x,k))(B:Bnd names env h h')(hT:∀a,T a->¬Own env a)(hP:∀a,P a->¬Own env a)
  {v:Value}{d:D}(hx:zF env h' x v)(ho:∀y u,y≠x->zF env h y u->zF env h' y u)(rv:zl prog w P P h v d):kP prog w env names (st.set i .f) (ρ.set i d) T P h':=fun j y k' h1 h2 h3=>by
 by_cases q:i=j
 ·subst q;rw[hi] at h1;cases h1;by_cases hl:i<st.length
  ·refine⟨v,hx,?_⟩;have e1:zr (ρ.set i d) i=d:=by rw[zat,if_pos ⟨rfl,hlen▸hl⟩]
   have e2:VS.at (st.set i .f) i=.f:=by rw[VS.at_set,if_pos ⟨rfl,hl⟩]
   rw[e1,e2,if_neg (by trivial)];exact rv.move (fun a o p e=>⟨p,B.keepO a o (hP a p) e⟩) (fun a o p e=>⟨p,B.keepO a o (hP a p) e⟩)
  ·rw[VS.at_set,if_neg (by simp[hl])] at h3;exact absurd (by unfold VS.at;rw[List.getD_eq_getElem?_getD,List.getElem?_eq_none (by exact Nat.not_lt.mp ‹_›)];rfl) h3
 ·have e1:zr (ρ.set i d) j=zr ρ j:=by rw[zat,if_neg (by simp[q])]
  have e2:VS.at (st.set i .f) j=VS.at st j:=by rw[VS.at_set,if_neg (by simp[q])]
  rw[e2] at h3;rw[e1,e2];obtain⟨u,h4,h5⟩:=r j y k' h1 h2 h3;have hne:y≠x:=fun e=>q (ze7 hnd hi (e▸h1));refine⟨u,ho y u hne h4,h5.move (fun a o p e=>?_) (fun a o p e=>⟨p,B.keepO a o (hP a p) e⟩)⟩;split at p
  ·rename_i c;rw[if_pos c];exact⟨p,B.keepO a o (hT a p) e⟩
  ·rename_i c;rw[if_neg c];exact⟨p,B.keepO a o (hP a p) e⟩
end
end Mine
namespace Mine
open PySem PyProof.Rows PySem.Calls
theorem zdn{cx:Cx}{x:Str}{i:Nat}(h:cx.tv? x=some i):∃k,cx.names.lookup x=some k/\(k=.local\/k=.cell)/\cx.var? x=some i:=by
 unfold Cx.tv? at h;split at h
 ·exact⟨_,by assumption,.inl rfl,h⟩
 ·exact⟨_,by assumption,.inr rfl,h⟩
 ·exact nn h
noncomputable def zhx(names:List (Str×NameKind))(st:List VS)(env:Env)(h h':Heap):Prop:=∀(j:Nat) (y:Str) (k:NameKind) (u:Value),VS.at st j=.o->names[j]?=some (y,k)->zF env h y u->zF env h' y u
section
variable{prog:Program}{w:World}{A:Around}{E:Value->Shared->Prop}{s:Shared}{env:Env}{cx:Cx}{st:List VS}{ρ:ze}{T P:Addr->Prop}
set_option tactic.hygienic true in
theorem zb6{x:Str}{i:Nat}{v:Value}{d:D}{Q:Unit->Shared->Prop}(hx:cx.tv? x=some i)(F:zbB cx.names env s.heap)(V:kP prog w env cx.names st ρ T P s.heap)(hnd:(cx.names.map (·.1)).Nodup)(hlen:st.length=ρ.length)
  (hT:∀a,T a->¬Own env a)(hP:∀a,P a->¬Own env a)(rv:zl prog w P P s.heap v d)
  (h:∀h' tk,Bnd cx.names env s.heap h'->zbB cx.names env h'->kP prog w env cx.names (st.set i .f) (ρ.set i d) T P h'->zhx cx.names (st.set i .f) env s.heap h'->Q () {s with heap:=h',toks:=tk}):
  wpAny (model prog w) A (storeName env x v) Q E s:=by
 obtain⟨k,h1,h2,h3⟩:=zdn hx;obtain⟨k',h4,_,_⟩:=zak h3;refine zge F h1 h2 fun h' tk B F' hv ho=>h h' tk B F' (V.store hnd hlen h4 B hT hP hv ho rv) fun j y kk u hj hy hu=>ho y u (fun e=>?_) hu
 (replace e:=Eq.symm e;subst e)
 have:=ze7 hnd h4 hy;subst this;rw[VS.at_set] at hj;split at hj
 ·cases hj
 ·rename_i hne;have:¬i<st.length:=fun q=>hne ⟨rfl,q⟩;unfold VS.at at hj;rw[List.getD_eq_getElem?_getD,List.getElem?_eq_none (by exact Nat.not_lt.mp ‹_›)] at hj;cases hj
theorem kf(t:Tg):∀{st:List VS},(zZ st t).length=st.length:=by
 induction t using Tg.casesOn with
 |one i=>intro st;simp[zZ]
 |many is=>
  induction is with
  |nil=>intro st;rfl
  |cons i r ih=>intro st;exact(ih (st:=st.set i .f)).trans (by simp)
theorem zdA:∀{is:List Nat} {ds:List D} {ρ ρ':ze},jE ρ is ds=.ok ρ'->ρ'.length=ρ.length
 |[],[],_,_,h=>by(obtain rfl:=okI h;clear h);rfl
 |i::is,d::ds,ρ,ρ',h=>(zdA (ρ:=ρ.set i d) (is:=is) (ds:=ds) h).trans (by simp)
 |[],_::_,_,_,h=>by exact ns h
 |_::_,[],_,_,h=>by exact ns h
theorem zbl{t:Tg}{ρ ρ':ze}{d:D}(h:ja ρ t d=.ok ρ'):ρ'.length=ρ.length:=by
 induction t using Tg.casesOn with
 |one i=>(obtain rfl:=okI h;clear h);simp
 |many is=>induction d using PyData.casesOn with
  |tuple ds=>exact zdA h
  |_=>exact ns h
theorem zdD{is:List Nat}:∀{st:List VS} {j:Nat},VS.at (is.foldl (fun s i=>s.set i .f) st) j=.o->VS.at st j=.o:=by
 induction is with
 |nil=>
  intro _ _ h;exact h
 |cons i r ih=>
  intro st j h;skip;have h1:=ih (st:=st.set i .f) h;rw[VS.at_set] at h1;split at h1
  ·cases h1
  ·exact h1
theorem zhu{es:List Expr}:∀{is:List Nat} {vs:List Value} {ds:List D} {st:List VS} {ρ ρ':ze} {s:Shared} {Q:Unit->Shared->Prop},es.mapM (kt cx)=some is->jE ρ is ds=.ok ρ'->
  zbB cx.names env s.heap->kP prog w env cx.names st ρ T P s.heap->(cx.names.map (·.1)).Nodup->st.length=ρ.length->
  (∀a,T a->¬Own env a)->(∀a,P a->¬Own env a)->zi P s.heap vs ds->
  (∀h' tk,Bnd cx.names env s.heap h'->zbB cx.names env h'->kP prog w env cx.names (is.foldl (fun s i=>s.set i .f) st) ρ' T P h'->zhx cx.names (is.foldl (fun s i=>s.set i .f) st) env s.heap h'->Q () {s with heap:=h',toks:=tk})->
  wpAny (model prog w) A (assignInOrder ((assignEach es env).map (·.2)) vs) Q E s:=by
 induction es with
 |nil=>
  intro is vs ds st ρ ρ' s Q he hv F V hnd hlen hT hP rv h;skip;simp at he;(replace he:=Eq.symm he;subst he);induction ds using List.casesOn with
  |nil=>
   cases rv;(obtain rfl:=Eq.symm (okI hv);clear hv)
   exact wpAny_pure (h s.heap s.toks (Bnd.refl _ _ _) F V fun _ _ _ _ _ _ q=>q)
  |cons=>exact ns hv
 |cons e es ih=>
  intro is vs ds st ρ ρ' s Q he hv F V hnd hlen hT hP rv h;skip;obtain⟨i,js,hi,hr⟩:=mm he;obtain⟨x,hn,hx⟩:=ob hi;obtain⟨p⟩:=j4 hn;induction ds using List.casesOn with
  |nil=>exact ns hv
  |cons d ds=>
   cases rv with
   |cons ra rr=>
    show wpAny (model prog w) A (do holding _ (assign (.Name x p) env _);assignInOrder ((assignEach es env).map (·.2)) _) Q E s;refine wpAny_bind (wpAny_holding (wpAny_assign_Name (zb6 hx F V hnd hlen hT hP (.rep ra) fun h' tk B F' V' S'=>?_)));exact ih (s:={s with heap:=h',toks:=tk}) hr hv F' V' hnd (by simp[hlen]) hT hP (rr.move fun a o p e=>⟨p,B.keepO a o (hP a p) e⟩) fun h₂ tk₂ B₂ F₂ V₂ S₂=>h h₂ tk₂ (B.trans B₂) F₂ V₂ fun j y k u hj hy hu=>S₂ j y k u hj hy (S' j y k u (zdD hj) hy hu)
theorem zaZ(env:Env):∀{es:List Expr} {is:List Nat},es.mapM (kt cx)=some is->(assignEach es env).length=is.length/\(assignEach es env).findIdx? (·.1)=none
 |[],is,h=>by simp at h;subst h;exact⟨rfl,rfl⟩
 |e::es,is,h=>by
  obtain⟨i,js,hi,hr⟩:=mm h;obtain⟨x,hn,hx⟩:=ob hi;obtain⟨p⟩:=j4 hn;obtain⟨h1,h2⟩:=zaZ env hr;refine⟨by show(assignEach es env).length+1=_;rw[h1];rfl,?_⟩;show List.findIdx? _ ((false,assign (.Name x p) env)::assignEach es env)=none;rw[List.findIdx?_cons,h2];rfl
theorem zbu:∀{is:List Nat} {ds:List D} {ρ ρ':ze},jE ρ is ds=.ok ρ'->is.length=ds.length
 |[],[],_,_,_=>rfl
 |i::is,d::ds,ρ,ρ',h=>by simp[zbu (ρ:=ρ.set i d) (is:=is) (ds:=ds) h]
 |[],_::_,_,_,h=>by exact ns h
 |_::_,[],_,_,h=>by exact ns h
theorem zfq{t:Expr}{tg:Tg}{v:Value}{d:D}{ρ':ze}{Q:Unit->Shared->Prop}(ht:zaA cx t=some tg)(hb:ja ρ tg d=.ok ρ')(hh:A.handled=none)(F:zbB cx.names env s.heap)(V:kP prog w env cx.names st ρ T P s.heap)
  (hnd:(cx.names.map (·.1)).Nodup)(hlen:st.length=ρ.length)(hT:∀a,T a->¬Own env a)(hP:∀a,P a->¬Own env a)(rv:zl prog w P P s.heap v d)
  (h:∀h' tk,Bnd cx.names env s.heap h'->zbB cx.names env h'->kP prog w env cx.names (zZ st tg) ρ' T P h'->zhx cx.names (zZ st tg) env s.heap h'->Q () {s with heap:=h',toks:=tk}):
  wpAny (model prog w) A (assign t env v) Q E s:=by
 cases zrG ht with
 |one hx=>(obtain rfl:=okI hb;clear hb);exact wpAny_assign_Name (zb6 hx F V hnd hlen hT hP rv h)
 |many hx=>
  induction d using PyData.casesOn with
  |tuple ds=>
   obtain⟨a,o,vs,n,rfl,pa,ho,hc,hd,hr,hz⟩:=rv.inv_tuple;obtain⟨h1,h2⟩:=zaZ env hx;refine wpAny_assign_Tuple hh ⟨o,ho,hc,n,hd⟩ (h1.trans ((zbu hb).trans (z8 hr).symm)) h2 fun h' he=>?_;have k:zA s.heap h':=fun b o e=>he b o (Nat.ne_of_lt (Heap.lt_size e)) e;exact zhu (s:={s with heap:=h'}) hx hb (F.keep fun a o _ e=>k a o e) (V.keep k) hnd hlen hT hP (hr.keep k) fun h₂ tk₂ B₂ F₂ V₂ S₂=>h h₂ tk₂ ((Bnd.of_keep k).trans B₂) F₂ V₂ fun j y kk u hj hy hu=>S₂ j y kk u hj hy (hu.keep k)
  |_=>exact ns hb
end
noncomputable def ownsTuple(n:String):Bool:=["enumerate","zip","dict_itemiterator","dict_reverseitemiterator","odict_iterator","itertools.zip_longest","itertools.pairwise"].contains n
section
variable(prog:Program)(w:World)
inductive zoK(A:Around)(T P:Addr->Prop)(h₀ h:Heap)(v:Value)(ds:List D):Prop
 |mk(I:Addr)(fp:List Addr)(PV:Nat->Value->Prop)(St:Nat->Heap->Prop)(e:v=.ref I)(n:h₀.get? I=none)(W:Walks prog w A I fp [I] ds.length PV St)(st:St 0 h)(hfp:∀b∈fp,b≠I->T b/\∃o,h₀.get? b=some o)
  (hPV:∀i u,i<ds.length->PV i u->∃d,ds[i]?=some d/\Rep P h₀ u d)(hcls:∀i h',St i h'->∃o n,h'.get? I=some o/\o.cls=.type n/\ownsTuple n=false/\¬NF o)
end
theorem zfW{h h':Heap}{I a:Addr}{oI:Obj}(hk:∀b o,b≠I->h.get? b=some o->h'.get? b=some o)(hI:h'.get? I=some oI)(e:h'.get? a=none):h.get? a=none:=by
 cases q:h.get? a with
 |none=>rfl
 |some o=>exact sn ((hk a o (fun z=>sn (hI.symm.trans (z▸e))) q).symm.trans e)
theorem zeR{h h':Heap}{I a:Addr}(hk:∀b o,b≠I->h.get? b=some o->h'.get? b=some o)(hne:a≠I)(e:h'.get? a=none):h.get? a=none:=by
 cases q:h.get? a with
 |none=>rfl
 |some o=>exact sn ((hk a o hne q).symm.trans e)
theorem zlf{h h':Heap}{I:Addr}{oI:Obj}(hI:h.get? I=some oI)(hn:¬NF oI)(hk:∀b o,b≠I->h.get? b=some o->h'.get? b=some o):ANF h h':=fun a o e nf=>
 ⟨o,hk a o (fun z=>hn (soI (hI.symm.trans (z▸e))▸nf)) e,nf⟩
theorem zeq{h h':Heap}{I:Addr}(hk:∀b o,b∉[I]->h.get? b=some o->h'.get? b=some o)(b:Addr)(o:Obj)(hne:b≠I)(e:h.get? b=some o):h'.get? b=some o:=hk b o (fun q=>hne (List.mem_singleton.mp q)) e
theorem zhG{α:Type}{ds:List α}{j:Nat}{d:α}(hd:ds[j]?=some d):ds.drop j=d::ds.drop (j+1):=by
 obtain⟨h1,h2⟩:=List.getElem?_eq_some_iff.mp hd;rw[←h2];exact List.drop_eq_getElem_cons h1
theorem ziF{n j:Nat}(h:j<n):n+1 - (j+1)<n+1 - j:=Nat.sub_lt_sub_left (Nat.lt_succ_of_lt h) (Nat.lt_succ_self j)
section
variable{prog:Program}{w:World}{A:Around}{E:Value->Shared->Prop}{s:Shared}{P T:Addr->Prop}
theorem zib{t:Expr}{I:Addr}{v:Value}{o:Obj}{n:String}{Q:Unit->Shared->Prop}(ho:s.heap.get? I=some o)(hc:o.cls=.type n)(hn:ownsTuple n=false)(h:Q () s):
  wpAny (model prog w) A (letOwnedTupleGo t (.ref I) v) Q E s:=by
 have key:∀a:Addr,wpAny (model prog w) A (do
   let o ←load I
   match o.cls,o.data with
   |.type n,.fields vs=>
    if["enumerate","zip","dict_itemiterator","dict_reverseitemiterator","odict_iterator","itertools.zip_longest","itertools.pairwise"].contains n&&vs[0]?==some (rawInt a) then do
     rule "for.unpacks-the-owned-tuple"
     updateField I 0 .none
    else pure ()
   |_,_=>pure ()) Q E s:=fun a=>by
  refine wpAny_bind (wpAny_load ho ?_);rw[hc];cases o.data with
  |fields vs=>
   have hn':(["enumerate","zip","dict_itemiterator","dict_reverseitemiterator","odict_iterator","itertools.zip_longest","itertools.pairwise"].contains n&&vs[0]?==some (rawInt a))=false:=by
    have:["enumerate","zip","dict_itemiterator","dict_reverseitemiterator","odict_iterator","itertools.zip_longest","itertools.pairwise"].contains n=false:=hn
    rw[this];rfl
   simp only[hn'];exact wpAny_pure h
  |_=>exact wpAny_pure h
 induction t using PySem.Expr.casesOn with
 |Tuple es c p=>induction v using PySem.Value.casesOn with
  |ref a=>exact key a
  |_=>exact wpAny_pure h
 |List es p=>induction v using PySem.Value.casesOn with
  |ref a=>exact key a
  |_=>exact wpAny_pure h
 |_=>exact wpAny_pure h
theorem kU(h:Heap):h.get? h.objs.size=none:=Heap.get?_none_of_le (Nat.le_refl _)
theorem zdY{h:Heap}{a:Addr}{o:Obj}(e:h.get? a=some o):a≠h.objs.size:=Nat.ne_of_lt (Heap.lt_size e)
end
end Mine
namespace Mine
open PySem PyProof.Rows PySem.Calls
theorem zi.get'{P:Addr->Prop}{h:Heap}{vs:List Value}:∀{ds:List D},zi P h vs ds->∀{i:Nat} {v:Value},vs[i]?=some v->∃d,ds[i]?=some d/\Rep P h v d:=by
 induction vs with
 |nil=>intro ds r i v e;exact nn e
 |cons w vs ih=>
  intro ds r i v e;cases r with
  |@cons _ _ d _ a r=>induction i using Nat.casesOn with
   |zero=>(obtain rfl:=soI e;clear e);exact⟨d,rfl,a⟩
   |succ i=>exact ih r e
section
variable{prog:Program}{w:World}{A:Around}{E:Value->Shared->Prop}{s:Shared}{P T:Addr->Prop}
theorem zl.inv_listT(hPT:∀a,P a->T a){h:Heap}{v:Value}{xs:List D}(r:zl prog w T P h v (.list xs)):∃(a:Addr) (o:Obj) (vs:Array Value) (n:Nat),v=.ref a/\T a/\h.get? a=some o/\o.cls=.type "list"/\o.dict=none/\o.data=.seq vs n/\zi P h vs.toList xs/\xs.length<=zp:=by
 cases r with
 |rep r=>cases r with|list p ho hc hd hda hr hz=>exact⟨_,_,_,_,rfl,hPT _ p,ho,hc,hd,hda,hr,hz⟩
 |list t ho hc hd hda hr hz=>exact⟨_,_,_,_,rfl,t,ho,hc,hd,hda,hr,hz⟩
theorem zl.inv_dictT{h:Heap}{v:Value}{kvs:List (D×D)}(r:zl prog w T P h v (.dict kvs)):∃a,v=.ref a/\T a/\zu prog w P h a kvs:=by
 cases r with
 |rep r=>cases r
 |dict t r=>exact⟨_,rfl,t,r⟩
theorem KVs.getKey{h:Heap}{l:List (Int×Value)}{kvs:List (D×D)}(r:KVs P h PyData.int l kvs):∀{i:Nat} {k:Int} {x:Value},l[i]?=some (k,x)->(kvs.map (·.1))[i]?=some (.int k):=by
 induction r with
 |nil=>intro i k x e;exact nn e
 |cons a r ih=>
  intro i k x e;induction i using Nat.casesOn with
  |zero=>cases e;rfl
  |succ i=>exact ih e
theorem KVs.len{h:Heap}{l:List (Int×Value)}{kvs:List (D×D)}(r:KVs P h PyData.int l kvs):l.length=kvs.length:=by
 induction r with
 |nil=>rfl
 |cons a r ih=>exact congrArg (·+1) ih
theorem zjk{d:D}{i:Int}(h:zgB d=true):zE d (.int i)=true:=by
 induction d using PyData.casesOn with
 |int=>rfl
 |_=>exact ff h
theorem zgX{b I a:Addr}(hb:b∈[I,a])(hne:b≠I):b=a:=(List.mem_cons.mp hb).elim (fun q=>absurd q hne) fun q=>List.mem_singleton.mp q
theorem zjw{v:Value}{d:D}{ds:List D}{Q:Value->Shared->Prop}(hh:A.handled=none)(hPT:∀a,P a->T a)(r:zl prog w T P s.heap v d)(hi:zG false d=.ok ds)
  (h:∀it h',zA s.heap h'->zoK prog w A T P s.heap h' it ds->Q it {s with heap:=h'}):wpAny (model prog w) A (pyIter v) Q E s:=by
 induction d using PyData.casesOn with
 |list xs=>
  (obtain rfl:=Eq.symm (okI hi);clear hi)
  (obtain⟨a,o,vs,n,zr1,ta,ho,hc,hd,hda,hr,hz⟩:=r.inv_listT hPT;replace zr1:=Eq.symm zr1;subst zr1)
  have hl:s.heap.IsList a vs:=⟨o,ho,hc,n,hda⟩;have hne:=zdY ho;refine wpAny_pyIter_list hl (h _ _ (zA.push _ _) ⟨_,[s.heap.objs.size,a],_,_,rfl,kU _,(z8 hr)▸Walks.list hh s.heap.objs.size a hne vs,⟨⟨_,Heap.get?_push_size _ rfl,rfl,rfl⟩,⟨o,Heap.get?_push_of_some _ ho,hc,n,hda⟩⟩,?_,?_,?_⟩)
  ·exact fun b hb hne'=>zgX hb hne'▸⟨ta,o,ho⟩
  ·intro i u _ hu;exact hr.get' (by simpa using hu)
  ·rintro i h' ⟨⟨ob,h1,h2,h3⟩,_⟩;exact⟨ob,_,h1,h2,by decide +kernel,fun q=>q _ h3⟩
 |tuple xs=>
  (obtain rfl:=Eq.symm (okI hi);clear hi)
  (obtain⟨a,o,vs,n,zr2,pa,ho,hc,hda,hr,hz⟩:=r.inv_tuple;replace zr2:=Eq.symm zr2;subst zr2)
  have hl:s.heap.IsTuple a vs:=⟨o,ho,hc,n,hda⟩;have hne:=zdY ho;refine wpAny_pyIter_tuple hl (h _ _ (zA.push _ _) ⟨_,[s.heap.objs.size,a],_,_,rfl,kU _,(z8 hr)▸Walks.tuple hh s.heap.objs.size a hne vs,⟨⟨_,Heap.get?_push_size _ rfl,rfl,rfl⟩,⟨o,Heap.get?_push_of_some _ ho,hc,n,hda⟩⟩,?_,?_,?_⟩)
  ·exact fun b hb hne'=>zgX hb hne'▸⟨hPT _ pa,o,ho⟩
  ·intro i u _ hu;exact hr.get' (by simpa using hu)
  ·rintro i h' ⟨⟨ob,h1,h2,h3⟩,_⟩;exact⟨ob,_,h1,h2,by decide +kernel,fun q=>q _ h3⟩
 |str x=>
  (obtain rfl:=Eq.symm (okI hi);clear hi)
  (obtain⟨t,zr3,hok,hz⟩:=r.inv_str;replace zr3:=Eq.symm zr3;subst zr3)
  have hlen:x.cps.size=(x.cps.toList.map fun c=>PyData.str ⟨#[c]⟩).length:=by simp
  have key:∀(ty:String) (hty:ownsTuple ty=false) (W:Walks prog w A s.heap.objs.size [s.heap.objs.size] [s.heap.objs.size] x.cps.size (SignAt x) (fun i h=>h.IsStrIter s.heap.objs.size ty x t i)),
    zoK prog w A T P s.heap (s.heap.push {cls:=.type ty,data:=.fields #[.str x t,.int 0 0]}) (.ref s.heap.objs.size) (x.cps.toList.map fun c=>.str ⟨#[c]⟩):=fun ty hty W=>
   ⟨_,_,_,_,rfl,kU _,hlen▸W,⟨_,Heap.get?_push_size _ rfl,rfl,rfl⟩,fun b hb hne'=>by simp at hb;exact absurd hb hne',fun i u _ hu=>by
     (obtain⟨c,t',h1,zr4⟩:=hu;replace zr4:=Eq.symm zr4;subst zr4)
     refine⟨.str ⟨#[c]⟩,by simp[h1],.str _ _ ?_ (by show(1:Nat)<=zp;decide)⟩;have:=zaj.mp hok;rw[zaj];intro e he;have hm:c∈x.cps.toList:=Array.mem_toList_iff.mpr (Array.mem_of_getElem? h1);simp at he;(replace he:=Eq.symm he;subst he);exact this _ hm,
    fun i h' hs=>by obtain⟨ob,h1,h2,h3⟩:=hs;exact⟨ob,_,h1,h2,hty,fun q=>q _ h3⟩⟩
  cases ha:x.cps.all (·<128)
  ·exact wpAny_pyIter_wide ha (h _ _ (zA.push _ _) (key _ (by decide +kernel) (Walks.strWide hh _ x t)))
  ·exact wpAny_pyIter_ascii ha (h _ _ (zA.push _ _) (key _ (by decide +kernel) (Walks.strAscii hh _ x t)))
 |dict kvs=>
  obtain⟨hall,hi'⟩:=ifS hi
  ·(obtain rfl:=Eq.symm (okI hi');clear hi')
   (obtain⟨a,zr5,ta,hd⟩:=r.inv_dictT;replace zr5:=Eq.symm zr5;subst zr5)
   obtain⟨l,m,q⟩:=hd.int (i:=0) (List.all_eq_true.mpr fun kv hkv=>zjk (List.all_eq_true.mp hall kv hkv));obtain⟨ep,hat⟩:=m.dictAt;obtain⟨o,es,ho,_⟩:=id hat;have hne:=zdY ho;have hl:l.length=(kvs.map (·.1)).length:=by rw[q.len];simp
   have W':Walks prog w A s.heap.objs.size [s.heap.objs.size,a] [s.heap.objs.size] (kvs.map (·.1)).length (fun i v=>∃k x,l[i]?=some (k,x)/\(intKind prog w).is k v=true) (fun i h=>h.IsKeyIter s.heap.objs.size a i l.length ep/\h.DictAt (intKind prog w) a l ep):=by
    rw[←hl];exact Walks.dictKeys hh s.heap.objs.size a hne l ep
   refine wpAny_pyIter_dict hd.1 hat (h _ _ (zA.push _ _) ⟨_,[s.heap.objs.size,a],_,_,rfl,kU _,W',⟨⟨_,Heap.get?_push_size _ rfl,rfl,rfl⟩,hat.at' fun o e=>Heap.get?_push_of_some _ e⟩,?_,?_,?_⟩)
   ·exact fun b hb hne'=>zgX hb hne'▸⟨ta,o,ho⟩
   ·rintro i u _ ⟨k,x,h1,h2⟩
    (obtain⟨t,zr6⟩:=Value.isInt_shape h2;replace zr6:=Eq.symm zr6;subst zr6)
    exact⟨_,q.getKey h1,.int _ _⟩
   ·rintro i h' ⟨⟨ob,h1,h2,h3⟩,_⟩;exact⟨ob,_,h1,h2,by decide +kernel,fun q=>q _ h3⟩
 |_=>exact ns hi
theorem zjL{T':Addr->Prop}{v:Value}{d:D}{ds:List D}{Q:Value->Shared->Prop}(hh:A.handled=none)(r:zl prog w T P s.heap v d)(hi:zG true d=.ok ds)
  (h:∀it h' tk,zA s.heap h'->zoK prog w A T' P s.heap h' it ds->Q it {s with heap:=h',toks:=tk}):wpAny (model prog w) A (call (.type "range") [v]) (fun x s₁=>wpAny (model prog w) A (pyIter x) Q E s₁) E s:=by
 induction d using PyData.casesOn with
 |int i=>
  obtain⟨hz,hi'⟩:=ifS hi
  ·(obtain rfl:=okI hi';clear hi')
   obtain⟨t,rfl⟩:=r.inv_int;refine call_range_1 ?_;have hz':zp=1048576:=by decide
   refine wpAny_pyIter_range (IsRange.new _ _ _ _ _ _ _) (small_one (by decide) (by decide) (by lia) (by lia)) (h _ _ _ ((zA.push _ _).trans (zA.push _ _)) ?_);obtain⟨hz1,hz2⟩:=hz;generalize hh1:s.heap.push _=h1;have hsz:h1.objs.size=s.heap.objs.size+1:=by rw[←hh1,Heap.size_push]
   have hnone:s.heap.get? h1.objs.size=none:=Heap.get?_none_of_le (by lia);have W:Walks prog w A h1.objs.size [h1.objs.size] [h1.objs.size] ((List.range i.toNat).map fun(k:Nat)=>PyData.int k).length (fun i v=>∃t,v=.int (0+i*1) t) (fun j h=>IsRangeIter h h1.objs.size (0+(j:Nat)*1) ((i.toNat:Int) - (j:Nat)) 1):=by
    rw[show((List.range i.toNat).map fun(k:Nat)=>PyData.int k).length=i.toNat by simp];exact Walks.range hh h1.objs.size 0 1 i.toNat
   refine⟨_,[h1.objs.size],_,_,rfl,hnone,W,?_,fun b hb hne'=>by simp at hb;exact absurd hb hne',?_,?_⟩
   ·have e:((i.toNat:Nat):Int) - ((0:Nat):Int)=Builtin.Range.rangeSize 0 i 1:=by rw[rangeSize_one];split<;>lia
    show IsRangeIter _ _ _ _ _;rw[e];exact Heap.get?_push_size _ rfl
   ·rintro j u hj ⟨t',rfl⟩;have hj':j<i.toNat:=by simpa using hj
    refine⟨.int j,by simp[hj'],?_⟩;have e:(0+(j:Int)*1)=j:=by lia
    rw[e];exact .int _ _
   ·rintro j h' hs;exact⟨_,"range_iterator",hs,rfl,by decide +kernel,fun q=>q _ rfl⟩
 |_=>exact ns hi
end
end Mine
namespace Mine
open PySem PyProof.Rows PySem.Calls
theorem zed{rg:Bool}{d:D}(h:zG rg d=.ve):False:=by
 induction rg using Bool.casesOn with
 |true=>exact jA (fun _=>jk nvO nvS) h
 |false=>induction d using PyData.casesOn with
  |dict kvs=>exact jk nvO nvS h
  |_=>cases h
section
variable(prog:Program)(w:World)(zc:Heap)(G:List D)(cf:Nat->List D->R D)(n:Nat)
noncomputable def zlN(names:List (Str×NameKind))(st:List VS)(b:Bool)(env:Env)(iter:Expr)(rg:Bool)(it:PE):Prop:=
 ∀(P:Addr->Prop) (A:Around) (fs:List Env) (s:Shared) (ρ:ze) (Q E:Value->Shared->Prop),EC zc P A fs n env s.heap->VOK prog w env names st ρ P s.heap->
  (∀ds v s' h₀,R.bind (ev G cf it ρ) (zG rg)=.ok ds->Ch s s'->zA s.heap h₀->zA h₀ s'.heap->zoK prog w A (zpo b P) P h₀ s'.heap v ds->Q v s')->
  (ev G cf it ρ=.ve->∀x s',za6 fs s x s'->E x s')->R.bind (ev G cf it ρ) (zG rg)≠.stuck->
  wpAny (model prog w) A (eval iter env) (fun x s₁=>wpAny (model prog w) A (pyIter x) Q E s₁) E s
end
section
variable{prog:Program}{w:World}{zc:Heap}{G:List D}{cf:Nat->List D->R D}{n:Nat}{names:List (Str×NameKind)}{st:List VS}{b:Bool}{env:Env}{F:List zH}{K:List (Str×D)}{mg mb:Str->Option Value}
theorem zq7{P:Addr->Prop}:∀a,P a->zpo b P a:=fun a p=>by cases b<;>first|exact p|trivial
theorem znL{iter:Expr}{it:PE}(h:zt prog w zc G cf n names st b env (eval iter env) it):zlN prog w zc G cf n names st b env iter false it:=by
 intro P A fs s ρ Q E ec vo hok hve hns;refine h P A fs s ρ _ E ec vo (fun d v s₁ hd c1 r1=>?_) hve (fun e=>hns (by rw[e];rfl));rw[hd] at hok hns;simp only[R.bind_ok] at hok hns;cases hi:zG false d with
 |ok ds=>exact zjw ec.handled zq7 r1 hi fun it h' k I=>hok ds it _ s₁.heap hi (c1.trans (Ch.of _ k)) c1.keep k I
 |ve=>exact(zed hi).elim
 |stuck=>exact absurd hi hns
theorem zl9(B:kH F K mg mb zc){cx:Cx}(hL:Lnk cx env){f:Str}(hf:cx.isB f "range"=true){x:Expr}{p pos:Pos}{it:PE}(hx:zy x)(h:zt prog w zc G cf n names st true env (eval x env) it):
  zlN prog w zc G cf n names st b env (.Call (.Name f p) [x] [] pos) true it:=by
 intro P A fs s ρ Q E ec vo hok hve hns;refine zcL B hL hf zjH mem_range (.inr ⟨_,rfl⟩) ec.stays ec.kind ec.globals ec.builtins hx ?_;refine h P A fs s ρ _ E ec vo (fun d v s₁ hd c1 r1=>?_) hve (fun e=>hns (by rw[e];rfl));rw[hd] at hok hns;simp only[R.bind_ok] at hok hns;cases hi:zG true d with
 |ok ds=>exact zjL (T:=zpo true P) (P:=P) ec.handled r1 hi fun it h' tk k I=>hok ds it _ s₁.heap hi (c1.trans (Ch.of _ k)) c1.keep k I
 |ve=>exact(zed hi).elim
 |stuck=>exact absurd hi hns
end
theorem zgF{elt target iter:Expr}{gens:List Comprehension}{ifs:List Expr}{scope:Scope}{pos:Pos}{it acc:Value}{env:Env}{k:Nat}(hg:gens[k]?=some ⟨target,iter,ifs,0⟩):
  compTurn (.ListComp elt gens scope pos) k it acc env=(do
   standAt iter.pos
   match ←pyNext it with
   |none=>pure (.done .next)
   |some v=>
    letOwnedTupleGo target it v
    assign target env v
    let mut ok:=true
    for c in ifs do
     if ok then ok ←isTrue c env (eval c env)
    if ok then
     match gens[k+1]? with
     |some g'=>
      let x ←eval g'.iter env
      standAt g'.iter.pos
      let x ←if g'.is_async != 0 then foldedIterable g'.iter x else foldedSetIterable g'.iter env x
      let _ ←runOwn (.compStart (.ListComp elt gens scope pos) (k+1) (←holding [x] (if g'.is_async != 0 then asyncIter x else pyIter x)) acc env) env
     |none=>(do let _ ←call (.builtin "list.append") [acc,←eval elt env])
    again (.compLoop (.ListComp elt gens scope pos) k it acc env)):=by
 unfold compTurn;simp only[hg];rfl
section
variable{M:Model}{A:Around}{E:Value->Shared->Prop}{s:Shared}{env:Env}
noncomputable def zhS(M:Model)(A:Around)(elt:Expr)(gens:List Comprehension)(scope:Scope)(pos:Pos)(k:Nat)(acc:Value)(env:Env)(Q:Shared->Prop)(E:Value->Shared->Prop)(s:Shared):Prop:=
 match gens[k+1]? with
 |some g'=>g'.is_async=0/\(∀x,foldedSetIterable g'.iter env x=pure x)/\wpAny M A (eval g'.iter env) (fun x s₅=>wpAny M A (pyIter x) (fun it' s₆=>
   codeAny M A (.compStart (.ListComp elt gens scope pos) (k+1) it' acc env) (fun r s₇=>match r with|.ok _=>Q s₇|.error e=>cameBackBy M A env E e s₇) s₆) E s₅) E s
 |none=>wpAny M A (eval elt env) (fun x s₅=>wpAny M A (call (.builtin "list.append") [acc,x]) (fun _ s₆=>Q s₆) E s₅) E s
noncomputable def zgW(ifs:List Expr)(env:Env):Sem Bool:=
 forIn ifs true fun c r=>if r=true then do let ok ←isTrue c env (eval c env);pure (ForInStep.yield ok) else pure (ForInStep.yield r)
theorem zhm{elt target iter:Expr}{gens:List Comprehension}{ifs:List Expr}{scope:Scope}{pos:Pos}{it acc:Value}{k:Nat}{Q:Fin->Shared->Prop}(hg:gens[k]?=some ⟨target,iter,ifs,0⟩)
  (h:wpAny M A (pyNext it) (fun r s₁=>match r with
   |none=>Q (.done .next) s₁
   |some v=>wpAny M A (letOwnedTupleGo target it v) (fun _ s₂=>wpAny M A (assign target env v) (fun _ s₃=>wpAny M A (zgW ifs env) (fun ok s₄=>
     if ok=true then zhS M A elt gens scope pos k acc env (Q (.again (.compLoop (.ListComp elt gens scope pos) k it acc env))) E s₄
     else Q (.again (.compLoop (.ListComp elt gens scope pos) k it acc env)) s₄) E s₃) E s₂) E s₁) E s):
  wpAny M A (compTurn (.ListComp elt gens scope pos) k it acc env) Q E s:=by
 rw[zgF hg];refine wpAny_bind (wpAny_standAt (wpAny_bind (wpAny_mono h (fun r s₁ h₁=>?_) fun _ _ h'=>h')));induction r using Option.casesOn with
 |none=>exact wpAny_pure h₁
 |some v=>
  refine wpAny_bind (wpAny_mono h₁ (fun _ s₂ h₂=>wpAny_bind (wpAny_mono h₂ (fun _ s₃ h₃=>wpAny_bind (wpAny_mono h₃ (fun ok s₄ h₄=>?_) fun _ _ h'=>h')) fun _ _ h'=>h')) fun _ _ h'=>h');induction ok using Bool.casesOn with
  |false=>exact wpAny_pure h₄
  |true=>
   unfold zhS at h₄;cases hk:gens[k+1]? with
   |none=>
    rw[hk] at h₄;exact wpAny_bind (wpAny_bind (wpAny_mono h₄ (fun _ s₅ h₅=>wpAny_bind (wpAny_mono h₅ (fun _ s₆ h₆=>wpAny_pure (wpAny_pure h₆)) fun _ _ h'=>h')) fun _ _ h'=>h'))
   |some g'=>
    rw[hk] at h₄;obtain⟨ha,hs,h₄⟩:=h₄;have ha':(g'.is_async != 0)=false:=by rw[ha];rfl
    simp only[ha',Bool.false_eq_true,if_false];refine wpAny_bind (wpAny_mono h₄ (fun x s₅ h₅=>wpAny_bind (wpAny_standAt (wpAny_bind (wpAny_of_eq (hs x) (wpAny_bind (wpAny_holding (wpAny_mono h₅ (fun it' s₆ h₆=>?_) fun _ _ h'=>h'))))))) fun _ _ h'=>h');exact wpAny_bind (wpAny_runOwn (codeAny_mono h₆ fun r s' hr=>by
     induction r using Except.casesOn with
     |ok f=>exact wpAny_pure hr
     |error e=>exact hr))
theorem zfy{prog:Program}{w:World}{R:Result->Shared->Prop}{elt target iter:Expr}{gens:List Comprehension}{ifs:List Expr}{scope:Scope}{pos:Pos}{it acc:Value}{k:Nat}(hg:gens[k]?=some ⟨target,iter,ifs,0⟩)
  (h0:codeAny (model prog w) A (.compLoop (.ListComp elt gens scope pos) k it acc env) R s)
  (h:wpAny (model prog w) A (pyIter it) (fun it' s'=>codeAny (model prog w) A (.compLoop (.ListComp elt gens scope pos) k it' acc env) R s')
   (notedBy (model prog w) A env fun x s'=>R (.error x) s') s):
  codeAny (model prog w) A (.compStart (.ListComp elt gens scope pos) k it acc env) R s:=by
 refine codeAny_of_tree ?_;show wpAny _ _ ((compStart (.ListComp elt gens scope pos) k it acc env).onRaise (fun x=>do noteFrame x env;standAt theWindowsPlace)) _ _ s;refine wpAny_notedAt ?_;unfold compStart;simp only[show clausesOf (.ListComp elt gens scope pos)=gens from rfl,hg];refine wpAny_bind (wpAny_askSetting (wpAny_ite ?_));split
 ·exact wpAny_bind (wpAny_pure (wpAny_pure (And.intro rfl h0)))
 ·exact wpAny_bind (wpAny_rule (wpAny_bind (wpAny_standAt (wpAny_bind (wpAny_mono h (fun it' s' h'=>wpAny_pure (And.intro rfl h')) fun _ _ x=>x)))))
end
end Mine
namespace Mine
open PySem PyProof.Rows PySem.Calls
section
variable(prog:Program)(w:World)(zc:Heap)(n:Nat)
structure CSt(cx:Cx)(env:Env)(D:Addr)(T P:Addr->Prop)(A:Around)(fs:List Env)(st:List VS)(σ:ze)(ys:List PyData)(s:Shared):Prop where
 ec:EC zc P A fs n env s.heap
 fram:zbB cx.names env s.heap
 vok:kP prog w env cx.names st σ T P s.heap
 acc:∃vs,s.heap.PlainList D vs/\zi P s.heap vs.toList ys
 len:st.length=σ.length
 pD:¬P D
 tD:¬T D
 oD:¬Own env D
 tO:∀a,T a->¬Own env a
structure CCh(names:List (Str×NameKind))(env:Env)(D:Addr)(s s':Shared):Prop where
 keep:∀a o,a≠D->¬Mut names env a->s.heap.get? a=some o->s'.heap.get? a=some o
 alloc:jF s.heap s'.heap
 os:s'.os=s.os
 gens:AllBare s.gens->AllBare s'.gens
end
theorem CCh.refl(names:List (Str×NameKind))(env:Env)(D:Addr)(s:Shared):CCh names env D s s:=⟨fun _ _ _ _ e=>e,jF.refl _,rfl,id⟩
theorem CCh.trans{names:List (Str×NameKind)}{env:Env}{D:Addr}{s s' s₂:Shared}(x:CCh names env D s s')(y:CCh names env D s' s₂):CCh names env D s s₂:=
 ⟨fun a o h1 h2 e=>y.keep a o h1 h2 (x.keep a o h1 h2 e),x.alloc.trans y.alloc,y.os.trans x.os,fun g=>y.gens (x.gens g)⟩
theorem CCh.of_ch{names:List (Str×NameKind)}{env:Env}{D:Addr}{s s':Shared}(x:Ch s s'):CCh names env D s s':=⟨fun a o _ _ e=>x.keep a o e,.of_keep x.keep,x.os,x.gens⟩
section
variable{prog:Program}{w:World}{zc:Heap}{n:Nat}{cx:Cx}{env:Env}{D:Addr}{T P:Addr->Prop}{A:Around}{fs:List Env}{st:List VS}{σ:ze}{ys:List PyData}{s s':Shared}
theorem CSt.vok'(c:CSt prog w zc n cx env D T P A fs st σ ys s):VOK prog w env cx.names st σ P s.heap:=c.vok.vok c.tO
theorem CSt.ch(c:CSt prog w zc n cx env D T P A fs st σ ys s)(x:Ch s s'):CSt prog w zc n cx env D T P A fs st σ ys s':=
 {c with ec:=c.ec.keep x.keep,fram:=c.fram.keep fun a o _ e=>x.keep a o e,vok:=c.vok.keep x.keep,acc:=let ⟨vs,h1,h2⟩:=c.acc;⟨vs,h1.at fun o e=>x.keep _ o e,h2.keep x.keep⟩}
theorem CSt.push{v:Value}{d:PyData}(c:CSt prog w zc n cx env D T P A fs st σ ys s)(r:Rep P s.heap v d){h':Heap}{vs:Array Value}(h0:s.heap.PlainList D vs)(hr:zi P s.heap vs.toList ys)(h1:h'.PlainList D (vs.push v))(h2:Heap.SameBut D s.heap h'):
  CSt prog w zc n cx env D T P A fs st σ (ys++[d]) {s with heap:=h'}/\CCh cx.names env D s {s with heap:=h'}:=by
 have kp:∀a o,a≠D->s.heap.get? a=some o->h'.get? a=some o:=fun a o hn e=>h2.extBut a o hn e;have mP:∀a o,P a->s.heap.get? a=some o->P a/\h'.get? a=some o:=fun a o p e=>⟨p,kp a o (fun q=>c.pD (q▸p)) e⟩;have al:jF s.heap h':=fun a o e=>by
  by_cases q:a=D
  ·obtain⟨m,hm⟩:=h1;exact⟨_,q▸hm,fun _ vs q=>by cases q⟩
  ·exact⟨o,kp a o q e,id⟩
 refine⟨{c with ec:=c.ec.change mP al.nf c.ec.own c.ec.nofr (c.ec.pnew.alloc al),fram:=c.fram.keep fun a o hO e=>kp a o (fun q=>c.oD (q▸hO.own)) e,vok:=c.vok.move (fun x u hv=>?_) (fun a o t e=>⟨t,kp a o (fun q=>c.tD (q▸t)) e⟩) mP,acc:=⟨_,h1,?_⟩},⟨fun a o h1 _ e=>kp a o h1 e,al,rfl,id⟩⟩
 ·induction hv using zF.casesOn with
  |loc m a b d=>exact .loc m a (b.at' fun o e=>kp _ o (fun q=>c.oD (.inl q.symm)) e) d
  |cell c' a b d=>obtain⟨ob,h3,h4⟩:=d;exact .cell c' a b ⟨ob,kp c' ob (fun q=>c.oD (.inr ⟨x,q▸b⟩)) h3,h4⟩
 ·simpa using (hr.move mP).append (.one (r.move mP))
end
end Mine
namespace Mine
open PySem PyProof.Rows PySem.Calls
section
variable{prog:Program}{w:World}{zc:Heap}{n:Nat}{cx:Cx}{env:Env}{D:Addr}{T P:Addr->Prop}{A:Around}{fs:List Env}{st:List VS}{σ:ze}{ys:List PyData}{s s':Shared}
theorem CSt.enter{I:Addr}(c:CSt prog w zc n cx env D T P A fs st σ ys s)(x:Ch s s')(hI:s.heap.get? I=none)(hI':∃o,s'.heap.get? I=some o):
  CSt prog w zc n cx env D (fun a=>T a/\a≠I) (fun a=>P a/\a≠I) A fs st σ ys s':=by
 have ne:∀a o,s.heap.get? a=some o->a≠I:=fun a o e q=>by rw[q,hI] at e;exact nn e
 have mP:∀a o,P a->s.heap.get? a=some o->(P a/\a≠I)/\s'.heap.get? a=some o:=fun a o p e=>⟨⟨p,ne a o e⟩,x.keep a o e⟩;have pn:km (fun a=>P a/\a≠I) s'.heap:=fun a e=>⟨(c.ec.pnew.keep x.keep) a e,fun q=>by
  obtain⟨o,ho⟩:=hI';rw[q,ho] at e;exact sn e⟩
 exact⟨c.ec.change mP (jF.of_keep x.keep).nf (fun a p=>c.ec.own a p.1) (fun a p=>c.ec.nofr a p.1) pn,c.fram.keep fun a o _ e=>x.keep a o e,c.vok.move (fun _ _ q=>q.keep x.keep) (fun a o t e=>⟨⟨t,ne a o e⟩,x.keep a o e⟩) mP,
  (let ⟨vs,h1,h2⟩:=c.acc;⟨vs,h1.at fun o e=>x.keep _ o e,h2.move mP⟩),c.len,fun q=>c.pD q.1,fun q=>c.tD q.1,c.oD,fun a t=>c.tO a t.1⟩
theorem CSt.move{s':Shared}{P' T':Addr->Prop}(c:CSt prog w zc n cx env D T P A fs st σ ys s)(mP:∀a o,P a->s.heap.get? a=some o->P' a/\s'.heap.get? a=some o)(mT:∀a o,T a->s.heap.get? a=some o->T' a/\s'.heap.get? a=some o)
  (mO:∀a o,Own env a->s.heap.get? a=some o->s'.heap.get? a=some o)(mD:∀o,s.heap.get? D=some o->s'.heap.get? D=some o)(al:ANF s.heap s'.heap)(pn:km P' s'.heap)
  (hO:∀a,P' a->¬Own env a)(hN:∀a,P' a->a∉frs fs)(tO:∀a,T' a->¬Own env a)(pD:¬P' D)(tD:¬T' D):CSt prog w zc n cx env D T' P' A fs st σ ys s' where
 ec:=c.ec.change mP al hO hN pn
 fram:=c.fram.keep fun a o q e=>mO a o q.own e
 vok:=c.vok.move (fun x u hv=>by
  induction hv using zF.casesOn with
  |loc m a b d=>exact .loc m a (b.at' fun o e=>mO _ o (.inl rfl) e) d
  |cell c' a b d=>obtain⟨ob,h3,h4⟩:=d;exact .cell c' a b ⟨ob,mO c' ob (.inr ⟨x,b⟩) h3,h4⟩) mT mP
 acc:=let ⟨vs,h1,h2⟩:=c.acc;⟨vs,h1.at mD,h2.move mP⟩
 len:=c.len
 pD:=pD
 tD:=tD
 oD:=c.oD
 tO:=tO
theorem znz{is:List Nat}:∀{st:List VS} {i:Nat},VS.at (is.foldl (fun s i=>s.set i .f) st) i=VS.at st i\/VS.at (is.foldl (fun s i=>s.set i .f) st) i=.f:=by
 induction is with
 |nil=>
  intro _ _;exact .inl rfl
 |cons j r ih=>
  intro st i;skip;have h1:=ih (st:=st.set j .f) (i:=i);simp only[List.foldl_cons];rcases h1 with h1|h1
  ·rw[h1,VS.at_set];split
   ·exact .inr rfl
   ·exact .inl rfl
  ·exact .inr h1
theorem zde{t:Tg}{st:List VS}{i:Nat}:VS.at (zZ st t) i=VS.at st i\/VS.at (zZ st t) i=.f:=by
 induction t using Tg.casesOn with
 |one j=>simp only[zZ];rw[VS.at_set];split<;>simp
 |many is=>exact znz
theorem kP.weak{h:Heap}{t:Tg}{names:List (Str×NameKind)}(hPT:∀a,P a->T a)(v:kP prog w env names (zZ st t) σ T P h):kP prog w env names st σ T P h:=fun i x k h1 h2 h3=>by
 rcases zde (t:=t) (st:=st) (i:=i) with e|e
 ·obtain⟨u,h4,h5⟩:=v i x k h1 h2 (by rw[e];exact h3);rw[e] at h5;exact⟨u,h4,h5⟩
 ·obtain⟨u,h4,h5⟩:=v i x k h1 h2 (by rw[e];trivial);rw[e,if_neg (by trivial)] at h5;refine⟨u,h4,?_⟩;split
  ·exact h5.move (fun a o p e=>⟨hPT a p,e⟩) (fun a o p e=>⟨p,e⟩)
  ·exact h5
end
section
variable(prog:Program)(w:World)(zc:Heap)(G:List D)(cf:Nat->List D->R D)(n:Nat)
noncomputable def zhs(cx:Cx)(env:Env)(L:Addr)(elt:Expr)(gens:List Comprehension)(scope:Scope)(pos:Pos)(k:Nat)(ifs:List Expr)(st:List VS)(g:PG):Prop:=
 ∀(P T:Addr->Prop) (A:Around) (fs:List Env) (s:Shared) (σ σ':ze) (ys zs:List D) (Q:Shared->Prop) (E:Value->Shared->Prop),(∀a,P a->T a)->CSt prog w zc n cx env L T P A fs st σ ys s->evG G cf g σ=.ok (zs,σ')->ys.length+zs.length<=zp->
  (∀s',CSt prog w zc n cx env L T P A fs st σ' (ys++zs) s'->CCh cx.names env L s s'->Q s')->
  wpAny (model prog w) A (zgW ifs env) (fun ok s₄=>if ok=true then zhS (model prog w) A elt gens scope pos k (.ref L) env Q E s₄ else Q s₄) E s
end
section
variable{prog:Program}{w:World}{zc:Heap}{G:List D}{cf:Nat->List D->R D}{n:Nat}{cx:Cx}{env:Env}{L:Addr}
theorem zhV{turn:ze->D->R (List D×ze)}{σ σe:ze}{d:D}{ds zs:List D}(h:jU turn σ (d::ds)=.ok (zs,σe)):
  ∃z1 σ1 z2,turn σ d=.ok (z1,σ1)/\jU turn σ1 ds=.ok (z2,σe)/\zs=z1++z2:=by
 simp only[ztY] at h;cases h1:turn σ d with
 |ok q=>
  rw[h1] at h;simp only[R.bind_ok] at h;cases h2:jU turn q.2 ds with
  |ok q'=>rw[h2] at h;simp only[R.bind_ok] at h;cases h;exact⟨q.1,q.2,q'.1,rfl,h2,rfl⟩
  |_=>rw[h2] at h;cases h
 |_=>rw[h1] at h;cases h
structure LCh(names:List (Str×NameKind))(env:Env)(L I:Addr)(s s':Shared):Prop where
 keep:∀a o,a≠L->¬Mut names env a->a≠I->s.heap.get? a=some o->s'.heap.get? a=some o
 alloc:∀a o,a≠I->s.heap.get? a=some o->∃o',s'.heap.get? a=some o'/\(NF o->NF o')
 os:s'.os=s.os
 gens:AllBare s.gens->AllBare s'.gens
inductive zw8(G:List D)(cf:Nat->List D->R D)(t:Tg)(g:PG)(ds ys zs:List D)(σe:ze)(St:Nat->Heap->Prop)(C:ze->List D->Prop)(X:Prop)(m:Nat)(h:Heap):Prop
 |mk (j:Nat) (σ₁:ze) (ys₁ zs₁:List D) (hj:j<=ds.length) (hm:m=ds.length+1 - j) (hgo:jU (fun σ d=>R.bind (ja σ t d) fun σ'=>evG G cf g σ') σ₁ (ds.drop j)=.ok (zs₁,σe)) (hys:ys₁++zs₁=ys++zs) (hst:St j h) (c:C σ₁ ys₁) (x:X)
theorem zfl{elt target iter:Expr}{gens:List Comprehension}{scope:Scope}{pos:Pos}{k:Nat}{ifs:List Expr}{st:List VS}{g:PG}{t:Tg}(hg:gens[k]?=some ⟨target,iter,ifs,0⟩)(ht:zaA cx target=some t)(hnd:(cx.names.map (·.1)).Nodup)
  (hG:zhs prog w zc G cf n cx env L elt gens scope pos k ifs (zZ st t) g)
  {P T:Addr->Prop}{A:Around}{fs:List Env}{s:Shared}{σ σe:ze}{ys zs ds:List D}{I:Addr}{fp:List Addr}{PV:Nat->Value->Prop}{St:Nat->Heap->Prop}{Rr:Result->Shared->Prop}(hPT:∀a,P a->T a)(c:CSt prog w zc n cx env L T P A fs st σ ys s)
  (pI:¬P I)(tI:¬T I)(oI:¬Own env I)(dI:L≠I)(W:Walks prog w A I fp [I] ds.length PV St)(hSt:St 0 s.heap)(hfp:∀b∈fp,b≠I->P b)(hPV:∀i u,i<ds.length->PV i u->∃d,ds[i]?=some d/\Rep P s.heap u d)
  (hcls:∀i h',St i h'->∃o n,h'.get? I=some o/\o.cls=.type n/\ownsTuple n=false/\¬NF o)
  (hgo:jU (fun σ d=>R.bind (ja σ t d) fun σ'=>evG G cf g σ') σ ds=.ok (zs,σe))(hlen:ys.length+zs.length<=zp)
  (hR:∀s₂,CSt prog w zc n cx env L (fun a=>T a\/a=I) (fun a=>P a\/a=I) A fs st σe (ys++zs) s₂->LCh cx.names env L I s s₂->Rr (.ok .next) s₂):
  codeAny (model prog w) A (.compStart (.ListComp elt gens scope pos) k (.ref I) (.ref L) env) Rr s:=by
 have main:codeAny (model prog w) A (.compLoop (.ListComp elt gens scope pos) k (.ref I) (.ref L) env) Rr s:=by
  refine codeAny_loop rfl (fun m s₁=>zw8 G cf t g ds ys zs σe St (fun σ₁ ys₁=>CSt prog w zc n cx env L T P A fs st σ₁ ys₁ s₁) (LCh cx.names env L I s s₁) m s₁.heap) (fun m s₁ hI=>?_) (ds.length+1)
    ⟨0,σ,ys,zs,Nat.zero_le _,rfl,hgo,rfl,hSt,c,⟨fun a o _ _ _ e=>e,fun a o _ e=>⟨o,e,id⟩,rfl,id⟩⟩
  obtain⟨j,σ₁,ys₁,zs₁,hj,rfl,hgo₁,hys,hst,c₁,ch₁⟩:=hI;show wpAny _ A ((compTurn (.ListComp elt gens scope pos) k (.ref I) (.ref L) env).onRaise (fun x=>do noteFrame x env;theTreesLotGoes x)) _ _ s₁;refine wpAny_noted (zhm hg ?_);obtain⟨oI1,nI1,hoI1,_,_,hnf1⟩:=hcls _ _ hst;have anf:∀{h':Heap},(∀b o,b≠I->s₁.heap.get? b=some o->h'.get? b=some o)->ANF s₁.heap h':=zlf hoI1 hnf1;have neP:∀{a},P a->a≠I:=fun p q=>pI (q▸p);have neT:∀{a},T a->a≠I:=fun p q=>tI (q▸p);by_cases hlt:j<ds.length
  ·refine W.item j s₁ _ _ hlt hst fun u h' tk hu hst' hk=>?_;obtain⟨d,hd,rd⟩:=hPV j u hlt hu;obtain⟨oI2,nI2,hoI2,hcl2,hown2,hnf2⟩:=hcls _ _ hst';have hk':∀b o,b≠I->s₁.heap.get? b=some o->h'.get? b=some o:=zeq hk;have c₂:CSt prog w zc n cx env L T P A fs st σ₁ ys₁ {s₁ with heap:=h',toks:=tk}:=
    c₁.move (s':={s₁ with heap:=h',toks:=tk}) (fun a o p e=>⟨p,hk' a o (neP p) e⟩) (fun a o p e=>⟨p,hk' a o (neT p) e⟩) (fun a o p e=>hk' a o (fun q=>oI (q▸p)) e) (fun o e=>hk' L o dI e) (anf hk')
     (fun a e=>c₁.ec.pnew a (zfW hk' hoI2 e)) c₁.ec.own c₁.ec.nofr c₁.tO c₁.pD c₁.tD
   rw[zhG hd] at hgo₁;obtain⟨z1,σ2,z2,hturn,hgo₂,rfl⟩:=zhV hgo₁;obtain⟨τ,hb,hturn⟩:=rb hturn;refine zib (s:={s₁ with heap:=h',toks:=tk}) hoI2 hcl2 hown2 ?_;have rd':Rep P h' u d:=rd.move fun a o p e=>⟨p,hk' a o (neP p) (ch₁.keep a o (fun q=>c.pD (q▸p)) (fun q=>c.ec.own a p q.own) (neP p) e)⟩;refine zfq (s:={s₁ with heap:=h',toks:=tk}) ht hb c.ec.handled c₂.fram c₂.vok hnd c₂.len c₂.tO c₂.ec.own (.rep rd') fun h₃ tk₃ B₃ F₃ V₃ _=>?_;have c₃:CSt prog w zc n cx env L T P A fs (zZ st t) τ ys₁ {s₁ with heap:=h₃,toks:=tk₃}:=
    {ec:=c₂.ec.change (fun a o p e=>⟨p,B₃.keepO a o (c₂.ec.own a p) e⟩) B₃.alloc.nf c₂.ec.own c₂.ec.nofr (c₂.ec.pnew.alloc B₃.alloc),fram:=F₃,vok:=V₃,
     acc:=(let ⟨vs,h1,h2⟩:=c₂.acc;⟨vs,h1.at fun o e=>B₃.keepO _ o c.oD e,h2.move fun a o p e=>⟨p,B₃.keepO a o (c₂.ec.own a p) e⟩⟩),
     len:=by rw[kf,zbl hb];exact c₂.len
     pD:=c₂.pD,tD:=c₂.tD,oD:=c₂.oD,tO:=c₂.tO}
   have hst₃:St (j+1) h₃:=W.frame _ _ _ hst' fun b hb o e=>B₃.keepO b o (by
    by_cases q:b=I
    ·exact q▸oI
    ·exact c.ec.own b (hfp b hb q)) e
   have hzl:ys₁.length+(z1++z2).length=ys.length+zs.length:=by rw[←List.length_append,hys,List.length_append]
   refine hG _ _ A fs {s₁ with heap:=h₃,toks:=tk₃} τ σ2 ys₁ z1 _ _ hPT c₃ hturn (by simp only[List.length_append] at hzl;lia) fun s₄ c₄ ch₄=>?_;refine⟨rfl,ds.length+1 - (j+1),ziF hlt,j+1,σ2,ys₁++z1,z2,by assumption,rfl,hgo₂,by rw[←hys,List.append_assoc],?_,?_,?_⟩
   ·exact W.frame _ _ _ hst₃ fun b hb o e=>by
     by_cases q:b=I
     ·exact ch₄.keep b o (fun z=>dI (z.symm.trans q)) (fun z=>oI (q▸z.own)) e
     ·exact ch₄.keep b o (fun q2=>c.pD (q2▸hfp b hb q)) (fun q2=>c.ec.own b (hfp b hb q) q2.own) e
   ·exact {c₄ with vok:=c₄.vok.weak hPT,len:=by rw[←c₄.len,kf]}
   ·refine⟨fun a o n1 n2 n3 e=>ch₄.keep a o n1 n2 (B₃.keep a o n2 (hk' a o n3 (ch₁.keep a o n1 n2 n3 e))),fun a o n3 e=>?_,ch₄.os.trans ch₁.os,fun g=>ch₄.gens (ch₁.gens g)⟩;obtain⟨o1,e1,f1⟩:=ch₁.alloc a o n3 e;obtain⟨o2,e2,f2⟩:=B₃.alloc a o1 (hk' a o1 n3 e1);obtain⟨o3,e3,f3⟩:=ch₄.alloc a o2 e2;exact⟨o3,e3,fun q=>f3 (f2 (f1 q))⟩
  ·have hj':j=ds.length:=by lia
   subst hj';simp only[List.drop_length] at hgo₁;cases hgo₁;simp only[List.append_nil] at hys;subst hys;refine W.done s₁ _ _ hst fun h' tk hk=>?_;have hk':∀b o,b≠I->s₁.heap.get? b=some o->h'.get? b=some o:=zeq hk;refine hR _ (c₁.move (s':={s₁ with heap:=h',toks:=tk}) (fun a o p e=>⟨.inl p,hk' a o (neP p) e⟩) (fun a o p e=>⟨.inl p,hk' a o (neT p) e⟩) (fun a o p e=>hk' a o (fun q=>oI (q▸p)) e) (fun o e=>hk' L o dI e) (anf hk')
     (fun a e=>?_) ?_ ?_ ?_ ?_ ?_) ⟨fun a o n1 n2 n3 e=>hk' a o n3 (ch₁.keep a o n1 n2 n3 e),fun a o n3 e=>?_,ch₁.os,ch₁.gens⟩
   ·exact(Classical.em (a=I)).elim .inr fun q2=>.inl (c₁.ec.pnew a (zeR hk' q2 e))
   ·exact fun a p=>p.elim (c.ec.own a) fun q=>q▸oI
   ·exact fun a p=>p.elim (c.ec.nofr a) fun q hm=>let ⟨_,o,ho,hnf⟩:=c₁.ec.funs.mem (q▸hm);hnf1 (soI (hoI1.symm.trans ho)▸hnf)
   ·exact fun a p=>p.elim (c.tO a) fun q=>q▸oI
   ·exact fun p=>p.elim c.pD dI
   ·exact fun p=>p.elim c.tD dI
   ·obtain⟨o',e',n'⟩:=ch₁.alloc a o n3 e;exact⟨o',hk' a o' n3 e',n'⟩
 exact zfy hg main (W.self 0 _ _ _ hSt main)
theorem zmI{elt target iter:Expr}{gens:List Comprehension}{scope:Scope}{pos:Pos}{k:Nat}{ifs:List Expr}{st:List VS}{g:PG}{t:Tg}(hg:gens[k]?=some ⟨target,iter,ifs,0⟩)(ht:zaA cx target=some t)(hnd:(cx.names.map (·.1)).Nodup)
  (hG:zhs prog w zc G cf n cx env L elt gens scope pos k ifs (zZ st t) g)
  {P T:Addr->Prop}{A:Around}{fs:List Env}{s s':Shared}{σ σe:ze}{ys zs ds:List D}{v:Value}{h₀:Heap}{Rr:Result->Shared->Prop}(hPT:∀a,P a->T a)(c:CSt prog w zc n cx env L T P A fs st σ ys s)(x:Ch s s')(k1:zA s.heap h₀)(k2:zA h₀ s'.heap)
  (I:zoK prog w A P P h₀ s'.heap v ds)(hgo:jU (fun σ d=>R.bind (ja σ t d) fun σ'=>evG G cf g σ') σ ds=.ok (zs,σe))(hlen:ys.length+zs.length<=zp)
  (hR:∀s₂,CSt prog w zc n cx env L T P A fs st σe (ys++zs) s₂->CCh cx.names env L s s₂->Rr (.ok .next) s₂):
  codeAny (model prog w) A (.compStart (.ListComp elt gens scope pos) k v (.ref L) env) Rr s':=by
 (obtain⟨I,fp,PV,St,zr3,hI0,W,hSt,hfp,hPV,hcls⟩:=I;replace zr3:=Eq.symm zr3;subst zr3)
 have hIs:s.heap.get? I=none:=kI k1 hI0;have pI:P I:=c.ec.pnew I hIs;have oI:¬Own env I:=c.ec.own I pI;have dI:L≠I:=fun q=>c.pD (q▸pI);have hI':∃o,s'.heap.get? I=some o:=let ⟨o,_,h1,_⟩:=hcls 0 _ hSt;⟨o,h1⟩;refine zfl hg ht hnd hG (fun a p=>⟨hPT a p.1,p.2⟩) (c.enter x hIs hI') (fun q=>q.2 rfl) (fun q=>q.2 rfl) oI dI W hSt (fun b hb hne=>⟨(hfp b hb hne).1,hne⟩) (fun i u hi hu=>?_) hcls hgo hlen fun s₂ c₂ l₂=>?_
 ·obtain⟨d,h1,h2⟩:=hPV i u hi hu;exact⟨d,h1,h2.move fun a o p e=>⟨⟨p,fun q=>by rw[q,hI0] at e;exact nn e⟩,k2 a o e⟩⟩
 ·have ne:∀a o,s.heap.get? a=some o->a≠I:=fun a o e q=>by rw[q,hIs] at e;exact nn e
  refine hR s₂ (c₂.move (fun a o p e=>⟨?_,e⟩) (fun a o p e=>⟨?_,e⟩) (fun a o _ e=>e) (fun o e=>e) (jF.refl _).nf (fun a e=>?_) c.ec.own c.ec.nofr c.tO c.pD c.tD)
   ⟨fun a o n1 n2 e=>l₂.keep a o n1 n2 (ne a o e) (x.keep a o e),fun a o e=>l₂.alloc a o (ne a o e) (x.keep a o e),l₂.os.trans x.os,fun g=>l₂.gens (x.gens g)⟩
  ·exact p.elim And.left fun q=>q▸pI
  ·exact p.elim And.left fun q=>q▸hPT _ pI
  ·exact(c₂.ec.pnew a e).elim And.left fun q=>q▸pI
noncomputable def zgg(prog:Program)(w:World)(zc:Heap)(G:List D)(cf:Nat->List D->R D)(n:Nat)(names:List (Str×NameKind))(st:List VS)(env:Env)(ifs:List Expr)(pc:PE):Prop:=
 (ifs=[]/\pc=.lit (.bool true))\/∃c,ifs=[c]/\zaR prog w zc G cf n names st env (isTrue c env (eval c env)) pc
theorem ziO{P T:Addr->Prop}{A:Around}{fs:List Env}{s:Shared}{σ:ze}{ys:List D}{st:List VS}{ifs:List Expr}{pc:PE}{t:Bool}{Q:Bool->Shared->Prop}{E:Value->Shared->Prop}(h:zgg prog w zc G cf n cx.names st env ifs pc)
  (c:CSt prog w zc n cx env L T P A fs st σ ys s)(he:ev G cf pc σ=.ok (.bool t))(hQ:∀s',Ch s s'->Q t s'):wpAny (model prog w) A (zgW ifs env) Q E s:=by
 rcases h with⟨rfl,rfl⟩|⟨c',rfl,h⟩
 ·cases he
  exact wpAny_pure (hQ s (Ch.refl s))
 ·show wpAny _ _ (forIn [c'] true _) _ _ _;rw[List.forIn_cons];refine wpAny_bind ?_;refine wpAny_bind (h P A fs s σ _ _ c.ec c.vok' (fun b s' hb ch=>wpAny_pure ?_) (fun hv=>by rw[he] at hv;exact ov hv) (by rw[he];exact fun h=>os h));rw[he] at hb;cases hb;exact wpAny_pure (hQ s' ch)
set_option tactic.hygienic true in
theorem zno{elt:Expr}{gens:List Comprehension}{scope:Scope}{pos:Pos}{k:Nat}{ifs:List Expr}{st:List VS}{pc pe:PE}(hk:gens[k+1]?=none)(hc:zgg prog w zc G cf n cx.names st env ifs pc)(he:zt prog w zc G cf n cx.names st false env (eval elt env) pe):
  zhs prog w zc G cf n cx env L elt gens scope pos k ifs st (.elt pc pe):=by
 intro P T A fs s σ σ' ys zs Q E hPT c hev hlen hQ;replace hev:=rb hev;obtain⟨x,h1,hev⟩:=hev;replace hev:=rb hev;obtain⟨t,h2,hev⟩:=hev;have:=kQ h2;subst this;refine ziO hc c h1 fun s₁ ch₁=>?_;induction t using Bool.casesOn with
 |false=>
  cases hev
  exact hQ s₁ (by simpa using c.ch ch₁) (.of_ch ch₁)
 |true=>
  replace hev:=rb hev;obtain⟨d,h3,hev⟩:=hev;split at hev
  ·exact ns hev
  ·rename_i hdi;cases hev;have c₁:=c.ch ch₁;unfold zhS;rw[hk];refine he P A fs s₁ σ _ _ c₁.ec c₁.vok' (fun d' v s₂ hd ch₂ r=>?_) (fun hv=>by rw[h3] at hv;exact ov hv) (by rw[h3];exact fun h=>os h);rw[h3] at hd;(obtain rfl:=okI hd;clear hd);have c₂:=c₁.ch ch₂;obtain⟨vs,hp,hr⟩:=c₂.acc;have hz:vs.size<=sizeLine:=by rw[z8 hr];exact qA (by exact qC ‹_›) zbE
   refine wpAny_list_append_plain (hsz:=hz) hp fun h' h4 h5=>?_;obtain⟨c₃,ch₃⟩:=c₂.push (r.toRep prog w (by simpa using hdi)) hp hr h4 h5;exact hQ _ c₃ ((CCh.of_ch ch₁).trans ((CCh.of_ch ch₂).trans ch₃))
theorem zlU{elt target iter:Expr}{gens:List Comprehension}{scope:Scope}{pos:Pos}{k:Nat}{ifs ifs':List Expr}{st:List VS}{pc it:PE}{rg:Bool}{t:Tg}{g:PG}(hk:gens[k+1]?=some ⟨target,iter,ifs',0⟩)(hc:zgg prog w zc G cf n cx.names st env ifs pc)
  (hi:zlN prog w zc G cf n cx.names st false env iter rg it)(hs:∀x,foldedSetIterable iter env x=pure x)(ht:zaA cx target=some t)(hnd:(cx.names.map (·.1)).Nodup)
  (hG:zhs prog w zc G cf n cx env L elt gens scope pos (k+1) ifs' (zZ st t) g):zhs prog w zc G cf n cx env L elt gens scope pos k ifs st (.more pc rg it t g):=by
 intro P T A fs s σ σ' ys zs Q E hPT c hev hlen hQ;replace hev:=rb hev;obtain⟨x,h1,hev⟩:=hev;replace hev:=rb hev;obtain⟨b,h2,hev⟩:=hev;have:=kQ h2;subst this;refine ziO hc c h1 fun s₁ ch₁=>?_;induction b using Bool.casesOn with
 |false=>
  cases hev
  exact hQ s₁ (by simpa using c.ch ch₁) (.of_ch ch₁)
 |true=>
  replace hev:=rb hev;obtain⟨d,h3,hev⟩:=hev;replace hev:=rb hev;obtain⟨ds,h4,hev⟩:=hev;have c₁:=c.ch ch₁;unfold zhS;rw[hk];refine⟨rfl,hs,hi P A fs s₁ σ _ _ c₁.ec c₁.vok' (fun ds' v s₂ h₀ hds ch₂ k1 k2 I=>?_) (fun hv=>by rw[h3] at hv;exact ov hv) (by rw[h3];simp[h4])⟩;rw[h3] at hds;simp only[R.bind_ok] at hds;rw[h4] at hds;(obtain rfl:=okI hds;clear hds);exact zmI hk ht hnd hG hPT c₁ ch₂ k1 k2 I hev hlen fun s₃ c₃ ch₃=>hQ s₃ c₃ ((CCh.of_ch ch₁).trans ch₃)
end
end Mine
namespace Mine
open PySem PyProof.Rows PySem.Calls
theorem jP{α β:Type}[BEq α][LawfulBEq α]{l:List (α×β)}:∀{x:α} {k:β},l.lookup x=some k->(x,k)∈l:=by
 induction l with
 |nil=>
  intro _ _ h;exact nn h
 |cons zhd r ih=>
  obtain⟨y,j⟩:=zhd;intro x k h;skip;by_cases q:x=y
  ·subst q;simp at h;simp[h]
  ·have:(x==y)=false:=by simpa using q
   simp only[List.lookup_cons,this] at h;exact List.mem_cons_of_mem _ (ih h)
set_option tactic.hygienic true in
theorem ziY{scope:Scope}{env:Env}(h:∀x∈scope.names,x.2=.free->∃c,env.cells.lookup x.1=some c):
  ∃cl:List (Str×Addr),closureFor scope env=pure cl/\(∀x c,cl.lookup x=some c->env.cells.lookup x=some c)/\(∀x∈scope.names,x.2=.free->cl.lookup x.1=env.cells.lookup x.1):=by
 let step:List (Str×Addr)->Str×NameKind->List (Str×Addr):=fun acc p=>if p.2==.free then(p.1,(env.cells.lookup p.1).getD 0)::acc else acc
 have h1:∀(l:List (Str×NameKind)) (acc:List (Str×Addr)),(∀x∈l,x.2=.free->∃c,env.cells.lookup x.1=some c)->
   (forIn l acc fun(p:Str×NameKind) (cs:List (Str×Addr))=>(match p with|(name,kind)=>if(kind==.free)=true then do let a ←cellOf env name;pure (ForInStep.yield ((name,a)::cs)) else pure (ForInStep.yield cs):Sem (ForInStep (List (Str×Addr)))))=pure (l.foldl step acc):=by
  intro l;induction l with
  |nil=>intro acc _;rfl
  |cons p l ih=>
   intro acc hl;rw[List.forIn_cons];obtain⟨x,k⟩:=p;by_cases hk:(k==NameKind.free)=true
   ·obtain⟨c,hc⟩:=hl (x,k) (List.mem_cons_self ..) (by simpa using hk);have e1:cellOf env x=pure c:=by unfold cellOf;rw[hc]
    simp only[hk,if_true,e1,pure_bind];rw[ih _ fun y hy=>hl y (List.mem_cons_of_mem _ hy)];have e2:step acc (x,k)=(x,c)::acc:=by simp only[step,hk,if_true];rw[hc];rfl
    rw[List.foldl_cons,e2]
   ·have hk':(k==NameKind.free)=false:=by simpa using hk
    simp only[hk',Bool.false_eq_true,if_false,pure_bind];rw[ih _ fun y hy=>hl y (List.mem_cons_of_mem _ hy)];have e2:step acc (x,k)=acc:=by simp only[step,hk'];rfl
    rw[List.foldl_cons,e2]
 have h2:∀(l:List (Str×NameKind)) (acc:List (Str×Addr)),(∀x∈l,x.2=.free->∃c,env.cells.lookup x.1=some c)->(∀x c,acc.lookup x=some c->env.cells.lookup x=some c)->
   (∀x c,(l.foldl step acc).lookup x=some c->env.cells.lookup x=some c)/\(∀x c,acc.lookup x=some c->∃c',(l.foldl step acc).lookup x=some c')/\(∀x∈l,x.2=.free->∃c',(l.foldl step acc).lookup x.1=some c'):=by
  intro l;induction l with
  |nil=>intro acc _ ha;exact⟨ha,fun x c e=>⟨c,e⟩,fun x hx=>by cases hx⟩
  |cons p l ih=>
   intro acc hl ha;obtain⟨x,k⟩:=p;have hacc:∀y c,(step acc (x,k)).lookup y=some c->env.cells.lookup y=some c:=by
    intro y c e;simp only[step] at e;split at e
    ·rename_i hk;obtain⟨c',hc'⟩:=hl (x,k) (List.mem_cons_self ..) (by simpa using hk);simp only[hc',Option.getD_some,List.lookup_cons] at e;cases q:y==x with
     |true=>rw[q] at e;(obtain rfl:=soI e;clear e);rw[show y=x by simpa using q];exact hc'
     |false=>rw[q] at e;exact ha y c e
    ·exact ha y c e
   obtain⟨i1,i2,i3⟩:=ih (step acc (x,k)) (fun y hy=>hl y (List.mem_cons_of_mem _ hy)) hacc;have grow:∀y c,acc.lookup y=some c->∃c',(step acc (x,k)).lookup y=some c':=by
    intro y c e;simp only[step];split
    ·simp only[List.lookup_cons];cases q:y==x with
     |true=>exact⟨_,rfl⟩
     |false=>exact⟨c,e⟩
    ·exact⟨c,e⟩
   refine⟨i1,fun y c e=>?_,fun y hy hf=>?_⟩
   ·obtain⟨c',e'⟩:=grow y c e;exact i2 y c' e'
   ·cases hy with
    |head=>
     have:(step acc (x,k)).lookup x=some ((env.cells.lookup x).getD 0):=by
      have hk:(k==NameKind.free)=true:=by exact if_pos ‹_›
      simp only[step,hk,if_true,List.lookup_cons,beq_self_eq_true]
     exact i2 x _ this
    |tail _ hy=>exact i3 y hy hf
 obtain⟨g1,g2,g3⟩:=h2 scope.names [] h (by intro x c e;exact nn e);refine⟨scope.names.foldl step [],?_,g1,fun x hx hf=>?_⟩
 ·have:=h1 scope.names [] h;unfold closureFor;show(forIn scope.names [] _ >>= fun r=>pure r)=_;rw[bind_pure];exact this
 ·obtain⟨c,e⟩:=g3 x hx hf;rw[e,g1 _ _ e]
section
variable{prog:Program}{w:World}{zc:Heap}{G:List D}{cf:Nat->List D->R D}{n:Nat}{st:List VS}{b:Bool}{env:Env}
theorem zah{names:List (Str×NameKind)}:(names.map (·.1)).Nodup->∀{x:Str} {k:NameKind},(x,k)∈names->names.lookup x=some k:=by
 induction names with
 |nil=>
  intro _ _ _ h;cases h
 |cons zhd r ih=>
  obtain⟨y,j⟩:=zhd;intro hnd x k h;skip;simp only[List.map_cons,List.nodup_cons] at hnd;cases h with
  |head=>simp[List.lookup_cons]
  |tail _ h=>
   have:(x==y)=false:=by
    have:x≠y:=fun e=>hnd.1 (e▸List.mem_map_of_mem (f:=(·.1)) h);exact if_neg ‹_›
   rw[List.lookup_cons,this];exact ih hnd.2 h
set_option tactic.hygienic true in
theorem zam{scope:Scope}{x:Str}{k:NameKind}(h:scope.names.lookup x=some k):(relabel scope env).names.lookup x=some k\/(k=.free/\(relabel scope env).names.lookup x=some .cell):=by
 unfold relabel;generalize scope.names=l at h;induction l with
 |nil=>exact nn h
 |cons p r ih=>
  obtain⟨y,j⟩:=p;simp only[List.map_cons];cases q:x==y with
  |true=>
   simp only[List.lookup_cons,q] at h
   (obtain rfl:=Eq.symm (soI h);clear h)
   split
   ·rename_i hc;simp only[Bool.and_eq_true,beq_iff_eq] at hc;exact .inr ⟨hc.1.1,by simp[List.lookup_cons,q]⟩
   ·exact .inl (by simp[List.lookup_cons,q])
  |false=>
   simp only[List.lookup_cons,q] at h;have:=ih h;split<;>simpa only[List.lookup_cons,q] using this
inductive zwJ(cx:Cx)(p:Str×NameKind)(c:Option Nat):Prop
 |free(j:Nat)(e:p.2=.free)(h:cx.names.lookup p.1=some .cell\/cx.names.lookup p.1=some .free)(hv:cx.var? p.1=some j)(hc:c=some j)
 |other(e:p.2≠.free)(hc:c=none)
theorem zox{cx:Cx}{p:Str×NameKind}{c:Option Nat}(h:zxh cx p=some c):zwJ cx p c:=by
 obtain⟨x,k⟩:=p;induction k using PySem.NameKind.casesOn with
 |free=>
  obtain⟨h1,h⟩:=ifn h;obtain⟨j,h2,h3⟩:=Option.map_eq_some_iff.mp h;exact .free j rfl (by simpa [Cx.kind] using h1) h2 h3.symm
 |_=>(obtain rfl:=soI h;clear h);exact .other nofun rfl
theorem zkF{α β:Type}{f:α->Option β}{l:List α}:∀{bs:List β},l.mapM f=some bs->∀(i:Nat) (a:α),l[i]?=some a->∃b,bs[i]?=some b/\f a=some b:=by
 induction l with
 |nil=>intro bs _ i a e;exact nn e
 |cons x l ih=>
  intro bs h i a e;obtain⟨b,bs,h1,h2⟩:=mm h;induction i using Nat.casesOn with
  |zero=>(obtain rfl:=soI e;clear e);exact⟨b,rfl,h1⟩
  |succ i=>exact ih h2 i a e
theorem zl8{α β:Type}{f:α->Option β}{l:List α}:∀{bs:List β},l.mapM f=some bs->bs.length=l.length:=by
 induction l with
 |nil=>intro bs h;cases mm0 h;rfl
 |cons x l ih=>intro bs h;obtain⟨b,bs,_,h2⟩:=mm h;exact congrArg (·+1) (ih h2)
theorem zga{cx:Cx}{l:List (Str×NameKind)}{caps:List (Option Nat)}(h:zcE cx l=some caps):caps.length=l.length/\(∀i j:Nat,caps[i]?=some (some j)->∃x:Str,l[i]?=some (x,NameKind.free)/\(cx.names.lookup x=some .cell\/cx.names.lookup x=some .free)/\cx.var? x=some j)/\∀(i:Nat) (x:Str),l[i]?=some (x,NameKind.free)->∃j:Nat,caps[i]?=some (some j):=by
 have hl:=zl8 h;refine⟨hl,fun i j e=>?_,fun i x e=>?_⟩
 ·obtain⟨⟨x,k⟩,ep⟩:∃p,l[i]?=some p:=⟨l[i]'(hl▸(List.getElem?_eq_some_iff.mp e).1),List.getElem?_eq_getElem _⟩;obtain⟨c,e1,e2⟩:=zkF h i _ ep;rw[e1] at e
  (obtain rfl:=soI e;clear e)
  cases zox e2 with
  |free j' e3 h1 h2 h3=>(obtain rfl:=soI h3;clear h3);have e3:k=.free:=e3;subst e3;exact⟨x,ep,h1,h2⟩
  |other _ hc=>exact sn hc
 ·obtain⟨c,e1,e2⟩:=zkF h i _ e;cases zox e2 with
  |free j _ _ _ h3=>exact⟨j,h3▸e1⟩
  |other hc _=>exact absurd rfl hc
theorem znV{ρ:ze}{caps:List (Option Nat)}{i j:Nat}(h:caps[i]?=some (some j)):zr (caps.map fun c=>match c with|some i=>zr ρ i|none=>.none) i=zr ρ j:=by
 unfold zr;rw[List.getD_eq_getElem?_getD,List.getElem?_map,h];rfl
inductive zv4(G:List D)(cf:Nat->List D->R D)(caps:List (Option Nat))(rg:Bool)(it:PE)(t:Tg)(g:PG)(ρ:ze):Prop
 |mk (ds zs:List D) (σe:ze) (hds:R.bind (ev G cf it ρ) (zG rg)=.ok ds) (hgo:jU (fun σ d=>R.bind (ja σ t d) fun σ'=>evG G cf g σ') (caps.map fun c=>match c with|some i=>zr ρ i|none=>.none) ds=.ok (zs,σe)) (hz:zs.length<=zp) (he:ev G cf (.comp caps rg it t g) ρ=.ok (.list zs))
theorem zp3{α:Type}{x:R α}(h:noVe x≠.stuck):∃a,x=.ok a:=by
 induction x using R.casesOn with
 |ok a=>exact⟨a,rfl⟩
 |_=>exact absurd rfl h
theorem zqP{G:List D}{cf:Nat->List D->R D}{caps:List (Option Nat)}{rg:Bool}{it:PE}{t:Tg}{g:PG}{ρ:ze}(h:ev G cf (.comp caps rg it t g) ρ≠.stuck):zv4 G cf caps rg it t g ρ:=by
 obtain⟨d,hd⟩:=zp3 h;obtain⟨x,h1,h2⟩:=rb hd;obtain⟨ds,h3,h4⟩:=rb h2;obtain⟨⟨zs,σe⟩,h5,h6⟩:=rb h4;obtain⟨hz,h7⟩:=ifS h6;have e:ev G cf (.comp caps rg it t g) ρ=.ok d:=congrArg noVe hd;exact⟨ds,zs,σe,by rw[h1];exact h3,h5,hz,e.trans h7.symm⟩
set_option tactic.hygienic true in
theorem zfX{cx:Cx}{elt target iter:Expr}{ifs:List Expr}{rest:List Comprehension}{scope:Scope}{pos pos':Pos}{caps:List (Option Nat)}{rg:Bool}{it:PE}{t:Tg}{g:PG}(hL:Lnk cx env)
  (hi:zlN prog w zc G cf n cx.names st false env iter rg it)(hs:∀x,foldedSetIterable iter env x=pure x)(hcaps:zcE cx scope.names=some caps)(hsc:zbn scope=true)(ht:zaA {cx with names:=scope.names} target=some t)
  (hG:∀(cl:List (Str×Addr)) (C L:Addr),(∀x c,cl.lookup x=some c->env.cells.lookup x=some c)->(∀x∈scope.names,x.2=.free->cl.lookup x.1=env.cells.lookup x.1)->
   zhs prog w zc G cf n {cx with names:=scope.names} (compEnvC scope cl C env) L elt (⟨target,iter,ifs,0⟩::rest) scope pos 0 ifs (zZ (caps.map fun c=>match c with|some i=>VS.at st i|none=>.u) t) g)
  {P:Addr->Prop}{A:Around}{fs:List Env}{s:Shared}{ρ:ze}{Q E:Value->Shared->Prop}{use:Option (Value->Sem Unit)}(ec:EC zc P A fs n env s.heap)(vo:VOK prog w env cx.names st ρ P s.heap)
  (hok:∀d v C s₂,ev G cf (.comp caps rg it t g) ρ=.ok d->Ch s s₂->s.heap.get? C=none->(∃m,s₂.heap.Ns C m)->Rep (fun a=>P a/\a≠C) s₂.heap v d->compPost (model prog w) A E use Q v C (.ok .next) s₂)
  (hns:ev G cf (.comp caps rg it t g) ρ≠.stuck):wpAny (model prog w) A (comprehension (.ListComp elt (⟨target,iter,ifs,0⟩::rest) scope pos) scope env pos' (newList []) false (eval iter env) use) Q E s:=by
 simp only[zbn,Bool.and_eq_true,beq_iff_eq,decide_eq_true_eq,List.all_eq_true,bne_iff_ne] at hsc;obtain⟨⟨hkind,hcell⟩,hnd⟩:=hsc;obtain⟨hcl,hcaps',hcaps2⟩:=zga hcaps;have hfree:∀x∈scope.names,x.2=.free->(cx.names.lookup x.1=some .cell\/cx.names.lookup x.1=some .free)/\∃i j:Nat,scope.names[i]?=some x/\caps[i]?=some (some j):=by
  intro x hx hf
  (obtain⟨i,hi',zr1⟩:=List.mem_iff_getElem.mp hx;replace zr1:=Eq.symm zr1;subst zr1)
  obtain⟨j,hj⟩:=hcaps2 i scope.names[i].1 (by rw[List.getElem?_eq_getElem hi',←hf]);obtain⟨y,h1,h2,h3⟩:=hcaps' i j hj;rw[List.getElem?_eq_getElem hi'] at h1;have e:scope.names[i]=(y,NameKind.free):=by simpa using h1
  exact⟨by rw[e];exact h2,i,j,List.getElem?_eq_getElem hi',hj⟩
 obtain⟨cl,hclos,hcl1,hcl2⟩:=ziY (scope:=scope) (env:=env) fun x hx hf=>(hL.cell x.1 (hfree x hx hf).1).2;obtain⟨ds,zs,σe,hds0,hgo,hz,he⟩:=zqP hns;refine wpAny_comprehension_free (use:=use) rfl hs hclos hkind (fun x hx hl=>hl▸zah hnd hx) ?_;refine hi P A fs s ρ _ _ ec vo (fun ds' v s' h₀ hds ch k1 k2 I=>?_) (fun hv=>by rw[hv] at hds0;exact nv hds0) (by rw[hds0];exact fun h=>os h)
 (obtain rfl:=okI (hds.symm.trans hds0);clear hds)
 refine wpAny_newObj_type (wpAny_newFunctionEnv hcell (by intro y hy;exact absurd hy List.not_mem_nil) (fun h₁ hns₁ hsb₁=>?_) hkind);dsimp only at hns₁ hsb₁ ⊢;generalize hH2:s'.heap.push {cls:=.type "list",dict:=none,data:=.seq ([]:List Value).toArray}=H2 at hns₁ hsb₁ ⊢
 (obtain⟨I,fp,PV,St,zr2,hI0,W,hSt,hfp,hPV,hcls⟩:=I;replace zr2:=Eq.symm zr2;subst zr2)
 have hsz:H2.objs.size=s'.heap.objs.size+1:=by rw[←hH2,Heap.size_push]
 have neD:∀{a:Addr} {o:Obj},s'.heap.get? a=some o->a≠s'.heap.objs.size:=fun e=>Nat.ne_of_lt (Heap.lt_size e);have neC:∀{a:Addr} {o:Obj},s'.heap.get? a=some o->a≠H2.objs.size:=fun e=>by rw[hsz];exact Nat.ne_of_lt (Nat.lt_succ_of_lt (Heap.lt_size e))
 have hDC:s'.heap.objs.size≠H2.objs.size:=by rw[hsz];exact Nat.ne_of_lt (Nat.lt_succ_self _)
 have kA:zA s'.heap h₁:=fun a o e=>hsb₁.extBut a o (neC e) (Heap.get?_push_of_some _ (hH2▸Heap.get?_push_of_some _ e));have kB:zA s.heap h₁:=ch.keep.trans kA;have nI:s.heap.get? I=none:=kI k1 hI0;obtain⟨oI,nmI,hoI,_,_,hnfI⟩:=hcls 0 _ hSt;have ltI:=Heap.lt_size hoI;have nD:s.heap.get? s'.heap.objs.size=none:=kI ch.keep (kU _);have nC:s.heap.get? H2.objs.size=none:=kI ch.keep (by rw[hsz];exact Heap.get?_none_of_le (Nat.le_succ _));have pI:=ec.pnew _ nI;have pD:=ec.pnew _ nD;have pC:=ec.pnew _ nC;have hacc:h₁.PlainList s'.heap.objs.size #[]:=⟨_,hsb₁.extBut _ _ hDC (Heap.get?_push_of_some _ (hH2▸Heap.get?_push_size _ rfl))⟩;let P₁:Addr->Prop:=fun a=>P a/\a≠I/\a≠s'.heap.objs.size/\a≠H2.objs.size;let T₁:Addr->Prop:=fun a=>¬Own env a/\a≠I/\a≠s'.heap.objs.size/\a≠H2.objs.size;have ne3:∀a o,s.heap.get? a=some o->a≠I/\a≠s'.heap.objs.size/\a≠H2.objs.size:=fun a o e=>
  ⟨fun q=>nn ((q▸nI).symm.trans e),fun q=>nn ((q▸nD).symm.trans e),fun q=>nn ((q▸nC).symm.trans e)⟩
 have ownC:∀a,Own (compEnvC scope cl H2.objs.size env) a->a=H2.objs.size\/Own env a:=by
  exact fun a q=>q.imp id fun⟨x,hx⟩=>.inr ⟨x,hcl1 x a hx⟩
 have mP:∀a o,P a->s.heap.get? a=some o->P₁ a/\h₁.get? a=some o:=fun a o p e=>⟨⟨p,ne3 a o e⟩,kB a o e⟩;have oP:∀a,P₁ a->¬Own (compEnvC scope cl H2.objs.size env) a:=fun a p q=>(ownC a q).elim p.2.2.2 (ec.own a p.1);have oT:∀a,T₁ a->¬Own (compEnvC scope cl H2.objs.size env) a:=fun a p q=>(ownC a q).elim p.2.2.2 p.1;have ec₁:EC zc P₁ A fs n (compEnvC scope cl H2.objs.size env) h₁:=
  {stays:=fun a o q=>kB a o (ec.stays a o q)
   pnew:=fun a e=>⟨(ec.pnew.keep kB) a e,fun q=>(by rw[q,kA _ _ hoI] at e;exact sn e),fun q=>(by obtain⟨m,hm⟩:=hacc;rw[q,hm] at e;exact sn e),fun q=>(by obtain⟨o,_,_,ho,_⟩:=hns₁;rw[q,ho] at e;exact sn e)⟩
   pbase:=fun a o q=>(mP a o (ec.pbase a o q) (ec.stays a o q)).1
   handled:=ec.handled,frames:=ec.frames,funs:=jD (jF.of_keep kB).nf ec.funs,depth:=ec.depth,units:=ec.units
   kind:=hkind,globals:=ec.globals,builtins:=ec.builtins,own:=oP,nofr:=fun a p=>ec.nofr a p.1,inj:=fun x y c h1 h2=>ec.inj x y c (hcl1 x c h1) (hcl1 y c h2)}
 have fr₁:zbB scope.names (compEnvC scope cl H2.objs.size env) h₁:=
  {ns:=⟨_,hns₁⟩
   loc:=fun x hx=>lookup_relabel_local hx
   cell:=fun x hx=>absurd rfl (hcell _ (jP hx))
   inj:=ec₁.inj
   ne:=fun x c hc q=>by
    have:Own env c:=.inr ⟨x,hcl1 x c hc⟩;have q':c=H2.objs.size:=q;exact ec.own _ pC (q'▸this)
   fn:=hkind}
 have vo₁:kP prog w (compEnvC scope cl H2.objs.size env) scope.names (caps.map fun c=>match c with|some i=>VS.at st i|none=>.u) (caps.map fun c=>match c with|some i=>zr ρ i|none=>.none) T₁ P₁ h₁:=by
  intro i x k h1 h2 h3;have h4:∃j,caps[i]?=some (some j)/\VS.at st j≠.u:=by
   unfold VS.at at h3;rw[List.getD_eq_getElem?_getD,List.getElem?_map] at h3;cases q:caps[i]? with
   |none=>rw[q] at h3;exact absurd rfl h3
   |some c=>
    rw[q] at h3;induction c using Option.casesOn with
    |none=>exact absurd rfl h3
    |some j=>exact⟨j,rfl,h3⟩
  obtain⟨j,h5,h6⟩:=h4;obtain⟨y,h7,h8,h9⟩:=hcaps' i j h5;rw[h1] at h7;cases h7;obtain⟨k',h10,h11,h12⟩:=zak h9;obtain⟨v,hv,rv⟩:=vo j x k' h10 h11 h6;have e1:VS.at (caps.map fun c=>match c with|some i=>VS.at st i|none=>.u) i=VS.at st j:=by
   unfold VS.at;rw[List.getD_eq_getElem?_getD,List.getElem?_map,h5];rfl
  obtain⟨hk1,c,hc⟩:=hL.cell x h8;have hx':(x,NameKind.free)∈scope.names:=List.mem_of_getElem? h1;refine⟨v,?_,?_⟩
  ·induction hv using zF.casesOn with
   |loc m a b d=>rcases hk1 with hk1|hk1<;>rw[hk1] at a<;>cases a
   |cell c' a b d=>
    refine .cell c' ?_ ((hcl2 _ hx' rfl).trans b) (d.keeps kB);rcases zam (env:=env) (zah hnd hx') with q|⟨_,q⟩
    ·exact .inr q
    ·exact .inl q
  ·rw[znV h5,e1];refine rv.move (fun a o p e=>?_) mP;split at p
   ·rename_i q;rw[if_pos q];exact⟨⟨p,ne3 a o e⟩,kB a o e⟩
   ·rename_i q;rw[if_neg q];exact mP a o p e
 have c₁:CSt prog w zc n {cx with names:=scope.names} (compEnvC scope cl H2.objs.size env) s'.heap.objs.size T₁ P₁ A fs (caps.map fun c=>match c with|some i=>VS.at st i|none=>.u) (caps.map fun c=>match c with|some i=>zr ρ i|none=>.none) [] {s' with heap:=h₁,toks:=s'.toks+([]:List (Str×Value)).length}:=
  {ec:=ec₁,fram:=fr₁,vok:=vo₁,acc:=⟨#[],hacc,.nil⟩,len:=by simp,pD:=fun q=>q.2.2.1 rfl,tD:=fun q=>q.2.2.1 rfl,oD:=fun q=>(ownC _ q).elim hDC (ec.own _ pD),tO:=oT}
 have oI':¬Own (compEnvC scope cl H2.objs.size env) I:=fun q=>(ownC _ q).elim (neC hoI) (ec.own _ pI);refine zfl (cx:={cx with names:=scope.names}) (env:=compEnvC scope cl H2.objs.size env) (L:=s'.heap.objs.size) (ys:=[]) (s:={s' with heap:=h₁,toks:=s'.toks+([]:List (Str×Value)).length}) rfl ht hnd (hG cl H2.objs.size s'.heap.objs.size hcl1 hcl2) (fun a p=>⟨ec.own a p.1,p.2⟩) c₁ (fun q=>q.2.1 rfl) (fun q=>q.2.1 rfl) oI' (fun q=>neD hoI q.symm) W
  (W.frame _ _ _ hSt fun b _ o e=>kA b o e) (fun b hb hne=>?_) (fun i u hi hu=>?_) hcls hgo (by simpa using hz) fun s₂ c₂ l₂=>?_
 ·obtain⟨h1,o,h2⟩:=hfp b hb hne;exact⟨h1,hne,neD (k2 _ _ h2),neC (k2 _ _ h2)⟩
 ·obtain⟨d,h1,h2⟩:=hPV i u hi hu;refine⟨d,h1,h2.move fun a o p e=>?_⟩;exact⟨⟨p,fun q=>(by rw[q,hI0] at e;exact nn e),neD (k2 _ _ e),neC (k2 _ _ e)⟩,kA a o (k2 a o e)⟩
 ·obtain⟨m,hm⟩:=c₂.fram.ns;have kC:zA s.heap s₂.heap:=fun a o e=>by
   obtain⟨n1,n2,n3⟩:=ne3 a o e;refine l₂.keep a o n2 ?_ n1 (kB a o e);rintro(q|⟨x,hx,_⟩)
   ·exact n3 q
   ·exact absurd rfl (hcell _ (jP hx))
  refine hok _ _ H2.objs.size _ he ⟨kC,l₂.os.trans ch.os,fun g=>l₂.gens (ch.gens g)⟩ nC ⟨m,hm⟩ ?_;obtain⟨vs,hp,hr⟩:=c₂.acc;obtain⟨mm,hmm⟩:=hp;have mf:∀a o,(P₁ a\/a=I)->s₂.heap.get? a=some o->(P a/\a≠H2.objs.size)/\s₂.heap.get? a=some o:=by
   exact fun a o p e=>⟨p.elim (fun p=>⟨p.1,p.2.2.2⟩) fun q=>q▸⟨pI,neC hoI⟩,e⟩
  exact .list ⟨pD,hDC⟩ hmm rfl rfl rfl (hr.move mf) (hz)
theorem zqA{cx:Cx}{elt target iter:Expr}{ifs:List Expr}{rest:List Comprehension}{scope:Scope}{pos:Pos}{caps:List (Option Nat)}{rg:Bool}{it:PE}{t:Tg}{g:PG}(hL:Lnk cx env)
  (hi:zlN prog w zc G cf n cx.names st false env iter rg it)(hs:∀x,foldedSetIterable iter env x=pure x)(hcaps:zcE cx scope.names=some caps)(hsc:zbn scope=true)(ht:zaA {cx with names:=scope.names} target=some t)
  (hG:∀(cl:List (Str×Addr)) (C L:Addr),(∀x c,cl.lookup x=some c->env.cells.lookup x=some c)->(∀x∈scope.names,x.2=.free->cl.lookup x.1=env.cells.lookup x.1)->
   zhs prog w zc G cf n {cx with names:=scope.names} (compEnvC scope cl C env) L elt (⟨target,iter,ifs,0⟩::rest) scope pos 0 ifs (zZ (caps.map fun c=>match c with|some i=>VS.at st i|none=>.u) t) g):
  zt prog w zc G cf n cx.names st b env (eval (.ListComp elt (⟨target,iter,ifs,0⟩::rest) scope pos) env) (.comp caps rg it t g):=by
 intro P A fs s ρ Q E ec vo hok hve hns;rw[eval_ListComp];refine zfX (use:=none) hL hi hs hcaps hsc ht hG ec vo (fun d v C s₂ hd ch nC hm r=>?_) hns;obtain⟨m,hm⟩:=hm;refine⟨m,hm,fun h' hs'=>?_⟩;refine hok d v _ hd ⟨fun a o e=>hs'.extBut a o (fun q=>by rw[q,nC] at e;exact nn e) (ch.keep a o e),ch.os,ch.gens⟩ (.rep (r.move fun a o p e=>⟨p.1,hs'.extBut a o p.2 e⟩))
end
end Mine
namespace Mine
open PySem PyProof.Rows PySem.Calls
theorem zs2{h:Heap}{a:Addr}{o:Obj}(e:h.get? a=some o):a≠h.objs.size:=Nat.ne_of_lt (Heap.lt_size e)
noncomputable def zcs(h:Heap)(d:Addr)(es:Array DictEntry)(ep:Nat):Prop:=∃o,h.get? d=some o/\o.data=.dict es ep
theorem zcs.at{h h':Heap}{d:Addr}{es:Array DictEntry}{ep:Nat}(x:zcs h d es ep)(k:∀o,h.get? d=some o->h'.get? d=some o):zcs h' d es ep:=let ⟨o,ho,r⟩:=x;⟨o,k o ho,r⟩
section
variable{prog:Program}{w:World}{A:Around}{E:Value->Shared->Prop}{s:Shared}
theorem znd{it d:Addr}{i ep:Nat}{es:Array DictEntry}{e:DictEntry}{Q:Option Value->Shared->Prop}(hit:s.heap.IsKeyIter it d i es.size ep)(hm:zcs s.heap d es ep)(hx:es[i]?=some e)
  (hQ:∀h',h'.IsKeyIter it d (i+1) es.size ep->Heap.SameBut it s.heap h'->Q (some e.key) {s with heap:=h'}):wpAny (model prog w) A (pyNext (.ref it)) Q E s:=by
 obtain⟨o,ho,hc,hd⟩:=id hit;obtain⟨od,hod,hdd⟩:=hm;unfold pyNext;refine wpAny_bind (wpAny_attempt (wpAny_callSpecial?_slot (name:=Str.ofString "__next__") hit.typeIs PySem.F.slot_dict_keyiterator_next
  (wpAny_call_entry PySem.F.slot_dict_keyiterator_next hit.typeIs PySem.F.entry_dict_keyiterator_next ?_ (PySem.F.args_dict_keyiterator_next_1 _))))
 refine wpAny_bind (wpAny_pure (wpAny_bind (wpAny_bind ?_)));refine wpAny_bind (wpAny_typeNameOfWhole_keyiter hit.typeIs (wpAny_pure ?_));refine wpAny_bind (wpAny_fieldsOf ho hd ?_);have hown:Builtin.Dict_items.ownsTuple "dict_keyiterator"=false:=by decide
 show wpAny _ _ (if(Value.ref d==Value.none)=true then _ else _) _ _ s;rw[if_neg (show ¬((Value.ref d==Value.none)=true) from Bool.false_ne_true)];refine wpAny_bind (wpAny_pure (wpAny_bind (wpAny_dictEntries hod hdd ?_)));rw[if_neg (by simp)];refine wpAny_bind (wpAny_pure (wpAny_bind (wpAny_dictEpoch hod hdd ?_)));rw[if_neg (by simp)];refine wpAny_pure ?_;simp only[show ¬((i:Int)<0) from by lia,if_false,Int.toNat_natCast,hx];refine wpAny_bind (wpAny_bind (wpAny_typeNameOfWhole_keyiter hit.typeIs (wpAny_pure ?_)));refine wpAny_bind (wpAny_isOneOf_keyiter hit.typeIs ?_);show wpAny _ _ (setField (.ref it) 1 (rawInt ((i:Int)+1)) >>= _) _ _ s;refine wpAny_bind (wpAny_setField ho hd (by simp) ?_);have hit':(s.heap.update it (Obj.mapFields (·.setIfInBounds 1 (rawInt ((i:Int)+1))))).IsKeyIter it d (i+1) es.size ep:=
  ⟨_,Heap.get?_update_self _ ho (Obj.isFreed_of_fields (Obj.data_mapFields hd _)),(Obj.cls_mapFields ..).trans hc,by rw[Obj.data_mapFields hd];rfl⟩
 refine wpAny_bind (wpAny_holding ?_);refine wpAny_bind (wpAny_isOneOf_keyiter (s:={s with heap:=s.heap.update it (Obj.mapFields (·.setIfInBounds 1 (rawInt ((i:Int)+1))))}) hit'.typeIs ?_);show wpAny _ _ (pure e.key) _ _ _;exact wpAny_pure (wpAny_pure ⟨_,rfl,wpAny_pure (hQ _ hit' (Heap.SameBut.update ..))⟩)
theorem ztb{it d:Addr}{ep:Nat}{es:Array DictEntry}{Q:Option Value->Shared->Prop}(hh:A.handled=none)(hit:s.heap.IsKeyIter it d es.size es.size ep)(hm:zcs s.heap d es ep)
  (hQ:∀h',Heap.ExtBut it s.heap h'->Q none {s with heap:=h'}):wpAny (model prog w) A (pyNext (.ref it)) Q E s:=by
 obtain⟨o,ho,hc,hd⟩:=id hit;obtain⟨od,hod,hdd⟩:=hm;unfold pyNext;refine wpAny_bind (wpAny_attempt (wpAny_callSpecial?_slot (name:=Str.ofString "__next__") hit.typeIs PySem.F.slot_dict_keyiterator_next
  (wpAny_call_entry PySem.F.slot_dict_keyiterator_next hit.typeIs PySem.F.entry_dict_keyiterator_next ?_ (PySem.F.args_dict_keyiterator_next_1 _))))
 refine wpAny_bind (wpAny_pure (wpAny_bind (wpAny_bind ?_)));refine wpAny_bind (wpAny_typeNameOfWhole_keyiter hit.typeIs (wpAny_pure ?_));refine wpAny_bind (wpAny_fieldsOf ho hd ?_);have hown:Builtin.Dict_items.ownsTuple "dict_keyiterator"=false:=by decide
 show wpAny _ _ (if(Value.ref d==Value.none)=true then _ else _) _ _ s;rw[if_neg (show ¬((Value.ref d==Value.none)=true) from Bool.false_ne_true)];refine wpAny_bind (wpAny_pure (wpAny_bind (wpAny_dictEntries hod hdd ?_)));rw[if_neg (by simp)];refine wpAny_bind (wpAny_pure (wpAny_bind (wpAny_dictEpoch hod hdd ?_)));rw[if_neg (by simp)];refine wpAny_pure ?_;have hx:es[es.size]?=none:=Array.getElem?_eq_none (Nat.le_refl _);simp only[show ¬((es.size:Int)<0) from by lia,if_false,Int.toNat_natCast,hx];refine wpAny_bind (wpAny_bind (wpAny_typeNameOfWhole_keyiter hit.typeIs (wpAny_pure ?_)));show wpAny _ _ (setField (.ref it) 0 .none >>= _) _ _ s;refine wpAny_bind (wpAny_setField ho hd (Nat.zero_lt_succ _) ?_);show wpAny _ _ (newExc (.type "StopIteration") [] >>= _) _ _ _
 refine wpAny_bind ?_;refine wpAny_bind (wpAny_newObj_type ?_ (by size_fits));refine wpAny_bind (m:=firstArgMember _ _) (wpAny_of_eq (a:=Value.none) (by first|rfl|(simp only[firstArgMember];rfl)) ?_);refine wpAny_newObj_type ?_ (by size_fits);refine wpAny_bind (wpAny_handled ?_);rw[show A.in1.handled=none from hh];refine wpAny_bind (wpAny_pure (wpAny_throw ?_));refine wpAny_bind (wpAny_isInstance (T:="StopIteration") (b:=true) ⟨_,Heap.get?_push_size _ rfl,rfl⟩ isSubtype_stop ?_)
 exact wpAny_pure (hQ _ (((Heap.SameBut.update ..).extBut.push _).push _))
theorem zmK(hh:A.handled=none)(I d:Addr)(hne:d≠I)(es:Array DictEntry)(ep:Nat):
  Walks prog w A I [I,d] [I] es.size (fun i v=>∃e,es[i]?=some e/\v=e.key) (fun i h=>h.IsKeyIter I d i es.size ep/\zcs h d es ep) where
 sub:=fun b hb=>by simp at hb;simp[hb]
 frame:=fun _ _ _ st hk=>⟨st.1.at fun o e=>hk I (by exact List.mem_cons_self) o e,st.2.at fun o e=>hk d (by simp) o e⟩
 item:=fun i s Q E hi st hQ=>by
  have hx:es[i]?=some es[i]:=Array.getElem?_eq_getElem hi;refine znd st.1 st.2 hx fun h' hit' hs'=>?_;exact hQ _ h' s.toks ⟨_,hx,rfl⟩ ⟨hit',st.2.at fun o e=>hs'.extBut d o hne e⟩ fun b o hb e=>hs'.extBut b o (fun h=>hb (by simp[h])) e
 done:=fun s Q E st hQ=>ztb hh st.1 st.2 fun h' he'=>hQ h' s.toks fun b o hb e=>he' b o (fun h=>hb (by simp[h])) e
 self:=fun _ _ _ _ st hQ=>wpAny_pyIter_keyiter st.1 hQ
theorem zm3{v d:Addr}{es:Array DictEntry}{ep:Nat}{Q:Value->Shared->Prop}(hv:PySem.W.KdlKeysView s.heap v d)(hm:zcs s.heap d es ep)
  (hQ:Q (.ref s.heap.objs.size) {s with heap:=s.heap.push {cls:=.type "dict_keyiterator",data:=.fields #[.ref d,.int 0 0,.int es.size 0,.int ep 0]}}):
  wpAny (model prog w) A (pyIter (.ref v)) Q E s:=by
 obtain⟨ov,hov,hcv,hdv⟩:=id hv;obtain⟨o,ho,hdat⟩:=hm;refine wpAny_pyIter_slot hv.typeIs PySem.W.kdl_slot_keys_iter (wpAny_call_entry PySem.W.kdl_slot_keys_iter hv.typeIs PySem.W.kdl_entry_keys_iter ?_ (PySem.W.kdl_args_keys_iter _));unfold Builtin.«dict_keys.__iter__»;refine wpAny_bind (wpAny_pure (wpAny_bind ?_));unfold Builtin.Dict_items.dictOf;refine wpAny_bind (wpAny_field hov hdv (x:=.ref d) rfl (wpAny_pure (wpAny_bind ?_)));unfold Builtin.Dict_items.newIterator;refine wpAny_bind (wpAny_dictEntries ho hdat (wpAny_bind (wpAny_dictEpoch ho hdat ?_)));have hown:Builtin.Dict_items.ownsTuple "dict_keyiterator"=false:=by decide
 simp only[hown,Bool.false_eq_true,if_false];refine wpAny_newObj_type (wpAny_pure ⟨_,rfl,"dict_keyiterator",_,⟨_,Heap.get?_push_size _ rfl,rfl⟩,PySem.F.slot_dict_keyiterator_next.lookup,?_⟩)
 exact hQ
theorem zk1{r d:Addr}{es:Array DictEntry}{ep:Nat}:PySem.W.KdlSrc prog w "dict_keys" r d es.size (fun i v=>∃e,es[i]?=some e/\v=e.key) (fun h=>PySem.W.KdlKeysView h r d/\zcs h d es ep) where
 type:=fun _ hm=>hm.1.typeIs
 there:=fun _ hm=>⟨let ⟨_,ho,_⟩:=hm.1;Heap.lt_size ho,let ⟨_,ho,_⟩:=hm.2;Heap.lt_size ho⟩
 keep:=fun _ _ hm hk=>⟨let ⟨o,ho,x⟩:=hm.1;⟨o,hk r (.inl rfl) o ho,x⟩,hm.2.at fun o e=>hk d (.inr rfl) o e⟩
 notList:=by decide
 notTuple:=by decide
 hint:=fun _ _ _ _ hm hq=>PySem.W.kdl_hint_keys hm.1.typeIs hq
 iter:=fun _ _ hh hm=>⟨_,_,(fun _ _ hq=>zm3 hm.1 hm.2 hq),zmK hh _ d (let ⟨_,ho,_⟩:=hm.2;Nat.ne_of_lt (Heap.lt_size ho)) es ep,⟨⟨_,Heap.get?_push_size _ rfl,rfl,rfl⟩,hm.2.at fun o e=>Heap.get?_push_of_some _ e⟩⟩
theorem zik{r d:Addr}{es:Array DictEntry}{ep:Nat}{Q:List Value->Shared->Prop}(hh:A.handled=none)(hv:PySem.W.KdlKeysView s.heap r d)(hm:zcs s.heap d es ep)(hn:es.size<=sizeLine)
  (hQ:∀h' tk,zA s.heap h'->Q (es.toList.map (·.key)) {s with heap:=h',toks:=tk}):wpAny (model prog w) A (collect (.ref r)) Q E s:=by
 unfold collect;refine wpAny_bind (wpAny_runValue (codeAny_builtin entry_proto_collect' ?_));show wpAny _ _ (do again (.builtin "list.__iadd__" ⟨[←newList [],.ref r],[]⟩)) _ _ s
 refine wpAny_bind (wpAny_newList (wpAny_pure ⟨Code.quiet_builtin _ (by decide +kernel),codeAny_builtin entry_list_iadd' ?_⟩));show wpAny _ _ (Builtin.List.listExtendWith (.ref s.heap.objs.size) (.ref r) (.ref s.heap.objs.size)) _ _ {s with heap:=s.heap.push (seqObj "list" #[] 0)}
 have hlt:=(zk1 (prog:=prog) (w:=w)).there _ ⟨hv,hm⟩;have hA:A.under (.builtin "list.__iadd__" ⟨[.ref s.heap.objs.size,.ref r],[]⟩)=A.in1:=Around.under_plainId (by unfold plainId;decide +kernel) _
 rw[hA];refine PySem.W.kdl_extend (A:=A) (R:=fun r s'=>match r with
  |.ok (.ret v)=>wpAny (model prog w) A (match v with|.ref a=>(do match (←load a).data with|.seq xs _=>pure xs.toList|_=>unsupported "internal:collect")|_=>unsupported "internal:collect") Q E s'
  |.ok _=>False
  |.error e=>E e s') (s:={s with heap:=s.heap.push (seqObj "list" #[] 0)}) (zk1 (prog:=prog) (w:=w) (r:=r) (d:=d) (es:=es) (ep:=ep)) hh ⟨let ⟨o,ho,x⟩:=hv;⟨o,Heap.get?_push_of_some _ ho,x⟩,hm.at fun o e=>Heap.get?_push_of_some _ e⟩ s.heap.objs.size (Nat.ne_of_gt hlt.1) (Nat.ne_of_gt hlt.2) (.ref s.heap.objs.size) 0 (Heap.get?_push_size _ rfl) (fun h' tk acc' c' hk hS hacc=>?_) hn
 show wpAny (model prog w) A (do
   let o ←load s.heap.objs.size
   match o.data with
   |.seq xs _=>pure xs.toList
   |_=>unsupported "internal:collect") Q E _
 refine wpAny_bind (wpAny_load hS ?_);have e:acc'.toList=es.toList.map (·.key):=by
  apply List.ext_getElem?;intro j;rw[List.getElem?_map,Array.getElem?_toList,Array.getElem?_toList];cases q:acc'[j]? with
  |none=>
   have:es[j]?=none:=by
    have h1:acc'.size<=j:=by simpa using q
    exact Array.getElem?_eq_none (by rw[←hacc.1];exact h1)
   rw[this];rfl
  |some v=>
   obtain⟨e,h1,h2⟩:=hacc.2 j v q;rw[h1,h2];rfl
 show wpAny _ _ (pure acc'.toList) Q E _;rw[e];exact wpAny_pure (hQ h' tk fun a o z=>hk a o (zs2 z) (Heap.get?_push_of_some _ z))
end
end Mine
namespace Mine
open PySem PyProof.Rows PySem.Calls PySem.W
section
variable{prog:Program}{w:World}{A:Around}{E:Value->Shared->Prop}{s:Shared}
theorem zja{a:Addr}{vs:List Value}{n:Nat}{P:PySem.Fin->Shared->Prop}(ho:s.heap.get? a=some (seqObj "list" vs.toArray n))(h2:2<=vs.length)(h64:vs.length<64)
  (h:∀e1 h',(∀b o,b≠a->s.heap.get? b=some o->h'.get? b=some o)->h'.get? a=some (seqObj "list" #[] e1)->
   wpAny (model prog w) A (keyKind' vs.toArray) (fun κ s'=>(kas_sort vs.length).kasWp (kas_ask prog w A κ vs) (fun p s''=>s''.heap.get? a=some (seqObj "list" #[] e1)/\
    ∀h'' c2,Heap.SameBut a s''.heap h''->h''.get? a=some (seqObj "list" (List.toArray (p.toList.map fun i=>vs.getD i Value.none)) c2)->P (.done (.ret .none)) {s'' with heap:=h''}) s') (fun _ _=>False) {s with heap:=h'}):
  wpAny (model prog w) A (Builtin.«list.sort» ⟨[.ref a],[]⟩) P E s:=by
 have s1:=Heap.SameBut.update s.heap a (Obj.mapSeq fun _=>(#[]:Array Value));obtain⟨e1,ho1⟩:∃e1,(s.heap.update a (Obj.mapSeq fun _=>(#[]:Array Value))).get? a=some (seqObj "list" #[] e1):=⟨_,get?_update_seq ho fun _=>#[]⟩
 have ask:=h e1 (((s.heap.update a (Obj.mapSeq fun _=>(#[]:Array Value))).push (seqObj "tuple" vs.toArray 0)).push (seqObj "list" #[] 0))
  (fun b o hb e=>Heap.get?_push_of_some _ (Heap.get?_push_of_some _ (s1.extBut b o hb e))) (Heap.get?_push_of_some _ (Heap.get?_push_of_some _ ho1))
 rw[list_sort_plain];refine wpAny_bind (listItems_at ho rfl ?_);refine wpAny_bind (listUpdate_at ho rfl ?_ (by rw[List.size_toArray,sizeLine_eq];exact qA (qC ‹_›) (by decide)) (Nat.zero_le _));refine wpAny_bind (seqEpoch_at ho1 rfl ?_);refine wpAny_bind (wpAny_newTuple ?_ (by show vs.length<=_;rw[sizeLine_eq];exact qA (qC ‹_›) (by decide)));refine wpAny_bind (wpAny_newList ?_ (Nat.zero_le _));refine wpAny_holding ?_;show wpAny (model prog w) A _ P E {s with heap:=((s.heap.update a (Obj.mapSeq fun _=>(#[]:Array Value))).push (seqObj "tuple" vs.toArray 0)).push (seqObj "list" #[] 0)}
 dsimp only;have hn2:¬vs.toArray.size<2:=by rw[List.size_toArray];exact Nat.not_lt.mpr ‹_›
 rw[if_neg hn2,if_neg hn2];refine wpAny_bind (wpAny_mono ask (fun κ s0 hk=>?_) fun _ _ x=>x.elim);refine wpAny_bind (wpAny_mono (kat_run (Q:=fun st' s'=>∃p:Array Nat,p.size=vs.length/\arrOf st'=p.map (kas_item (vs.toArray.zip vs.toArray))/\failedOf st'=none/\(s'.heap.get? a=some (seqObj "list" #[] e1)/\
    ∀h'' c2,Heap.SameBut a s'.heap h''->h''.get? a=some (seqObj "list" (List.toArray (p.toList.map fun i=>vs.getD i Value.none)) c2)->P (.done (.ret .none)) {s' with heap:=h''}))
  rfl h2 h64 (fun p' st' s' a1 a2 a3 a4=>⟨p',a1,a2,a3,a4⟩) hk) ?_ fun _ _ e=>e)
 rintro⟨⟨⟩,st'⟩ s' ⟨p,hp,har,hf,na,k⟩;dsimp only;have hout:=kat_snds rfl har;have hsz:(List.toArray (p.toList.map fun i=>vs.getD i Value.none)).size=vs.length:=by rw[List.size_toArray,List.length_map,Array.length_toList,hp]
 rw[hout];have s2:=Heap.SameBut.update s'.heap a (Obj.mapSeq fun _=>List.toArray (p.toList.map fun i=>vs.getD i Value.none));obtain⟨c2,hc2⟩:∃c2,(s'.heap.update a (Obj.mapSeq fun _=>List.toArray (p.toList.map fun i=>vs.getD i Value.none))).get? a=some (seqObj "list" (List.toArray (p.toList.map fun i=>vs.getD i Value.none)) c2):=⟨_,get?_update_seq na fun _=>List.toArray (p.toList.map fun i=>vs.getD i Value.none)⟩
 refine wpAny_bind (seqEpoch_at na rfl ?_);refine wpAny_bind (listUpdate_at na rfl ?_ (Nat.zero_le _) (qA (Nat.le_of_eq hsz) (by rw[sizeLine_eq];exact qA (qC ‹_›) (by decide))));rw[hf];simp only[bne_self_eq_false,Bool.false_eq_true,if_false];exact wpAny_pure (k _ c2 s2 hc2)
end
end Mine
namespace Mine
open PySem PyProof.Rows PySem.Calls PySem.W
section
variable{prog:Program}{w:World}{A:Around}{E:Value->Shared->Prop}{s:Shared}
theorem zn7(vs:List Value):(vs.toArray.zip vs.toArray).map (·.2)=vs.toArray:=by
 rw[←Array.toList_inj];simp[List.map_snd_zip]
theorem zjo{a:Addr}{vs:List Value}{n:Nat}{P:PySem.Fin->Shared->Prop}(ho:s.heap.get? a=some (seqObj "list" vs.toArray n))(h2:vs.length<2)
  (h:∀h' c,(∀b o,b≠a->s.heap.get? b=some o->h'.get? b=some o)->h'.get? a=some (seqObj "list" vs.toArray c)->P (.done (.ret .none)) {s with heap:=h'}):
  wpAny (model prog w) A (Builtin.«list.sort» ⟨[.ref a],[]⟩) P E s:=by
 have s1:=Heap.SameBut.update s.heap a (Obj.mapSeq fun _=>(#[]:Array Value));obtain⟨e1,ho1⟩:∃e1,(s.heap.update a (Obj.mapSeq fun _=>(#[]:Array Value))).get? a=some (seqObj "list" #[] e1):=⟨_,get?_update_seq ho fun _=>#[]⟩
 have ho6:(((s.heap.update a (Obj.mapSeq fun _=>(#[]:Array Value))).push (seqObj "tuple" vs.toArray 0)).push (seqObj "list" #[] 0)).get? a=some (seqObj "list" #[] e1):=Heap.get?_push_of_some _ (Heap.get?_push_of_some _ ho1)
 rw[list_sort_plain];refine wpAny_bind (listItems_at ho rfl ?_);refine wpAny_bind (listUpdate_at ho rfl ?_ (by rw[List.size_toArray,sizeLine_eq];exact qA (qC ‹_›) (by decide)) (Nat.zero_le _));refine wpAny_bind (seqEpoch_at ho1 rfl ?_);refine wpAny_bind (wpAny_newTuple ?_ (by show vs.length<=_;rw[sizeLine_eq];exact qA (qC ‹_›) (by decide)));refine wpAny_bind (wpAny_newList ?_ (Nat.zero_le _));refine wpAny_holding ?_;show wpAny (model prog w) A _ P E {s with heap:=((s.heap.update a (Obj.mapSeq fun _=>(#[]:Array Value))).push (seqObj "tuple" vs.toArray 0)).push (seqObj "list" #[] 0)}
 dsimp only;have hn2:vs.toArray.size<2:=by rw[List.size_toArray];assumption
 rw[if_pos hn2,if_pos hn2];refine wpAny_bind (wpAny_pure ?_);rw[StateT.run_pure];refine wpAny_bind (wpAny_pure ?_);dsimp only;have hv:(arrOf (SortSt.mk' general' (vs.toArray.zip vs.toArray) #[] 7 none)).map (·.2)=vs.toArray:=by
  exact zn7 vs
 rw[hv];refine wpAny_bind (seqEpoch_at ho6 rfl ?_);refine wpAny_bind (listUpdate_at ho6 rfl ?_ (Nat.zero_le _) (by rw[List.size_toArray,sizeLine_eq];exact qA (qC ‹_›) (by decide)));simp only[bne_self_eq_false,Bool.false_eq_true,if_false];obtain⟨c2,hc2⟩:∃c2,((((s.heap.update a (Obj.mapSeq fun _=>(#[]:Array Value))).push (seqObj "tuple" vs.toArray 0)).push (seqObj "list" #[] 0)).update a (Obj.mapSeq fun _=>vs.toArray)).get? a=some (seqObj "list" vs.toArray c2):=⟨_,get?_update_seq ho6 fun _=>vs.toArray⟩
 exact wpAny_pure (h _ c2 (fun b o hb e=>(Heap.SameBut.update _ a _).extBut b o hb (Heap.get?_push_of_some _ (Heap.get?_push_of_some _ (s1.extBut b o hb e)))) hc2)
inductive zaQ(h:Heap)(v:Value)(p:Int×Int):Prop
 |mk(x:Addr)(o:Obj)(xs:Array Value)(n:Nat)(t u:Tok)(e:v=.ref x)(ho:h.get? x=some o)(hc:o.cls=.type "tuple")(hd:o.data=.seq xs n)(hx:xs.toList=[.int p.1 t,.int p.2 u])
inductive zxH(P:Addr->Prop)(h:Heap)(v:Value)(p:Int×Int):Prop
 |mk(x:Addr)(o:Obj)(xs:Array Value)(n:Nat)(t u:Tok)(e:v=.ref x)(px:P x)(ho:h.get? x=some o)(hc:o.cls=.type "tuple")(hd:o.data=.seq xs n)(hx:xs.toList=[.int p.1 t,.int p.2 u])
noncomputable def ltP(p q:Int×Int):Bool:=if p.1=q.1 then decide (p.2<q.2) else decide (p.1<q.1)
theorem zrV{v u:Value}{p q:Int×Int}{C:Bool->Shared->Prop}(hv:zaQ s.heap v p)(hu:zaQ s.heap u q)(h:C (ltP p q) s):wpAny (model prog w) A (keyLt' (tuples' true) v u) C (fun _ _=>False) s:=by
 obtain⟨x,ox,xs,nx,t1,t2,rfl,hx,_,dx,ex⟩:=hv;obtain⟨y,oy,ys,ny,u1,u2,rfl,hy,_,dy,ey⟩:=hu;have e1:xs.size=2:=by rw[←Array.length_toList,ex];rfl
 have e2:ys.size=2:=by rw[←Array.length_toList,ey];rfl
 refine kat_lt hx dx hy dy ?_;rw[ex,ey,e1,e2,List.zip_cons_cons,List.zip_cons_cons,List.zip_nil_left];refine kat_cons (PySem.SeqAt.EqAt.int_int p.1 t1 q.1 u1 prog w _ _ ?_);unfold ltP at h;by_cases h1:p.1=q.1
 ·rw[if_pos h1] at h;have b1:(p.1==q.1)=true:=by exact if_pos ‹_›
  rw[b1];refine kat_yes (kat_cons (PySem.SeqAt.EqAt.int_int p.2 t2 q.2 u2 prog w _ _ ?_));by_cases h2:p.2=q.2
  ·have b2:(p.2==q.2)=true:=by exact if_pos ‹_›
   rw[b2];refine kat_yes (kat_nil ?_);have:decide (p.2<q.2)=decide ((2:Nat)<2):=by rw[h2];simp
   rw[←this];exact h
  ·have b2:(p.2==q.2)=false:=by exact if_neg ‹_›
   rw[b2];exact kat_no (kat_one _ _ (lt_int h))
 ·rw[if_neg h1] at h;have b1:(p.1==q.1)=false:=by exact if_neg ‹_›
  rw[b1];exact kat_no (oneLt_int h)
noncomputable def zoy{α:Type}(f:Nat->Nat->Bool):KasT α->α
 |.ret a=>a
 |.ask i j k=>zoy f (k (f i j))
noncomputable def zin{α:Type}(n:Nat)(f:Nat->Nat->Bool):KasT α->Bool
 |.ret _=>true
 |.ask i j k=>decide (i<n)&&decide (j<n)&&zin n f (k (f i j))
theorem znu:∀{α:Type} (n:Nat) (f:Nat->Nat->Bool) (i j:Nat) (k:Bool->W.KasT α),zin n f (W.KasT.ask i j k)=(decide (i<n)&&decide (j<n)&&zin n f (k (f i j))):=fun _ _ _ _ _=>rfl
theorem zkR{α:Type}{n:Nat}{cmp:Nat->Nat->(Bool->Shared->Prop)->Shared->Prop}{f:Nat->Nat->Bool}{G:α->Shared->Prop}(hc:∀i j C,i<n->j<n->C (f i j) s->cmp i j C s):∀(t:KasT α),zin n f t=true->G (zoy f t) s->t.kasWp cmp G s
 |.ret _,_,h=>h
 |.ask i j k,ho,h=>by
  simp only[znu,Bool.and_eq_true,decide_eq_true_eq] at ho;exact hc i j _ ho.1.1 ho.1.2 (zkR hc (k (f i j)) ho.2 h)
noncomputable def pr(i:Nat):Int×Int:=zcX.getD i (0,0)
noncomputable def zfn(is:List Nat):List Nat:=(List.range 4).filter fun i=>is.contains i
noncomputable def fOf(is:List Nat)(i j:Nat):Bool:=ltP (pr (is.getD i 0)) (pr (is.getD j 0))
noncomputable def sortOk(is:List Nat):Bool:=zin is.length (fOf is) (kas_sort is.length)&&((zoy (fOf is) (kas_sort is.length)).toList.map (fun i=>is.getD i 0)==zfn is)&&((zoy (fOf is) (kas_sort is.length)).toList.all fun i=>decide (i<is.length))
theorem zjT:((List.range 4).all fun a=>(List.range 4).all fun b=>(a==b)||(sortOk [a,b]&&(List.range 4).all fun c=>(a==c||b==c)||(sortOk [a,b,c]&&(List.range 4).all fun d=>(a==d||b==d||c==d)||sortOk [a,b,c,d])))=true:=by decide +kernel
end
end Mine
namespace Mine
open PySem PyProof.Rows PySem.Calls PySem.W
section
variable{prog:Program}{w:World}{A:Around}{E:Value->Shared->Prop}{s:Shared}
theorem zmf{d:Addr}{Q:Value->Shared->Prop}(hT:s.TypeIs (.ref d) "dict")(hd:(d==sysModules)=false)
  (h:Q (.ref s.heap.objs.size) {s with heap:=s.heap.push {cls:=.type "dict_keys",data:=.fields #[.ref d]}}):wpAny (model prog w) A (call (.builtin "dict.keys") [.ref d]) Q E s:=by
 refine wpAny_call_entry PySem.F.slot_dict_keys hT PySem.F.entry_dict_keys ?_ (PySem.F.args_dict_keys_1 _);refine wpAny_bind ?_;unfold Builtin.Dict.noArgs;refine wpAny_bind (wpAny_notOrdered_dict hT ?_);show wpAny _ _ (pure d) _ _ s;refine wpAny_pure ?_;show wpAny _ _ (Builtin.Dict.showsAll d >>= _) _ _ s;unfold Builtin.Dict.showsAll;rw[if_neg (by rw[hd];exact Bool.false_ne_true)];refine wpAny_bind (wpAny_pure ?_);exact wpAny_bind (wpAny_newObj_type (wpAny_pure ⟨_,rfl,h⟩))
theorem zjc{h:Heap}{vs:List Value}:∀{ps:List (Int×Int)},vs.length=ps.length->(∀(j:Nat) (v:Value) (p:Int×Int),vs[j]?=some v->ps[j]?=some p->zaQ h v p)->∃fs,KatTups h vs fs/\fs.length=vs.length/\∀f∈fs,∃i t,f=Value.int i t:=by
 induction vs with
 |nil=>intro ps hl _;exact⟨[],trivial,rfl,fun f hf=>absurd hf List.not_mem_nil⟩
 |cons v vs ih=>
  intro ps hl hp;rcases ps with _|⟨p,ps⟩
  ·exact absurd hl (Nat.succ_ne_zero _)
  obtain⟨fs,h1,h2,h3⟩:=ih (ps:=ps) (Nat.succ.inj hl) fun j v p e1 e2=>hp (j+1) v p e1 e2;obtain⟨x,o,xs,n,t,u,rfl,hx,hc,hd,e⟩:=hp 0 v p rfl rfl;refine⟨.int p.1 t::fs,KatTups.cons hx hc hd ?_ h1,congrArg (·+1) h2,fun f hf=>?_⟩
  ·rw[←Array.getElem?_toList,e];rfl
  ·exact(List.mem_cons.mp hf).elim (fun q=>⟨_,_,q⟩) (h3 f)
theorem ziV{vs:List Value}{ps:List (Int×Int)}{Q:SortKind->Shared->Prop}(hl:vs.length=ps.length)(h0:0<vs.length)(hp:∀(j:Nat) (v:Value) (p:Int×Int),vs[j]?=some v->ps[j]?=some p->zaQ s.heap v p)(h:Q (tuples' true) s):
  wpAny (model prog w) A (keyKind' vs.toArray) Q E s:=by
 obtain⟨fs,h1,h2,h3⟩:=zjc hl hp;refine kat_kind (T:=.type "int") h1 (by lia) (fun f hf=>?_) (by decide) (by
  have:(Value.type "int" != Value.type "tuple")=true:=by decide
  rw[this];exact h)
 obtain⟨i,t,rfl⟩:=h3 f hf;exact .now
theorem zaQ.keep{h h':Heap}{v:Value}{p:Int×Int}(x:zaQ h v p)(k:∀a o,v=.ref a->h.get? a=some o->h'.get? a=some o):zaQ h' v p:=
 by obtain⟨a,o,xs,n,t,u,e,ho,r1,r2,r3⟩:=x;exact⟨a,o,xs,n,t,u,e,k a o e ho,r1,r2,r3⟩
theorem zlI{is:List Nat}(h2:2<=is.length)(h4:is.length<=4)(hnd:is.Nodup)(hlt:∀i∈is,i<4):sortOk is=true:=by
 have all:=zjT;simp only[List.all_eq_true,Bool.or_eq_true,Bool.and_eq_true,beq_iff_eq,List.mem_range] at all
 match is,h2,h4 with
 |[a,b],_,_=>
  simp at hnd hlt;exact((all a hlt.1 b hlt.2).resolve_left hnd).1
 |[a,b,c],_,_=>
  simp at hnd hlt;have h1:=((all a hlt.1 b hlt.2.1).resolve_left hnd.1.1).2 c hlt.2.2;exact(h1.resolve_left (fun q=>q.elim hnd.1.2 hnd.2)).1
 |[a,b,c,d],_,_=>
  simp at hnd hlt;have h1:=((all a hlt.1 b hlt.2.1).resolve_left hnd.1.1).2 c hlt.2.2.1;have h2:=(h1.resolve_left (fun q=>q.elim hnd.1.2.1 hnd.2.1.1)).2 d hlt.2.2.2;exact h2.resolve_left (fun q=>q.elim (fun q=>q.elim hnd.1.2.2 hnd.2.1.2) hnd.2.2)
theorem zfT{is:List Nat}(h:is.length<2)(hlt:∀i∈is,i<4):zfn is=is:=by
 rcases is with _|⟨a,_|⟨b,t⟩⟩
 ·decide
 ·have ha:=hlt a List.mem_cons_self;rcases a with _|_|_|_|a<;>first|rfl|lia
 ·exact absurd h (Nat.not_lt.mpr (Nat.le_add_left 2 _))
theorem ziP{r d:Addr}{es:Array DictEntry}{ep:Nat}{is:List Nat}{Q:Value->Shared->Prop}(hh:A.handled=none)(hv:KdlKeysView s.heap r d)(hm:zcs s.heap d es ep)(hl:is.length=es.size)(h4:es.size<=4)(hnd:is.Nodup)(hlt:∀i∈is,i<4)
  (hp:∀(j:Nat) (e:DictEntry),es[j]?=some e->zaQ s.heap e.key (pr (is.getD j 0)))
  (hQ:∀h' tk D c (us:List Value),zA s.heap h'->s.heap.get? D=none->h'.get? D=some (seqObj "list" us.toArray c)->us.length=(zfn is).length->(∀(k:Nat) (u:Value),us[k]?=some u->∃(j:Nat) (e:DictEntry),es[j]?=some e/\u=e.key/\(zfn is)[k]?=some (is.getD j 0))->Q (.ref D) {s with heap:=h',toks:=tk}):
  wpAny (model prog w) A (call (.builtin "sorted") [.ref r]) Q E s:=by
 refine Calls.call_function_entry kind_sorted plain_sorted entry_sorted (args_sorted1 _) ?_;unfold Builtin.«sorted»;refine wpAny_bind (m:=checkCount "sorted" 1 1 _) (wpAny_pure ?_)
 refine wpAny_bind (zik hh hv hm (qA h4 (by decide)) fun h₁ tk k1=>?_);refine wpAny_bind (wpAny_newList ?_ (by simp;exact qA h4 (by decide)));generalize hvs:es.toList.map (·.key)=vs;have hvl:vs.length=es.size:=by rw[←hvs];exact List.length_map _
 have hoL:(h₁.push (seqObj "list" vs.toArray 0)).get? h₁.objs.size=some (seqObj "list" vs.toArray 0):=Heap.get?_push_size _ rfl
 have nD:s.heap.get? h₁.objs.size=none:=kI k1 (Heap.get?_none_of_le (Nat.le_refl _));have hat:∀{j:Nat} {v:Value},vs[j]?=some v->∃e,es[j]?=some e/\v=e.key:=fun {j v} q=>by
  rw[←hvs,List.getElem?_map] at q;cases z:es.toList[j]? with
  |none=>rw[z] at q;exact nn q
  |some e=>rw[z] at q;(obtain rfl:=soI q;clear q);exact⟨e,by simpa using z,rfl⟩
 refine wpAny_bind (wpAny_holding (wpAny_call_entry slot_list_sort ⟨_,hoL,rfl⟩ entry_list_sort ?_ (args_list_sort _)));by_cases h2:vs.length<2
 ·refine zjo hoL h2 fun h' c kx hD=>⟨_,rfl,wpAny_pure ⟨_,rfl,hQ h' tk _ c vs (fun a o e=>kx a o (fun q=>by rw[q,nD] at e;exact nn e) (Heap.get?_push_of_some _ (k1 a o e))) nD hD ?_ fun k u hu=>?_⟩⟩
  ·rw[zfT (by rw[hl,←hvl];exact h2) hlt,hl];exact hvl
  ·obtain⟨e,he,rfl⟩:=hat hu;have hk:k<is.length:=by rw[hl];exact(Array.getElem?_eq_some_iff.mp he).1
   exact⟨k,e,he,rfl,by rw[zfT (by rw[hl,←hvl];exact h2) hlt,List.getD_eq_getElem?_getD,List.getElem?_eq_getElem hk];rfl⟩
 ·have hsk:=zlI (by lia) (by lia) hnd hlt;simp only[sortOk,Bool.and_eq_true,beq_iff_eq,List.all_eq_true,decide_eq_true_eq] at hsk;obtain⟨⟨s1,s2⟩,s3⟩:=hsk;refine zja hoL (by exact Nat.not_lt.mp ‹_›) (by lia) fun e1 h' kx hD=>?_;have kk:zA s.heap h':=fun a o e=>kx a o (fun q=>by rw[q,nD] at e;exact nn e) (Heap.get?_push_of_some _ (k1 a o e));have hpp:∀(j:Nat) (v:Value),vs[j]?=some v->zaQ h' v (pr (is.getD j 0)):=fun j v q=>by
   obtain⟨e,he,rfl⟩:=hat q;exact(hp j e he).keep fun a o _ z=>kk a o z
  have hpi:∀i,i<is.length->zaQ h' (vs.getD i Value.none) (pr (is.getD i 0)):=fun i hi=>by
   have:vs[i]?=some vs[i]:=List.getElem?_eq_getElem (by lia);rw[List.getD_eq_getElem?_getD,this];exact hpp i _ this
  refine ziV (ps:=is.map pr) (by simp;lia) (by lia) (fun j v p q1 q2=>?_) ?_
  ·have h1:=hpp j v q1;rw[List.getElem?_map] at q2;cases z:is[j]? with
   |none=>rw[z] at q2;exact nn q2
   |some i=>rw[z] at q2;(obtain rfl:=soI q2;clear q2);rw[List.getD_eq_getElem?_getD,z] at h1;exact h1
  ·have hlen:vs.length=is.length:=by lia
   rw[hlen];refine zkR (n:=is.length) (f:=fOf is) (fun i j C hi hj hc=>zrV (hpi i hi) (hpi j hj) hc) _ s1 ⟨hD,fun h'' c2 hsb hD2=>⟨_,rfl,wpAny_pure ⟨_,rfl,?_⟩⟩⟩;refine hQ h'' tk _ c2 _ (fun a o e=>hsb.extBut a o (fun q=>by rw[q,nD] at e;exact nn e) (kk a o e)) nD hD2 (by rw[←s2];simp) fun k u hu=>?_;rw[List.getElem?_map] at hu;cases z:(zoy (fOf is) (kas_sort is.length)).toList[k]? with
   |none=>rw[z] at hu;exact nn hu
   |some j=>
    rw[z] at hu;(obtain rfl:=soI hu;clear hu);have hj:=s3 j (List.mem_of_getElem? z);have hv:vs[j]?=some vs[j]:=List.getElem?_eq_getElem (by lia);obtain⟨e,he,q⟩:=hat hv;refine⟨j,e,he,?_,?_⟩
    ·show vs.getD j Value.none=e.key;rw[List.getD_eq_getElem?_getD,hv];exact q
    ·rw[←s2,List.getElem?_map,z];rfl
end
end Mine
namespace Mine
open PySem PyProof.Rows PySem.Calls PySem.W
noncomputable def ixD:D->Nat
 |.tuple [.int i,.int j]=>(2*i+j).toNat
 |_=>0
theorem zce{k:D}(h:zcF k=true):ixD k<4/\∃i j,k=.tuple [.int i,.int j]/\pr (ixD k)=(i,j):=by
 induction k using PyData.casesOn with
 |tuple xs=>
  obtain⟨i,j,rfl,hij⟩:=zdo h;clear h;rcases hij with⟨rfl|rfl,rfl|rfl⟩
  ·exact⟨by decide,0,0,rfl,by decide⟩
  ·exact⟨by decide,0,1,rfl,by decide⟩
  ·exact⟨by decide,1,0,rfl,by decide⟩
  ·exact⟨by decide,1,1,rfl,by decide⟩
 |_=>exact ff h
theorem zhP:zcX=(List.range 4).map pr:=by decide
theorem zsA{kvs:List (D×D)}:(kvs.all fun kv=>zcF kv.1)=true->∀{i:Nat},i<4->(kD kvs (zcC (pr i))).isSome=(kvs.map fun kv=>ixD kv.1).contains i:=by
 induction kvs with
 |nil=>
  intro _ i _;exact rfl
 |cons zhd r ih=>
  obtain⟨k,v⟩:=zhd;intro h i hi;skip;simp only[List.all_cons,Bool.and_eq_true] at h;obtain⟨h1,a,b,rfl,h2⟩:=zce h.1;have ih:=ih h.2 hi;have key:jS (.tuple [.int a,.int b]) (zcC (pr i))=(i==ixD (.tuple [.int a,.int b])):=by
   have e:pr (ixD (.tuple [.int a,.int b]))=(a,b):=h2;generalize ixD (.tuple [.int a,.int b])=n at h1 e;have ha:a=(pr n).1:=by rw[e]
   have hb:b=(pr n).2:=by rw[e]
   rw[ha,hb];clear e h2 ha hb ih h;rcases i with _|_|_|_|i<;>rcases n with _|_|_|_|n<;>first|rfl|lia|decide
  simp only[zgy,List.map_cons,List.contains_cons,key];cases q:i==ixD (.tuple [.int a,.int b]) with
  |true=>rfl
  |false=>skip;exact ih
theorem zl0{kvs:List (D×D)}(h:(kvs.all fun kv=>zcF kv.1)=true):(zcX.filter fun p=>(kD kvs (zcC p)).isSome)=(zfn (kvs.map fun kv=>ixD kv.1)).map pr:=by
 rw[zhP,List.filter_map];congr 1;unfold zfn;refine List.filter_congr fun i hi=>?_;exact zsA h (List.mem_range.mp hi)
theorem zqt{P:Addr->Prop}{h:Heap}{l:List (List Int×Addr×Value)}{kvs:List (D×D)}(r:KVH P h l kvs):l.length=kvs.length/\∀(j:Nat) (x:List Int×Addr×Value),l[j]?=some x->P x.2.1/\∃a b d,x.1=[a,b]/\kvs[j]?=some (.tuple [.int a,.int b],d):=by
 induction r with
 |nil=>exact⟨rfl,fun j x e=>nn e⟩
 |@cons i j a v d l kvs p _ r ih=>
  refine⟨congrArg (·+1) ih.1,fun k x e=>?_⟩;induction k using Nat.casesOn with
  |zero=>(obtain rfl:=soI e;clear e);exact⟨p,i,j,d,rfl,rfl⟩
  |succ k=>exact ih.2 k x e
theorem zms{P:Addr->Prop}{h:Heap}{l:List (List Int×Addr×Value)}{kvs:List (D×D)}(r:KVH P h l kvs):(l.map (·.1)).Nodup->(kvs.all fun kv=>zcF kv.1)=true->(kvs.map fun kv=>ixD kv.1).Nodup:=by
 induction r with
 |nil=>intro _ _;exact .nil
 |@cons i j a v d l kvs p _ r ih=>
  intro hn hp;simp only[List.map_cons,List.nodup_cons,List.all_cons,Bool.and_eq_true] at hn hp ⊢;refine⟨fun hm=>?_,ih hn.2 hp.2⟩;obtain⟨kv,hkv,e⟩:=List.mem_map.mp hm;obtain⟨k,hk,ek⟩:=List.mem_iff_getElem.mp hkv;obtain⟨h1,h2⟩:=zqt r;have hkl:k<l.length:=by lia
  obtain⟨_,a,b,d,e1,e2⟩:=h2 k l[k] (List.getElem?_eq_getElem hkl);rw[List.getElem?_eq_getElem hk,ek] at e2;have hkv':kv.1=.tuple [.int a,.int b]:=by rw[Option.some.inj e2]
  have hpk:zcF kv.1=true:=(List.all_eq_true.mp hp.2) kv hkv;obtain⟨_,a1,b1,q1,q2⟩:=zce hp.1;obtain⟨_,a2,b2,q3,q4⟩:=zce hpk;rw[e] at q4;rw[q2] at q4;cases q1;rw[hkv'] at q3;cases q3;cases q4;exact hn.1 (List.mem_map.mpr ⟨l[k],List.getElem_mem hkl,e1⟩)
theorem zmt{P:Addr->Prop}{h:Heap}{vs:List Value}:∀{ds:List D},vs.length=ds.length->(∀(k:Nat) (v:Value) (d:D),vs[k]?=some v->ds[k]?=some d->Rep P h v d)->zi P h vs ds:=by
 induction vs with
 |nil=>intro ds hl _;cases List.length_eq_zero_iff.mp hl.symm;exact .nil
 |cons v vs ih=>
  intro ds hl hp;induction ds using List.casesOn with
  |nil=>exact absurd hl nofun
  |cons d ds=>exact .cons (hp 0 v d rfl rfl) (ih (Nat.succ.inj hl) fun k v d e1 e2=>hp (k+1) v d e1 e2)
section
variable{prog:Program}{w:World}{A:Around}{E:Value->Shared->Prop}{s:Shared}{T P:Addr->Prop}
theorem zi7{u:Value}{du d:D}{Q:Value->Shared->Prop}(hh:A.handled=none)(hP:km P s.heap)(ru:zl prog w T P s.heap u du)(h:zqv du=.ok d)(g:∀v s',Ch s s'->Rep P s'.heap v d->Q v s'):
  s.TypeIs u "dict"/\(∀a,u=.ref a->∃ob,s.heap.get? a=some ob/\ob.dict=none)/\wpAny (model prog w) A (call (.builtin "dict.keys") [u]) (fun v s₂=>wpAny (model prog w) A (call (.builtin "sorted") [v]) Q E s₂) E s:=by
 induction du using PyData.casesOn with
 |dict kvs=>
  obtain⟨hall,h'⟩:=ifS h
  (obtain rfl:=okI h';clear h')
  obtain⟨x,rfl,r⟩:=ru.inv_dict;have hsys:=r.1;obtain⟨l,m,q⟩:=r.tup (i:=[]) (by
   rw[List.all_eq_true] at hall ⊢;intro kv hkv;obtain⟨_,a,b,e,_⟩:=zce (hall kv hkv);rw[e];rfl)
  have hT:s.TypeIs (.ref x) "dict":=m.typeIs
  obtain⟨o,es,ep,ho,he,hd,hes,hi,hn⟩:=id m;obtain⟨hl,hat⟩:=zqt q;refine⟨hT,fun a e=>by cases e;exact⟨o,ho,he.2.1⟩,zmf hT hsys ?_⟩;have hsz:es.size=kvs.length:=by rw[←hl,←Array.length_toList,hes];exact List.length_map _
  have hnd:=zms q hn hall;have hlt:∀i∈(kvs.map fun kv=>ixD kv.1),i<4:=fun i hm=>by
   obtain⟨kv,hkv,e⟩:=List.mem_map.mp hm;rw[←e];exact(zce ((List.all_eq_true.mp hall) kv hkv)).1
  have h4:es.size<=4:=by
   rw[hsz];have:=hnd.length_le_of_subset (l₂:=List.range 4) (fun i hi=>List.mem_range.mpr (hlt i hi))
   simpa using this
  have zkS:∀(j:Nat) (e:DictEntry),es[j]?=some e->zxH P s.heap e.key (pr ((kvs.map fun kv=>ixD kv.1).getD j 0)):=by
   intro j e hje;have h1:es.toList[j]?=some e:=by rw[Array.getElem?_toList];exact hje
   rw[hes,List.getElem?_map] at h1;cases hy:l[j]? with
   |none=>rw[hy] at h1;exact nn h1
   |some y=>
    rw[hy] at h1
    (obtain rfl:=soI h1;clear h1)
    obtain⟨py,a,b,dd,e1,e2⟩:=hat j y hy;obtain⟨oy,its,ny,ho',hc',hd',hit⟩:=hi y (List.mem_of_getElem? hy);rw[e1] at hit;have hgd:(kvs.map fun kv=>ixD kv.1).getD j 0=ixD (.tuple [.int a,.int b]):=by
     rw[List.getD_eq_getElem?_getD,List.getElem?_map,e2];rfl
    have hpr:zcF (.tuple [.int a,.int b])=true:=(List.all_eq_true.mp hall) _ (List.mem_of_getElem? e2);obtain⟨_,a',b',q1,q2⟩:=zce hpr;cases q1;generalize hits:its.toList=il at hit;cases hit with
    |cons k1 k2=>cases k2 with
     |cons k3 k4=>
      cases k4
      obtain⟨t,rfl⟩:=Value.isInt_shape k1;obtain⟨u,rfl⟩:=Value.isInt_shape k3;exact⟨y.2.1,oy,its,ny,t,u,rfl,py,ho',hc',hd',by rw[hgd,q2];exact hits⟩
  refine ziP (s:={s with heap:=s.heap.push {cls:=.type "dict_keys",data:=.fields #[.ref x]}}) (r:=s.heap.objs.size) (d:=x) (es:=es) (ep:=ep) (is:=kvs.map fun kv=>ixD kv.1) hh ⟨_,Heap.get?_push_size _ rfl,rfl,rfl⟩ ⟨o,Heap.get?_push_of_some _ ho,hd⟩ (by simp[hsz]) h4 hnd hlt (fun j e hje=>?_) (fun h' tk D c us k nD hD hlen hus=>?_)
  ·obtain⟨y,oy,its,ny,t,u,e1,_,e3,e4,e5,e6⟩:=zkS j e hje;exact⟨y,oy,its,ny,t,u,e1,Heap.get?_push_of_some _ e3,e4,e5,e6⟩
  ·have kp:zA s.heap h':=fun a o e=>k a o (Heap.get?_push_of_some _ e);have nD':s.heap.get? D=none:=kI (zA.push _ _) nD;have hlist:=zl0 hall;refine g (.ref D) {s with heap:=h',toks:=tk} ⟨kp,rfl,id⟩ ?_;rw[hlist];refine .list (hP D nD') hD rfl rfl rfl (zmt (by simpa using hlen) fun kk v dd h1 h2=>?_) (by
    have:(zfn (kvs.map fun kv=>ixD kv.1)).length<=4:=qA (List.length_filter_le _ _) (by trivial);simp only[List.length_map];exact qA this (by decide))
   have h1':us[kk]?=some v:=h1;obtain⟨j,e,hje,rfl,hord⟩:=hus kk v h1';rw[List.getElem?_map,List.getElem?_map,hord] at h2;obtain⟨y,oy,its,ny,t,u,e1,py,e3,e4,e5,e6⟩:=zkS j e hje;rw[←soI h2,e1];exact .tuple py (kp _ _ e3) e4 e5 (by rw[e6];exact .cons (.int _ _) (.cons (.int _ _) .nil)) (by show(2:Nat)<=zp;decide)
 |_=>exact ns h
end
end Mine
namespace Mine
open PySem PyProof.Rows PySem.Calls
section
variable{prog:Program}{w:World}{zc:Heap}{G:List D}{cf:Nat->List D->R D}{n:Nat}{names:List (Str×NameKind)}{st:List VS}{b:Bool}{env:Env}{F:List zH}{K:List (Str×D)}{mg mb:Str->Option Value}
theorem zpX(B:kH F K mg mb zc){cx:Cx}(hL:Lnk cx env){f:Str}(hf:cx.isB f "sorted"=true){o:Expr}{p ap q pos:Pos}{a:PE}(hp:(ap.endLine==q.line)=true)(hs:j8 o=false)(ha:zt prog w zc G cf n names st true env (eval o env) a):
  zt prog w zc G cf n names st b env (eval (.Call (.Name f p) [.Call (.Attribute o (Str.ofString "keys") ap) [] [] q] [] pos) env) (.un .keys a):=
 kS (W:=fun A Q E u s=>s.TypeIs u "dict"/\(∀a,u=.ref a->∃ob,s.heap.get? a=some ob/\ob.dict=none)/\wpAny (model prog w) A (call (.builtin "dict.keys") [u]) (fun v s₂=>wpAny (model prog w) A (call (.builtin "sorted") [v]) Q E s₂) E s)
  (fun ec h=>zcL B hL hf zh1 ziR (.inl ⟨_,rfl⟩) ec.stays ec.kind ec.globals ec.builtins (fun _ _ z=>by cases z) (zwh hs hp PySem.F.plainAttrs_dict PySem.F.slot_dict_keys PySem.F.type_dict_keys h))
  (fun ec ru hd g=>zi7 ec.handled ec.pnew ru hd g) ha
end
end Mine
namespace Mine
open PySem PyProof.Rows PySem.Calls
theorem zS{fu:Nat}{cx:Cx}{e:Expr}{pe:PE}(h:trE fu cx e=some pe):zy e:=by
 intro x p q;subst q;cases fu<;>exact nn h
theorem zcP{fu:Nat}{cx:Cx}{e:Expr}{pe:PE}(h:trE fu cx e=some pe):∀es k p,e≠.Set es k p:=by
 intro es k p q;subst q;cases fu<;>exact nn h
theorem ziM{e:Expr}{env:Env}(h:∀es k p,e≠.Set es k p)(x:Value):foldedSetIterable e env x=pure x:=by
 cases e<;>first|rfl|exact absurd rfl (h _ _ _)
inductive TE(n:Nat)(cx:Cx):Expr->PE->Prop
 |lit{c:Const}{k:Nat}{p:Pos}{l:Lit}(h:zft c=some l):TE n cx (.Constant c k p) (.lit l)
 |var{x:Str}{p:Pos}{i:Nat}(h:cx.var? x=some i):TE n cx (.Name x p) (.var i)
 |glob{x:Str}{p:Pos}{i:Nat}(h:cx.const? x=some i):TE n cx (.Name x p) (.glob i)
 |and_{vs:List Expr}{p:Pos}{es:List PE}{pe:PE}(h:2<=vs.length)(h1:vs.mapM (trE n cx)=some es)(h2:zaw es=some pe):TE n cx (.BoolOp .And vs p) pe
 |or_{vs:List Expr}{p:Pos}{es:List PE}{pe:PE}(h:2<=vs.length)(h1:vs.mapM (trE n cx)=some es)(h2:zbV es=some pe):TE n cx (.BoolOp .Or vs p) pe
 |bin{l r:Expr}{op:Operator}{p:Pos}{o:Bin}{a b:PE}(h:zgj op=some o)(h1:trE n cx l=some a)(h2:trE n cx r=some b):TE n cx (.BinOp l op r p) (.bin o a b)
 |not{x:Expr}{p:Pos}{a:PE}(h:trE n cx x=some a):TE n cx (.UnaryOp .Not x p) (.un .not a)
 |neg{x:Expr}{p:Pos}{a:PE}(h:trE n cx x=some a):TE n cx (.UnaryOp .USub x p) (.un .neg a)
 |ite{c x y:Expr}{p:Pos}{d a b:PE}(h:trE n cx c=some d)(h1:trE n cx x=some a)(h2:trE n cx y=some b):TE n cx (.IfExp c x y p) (.ite d a b)
 |list{es:List Expr}{p:Pos}{xs:List PE}(h:es.length<=1000)(h1:es.mapM (trE n cx)=some xs):TE n cx (.List es p) (.list (jW xs))
 |tup{es:List Expr}{k:Nat}{p:Pos}{xs:List PE}(h:es.length<=1000)(h1:es.mapM (trE n cx)=some xs):TE n cx (.Tuple es k p) (.tup (jW xs))
 |tyIs{f b:Str}{x:Expr}{p1 p2 p3 p:Pos}{t:Ty}{a:PE}(hf:cx.isB f "type"=true)(ht:ty? cx b=some t)(h:trE n cx x=some a):TE n cx (.Compare (.Call (.Name f p1) [x] [] p2) [.Is] [.Name b p3] p) (.un (.tyIs t) a)
 |tyNot{f b:Str}{x:Expr}{p1 p2 p3 p:Pos}{t:Ty}{a:PE}(hf:cx.isB f "type"=true)(ht:ty? cx b=some t)(h:trE n cx x=some a):TE n cx (.Compare (.Call (.Name f p1) [x] [] p2) [.IsNot] [.Name b p3] p) (.un (.tyNot t) a)
 |isNone{l:Expr}{k:Nat}{p1 p:Pos}{a:PE}(h:trE n cx l=some a):TE n cx (.Compare l [.Is] [.Constant .none k p1] p) (.un .isNone a)
 |notNone{l:Expr}{k:Nat}{p1 p:Pos}{a:PE}(h:trE n cx l=some a):TE n cx (.Compare l [.IsNot] [.Constant .none k p1] p) (.un .notNone a)
 |isB{l:Expr}{k:Nat}{p1 p:Pos}{b:Bool}{a:PE}(h:trE n cx l=some a):TE n cx (.Compare l [.Is] [.Constant (.bool b) k p1] p) (.un (.isB b) a)
 |notB{l:Expr}{k:Nat}{p1 p:Pos}{b:Bool}{a:PE}(h:trE n cx l=some a):TE n cx (.Compare l [.IsNot] [.Constant (.bool b) k p1] p) (.un (.notB b) a)
 |cmp{l r:Expr}{op:CmpOp}{p:Pos}{o:Bin}{a b:PE}(h:zgn op=some o)(h1:trE n cx l=some a)(h2:trE n cx r=some b):TE n cx (.Compare l [op] [r] p) (.bin o a b)
 |keys{f:Str}{o:Expr}{p1 p2 p ap:Pos}{a:PE}(hf:cx.isB f "sorted"=true)(hp:(ap.endLine==p2.line)=true)(hs:j8 o=false)(h:trE n cx o=some a):TE n cx (.Call (.Name f p1) [.Call (.Attribute o ("keys" : Str) ap) [] [] p2] [] p) (.un .keys a)
 |call{f:Str}{x:Expr}{xs:List Expr}{p1 p:Pos}{i:Nat}{es:List PE}(hf:cx.fun? f=some i)(h:(x::xs).mapM (trE n cx)=some es):TE n cx (.Call (.Name f p1) (x::xs) [] p) (.call i (jW es))
 |bi1{f:Str}{x:Expr}{p1 p:Pos}{u:Un}{a:PE}(hf:zwp cx f=some u)(h:trE n cx x=some a):TE n cx (.Call (.Name f p1) [x] [] p) (.un u a)
 |bi2{f:Str}{x y:Expr}{p1 p:Pos}{o:Bin}{a b:PE}(hf:zvM cx f=some o)(h:trE n cx x=some a)(h1:trE n cx y=some b):TE n cx (.Call (.Name f p1) [x,y] [] p) (.bin o a b)
 |m1{o x:Expr}{m:Str}{ap p:Pos}{k:M1}{a b:PE}(hm:m1? m=some k)(hp:(ap.endLine==p.line)=true)(hs:j8 o=false)(h:trE n cx o=some a)(h1:trE n cx x=some b):TE n cx (.Call (.Attribute o m ap) [x] [] p) (.m1 k a b)
 |get{o x y:Expr}{ap p:Pos}{a b d:PE}(hp:(ap.endLine==p.line)=true)(hs:j8 o=false)(h:trE n cx o=some a)(h1:trE n cx x=some b)(h2:trE n cx y=some d):TE n cx (.Call (.Attribute o ("get" : Str) ap) [x,y] [] p) (.m2 .get a b d)
 |upto{v u:Expr}{p1 p:Pos}{a b:PE}(h:trE n cx v=some a)(h1:trE n cx u=some b):TE n cx (.Subscript v (.Slice none (some u) none p1) p) (.bin .upto a b)
 |from_{v l:Expr}{p1 p:Pos}{a b:PE}(h:trE n cx v=some a)(h1:trE n cx l=some b):TE n cx (.Subscript v (.Slice (some l) none none p1) p) (.bin .from_ a b)
 |both{v l u:Expr}{p1 p:Pos}{a b d:PE}(h:trE n cx v=some a)(h1:trE n cx l=some b)(h2:trE n cx u=some d):TE n cx (.Subscript v (.Slice (some l) (some u) none p1) p) (.tri .slice a b d)
 |idx{v i:Expr}{p:Pos}{a b:PE}(h:trE n cx v=some a)(h1:trE n cx i=some b):TE n cx (.Subscript v i p) (.bin .idx a b)
 |comp{elt t it:Expr}{ifs:List Expr}{r:List Comprehension}{scope:Scope}{p:Pos}{q:Bool×PE}{caps:List (Option Nat)}{tg:Tg}{g:PG}(hs:zbn scope=true)(h1:it? (trE n) cx it=some q)(h2:zcE cx scope.names=some caps)
   (h3:zaA {cx with names:=scope.names} t=some tg)(h4:zeI (trE n) {cx with names:=scope.names} elt ifs r=some g):TE n cx (.ListComp elt (⟨t,it,ifs,0⟩::r) scope p) (.comp caps q.1 q.2 tg g)
section
variable{n:Nat}{cx:Cx}{pe:PE}
theorem zn2{ng:Bool}{l r:Expr}{p:Pos}(h:is? (trE n) cx ng l r=some pe):TE n cx (.Compare l [bif ng then .IsNot else .Is] [r] p) pe:=by
 induction r using PySem.Expr.casesOn with
 |Constant c k q=>
  replace h:=ob h;obtain⟨u,h1,h⟩:=h;replace h:=ob h;obtain⟨a,h2,h⟩:=h
  (obtain rfl:=soI h;clear h)
  cases c<;>first|exact nn h1|((obtain rfl:=soI h1;clear h1);cases ng<;>first|exact .isNone h2|exact .notNone h2|exact .isB h2|exact .notB h2)
 |Name b q=>
  replace h:=ob h;obtain⟨q,h1,h⟩:=h;replace h:=ifn h;obtain⟨hf,h⟩:=h;replace h:=ob h;obtain⟨t,h2,h⟩:=h;replace h:=ob h;obtain⟨a,h3,h⟩:=h
  (obtain rfl:=soI h;clear h);cases zdT h1
  cases ng
  ·exact .tyIs hf h2 h3
  ·exact .tyNot hf h2 h3
 |_=>exact nn h
theorem zrR{l r:Expr}{op:CmpOp}{p:Pos}(h:zwD (trE n) cx l op r=some pe):TE n cx (.Compare l [op] [r] p) pe:=by
 have key:zug (trE n) cx l op r=some pe->TE n cx (.Compare l [op] [r] p) pe:=fun h=>by
  replace h:=ob h;obtain⟨o,h1,h⟩:=h;replace h:=ob h;obtain⟨a,h2,h⟩:=h;replace h:=ob h;obtain⟨b,h3,h⟩:=h
  (obtain rfl:=soI h;clear h);exact .cmp h1 h2 h3
 induction op using PySem.CmpOp.casesOn with
 |Is=>exact zn2 (ng:=false) h
 |IsNot=>exact zn2 (ng:=true) h
 |_=>exact key h
theorem zsa{v i:Expr}{p:Pos}(h:zxQ (trE n) cx v i=some pe):TE n cx (.Subscript v i p) pe:=by
 rcases ifo h with⟨hc,h⟩|⟨_,h⟩
 ·induction i using PySem.Expr.casesOn with
  |Slice l u s q=>
   replace h:=ifn h;obtain⟨h1,h⟩:=h;induction s using Option.casesOn with
   |some=>exact ff h1
   |none=>
    induction l using Option.casesOn with
    |none=>induction u using Option.casesOn with
     |none=>exact nn h
     |some u=>
      replace h:=ob h;obtain⟨a,h2,h⟩:=h;replace h:=ob h;obtain⟨b,h3,h⟩:=h
      (obtain rfl:=soI h;clear h);exact .upto h2 h3
    |some l=>induction u using Option.casesOn with
     |none=>
      replace h:=ob h;obtain⟨a,h2,h⟩:=h;replace h:=ob h;obtain⟨b,h3,h⟩:=h
      (obtain rfl:=soI h;clear h);exact .from_ h2 h3
     |some u=>
      replace h:=ob h;obtain⟨a,h2,h⟩:=h;replace h:=ob h;obtain⟨b,h3,h⟩:=h;replace h:=ob h;obtain⟨d,h4,h⟩:=h
      (obtain rfl:=soI h;clear h);exact .both h2 h3 h4
  |_=>exact nn h
 ·replace h:=ob h;obtain⟨a,h2,h⟩:=h;replace h:=ob h;obtain⟨b,h3,h⟩:=h
  (obtain rfl:=soI h;clear h);exact .idx h2 h3
theorem zcQ{a:Str}{b:String}(h:(a==Str.ofString b)=true):a=Str.ofString b:=eq_of_beq h
inductive zun(p:Pos)(o:Expr):Expr->Prop
 |mk(ap:Pos)(hp:(ap.endLine==p.line)=true)(hs:j8 o=false):zun p o (.Attribute o ("keys" : Str) ap)
theorem zl4{p:Pos}{o e:Expr}(h:znM p e=some o):zun p o e:=by
 induction e using PySem.Expr.casesOn with
 |Attribute o' k ap=>
  replace h:=ifn h;obtain⟨hc,h⟩:=h
  (obtain rfl:=soI h;clear h)
  cases zcQ (an1 hc)
  exact⟨ap,an1 (an2 hc),nt1 (an2 (an2 hc))⟩
 |_=>exact nn h
inductive zwu(o:Expr):List Expr->Prop
 |mk(ap p:Pos)(hp:(ap.endLine==p.line)=true)(hs:j8 o=false):zwu o [.Call (.Attribute o ("keys" : Str) ap) [] [] p]
theorem znZ{args:List Expr}{o:Expr}(h:ztK args=some o):zwu o args:=by
 obtain⟨e,h1,g⟩:=ob h;replace g:=ob g;obtain⟨⟨f,as,p⟩,h2,g⟩:=g;replace g:=ifn g;obtain⟨k3,g⟩:=g;have h3:as=[]:=emp k3;clear k3;obtain⟨ap,h4,h5⟩:zun p o f:=zl4 g;clear h;cases kE h1;cases zc0 h2;subst h3;exact⟨ap,p,h4,h5⟩
theorem zlE{f:Str}{args:List Expr}{p1 p:Pos}(h:zoa (trE n) cx f args=some pe):TE n cx (.Call (.Name f p1) args [] p) pe:=by
 rcases ifo h with⟨hf,h⟩|⟨_,h⟩
 ·replace h:=ob h;obtain⟨o,h1,h⟩:=h;replace h:=ob h;obtain⟨a,h2,h⟩:=h
  (obtain rfl:=soI h;clear h)
  obtain⟨ap,p,h3,h4⟩:=znZ h1;exact .keys hf h3 h4 h2
 ·cases hi:cx.fun? f with
  |some i=>
   rw[hi] at h;replace h:=ifn h;obtain⟨h1,h⟩:=h;replace h:=ob h;obtain⟨xs,h2,h⟩:=h
   (obtain rfl:=soI h;clear h)
   induction args using List.casesOn with
   |nil=>exact tf h1
   |cons x xs=>exact .call hi h2
  |none=>
   rw[hi] at h;induction args using List.casesOn with
   |nil=>exact nn h
   |cons x r=>
    replace h:=ob h;obtain⟨a,h1,h⟩:=h;induction r using List.casesOn with
    |nil=>
     replace h:=ob h;obtain⟨u,h2,h⟩:=h
     (obtain rfl:=soI h;clear h);exact .bi1 h2 h1
    |cons y r=>
     replace h:=ifn h;obtain⟨h3,h⟩:=h;replace h:=ob h;obtain⟨o,h2,h⟩:=h;replace h:=ob h;obtain⟨b,h4,h⟩:=h
     (obtain rfl:=soI h;clear h);cases emp h3;exact .bi2 h2 h1 h4
theorem zl1{f:Expr}{args:List Expr}{p:Pos}(h:zqi (trE n) cx args p f=some pe):TE n cx (.Call f args [] p) pe:=by
 induction f using PySem.Expr.casesOn with
 |Name f q=>exact zlE h
 |Attribute o m ap=>
  replace h:=ifn h;obtain⟨hc,h⟩:=h;replace h:=ob h;obtain⟨a,h1,h⟩:=h;induction args using List.casesOn with
  |nil=>exact nn h
  |cons x r=>
   replace h:=ob h;obtain⟨b,h2,h⟩:=h;induction r using List.casesOn with
   |nil=>
    replace h:=ob h;obtain⟨k,h3,h⟩:=h
    (obtain rfl:=soI h;clear h);exact .m1 h3 (an1 hc) (nt1 (an2 hc)) h1 h2
   |cons y r=>
    replace h:=ifn h;obtain⟨hg,h⟩:=h;replace h:=ob h;obtain⟨d,h3,h⟩:=h
    (obtain rfl:=soI h;clear h);cases zcQ (an1 hg);cases emp (an2 hg)
    exact .get (an1 hc) (nt1 (an2 hc)) h1 h2 h3
 |_=>exact nn h
theorem zlQ{elt:Expr}{gens:List Comprehension}{scope:Scope}{p:Pos}(h:znQ (trE n) cx elt scope gens=some pe):TE n cx (.ListComp elt gens scope p) pe:=by
 induction gens using List.casesOn with
 |nil=>exact nn h
 |cons c r=>
  obtain⟨t,it,ifs,a⟩:=c;replace h:=ifn h;obtain⟨⟨ha,hs⟩,h⟩:=h;replace h:=ob h;obtain⟨q,h1,h⟩:=h;replace h:=ob h;obtain⟨caps,h2,h⟩:=h;replace h:=ob h;obtain⟨tg,h3,h⟩:=h;replace h:=ob h;obtain⟨g,h4,h⟩:=h
  (obtain rfl:=soI h;clear h);cases ha;exact .comp hs h1 h2 h3 h4
theorem zll{e:Expr}(h:trE (n+1) cx e=some pe):TE n cx e pe:=by
 induction e using PySem.Expr.casesOn with
 |Constant c k p=>replace h:=ob h;obtain⟨l,h1,h⟩:=h;(obtain rfl:=soI h;clear h);exact .lit h1
 |Name x p=>
  have h:znm cx x (cx.var? x)=some pe:=h;cases hv:cx.var? x with
  |some i=>rw[hv] at h;(obtain rfl:=soI h;clear h);exact .var hv
  |none=>rw[hv] at h;replace h:=ob h;obtain⟨i,h1,h⟩:=h;(obtain rfl:=soI h;clear h);exact .glob h1
 |BoolOp op vs p=>
  replace h:=ifn h;obtain⟨h1,h⟩:=h;replace h:=ob h;obtain⟨es,h2,h⟩:=h;cases op
  ·exact .and_ h1 h2 h
  ·exact .or_ h1 h2 h
 |BinOp l op r p=>
  replace h:=ob h;obtain⟨o,h1,h⟩:=h;replace h:=ob h;obtain⟨a,h2,h⟩:=h;replace h:=ob h;obtain⟨b,h3,h⟩:=h
  (obtain rfl:=soI h;clear h);exact .bin h1 h2 h3
 |UnaryOp op x p=>
  replace h:=ob h;obtain⟨o,h1,h⟩:=h;replace h:=ob h;obtain⟨a,h2,h⟩:=h
  (obtain rfl:=soI h;clear h)
  cases op<;>first|exact nn h1|((obtain rfl:=soI h1;clear h1);first|exact .not h2|exact .neg h2)
 |IfExp c x y p=>
  replace h:=ob h;obtain⟨o,h1,h⟩:=h;replace h:=ob h;obtain⟨a,h2,h⟩:=h;replace h:=ob h;obtain⟨b,h3,h⟩:=h
  (obtain rfl:=soI h;clear h);exact .ite h1 h2 h3
 |List es p=>replace h:=ifn h;obtain⟨h1,h⟩:=h;replace h:=ob h;obtain⟨xs,h2,h⟩:=h;(obtain rfl:=soI h;clear h);exact .list h1 h2
 |Tuple es k p=>replace h:=ifn h;obtain⟨h1,h⟩:=h;replace h:=ob h;obtain⟨xs,h2,h⟩:=h;(obtain rfl:=soI h;clear h);exact .tup h1 h2
 |Compare l ops rs p=>
  replace h:=ob h;obtain⟨op,h1,h⟩:=h;replace h:=ob h;obtain⟨r,h2,h⟩:=h;cases kE h1;cases kE h2;exact zrR h
 |Call f args kws p=>replace h:=ifn h;obtain⟨h1,h⟩:=h;cases emp h1;exact zl1 h
 |Subscript v i p=>exact zsa h
 |ListComp elt gens scope p=>exact zlQ h
 |_=>exact nn h
theorem zp8{x:Str}{t:Ty}(h:ty? cx x=some t):cx.isB x (zcJ t)=true:=by
 rcases ifo h with⟨hc,h⟩|⟨_,h⟩
 ·(obtain rfl:=soI h;clear h);exact hc
 ·replace h:=ifn h;obtain⟨hc,h⟩:=h;(obtain rfl:=soI h;clear h);exact hc
theorem zuB{m:Str}{k:M1}(h:m1? m=some k):m=Str.ofString (zbh k).2.1:=by
 rcases ifo h with⟨hc,h⟩|⟨_,h⟩
 ·(obtain rfl:=soI h;clear h);exact zcQ hc
 rcases ifo h with⟨hc,h⟩|⟨_,h⟩
 ·(obtain rfl:=soI h;clear h);exact zcQ hc
 rcases ifo h with⟨hc,h⟩|⟨_,h⟩
 ·(obtain rfl:=soI h;clear h);exact zcQ hc
 obtain⟨hc,h⟩:=ifn h;(obtain rfl:=soI h;clear h);exact zcQ hc
end
noncomputable def kX(prog:Program)(w:World)(zc:Heap)(G:List D)(cf:Nat->List D->R D)(n:Nat)(names:List (Str×NameKind))(env:Env)(e:Expr)(pe:PE):Prop:=
 ∀st,(∀b,lkE st b pe=true->zt prog w zc G cf n names st b env (eval e env) pe)/\(lkE st true pe=true->zaR prog w zc G cf n names st env (isTrue e env (eval e env)) pe)
section
variable{prog:Program}{w:World}{zc:Heap}{G:List D}{cf:Nat->List D->R D}{n:Nat}{names:List (Str×NameKind)}{env:Env}{F:List zH}{K:List (Str×D)}{mg mb:Str->Option Value}
theorem zX{e:Expr}{pe:PE}(h:∀st b,lkE st b pe=true->zt prog w zc G cf n names st b env (eval e env) pe)(he:isTrue e env (eval e env)=(do let v ←eval e env;standAt e.pos;holding [v] (truthy v))):kX prog w zc G cf n names env e pe:=
 fun st=>⟨fun b hb=>h st b hb,fun hb=>zil (h st true hb) fun hw=>wpAny_isTrue_value hw he⟩
theorem kN{l r:Expr}{op:CmpOp}{pos:Pos}{pe:PE}(hn:∀es k p,r≠.Set es k p)(h:∀st b,lkE st b pe=true->zt prog w zc G cf n names st b env (eval (.Compare l [op] [r] pos) env) pe):kX prog w zc G cf n names env (.Compare l [op] [r] pos) pe:=
 fun st=>⟨fun b hb=>h st b hb,fun hb=>zil (h st true hb) fun hw=>zfC hn hw⟩
theorem zog{st:List VS}{c x y:Expr}{pos:Pos}{whole:Sem Value}{pc px py:PE}(hc:zaR prog w zc G cf n names st env (isTrue c env (eval c env)) pc)
  (hx:zaR prog w zc G cf n names st env (isTrue x env (eval x env)) px)(hy:zaR prog w zc G cf n names st env (isTrue y env (eval y env)) py):
  zaR prog w zc G cf n names st env (isTrue (.IfExp c x y pos) env whole) (.ite pc px py):=by
 intro P A fs s ρ Q E ec vo hok hve hns;simp only[zp1] at hok hve hns;show wpAny (model prog w) A (do if ←isTrue c env (eval c env) then isTrue x env (eval x env) else isTrue y env (eval y env)) Q E s;refine wpAny_bind (hc P A fs s ρ _ E ec vo (fun t s₁ hd c1=>?_) (fun hd=>hve (by rw[hd];rfl)) (fun hd=>hns ?_))
 ·rw[hd] at hok hve hns;induction t using Bool.casesOn with
  |true=>
   exact hx P A fs s₁ ρ Q E (ec.keep c1.keep) (vo.keep prog w c1.keep) (fun t s₂ h2 c2=>hok t s₂ h2 (c1.trans c2)) (fun h2 x s' q=>hve h2 x s' (q.after c1)) hns
  |false=>
   exact hy P A fs s₁ ρ Q E (ec.keep c1.keep) (vo.keep prog w c1.keep) (fun t s₂ h2 c2=>hok t s₂ h2 (c1.trans c2)) (fun h2 x s' q=>hve h2 x s' (q.after c1)) hns
 ·first|exact btt hd|exact bts hd
theorem zc3{st:List VS}{es:List PE}:zgl st (jW es)=true->∀e∈es,lkE st false e=true:=by
 induction es with
 |nil=>
  intro _ e he;cases he
 |cons a r ih=>
  intro h e he;skip;cases he with
  |head=>exact an1 h
  |tail _ he=>exact ih (an2 h) e he
theorem zds{st:List VS}{fu:Nat}{cx:Cx}(ih:∀e pe,trE fu cx e=some pe->kX prog w zc G cf n names env e pe){as:List Expr}:
  ∀{es:List PE},as.mapM (trE fu cx)=some es->(∀e∈es,lkE st false e=true)->zaz (One prog w zc G cf n names st env) as es:=by
 induction as with
 |nil=>intro es h _;cases mm0 h;exact .nil
 |cons a as ih'=>
  intro es h hl;obtain⟨pe,es,h1,h2⟩:=mm h;exact .cons ⟨zS h1,(ih a pe h1 st).1 false (hl _ (List.mem_cons_self ..))⟩ (ih' h2 fun e he=>hl e (List.mem_cons_of_mem _ he))
theorem zlq{st:List VS}:∀{es:List PE} {pe:PE} {b:Bool},zaw es=some pe->(2<=es.length\/b=true)->lkE st b pe=true->∀e∈es,lkE st true e=true
 |[],_,_,h,_,_,_,_=>by exact nn h
 |[a],pe,b,h,h2,hl,e,he=>by
  (obtain rfl:=soI h;clear h)
  have:b=true:=h2.elim (fun q=>by simp at q) id;subst this;cases he with
  |head=>exact hl
  |tail _ he=>cases he
 |a::c::r,pe,b,h,_,hl,e,he=>by
  simp only[zaw] at h;cases h1:zaw (c::r) with
  |none=>rw[h1] at h;exact nn h
  |some q=>
   rw[h1] at h
   (obtain rfl:=soI h;clear h)
   cases he with
   |head=>exact an1 hl
   |tail _ he=>exact zlq h1 (.inr rfl) (an2 hl) e he
theorem zm7{st:List VS}:∀{es:List PE} {pe:PE} {b:Bool},zbV es=some pe->(2<=es.length\/b=true)->lkE st b pe=true->∀e∈es,lkE st true e=true
 |[],_,_,h,_,_,_,_=>by exact nn h
 |[a],pe,b,h,h2,hl,e,he=>by
  (obtain rfl:=soI h;clear h)
  have:b=true:=h2.elim (fun q=>by simp at q) id;subst this;cases he with
  |head=>exact hl
  |tail _ he=>cases he
 |a::c::r,pe,b,h,_,hl,e,he=>by
  simp only[zbV] at h;cases h1:zbV (c::r) with
  |none=>rw[h1] at h;exact nn h
  |some q=>
   rw[h1] at h
   (obtain rfl:=soI h;clear h)
   cases he with
   |head=>exact an1 hl
   |tail _ he=>exact zm7 h1 (.inr rfl) (an2 hl) e he
theorem zmA{es:List PE}{pe:PE}(h2:2<=es.length)(h:zaw es=some pe):∃x y,pe=.and_ x y:=by
 induction es using List.casesOn with
 |nil=>exact nn h
 |cons a r=>induction r using List.casesOn with
  |nil=>simp at h2
  |cons c r=>
   simp only[zaw] at h;cases h1:zaw (c::r) with
   |none=>rw[h1] at h;exact nn h
   |some q=>rw[h1] at h;(obtain rfl:=soI h;clear h);exact⟨_,_,rfl⟩
theorem zp7{es:List PE}{pe:PE}(h2:2<=es.length)(h:zbV es=some pe):∃x y,pe=.or_ x y:=by
 induction es using List.casesOn with
 |nil=>exact nn h
 |cons a r=>induction r using List.casesOn with
  |nil=>simp at h2
  |cons c r=>
   simp only[zbV] at h;cases h1:zbV (c::r) with
   |none=>rw[h1] at h;exact nn h
   |some q=>rw[h1] at h;(obtain rfl:=soI h;clear h);exact⟨_,_,rfl⟩
theorem zfM{st:List VS}{b:Bool}{t:Sem Value}{pe:PE}(hb:∀ρ d,ev G cf pe ρ=.ok d->∃c,d=.bool c)(h:zt prog w zc G cf n names st true env t pe):zt prog w zc G cf n names st b env t pe:=by
 intro P A fs s ρ Q E ec vo hok hve hns;refine h P A fs s ρ Q E ec vo (fun d v s' hd c r=>?_) hve hns;obtain⟨c',rfl⟩:=hb ρ d hd;have:=r.inv_bool;subst this;exact hok _ _ _ hd c (.rep (.bool _))
theorem zpK{a c:PE}(ρ:ze)(d:D)(h:ev G cf (.and_ a c) ρ=.ok d):∃c,d=.bool c:=by
 replace h:=rb h;obtain⟨x,_,h⟩:=h;replace h:=rb h;obtain⟨t,_,h⟩:=h;induction t using Bool.casesOn with
 |false=>(obtain rfl:=okI h;clear h);exact⟨_,rfl⟩
 |true=>replace h:=rb h;obtain⟨y,_,h⟩:=h;replace h:=rb h;obtain⟨u,_,h⟩:=h;(obtain rfl:=okI h;clear h);exact⟨_,rfl⟩
theorem zrH{a c:PE}(ρ:ze)(d:D)(h:ev G cf (.or_ a c) ρ=.ok d):∃c,d=.bool c:=by
 replace h:=rb h;obtain⟨x,_,h⟩:=h;replace h:=rb h;obtain⟨t,_,h⟩:=h;induction t using Bool.casesOn with
 |true=>(obtain rfl:=okI h;clear h);exact⟨_,rfl⟩
 |false=>replace h:=rb h;obtain⟨y,_,h⟩:=h;replace h:=rb h;obtain⟨u,_,h⟩:=h;(obtain rfl:=okI h;clear h);exact⟨_,rfl⟩
theorem zkl{st:List VS}{fu:Nat}{cx:Cx}(ih:∀e pe,trE fu cx e=some pe->kX prog w zc G cf n names env e pe){as:List Expr}:
  ∀{es:List PE},as.mapM (trE fu cx)=some es->(∀e∈es,lkE st true e=true)->zaz (EvT prog w zc G cf n names st env) as es:=by
 induction as with
 |nil=>intro es h _;cases mm0 h;exact .nil
 |cons a as ih'=>
  intro es h hl;obtain⟨pe,es,h1,h2⟩:=mm h;exact .cons ⟨(ih a pe h1 st).1 true (hl _ (List.mem_cons_self ..)),(ih a pe h1 st).2 (hl _ (List.mem_cons_self ..))⟩ (ih' h2 fun e he=>hl e (List.mem_cons_of_mem _ he))
theorem zdl{α β:Type}{f:α->Option β}{as:List α}:∀{bs:List β},as.mapM f=some bs->bs.length=as.length:=by
 induction as with
 |nil=>intro bs h;cases mm0 h;rfl
 |cons a as ih=>intro bs h;obtain⟨b,bs,_,h2⟩:=mm h;exact congrArg (·+1) (ih h2)
theorem zif{cx:Cx}{scope:Scope}{cl:List (Str×Addr)}{C:Addr}(hL:Lnk cx env){caps:List (Option Nat)}(hcaps:zcE cx scope.names=some caps)(hcell:∀y∈scope.names,y.2≠.cell)(hcl2:∀x∈scope.names,x.2=.free->cl.lookup x.1=env.cells.lookup x.1):
  Lnk {cx with names:=scope.names} (compEnvC scope cl C env) where
 glob:=fun x hx=>by
  rcases zam (env:=env) hx with q|⟨q,_⟩
  ·exact q
  ·cases q
 cell:=fun x hx=>by
  rcases hx with hx|hx
  ·exact absurd rfl (hcell _ (jP hx))
  ·have hm:=jP hx;refine⟨?_,?_⟩
   ·rcases zam (env:=env) hx with q|⟨_,q⟩
    ·exact .inr q
    ·exact .inl q
   ·obtain⟨i,hi,e⟩:=List.mem_iff_getElem.mp hm;obtain⟨_,h1,h2⟩:=zga hcaps;obtain⟨j,hj⟩:=h2 i x (by rw[List.getElem?_eq_getElem hi,e]);obtain⟨y,h3,h4,_⟩:=h1 i j hj;rw[List.getElem?_eq_getElem hi,e] at h3;have:x=y:=by simpa using h3
    subst this;obtain⟨c,hc⟩:=(hL.cell x h4).2;exact⟨c,(hcl2 _ hm rfl).trans hc⟩
theorem zaL(B:kH F K mg mb zc){cx:Cx}(hL:Lnk cx env){fu:Nat}(ih:∀e pe,trE fu cx e=some pe->kX prog w zc G cf n cx.names env e pe){st:List VS}{iter:Expr}{q:Bool×PE}
  (h:it? (trE fu) cx iter=some q)(hl:lkE st q.1 q.2=true):
  zlN prog w zc G cf n cx.names st false env iter q.1 q.2/\∀x,foldedSetIterable iter env x=pure x:=by
 unfold it? at h;cases hr:ziL cx iter with
 |some x=>
  rw[hr] at h;obtain⟨pe,h1,h2⟩:=ob h
  (obtain rfl:=soI h2;clear h2)
  obtain⟨⟨f,y⟩,h3,h4⟩:=ob hr;replace h4:=ifn h4;obtain⟨hf,h4⟩:=h4
  (obtain rfl:=soI h4;clear h4);obtain⟨p,pos⟩:=zdT h3
  exact⟨zl9 B hL hf (zS h1) ((ih _ pe h1 st).1 true hl),fun _=>rfl⟩
 |none=>
  rw[hr] at h;obtain⟨pe,h1,h2⟩:=ob h
  (obtain rfl:=soI h2;clear h2)
  exact⟨znL ((ih iter pe h1 st).1 false hl),ziM (zcP h1)⟩
theorem zk7{cx:Cx}{fu:Nat}(ih:∀e pe,trE fu cx e=some pe->kX prog w zc G cf n cx.names env e pe){st:List VS}{ifs:List Expr}{pc:PE}(h:zvH (trE fu) cx ifs=some pc)(hl:lkE st true pc=true):
  zgg prog w zc G cf n cx.names st env ifs pc:=by
 induction ifs using List.casesOn with
 |nil=>(obtain rfl:=soI h;clear h);exact .inl ⟨rfl,rfl⟩
 |cons c r=>obtain⟨h1,h⟩:=ifn h;cases emp h1;exact .inr ⟨_,rfl,(ih _ _ h st).2 hl⟩
theorem ze8(B:kH F K mg mb zc){cx:Cx}(hL:Lnk cx env)(hnd:(cx.names.map (·.1)).Nodup){fu:Nat}(ih:∀e pe,trE fu cx e=some pe->kX prog w zc G cf n cx.names env e pe){L:Addr}{elt:Expr}{scope:Scope}{pos:Pos}{gens:List Comprehension}:
  ∀(rest:List Comprehension) (ifs:List Expr) (st:List VS) (g:PG) (k:Nat),gens.drop (k+1)=rest->zeI (trE fu) cx elt ifs rest=some g->lkG st g=true->zhs prog w zc G cf n cx env L elt gens scope pos k ifs st g
 |[],ifs,st,g,k,hd,ht,hl=>by
  replace ht:=ob ht;obtain⟨pc,h1,ht⟩:=ht;replace ht:=ob ht;obtain⟨pe,h2,ht⟩:=ht
  (obtain rfl:=soI ht;clear ht)
  refine zno ?_ (zk7 ih h1 (an1 hl)) ((ih elt pe h2 st).1 false (an2 hl));have:=congrArg List.length hd;rw[List.length_drop] at this;exact List.getElem?_eq_none (by simp at this;lia)
 |⟨t,it,ifs',a⟩::r,ifs,st,g,k,hd,ht,hl=>by
  replace ht:=ifn ht;obtain⟨ha,ht⟩:=ht;replace ht:=ob ht;obtain⟨pc,h1,ht⟩:=ht;replace ht:=ob ht;obtain⟨tg,h2,ht⟩:=ht;replace ht:=ob ht;obtain⟨q,h3,ht⟩:=ht;replace ht:=ob ht;obtain⟨g',h4,ht⟩:=ht
  (obtain rfl:=soI ht;clear ht);cases ha
  obtain⟨i1,i2⟩:=zaL B hL ih h3 (an2 (an1 hl));have hk:gens[k+1]?=some ⟨t,it,ifs',0⟩:=by
   have:=congrArg (·[0]?) hd
   simpa [List.getElem?_drop] using this
  refine zlU hk (zk7 ih h1 (an1 (an1 hl))) i1 i2 h2 hnd (ze8 B hL hnd ih r ifs' _ g' (k+1) ?_ h4 (an2 hl));have:gens.drop (k+1+1)=(gens.drop (k+1)).drop 1:=by rw[List.drop_drop]
  rw[this,hd];rfl
theorem zrE(B:kH F K mg mb zc){cx:Cx}(hL:Lnk cx env){st:List VS}{b:Bool}{f:Str}{x:Expr}{p pos:Pos}{u:Un}{a:PE}(hf:zwp cx f=some u)(hx:zy x)(h:zt prog w zc G cf n names st true env (eval x env) a):
  zt prog w zc G cf n names st b env (eval (.Call (.Name f p) [x] [] pos) env) (.un u a):=by
 rcases ifo hf with⟨hc,h1⟩|⟨_,h1⟩
 ·(obtain rfl:=soI h1;clear h1);exact zsg B hL hc hx h
 rcases ifo h1 with⟨hc,h1⟩|⟨_,h1⟩
 ·(obtain rfl:=soI h1;clear h1);exact zqF B hL hc hx h
 replace h1:=ifn h1;obtain⟨hc,h1⟩:=h1
 (obtain rfl:=soI h1;clear h1);exact zrN B hL hc hx h
theorem zrO(B:kH F K mg mb zc){cx:Cx}(hL:Lnk cx env){st:List VS}{b:Bool}{f:Str}{x y:Expr}{p pos:Pos}{o:Bin}{a c:PE}(hf:zvM cx f=some o)(hx:zy x)(hy:zy y)(h:zt prog w zc G cf n names st true env (eval x env) a)(h':zt prog w zc G cf n names st true env (eval y env) c):
  zt prog w zc G cf n names st b env (eval (.Call (.Name f p) [x,y] [] pos) env) (.bin o a c):=by
 rcases ifo hf with⟨hc,h1⟩|⟨_,h1⟩
 ·(obtain rfl:=soI h1;clear h1);exact zqT B hL hc hx hy h h'
 replace h1:=ifn h1;obtain⟨hc,h1⟩:=h1
 (obtain rfl:=soI h1;clear h1);exact zsK B hL hc hx hy h h'
theorem zmh{fu:Nat}{cx:Cx}(ih:∀e pe,trE fu cx e=some pe->kX prog w zc G cf n names env e pe){vs:List Expr}{es:List PE}{pos:Pos}{pe:PE}(h2:2<=vs.length)(h1:vs.mapM (trE fu cx)=some es)(h:zaw es=some pe):kX prog w zc G cf n names env (.BoolOp .And vs pos) pe:=by
 intro st;have hle:2<=es.length:=by rw[zdl h1];exact h2
 have key:lkE st true pe=true->EvT prog w zc G cf n names st env (.BoolOp .And vs pos) pe:=fun hl=>zj6 (zkl ih h1 (zlq h (.inl hle) hl)) h;obtain⟨x,y,rfl⟩:=zmA hle h;exact⟨fun b hl=>zfM zpK (key hl).1,fun hl=>(key hl).2⟩
theorem znR{fu:Nat}{cx:Cx}(ih:∀e pe,trE fu cx e=some pe->kX prog w zc G cf n names env e pe){vs:List Expr}{es:List PE}{pos:Pos}{pe:PE}(h2:2<=vs.length)(h1:vs.mapM (trE fu cx)=some es)(h:zbV es=some pe):kX prog w zc G cf n names env (.BoolOp .Or vs pos) pe:=by
 intro st;have hle:2<=es.length:=by rw[zdl h1];exact h2
 have key:lkE st true pe=true->EvT prog w zc G cf n names st env (.BoolOp .Or vs pos) pe:=fun hl=>zmo (zkl ih h1 (zm7 h (.inl hle) hl)) h;obtain⟨x,y,rfl⟩:=zp7 hle h;exact⟨fun b hl=>zfM zrH (key hl).1,fun hl=>(key hl).2⟩
theorem zi2(B:kH F K mg mb zc){cx:Cx}{env:Env}(hL:Lnk cx env){fu:Nat}(ih:∀e pe,trE fu cx e=some pe->kX prog w zc G cf n cx.names env e pe)
  (IH:∀(cx':Cx) (env:Env) (e:Expr) (pe:PE),cx'.funs=F.map (·.name)->cx'.consts=cx.consts->Lnk cx' env->trE fu cx' e=some pe->kX prog w zc G cf n cx'.names env e pe)(hF:cx.funs=F.map (·.name))
  {elt t it:Expr}{ifs:List Expr}{r:List Comprehension}{scope:Scope}{p:Pos}{q:Bool×PE}{caps:List (Option Nat)}{tg:Tg}{g:PG}(hsc:zbn scope=true)(h1:it? (trE fu) cx it=some q)(h2:zcE cx scope.names=some caps)
  (h3:zaA {cx with names:=scope.names} t=some tg)(h4:zeI (trE fu) {cx with names:=scope.names} elt ifs r=some g):kX prog w zc G cf n cx.names env (.ListComp elt (⟨t,it,ifs,0⟩::r) scope p) (.comp caps q.1 q.2 tg g):=
 zX (fun st b hl=>by
  obtain⟨i1,i2⟩:=zaL B hL ih h1 (an1 hl);refine zqA hL i1 i2 h2 hsc h3 fun cl C' L' hcl1 hcl2=>?_;have hL':Lnk {cx with names:=scope.names} (compEnvC scope cl C' env):=zif hL h2 (fun y hy=>by have:=List.all_eq_true.mp (an2 (an1 hsc)) y hy;simpa using this) hcl2;exact ze8 B hL' (of_decide_eq_true (an2 hsc)) (fun e pe h=>IH {cx with names:=scope.names} (compEnvC scope cl C' env) e pe hF rfl hL' h) r ifs _ g 0 rfl h4 (an2 hl)) rfl
theorem zoN(B:kH F K mg mb zc)(hG:G=K.map (·.2))(C:zdw prog w F mg zc cf n)(fu:Nat):∀(cx:Cx) (env:Env) (e:Expr) (pe:PE),cx.funs=F.map (·.name)->cx.consts=K.map (·.1)->Lnk cx env->trE fu cx e=some pe->kX prog w zc G cf n cx.names env e pe:=by
 induction fu with
 |zero=>intro _ _ _ _ _ _ _ h;exact nn h
 |succ fu IH=>
  intro cx env e pe hF hC hL h;have ih:∀e pe,trE fu cx e=some pe->kX prog w zc G cf n cx.names env e pe:=fun e pe h=>IH cx env e pe hF hC hL h;cases zll h with
  |lit h1=>exact zX (fun st b _=>zrQ h1) rfl
  |var h1=>exact zX (fun st b hl=>zsL h1 hl) rfl
  |glob h1=>exact zX (fun st b _=>zpG B hG hC hL h1) rfl
  |and_ h2 h1 h3=>exact zmh ih h2 h1 h3
  |or_ h2 h1 h3=>exact znR ih h2 h1 h3
  |bin h1 h2 h3=>exact zX (fun st b hl=>zmd h1 ((ih _ _ h2 st).1 true (an1 hl)) ((ih _ _ h3 st).1 true (an2 hl))) rfl
  |not h2=>exact fun st=>⟨fun b hl=>zqD ((ih _ _ h2 st).1 true hl),fun hl=>zqb ((ih _ _ h2 st).2 hl)⟩
  |neg h2=>exact zX (fun st b hl=>zrA ((ih _ _ h2 st).1 true hl)) rfl
  |ite h1 h2 h3=>exact fun st=>⟨fun b hl=>zsu ((ih _ _ h1 st).2 (an1 (an1 hl))) ((ih _ _ h2 st).1 b (an2 (an1 hl))) ((ih _ _ h3 st).1 b (an2 hl)),
    fun hl=>zog ((ih _ _ h1 st).2 (an1 (an1 hl))) ((ih _ _ h2 st).2 (an2 (an1 hl))) ((ih _ _ h3 st).2 (an2 hl))⟩
  |list hz h1=>exact zX (fun st b hl=>zqz (zds ih h1 (zc3 hl)) hz) rfl
  |tup hz h1=>exact zX (fun st b hl=>zrK (zds ih h1 (zc3 hl)) hz) rfl
  |tyIs hf h1 h2=>exact kN zaF fun st b hl=>zpU B hL _ hf (zp8 h1) (zS h2) ((ih _ _ h2 st).1 true hl)
  |tyNot hf h1 h2=>exact kN zaF fun st b hl=>zmF B hL _ hf (zp8 h1) (zS h2) ((ih _ _ h2 st).1 true hl)
  |isNone h2=>exact kN ju fun st b hl=>zjC ((ih _ _ h2 st).1 true hl)
  |notNone h2=>exact kN ju fun st b hl=>zhM ((ih _ _ h2 st).1 true hl)
  |isB h2=>exact kN ju fun st b hl=>zqK ((ih _ _ h2 st).1 true hl)
  |notB h2=>exact kN ju fun st b hl=>znK ((ih _ _ h2 st).1 true hl)
  |cmp h1 h2 h3=>exact kN (zcP h3) fun st b hl=>zsC h1 (zcP h3) ((ih _ _ h2 st).1 true (an1 hl)) ((ih _ _ h3 st).1 true (an2 hl))
  |keys hf hp hs h2=>exact zX (fun st b hl=>zpX B hL hf hp hs ((ih _ _ h2 st).1 true hl)) rfl
  |call hi h1=>exact zX (fun st b hl=>zpE B hF hL C hi (zds ih h1 (zc3 hl))) rfl
  |bi1 hf h2=>exact zX (fun st b hl=>zrE B hL hf (zS h2) ((ih _ _ h2 st).1 true hl)) rfl
  |bi2 hf h2 h3=>exact zX (fun st b hl=>zrO B hL hf (zS h2) (zS h3) ((ih _ _ h2 st).1 true (an1 hl)) ((ih _ _ h3 st).1 true (an2 hl))) rfl
  |m1 hm hp hs h1 h3=>exact zX (fun st b hl=>zum (zuB hm) hs hp (zS h3) ((ih _ _ h1 st).1 true (an1 hl)) ((ih _ _ h3 st).1 true (an2 hl))) rfl
  |get hp hs h1 h3 h4=>exact zX (fun st b hl=>zqU hs hp (zS h3) (zS h4) ((ih _ _ h1 st).1 true (an1 (an1 hl))) ((ih _ _ h3 st).1 true (an2 (an1 hl))) ((ih _ _ h4 st).1 false (an2 hl))) rfl
  |upto h1 h2=>exact zX (fun st b hl=>zsD ((ih _ _ h1 st).1 true (an1 hl)) ((ih _ _ h2 st).1 true (an2 hl))) rfl
  |from_ h1 h2=>exact zX (fun st b hl=>ztg ((ih _ _ h1 st).1 true (an1 hl)) ((ih _ _ h2 st).1 true (an2 hl))) rfl
  |both h1 h2 h3=>exact zX (fun st b hl=>zqE ((ih _ _ h1 st).1 true (an1 (an1 hl))) ((ih _ _ h2 st).1 true (an2 (an1 hl))) ((ih _ _ h3 st).1 true (an2 hl))) rfl
  |idx h1 h2=>exact zX (fun st b hl=>zst ((ih _ _ h1 st).1 true (an1 hl)) ((ih _ _ h2 st).1 true (an2 hl))) rfl
  |comp hsc h1 h2 h3 h4=>exact zi2 B hL ih (fun cx' env e pe hF hC' hL h=>IH cx' env e pe hF (hC'.trans hC) hL h) hF hsc h1 h2 h3 h4
end
end Mine
namespace Mine
open PySem PyProof.Rows PySem.Calls
inductive Fly(B:Heap)(env:Env)(outer:List Env)(e:Addr)(h:Heap):Prop
 |new(oe:Obj)(vs:Array Value)(a0:Value):h.get? e=some oe->oe.cls=.type "ValueError"->oe.data=.fields vs->vs[1]?=some .none->vs[0]?=some a0->B.StaysIn h->B.get? e=none->h.FunFrames B (env::outer)->Fly B env outer e h
 |fly(a0:Value):Heap.FlyingW B (env::outer) e (.type "ValueError") a0 h->Fly B env outer e h
 |held(a0:Value)(L:Addr):env.frame=some L->Heap.HeldW B (env::outer) e (.type "ValueError") a0 L h->Fly B env outer e h
section
variable{M:Model}{A:Around}{E:Value->Shared->Prop}{s:Shared}{B:Heap}{env:Env}{outer:List Env}{e L:Addr}
theorem znN{Q:Unit->Shared->Prop}(hfr:A.frames=some (env::outer))(hf:env.frame=some L)(x:Fly B env outer e s.heap)
  (hQ:∀h' a0,Heap.HeldW B (env::outer) e (.type "ValueError") a0 L h'->s.heap.UpToSlots h'->Q () {s with heap:=h'}):wpAny M A (noteFrame (.ref e) env) Q E s:=by
 induction x using Fly.casesOn with
 |new oe vs a0 he hc hd h1 h0 hkb hen hl=>
  unfold noteFrame;simp only[hf];refine wpAny_bind (wpAny_field he hd h1 ?_);rw[if_neg (by decide)];refine wpAny_entryW hfr hl hf he hkb hen hd (Array.getElem?_eq_some_iff.mp h1).1 h0 fun h' hN=>?_;obtain⟨k1,k2,k3,k4⟩:=hN;rw[hc] at k3;exact hQ h' a0 ⟨k1,hen,k2,k3⟩ k4
 |fly a0 hfl=>exact wpAny_looks_onW hfr hf hfl fun h' hh hs=>hQ h' a0 hh hs
 |held a0 L' hf' hh=>
  rw[hf] at hf';(obtain rfl:=soI hf';clear hf');exact wpAny_noteFrame_againW hf hh.2.2.2 (hQ s.heap a0 hh (Heap.UpToSlots.refl _))
theorem zmC{a0:Value}{Q:Unit->Shared->Prop}(hf:env.frame=some L)(hh:Heap.HeldW B (env::outer) e (.type "ValueError") a0 L s.heap)
  (hQ:∀h',Heap.HeldW B (env::outer) e (.type "ValueError") a0 L h'->s.heap.UpToSlots h'->Q () {s with heap:=h'}):
  wpAny M A (do
   if(←field (.ref e) 1)==.none then unsupported "frame.own-activation:exception-without-traceback"
   setFlight (.ref e) env.frame) Q E s:=by
 obtain⟨f1,f2,f3,oe,vs,T,oT,ts,he,hcls,hd,h1,hnT,hTe,hT,hdT,h3⟩:=hh;have hsz3:3<ts.size:=(Array.getElem?_eq_some_iff.mp h3).1;have other:∀b,b≠T->(s.heap.update T (Obj.mapFields (·.setIfInBounds 3 ((some L:Option Addr).elim Value.none fun f=>rawInt f)))).get? b=s.heap.get? b:=
  fun b hb=>Heap.get?_update_other _ _ (Ne.symm hb)
 have noRecord:∀b o,s.heap.get? b=some o->(∀vs,o.data≠.fields vs)->b≠T:=fun b o hb hnf q=>by
  rw[q,hT] at hb;injection hb with hb;subst hb;exact hnf ts hdT
 refine wpAny_bind (wpAny_field he hd h1 ?_);rw[if_neg (show ¬((Value.ref T==Value.none)=true) from by exact fun h=>ff h)];rw[hf];unfold setFlight;refine wpAny_bind (wpAny_field he hd h1 ?_);rw[if_pos (show(Value.ref T != Value.none)=true from by rfl)];refine wpAny_setField hT hdT hsz3 (hQ _ ⟨fun b o hbo=>(other b fun q=>by rw[q,hnT] at hbo;exact nn hbo).trans (f1 b o hbo),f2,
  f3.of_keeps fun b o hb hnf=>⟨o,(other b (noRecord b o hb hnf)).trans hb,rfl⟩,?_⟩ fun b o hb hnf=>⟨o.slots,(other b (noRecord b o hb hnf)).trans hb⟩)
 exact⟨oe,vs,T,_,_,(other e (Ne.symm hTe)).trans he,hcls,hd,h1,hnT,hTe,Heap.get?_update_self _ hT (Obj.isFreed_of_fields (Obj.data_mapFields hdT _)),Obj.data_mapFields hdT _,by simp[hsz3]⟩
theorem zlR{Q:Unit->Shared->Prop}(hfr:A.frames=some (env::outer))(hf:env.frame=some L)(x:Fly B env outer e s.heap)
  (hQ:∀h' a0,Heap.FlyingW B outer e (.type "ValueError") a0 h'->s.heap.UpToSlots h'->Q () {s with heap:=h'}):wpAny M A (leaving env (.ref e)) Q E s:=by
 induction x using Fly.casesOn with
 |new oe vs a0 he hc hd h1 h0 hkb hen hl=>
  refine wpAny_leaving_firstW hfr hl hf he hkb hen hd h1 h0 fun h' hL=>?_;obtain⟨k1,⟨_,_,k2⟩,k3,k4⟩:=hL;rw[hc] at k3;exact hQ h' a0 ⟨k1,hen,k2,k3⟩ k4
 |fly a0 hfl=>exact wpAny_leaves_onW hfr hf hfl fun h' x1 x2=>hQ h' a0 x1 x2
 |held a0 L' hf' hh=>
  rw[hf] at hf';(obtain rfl:=soI hf';clear hf');unfold leaving;refine wpAny_bind (wpAny_noteFrame_againW hf hh.2.2.2 ?_);refine wpAny_landsW hh fun h' hfl hs=>?_;obtain⟨k1,k2,⟨_,_,k3⟩,k4⟩:=hfl;exact hQ h' a0 ⟨k1,k2,k3,k4⟩ hs
end
noncomputable def ExF(env:Env)(outer:List Env)(X:Addr->Prop)(s₀:Shared)(x:Value)(s':Shared):Prop:=
 ∃(e:Addr) (B:Heap),x=.ref e/\(∀a o,s₀.heap.get? a=some o->¬X a->a∉frs (env::outer)->B.get? a=some o)/\Fly B env outer e s'.heap/\
  (∀a o,s₀.heap.get? a=some o->¬X a->NF o->∃sl,s'.heap.get? a=some {o with slots:=sl})/\s'.os=s₀.os/\(AllBare s₀.gens->AllBare s'.gens)
section
variable{M:Model}{A:Around}{E:Value->Shared->Prop}{env:Env}{outer:List Env}{X:Addr->Prop}{s₀ s':Shared}{x:Value}{L:Addr}
theorem ExF.slots{s₂:Shared}{e:Addr}{B:Heap}(h2:∀a o,s₀.heap.get? a=some o->¬X a->NF o->∃sl,s'.heap.get? a=some {o with slots:=sl})(hs:s'.heap.UpToSlots s₂.heap):
  ∀a o,s₀.heap.get? a=some o->¬X a->NF o->∃sl,s₂.heap.get? a=some {o with slots:=sl}:=fun a o e n nf=>by
 obtain⟨sl,h⟩:=h2 a o e n nf;obtain⟨sl',q⟩:=hs a _ h nf;exact⟨sl',q⟩
theorem ExF.noted(hfr:A.frames=some (env::outer))(hf:env.frame=some L)(h:ExF env outer X s₀ x s')(hE:∀s'',ExF env outer X s₀ x s''->E x s''):notedBy M A env (cameBackBy M A env E) x s':=by
 obtain⟨e,B,rfl,h1,h2,h3,h4,h5⟩:=h;refine znN hfr hf h2 fun h' a0 hh hs=>?_;refine zmC hf hh fun h'' hh' hs'=>?_;exact hE _ ⟨e,B,rfl,h1,.held a0 L hf hh',ExF.slots (s₂:={s' with heap:=h''}) (e:=e) (B:=B) h3 (hs.trans hs'),h4,h5⟩
theorem ExF.leave{Q:Unit->Shared->Prop}(hfr:A.frames=some (env::outer))(hf:env.frame=some L)(hL:s₀.heap.get? L=none)(hX:∀a,¬X a)(h:ExF env outer X s₀ x s')(hQ:∀s'',za6 outer s₀ x s''->(∀a,Q a s'')):wpAny M A (leaving env x) Q E s':=by
 obtain⟨e,B,rfl,h1,h2,h3,h4,h5⟩:=h;refine zlR hfr hf h2 fun h' a0 hh hs=>?_;refine hQ {s' with heap:=h'} ⟨e,B,a0,rfl,fun a o q n=>h1 a o q (hX a) fun hm=>?_,hh,fun a o q nf=>?_,h4,h5⟩ ()
 ·simp only[frs,List.filterMap_cons,hf] at hm;rcases List.mem_cons.mp hm with rfl|hm
  ·rw[hL] at q;exact nn q
  ·exact n hm
 ·obtain⟨sl,h⟩:=h3 a o q (hX a) nf;obtain⟨sl',q⟩:=hs a _ h nf;exact⟨sl',q⟩
end
end Mine
namespace Mine
open PySem
inductive CR where
 |err|dead
 |st(l:List VS)
noncomputable def VS.leV:VS->VS->Bool
 |.u,_=>true
 |.f,.f=>true
 |.f,.o=>true
 |.o,.o=>true
 |_,_=>false
noncomputable def leL:List VS->List VS->Bool
 |[],[]=>true
 |a::r,b::t=>VS.leV a b&&leL r t
 |_,_=>false
theorem zgE:∀(a:VS) (r:List VS) (b:VS) (t:List VS),leL (a::r) (b::t)=(a.leV b&&leL r t):=fun _ _ _ _=>rfl
noncomputable def jw(fx:Option Nat)(st:List VS):Bool:=
 match fx with
 |none=>true
 |some i=>VS.at st i==.o
noncomputable def leS(fx:Option Nat)(a b:List VS):Bool:=leL a b&&jw fx a
noncomputable def zwO:VS->VS->VS
 |.u,_=>.u
 |_,.u=>.u
 |.f,_=>.f
 |_,.f=>.f
 |.o,.o=>.o
noncomputable def zdE(a b:List VS):List VS:=List.zipWith zwO a b
noncomputable def frz(st:List VS)(is:List Nat):List VS:=is.foldl (fun s i=>if VS.at s i=.o then s.set i .f else s) st
mutual
noncomputable def lkV(b:Bool):PE->List Nat
 |.lit _=>[]
 |.var i=>if b then[] else[i]
 |.glob _=>[]
 |.un _ a=>lkV true a
 |.bin _ x y=>lkV true x++lkV true y
 |.tri _ x y z=>lkV true x++lkV true y++lkV true z
 |.m1 _ x y=>lkV true x++lkV true y
 |.m2 _ x y z=>lkV true x++lkV true y++lkV false z
 |.and_ x y=>lkV true x++lkV true y
 |.or_ x y=>lkV true x++lkV true y
 |.ite c x y=>lkV true c++lkV b x++lkV b y
 |.tup es=>zcj es
 |.list es=>zcj es
 |.call _ es=>zcj es
 |.comp _ rg it _ _=>lkV rg it
noncomputable def zcj:PEs->List Nat
 |.nil=>[]
 |.cons a r=>lkV false a++zcj r
end
noncomputable def za2(fx:Option Nat):CR->CR->CR
 |.st a,.st b=>let j:=zdE a b;if leS fx j a&&leS fx j b then .st j else .err
 |.dead,r=>r
 |r,.dead=>r
 |_,_=>.err
theorem ziw:∀(fx:Option Nat) (a b:List VS),za2 fx (CR.st a) (CR.st b)=if(leS fx (zdE a b) a&&leS fx (zdE a b) b)=true then CR.st (zdE a b) else CR.err:=fun _ _ _=>rfl
noncomputable def zcG(f:List VS->CR):Nat->List VS->List VS
 |0,s=>s
 |n+1,s=>match f s with
  |.st s'=>if zdE s s'=s then s else zcG f n (zdE s s')
  |_=>s
noncomputable def zcA(fx:Option Nat)(inv:List VS)(body:CR):CR:=
 match body with
 |.st s=>if leS fx inv s then .st inv else .err
 |.dead=>.st inv
 |.err=>.err
noncomputable def zxg(k:List VS->CR):CR->CR
 |.st s=>k s
 |.dead=>.dead
 |.err=>.err
noncomputable def chk(fx:Option Nat):PS->Option (List VS)->List VS->CR
 |.skip,_,st=>.st st
 |.seq a b,lp,st=>zxg (fun s=>chk fx b lp s) (chk fx a lp st)
 |.assign t e,_,st=>let s:=frz st (lkV false e);if lkE s false e&&jw fx s&&jw fx (zZ s t) then .st (zZ s t) else .err
 |.newl x es,_,st=>let s:=frz st (zcj es);if zgl s es&&jw fx s&&decide (x<s.length)&&fx != some x then .st (s.set x .o) else .err
 |.newd x,_,st=>if decide (x<st.length)&&fx != some x then .st (st.set x .o) else .err
 |.app x e,_,st=>let s:=frz st (lkV false e);if lkE s false e&&jw fx s&&VS.at s x==.o then .st s else .err
 |.put x k v,_,st=>let s:=frz st (lkV false v++lkV false k);if lkE s false v&&lkE s false k&&jw fx s&&VS.at s x==.o then .st s else .err
 |.ifs c a b,lp,st=>let s:=frz st (lkV true c);if lkE s true c&&jw fx s then za2 fx (chk fx a lp s) (chk fx b lp s) else .err
 |.whil c b,_,st=>
  let s:=frz st (lkV true c);let inv:=zcG (fun i=>chk fx b (some i) i) 4 s
  if leS fx inv st&&lkE inv true c then zcA fx inv (chk fx b (some inv) inv) else .err
 |.forr t rg e b,_,st=>
  let s:=frz st (lkV rg e);let inv:=zcG (fun i=>chk fx b (some i) (zZ i t)) 4 s
  if lkE s rg e&&jw fx s&&leS fx inv s&&jw fx (zZ inv t) then zcA fx inv (chk fx b (some inv) (zZ inv t)) else .err
 |.ret e,_,st=>let s:=frz st (lkV false e);if lkE s false e&&jw fx s then .dead else .err
 |.raise,_,_=>.dead
 |.brk,lp,st=>match lp with
  |some inv=>if leS fx inv st then .dead else .err
  |none=>.err
 |.cont,lp,st=>match lp with
  |some inv=>if leS fx inv st then .dead else .err
  |none=>.err
 |.exp e,_,st=>let s:=frz st (lkV true e);if lkE s true e&&jw fx s then .st s else .err
 |.io _ es x,_,st=>let s:=frz st (zcj es);if zgl s es&&jw fx s&&VS.at s x==.o then .st s else .err
 |.tryv b x _,_,st=>match b with
  |.exp e=>let s:=frz st (lkV true e);if lkE s true e&&jw fx s&&jw fx (s.set x .f) then za2 fx (.st s) (.st (s.set x .f)) else .err
  |.assign t e=>let s:=frz st (lkV false e);if lkE s false e&&jw fx s&&jw fx (zZ s t)&&jw fx (s.set x .f) then za2 fx (.st (zZ s t)) (.st (s.set x .f)) else .err
  |_=>.err
section
variable{fx:Option Nat}{lp:Option (List VS)}{st:List VS}
theorem zcD{t:Tg}{e:PE}:chk fx (.assign t e) lp st=if lkE (frz st (lkV false e)) false e&&jw fx (frz st (lkV false e))&&jw fx (zZ (frz st (lkV false e)) t) then .st (zZ (frz st (lkV false e)) t) else .err:=rfl
theorem zok{x:Nat}{es:PEs}:chk fx (.newl x es) lp st=if zgl (frz st (zcj es)) es&&jw fx (frz st (zcj es))&&decide (x<(frz st (zcj es)).length)&&fx != some x then .st ((frz st (zcj es)).set x .o) else .err:=rfl
theorem znH{x:Nat}:chk fx (.newd x) lp st=if decide (x<st.length)&&fx != some x then .st (st.set x .o) else .err:=rfl
theorem zrr{x:Nat}{e:PE}:chk fx (.app x e) lp st=if lkE (frz st (lkV false e)) false e&&jw fx (frz st (lkV false e))&&VS.at (frz st (lkV false e)) x==.o then .st (frz st (lkV false e)) else .err:=rfl
theorem zsV{x:Nat}{k v:PE}:chk fx (.put x k v) lp st=if lkE (frz st (lkV false v++lkV false k)) false v&&lkE (frz st (lkV false v++lkV false k)) false k&&jw fx (frz st (lkV false v++lkV false k))&&VS.at (frz st (lkV false v++lkV false k)) x==.o then .st (frz st (lkV false v++lkV false k)) else .err:=rfl
theorem zq3{c:PE}{a b:PS}:chk fx (.ifs c a b) lp st=if lkE (frz st (lkV true c)) true c&&jw fx (frz st (lkV true c)) then za2 fx (chk fx a lp (frz st (lkV true c))) (chk fx b lp (frz st (lkV true c))) else .err:=rfl
theorem zo4{c:PE}{b:PS}:chk fx (.whil c b) lp st=if leS fx (zcG (fun i=>chk fx b (some i) i) 4 (frz st (lkV true c))) st&&lkE (zcG (fun i=>chk fx b (some i) i) 4 (frz st (lkV true c))) true c then
  zcA fx (zcG (fun i=>chk fx b (some i) i) 4 (frz st (lkV true c))) (chk fx b (some (zcG (fun i=>chk fx b (some i) i) 4 (frz st (lkV true c)))) (zcG (fun i=>chk fx b (some i) i) 4 (frz st (lkV true c)))) else .err:=rfl
theorem zoP{t:Tg}{rg:Bool}{e:PE}{b:PS}:chk fx (.forr t rg e b) lp st=if lkE (frz st (lkV rg e)) rg e&&jw fx (frz st (lkV rg e))&&leS fx (zcG (fun i=>chk fx b (some i) (zZ i t)) 4 (frz st (lkV rg e))) (frz st (lkV rg e))&&jw fx (zZ (zcG (fun i=>chk fx b (some i) (zZ i t)) 4 (frz st (lkV rg e))) t) then
  zcA fx (zcG (fun i=>chk fx b (some i) (zZ i t)) 4 (frz st (lkV rg e))) (chk fx b (some (zcG (fun i=>chk fx b (some i) (zZ i t)) 4 (frz st (lkV rg e)))) (zZ (zcG (fun i=>chk fx b (some i) (zZ i t)) 4 (frz st (lkV rg e))) t)) else .err:=rfl
theorem zo7{e:PE}:chk fx (.ret e) lp st=if lkE (frz st (lkV false e)) false e&&jw fx (frz st (lkV false e)) then .dead else .err:=rfl
theorem zsx{e:PE}:chk fx (.exp e) lp st=if lkE (frz st (lkV true e)) true e&&jw fx (frz st (lkV true e)) then .st (frz st (lkV true e)) else .err:=rfl
theorem zuQ{g x:Nat}{es:PEs}:chk fx (.io g es x) lp st=if zgl (frz st (zcj es)) es&&jw fx (frz st (zcj es))&&VS.at (frz st (zcj es)) x==.o then .st (frz st (zcj es)) else .err:=rfl
theorem znC{e:PE}{x:Nat}{l:Lit}:chk fx (.tryv (.exp e) x l) lp st=if lkE (frz st (lkV true e)) true e&&jw fx (frz st (lkV true e))&&jw fx ((frz st (lkV true e)).set x .f) then za2 fx (.st (frz st (lkV true e))) (.st ((frz st (lkV true e)).set x .f)) else .err:=rfl
theorem zoI{t:Tg}{e:PE}{x:Nat}{l:Lit}:chk fx (.tryv (.assign t e) x l) lp st=if lkE (frz st (lkV false e)) false e&&jw fx (frz st (lkV false e))&&jw fx (zZ (frz st (lkV false e)) t)&&jw fx ((frz st (lkV false e)).set x .f) then za2 fx (.st (zZ (frz st (lkV false e)) t)) (.st ((frz st (lkV false e)).set x .f)) else .err:=rfl
end
noncomputable def zv9(io:Bool)(np nv:Nat)(b:PS):Bool:=
 let st:=(List.range nv).map fun i=>if i+1=np/\io=true then VS.o else if i<np then .f else .u
 match chk (if io then some (np - 1) else none) b none st with
 |.err=>false
 |_=>true
end Mine
namespace Mine
open PySem PyProof.Rows PySem.Calls
structure Fix where
 cx:Cx
 env:Env
 A:Around
 fs:List Env
 P₀:Addr->Prop
 X:Addr->Prop
 s₀:Shared
 fx:Option Nat
 Z:Addr->Obj->Prop
 Y:Addr->Obj->Prop
section
variable(prog:Program)(w:World)(zc:Heap)(n:Nat)(f:Fix)
structure SSt(st:List VS)(ρ:ze)(P:Addr->Prop)(ad:Nat->Addr)(s:Shared):Prop where
 ec:EC zc P f.A f.fs n f.env s.heap
 fram:zbB f.cx.names f.env s.heap
 len:st.length=ρ.length
 nlen:st.length<=f.cx.names.length
 var:∀(i:Nat) (x:Str) (k:NameKind),f.cx.names[i]?=some (x,k)->kj k=true->VS.at st i=.f->∃v,zF f.env s.heap x v/\zl prog w P P s.heap v (zr ρ i)
 own:∀(i:Nat) (x:Str) (k:NameKind),f.cx.names[i]?=some (x,k)->kj k=true->VS.at st i=.o->zF f.env s.heap x (.ref (ad i))/\zl prog w (fun a=>a=ad i) P s.heap (.ref (ad i)) (zr ρ i)
 oP:∀i,VS.at st i=.o->¬P (ad i)/\¬Own f.env (ad i)/\ad i∉frs f.fs
 dist:∀i j,VS.at st i=.o->VS.at st j=.o->i≠j->ad i≠ad j
 sub:∀a,P a->f.P₀ a
 oP0:∀i,VS.at st i=.o->f.fx≠some i->f.P₀ (ad i)/\f.s₀.heap.get? (ad i)=none
 fxa:∀i,f.fx=some i->VS.at st i=.o/\∀a,f.X a↔a=ad i
 noX:f.fx=none->∀a,¬f.X a
 fresh:∀a,Own f.env a->f.s₀.heap.get? a=none
 pnew0:km f.P₀ f.s₀.heap
 keep:∀a o,f.s₀.heap.get? a=some o->¬f.X a->s.heap.get? a=some o
 os:s.os=f.s₀.os
 gens:AllBare f.s₀.gens->AllBare s.gens
 vk:∀(i:Nat) (x:Str) (k:NameKind),f.cx.names[i]?=some (x,k)->VS.at st i=.o->kj k=true
 zs:∀a o,f.Z a o->s.heap.get? a=some o/\¬P a/\¬Own f.env a/\∀i,VS.at st i=.o->a≠ad i
 ys:∀a o,f.Y a o->P a/\s.heap.get? a=some o
 zf:∀a o,f.Z a o->a∉frs f.fs
end
section
variable{prog:Program}{w:World}{zc:Heap}{n:Nat}{f:Fix}{st st':List VS}{ρ:ze}{P:Addr->Prop}{ad:Nat->Addr}{s s':Shared}
theorem zF.move{env:Env}{h h':Heap}{x:Str}{v:Value}(r:zF env h x v)(k:∀a o,Own env a->h.get? a=some o->h'.get? a=some o):zF env h' x v:=by
 induction r using zF.casesOn with
 |loc m a b d=>exact .loc m a (b.at' fun o e=>k _ o (.inl rfl) e) d
 |cell c' a b d=>obtain⟨ob,h3,h4⟩:=d;exact .cell c' a b ⟨ob,k c' ob (.inr ⟨x,b⟩) h3,h4⟩
theorem SSt.lt(c:SSt prog w zc n f st ρ P ad s){i:Nat}(h:VS.at st i=.o):i<st.length:=by
 by_cases q:i<st.length
 ·exact q
 ·unfold VS.at at h;rw[List.getD_eq_getElem?_getD,List.getElem?_eq_none (by exact Nat.not_lt.mp ‹_›)] at h;cases h
theorem SSt.named(c:SSt prog w zc n f st ρ P ad s){i:Nat}(h:VS.at st i=.o):∃x k,f.cx.names[i]?=some (x,k)/\kj k=true:=by
 have h1:=c.lt h;have h2:i<f.cx.names.length:=by have:=c.nlen;exact qD ‹_› ‹_›
 exact⟨f.cx.names[i].1,f.cx.names[i].2,List.getElem?_eq_getElem h2,c.vk i _ _ (List.getElem?_eq_getElem h2) h⟩
theorem zl.nf{T:Addr->Prop}{h:Heap}{a:Addr}{d:D}(r:zl prog w T P h (.ref a) d)(hp:¬P a):∃o,h.get? a=some o/\NF o:=by
 cases r with
 |rep r=>cases r with
  |list p ho hc hd hda=>exact absurd p hp
  |tuple p=>exact absurd p hp
 |list t ho hc hd hda=>exact⟨_,ho,fun vs q=>nomatch hda.symm.trans q⟩
 |dict t r=>
  obtain⟨_,_,⟨l,m,q⟩|⟨l,m,q⟩|⟨l,m,q⟩⟩:=r
  ·obtain⟨o,es,ep,ho,_,hd,_⟩:=m;exact⟨o,ho,fun vs q=>nomatch hd.symm.trans q⟩
  ·obtain⟨o,es,ep,ho,_,hd,_⟩:=m;exact⟨o,ho,fun vs q=>nomatch hd.symm.trans q⟩
  ·obtain⟨o,es,ep,ho,_,hd,_⟩:=m;exact⟨o,ho,fun vs q=>nomatch hd.symm.trans q⟩
theorem SSt.there(c:SSt prog w zc n f st ρ P ad s){i:Nat}(h:VS.at st i=.o):∃o,s.heap.get? (ad i)=some o/\NF o:=
 let ⟨_,_,h1,h2⟩:=c.named h
 (c.own i _ _ h1 h2 h).2.nf (c.oP i h).1
theorem SSt.vokt(c:SSt prog w zc n f st ρ P ad s):kP prog w f.env f.cx.names st ρ (fun a=>∃i,VS.at st i=.o/\a=ad i) P s.heap:=fun i x k h1 h2 h3=>by
 cases hs:VS.at st i with
 |u=>exact absurd hs h3
 |f=>exact c.var i x k h1 h2 hs
 |o=>
  obtain⟨h4,h5⟩:=c.own i x k h1 h2 hs;exact⟨_,h4,h5.move (fun a o t e=>⟨by rw[if_pos rfl];exact⟨i,hs,t⟩,e⟩) (fun a o p e=>⟨p,e⟩)⟩
theorem SSt.vok(c:SSt prog w zc n f st ρ P ad s):VOK prog w f.env f.cx.names st ρ P s.heap:=c.vokt.vok fun a ⟨i,h,e⟩=>e▸(c.oP i h).2.1
theorem SSt.ch(c:SSt prog w zc n f st ρ P ad s)(x:Ch s s'):SSt prog w zc n f st ρ P ad s':=
 {c with
  ec:=c.ec.keep x.keep
  fram:=c.fram.keep fun a o _ e=>x.keep a o e
  var:=fun i y k h1 h2 h3=>by
   obtain⟨v,h4,h5⟩:=c.var i y k h1 h2 h3;exact⟨v,h4.keep x.keep,h5.keep prog w x.keep⟩
  own:=fun i y k h1 h2 h3=>by
   obtain⟨h4,h5⟩:=c.own i y k h1 h2 h3;exact⟨h4.keep x.keep,h5.keep prog w x.keep⟩
  keep:=fun a o e nx=>x.keep a o (c.keep a o e nx)
  os:=x.os.trans c.os
  gens:=fun g=>x.gens (c.gens g)
  zs:=fun a o q=>let ⟨h1,h2⟩:=c.zs a o q;⟨x.keep a o h1,h2⟩
  ys:=fun a o q=>let ⟨h1,h2⟩:=c.ys a o q;⟨h1,x.keep a o h2⟩}
theorem zpw:∀{a b:List VS},leL a b=true->a.length=b.length/\∀i,VS.leV (VS.at a i) (VS.at b i)=true
 |[],[],_=>⟨rfl,fun i=>by rfl⟩
 |x::r,y::t,h=>by
  simp only[zgE,Bool.and_eq_true] at h;obtain⟨h1,h2⟩:=zpw h.2;refine⟨by simp[h1],fun i=>?_⟩;induction i using Nat.casesOn with
  |zero=>exact h.1
  |succ i=>have:=h2 i;exact this
 |[],_::_,h=>by exact ff h
 |_::_,[],h=>by exact ff h
theorem SSt.weaken'(c:SSt prog w zc n f st ρ P ad s)(h:leS f.fx st' st=true):∃P',(∀a,P a->P' a)/\SSt prog w zc n f st' ρ P' ad s:=by
 simp only[leS,Bool.and_eq_true] at h;obtain⟨hl,hfx⟩:=h;obtain⟨hlen,hle⟩:=zpw hl;have ofo:∀{i},VS.at st' i=.o->VS.at st i=.o:=fun {i} q=>by
  have:=hle i;rw[q] at this;cases hs:VS.at st i<;>rw[hs] at this<;>first|rfl|exact ff this
 let P':Addr->Prop:=fun a=>P a\/∃i,VS.at st i=.o/\VS.at st' i≠.o/\a=ad i;have mP:∀a o,P a->s.heap.get? a=some o->P' a/\s.heap.get? a=some o:=fun a o p e=>⟨.inl p,e⟩;have fxne:∀i,VS.at st i=.o->VS.at st' i≠.o->f.fx≠some i:=fun i h1 h2 q=>by
  rw[q] at hfx;simp only[jw,beq_iff_eq] at hfx;exact h2 hfx
 refine⟨P',fun a p=>.inl p,⟨?_,c.fram,hlen.trans c.len,hlen▸c.nlen,?_,?_,?_,fun i j h1 h2=>c.dist i j (ofo h1) (ofo h2),?_,fun i h1 h2=>c.oP0 i (ofo h1) h2,
   ?_,c.noX,c.fresh,c.pnew0,c.keep,c.os,c.gens,fun i x k h1 h2=>c.vk i x k h1 (ofo h2),fun a o q=>?_,fun a o q=>⟨.inl (c.ys a o q).1,(c.ys a o q).2⟩,c.zf⟩⟩
 ·refine c.ec.change mP (jF.refl _).nf ?_ ?_ fun a e=>.inl (c.ec.pnew a e)
  ·rintro a (p|⟨i,h1,_,rfl⟩);exact c.ec.own a p;exact(c.oP i h1).2.1
  ·rintro a (p|⟨i,h1,_,rfl⟩);exact c.ec.nofr a p;exact(c.oP i h1).2.2
 ·intro i x k h1 h2 h3;cases hs:VS.at st i with
  |u=>have:=hle i;rw[h3,hs] at this;exact ff this
  |f=>
   obtain⟨v,h4,h5⟩:=c.var i x k h1 h2 hs;exact⟨v,h4,h5.move mP mP⟩
  |o=>
   obtain⟨h4,h5⟩:=c.own i x k h1 h2 hs;exact⟨_,h4,h5.move (fun a o t e=>⟨.inr ⟨i,hs,by rw[h3];trivial,t⟩,e⟩) mP⟩
 ·intro i x k h1 h2 h3;obtain⟨h4,h5⟩:=c.own i x k h1 h2 (ofo h3);exact⟨h4,h5.move (fun a o t e=>⟨t,e⟩) mP⟩
 ·intro i h1;obtain⟨g1,g2,g3⟩:=c.oP i (ofo h1);refine⟨?_,g2,g3⟩;rintro(p|⟨j,h2,h3,h4⟩)
  ·exact g1 p
  ·by_cases q:i=j
   ·subst q;exact h3 h1
   ·exact c.dist i j (ofo h1) h2 q h4
 ·rintro a (p|⟨i,h1,h2,rfl⟩);exact c.sub a p;exact(c.oP0 i h1 (fxne i h1 h2)).1
 ·intro i hi;refine⟨?_,(c.fxa i hi).2⟩;rw[hi] at hfx;simpa [jw] using hfx
 ·obtain⟨h1,h2,h3,h4⟩:=c.zs a o q;refine⟨h1,?_,h3,fun i hi=>h4 i (ofo hi)⟩;rintro(p|⟨i,g1,_,g2⟩)
  ·exact h2 p
  ·exact h4 i g1 g2
theorem SSt.weaken(c:SSt prog w zc n f st ρ P ad s)(h:leS f.fx st' st=true):∃P',SSt prog w zc n f st' ρ P' ad s:=let ⟨P',_,c'⟩:=c.weaken' h;⟨P',c'⟩
theorem zii(a:List VS):leL a a=true:=by
 induction a with
 |nil=>
  exact rfl
 |cons x r ih=>
  simp only[zgE,ih,Bool.and_true];cases x<;>rfl
theorem zkg:∀{st:List VS} {i:Nat},VS.at st i=.o->leL (st.set i .f) st=true
 |[],i,h=>by rfl
 |x::r,0,h=>by simp only[List.set_cons_zero,zgE,zii,Bool.and_true];have:x=.o:=h;(replace this:=Eq.symm this;subst this);rfl
 |x::r,i+1,h=>by
  simp only[List.set_cons_succ,zgE,Bool.and_eq_true];exact⟨by cases x<;>rfl,zkg h⟩
theorem zf5:∀{a b c:List VS},leL a b=true->leL b c=true->leL a c=true
 |[],[],[],_,_=>rfl
 |x::r,y::t,z::u,h1,h2=>by
  simp only[leL,Bool.and_eq_true] at h1 h2 ⊢;refine⟨?_,zf5 h1.2 h2.2⟩
  revert h1 h2;cases x<;>cases y<;>cases z<;>simp[VS.leV]
 |[],[],_::_,_,h=>by exact ff h
 |[],_::_,_,h,_=>by exact ff h
 |_::_,[],_,h,_=>by exact ff h
 |_::_,_::_,[],_,h=>by exact ff h
theorem zrC{is:List Nat}:∀{st:List VS},leL (frz st is) st=true:=by
 induction is with
 |nil=>
  intro st;exact zii st
 |cons i r ih=>
  intro st;skip;simp only[frz,List.foldl_cons];by_cases h:VS.at st i=.o
  ·rw[if_pos h];exact zf5 (ih) (zkg h)
  ·rw[if_neg h];exact ih
theorem SSt.frz(c:SSt prog w zc n f st ρ P ad s){is:List Nat}(h:jw f.fx (frz st is)=true):∃P',SSt prog w zc n f (Mine.frz st is) ρ P' ad s:=
 c.weaken (by simp only[leS,zrC,h,Bool.and_true])
set_option tactic.hygienic true in
theorem zfR{is:List Nat}:∀{st:List VS} {i:Nat},VS.at (is.foldl (fun s i=>s.set i .f) st) i=.o->i∉is:=by
 induction is with
 |nil=>
  intro _ _ _;exact List.not_mem_nil
 |cons j r ih=>
  intro st i h;skip;simp only[List.foldl_cons] at h;have h1:=zdD h;have h2:=ih h;intro hm;rcases List.mem_cons.mp hm with q|q
  ·subst q;rw[VS.at_set] at h1;split at h1
   ·cases h1
   ·rename_i hne;have:¬i<st.length:=fun q=>hne ⟨rfl,q⟩;unfold VS.at at h1;rw[List.getD_eq_getElem?_getD,List.getElem?_eq_none (by exact Nat.not_lt.mp ‹_›)] at h1;cases h1
  ·exact h2 q
theorem zfK:∀{is:List Nat} {ds:List D} {ρ ρ':ze} {i:Nat},jE ρ is ds=.ok ρ'->i∉is->zr ρ' i=zr ρ i
 |[],[],_,_,_,h,_=>by(obtain rfl:=okI h;clear h);rfl
 |j::is,d::ds,ρ,ρ',i,h,hn=>by
  rw[zfK (ρ:=ρ.set j d) (is:=is) (ds:=ds) h fun q=>hn (List.mem_cons_of_mem _ q),zat,if_neg];rintro⟨rfl,_⟩;exact hn (List.mem_cons_self ..)
 |[],_::_,_,_,_,h,_=>by exact ns h
 |_::_,[],_,_,_,h,_=>by exact ns h
theorem zfU{t:Tg}{ρ ρ':ze}{d:D}{st:List VS}{i:Nat}(h:ja ρ t d=.ok ρ')(hi:VS.at (zZ st t) i=.o):zr ρ' i=zr ρ i:=by
 induction t using Tg.casesOn with
 |one j=>
  (obtain rfl:=okI h;clear h)
  have:=zfR (is:=[j]) hi;rw[zat,if_neg];rintro⟨rfl,_⟩;exact this (List.mem_cons_self ..)
 |many is=>induction d using PyData.casesOn with
  |tuple ds=>exact zfK h (zfR hi)
  |_=>exact ns h
theorem SSt.bound{tg:Tg}{d:D}{ρ':ze}{h':Heap}{tk:Nat}(c:SSt prog w zc n f st ρ P ad s)(hb:ja ρ tg d=.ok ρ')(hfx:jw f.fx (zZ st tg)=true)(B:Bnd f.cx.names f.env s.heap h')(F:zbB f.cx.names f.env h')
  (V:kP prog w f.env f.cx.names (zZ st tg) ρ' (fun a=>∃i,VS.at st i=.o/\a=ad i) P h')(S:zhx f.cx.names (zZ st tg) f.env s.heap h'):SSt prog w zc n f (zZ st tg) ρ' P ad {s with heap:=h',toks:=tk}:=by
 have ofo:∀{i},VS.at (zZ st tg) i=.o->VS.at st i=.o:=fun {i} q=>by
  rcases zde (t:=tg) (st:=st) (i:=i) with e|e
  ·rw[←e];exact q
  ·rw[e] at q;cases q
 have mP:∀a o,P a->s.heap.get? a=some o->P a/\h'.get? a=some o:=fun a o p e=>⟨p,B.keepO a o (c.ec.own a p) e⟩;refine⟨c.ec.change mP B.alloc.nf c.ec.own c.ec.nofr (c.ec.pnew.alloc B.alloc),F,by rw[kf,zbl hb];exact c.len,by rw[kf];exact c.nlen,fun i x k h1 h2 h3=>?_,fun i x k h1 h2 h3=>?_,
   fun i h1=>c.oP i (ofo h1),fun i j h1 h2=>c.dist i j (ofo h1) (ofo h2),c.sub,fun i h1=>c.oP0 i (ofo h1),fun i hi=>⟨by rw[hi] at hfx;simpa [jw] using hfx,(c.fxa i hi).2⟩,c.noX,c.fresh,c.pnew0,
   fun a o e nx=>B.keepO a o (fun q=>by rw[c.fresh a q] at e;exact nn e) (c.keep a o e nx),c.os,c.gens,fun i x k h1 h2=>c.vk i x k h1 (ofo h2),
   fun a o q=>let ⟨h1,h2,h3,h4⟩:=c.zs a o q;⟨B.keepO a o h3 h1,h2,h3,fun i hi=>h4 i (ofo hi)⟩,fun a o q=>let ⟨h1,h2⟩:=c.ys a o q;⟨h1,B.keepO a o (c.ec.own a h1) h2⟩,c.zf⟩
 ·simpa [h3] using V i x k h1 h2 (by rw[h3];simp)
 ·obtain⟨h4,h5⟩:=c.own i x k h1 h2 (ofo h3);have e:zr ρ' i=zr ρ i:=zfU hb h3;refine⟨S i x k _ h3 h1 h4,?_⟩;rw[e];exact h5.move (fun a o t e=>⟨t,B.keepO a o (by rw[t];exact(c.oP i (ofo h3)).2.1) e⟩) mP
theorem SSt.assign{t:Expr}{tg:Tg}{v:Value}{d:D}{ρ':ze}{E:Value->Shared->Prop}{Q:Unit->Shared->Prop}(c:SSt prog w zc n f st ρ P ad s)(ht:zaA f.cx t=some tg)(hb:ja ρ tg d=.ok ρ')(hnd:(f.cx.names.map (·.1)).Nodup)
  (hfx:jw f.fx (zZ st tg)=true)(rv:zl prog w P P s.heap v d)(h:∀h' tk,SSt prog w zc n f (zZ st tg) ρ' P ad {s with heap:=h',toks:=tk}->Bnd f.cx.names f.env s.heap h'->Q () {s with heap:=h',toks:=tk}):wpAny (model prog w) f.A (assign t f.env v) Q E s:=
 zfq ht hb c.ec.handled c.fram c.vokt hnd c.len (fun a ⟨i,h1,e⟩=>e▸(c.oP i h1).2.1) c.ec.own rv fun h' tk B F V S=>h h' tk (c.bound hb hfx B F V S) B
theorem SSt.store{A:Around}{x:Str}{i:Nat}{v:Value}{d:D}{E:Value->Shared->Prop}{Q:Unit->Shared->Prop}(c:SSt prog w zc n f st ρ P ad s)(hx:f.cx.tv? x=some i)(hnd:(f.cx.names.map (·.1)).Nodup)
  (hfx:jw f.fx (st.set i .f)=true)(rv:zl prog w P P s.heap v d)(h:∀h' tk,SSt prog w zc n f (st.set i .f) (ρ.set i d) P ad {s with heap:=h',toks:=tk}->Q () {s with heap:=h',toks:=tk}):wpAny (model prog w) A (storeName f.env x v) Q E s:=
 zb6 hx c.fram c.vokt hnd c.len (fun a ⟨i,h1,e⟩=>e▸(c.oP i h1).2.1) c.ec.own rv fun h' tk B F V S=>h h' tk (c.bound (tg:=.one i) (d:=d) rfl hfx B F V S)
end
end Mine
namespace Mine
open PySem PyProof.Rows PySem.Calls
theorem za6.exf{prog:Program}{w:World}{zc:Heap}{n:Nat}{f:Fix}{st:List VS}{ρ:ze}{P:Addr->Prop}{ad:Nat->Addr}{s s':Shared}{x:Value}{outer:List Env}(hfs:f.fs=f.env::outer)(c:SSt prog w zc n f st ρ P ad s)(h:za6 f.fs s x s'):
  ExF f.env outer f.X f.s₀ x s':=by
 obtain⟨e,B,a0,rfl,h1,h2,h3,h4,h5⟩:=h;rw[hfs] at h1 h2;exact⟨e,B,rfl,fun a o q nx nf=>h1 a o (c.keep a o q nx) nf,.fly a0 h2,fun a o q nx nf=>h3 a o (c.keep a o q nx) nf,h4.trans c.os,fun g=>h5 (c.gens g)⟩
section
variable(prog:Program)(w:World)(zc:Heap)(n:Nat)(f:Fix)
noncomputable def zcV(lp:Option (List VS))(r:CR)(fl:Fl)(ρ':ze)(fw:Flow)(s':Shared):Prop:=
 match fl with
 |.next=>fw=.next/\∃st P ad,r=.st st/\SSt prog w zc n f st ρ' P ad s'
 |.brk=>fw=.brk/\∃inv P ad,lp=some inv/\SSt prog w zc n f inv ρ' P ad s'
 |.cont=>fw=.cont/\∃inv P ad,lp=some inv/\SSt prog w zc n f inv ρ' P ad s'
 |.ret d=>∃v st P ad,fw=.ret v/\SSt prog w zc n f st ρ' P ad s'/\zl prog w P P s'.heap v d
variable(G:List D)(cf cio:Nat->List D->R D)(wf:Nat)(outer:List Env)
noncomputable def kl(lp:Option (List VS))(st:List VS)(t:Sem Flow)(ps:PS)(r:CR):Prop:=
 ∀(s:Shared) (ρ:ze) (P:Addr->Prop) (ad:Nat->Addr) (Q:Flow->Shared->Prop) (E:Value->Shared->Prop),SSt prog w zc n f st ρ P ad s->
  (∀fl ρ' fw s',Mine.exec G cf cio wf ps ρ=.ok (fl,ρ')->zcV prog w zc n f lp r fl ρ' fw s'->Q fw s')->
  (Mine.exec G cf cio wf ps ρ=.ve->∀x s',ExF f.env outer f.X f.s₀ x s'->E x s')->Mine.exec G cf cio wf ps ρ≠.stuck->wpAny (model prog w) f.A t Q E s
structure Ctx(F:List zH)(K:List (Str×D))(mg mb:Str->Option Value)(L:Addr):Prop where
 B:kH F K mg mb zc
 hG:G=K.map (·.2)
 C:zdw prog w F mg zc cf n
 hF:f.cx.funs=F.map (·.name)
 hC:f.cx.consts=K.map (·.1)
 hL:Lnk f.cx f.env
 hnd:(f.cx.names.map (·.1)).Nodup
 fs:f.fs=f.env::outer
 fr:f.env.frame=some L
 loc:∀x,f.env.kindOf x=f.cx.names.lookup x
end
section
variable{prog:Program}{w:World}{zc:Heap}{n:Nat}{f:Fix}{G:List D}{cf cio:Nat->List D->R D}{wf:Nat}{outer:List Env}{F:List zH}{K:List (Str×D)}{mg mb:Str->Option Value}{L:Addr}
 {lp:Option (List VS)}{st:List VS}
theorem Ctx.sound(X:Ctx prog w zc n f G cf outer F K mg mb L){fu:Nat}{e:Expr}{pe:PE}(h:trE fu f.cx e=some pe):kX prog w zc G cf n f.cx.names f.env e pe:=
 zoN X.B X.hG X.C fu f.cx f.env e pe X.hF X.hC X.hL h
theorem zgd(X:Ctx prog w zc n f G cf outer F K mg mb L){fu:Nat}{e:Expr}{pe:PE}{b:Bool}{ρ:ze}{P:Addr->Prop}{ad:Nat->Addr}{s:Shared}{Q E:Value->Shared->Prop}(h:trE fu f.cx e=some pe)(hl:lkE st b pe=true)(c:SSt prog w zc n f st ρ P ad s)
  (hok:∀d v s',ev G cf pe ρ=.ok d->SSt prog w zc n f st ρ P ad s'->zl prog w (zpo b P) P s'.heap v d->Q v s')(hve:ev G cf pe ρ=.ve->∀x s',ExF f.env outer f.X f.s₀ x s'->E x s')(hns:ev G cf pe ρ≠.stuck):
  wpAny (model prog w) f.A (eval e f.env) Q E s:=
 (X.sound h st).1 b hl P f.A f.fs s ρ Q E c.ec c.vok (fun d v s' hd ch r=>hok d v s' hd (c.ch ch) r) (fun hd x s' q=>hve hd x s' (za6.exf X.fs c q)) hns
theorem ztz(X:Ctx prog w zc n f G cf outer F K mg mb L){fu:Nat}{e:Expr}{pe:PE}{ρ:ze}{P:Addr->Prop}{ad:Nat->Addr}{s:Shared}{Q:Bool->Shared->Prop}{E:Value->Shared->Prop}(h:trE fu f.cx e=some pe)(hl:lkE st true pe=true)(c:SSt prog w zc n f st ρ P ad s)
  (hok:∀t s',ev G cf pe ρ=.ok (.bool t)->SSt prog w zc n f st ρ P ad s'->Q t s')(hve:ev G cf pe ρ=.ve->∀x s',ExF f.env outer f.X f.s₀ x s'->E x s')(hns:R.bind (ev G cf pe ρ) zM≠.stuck):
  wpAny (model prog w) f.A (isTrue e f.env (eval e f.env)) Q E s:=
 (X.sound h st).2 hl P f.A f.fs s ρ Q E c.ec c.vok (fun t s' hd ch=>hok t s' hd (c.ch ch)) (fun hd x s' q=>hve hd x s' (za6.exf X.fs c q)) hns
theorem zmi:kl prog w zc n f G cf cio wf outer lp st (execs [] f.env) .skip (.st st):=by
 intro s ρ P ad Q E c hok _ _;exact wpAny_pure (hok .next ρ .next s rfl ⟨rfl,st,P,ad,rfl,c⟩)
set_option tactic.hygienic true in
theorem zoZ(X:Ctx prog w zc n f G cf outer F K mg mb L){e:Expr}{pe:PE}{pos:Pos}(h:trE 40 f.cx e=some pe)(hc:chk f.fx (.ret pe) lp st=.dead):
  kl prog w zc n f G cf cio wf outer lp st (PySem.exec (.Return (some e) pos) f.env) (.ret pe) .dead:=by
 intro s ρ P ad Q E c hok hve hns;rw[zo7] at hc;split at hc
 ·rename_i hh;simp only[Bool.and_eq_true] at hh;simp only[zuU] at hok hve hns;obtain⟨P',c'⟩:=c.frz hh.2;refine wpAny_Return_some (zgd X h hh.1 c' (fun d v s' hd c₁ r=>?_) (fun hd=>hve (by rw[hd];rfl)) (fun hd=>hns (by rw[hd];rfl)));rw[hd] at hok;exact hok (.ret d) ρ (.ret v) s' rfl ⟨v,_,P',ad,rfl,c₁,r⟩
 ·cases hc
set_option tactic.hygienic true in
theorem zo3{pos:Pos}(hc:chk f.fx .brk lp st=.dead):kl prog w zc n f G cf cio wf outer lp st (PySem.exec (.Break pos) f.env) .brk .dead:=by
 intro s ρ P ad Q E c hok hve hns;induction lp using Option.casesOn with
 |none=>cases hc
 |some inv=>
  have hc:(if leS f.fx inv st then CR.dead else .err)=.dead:=hc;split at hc
  ·rename_i hh;obtain⟨P',c'⟩:=c.weaken hh;show wpAny _ _ (do standAt pos;pure Flow.brk) _ _ _;exact wpAny_bind (wpAny_standAt (wpAny_pure (hok .brk ρ .brk s rfl ⟨rfl,inv,P',ad,rfl,c'⟩)))
  ·cases hc
set_option tactic.hygienic true in
theorem zlG{pos:Pos}(hc:chk f.fx .cont lp st=.dead):kl prog w zc n f G cf cio wf outer lp st (PySem.exec (.Continue pos) f.env) .cont .dead:=by
 intro s ρ P ad Q E c hok hve hns;induction lp using Option.casesOn with
 |none=>cases hc
 |some inv=>
  have hc:(if leS f.fx inv st then CR.dead else .err)=.dead:=hc;split at hc
  ·rename_i hh;obtain⟨P',c'⟩:=c.weaken hh;show wpAny _ _ (do standAt pos;pure Flow.cont) _ _ _;exact wpAny_bind (wpAny_standAt (wpAny_pure (hok .cont ρ .cont s rfl ⟨rfl,inv,P',ad,rfl,c'⟩)))
  ·cases hc
theorem zjE(X:Ctx prog w zc n f G cf outer F K mg mb L){x:Str}{t:Str}{k:Nat}{np ap cpos pos:Pos}(hx:f.cx.isB x "ValueError"=true):
  kl prog w zc n f G cf cio wf outer lp st (PySem.exec (.Raise (some (.Call (.Name x np) [.Constant (.str t) k ap] [] cpos)) none pos) f.env) .raise .dead:=by
 intro s ρ P ad Q E c hok hve hns;obtain⟨h1,h2,rfl⟩:=za1 hx;refine Raise_madeB PySem.F.excCall_ValueError PySem.F.excRaise_ValueError c.ec.handled (X.B.loadB c.ec.stays c.ec.kind c.ec.globals c.ec.builtins (X.hL.glob _ h1) h2 zoU zlj ⟨rfl,?_⟩);refine spliced_cons (wpAny_Constant_str (env:=f.env) (k:=k) (pos:=ap) (spliced_nil ⟨by exact Nat.zero_lt_succ _,fun h' e hx=>?_⟩));obtain⟨hk,hn,t',he,_,_⟩:=hx;have fr:=c.ec.funs;rw[X.fs] at fr;have ne:∀a,a∈frs (f.env::outer)->zc.get? a=none:=fun a ha=>(fr.mem ha).1;refine hve rfl _ _ ⟨e,PySem.W.hideAll s.heap (frs (f.env::outer)),rfl,fun a o q nx nf=>PySem.W.hideAll_get _ (c.keep a o q nx) nf,?_,fun a o q nx nf=>⟨o.slots,hk a o (c.keep a o q nx)⟩,c.os,c.gens⟩;refine .new _ _ _ he rfl rfl rfl rfl (fun b o q=>hk b o (PySem.W.of_hideAll _ q)) ?_ ?_
 ·cases q:(PySem.W.hideAll s.heap (frs (f.env::outer))).get? e with
  |none=>rfl
  |some o=>have:=PySem.W.of_hideAll _ q;rw[hn] at this;exact nn this
 ·exact jD (h:=s.heap) (fun a o q nf=>⟨o,hk a o q,nf⟩) (PySem.W.funFrames_hide fr fun env he a ha=>List.mem_filterMap.mpr ⟨env,he,ha⟩)
end
end Mine
namespace Mine
open PySem PyProof.Rows PySem.Calls
section
variable{prog:Program}{w:World}{zc:Heap}{n:Nat}{f:Fix}{G:List D}{cf cio:Nat->List D->R D}{wf:Nat}{outer:List Env}{F:List zH}{K:List (Str×D)}{mg mb:Str->Option Value}{L:Addr}
 {lp:Option (List VS)}{st:List VS}
theorem zn5{t:Stmt}{ps:PS}{r:CR}(h:kl prog w zc n f G cf cio wf outer lp st (PySem.exec t f.env) ps r):kl prog w zc n f G cf cio wf outer lp st (execs [t] f.env) ps r:=by
 intro s ρ P ad Q E c hok hve hns;show wpAny _ _ (do match ←PySem.exec t f.env with|.next=>execs [] f.env|f=>pure f) _ _ _;refine wpAny_bind (h s ρ P ad _ E c (fun fl ρ' fw s' he hp=>?_) hve hns);have q:=hok fl ρ' fw s' he hp;cases fw<;>exact wpAny_pure q
theorem zir{t:Stmt}{rest:List Stmt}{a b:PS}{r1 r:CR}(h:kl prog w zc n f G cf cio wf outer lp st (PySem.exec t f.env) a r1)
  (h2:∀s1,r1=.st s1->kl prog w zc n f G cf cio wf outer lp s1 (execs rest f.env) b r):kl prog w zc n f G cf cio wf outer lp st (execs (t::rest) f.env) (.seq a b) r:=by
 intro s ρ P ad Q E c hok hve hns;simp only[zuC] at hok hve hns;show wpAny _ _ (do match ←PySem.exec t f.env with|.next=>execs rest f.env|f=>pure f) _ _ _;refine wpAny_bind (h s ρ P ad _ E c (fun fl ρ' fw s' he hp=>?_) (fun he=>hve (by rw[he];rfl)) (fun he=>hns (by rw[he];rfl)));rw[he] at hok hve hns;simp only[R.bind_ok] at hok hve hns;induction fl using Fl.casesOn with
 |next=>
  obtain⟨rfl,s1,P1,ad1,hr,c1⟩:=hp;exact h2 s1 hr s' ρ' P1 ad1 Q E c1 hok hve hns
 |brk=>obtain⟨rfl,hp⟩:=hp;exact wpAny_pure (hok .brk ρ' .brk s' rfl ⟨rfl,hp⟩)
 |cont=>obtain⟨rfl,hp⟩:=hp;exact wpAny_pure (hok .cont ρ' .cont s' rfl ⟨rfl,hp⟩)
 |ret d=>
  obtain⟨v,hp⟩:=hp;obtain⟨s1,P1,ad1,rfl,hp⟩:=hp;exact wpAny_pure (hok (.ret d) ρ' (.ret v) s' rfl ⟨v,s1,P1,ad1,rfl,hp⟩)
set_option tactic.hygienic true in
theorem zcV.joinl{r1 r2:CR}{fl:Fl}{ρ':ze}{fw:Flow}{s':Shared}(h:zcV prog w zc n f lp r1 fl ρ' fw s')(hr:za2 f.fx r1 r2≠.err):zcV prog w zc n f lp (za2 f.fx r1 r2) fl ρ' fw s':=by
 induction fl using Fl.casesOn with
 |next=>
  obtain⟨rfl,s1,P1,ad1,rfl,c1⟩:=h;refine⟨rfl,?_⟩;induction r2 using CR.casesOn with
  |err=>exact absurd rfl hr
  |dead=>exact⟨s1,P1,ad1,rfl,c1⟩
  |st l=>
   simp only[ziw] at hr ⊢;split at hr
   ·rename_i hc;rw[if_pos hc];simp only[Bool.and_eq_true] at hc;obtain⟨P',c'⟩:=c1.weaken hc.1;exact⟨_,P',ad1,rfl,c'⟩
   ·exact absurd rfl hr
 |brk=>exact h
 |cont=>exact h
 |ret d=>exact h
set_option tactic.hygienic true in
theorem zcV.joinr{r1 r2:CR}{fl:Fl}{ρ':ze}{fw:Flow}{s':Shared}(h:zcV prog w zc n f lp r2 fl ρ' fw s')(hr:za2 f.fx r1 r2≠.err):zcV prog w zc n f lp (za2 f.fx r1 r2) fl ρ' fw s':=by
 induction fl using Fl.casesOn with
 |next=>
  obtain⟨rfl,s1,P1,ad1,rfl,c1⟩:=h;refine⟨rfl,?_⟩;induction r1 using CR.casesOn with
  |err=>exact absurd rfl hr
  |dead=>exact⟨s1,P1,ad1,rfl,c1⟩
  |st l=>
   simp only[ziw] at hr ⊢;split at hr
   ·rename_i hc;rw[if_pos hc];simp only[Bool.and_eq_true] at hc;obtain⟨P',c'⟩:=c1.weaken hc.2;exact⟨_,P',ad1,rfl,c'⟩
   ·exact absurd rfl hr
 |brk=>exact h
 |cont=>exact h
 |ret d=>exact h
theorem ziT{fx:Option Nat}{a b:CR}(h:za2 fx a b≠.err):a≠.err:=by rintro rfl;cases b<;>exact h rfl
theorem ziI{fx:Option Nat}{a b:CR}(h:za2 fx a b≠.err):b≠.err:=by rintro rfl;cases a<;>exact h rfl
set_option tactic.hygienic true in
theorem zqS(X:Ctx prog w zc n f G cf outer F K mg mb L){c:Expr}{x y:List Stmt}{pos:Pos}{pc:PE}{a b:PS}(h:trE 40 f.cx c=some pc)(hc:chk f.fx (.ifs pc a b) lp st≠.err)
  (h1:chk f.fx a lp (frz st (lkV true pc))≠.err->kl prog w zc n f G cf cio wf outer lp (frz st (lkV true pc)) (execs x f.env) a (chk f.fx a lp (frz st (lkV true pc))))
  (h2:chk f.fx b lp (frz st (lkV true pc))≠.err->kl prog w zc n f G cf cio wf outer lp (frz st (lkV true pc)) (execs y f.env) b (chk f.fx b lp (frz st (lkV true pc)))):
  kl prog w zc n f G cf cio wf outer lp st (PySem.exec (.If c x y pos) f.env) (.ifs pc a b) (chk f.fx (.ifs pc a b) lp st):=by
 intro s ρ P ad Q E cs hok hve hns;simp only[zq3] at hc hok ⊢;split at hc
 ·rename_i hh;rw[if_pos hh] at hok;simp only[Bool.and_eq_true] at hh;simp only[zvT] at hok hve hns;obtain⟨P',c'⟩:=cs.frz hh.2;refine wpAny_If (ztz X h hh.1 c' (fun t s' hd c₁=>?_) (fun hd=>hve (by rw[hd];rfl)) (fun hd=>hns ?_))
  ·rw[hd] at hok hve hns;induction t using Bool.casesOn with
   |true=>
    exact h1 (ziT hc) s' ρ P' ad Q E c₁ (fun fl ρ' fw s₂ he hp=>hok fl ρ' fw s₂ he (hp.joinl hc)) hve hns
   |false=>
    exact h2 (ziI hc) s' ρ P' ad Q E c₁ (fun fl ρ' fw s₂ he hp=>hok fl ρ' fw s₂ he (hp.joinr hc)) hve hns
  ·exact bts hd
 ·exact absurd rfl hc
set_option tactic.hygienic true in
theorem znI(X:Ctx prog w zc n f G cf outer F K mg mb L){e:Expr}{pe:PE}{pos:Pos}(h:trE 40 f.cx e=some pe)(hs:swapsWith e none pos.line f.env=pure false)(hc:chk f.fx (.exp pe) lp st≠.err):
  kl prog w zc n f G cf cio wf outer lp st (PySem.exec (.Expr e pos) f.env) (.exp pe) (chk f.fx (.exp pe) lp st):=by
 intro s ρ P ad Q E c hok hve hns;simp only[zsx] at hc hok ⊢;split at hc
 ·rename_i hh;rw[if_pos hh] at hok;simp only[Bool.and_eq_true] at hh;simp only[zpv] at hok hve hns;obtain⟨P',c'⟩:=c.frz hh.2;refine wpAny_Expr_any (zgd X h hh.1 c' (fun d v s' hd c₁ r=>?_) (fun hd=>hve (by rw[hd];rfl)) (fun hd=>hns (by rw[hd];rfl))) (by unfold interactive;rw[c.ec.kind];rfl) hs;rw[hd] at hok;exact hok .next ρ .next s' rfl ⟨rfl,_,P',ad,rfl,c₁⟩
 ·exact absurd rfl hc
theorem zbQ:∀{is:List Nat} {ds:List D} {ρ:ze},jE ρ is ds=.ve->False
 |[],[],_,h=>by exact ov h
 |i::is,d::ds,ρ,h=>zbQ (ρ:=ρ.set i d) (is:=is) (ds:=ds) h
 |[],_::_,_,h=>by exact sv h
 |_::_,[],_,h=>by exact sv h
theorem zaB{ρ:ze}{t:Tg}{d:D}:ja ρ t d≠.ve:=by
 intro hb;induction t using Tg.casesOn with
 |one i=>exact ov hb
 |many is=>induction d using PyData.casesOn with
  |tuple ds=>exact zbQ hb
  |_=>exact sv hb
theorem zbZ{t:Expr}{env:Env}(h:zy t):(assignEach [t] env).map (·.2)=[assign t env]:=by
 cases t<;>first|rfl|exact absurd rfl (h _ _)
set_option tactic.hygienic true in
theorem zdg(X:Ctx prog w zc n f G cf outer F K mg mb L){t e:Expr}{tg:Tg}{pe:PE}{pos:Pos}(ht:zaA f.cx t=some tg)(h:trE 40 f.cx e=some pe)(hs:swapsWithSole [t] e pos.line f.env=pure false)(hw:swappedStores [t] e f.env=pure none)(hns':zy t)
  (hc:chk f.fx (.assign tg pe) lp st≠.err):kl prog w zc n f G cf cio wf outer lp st (PySem.exec (.Assign [t] e pos) f.env) (.assign tg pe) (chk f.fx (.assign tg pe) lp st):=by
 intro s ρ P ad Q E c hok hve hns;simp only[zcD] at hc hok ⊢;split at hc
 ·rename_i hh;rw[if_pos hh] at hok;simp only[Bool.and_eq_true] at hh;simp only[zb7] at hok hve hns;obtain⟨P',c'⟩:=c.frz hh.1.2;refine wpAny_Assign_stores (zgd X h hh.1.1 c' (fun d v s' hd c₁ r=>?_) (fun hd=>hve (by rw[hd];rfl)) (fun hd=>hns (by rw[hd];rfl))) hs hw;rw[hd] at hok hve hns;simp only[R.bind_ok] at hok hve hns;rw[zbZ hns'];show wpAny _ _ (assign t f.env v) _ _ _;cases hb:ja ρ tg d with
  |stuck=>rw[hb] at hns;exact absurd rfl hns
  |ve=>exact absurd hb zaB
  |ok ρ'=>
   rw[hb] at hok;exact c₁.assign ht hb X.hnd hh.2 r fun h' tk c₂ _=>hok .next ρ' .next _ rfl ⟨rfl,_,P',ad,rfl,c₂⟩
 ·exact absurd rfl hc
end
end Mine
namespace Mine
open PySem PyProof.Rows PySem.Calls
section
variable{prog:Program}{w:World}{zc:Heap}{n:Nat}{f:Fix}{G:List D}{cf cio:Nat->List D->R D}{wf:Nat}{outer:List Env}{F:List zH}{K:List (Str×D)}{mg mb:Str->Option Value}{L:Addr}
 {lp:Option (List VS)}{st:List VS}
theorem zoQ{fx:Option Nat}{inv l:List VS}(h:zcA fx inv (.st l)≠.err):leS fx inv l=true:=by
 by_cases hc:leS fx inv l=true
 ·exact hc
 ·exact absurd (if_neg hc) h
@[elab_as_elim] theorem zcV.elim{C:Fl->Flow->Prop}{inv:List VS}{r:CR}{fl:Fl}{ρ':ze}{fw:Flow}{s':Shared}(hp:zcV prog w zc n f (some inv) r fl ρ' fw s')(hc:zcA f.fx inv r≠.err)(k1:∀P ad,SSt prog w zc n f inv ρ' P ad s'->C .next .next)(k2:∀P ad,SSt prog w zc n f inv ρ' P ad s'->C .cont .cont)
  (k3:∀P ad,SSt prog w zc n f inv ρ' P ad s'->C .brk .brk)(k4:∀d v st P ad,SSt prog w zc n f st ρ' P ad s'->zl prog w P P s'.heap v d->C (.ret d) (.ret v)):C fl fw:=by
 induction fl using Fl.casesOn with
 |next=>
  obtain⟨rfl,s1,P1,ad1,rfl,c1⟩:=hp;obtain⟨P',c'⟩:=c1.weaken (zoQ hc);exact k1 P' ad1 c'
 |cont=>obtain⟨rfl,i,P1,ad1,hi,c1⟩:=hp;exact k2 P1 ad1 (soI hi▸c1)
 |brk=>obtain⟨rfl,i,P1,ad1,hi,c1⟩:=hp;exact k3 P1 ad1 (soI hi▸c1)
 |ret d=>obtain⟨v,s1,P1,ad1,rfl,c1,r1⟩:=hp;exact k4 d v s1 P1 ad1 c1 r1
set_option tactic.hygienic true in
theorem ziB{fx:Option Nat}{inv:List VS}{r:CR}(h:zcA fx inv r≠.err):zcA fx inv r=.st inv/\r≠.err:=by
 induction r using CR.casesOn with
 |err=>exact absurd rfl h
 |dead=>exact⟨rfl,by simp⟩
 |st l=>
  simp only[zcA] at h ⊢;split at h
  ·rename_i hc;rw[if_pos hc];exact⟨rfl,by simp⟩
  ·exact absurd rfl h
inductive zv0(test:ze->R Bool)(body:ze->R (Fl×ze))(res:R (Fl×ze))(C:ze->(Addr->Prop)->(Nat->Addr)->Prop)(m:Nat):Prop
 |mk(ρ₁:ze)(P₁:Addr->Prop)(ad₁:Nat->Addr)(c:C ρ₁ P₁ ad₁)(hr:zbF test body m ρ₁=res)
set_option tactic.hygienic true in
theorem zi4(X:Ctx prog w zc n f G cf outer F K mg mb L){c:Expr}{x:List Stmt}{pos:Pos}{pc:PE}{b:PS}(h:trE 40 f.cx c=some pc)(hc:chk f.fx (.whil pc b) lp st≠.err)
  (h1:∀inv,chk f.fx b (some inv) inv≠.err->kl prog w zc n f G cf cio wf outer (some inv) inv (execs x f.env) b (chk f.fx b (some inv) inv)):
  kl prog w zc n f G cf cio wf outer lp st (PySem.exec (.While c x [] pos) f.env) (.whil pc b) (chk f.fx (.whil pc b) lp st):=by
 intro s ρ P ad Q E cs hok hve hns;simp only[zo4] at hc hok ⊢;generalize zcG (fun i=>chk f.fx b (some i) i) 4 (frz st (lkV true pc))=inv at hc hok;split at hc
 ·rename_i hh;rw[if_pos hh] at hok;simp only[Bool.and_eq_true] at hh;obtain⟨hst,hne⟩:=ziB hc;rw[hst] at hok;simp only[zrL] at hok hve hns;obtain⟨P',c'⟩:=cs.weaken hh.1;generalize hres:zbF (fun σ=>R.bind (ev G cf pc σ) zM) (fun σ=>Mine.exec G cf cio wf b σ) wf ρ=res at hok hve hns;refine wpAny_While (codeAny_whileLoop (fun m s₁=>zv0 (fun σ=>R.bind (ev G cf pc σ) zM) (fun σ=>Mine.exec G cf cio wf b σ) res (fun ρ₁ P₁ ad₁=>SSt prog w zc n f inv ρ₁ P₁ ad₁ s₁) m) (fun m s₁ hI=>?_) wf ⟨ρ,P',ad,c',hres⟩);obtain⟨ρ₁,P₁,ad₁,c₁,hr⟩:=hI;induction m using Nat.casesOn with
  |zero=>skip;exact absurd hr.symm hns
  |succ m=>
   simp only[zxz] at hr;refine ztz X h hh.2 c₁ (fun t s' hd c₂=>?_) (fun hd y s' q=>?_) (fun hd=>?_)
   ·rw[hd] at hr;induction t using Bool.casesOn with
    |false=>
     exact wpAny_pure (hok .next ρ₁ .next s' hr.symm ⟨rfl,inv,P₁,ad₁,rfl,c₂⟩)
    |true=>
     refine h1 inv hne s' ρ₁ P₁ ad₁ _ _ c₂ (fun fl ρ' fw s₂ he hp=>?_) (fun he y s₂ q=>?_) (fun he=>?_)
     ·rw[he] at hr
      revert hr
      exact zcV.elim hp hc (fun P₂ ad₂ c₃ hr=>⟨m,Nat.lt_succ_self _,.mk ρ' P₂ ad₂ c₃ hr⟩) (fun P₂ ad₂ c₃ hr=>⟨m,Nat.lt_succ_self _,.mk ρ' P₂ ad₂ c₃ hr⟩) (fun P₂ ad₂ c₃ hr=>hok .next ρ' .next s₂ hr.symm ⟨rfl,inv,P₂,ad₂,rfl,c₃⟩)
       (fun d v st₂ P₂ ad₂ c₃ r₃ hr=>hok (.ret d) ρ' (.ret v) s₂ hr.symm ⟨v,st₂,P₂,ad₂,rfl,c₃,r₃⟩)
     ·rw[he] at hr;exact ExF.noted (X.fs▸c₂.ec.frames) X.fr q fun s'' q'=>hve hr.symm y s'' q'
     ·rw[he] at hr;exact hns hr.symm
   ·rw[hd] at hr;exact ExF.noted (X.fs▸c₁.ec.frames) X.fr q fun s'' q'=>hve hr.symm y s'' q'
   ·rw[hd] at hr;exact hns hr.symm
 ·exact absurd rfl hc
noncomputable def Fix.with(f:Fix)(Z Y:Addr->Obj->Prop):Fix:={f with Z:=Z,Y:=Y}
theorem SSt.less{Z Y:Addr->Obj->Prop}{ρ:ze}{P:Addr->Prop}{ad:Nat->Addr}{s:Shared}(c:SSt prog w zc n (f.with Z Y) st ρ P ad s)(hz:∀a o,f.Z a o->Z a o)(hy:∀a o,f.Y a o->Y a o):SSt prog w zc n f st ρ P ad s:=
 ⟨c.ec,c.fram,c.len,c.nlen,c.var,c.own,c.oP,c.dist,c.sub,c.oP0,c.fxa,c.noX,c.fresh,c.pnew0,c.keep,c.os,c.gens,c.vk,fun a o q=>c.zs a o (hz a o q),fun a o q=>c.ys a o (hy a o q),fun a o q=>c.zf a o (hz a o q)⟩
theorem SSt.more{Z Y:Addr->Obj->Prop}{ρ:ze}{P:Addr->Prop}{ad:Nat->Addr}{s:Shared}(c:SSt prog w zc n f st ρ P ad s)(hz:∀a o,Z a o->s.heap.get? a=some o/\¬P a/\¬Own f.env a/\∀i,VS.at st i=.o->a≠ad i)(hy:∀a o,Y a o->P a/\s.heap.get? a=some o)(hf:∀a o,Z a o->a∉frs f.fs):
  SSt prog w zc n (f.with Z Y) st ρ P ad s:=
 ⟨c.ec,c.fram,c.len,c.nlen,c.var,c.own,c.oP,c.dist,c.sub,c.oP0,c.fxa,c.noX,c.fresh,c.pnew0,c.keep,c.os,c.gens,c.vk,hz,hy,hf⟩
theorem SSt.iter'{ρ:ze}{P P':Addr->Prop}{ad:Nat->Addr}{s s':Shared}{I:Addr}(c:SSt prog w zc n f st ρ P ad s)(mP:∀a o,P a->s.heap.get? a=some o->P' a/\s'.heap.get? a=some o)(hk:∀a o,a≠I->s.heap.get? a=some o->s'.heap.get? a=some o)(anf:zrp f.fs s.heap s'.heap)
  (pn:km P' s'.heap)(hP:∀a,P' a->P a\/a=I)(pI:f.P₀ I)(oI:¬Own f.env I)(aI:∀i,VS.at st i=.o->ad i≠I)(nI:f.s₀.heap.get? I=none)(fI:I∉frs f.fs)(zI:∀o,¬f.Z I o)(os:s'.os=s.os)(gn:AllBare s.gens->AllBare s'.gens):SSt prog w zc n f st ρ P' ad s':=by
 have nP:∀i,VS.at st i=.o->¬P' (ad i):=fun i hi q=>by
  rcases hP _ q with q|q
  ·exact(c.oP i hi).1 q
  ·exact aI i hi q
 have kO:∀a o,Own f.env a->s.heap.get? a=some o->s'.heap.get? a=some o:=fun a o q e=>hk a o (fun z=>oI (z▸q)) e;refine⟨c.ec.change' mP anf ?_ ?_ pn,c.fram.keep fun a o q e=>kO a o q.own e,c.len,c.nlen,fun i x k h1 h2 h3=>?_,fun i x k h1 h2 h3=>?_,fun i h1=>⟨nP i h1,(c.oP i h1).2⟩,c.dist,?_,c.oP0,c.fxa,c.noX,c.fresh,c.pnew0,
  fun a o e nx=>hk a o (fun z=>by rw[z,nI] at e;exact nn e) (c.keep a o e nx),os.trans c.os,fun g=>gn (c.gens g),c.vk,fun a o q=>?_,fun a o q=>mP a o (c.ys a o q).1 (c.ys a o q).2,c.zf⟩
 ·exact fun a q=>(hP a q).elim (c.ec.own a) fun e=>e▸oI
 ·exact fun a q=>(hP a q).elim (c.ec.nofr a) fun e=>e▸fI
 ·obtain⟨v,h4,h5⟩:=c.var i x k h1 h2 h3;exact⟨v,h4.move kO,h5.move mP mP⟩
 ·obtain⟨h4,h5⟩:=c.own i x k h1 h2 h3;exact⟨h4.move kO,h5.move (fun a o t e=>⟨t,hk a o (by rw[t];exact aI i h3) e⟩) mP⟩
 ·exact fun a q=>(hP a q).elim (c.sub a) fun e=>e▸pI
 ·obtain⟨h1,h2,h3,h4⟩:=c.zs a o q;have ne:a≠I:=fun z=>zI o (z▸q);exact⟨hk a o ne h1,fun z=>(hP a z).elim h2 ne,h3,h4⟩
theorem SSt.iter{ρ:ze}{P P':Addr->Prop}{ad:Nat->Addr}{s s':Shared}{I:Addr}(c:SSt prog w zc n f st ρ P ad s)(mP:∀a o,P a->s.heap.get? a=some o->P' a/\s'.heap.get? a=some o)(hk:∀a o,a≠I->s.heap.get? a=some o->s'.heap.get? a=some o)(anf:ANF s.heap s'.heap)
  (pn:km P' s'.heap)(hP:∀a,P' a->P a\/a=I)(pI:f.P₀ I)(oI:¬Own f.env I)(aI:∀i,VS.at st i=.o->ad i≠I)(nI:f.s₀.heap.get? I=none)(fI:I∉frs f.fs)(zI:∀o,¬f.Z I o)(os:s'.os=s.os)(gn:AllBare s.gens->AllBare s'.gens):SSt prog w zc n f st ρ P' ad s':=
 c.iter' mP hk anf.f pn hP pI oI aI nI fI zI os gn
theorem SSt.new0{ρ:ze}{P:Addr->Prop}{ad:Nat->Addr}{s:Shared}{I:Addr}(c:SSt prog w zc n f st ρ P ad s)(h:s.heap.get? I=none):f.s₀.heap.get? I=none:=by
 cases q:f.s₀.heap.get? I with
 |none=>rfl
 |some o=>
  by_cases hx:f.X I
  ·cases hf:f.fx with
   |none=>exact absurd hx (c.noX hf I)
   |some i=>
    obtain⟨h1,h2⟩:=c.fxa i hf;obtain⟨o',h3,_⟩:=c.there h1;rw[←(h2 I).mp hx,h] at h3;exact nn h3
  ·rw[c.keep I o q hx] at h;exact sn h
theorem zjF{bd:ze->D->R ze}{body:ze->R (Fl×ze)}{d:D}{ds:List D}{ρ:ze}{res:R (Fl×ze)}(h:zab bd body (d::ds) ρ=res)(hns:res≠.stuck)(hbv:bd ρ d≠.ve):∃ρ',bd ρ d=.ok ρ'/\R.bind (body ρ') (fun r=>match r.1 with
   |.next|.cont=>zab bd body ds r.2
   |.brk=>.ok (.next,r.2)
   |.ret v=>.ok (.ret v,r.2))=res:=by
 simp only[zwE] at h;cases hb:bd ρ d with
 |ok ρ'=>rw[hb] at h;exact⟨ρ',rfl,h⟩
 |ve=>exact absurd hb hbv
 |stuck=>rw[hb] at h;exact absurd h.symm hns
inductive zyl(bd:ze->D->R ze)(body:ze->R (Fl×ze))(ds:List D)(res:R (Fl×ze))(St:Nat->Heap->Prop)(C:ze->(Addr->Prop)->(Nat->Addr)->Prop)(inv:List VS)(I:Addr)(m:Nat)(h:Heap):Prop
 |mk(j:Nat)(ρ₁:ze)(P₁:Addr->Prop)(ad₁:Nat->Addr)(hj:j<=ds.length)(hm:m=ds.length+1 - j)(hl:zab bd body (ds.drop j) ρ₁=res)(hst:St j h)(c:C ρ₁ P₁ ad₁)(nP:¬P₁ I)(nA:∀i,VS.at inv i=.o->ad₁ i≠I)
theorem zvQ{x:R D}{it:D->R (List D)}{k:List D->R (Fl×ze)}{ds:List D}(h:R.bind x it=.ok ds):(R.bind x fun d=>R.bind (it d) k)=k ds:=by
 obtain⟨d,h1,h2⟩:=rb h;rw[h1];show R.bind (it d) k=_;rw[h2];rfl
theorem zuy{x:R D}{it:D->R (List D)}{k:List D->R (Fl×ze)}(h:R.bind x it=.stuck):(R.bind x fun d=>R.bind (it d) k)=.stuck:=by
 induction x using R.casesOn with
 |ok d=>have h:it d=.stuck:=h;show R.bind (it d) k=_;rw[h];rfl
 |ve=>exact vs' h
 |stuck=>rfl
set_option tactic.hygienic true in
theorem zoY(X:Ctx prog w zc n f G cf outer F K mg mb L){te ie:Expr}{x:List Stmt}{pos:Pos}{tg:Tg}{q:Bool×PE}{b:PS}(ht:zaA f.cx te=some tg)(hit:it? (trE 40) f.cx ie=some q)(hc:chk f.fx (.forr tg q.1 q.2 b) lp st≠.err)
  (h1:∀Z Y inv,chk f.fx b (some inv) (zZ inv tg)≠.err->kl prog w zc n (f.with Z Y) G cf cio wf outer (some inv) (zZ inv tg) (execs x f.env) b (chk f.fx b (some inv) (zZ inv tg))):
  kl prog w zc n f G cf cio wf outer lp st (PySem.exec (.For te ie x [] pos) f.env) (.forr tg q.1 q.2 b) (chk f.fx (.forr tg q.1 q.2 b) lp st):=by
 intro s ρ P ad Q E cs hok hve hns;simp only[zoP] at hc hok ⊢;generalize zcG (fun i=>chk f.fx b (some i) (zZ i tg)) 4 (frz st (lkV q.1 q.2))=inv at hc hok;split at hc
 ·rename_i hh;rw[if_pos hh] at hok;simp only[Bool.and_eq_true] at hh;obtain⟨⟨⟨hh1,hh2⟩,hh3⟩,hh4⟩:=hh;obtain⟨hst,hne⟩:=ziB hc;rw[hst] at hok;simp only[zta] at hok hve hns;obtain⟨P',c'⟩:=cs.frz hh2;obtain⟨i1,i2⟩:=zaL X.B X.hL (fun e pe h=>X.sound h) hit hh1;refine wpAny_For (i1 P' f.A f.fs s ρ _ E c'.ec c'.vok (fun ds v s' h₀ hds ch k1 k2 I=>?_) (fun hd y s' z=>hve (by rw[hd];rfl) y s' (za6.exf X.fs c' z)) (fun hd=>hns ?_)) i2
  ·have hev:=zvQ (k:=fun xs=>zab (fun σ d=>ja σ tg d) (fun σ=>Mine.exec G cf cio wf b σ) xs ρ) hds;rw[hev] at hok hve hns;generalize hres:zab (fun σ d=>ja σ tg d) (fun σ=>Mine.exec G cf cio wf b σ) ds ρ=res at hok hve hns
   (obtain⟨I,fp,PV,St,zr6,hI0,W,hSt,hfp,hPV,hcls⟩:=I;replace zr6:=Eq.symm zr6;subst zr6)
   have hIs:s.heap.get? I=none:=kI k1 hI0;obtain⟨P'',hPP,c1⟩:=c'.weaken' hh3;have pI:P'' I:=c1.ec.pnew I hIs;have oI:¬Own f.env I:=c1.ec.own I pI;have fI:I∉frs f.fs:=c1.ec.nofr I pI;have nI:=c1.new0 hIs;have p0I:f.P₀ I:=c1.pnew0 I nI;obtain⟨oI0,_,hoI0,_,_,hnf0⟩:=hcls 0 _ hSt;have ne:∀a o,s.heap.get? a=some o->a≠I:=fun a o e z=>by rw[z,hIs] at e;exact nn e
   have aI:∀i,VS.at inv i=.o->ad i≠I:=fun i hi=>let ⟨o,ho,_⟩:=c1.there hi;ne _ o ho;have zI:∀o,¬f.Z I o:=fun o z=>by have:=(c1.zs I o z).1;rw[hIs] at this;exact nn this
   have c2:SSt prog w zc n f inv ρ (fun a=>P'' a/\a≠I) ad s':=c1.iter (I:=I) (fun a o p e=>⟨⟨p,ne a o e⟩,ch.keep a o e⟩) (fun a o _ e=>ch.keep a o e) (jF.of_keep ch.keep).nf
    (fun a e=>⟨(c1.ec.pnew.keep ch.keep) a e,fun z=>by rw[z,hoI0] at e;exact sn e⟩) (fun a p=>.inl p.1) p0I oI aI nI fI zI ch.os ch.gens
   let Y:Addr->Obj->Prop:=fun a o=>f.Y a o\/((P'' a/\a≠I)/\s'.heap.get? a=some o);have c3:SSt prog w zc n (f.with f.Z Y) inv ρ (fun a=>P'' a/\a≠I) ad s':=c2.more c2.zs (fun a o z=>z.elim (c2.ys a o) id) c2.zf;have itm:∀i u,i<ds.length->PV i u->∃d,ds[i]?=some d/\Rep (fun a=>P'' a/\a≠I) s'.heap u d:=fun i u hi hu=>by
    obtain⟨d,h2,h3⟩:=hPV i u hi hu;exact⟨d,h2,h3.move fun a o p e=>⟨⟨hPP a p,fun z=>by rw[z,hI0] at e;exact nn e⟩,k2 a o e⟩⟩
   refine codeAny_forLoop_any (fun m s₁=>zyl (fun σ d=>ja σ tg d) (fun σ=>Mine.exec G cf cio wf b σ) ds res St (fun ρ₁ P₁ ad₁=>SSt prog w zc n (f.with f.Z Y) inv ρ₁ P₁ ad₁ s₁) inv I m s₁.heap) (fun m s₁ hJ=>?_) (ds.length+1) ⟨0,ρ,_,ad,Nat.zero_le _,rfl,hres,hSt,c3,fun z=>z.2 rfl,aI⟩
   (obtain⟨j,ρ₁,P₁,ad₁,hj,zr7,hl,hst₁,c₁,nP,nA⟩:=hJ;replace zr7:=Eq.symm zr7;subst zr7)
   obtain⟨oI1,nI1,hoI1,_,_,hnf1⟩:=hcls _ _ hst₁;have anf:∀{h':Heap},(∀b o,b≠I->s₁.heap.get? b=some o->h'.get? b=some o)->ANF s₁.heap h':=zlf hoI1 hnf1;by_cases hlt:j<ds.length
   ·refine W.item j s₁ _ _ hlt hst₁ fun u h' tk hu hst' hk=>?_;obtain⟨d,hd,rd⟩:=itm j u hlt hu;obtain⟨oI2,nI2,hoI2,hcl2,hown2,hnf2⟩:=hcls _ _ hst';have hk':∀b o,b≠I->s₁.heap.get? b=some o->h'.get? b=some o:=zeq hk;rw[zhG hd] at hl;obtain⟨ρ₂,hb,hl⟩:=zjF hl hns zaB;have c₂:SSt prog w zc n (f.with f.Z Y) inv ρ₁ P₁ ad₁ {s₁ with heap:=h',toks:=tk}:=c₁.iter (I:=I) (s':={s₁ with heap:=h',toks:=tk}) (fun a o p e=>⟨p,hk' a o (fun z=>nP (z▸p)) e⟩) (fun a o z e=>hk' a o z e) (anf hk')
     (fun a e=>c₁.ec.pnew a (zfW hk' hoI2 e)) (fun a p=>.inl p) p0I oI nA nI fI zI rfl id
    have rd':Rep P₁ h' u d:=rd.move fun a o p e=>c₂.ys a o (.inr ⟨p,e⟩);refine zib (s:={s₁ with heap:=h',toks:=tk}) hoI2 hcl2 hown2 ?_;refine SSt.assign (f:=f.with f.Z Y) (s:={s₁ with heap:=h',toks:=tk}) c₂ ht hb X.hnd hh4 (.rep rd') fun h₃ tk₃ c₃ B₃=>?_;have hoI3:h₃.get? I=some oI2:=B₃.keepO I oI2 oI hoI2;have ofo:∀{i},VS.at (zZ inv tg) i=.o->VS.at inv i=.o:=fun {i} z=>by
     rcases zde (t:=tg) (st:=inv) (i:=i) with e|e
     ·rw[←e];exact z
     ·rw[e] at z;cases z
    let Z:Addr->Obj->Prop:=fun a o=>f.Z a o\/(a=I/\o=oI2);have c₄:SSt prog w zc n (f.with Z Y) (zZ inv tg) ρ₂ P₁ ad₁ {s₁ with heap:=h₃,toks:=tk₃}:=SSt.more (f:=f.with f.Z Y) c₃ (fun a o z=>z.elim (c₃.zs a o) (fun⟨ea,eo⟩=>ea▸eo▸⟨hoI3,nP,oI,fun i hi=>(nA i (ofo hi)).symm⟩)) c₃.ys (fun a o z=>z.elim (c₃.zf a o) (fun z=>z.1▸fI));refine h1 Z Y inv hne {s₁ with heap:=h₃,toks:=tk₃} ρ₂ P₁ ad₁ _ _ c₄ (fun fl ρ' fw s₂ he hp=>?_) (fun he y s₂ z=>?_) (fun he=>?_)
    ·rw[he] at hl;simp only[R.bind_ok] at hl;have back:∀{st' P₂ ad₂},SSt prog w zc n (f.with Z Y) st' ρ' P₂ ad₂ s₂->SSt prog w zc n f st' ρ' P₂ ad₂ s₂:=fun c=>c.less (fun a o z=>.inl z) (fun a o z=>.inl z);have loop:∀{P₂ ad₂},SSt prog w zc n (f.with Z Y) inv ρ' P₂ ad₂ s₂->zab (fun σ d=>ja σ tg d) (fun σ=>Mine.exec G cf cio wf b σ) (ds.drop (j+1)) ρ'=res->∃m,m<ds.length+1 - j/\zyl (fun σ d=>ja σ tg d) (fun σ=>Mine.exec G cf cio wf b σ) ds res St (fun ρ₁ P₁ ad₁=>SSt prog w zc n (f.with f.Z Y) inv ρ₁ P₁ ad₁ s₂) inv I m s₂.heap:=fun {P₂ ad₂} c hl=>by
      obtain⟨z1,z2,z3,z4⟩:=c.zs I oI2 (.inr ⟨rfl,rfl⟩);refine⟨ds.length+1 - (j+1),ziF hlt,j+1,ρ',P₂,ad₂,by assumption,rfl,hl,?_,SSt.less (f:=f.with f.Z Y) c (fun a o z=>.inl z) (fun a o z=>z),z2,fun i hi=>(z4 i hi).symm⟩;refine W.frame _ _ _ hst' fun b hb o e=>?_;by_cases z:b=I
      ·rw[z] at e ⊢;rw[←soI (hoI2.symm.trans e)];exact z1
      ·obtain⟨g1,o',g2⟩:=hfp b hb z;have g3:=(c.ys b o' (.inr ⟨⟨hPP b g1,z⟩,k2 b o' g2⟩)).2;have g4:=(c₂.ys b o' (.inr ⟨⟨hPP b g1,z⟩,k2 b o' g2⟩)).2;rw[←soI ((show h'.get? b=some o' from g4).symm.trans e)];exact g3
     have hc':zcA (f.with Z Y).fx inv (chk f.fx b (some inv) (zZ inv tg))≠.err:=hc
     revert hl
     exact zcV.elim hp hc' (fun P₂ ad₂ c₅ hl=>loop c₅ hl) (fun P₂ ad₂ c₅ hl=>loop c₅ hl) (fun P₂ ad₂ c₅ hl=>hok .next ρ' .next s₂ hl.symm ⟨rfl,inv,P₂,ad₂,rfl,back c₅⟩)
      (fun d' v st₂ P₂ ad₂ c₅ r₅ hl=>hok (.ret d') ρ' (.ret v) s₂ hl.symm ⟨v,st₂,P₂,ad₂,rfl,back c₅,r₅⟩)
    ·rw[he] at hl;exact ExF.noted (X.fs▸c₁.ec.frames) X.fr z fun s'' z'=>hve hl.symm y s'' z'
    ·rw[he] at hl;exact hns hl.symm
   ·have hj':j=ds.length:=by lia
    (replace hj':=Eq.symm hj';subst hj')
    simp only[List.drop_length,zxX] at hl;refine W.done s₁ _ _ hst₁ fun h' tk hk=>?_;have hk':∀b o,b≠I->s₁.heap.get? b=some o->h'.get? b=some o:=zeq hk;have c₂:SSt prog w zc n (f.with f.Z Y) inv ρ₁ (fun a=>P₁ a\/a=I) ad₁ {s₁ with heap:=h',toks:=tk}:=c₁.iter (I:=I) (s':={s₁ with heap:=h',toks:=tk}) (fun a o p e=>⟨.inl p,hk' a o (fun z=>nP (z▸p)) e⟩) (fun a o z e=>hk' a o z e) (anf hk')
     (fun a e=>(Classical.em (a=I)).elim .inr fun z2=>.inl (c₁.ec.pnew a (zeR hk' z2 e))) (fun a p=>p) p0I oI nA nI fI zI rfl id
    exact wpAny_pure (hok .next ρ₁ .next _ hl.symm ⟨rfl,inv,_,ad₁,rfl,c₂.less (fun a o z=>z) (fun a o z=>.inl z)⟩)
  ·exact zuy hd
 ·exact absurd rfl hc
end
end Mine
namespace Mine
open PySem PyProof.Rows PySem.Calls
theorem zcS{P:Addr->Prop}{h:Heap}{K:Type}[DecidableEq K]{enc:K->D}(hs:∀k k',jS (enc k) (enc k')=decide (k=k')){v:Value}{d:D}{k:K}(r:Rep P h v d):
  ∀{l:List (K×Value)} {kvs:List (D×D)},KVs P h enc l kvs->(l.map (·.1)).Nodup->KVs P h enc (stored l k v) (zen kvs (enc k) d)
 |_,_,.nil,_=>by
  have:stored ([]:List (K×Value)) k v=[(k,v)]:=by rfl
  rw[this];exact .cons r .nil
 |_,_,.cons (k:=k0) (v:=v0) (d:=d0) (l:=l) (kvs:=kvs) r0 q,hn=>by
  simp only[List.map_cons,List.nodup_cons] at hn;by_cases e:k0=k
  ·subst e;have e1:stored ((k0,v0)::l) k0 v=(k0,v)::l:=by
    unfold stored;rw[if_pos (by simp)];simp only[List.map_cons,if_true];congr 1;refine map_eq_self fun kv hkv=>?_;rw[if_neg];intro z;exact hn.1 (z▸List.mem_map_of_mem (f:=(·.1)) hkv)
   rw[e1];rw[show zen ((enc k0,d0)::kvs) (enc k0) d=_ from if_pos (by rw[hs];exact decide_eq_true rfl)];exact .cons r q
  ·have e1:stored ((k0,v0)::l) k v=(k0,v0)::stored l k v:=by
    unfold stored;have:(List.any ((k0,v0)::l) fun kv=>decide (kv.1=k))=l.any fun kv=>decide (kv.1=k):=by simp[e]
    rw[this];split
    ·simp[e]
    ·rfl
   rw[e1];have:jS (enc k0) (enc k)=false:=by rw[hs];exact if_neg ‹_›
   rw[show zen ((enc k0,d0)::kvs) (enc k) d=_ from if_neg (by rw[this];exact nofun)];exact .cons r0 (zcS hs r q hn.2)
theorem zje{K:Type}[DecidableEq K]{k0:K}{p:Addr×Value}{l:List (K×Addr×Value)}{k:K}(h:k0≠k):atKey ((k0,p)::l) k=atKey l k:=by
 unfold atKey;simp[h]
theorem zeH{P:Addr->Prop}{h:Heap}{v:Value}{d:D}{i j:Int}{a:Addr}(pa:P a)(r:Rep P h v d):
  ∀{l:List (List Int×Addr×Value)} {kvs:List (D×D)},KVH P h l kvs->(l.map (·.1)).Nodup->KVH P h (storedH l [i,j] a v) (zen kvs (.tuple [.int i,.int j]) d)
 |_,_,.nil,_=>by
  have:storedH ([]:List (List Int×Addr×Value)) [i,j] a v=[([i,j],a,v)]:=by rfl
  rw[this];exact .cons pa r .nil
 |_,_,.cons (i:=i0) (j:=j0) (a:=a0) (v:=v0) (d:=d0) (l:=l) (kvs:=kvs) p0 r0 q,hn=>by
  simp only[List.map_cons,List.nodup_cons] at hn;by_cases e:i0=i/\j0=j
  ·obtain⟨rfl,rfl⟩:=e;have e1:storedH (([i0,j0],a0,v0)::l) [i0,j0] a v=([i0,j0],a0,v)::l:=by
    unfold storedH;rw[if_pos (by simp[atKey])];simp only[List.map_cons];congr 1
    ·simp[putAt]
    ·refine map_eq_self fun kv hkv=>?_;unfold putAt;rw[if_neg];intro z;exact hn.1 (z▸List.mem_map_of_mem (f:=(·.1)) hkv)
   rw[e1];have:jS (.tuple [.int i0,.int j0]) (.tuple [.int i0,.int j0])=true:=by show(i0==i0&&(j0==j0&&true))=true;simp
   rw[show zen ((PyData.tuple [.int i0,.int j0],d0)::kvs) (.tuple [.int i0,.int j0]) d=_ from if_pos this];exact .cons p0 r q
  ·have ne:([i0,j0]:List Int)≠[i,j]:=fun z=>e (by simpa using z);have e1:storedH (([i0,j0],a0,v0)::l) [i,j] a v=([i0,j0],a0,v0)::storedH l [i,j] a v:=by
    unfold storedH;rw[zje ne];split
    ·simp only[List.map_cons];congr 1;unfold putAt;rw[if_neg ne]
    ·rfl
   rw[e1];have:jS (.tuple [.int i0,.int j0]) (.tuple [.int i,.int j])=false:=by
    show(i0==i&&(j0==j&&true))=false
    simpa using e
   rw[show zen ((PyData.tuple [.int i0,.int j0],d0)::kvs) (.tuple [.int i,.int j]) d=_ from if_neg (by rw[this];exact nofun)];exact .cons p0 r0 (zeH pa r q hn.2)
theorem zo9{k d:D}{kvs:List (D×D)}:(zen kvs k d).length<=kvs.length+1:=by
 induction kvs with
 |nil=>exact Nat.le_refl _
 |cons kv r ih=>
  unfold zen;split
  ·exact Nat.le_succ _
  ·exact Nat.succ_le_succ ih
end Mine
namespace Mine
open PySem PyProof.Rows PySem.Calls
section
variable{prog:Program}{w:World}{zc:Heap}{n:Nat}{f:Fix}{G:List D}{cf cio:Nat->List D->R D}{wf:Nat}{outer:List Env}{F:List zH}{K:List (Str×D)}{mg mb:Str->Option Value}{L:Addr}
 {lp:Option (List VS)}{st:List VS}{ρ:ze}{P:Addr->Prop}{ad:Nat->Addr}{s s₁:Shared}
theorem zrW{st:List VS}{i:Nat}{v:VS}(hi:i<st.length)(j:Nat):VS.at (st.set i v) j=if j=i then v else VS.at st j:=by
 rw[VS.at_set];by_cases q:j=i
 ·rw[if_pos ⟨q.symm,q▸hi⟩,if_pos q]
 ·rw[if_neg (fun z=>q z.1.symm),if_neg q]
theorem zml{ρ:ze}{i:Nat}{d:D}(hi:i<ρ.length)(j:Nat):zr (ρ.set i d) j=if j=i then d else zr ρ j:=by
 rw[zat];by_cases q:j=i
 ·rw[if_pos ⟨q.symm,q▸hi⟩,if_pos q]
 ·rw[if_neg (fun z=>q z.1.symm),if_neg q]
theorem SSt.newOwn{x:Str}{i:Nat}{N:Addr}{d:D}{E:Value->Shared->Prop}{Q:Unit->Shared->Prop}(c:SSt prog w zc n f st ρ P ad s)(hN:s.heap.get? N=none)(ch:Ch s s₁)(hN':∃o,s₁.heap.get? N=some o)
  (r:zl prog w (fun a=>a=N) (fun a=>P a/\a≠N) s₁.heap (.ref N) d)(hx:f.cx.tv? x=some i)(hnd:(f.cx.names.map (·.1)).Nodup)(hfx:f.fx≠some i)(hi:i<st.length)
  (h:∀h' tk P' ad',SSt prog w zc n f (st.set i .o) (ρ.set i d) P' ad' {s₁ with heap:=h',toks:=tk}->Q () {s₁ with heap:=h',toks:=tk}):wpAny (model prog w) f.A (storeName f.env x (.ref N)) Q E s₁:=by
 have pN:P N:=c.ec.pnew N hN;have oN:¬Own f.env N:=c.ec.own N pN;have fN:N∉frs f.fs:=c.ec.nofr N pN;have n0:=c.new0 hN;have p0:f.P₀ N:=c.pnew0 N n0;have ne:∀a o,s.heap.get? a=some o->a≠N:=fun a o e z=>by rw[z,hN] at e;exact nn e
 have aN:∀j,VS.at st j=.o->ad j≠N:=fun j hj=>let ⟨o,ho,_⟩:=c.there hj;ne _ o ho;have zN:∀o,¬f.Z N o:=fun o z=>by have:=(c.zs N o z).1;rw[hN] at this;exact nn this
 have c1:SSt prog w zc n f st ρ (fun a=>P a/\a≠N) ad s₁:=c.iter (I:=N) (fun a o p e=>⟨⟨p,ne a o e⟩,ch.keep a o e⟩) (fun a o _ e=>ch.keep a o e) (jF.of_keep ch.keep).nf
  (fun a e=>⟨(c.ec.pnew.keep ch.keep) a e,fun z=>by obtain⟨o,ho⟩:=hN';rw[z,ho] at e;exact sn e⟩) (fun a p=>.inl p.1) p0 oN aN n0 fN zN ch.os ch.gens
 obtain⟨k,h1,h2,h3⟩:=zdn hx;obtain⟨k',h4,h5,_⟩:=zak h3;refine zge c1.fram h1 h2 fun h' tk B F' hv ho=>h h' tk (fun a=>P a/\a≠N) (fun j=>if j=i then N else ad j) ?_;have mP:∀a o,(P a/\a≠N)->s₁.heap.get? a=some o->(P a/\a≠N)/\h'.get? a=some o:=fun a o p e=>⟨p,B.keepO a o (c1.ec.own a p) e⟩;have ats:=zrW (v:=.o) hi;have gts:=zml (d:=d) (c.len▸hi:i<ρ.length);have old:∀{j},VS.at (st.set i .o) j=.o->j≠i->VS.at st j=.o:=fun {j} q hne=>by rw[ats,if_neg hne] at q;exact q
 have nx:∀{j y k},f.cx.names[j]?=some (y,k)->j≠i->y≠x:=fun {j y k} hj hne e=>hne (ze7 hnd hj (e▸h4));refine⟨c1.ec.change mP B.alloc.nf c1.ec.own c1.ec.nofr (c1.ec.pnew.alloc B.alloc),F',by simp[c.len],by simpa using c.nlen,fun j y k h6 h7 h8=>?_,fun j y k h6 h7 h8=>?_,fun j hj=>?_,fun j l hj hl hjl=>?_,fun a p=>c.sub a p.1,fun j hj hjf=>?_,fun j hj=>?_,
  c.noX,c.fresh,c.pnew0,fun a o e nx=>B.keepO a o (fun q=>by rw[c.fresh a q] at e;exact nn e) (c1.keep a o e nx),c1.os,c1.gens,fun j y k h6 h7=>?_,fun a o q=>?_,fun a o q=>?_,c.zf⟩
 ·have hne:j≠i:=fun q=>by rw[ats,if_pos q] at h8;cases h8
  rw[ats,if_neg hne] at h8;obtain⟨v,g1,g2⟩:=c1.var j y k h6 h7 h8;refine⟨v,ho y v (nx h6 hne) g1,?_⟩;rw[gts,if_neg hne];exact g2.move mP mP
 ·by_cases q:j=i
  ·(replace q:=Eq.symm q;subst q)
   rw[h4] at h6;cases h6;simp only[if_true];refine⟨hv,?_⟩;rw[gts,if_pos rfl];exact r.move (fun a o t e=>⟨t,B.keepO a o (by rw[t];exact oN) e⟩) mP
  ·obtain⟨g1,g2⟩:=c1.own j y k h6 h7 (old h8 q);simp only[if_neg q];refine⟨ho y _ (nx h6 q) g1,?_⟩;rw[gts,if_neg q];exact g2.move (fun a o t e=>⟨t,B.keepO a o (by rw[t];exact(c1.oP j (old h8 q)).2.1) e⟩) mP
 ·by_cases q:j=i
  ·simp only[if_pos q];exact⟨fun z=>z.2 rfl,oN,fN⟩
  ·simp only[if_neg q];exact c1.oP j (old hj q)
 ·by_cases q:j=i
  ·have:l≠i:=fun z=>hjl (q.trans z.symm);simp only[if_pos q,if_neg this];exact(aN l (old hl this)).symm
  ·by_cases q2:l=i
   ·simp only[if_pos q2,if_neg q];exact aN j (old hj q)
   ·simp only[if_neg q,if_neg q2];exact c.dist j l (old hj q) (old hl q2) hjl
 ·by_cases q:j=i
  ·simp only[if_pos q];exact⟨p0,n0⟩
  ·simp only[if_neg q];exact c.oP0 j (old hj q) hjf
 ·have hne:j≠i:=fun q=>hfx (q▸hj);obtain⟨g1,g2⟩:=c.fxa j hj;exact⟨by rw[ats,if_neg hne];exact g1,by simp only[if_neg hne];exact g2⟩
 ·by_cases q:j=i
  ·(replace q:=Eq.symm q;subst q);rw[h4] at h6;cases h6;exact h5
  ·exact c.vk j y k h6 (old h7 q)
 ·obtain⟨g1,g2,g3,g4⟩:=c1.zs a o q;refine⟨B.keepO a o g3 g1,g2,g3,fun j hj=>?_⟩;by_cases z:j=i
  ·simp only[if_pos z];exact fun e=>zN o (e▸q)
  ·simp only[if_neg z];exact g4 j (old hj z)
 ·obtain⟨g1,g2⟩:=c1.ys a o q;exact⟨g1,B.keepO a o (c1.ec.own a g1) g2⟩
theorem SSt.upd{i:Nat}{h':Heap}{tk:Nat}{d:D}(c:SSt prog w zc n f st ρ P ad s)(hi:VS.at st i=.o)(hs:Heap.SameBut (ad i) s.heap h')(ht:∃o,h'.get? (ad i)=some o/\NF o)(r:zl prog w (fun a=>a=ad i) P h' (.ref (ad i)) d):
  SSt prog w zc n f st (ρ.set i d) P ad {s with heap:=h',toks:=tk}:=by
 obtain⟨oP1,oP2,oP3⟩:=c.oP i hi;have kp:∀a o,a≠ad i->s.heap.get? a=some o->h'.get? a=some o:=fun a o n e=>hs.extBut a o n e;have mP:∀a o,P a->s.heap.get? a=some o->P a/\h'.get? a=some o:=fun a o p e=>⟨p,kp a o (fun q=>oP1 (q▸p)) e⟩;have al:jF s.heap h':=fun a o e=>by
  by_cases q:a=ad i
  ·obtain⟨o',h1,h2⟩:=ht;exact⟨o',q▸h1,fun _=>h2⟩
  ·exact⟨o,kp a o q e,id⟩
 have kO:∀a o,Own f.env a->s.heap.get? a=some o->h'.get? a=some o:=fun a o q e=>kp a o (fun z=>oP2 (z▸q)) e;have hil:=c.lt hi;have gts:∀j,zr (ρ.set i d) j=if j=i then d else zr ρ j:=fun j=>by
  rw[zat];by_cases q:j=i
  ·(replace q:=Eq.symm q;subst q);rw[if_pos ⟨rfl,c.len▸hil⟩,if_pos rfl]
  ·rw[if_neg (fun z=>q z.1.symm),if_neg q]
 refine⟨c.ec.change mP al.nf c.ec.own c.ec.nofr (c.ec.pnew.alloc al),c.fram.keep fun a o q e=>kO a o q.own e,by simp[c.len],c.nlen,fun j y k h6 h7 h8=>?_,fun j y k h6 h7 h8=>?_,c.oP,c.dist,c.sub,c.oP0,c.fxa,c.noX,c.fresh,c.pnew0,fun a o e nx=>?_,c.os,c.gens,c.vk,fun a o q=>?_,fun a o q=>mP a o (c.ys a o q).1 (c.ys a o q).2,c.zf⟩
 ·have hne:j≠i:=fun q=>by rw[q,hi] at h8;cases h8
  obtain⟨v,g1,g2⟩:=c.var j y k h6 h7 h8;refine⟨v,g1.move kO,?_⟩;rw[gts,if_neg hne];exact g2.move mP mP
 ·obtain⟨g1,g2⟩:=c.own j y k h6 h7 h8;refine⟨g1.move kO,?_⟩;by_cases q:j=i
  ·(replace q:=Eq.symm q;subst q);rw[gts,if_pos rfl];exact r
  ·rw[gts,if_neg q];exact g2.move (fun a o t e=>⟨t,kp a o (by rw[t];exact c.dist j i h8 hi q) e⟩) mP
 ·refine kp a o (fun q=>?_) (c.keep a o e nx);by_cases hf:f.fx=some i
  ·exact nx (((c.fxa i hf).2 a).mpr q)
  ·have:=(c.oP0 i hi hf).2;rw[←q,e] at this;exact sn this
 ·obtain⟨g1,g2,g3,g4⟩:=c.zs a o q;exact⟨kp a o (g4 i hi) g1,g2,g3,g4⟩
theorem znW{h:Heap}{N:Addr}{vs:List Value}{ds:List D}(hr:zi P h vs ds)(hN:N=h.objs.size)(hz:ds.length<=zp):
  zl prog w (fun a=>a=N) (fun a=>P a/\a≠N) (h.push {cls:=.type "list",dict:=none,data:=.seq vs.toArray}) (.ref N) (.list ds):=by
 subst hN;refine .list rfl (Heap.get?_push_size _ rfl) rfl rfl rfl ?_ hz;exact hr.move (P':=fun a=>P a/\a≠h.objs.size) fun a o p e=>⟨⟨p,zdY e⟩,Heap.get?_push_of_some _ e⟩
set_option tactic.hygienic true in
theorem zmn(X:Ctx prog w zc n f G cf outer F K mg mb L){x:Str}{p q pos:Pos}{es:List Expr}{xs:List PE}{i:Nat}(hz:es.length<=1000)(h:es.mapM (trE 40 f.cx)=some xs)(hx:f.cx.tv? x=some i)(hc:chk f.fx (.newl i (jW xs)) lp st≠.err):
  kl prog w zc n f G cf cio wf outer lp st (PySem.exec (.Assign [.Name x p] (.List es q) pos) f.env) (.newl i (jW xs)) (chk f.fx (.newl i (jW xs)) lp st):=by
 intro s ρ P ad Q E c hok hve hns;simp only[zok] at hc hok ⊢;split at hc
 ·rename_i hh;rw[if_pos hh] at hok;simp only[Bool.and_eq_true,decide_eq_true_eq,bne_iff_ne] at hh;obtain⟨⟨⟨hh1,hh2⟩,hh3⟩,hh4⟩:=hh;simp only[zsR] at hok hve hns;obtain⟨P',c'⟩:=c.frz hh2;have hzip:=zds (st:=Mine.frz st (zcj (jW xs))) (fun e pe h=>X.sound h) h (zc3 hh1);refine wpAny_Assign_Name (wpAny_List (zaD hzip P' f.A f.fs s ρ _ E c'.ec c'.vok (fun ds vs s₁ hd ch r1=>?_) (fun hd y s' z=>hve (by rw[hd];rfl) y s' (za6.exf X.fs c' z)) (fun hd=>hns (by rw[hd];rfl))));have hl:ds.length=es.length:=(zcR hd).trans hzip.length.symm;have hv:vs.length=ds.length:=zaz.length r1;have hsm:=zdG hz;refine⟨by lia,?_⟩;rw[hd] at hok hns;simp only[R.bind_ok] at hok hns;split at hns
  ·exact absurd rfl hns
  ·rename_i hdi;rw[if_neg hdi] at hok;have c₁:=c'.ch ch;refine SSt.newOwn (s₁:={s₁ with heap:=s₁.heap.push {cls:=.type "list",dict:=none,data:=.seq vs.toArray}}) (N:=s₁.heap.objs.size) (d:=.list ds) c₁ (kU _) (Ch.of _ (zA.push _ _)) ⟨_,Heap.get?_push_size _ rfl⟩
    (znW (zbI.repAll r1 (by simpa using hdi)) rfl (by lia)) hx X.hnd hh4 hh3 fun h' tk P'' ad' c₂=>hok .next _ .next _ rfl ⟨rfl,_,P'',ad',rfl,c₂⟩
 ·exact absurd rfl hc
set_option tactic.hygienic true in
theorem zlC(X:Ctx prog w zc n f G cf outer F K mg mb L){x:Str}{p q pos:Pos}{i:Nat}(hx:f.cx.tv? x=some i)(hc:chk f.fx (.newd i) lp st≠.err):
  kl prog w zc n f G cf cio wf outer lp st (PySem.exec (.Assign [.Name x p] (.Dict [] [] q) pos) f.env) (.newd i) (chk f.fx (.newd i) lp st):=by
 intro s ρ P ad Q E c hok hve hns;simp only[znH] at hc hok ⊢;split at hc
 ·rename_i hh;rw[if_pos hh] at hok;simp only[Bool.and_eq_true,decide_eq_true_eq,bne_iff_ne] at hh;simp only[zsW] at hok hve hns;have hN:(s.heap.objs.size==sysModules)=false:=by
   have h1:=(X.B.g.keeps c.ec.stays).lt;have h2:mainGlobals=3:=rfl;have h3:sysModules=1:=rfl;rw[h2] at h1;rw[h3];have:s.heap.objs.size≠1:=by intro z;rw[z] at h1;exact absurd h1 (by decide)
   exact if_neg ‹_›
  refine wpAny_Assign_Name (wpAny_Dict_empty ?_);refine SSt.newOwn (s₁:={s with heap:=s.heap.push {cls:=.type "dict",data:=.dict #[]}}) (N:=s.heap.objs.size) (d:=.dict []) c (kU _) (Ch.of _ (zA.push _ _)) ⟨_,Heap.get?_push_size _ rfl⟩
   (.dict rfl ⟨hN,by trivial,.inl ⟨[],⟨_,#[],_,Heap.get?_push_size _ rfl,⟨rfl,rfl,rfl⟩,rfl,fun e he=>by simp at he,.nil,by trivial⟩,.nil⟩⟩) hx X.hnd hh.2 hh.1 fun h' tk P'' ad' c₂=>hok .next _ .next _ rfl ⟨rfl,_,P'',ad',rfl,c₂⟩
 ·exact absurd rfl hc
end
end Mine
namespace Mine
open PySem PyProof.Rows PySem.Calls
section
variable{prog:Program}{w:World}{zc:Heap}{n:Nat}{f:Fix}{G:List D}{cf cio:Nat->List D->R D}{wf:Nat}{outer:List Env}{F:List zH}{K:List (Str×D)}{mg mb:Str->Option Value}{L:Addr}
 {lp:Option (List VS)}{st:List VS}{ρ:ze}{P:Addr->Prop}{ad:Nat->Addr}{s s₁:Shared}
theorem SSt.load{x:Str}{i:Nat}{pos:Pos}{E:Value->Shared->Prop}{Q:Value->Shared->Prop}(c:SSt prog w zc n f st ρ P ad s)(hx:f.cx.tv? x=some i)(hi:VS.at st i=.o)(h:Q (.ref (ad i)) s):
  wpAny (model prog w) f.A (eval (.Name x pos) f.env) Q E s:=by
 obtain⟨_,_,_,h3⟩:=zdn hx;obtain⟨k',h4,h5,h6⟩:=zak h3;exact zht c.ec.kind h6 (c.own i x k' h4 h5 hi).1 h
theorem SSt.ownAt{x:Str}{i:Nat}(c:SSt prog w zc n f st ρ P ad s)(hx:f.cx.tv? x=some i)(hi:VS.at st i=.o):zl prog w (fun a=>a=ad i) P s.heap (.ref (ad i)) (zr ρ i):=by
 obtain⟨_,_,_,h3⟩:=zdn hx;obtain⟨k',h4,h5,h6⟩:=zak h3;exact(c.own i x k' h4 h5 hi).2
theorem zhL{a:Addr}{h:Heap}{xs:List D}(hp:¬P a)(r:zl prog w (fun b=>b=a) P h (.ref a) (.list xs)):∃o vs m,h.get? a=some o/\o.cls=.type "list"/\o.dict=none/\o.data=.seq vs m/\zi P h vs.toList xs/\xs.length<=zp:=by
 cases r with
 |rep r=>cases r with|list p=>exact absurd p hp
 |list t ho hc hd hda hr hz=>exact⟨_,_,_,ho,hc,hd,hda,hr,hz⟩
theorem znc{a:Addr}{h:Heap}{kvs:List (D×D)}(r:zl prog w (fun b=>b=a) P h (.ref a) (.dict kvs)):zu prog w P h a kvs:=by
 cases r with
 |rep r=>cases r
 |dict t r=>exact r
theorem zhX(o:Obj)(g:Array Value->Array Value):(o.mapSeq g).dict=o.dict:=by
 obtain⟨c,d,dt,sl⟩:=o;cases dt<;>rfl
theorem zmJ{A:Around}{E:Value->Shared->Prop}{l:Addr}{o:Obj}{vs:Array Value}{m:Nat}{x:Value}{Q:Value->Shared->Prop}(ho:s.heap.get? l=some o)(hc:o.cls=.type "list")(hd:o.data=.seq vs m)
  (hQ:∀h' o' m',h'.get? l=some o'->o'.cls=.type "list"->o'.dict=o.dict->o'.data=.seq (vs.push x) m'->Heap.SameBut l s.heap h'->Q .none {s with heap:=h'})(hsz:vs.size<=sizeLine):
  wpAny (model prog w) A (call (.builtin "list.append") [.ref l,x]) Q E s:=by
 obtain⟨n',hd'⟩:=Obj.data_mapSeq hd (·.push x);refine wpAny_call_entry slot_list_append ⟨o,ho,hc⟩ entry_list_append ?_ (args_list_append _ _);show wpAny _ _ (updateSeq l (·.push x) >>= fun _=>ret .none) _ _ s;refine wpAny_bind ?_;refine wpAny_updateSeq ho hd (wpAny_pure ⟨.none,rfl,hQ _ _ n' (Heap.get?_update_self _ ho (Obj.isFreed_of_seq hd')) ((Obj.cls_mapSeq ..).trans hc) (zhX _ _) hd' (Heap.SameBut.update ..)⟩)
set_option tactic.hygienic true in
theorem zoG(X:Ctx prog w zc n f G cf outer F K mg mb L){x:Str}{p ap q pos:Pos}{e:Expr}{pe:PE}{i:Nat}(hp:(ap.endLine==q.line)=true)(h:trE 40 f.cx e=some pe)(hx:f.cx.tv? x=some i)(hc:chk f.fx (.app i pe) lp st≠.err):
  kl prog w zc n f G cf cio wf outer lp st (PySem.exec (.Expr (.Call (.Attribute (.Name x p) (Str.ofString "append") ap) [e] [] q) pos) f.env) (.app i pe) (chk f.fx (.app i pe) lp st):=by
 intro s ρ P ad Q E c hok hve hns;simp only[zrr] at hc hok ⊢;split at hc
 ·rename_i hh;rw[if_pos hh] at hok;simp only[Bool.and_eq_true,beq_iff_eq] at hh;obtain⟨⟨hh1,hh2⟩,hh3⟩:=hh;simp only[zvo] at hok hve hns;obtain⟨P',c'⟩:=c.frz hh2;cases hg:zr ρ i with
  |list xs=>
   rw[hg] at hok hve hns;simp only[kR,if_true] at hok hve hns;have r0:=c'.ownAt hx hh3;rw[hg] at r0;obtain⟨o,vs,m,ho,hcl,hdd,hda,hr,hz⟩:=zhL (c'.oP i hh3).1 r0;refine wpAny_Expr_any (znn rfl hp (zS h) PySem.F.plainAttrs_list slot_list_append type_list_append (c'.load hx hh3 ⟨⟨o,ho,hcl⟩,fun a e=>by cases e;exact⟨o,ho,hdd⟩,?_⟩)) (by unfold interactive;rw[c.ec.kind];rfl) rfl;refine zgd X h hh1 c' (fun d v s' hd c₁ r=>?_) (fun hd=>hve (by rw[hd];rfl)) (fun hd=>hns (by rw[hd];rfl));rw[hd] at hok hve hns;simp only[R.bind_ok,zfG] at hok hve hns;split at hns
   ·exact absurd rfl hns
   ·rename_i hcond;rw[if_neg hcond] at hok;simp only[Bool.or_eq_true,decide_eq_true_eq,not_or,Bool.not_eq_true] at hcond;have r1:=c₁.ownAt hx hh3;rw[hg] at r1;obtain⟨o1,vs1,m1,ho1,hc1,hdd1,hda1,hr1,hz1⟩:=zhL (c₁.oP i hh3).1 r1;refine zmJ ho1 hc1 hda1 (fun h' o' m' g1 g2 g3 g4 g5=>?_) (by rw[z8 hr1];exact qA hz1 zbE);have nP:=(c₁.oP i hh3).1;have kp:∀a o,P' a->s'.heap.get? a=some o->P' a/\h'.get? a=some o:=fun a o pa e=>⟨pa,g5.extBut a o (fun z=>nP (z▸pa)) e⟩;refine hok .next _ .next _ rfl ⟨rfl,_,P',ad,rfl,c₁.upd (tk:=s'.toks) hh3 g5 ⟨o',g1,fun ws z=>by rw[g4] at z;cases z⟩ (.list rfl g1 g2 (g3.trans hdd1) g4 ?_ (by simp;lia))⟩
    simpa using (hr1.move kp).append (.one ((r.toRep prog w hcond.1).move kp))
  |_=>rw[hg] at hns;exact absurd rfl hns
 ·exact absurd rfl hc
theorem zu.alloc'{a:Addr}{h:Heap}{kvs:List (D×D)}(r:zu prog w P h a kvs):∃o,h.get? a=some o/\NF o:=by
 obtain⟨_,_,⟨l,m,q⟩|⟨l,m,q⟩|⟨l,m,q⟩⟩:=r
 ·obtain⟨o,es,ep,ho,_,hd,_⟩:=m;exact⟨o,ho,fun vs q=>by rw[hd] at q;cases q⟩
 ·obtain⟨o,es,ep,ho,_,hd,_⟩:=m;exact⟨o,ho,fun vs q=>by rw[hd] at q;cases q⟩
 ·obtain⟨o,es,ep,ho,_,hd,_⟩:=m;exact⟨o,ho,fun vs q=>by rw[hd] at q;cases q⟩
theorem zld{h:Heap}{K:Type}{enc:K->D}{l:List (K×Value)}{kvs:List (D×D)}(r:KVs P h enc l kvs):l.length=kvs.length:=by
 induction r with
 |nil=>rfl
 |cons _ _ ih=>exact congrArg (·+1) ih
theorem zsT{h:Heap}{l:List (List Int×Addr×Value)}{kvs:List (D×D)}(r:KVH P h l kvs):l.length=kvs.length:=by
 induction r with
 |nil=>rfl
 |cons _ _ _ ih=>exact congrArg (·+1) ih
theorem KVs.same{h h':Heap}{a:Addr}(nP:¬P a)(hs:Heap.SameBut a h h'){K:Type}{enc:K->D}{l:List (K×Value)}{kvs:List (D×D)}(r:KVs P h enc l kvs):KVs P h' enc l kvs:=by
 induction r with
 |nil=>exact .nil
 |cons x _ ih=>exact .cons (x.move fun b o p e=>⟨p,hs.extBut b o (fun z=>nP (z▸p)) e⟩) ih
theorem KVH.same{h h':Heap}{a:Addr}(nP:¬P a)(hs:Heap.SameBut a h h'){l:List (List Int×Addr×Value)}{kvs:List (D×D)}(r:KVH P h l kvs):KVH P h' l kvs:=by
 induction r with
 |nil=>exact .nil
 |cons p x _ ih=>exact .cons p (x.move fun b o p e=>⟨p,hs.extBut b o (fun z=>nP (z▸p)) e⟩) ih
theorem zfx{A:Around}{E:Value->Shared->Prop}{a:Addr}{kvs:List (D×D)}{k d l:D}{kv v:Value}{Q:Unit->Shared->Prop}(hu:A.units+1<cLine)(nP:¬P a)(r:zu prog w P s.heap a kvs)(rk:zl prog w P P s.heap kv k)(rv:zl prog w P P s.heap v d)
  (h:zbL (.dict kvs) k d=.ok l)(hQ:∀h' tk,Heap.SameBut a s.heap h'->(∃kvs',l=.dict kvs'/\zu prog w P h' a kvs')->Q () {s with heap:=h',toks:=tk}):wpAny (model prog w) A (setItem (.ref a) kv v) Q E s:=by
 obtain⟨hc,h'⟩:=ifS h
 (obtain rfl:=okI h';clear h')
 have hkind:=an2 hc;have hz:=of_decide_eq_true (an2 (an1 hc));have hk:=an1 (an1 (an1 hc));have rv':=rv.toRep prog w (nt1 (an2 (an1 (an1 hc))));have hlen:(zen kvs k d).length<=zp:=qA zo9 hz;have hz':kvs.length<=sizeLine:=qA (qC hz) zbE;clear h hc;induction k using PyData.casesOn with
 |int i=>
  obtain⟨t,rfl⟩:=rk.inv_int;obtain⟨l,m,q⟩:=r.int hkind;have hn:(l.map (·.1)).Nodup:=by obtain⟨_,_,_,_,_,_,_,_,hn⟩:=m;exact hn
  exact wpAny_setItem_pairs (knd:=intKind prog w) (k:=i) (by simp[intKind,Value.isInt]) m (fun h' g1 g2=>hQ h' _ g2 ⟨_,rfl,r.1,hlen,.inl ⟨_,g1,(zcS zaH rv' q hn).same nP g2⟩⟩) (by rw[zld q];exact hz')
 |str i=>
  obtain⟨t,rfl,_⟩:=rk.inv_str;obtain⟨l,m,q⟩:=r.str hkind;have hn:(l.map (·.1)).Nodup:=by obtain⟨_,_,_,_,_,_,_,_,hn⟩:=m;exact hn
  exact wpAny_setItem_pairs (knd:=PySem.strKind prog w) (k:=i) (by simp[PySem.strKind,Value.isStrOf]) m (fun h' g1 g2=>hQ h' _ g2 ⟨_,rfl,r.1,hlen,.inr (.inl ⟨_,g1,(zcS zaC rv' q hn).same nP g2⟩)⟩) (by rw[zld q];exact hz')
 |tuple xs=>
  obtain⟨i,j,rfl,_⟩:=zdo hk;obtain⟨kb,ok,vk,nk,rfl,pk,hok,cok,dok,rk',_⟩:=rk.inv_tuple;obtain⟨l,m,q⟩:=r.tup hkind;have hn:(l.map (·.1)).Nodup:=by obtain⟨_,_,_,_,_,_,_,_,hn⟩:=m;exact hn
  exact wpAny_setItem_heap (knd:=tupleKind (intKind prog w)) (k:=[i,j]) (tupleKind_room_in1 hu) (zaO hok cok dok rk') m (fun h' g1 g2=>hQ h' _ g2 ⟨_,rfl,r.1,hlen,.inr (.inr ⟨_,g1,(zeH (i:=i) (j:=j) pk rv' q hn).same nP g2⟩)⟩) (by rw[zsT q];exact hz')
 |_=>exact ff hk
theorem zi5{x k d l:D}(h:zbL x k d=.ok l):∃kvs,x=.dict kvs:=by
 cases x<;>first|exact⟨_,rfl⟩|exact ns h
theorem ziX{x k d:D}(h:zbL x k d=.ve):False:=by
 induction x using PyData.casesOn with
 |dict kvs=>exact jk nvO nvS h
 |_=>exact sv h
set_option tactic.hygienic true in
theorem zof(X:Ctx prog w zc n f G cf outer F K mg mb L){x:Str}{p q pos:Pos}{ke ve:Expr}{pk pv:PE}{i:Nat}(hk:trE 40 f.cx ke=some pk)(hv:trE 40 f.cx ve=some pv)(hx:f.cx.tv? x=some i)(hsw:swapsWith ve (some (.Subscript (.Name x p) ke q)) pos.line f.env=pure false)
  (hc:chk f.fx (.put i pk pv) lp st≠.err):kl prog w zc n f G cf cio wf outer lp st (PySem.exec (.Assign [.Subscript (.Name x p) ke q] ve pos) f.env) (.put i pk pv) (chk f.fx (.put i pk pv) lp st):=by
 intro s ρ P ad Q E c hok hve hns;simp only[zsV] at hc hok ⊢;split at hc
 ·rename_i hh;rw[if_pos hh] at hok;simp only[Bool.and_eq_true,beq_iff_eq] at hh;obtain⟨⟨⟨hh1,hh2⟩,hh3⟩,hh4⟩:=hh;simp only[zuj] at hok hve hns;obtain⟨P',c'⟩:=c.frz hh3;refine wpAny_Assign_Subscript (zgd X hv hh1 c' (fun d v s₁ hd c₁ r=>?_) (fun hd=>hve (by rw[hd];rfl)) (fun hd=>hns (by rw[hd];rfl))) hsw;rw[hd] at hok hve hns;refine c₁.load hx hh4 ?_;have key:=(X.sound hk (Mine.frz st (lkV false pv++lkV false pk))).1 false hh2 P' f.A f.fs s₁ ρ;refine key _ E c₁.ec c₁.vok (fun dk kv s₂ hdk ch rk=>?_) (fun hdk y s' z=>hve (by rw[hdk];rfl) y s' (za6.exf X.fs c₁ z)) (fun hdk=>hns (by rw[hdk];rfl));have c₂:=c₁.ch ch;rw[hdk] at hok hve hns;simp only[R.bind_ok] at hok hve hns;cases hp:zbL (zr ρ i) dk d with
  |stuck=>rw[hp] at hns;exact absurd rfl hns
  |ve=>exact(ziX hp).elim
  |ok l=>
   rw[hp] at hok;obtain⟨kvs,hg⟩:=zi5 hp;have r1:=c₂.ownAt hx hh4;rw[hg] at r1 hp;refine zfx (by have:=c₂.ec.units;lia) (c₂.oP i hh4).1 (znc r1) rk (r.keep prog w ch.keep) hp fun h' tk g1 g2=>?_;obtain⟨kvs',rfl,g2⟩:=g2;exact hok .next _ .next _ rfl ⟨rfl,_,P',ad,rfl,c₂.upd hh4 g1 g2.alloc' (.dict rfl g2)⟩
 ·exact absurd rfl hc
end
end Mine
namespace Mine
open PySem PyProof.Rows PySem.Calls
section
variable{prog:Program}{w:World}{zc:Heap}{n:Nat}{f:Fix}{G:List D}{cf cio:Nat->List D->R D}{wf:Nat}{outer:List Env}{F:List zH}{K:List (Str×D)}{mg mb:Str->Option Value}{L:Addr}
 {lp:Option (List VS)}{st:List VS}{ρ:ze}{P:Addr->Prop}{ad:Nat->Addr}{s s₁:Shared}
set_option tactic.hygienic true in
theorem zgq{fu:Nat}(X:Ctx prog w zc n f G cf outer F K mg mb L){y:Str}{py:Pos}{elt:Expr}{gens:List Comprehension}{scope:Scope}{cpos pos:Pos}{tg:Tg}{pe:PE}(ht:zaA f.cx (.Name y py)=some tg)(h:trE (fu+1) f.cx (.ListComp elt gens scope cpos)=some pe)
  (hs:swapsWithSole [.Name y py] (.ListComp elt gens scope cpos) pos.line f.env=pure true)(hc:chk f.fx (.assign tg pe) lp st≠.err):
  kl prog w zc n f G cf cio wf outer lp st (PySem.exec (.Assign [.Name y py] (.ListComp elt gens scope cpos) pos) f.env) (.assign tg pe) (chk f.fx (.assign tg pe) lp st):=by
 intro s ρ P ad Q E c hok hve hns;simp only[zcD] at hc hok ⊢;split at hc
 ·rename_i hh;rw[if_pos hh] at hok;simp only[Bool.and_eq_true] at hh;simp only[zb7] at hok hve hns;obtain⟨P',c'⟩:=c.frz hh.1.2;have hl:=hh.1.1;cases zll h with|@comp _ t it ifs r _ _ q caps tg' g hsc h1 h2 h3 h4=>
  ·clear h;have hl:=And.intro (an1 hl) (an2 hl);obtain⟨i1,i2⟩:=zaL X.B X.hL (fun e pe h=>X.sound h) h1 hl.1;have hsc':=hsc;simp only[zbn,Bool.and_eq_true,beq_iff_eq,decide_eq_true_eq,List.all_eq_true,bne_iff_ne] at hsc';rw[exec_Assign];refine wpAny_bind (wpAny_standAt ?_);rw[hs];refine wpAny_bind (wpAny_pure ?_);rw[if_pos rfl];refine wpAny_bind ?_;show wpAny _ _ (do let _ ←comprehension _ scope f.env _ (newList []) false (eval it f.env) (some fun v=>assignAll v ((assignEach [.Name y py] f.env).map (·.2)))) _ _ _;refine wpAny_bind ?_;refine zfX (cx:=f.cx) (elt:=elt) (target:=t) (iter:=it) (ifs:=ifs) (rest:=r) (scope:=scope) (pos:=cpos) (caps:=caps) (rg:=q.1) (it:=q.2) (t:=tg') (g:=g) (st:=Mine.frz st (lkV false (.comp caps q.1 q.2 tg' g))) (fs:=f.fs) (P:=P') (ρ:=ρ) X.hL i1 i2 h2 hsc h3 ?_ c'.ec c'.vok ?_ ?_
   rotate_left 2
   ·intro hd;exact hns (by rw[hd];rfl)
   ·intro cl C' L' hcl1 hcl2;have hL':Lnk {f.cx with names:=scope.names} (compEnvC scope cl C' f.env):=zif X.hL h2 hsc'.1.2 hcl2;exact ze8 X.B hL' hsc'.2 (fun e pe h=>zoN X.B X.hG X.C fu {f.cx with names:=scope.names} (compEnvC scope cl C' f.env) e pe X.hF X.hC hL' h) r ifs _ g 0 rfl h4 hl.2
   ·intro d v C s₂ hd ch nC hm rv;rw[hd] at hok hve hns;simp only[R.bind_ok] at hok hve hns;obtain⟨m,hm⟩:=hm;have pC:P' C:=c'.ec.pnew C nC;have oC:¬Own f.env C:=c'.ec.own C pC;have fC:C∉frs f.fs:=c'.ec.nofr C pC;have n0:=c'.new0 nC;have p0:f.P₀ C:=c'.pnew0 C n0;have ne:∀a o,s.heap.get? a=some o->a≠C:=fun a o e z=>by rw[z,nC] at e;exact nn e
    have aC:∀j,VS.at (Mine.frz st (lkV false (.comp caps q.1 q.2 tg' g))) j=.o->ad j≠C:=fun j hj=>let ⟨o,ho,_⟩:=c'.there hj;ne _ o ho;have zC:∀o,¬f.Z C o:=fun o z=>by have:=(c'.zs C o z).1;rw[nC] at this;exact nn this
    have c1:SSt prog w zc n f _ ρ (fun a=>P' a/\a≠C) ad s₂:=c'.iter (I:=C) (fun a o p e=>⟨⟨p,ne a o e⟩,ch.keep a o e⟩) (fun a o _ e=>ch.keep a o e) (jF.of_keep ch.keep).nf
     (fun a e=>⟨(c'.ec.pnew.keep ch.keep) a e,fun z=>by obtain⟨o,ho,_⟩:=zmY hm;rw[z,ho] at e;exact sn e⟩) (fun a p=>.inl p.1) p0 oC aC n0 fC zC ch.os ch.gens
    show wpAny _ _ (assign (.Name y py) f.env v) _ _ _;cases hb:ja ρ tg d with
    |stuck=>rw[hb] at hns;exact absurd rfl hns
    |ve=>exact absurd hb zaB
    |ok ρ'=>
     rw[hb] at hok;have ofo:∀{i},VS.at (zZ (Mine.frz st (lkV false (.comp caps q.1 q.2 tg' g))) tg) i=.o->VS.at (Mine.frz st (lkV false (.comp caps q.1 q.2 tg' g))) i=.o:=fun {i} z=>by
      rcases zde (t:=tg) (st:=Mine.frz st (lkV false (.comp caps q.1 q.2 tg' g))) (i:=i) with e|e
      ·rw[←e];exact z
      ·rw[e] at z;cases z
     refine c1.assign ht hb X.hnd hh.2 (.rep rv) fun h' tk c₂ B=>?_;refine⟨m,hm.at' fun o e=>B.keepO C o oC e,fun h'' hs''=>wpAny_pure (wpAny_pure (hok .next ρ' .next _ rfl ⟨rfl,_,(fun a=>(P' a/\a≠C)\/a=C),ad,rfl,?_⟩))⟩;refine c₂.iter' (I:=C) (s':={s₂ with heap:=h'',toks:=tk}) (fun a o p e=>⟨.inl p,hs''.extBut a o p.2 e⟩) (fun a o z e=>hs''.extBut a o z e) (fun a ha o e nf=>⟨o,hs''.extBut a o (fun z=>fC (z▸ha)) e,nf⟩) (fun a e=>?_) (fun a p=>p) p0 oC (fun i hi=>aC i (ofo hi)) n0 fC zC rfl id;by_cases z:a=C
     ·exact .inr z
     ·refine .inl (c₂.ec.pnew a ?_);cases z2:h'.get? a with
      |none=>rfl
      |some o=>rw[show({s₂ with heap:=h'',toks:=tk}:Shared).heap.get? a=some o from hs''.extBut a o z z2] at e;exact sn e
 ·exact absurd rfl hc
end
end Mine
namespace Mine
open PySem PyProof.Rows PySem.Calls
theorem zlz{ρ:ze}{i j:Nat}{a b:D}(h:i≠j):(ρ.set i a).set j b=(ρ.set j b).set i a:=List.set_comm _ _ h
theorem zfI:∀{is:List Nat} {ds:List D} {ρ ρ':ze} {i:Nat} {d:D},i∉is->jE ρ is ds=.ok ρ'->jE (ρ.set i d) is ds=.ok (ρ'.set i d)
 |[],[],_,_,_,_,_,h=>by(obtain rfl:=okI h;clear h);rfl
 |j::is,e::ds,ρ,ρ',i,d,hn,h=>by
  simp only[ztw] at h ⊢;have hij:i≠j:=fun z=>hn (by rw[z];exact List.mem_cons_self ..);rw[zlz hij];exact zfI (fun z=>hn (List.mem_cons_of_mem _ z)) h
 |[],_::_,_,_,_,_,_,h=>by exact ns h
 |_::_,[],_,_,_,_,_,h=>by exact ns h
theorem zff:∀{is:List Nat} {ds:List D} {ρ:ze} {i:Nat} {d:D},is.length=ds.length->∃ρ',jE ρ is ds=.ok ρ'/\jE ρ (is++[i]) (ds++[d])=.ok (ρ'.set i d)
 |[],[],ρ,_,_,_=>⟨ρ,rfl,rfl⟩
 |j::is,e::ds,ρ,i,d,h=>by
  obtain⟨ρ',h1,h2⟩:=zff (is:=is) (ds:=ds) (ρ:=ρ.set j e) (i:=i) (d:=d) (by simpa using h);exact⟨ρ',h1,h2⟩
 |[],_::_,_,_,_,h=>by simp at h
 |_::_,[],_,_,_,h=>by simp at h
theorem zcp:∀{is:List Nat} {ds:List D} {ρ ρ':ze},is.Nodup->jE ρ is ds=.ok ρ'->jE ρ is.reverse ds.reverse=.ok ρ'
 |[],[],_,_,_,h=>h
 |i::is,d::ds,ρ,ρ',hn,h=>by
  simp only[List.nodup_cons] at hn;simp only[ztw] at h;have hl:=zbu h;rw[List.reverse_cons,List.reverse_cons];obtain⟨ρ1,g1,g2⟩:=zff (is:=is.reverse) (ds:=ds.reverse) (ρ:=ρ) (i:=i) (d:=d) (by simpa using hl);rw[g2];have g3:=zfI (i:=i) (d:=d) (by simpa using hn.1) g1;have g4:=zcp hn.2 h;rw[g4] at g3
  (obtain rfl:=okI g3;clear g3);rfl
 |[],_::_,_,_,_,h=>by exact ns h
 |_::_,[],_,_,_,h=>by exact ns h
theorem zj2(st:List VS)(is:List Nat):is.reverse.foldl (fun s i=>s.set i .f) st=is.foldl (fun s i=>s.set i .f) st:=by
 induction is generalizing st with
 |nil=>rfl
 |cons i r ih=>
  rw[List.reverse_cons,List.foldl_append,ih];simp only[List.foldl_cons,List.foldl_nil];clear ih;induction r generalizing st with
  |nil=>rfl
  |cons j r ih=>
   simp only[List.foldl_cons];rw[ih];congr 1;by_cases h:i=j
   ·subst h;rfl
   ·exact List.set_comm _ _ (fun z=>h z.symm)
section
variable{prog:Program}{w:World}{A:Around}{E:Value->Shared->Prop}{s:Shared}{env:Env}{cx:Cx}{st:List VS}{ρ:ze}{T P:Addr->Prop}
theorem zmQ{xs:List Str}:∀{is:List Nat} {vs:List Value} {ds:List D} {st:List VS} {ρ ρ':ze} {s:Shared} {Q:Unit->Shared->Prop},xs.mapM cx.tv?=some is->jE ρ is ds=.ok ρ'->
  zbB cx.names env s.heap->kP prog w env cx.names st ρ T P s.heap->(cx.names.map (·.1)).Nodup->st.length=ρ.length->
  (∀a,T a->¬Own env a)->(∀a,P a->¬Own env a)->zi P s.heap vs ds->
  (∀h' tk,Bnd cx.names env s.heap h'->zbB cx.names env h'->kP prog w env cx.names (is.foldl (fun s i=>s.set i .f) st) ρ' T P h'->zhx cx.names (is.foldl (fun s i=>s.set i .f) st) env s.heap h'->Q () {s with heap:=h',toks:=tk})->
  wpAny (model prog w) A (assignInOrder (xs.map fun n=>bindName env n) vs) Q E s:=by
 induction xs with
 |nil=>
  intro is vs ds st ρ ρ' s Q he hv F V hnd hlen hT hP rv h;skip;simp at he;subst he;induction ds using List.casesOn with
  |nil=>
   cases rv;(obtain rfl:=okI hv;clear hv)
   exact wpAny_pure (h s.heap s.toks (Bnd.refl _ _ _) F V fun _ _ _ _ _ _ q=>q)
  |cons=>exact ns hv
 |cons x xs ih=>
  intro is vs ds st ρ ρ' s Q he hv F V hnd hlen hT hP rv h;skip;rw[List.mapM_cons] at he;cases hx:cx.tv? x with
  |none=>rw[hx] at he;exact nn he
  |some i=>
   rw[hx] at he;cases hr:xs.mapM cx.tv? with
   |none=>rw[hr] at he;exact nn he
   |some js=>
    rw[hr] at he
    (obtain rfl:=soI he;clear he)
    induction ds using List.casesOn with
    |nil=>exact ns hv
    |cons d ds=>
     cases rv with
     |cons ra rr=>
      show wpAny (model prog w) A (do holding _ (bindName env x _);assignInOrder (xs.map fun n=>bindName env n) _) Q E s;refine wpAny_bind (wpAny_holding (bindName_ (zb6 hx F V hnd hlen hT hP (.rep ra) fun h' tk B F' V' S'=>?_)));refine ih (s:={s with heap:=h',toks:=tk}) hr hv F' V' hnd (by simp[hlen]) hT hP (rr.move fun a o p e=>⟨p,B.keepO a o (hP a p) e⟩) fun h₂ tk₂ B₂ F₂ V₂ S₂=>h h₂ tk₂ (B.trans B₂) F₂ V₂ fun j y k u hj hy hu=>S₂ j y k u hj hy (S' j y k u ?_ hy hu);exact zdD hj
end
theorem zlZ{α β:Type}{g:α->Option β}{a:α}{b:β}(hb:g a=some b){as:List α}:∀{bs:List β},as.mapM g=some bs->(as++[a]).mapM g=some (bs++[b]):=by
 induction as with
 |nil=>intro bs h;cases mm0 h;rw[List.nil_append,List.mapM_cons,hb];rfl
 |cons x as ih=>
  intro bs h;obtain⟨y,ys,h1,h2⟩:=mm h;rw[List.cons_append,List.mapM_cons,h1,ih h2];rfl
theorem zg4{α β:Type}{g:α->Option β}{as:List α}:∀{bs:List β},as.mapM g=some bs->as.reverse.mapM g=some bs.reverse:=by
 induction as with
 |nil=>intro bs h;cases mm0 h;rfl
 |cons x as ih=>
  intro bs h;obtain⟨y,ys,h1,h2⟩:=mm h;rw[List.reverse_cons,List.reverse_cons];exact zlZ h1 (ih h2)
theorem zb2{P:Addr->Prop}{h:Heap}:∀{vs:List Value} {ds:List D},zi P h vs ds->zi P h vs.reverse ds.reverse
 |_,_,.nil=>.nil
 |_,_,.cons a r=>by rw[List.reverse_cons,List.reverse_cons];exact(zb2 r).append (.one a)
set_option tactic.hygienic true in
theorem zfD{ts vs:List Expr}{a c:Nat}{b d:Pos}{env:Env}(hc:(vs.all (constantsAlone 8)&&!(vs.all (foldedForSure 8)))=false):
  swappedStores [.Tuple ts a b] (.Tuple vs c d) env=pure none\/∃names:List Str,swappedStores [.Tuple ts a b] (.Tuple vs c d) env=pure (some names)/\
   names=(ts.filterMap fun|.Name id pos=>if env.kindOf id==some .local&&pos.line==(ts.head?.map (·.pos.line)).getD 0 then some id else none|_=>none)/\names.length=ts.length:=by
 unfold swappedStores;dsimp only;split
 ·exact .inl rfl
 ·split
  ·exact .inl rfl
  ·split
   ·exact .inl rfl
   ·split
    ·exact .inl rfl
    ·rename_i h1;split
     ·rename_i h2;rw[h2] at hc;have:vs.all (foldedForSure 8)=true:=by simpa using hc
      exact absurd this h1
     ·rename_i _ _ hl _;refine .inr ⟨_,rfl,rfl,?_⟩;simp only[Bool.or_eq_true,not_or,bne_iff_ne,ne_eq,Decidable.not_not] at hl;exact hl.1
theorem zfB{env:Env}{g:Expr->Option Str}{cx:Cx}(hg:∀e x,g e=some x->∃p,e=.Name x p){ts:List Expr}:∀{is:List Nat},(ts.filterMap g).length=ts.length->ts.mapM (kt cx)=some is->(ts.filterMap g).mapM cx.tv?=some is:=by
 induction ts with
 |nil=>intro is _ h;exact h
 |cons e ts ih=>
  intro is hl h;clear env;obtain⟨i,js,h1,h2⟩:=mm h;clear h;cases hge:g e with
  |none=>
   rw[List.filterMap_cons_none hge] at hl;exact absurd (List.length_filterMap_le g ts) (by rw[hl];exact Nat.not_succ_le_self _)
  |some x=>
   rw[List.filterMap_cons_some hge] at hl ⊢;obtain⟨p,rfl⟩:=hg e x hge;rw[List.mapM_cons,ih (Nat.succ.inj hl) h2,show cx.tv? x=some i from h1];rfl
section
variable{prog:Program}{w:World}{zc:Heap}{n:Nat}{f:Fix}{G:List D}{cf cio:Nat->List D->R D}{wf:Nat}{outer:List Env}{F:List zH}{K:List (Str×D)}{mg mb:Str->Option Value}{L:Addr}
 {lp:Option (List VS)}{st:List VS}
theorem SSt.assignR{xs:List Str}{is:List Nat}{vs:List Value}{ds:List D}{ρ ρ':ze}{P:Addr->Prop}{ad:Nat->Addr}{s:Shared}{E:Value->Shared->Prop}{Q:Unit->Shared->Prop}(c:SSt prog w zc n f st ρ P ad s)(hx:xs.mapM f.cx.tv?=some is)(hin:is.Nodup)(hb:jE ρ is ds=.ok ρ')(hnd:(f.cx.names.map (·.1)).Nodup)
  (hfx:jw f.fx (zZ st (.many is))=true)(rv:zi P s.heap vs ds)(h:∀h' tk,SSt prog w zc n f (zZ st (.many is)) ρ' P ad {s with heap:=h',toks:=tk}->Q () {s with heap:=h',toks:=tk}):
  wpAny (model prog w) f.A (assignInOrder (xs.reverse.map fun n=>bindName f.env n) vs.reverse) Q E s:=by
 have ofo:∀{i},VS.at (zZ st (.many is)) i=.o->VS.at st i=.o:=fun {i} q=>by
  rcases zde (t:=.many is) (st:=st) (i:=i) with e|e
  ·rw[←e];exact q
  ·rw[e] at q;cases q
 have hb':ja ρ (.many is) (.tuple ds)=.ok ρ':=hb;refine zmQ (zg4 hx) (zcp hin hb) c.fram c.vokt hnd c.len (fun a ⟨i,h1,e⟩=>e▸(c.oP i h1).2.1) c.ec.own (zb2 rv) fun h' tk B F V S=>h h' tk ?_;rw[zj2] at V S;have mP:∀a o,P a->s.heap.get? a=some o->P a/\h'.get? a=some o:=fun a o p e=>⟨p,B.keepO a o (c.ec.own a p) e⟩;refine⟨c.ec.change mP B.alloc.nf c.ec.own c.ec.nofr (c.ec.pnew.alloc B.alloc),F,by rw[kf,zbl hb'];exact c.len,by rw[kf];exact c.nlen,fun i x k h1 h2 h3=>?_,fun i x k h1 h2 h3=>?_,
   fun i h1=>c.oP i (ofo h1),fun i j h1 h2=>c.dist i j (ofo h1) (ofo h2),c.sub,fun i h1=>c.oP0 i (ofo h1),fun i hi=>⟨by rw[hi] at hfx;simpa [jw] using hfx,(c.fxa i hi).2⟩,c.noX,c.fresh,c.pnew0,
   fun a o e nx=>B.keepO a o (fun q=>by rw[c.fresh a q] at e;exact nn e) (c.keep a o e nx),c.os,c.gens,fun i x k h1 h2=>c.vk i x k h1 (ofo h2),
   fun a o q=>let ⟨h1,h2,h3,h4⟩:=c.zs a o q;⟨B.keepO a o h3 h1,h2,h3,fun i hi=>h4 i (ofo hi)⟩,fun a o q=>let ⟨h1,h2⟩:=c.ys a o q;⟨h1,B.keepO a o (c.ec.own a h1) h2⟩,c.zf⟩
 ·have h3':VS.at (is.foldl (fun s i=>s.set i .f) st) i=.f:=h3;have:=V i x k h1 h2 (by rw[h3'];trivial);rw[if_neg (by rw[h3'];trivial)] at this;exact this
 ·obtain⟨h4,h5⟩:=c.own i x k h1 h2 (ofo h3);have e:zr ρ' i=zr ρ i:=zfU hb' h3;refine⟨S i x k _ h3 h1 h4,?_⟩;rw[e];exact h5.move (fun a o t e=>⟨t,B.keepO a o (by rw[t];exact(c.oP i (ofo h3)).2.1) e⟩) mP
set_option tactic.hygienic true in
theorem zg5(X:Ctx prog w zc n f G cf outer F K mg mb L){ts vs:List Expr}{a c:Nat}{b d pos:Pos}{is:List Nat}{pe:PE}(ht:ts.mapM (kt f.cx)=some is)(hin:is.Nodup)(h:trE 40 f.cx (.Tuple vs c d)=some pe)
  (hcc:(vs.all (constantsAlone 8)&&!(vs.all (foldedForSure 8)))=false)(hc:chk f.fx (.assign (.many is) pe) lp st≠.err):
  kl prog w zc n f G cf cio wf outer lp st (PySem.exec (.Assign [.Tuple ts a b] (.Tuple vs c d) pos) f.env) (.assign (.many is) pe) (chk f.fx (.assign (.many is) pe) lp st):=by
 have htg:zaA f.cx (.Tuple ts a b)=some (.many is):=by show(ts.mapM (kt f.cx)).bind _=_;rw[ht];rfl
 rcases zfD (ts:=ts) (a:=a) (c:=c) (b:=b) (d:=d) (env:=f.env) hcc with hw|⟨names,hw,hnames,hlen⟩
 ·exact zdg X htg h rfl hw (fun _ _ z=>by cases z) hc
 ·intro s ρ P ad Q E cs hok hve hns;simp only[zcD] at hc hok ⊢;split at hc
  ·rename_i hh;rw[if_pos hh] at hok;simp only[Bool.and_eq_true] at hh;simp only[zb7] at hok hve hns;clear hc htg hcc;obtain⟨P',c'⟩:=cs.frz hh.1.2;have hx:names.mapM f.cx.tv?=some is:=by
    rw[hnames] at hlen ⊢;exact zfB (env:=f.env) (fun e x he=>by
     clear c' P' hh hns hve hok cs E Q ad P ρ s hnames hw names h hin pe pos d b c a vs X;cases e<;>simp only at he<;>first|cases he|skip
     split at he
     ·(obtain rfl:=soI he;clear he);exact⟨_,rfl⟩
     ·exact nn he) hlen ht
   refine Assign_Tuple_swapped (zgd X h hh.1.1 c' (fun dd v s' hd c₁ r=>?_) (fun hd=>hve (by rw[hd];rfl)) (fun hd=>hns (by rw[hd];rfl))) rfl hw;rw[hd] at hok hve hns;simp only[R.bind_ok] at hok hve hns;clear hd hve c' cs P s hlen hnames hw h ht pos d c a vs ts;induction dd using PyData.casesOn with
   |tuple ds=>
    simp only[zxT] at hok hns;cases hb:jE ρ is ds with
    |stuck=>rw[hb] at hns;exact absurd rfl hns
    |ve=>exact(zbQ hb).elim
    |ok ρ'=>
     rw[hb] at hok;clear hns;obtain⟨t,o,va,m,rfl,pa,ho,hcl,hda,hr,hz⟩:=r.inv_tuple;have hnl:names.length=va.size:=by rw[←zdl hx,zbu hb,z8 hr]
     rw[hnl];refine unpackItems_tuple c₁.ec.handled ⟨o,ho,hcl,m,hda⟩ fun h' he=>?_;have kp:zA s'.heap h':=fun b o e=>he b o (Nat.ne_of_lt (Heap.lt_size e)) e;have c₂:=c₁.ch (s':={s' with heap:=h'}) ⟨kp,rfl,id⟩;exact c₂.assignR hx hin hb X.hnd hh.2 (hr.keep kp) fun h'' tk c₃=>hok .next ρ' .next _ rfl ⟨rfl,_,P',ad,rfl,c₃⟩
   |_=>exact absurd rfl hns
  ·exact absurd rfl hc
end
end Mine
namespace Mine
open PySem PyProof.Rows PySem.Calls
structure ChX(X:Addr)(s s':Shared):Prop where
 keep:∀a o,a≠X->s.heap.get? a=some o->s'.heap.get? a=some o
 alloc:jF s.heap s'.heap
 os:s'.os=s.os
 gens:AllBare s.gens->AllBare s'.gens
noncomputable def zha(prog:Program)(w:World)(F:List zH)(mg:Str->Option Value)(zc:Heap)(cio:Nat->List D->R D)(n:Nat):Prop:=
 ∀(i:Nat) (fi:zH) (fa:Addr),F[i]?=some fi->mg fi.name=some (.ref fa)->∀(P:Addr->Prop) (A:Around) (fs:List Env) (env:Env) (s:Shared) (vs:List Value) (ds:List D) (X:Addr) (d0 d':D) (Q E:Value->Shared->Prop),
  EC zc P A fs n env s.heap->zbI prog w P s.heap vs ds->¬P X->¬Own env X->X∉frs fs->(∃o,s.heap.get? X=some o/\NF o)->zl prog w (fun a=>a=X) P s.heap (.ref X) d0->cio i (ds++[d0])=.ok d'->
  (∀v s',ChX X s s'->zl prog w (fun a=>a=X) P s'.heap (.ref X) d'->Q v s')->wpAny (model prog w) A (call (.ref fa) (vs++[.ref X])) Q E s
section
variable{prog:Program}{w:World}{zc:Heap}{n:Nat}{f:Fix}{G:List D}{cf cio:Nat->List D->R D}{wf:Nat}{outer:List Env}{F:List zH}{K:List (Str×D)}{mg mb:Str->Option Value}{L:Addr}
 {lp:Option (List VS)}{st:List VS}{ρ:ze}{P:Addr->Prop}{ad:Nat->Addr}{s s':Shared}
theorem SSt.updX{i:Nat}{d:D}(c:SSt prog w zc n f st ρ P ad s)(hi:VS.at st i=.o)(x:ChX (ad i) s s')(r:zl prog w (fun a=>a=ad i) P s'.heap (.ref (ad i)) d):
  SSt prog w zc n f st (ρ.set i d) P ad s':=by
 obtain⟨oP1,oP2,oP3⟩:=c.oP i hi;have kp:=x.keep;have mP:∀a o,P a->s.heap.get? a=some o->P a/\s'.heap.get? a=some o:=fun a o p e=>⟨p,kp a o (fun q=>oP1 (q▸p)) e⟩;have kO:∀a o,Own f.env a->s.heap.get? a=some o->s'.heap.get? a=some o:=fun a o q e=>kp a o (fun z=>oP2 (z▸q)) e;have hil:=c.lt hi;have gts:∀j,zr (ρ.set i d) j=if j=i then d else zr ρ j:=fun j=>by
  rw[zat];by_cases q:j=i
  ·(replace q:=Eq.symm q;subst q);rw[if_pos ⟨rfl,c.len▸hil⟩,if_pos rfl]
  ·rw[if_neg (fun z=>q z.1.symm),if_neg q]
 refine⟨c.ec.change mP x.alloc.nf c.ec.own c.ec.nofr (c.ec.pnew.alloc x.alloc),c.fram.keep fun a o q e=>kO a o q.own e,by simp[c.len],c.nlen,fun j y k h6 h7 h8=>?_,fun j y k h6 h7 h8=>?_,c.oP,c.dist,c.sub,c.oP0,c.fxa,c.noX,c.fresh,c.pnew0,fun a o e nx=>?_,x.os.trans c.os,fun g=>x.gens (c.gens g),c.vk,fun a o q=>?_,fun a o q=>mP a o (c.ys a o q).1 (c.ys a o q).2,c.zf⟩
 ·have hne:j≠i:=fun q=>by rw[q,hi] at h8;cases h8
  obtain⟨v,g1,g2⟩:=c.var j y k h6 h7 h8;refine⟨v,g1.move kO,?_⟩;rw[gts,if_neg hne];exact g2.move mP mP
 ·obtain⟨g1,g2⟩:=c.own j y k h6 h7 h8;refine⟨g1.move kO,?_⟩;by_cases q:j=i
  ·(replace q:=Eq.symm q;subst q);rw[gts,if_pos rfl];exact r
  ·rw[gts,if_neg q];exact g2.move (fun a o t e=>⟨t,kp a o (by rw[t];exact c.dist j i h8 hi q) e⟩) mP
 ·refine kp a o (fun q=>?_) (c.keep a o e nx);by_cases hf:f.fx=some i
  ·exact nx (((c.fxa i hf).2 a).mpr q)
  ·have:=(c.oP0 i hi hf).2;rw[←q,e] at this;exact sn this
 ·obtain⟨g1,g2,g3,g4⟩:=c.zs a o q;exact⟨kp a o (g4 i hi) g1,g2,g3,g4⟩
theorem zgI{x:Str}{i:Nat}{p pos:Pos}{E:Value->Shared->Prop}(hx:f.cx.tv? x=some i)(hi:VS.at st i=.o)
  {as:List Expr}{es:List PE}(z:zaz (One prog w zc G cf n f.cx.names st f.env) as es):∀{s:Shared} {Q:List Value->Shared->Prop},SSt prog w zc n f st ρ P ad s->
   (∀ds vs s',evs G cf (jW es) ρ=.ok ds->Ch s s'->SSt prog w zc n f st ρ P ad s'->zbI prog w P s'.heap vs ds->Q (vs++[.ref (ad i)]) s')->
   (evs G cf (jW es) ρ=.ve->∀x s',za6 f.fs s x s'->E x s')->evs G cf (jW es) ρ≠.stuck->wpAny (model prog w) f.A (spliced (backTo pos (starEach (as++[.Name x p]) f.env))) Q E s:=by
 induction z with
 |nil=>
  intro s Q c hok _ _;rw[List.nil_append,zx (fun _ _ z=>by cases z)];exact spliced_cons (c.load hx hi (spliced_nil (hok [] [] s rfl (Ch.refl s) c .nil)))
 |cons h1 r ih=>
  intro s Q c hok hve hns;rw[List.cons_append,zx h1.1];simp only[jW,zhe] at hok hve hns;refine spliced_cons (h1.2 P f.A f.fs s ρ _ E c.ec c.vok (fun d v s₁ hd c1 r1=>?_) (fun hd=>hve (by rw[hd];rfl)) (fun hd=>hns (by rw[hd];rfl)));rw[hd] at hok hve hns;refine ih (c.ch c1) (fun ds vs s₂ hds c2 cc r2=>?_) (fun hds x s' he=>hve (by rw[hds];rfl) x s' (he.after c1)) (fun hds=>hns (by rw[hds];rfl));exact hok (d::ds) (v::vs) s₂ (by rw[hds];rfl) (c1.trans c2) cc (.cons (r1.keep prog w c2.keep) r2)
set_option tactic.hygienic true in
theorem zrP(X:Ctx prog w zc n f G cf outer F K mg mb L)(IO:zha prog w F mg zc cio n){fn:Str}{x:Str}{p np q pos:Pos}{args:List Expr}{es:List PE}{j i:Nat}(hj:f.cx.fun? fn=some j)(hinit:args.dropLast.mapM (trE 40 f.cx)=some es)(hlast:args.getLast?=some (.Name x p))(hx:f.cx.tv? x=some i)
  (hc:chk f.fx (.io j (jW es) i) lp st≠.err):kl prog w zc n f G cf cio wf outer lp st (PySem.exec (.Expr (.Call (.Name fn np) args [] q) pos) f.env) (.io j (jW es) i) (chk f.fx (.io j (jW es) i) lp st):=by
 intro s ρ P ad Q E c hok hve hns;simp only[zuQ] at hc hok ⊢;split at hc
 ·rename_i hh;rw[if_pos hh] at hok;simp only[Bool.and_eq_true,beq_iff_eq] at hh;obtain⟨⟨hh1,hh2⟩,hh3⟩:=hh;simp only[zwx] at hok hve hns;obtain⟨P',c'⟩:=c.frz hh2;have hzip:=zds (st:=Mine.frz st (zcj (jW es))) (fun e pe h=>X.sound h) hinit (zc3 hh1);have hargs:args=args.dropLast++[.Name x p]:=by
   have hne:args≠[]:=fun z=>by rw[z] at hlast;exact nn hlast
   rw[List.getLast?_eq_some_getLast hne] at hlast;have:=List.dropLast_concat_getLast hne;rw[Option.some.inj hlast] at this;exact this.symm
  obtain⟨hg1,hg2,hxf⟩:=zf0 hj;rw[X.hF,List.getElem?_map] at hxf;cases hfi:F[j]? with
  |none=>rw[hfi] at hxf;exact nn hxf
  |some fi=>
   rw[hfi] at hxf;have e:fi.name=fn:=by simpa using hxf
   obtain⟨fa,o,pm,cd,doc,hm,ho,hdat,hcd⟩:=X.B.fn j fi hfi;refine wpAny_Expr_any ?_ (by unfold interactive;rw[c.ec.kind];rfl) rfl;show wpAny (model prog w) f.A (do callWith q (←eval (.Name fn np) f.env) [] (backTo q (starEach args f.env)) (backToKw q (keywordEach [] f.env))) _ E s;refine wpAny_bind (X.B.load c'.ec.stays c'.ec.kind c'.ec.globals (X.hL.glob fn hg1) hg2 (by rw[←e];exact hm) ?_);have main:wpAny (model prog w) f.A (spliced (backTo q (starEach (args.dropLast++[.Name x p]) f.env))) (fun vs s₁=>s₁.heap.get? fa=some o/\wpAny (model prog w) f.A (call (.ref fa) vs) (fun _=>Q .next) E s₁) E s:=by
    refine zgI hx hh3 hzip c' (fun ds vs s₁ hds ch c₁ r1=>⟨c₁.ec.stays _ _ ho,?_⟩) (fun hds y s₁ z=>hve (by rw[hds];rfl) y s₁ (za6.exf X.fs c' z)) (fun hds=>hns (by rw[hds];rfl));rw[hds] at hok hve hns;simp only[R.bind_ok] at hok hve hns;cases hio:cio j (ds++[zr ρ i]) with
    |stuck=>rw[hio] at hns;exact absurd rfl hns
    |ve=>rw[hio] at hns;exact absurd rfl hns
    |ok d'=>
     rw[hio] at hok;obtain⟨g1,g2,g3⟩:=c₁.oP i hh3;refine IO j fi fa hfi hm P' f.A f.fs f.env s₁ vs ds (ad i) (zr ρ i) d' _ E c₁.ec r1 g1 g2 g3 (c₁.there hh3) (c₁.ownAt hx hh3) hio fun v s₂ hch r2=>?_;exact hok .next _ .next s₂ rfl ⟨rfl,_,P',ad,rfl,c₁.updX hh3 hch r2⟩
   rw[←hargs] at main;induction args using List.casesOn with
   |nil=>exact nn hlast
   |cons a as=>
    have hst:zy a:=by
     induction as using List.casesOn with
     |nil=>simp at hlast;subst hlast;exact fun _ _ z=>by cases z
     |cons b bs=>
      have h1:(a::(b::bs).dropLast).mapM (trE 40 f.cx)=some es:=hinit;rw[List.mapM_cons] at h1;cases h2:trE 40 f.cx a with
      |none=>rw[h2] at h1;exact nn h1
      |some pe=>exact zS h2
    exact callWith_def_at (h':=zc) ho hdat main (zx hst)
 ·exact absurd rfl hc
end
end Mine
namespace Mine
open PySem PyProof.Rows PySem.Calls
section
variable{prog:Program}{w:World}{zc:Heap}{n:Nat}{f:Fix}{G:List D}{cf cio:Nat->List D->R D}{wf:Nat}{outer:List Env}{F:List zH}{K:List (Str×D)}{mg mb:Str->Option Value}{L:Addr}
 {lp:Option (List VS)}{st:List VS}{ρ:ze}{P:Addr->Prop}{ad:Nat->Addr}{s s':Shared}
theorem zeL{h h':Heap}{c:Addr}{o:Option Value}(x:h.UpToSlots h')(hc:h.IsCell c o):h'.IsCell c o:=by
 obtain⟨ob,h1,h2⟩:=hc;obtain⟨sl,h3⟩:=x c ob h1 fun vs q=>by rw[h2] at q;cases q
 exact⟨_,h3,h2⟩
theorem zF.slots{env:Env}{h h':Heap}{x:Str}{v:Value}(r:zF env h x v)(k:h.UpToSlots h'):zF env h' x v:=by
 induction r using zF.casesOn with
 |loc m a b c=>exact .loc m a (k.ns b) c
 |cell c a b d=>exact .cell c a b (zeL k d)
theorem SSt.caught{B:Heap}(c:SSt prog w zc n f st ρ P ad s)(hfr:∀a∈frs f.fs,f.s₀.heap.get? a=none)(hB:∀a o,s.heap.get? a=some o->a∉frs f.fs->B.get? a=some o)(hs:B.StaysIn s'.heap)(hsl:s.heap.UpToSlots s'.heap)(os:s'.os=s.os)(gn:AllBare s.gens->AllBare s'.gens):
  SSt prog w zc n f st ρ P ad s':=by
 have kp:∀a o,a∉frs f.fs->s.heap.get? a=some o->s'.heap.get? a=some o:=fun a o nf e=>hs a o (hB a o e nf);have mP:∀a o,P a->s.heap.get? a=some o->P a/\s'.heap.get? a=some o:=fun a o p e=>⟨p,kp a o (c.ec.nofr a p) e⟩;have al:∀a o,s.heap.get? a=some o->∃o',s'.heap.get? a=some o':=fun a o e=>by
  by_cases q:a∈frs f.fs
  ·obtain⟨_,o',h1,h2⟩:=c.ec.funs.mem q;obtain⟨sl,h3⟩:=hsl a o' h1 h2;exact⟨_,h3⟩
  ·exact⟨o,kp a o q e⟩
 refine⟨c.ec.change' mP (fun a ha o e nf=>?_) c.ec.own c.ec.nofr (fun a e=>c.ec.pnew a ?_),?_,c.len,c.nlen,fun i y k h1 h2 h3=>?_,fun i y k h1 h2 h3=>?_,c.oP,c.dist,c.sub,c.oP0,c.fxa,c.noX,c.fresh,c.pnew0,fun a o e nx=>?_,os.trans c.os,fun g=>gn (c.gens g),c.vk,fun a o q=>?_,fun a o q=>mP a o (c.ys a o q).1 (c.ys a o q).2,c.zf⟩
 ·obtain⟨sl,h3⟩:=hsl a o e nf;exact⟨_,h3,nf⟩
 ·cases q:s.heap.get? a with
  |none=>rfl
  |some o=>obtain⟨o',h1⟩:=al a o q;rw[h1] at e;exact sn e
 ·exact {c.fram with
   ns:=let ⟨m,hm⟩:=c.fram.ns;⟨m,hsl.ns hm⟩
   cell:=fun x hx=>by
    obtain⟨h1,cc,o,h2,h3⟩:=c.fram.cell x hx;exact⟨h1,cc,o,h2,zeL hsl h3⟩}
 ·obtain⟨v,g1,g2⟩:=c.var i y k h1 h2 h3;exact⟨v,g1.slots hsl,g2.move mP mP⟩
 ·obtain⟨g1,g2⟩:=c.own i y k h1 h2 h3;exact⟨g1.slots hsl,g2.move (fun a o t e=>⟨t,kp a o (by rw[t];exact(c.oP i h3).2.2) e⟩) mP⟩
 ·exact kp a o (fun q=>by rw[hfr a q] at e;exact nn e) (c.keep a o e nx)
 ·obtain⟨g1,g2⟩:=c.zs a o q;exact⟨kp a o (c.zf a o q) g1,g2⟩
set_option tactic.hygienic true in
theorem znT{A:Around}{env:Env}{cst:Const}{l:Lit}{kk:Nat}{k:Pos}{Q E:Value->Shared->Prop}(hl:zft cst=some l)(h:∀v tk,Rep P s.heap v l.d->Q v {s with toks:=tk}):wpAny (model prog w) A (eval (.Constant cst kk k) env) Q E s:=by
 cases cst<;>simp only[zft] at hl<;>try contradiction
 ·(obtain rfl:=soI hl;clear hl);exact wpAny_Constant_none (h _ s.toks .none)
 ·(obtain rfl:=soI hl;clear hl);exact wpAny_Constant_bool (h _ s.toks (.bool _))
 ·(obtain rfl:=soI hl;clear hl);exact wpAny_Constant_int (h _ _ (.int _ _))
 ·split at hl
  ·rename_i hc
   (obtain rfl:=soI hl;clear hl)
   simp only[Bool.and_eq_true,decide_eq_true_eq] at hc;exact wpAny_Constant_str (h _ _ (.str _ _ hc.1 hc.2))
  ·exact nn hl
theorem zod(X:Ctx prog w zc n f G cf outer F K mg mb L){xn y:Str}{np p k hp:Pos}{kk:Nat}{cst:Const}{l:Lit}{i:Nat}{spos:Pos}{x:Value}{Q:Flow->Shared->Prop}{E:Value->Shared->Prop}(c:SSt prog w zc n f st ρ P ad s)(hfr:∀a∈frs f.fs,f.s₀.heap.get? a=none)
  (hxn:f.cx.isB xn "ValueError"=true)(hy:f.cx.tv? y=some i)(hl:zft cst=some l)(hfx:jw f.fx (st.set i .f)=true)(h:za6 f.fs s x s')
  (hok:∀s₂,(∃P' ad',SSt prog w zc n f (st.set i .f) (ρ.set i l.d) P' ad' s₂)->Q .next s₂):
  wpAny (model prog w) f.A (noteFrame x f.env) (fun _ s₂=>wpAny (model prog w) f.A (setFlight x none) (fun _ s₃=>wpAny (model prog w) f.A (handleBy x f.env [.ExceptHandler (some (.Name xn np)) none [.Assign [.Name y p] (.Constant cst kk k) spos] hp]) Q E s₃) E s₂) E s':=by
 obtain⟨e,B,a0,rfl,h1,h2,h3,h4,h5⟩:=h;have hfs:=X.fs;rw[hfs] at h2;refine wpAny_looks_onW (hfs▸c.ec.frames) X.fr h2 fun ha hha hsa=>?_;refine wpAny_landsW hha fun hb hhb hsb=>?_;obtain⟨g1,g2,rfl⟩:=za1 hxn;have hk:f.env.scope.kind=.function:=c.ec.kind;have cb:SSt prog w zc n f st ρ P ad {s' with heap:=hb}:=c.caught (s':={s' with heap:=hb}) hfr h1 hhb.1 ((h3.trans hsa).trans hsb) h4 h5;obtain⟨ob,hob,hobc⟩:=hhb.there;refine wpAny_handleBy_builtin (X:="ValueError") (T:="ValueError") (b:=true) (by rw[isSubtype_type];kernel_rfl) (by rw[isSubtype_type];kernel_rfl) (by rw[isSubtype_type];kernel_rfl)
  (X.B.loadB (s:={s' with heap:=hb}) cb.ec.stays hk c.ec.globals c.ec.builtins (X.hL.glob _ g1) g2 zoU zlj ⟨rfl,⟨ob,hob,hobc⟩,?_⟩)
 refine lands_againW hhb fun hc hhc hsc=>?_;have cc:SSt prog w zc n f st ρ P ad {s' with heap:=hc}:=c.caught (s':={s' with heap:=hc}) hfr h1 hhc.1 (((h3.trans hsa).trans hsb).trans hsc) h4 h5;show wpAny (model prog w) (f.A.mark (some (.ref e))) (do match ←PySem.exec (.Assign [.Name y p] (.Constant cst kk k) spos) f.env with|.next=>execs [] f.env|f=>pure f) _ _ _;refine wpAny_bind (wpAny_Assign_Name (znT (P:=P) hl fun v tk rv=>?_));have c5:SSt prog w zc n f st ρ P ad {s' with heap:=hc,toks:=tk}:=cc.ch (s':={s' with heap:=hc,toks:=tk}) ⟨zA.refl _,rfl,id⟩;exact c5.store hy X.hnd hfx (.rep rv) fun h' tk' c6=>wpAny_pure (hok _ ⟨P,ad,c6⟩)
set_option tactic.hygienic true in
theorem zhq(X:Ctx prog w zc n f G cf outer F K mg mb L){e:Expr}{pe:PE}{epos tpos:Pos}{xn y:Str}{np p k hp:Pos}{kk:Nat}{cst:Const}{l:Lit}{i:Nat}{spos:Pos}(hfr:∀a∈frs f.fs,f.s₀.heap.get? a=none)
  (h:trE 40 f.cx e=some pe)(hsw:swapsWith e none epos.line f.env=pure false)(hxn:f.cx.isB xn "ValueError"=true)(hy:f.cx.tv? y=some i)(hl:zft cst=some l)(hc:chk f.fx (.tryv (.exp pe) i l) lp st≠.err):
  kl prog w zc n f G cf cio wf outer lp st (PySem.exec (.Try [.Expr e epos] [.ExceptHandler (some (.Name xn np)) none [.Assign [.Name y p] (.Constant cst kk k) spos] hp] [] [] tpos) f.env) (.tryv (.exp pe) i l) (chk f.fx (.tryv (.exp pe) i l) lp st):=by
 intro s ρ P ad Q E c hok hve hns;simp only[znC] at hc hok ⊢;split at hc
 ·rename_i hh;rw[if_pos hh] at hok;simp only[Bool.and_eq_true] at hh;obtain⟨⟨hh1,hh2⟩,hh3⟩:=hh;simp only[zfd,zpv] at hok hve hns;obtain⟨P',c'⟩:=c.frz hh2;refine wpAny_Try_except ?_;show wpAny (model prog w) f.A (do match ←PySem.exec (.Expr e epos) f.env with|.next=>execs [] f.env|f=>pure f) _ _ _;refine wpAny_bind (wpAny_Expr_any ((X.sound h _).1 true hh1 P' f.A f.fs s ρ _ _ c'.ec c'.vok (fun d v s' hd ch r=>?_) (fun hd y' s' z=>?_) (fun hd=>hns (by rw[hd];rfl))) (by unfold interactive;rw[c.ec.kind];rfl) hsw)
  ·rw[hd] at hok;refine wpAny_pure (wpAny_pure (hok .next ρ .next s' rfl (zcV.joinl ⟨rfl,_,P',ad,rfl,c'.ch ch⟩ hc)))
  ·rw[hd] at hok;exact zod X c' hfr hxn hy hl hh3 z fun s₂ ⟨P₂,ad₂,c₂⟩=>hok .next (ρ.set i l.d) .next s₂ rfl (zcV.joinr ⟨rfl,_,P₂,ad₂,rfl,c₂⟩ hc)
 ·exact absurd rfl hc
set_option tactic.hygienic true in
theorem zh4(X:Ctx prog w zc n f G cf outer F K mg mb L){t e:Expr}{tg:Tg}{pe:PE}{epos tpos:Pos}{xn y:Str}{np p k hp:Pos}{kk:Nat}{cst:Const}{l:Lit}{i:Nat}{spos:Pos}(hfr:∀a∈frs f.fs,f.s₀.heap.get? a=none)
  (ht:zaA f.cx t=some tg)(h:trE 40 f.cx e=some pe)(hs:swapsWithSole [t] e epos.line f.env=pure false)(hw:swappedStores [t] e f.env=pure none)(hns':zy t)(hxn:f.cx.isB xn "ValueError"=true)(hy:f.cx.tv? y=some i)(hl:zft cst=some l)(hc:chk f.fx (.tryv (.assign tg pe) i l) lp st≠.err):
  kl prog w zc n f G cf cio wf outer lp st (PySem.exec (.Try [.Assign [t] e epos] [.ExceptHandler (some (.Name xn np)) none [.Assign [.Name y p] (.Constant cst kk k) spos] hp] [] [] tpos) f.env) (.tryv (.assign tg pe) i l) (chk f.fx (.tryv (.assign tg pe) i l) lp st):=by
 intro s ρ P ad Q E c hok hve hns;simp only[zoI] at hc hok ⊢;split at hc
 ·rename_i hh;rw[if_pos hh] at hok;simp only[Bool.and_eq_true] at hh;obtain⟨⟨⟨hh1,hh2⟩,hh4⟩,hh3⟩:=hh;simp only[zfd,zb7] at hok hve hns;obtain⟨P',c'⟩:=c.frz hh2;refine wpAny_Try_except ?_;show wpAny (model prog w) f.A (do match ←PySem.exec (.Assign [t] e epos) f.env with|.next=>execs [] f.env|f=>pure f) _ _ _;refine wpAny_bind (wpAny_Assign_stores ((X.sound h _).1 false hh1 P' f.A f.fs s ρ _ _ c'.ec c'.vok (fun d v s' hd ch r=>?_) (fun hd y' s' z=>?_) (fun hd=>hns (by rw[hd];rfl))) hs hw)
  ·rw[hd] at hok hns;simp only[R.bind_ok] at hok hns;rw[zbZ hns'];show wpAny _ _ (assign t f.env v) _ _ _;cases hb:ja ρ tg d with
   |stuck=>rw[hb] at hns;exact absurd rfl hns
   |ve=>exact absurd hb zaB
   |ok ρ'=>
    rw[hb] at hok;exact(c'.ch ch).assign ht hb X.hnd hh4 r fun h' tk c₂ _=>wpAny_pure (wpAny_pure (hok .next ρ' .next _ rfl (zcV.joinl ⟨rfl,_,P',ad,rfl,c₂⟩ hc)))
  ·rw[hd] at hok;exact zod X c' hfr hxn hy hl hh3 z fun s₂ ⟨P₂,ad₂,c₂⟩=>hok .next (ρ.set i l.d) .next s₂ rfl (zcV.joinr ⟨rfl,_,P₂,ad₂,rfl,c₂⟩ hc)
 ·exact absurd rfl hc
end
end Mine
namespace Mine
open PySem PyProof.Rows PySem.Calls
inductive TS(n:Nat)(cx:Cx):Stmt->PS->Prop
 |app{x:Str}{e:Expr}{p1 ap p pos:Pos}{i:Nat}{a:PE}(hp:(ap.endLine==p.line)=true)(h1:cx.tv? x=some i)(h2:trE 40 cx e=some a):TS n cx (.Expr (.Call (.Attribute (.Name x p1) ("append" : Str) ap) [e] [] p) pos) (.app i a)
 |io{f x:Str}{p p1 q pos:Pos}{args:List Expr}{i v:Nat}{es:List PE}(h1:cx.fun? f=some i)(h2:args.dropLast.mapM (trE 40 cx)=some es)(hl:args.getLast?=some (.Name x p1))(h3:cx.tv? x=some v):TS n cx (.Expr (.Call (.Name f p) args [] q) pos) (.io i (jW es) v)
 |exp{f:Str}{p q pos:Pos}{args:List Expr}{a:PE}(h1:trE 40 cx (.Call (.Name f p) args [] q)=some a):TS n cx (.Expr (.Call (.Name f p) args [] q) pos) (.exp a)
 |newl{x:Str}{p p1 pos:Pos}{es:List Expr}{xs:List PE}{i:Nat}(hz:es.length<=1000)(h1:es.mapM (trE 40 cx)=some xs)(h2:cx.tv? x=some i):TS n cx (.Assign [.Name x p] (.List es p1) pos) (.newl i (jW xs))
 |newd{x:Str}{p p1 pos:Pos}{i:Nat}(h2:cx.tv? x=some i):TS n cx (.Assign [.Name x p] (.Dict [] [] p1) pos) (.newd i)
 |put{x:Str}{k v:Expr}{p p1 pos:Pos}{i:Nat}{a b:PE}(h1:cx.tv? x=some i)(h2:trE 40 cx k=some a)(h3:trE 40 cx v=some b):TS n cx (.Assign [.Subscript (.Name x p) k p1] v pos) (.put i a b)
 |swap{ts vs:List Expr}{a c:Nat}{b d pos:Pos}{is:List Nat}{e:PE}(hc:(vs.all (constantsAlone 8)&&!(vs.all (foldedForSure 8)))=false)(h1:ts.mapM (kt cx)=some is)(hn:is.Nodup)(h2:trE 40 cx (.Tuple vs c d)=some e):TS n cx (.Assign [.Tuple ts a b] (.Tuple vs c d) pos) (.assign (.many is) e)
 |asg{t v:Expr}{pos:Pos}{tg:Tg}{a:PE}(hnt:∀ts a b vs c d,t=.Tuple ts a b->v=.Tuple vs c d->False)(h1:zaA cx t=some tg)(h2:trE 40 cx v=some a):TS n cx (.Assign [t] v pos) (.assign tg a)
 |ifs{c:Expr}{x y:List Stmt}{pos:Pos}{a:PE}{u v:List PS}(h1:trE 40 cx c=some a)(h2:x.mapM (trS n cx)=some u)(h3:y.mapM (trS n cx)=some v):TS n cx (.If c x y pos) (.ifs a (ky u) (ky v))
 |whil{c:Expr}{x:List Stmt}{pos:Pos}{a:PE}{u:List PS}(h1:trE 40 cx c=some a)(h2:x.mapM (trS n cx)=some u):TS n cx (.While c x [] pos) (.whil a (ky u))
 |forr{t it:Expr}{x:List Stmt}{pos:Pos}{tg:Tg}{q:Bool×PE}{u:List PS}(h1:zaA cx t=some tg)(h2:it? (trE 40) cx it=some q)(h3:x.mapM (trS n cx)=some u):TS n cx (.For t it x [] pos) (.forr tg q.1 q.2 (ky u))
 |ret{e:Expr}{pos:Pos}{a:PE}(h1:trE 40 cx e=some a):TS n cx (.Return (some e) pos) (.ret a)
 |raise{x s:Str}{p p1 p2 pos:Pos}{k:Nat}(hx:cx.isB x "ValueError"=true):TS n cx (.Raise (some (.Call (.Name x p) [.Constant (.str s) k p1] [] p2)) none pos) .raise
 |brk{pos:Pos}:TS n cx (.Break pos) .brk
 |cont{pos:Pos}:TS n cx (.Continue pos) .cont
 |tryE{f x y:Str}{p q p1 p2 p3 p4 p5 p6 pos:Pos}{k:Nat}{args:List Expr}{a:PE}{i:Nat}{c:Const}{l:Lit}(hx:cx.isB x "ValueError"=true)(h4:trE 40 cx (.Call (.Name f p) args [] q)=some a)(h2:cx.tv? y=some i)(h3:zft c=some l):
   TS n cx (.Try [.Expr (.Call (.Name f p) args [] q) p1] [.ExceptHandler (some (.Name x p2)) none [.Assign [.Name y p3] (.Constant c k p4) p5] p6] [] [] pos) (.tryv (.exp a) i l)
 |tryA{f x y z:Str}{p q p0 p1 p2 p3 p4 p5 p6 pos:Pos}{k:Nat}{args:List Expr}{a:PE}{i j:Nat}{c:Const}{l:Lit}(hx:cx.isB x "ValueError"=true)(h5:cx.tv? z=some j)(h4:trE 40 cx (.Call (.Name f p) args [] q)=some a)(h2:cx.tv? y=some i)(h3:zft c=some l):
   TS n cx (.Try [.Assign [.Name z p0] (.Call (.Name f p) args [] q) p1] [.ExceptHandler (some (.Name x p2)) none [.Assign [.Name y p3] (.Constant c k p4) p5] p6] [] [] pos) (.tryv (.assign (.one j) a) i l)
section
variable{n:Nat}{cx:Cx}{ps:PS}
theorem znk{f:Str}{args:List Expr}{p q pos:Pos}(h:ztT cx f p args q=some ps):TS n cx (.Expr (.Call (.Name f p) args [] q) pos) ps:=by
 rcases ifo h with⟨_,h⟩|⟨_,h⟩
 ·replace h:=ob h;obtain⟨i,h1,h⟩:=h;replace h:=ob h;obtain⟨es,h2,h⟩:=h;replace h:=ob h;obtain⟨l,h3,h⟩:=h;replace h:=ob h;obtain⟨x,h4,h⟩:=h;replace h:=ob h;obtain⟨v,h5,h⟩:=h
  (obtain rfl:=soI h;clear h);cases j4 h4;exact .io h1 h2 h3 h5
 ·replace h:=ob h;obtain⟨a,h1,h⟩:=h
  (obtain rfl:=soI h;clear h);exact .exp h1
theorem zlK{f:Expr}{args:List Expr}{q pos:Pos}(h:zne cx args q f=some ps):TS n cx (.Expr (.Call f args [] q) pos) ps:=by
 induction f using PySem.Expr.casesOn with
 |Attribute o m ap=>
  replace h:=ifn h;obtain⟨hc,h⟩:=h;replace h:=ob h;obtain⟨x,h1,h⟩:=h;replace h:=ob h;obtain⟨e,h2,h⟩:=h;replace h:=ob h;obtain⟨i,h3,h⟩:=h;replace h:=ob h;obtain⟨a,h4,h⟩:=h
  (obtain rfl:=soI h;clear h);cases j4 h1;cases kE h2;cases zcQ (an1 hc)
  exact .app (an2 hc) h3 h4
 |Name f p=>exact znk h
 |_=>exact nn h
theorem znY{v:Expr}{vs:List Expr}{c:Nat}{d:Pos}(h:znj v=none)(e:v=.Tuple vs c d):False:=by subst e;exact sn h
theorem ztd{t v:Expr}{pos:Pos}(h:zyf cx t v=some ps):TS n cx (.Assign [t] v pos) ps:=by
 induction t using PySem.Expr.casesOn with
 |Name x p=>
  replace h:=ob h;obtain⟨i,h1,h⟩:=h;cases hv:zvY v with
  |some es=>
   rw[hv] at h;replace h:=ifn h;obtain⟨hz,h⟩:=h;replace h:=ob h;obtain⟨xs,h2,h⟩:=h
   (obtain rfl:=soI h;clear h);cases zsP hv;exact .newl hz h2 h1
  |none=>
   rw[hv] at h;rcases ifo h with⟨h2,h⟩|⟨_,h⟩
   ·(obtain rfl:=soI h;clear h);cases zui h2;exact .newd h1
   ·replace h:=ob h;obtain⟨a,h2,h⟩:=h
    (obtain rfl:=soI h;clear h);exact .asg (fun _ _ _ _ _ _ e _=>nomatch e) (by show(cx.tv? x).bind _=_;rw[h1];rfl) h2
 |Subscript o k p=>
  replace h:=ob h;obtain⟨x,h1,h⟩:=h;replace h:=ob h;obtain⟨i,h2,h⟩:=h;replace h:=ob h;obtain⟨a,h3,h⟩:=h;replace h:=ob h;obtain⟨b,h4,h⟩:=h
  (obtain rfl:=soI h;clear h);cases j4 h1;exact .put h2 h3 h4
 |Tuple ts a b=>
  have h:ztM cx (.Tuple ts a b) v ts (znj v)=some ps:=h;cases hv:znj v with
  |some vs=>
   rw[hv] at h;replace h:=ifn h;obtain⟨hc,h⟩:=h;replace h:=ob h;obtain⟨is,h1,h⟩:=h;replace h:=ifn h;obtain⟨hn,h⟩:=h;replace h:=ob h;obtain⟨e,h2,h⟩:=h
   (obtain rfl:=soI h;clear h);cases zs6 hv;exact .swap hc h1 hn h2
  |none=>
   rw[hv] at h;replace h:=ob h;obtain⟨tg,h1,h⟩:=h;replace h:=ob h;obtain⟨e,h2,h⟩:=h
   (obtain rfl:=soI h;clear h);exact .asg (fun _ _ _ _ _ _ _ e=>znY hv e) h1 h2
 |_=>exact nn h
inductive zw4:Expr->Prop
 |mk(f:Str)(p q:Pos)(args:List Expr):zw4 (.Call (.Name f p) args [] q)
theorem zpD{e:Expr}{x:Str}(h:zdL e=some x):zw4 e:=by
 obtain⟨⟨f,as,p⟩,h1,g⟩:=ob h;clear h;cases zc0 h1;have g:zbw f=some x:=g;cases j4 g;exact⟨_,_,_,_⟩
inductive TB(cx:Cx):List Stmt->PS->Prop
 |exp{f:Str}{p q p1:Pos}{args:List Expr}{a:PE}(h:trE 40 cx (.Call (.Name f p) args [] q)=some a):TB cx [.Expr (.Call (.Name f p) args [] q) p1] (.exp a)
 |asg{f z:Str}{p q p0 p1:Pos}{args:List Expr}{a:PE}{j:Nat}(h1:cx.tv? z=some j)(h:trE 40 cx (.Call (.Name f p) args [] q)=some a):TB cx [.Assign [.Name z p0] (.Call (.Name f p) args [] q) p1] (.assign (.one j) a)
theorem zn8{b:List Stmt}(h:ztv cx b=some ps):TB cx b ps:=by
 obtain⟨s,h1,g⟩:=ob h;clear h;cases kE h1;induction s using PySem.Stmt.casesOn with
 |Expr e p=>
  replace g:=ob g;obtain⟨_,h2,g⟩:=g;replace g:=ob g;obtain⟨a,h3,g⟩:=g
  (obtain rfl:=soI g;clear g);cases zpD h2;exact .exp h3
 |Assign ts e p=>
  replace g:=ob g;obtain⟨_,h2,g⟩:=g;replace g:=ob g;obtain⟨t,h4,g⟩:=g;replace g:=ob g;obtain⟨x,h5,g⟩:=g;replace g:=ob g;obtain⟨i,h6,g⟩:=g;replace g:=ob g;obtain⟨a,h3,g⟩:=g
  (obtain rfl:=soI g;clear g);cases kE h4;cases j4 h5;cases zpD h2;exact .asg h6 h3
 |_=>exact nn g
theorem zpj{b:List Stmt}{hd:ExceptHandler}{pos:Pos}(h:zts cx b hd=some ps):TS n cx (.Try b [hd] [] [] pos) ps:=by
 obtain⟨ty,nm,body,p⟩:=hd;obtain⟨h0,g⟩:=ifn h;replace g:=ob g;obtain⟨t,h1,g⟩:=g;replace g:=ob g;obtain⟨x,h2,g⟩:=g;replace g:=ob g;obtain⟨s,h3,g⟩:=g;replace g:=ob g;obtain⟨⟨y,c⟩,h4,g⟩:=g;replace g:=ifn g;obtain⟨hx,g⟩:=g;replace g:=ob g;obtain⟨bb,h5,g⟩:=g;replace g:=ob g;obtain⟨i,h6,g⟩:=g;replace g:=ob g;obtain⟨l,h7,g⟩:=g;clear h;induction nm using Option.casesOn with
 |some=>exact ff h0
 |none=>
  (obtain rfl:=soI g;clear g);cases h1;cases j4 h2;cases kE h3
  obtain⟨p1,p2,p3,k⟩:=zpL h4;cases zn8 h5 with
  |exp h8=>exact .tryE hx h8 h6 h7
  |asg h9 h8=>exact .tryA hx h9 h8 h6 h7
theorem zme{e:Expr}{pos:Pos}(h:zoi cx e=some ps):TS n cx (.Raise (some e) none pos) ps:=by
 obtain⟨⟨x,a⟩,h1,g⟩:=ob h;replace g:=ob g;obtain⟨c,h2,g⟩:=g;replace g:=ifn g;obtain⟨hc,g⟩:=g;clear h
 (obtain rfl:=soI g;clear g);cases zdT h1
 have h2:zqZ a=some c:=h2;cases zkL h2;cases zoC (an1 hc);exact .raise (an2 hc)
theorem ztf{st:Stmt}(h:trS (n+1) cx st=some ps):TS n cx st ps:=by
 induction st using PySem.Stmt.casesOn with
 |Expr e p=>
  obtain⟨⟨f,as,q⟩,h1,g⟩:=ob h;clear h;cases zc0 h1;exact zlK g
 |Assign ts v p=>
  obtain⟨t,h1,g⟩:=ob h;clear h;cases kE h1;exact ztd g
 |If c a b p=>
  replace h:=ob h;obtain⟨a,h1,h⟩:=h;replace h:=ob h;obtain⟨a,h2,h⟩:=h;replace h:=ob h;obtain⟨a,h3,h⟩:=h
  (obtain rfl:=soI h;clear h);exact .ifs h1 h2 h3
 |While c b o p=>
  replace h:=ifn h;obtain⟨ho,h⟩:=h;replace h:=ob h;obtain⟨a,h1,h⟩:=h;replace h:=ob h;obtain⟨a,h2,h⟩:=h
  (obtain rfl:=soI h;clear h);cases emp ho;exact .whil h1 h2
 |For t it b o p=>
  replace h:=ifn h;obtain⟨ho,h⟩:=h;replace h:=ob h;obtain⟨a,h1,h⟩:=h;replace h:=ob h;obtain⟨a,h2,h⟩:=h;replace h:=ob h;obtain⟨a,h3,h⟩:=h
  (obtain rfl:=soI h;clear h);cases emp ho;exact .forr h1 h2 h3
 |Return e p=>
  obtain⟨e,h0,g⟩:=ob h;replace g:=ob g;obtain⟨a,h1,g⟩:=g
  (obtain rfl:=soI g;clear g);cases h0;exact .ret h1
 |Raise e c p=>
  obtain⟨ho,g⟩:=ifn h;replace g:=ob g;obtain⟨e,h1,g⟩:=g;clear h;induction c using Option.casesOn with
  |some=>exact ff ho
  |none=>cases h1;exact zme g
 |Break p=>(obtain rfl:=soI h;clear h);exact .brk
 |Continue p=>(obtain rfl:=soI h;clear h);exact .cont
 |Try b hs o f p=>
  obtain⟨ho,g⟩:=ifn h;replace g:=ob g;obtain⟨hd,h1,g⟩:=g;have e1:=emp (an1 ho);have e2:=emp (an2 ho);clear h ho;subst e1 e2;cases kE h1;exact zpj g
 |_=>exact nn h
theorem zvK{c:Prop}[Decidable c](h:(if c then CR.dead else CR.err)≠.err):(if c then CR.dead else CR.err)=.dead:=if hc:c then if_pos hc else absurd (if_neg hc) h
theorem zti{fx:Option Nat}{p:PE}{lp:Option (List VS)}{st:List VS}(hc:chk fx (.ret p) lp st≠.err):chk fx (.ret p) lp st=.dead:=zvK hc
theorem zrq{fx:Option Nat}{lp:Option (List VS)}{st:List VS}(hc:chk fx .brk lp st≠.err):chk fx .brk lp st=.dead:=by
 induction lp using Option.casesOn with
 |none=>exact absurd rfl hc
 |some inv=>exact zvK hc
theorem znF{fx:Option Nat}{lp:Option (List VS)}{st:List VS}(hc:chk fx .cont lp st≠.err):chk fx .cont lp st=.dead:=by
 induction lp using Option.casesOn with
 |none=>exact absurd rfl hc
 |some inv=>exact zvK hc
end
noncomputable def zbY:PS->Bool
 |.seq a b=>zbY a&&zbY b
 |.ifs _ a b=>zbY a&&zbY b
 |.whil _ b=>zbY b
 |.forr _ _ _ b=>zbY b
 |.tryv _ _ _=>false
 |_=>true
section
variable{prog:Program}{w:World}{zc:Heap}{n:Nat}{f:Fix}{G:List D}{cf cio:Nat->List D->R D}{wf:Nat}{outer:List Env}{F:List zH}{K:List (Str×D)}{mg mb:Str->Option Value}{L:Addr}
theorem Ctx.with(X:Ctx prog w zc n f G cf outer F K mg mb L)(Z Y:Addr->Obj->Prop):Ctx prog w zc n (f.with Z Y) G cf outer F K mg mb L:=
 ⟨X.B,X.hG,X.C,X.hF,X.hC,X.hL,X.hnd,X.fs,X.fr,X.loc⟩
theorem zmO{t e:Expr}{env:Env}(h:∀ts a b vs c d,t=.Tuple ts a b->e=.Tuple vs c d->False)(h2:∀ts a,t≠.List ts a):swappedStores [t] e env=pure none:=by
 cases t<;>first
  |rfl
  |(cases e<;>first|rfl|exact(h _ _ _ _ _ _ rfl rfl).elim)
  |exact absurd rfl (h2 _ _)
theorem zlM(v o i:Expr)(p:Pos)(l:Nat)(env:Env):swapsWith v (some (.Subscript o i p)) l env=pure false:=by
 cases v<;>rfl
theorem zgY{fu:Nat}{cx:Cx}{e:Expr}{pe:PE}(h:trE fu cx e=some pe):(∀a b c d,e≠.SetComp a b c d)/\(∀a b c d g,e≠.DictComp a b c d g):=by
 constructor
 ·intro a b c d q;subst q;cases fu<;>exact nn h
 ·intro a b c d g q;subst q;cases fu<;>exact nn h
theorem zqy{t:Option Expr}{e:Expr}{l:Nat}{env:Env}(h1:¬∃a b c d,e=.ListComp a b c d)(h2:∀a b c d,e≠.SetComp a b c d)(h3:∀a b c d g,e≠.DictComp a b c d g):swapsWith e t l env=pure false:=by
 cases e<;>first
  |rfl
  |exact absurd ⟨_,_,_,_,rfl⟩ h1
  |exact absurd rfl (h2 _ _ _ _)
  |exact absurd rfl (h3 _ _ _ _ _)
theorem zhN(X:Ctx prog w zc n f G cf outer F K mg mb L){lp:Option (List VS)}{st:List VS}{t e:Expr}{tg:Tg}{pe:PE}{pos:Pos}(ht:zaA f.cx t=some tg)(h:trE 40 f.cx e=some pe)(hnt:∀ts a b vs c d,t=.Tuple ts a b->e=.Tuple vs c d->False)
  (hc:chk f.fx (.assign tg pe) lp st≠.err):kl prog w zc n f G cf cio wf outer lp st (PySem.exec (.Assign [t] e pos) f.env) (.assign tg pe) (chk f.fx (.assign tg pe) lp st):=by
 have hns:zy t:=fun x p q=>by subst q;exact nn ht
 have hnl:∀ts a,t≠.List ts a:=fun ts a q=>by subst q;exact nn ht
 have hw:swappedStores [t] e f.env=pure none:=zmO hnt hnl;have hcx:=zgY h;by_cases hlc:∃a b c d,e=.ListComp a b c d
 ·obtain⟨elt,gens,scope,cpos,rfl⟩:=hlc;induction t using PySem.Expr.casesOn with
  |Name y py=>
   cases hb:(f.env.blockKind==.function&&f.env.kindOf y==some .local&&py.line==(Expr.ListComp elt gens scope cpos).pos.line&&!(scope.names.any fun(n,k)=>n==y&&(k==.local||k==.cell))) with
   |true=>
    refine zgq (fu:=39) X ht h ?_ hc;unfold swapsWithSole swapsWith;show(pure (f.env.blockKind==.function&&f.env.kindOf y==some .local&&py.line==(Expr.ListComp elt gens scope cpos).pos.line&&!(scope.names.any fun(n,k)=>n==y&&(k==.local||k==.cell))):Sem Bool)=_;rw[hb]
   |false=>
    refine zdg X ht h ?_ hw hns hc;unfold swapsWithSole swapsWith;show(pure (f.env.blockKind==.function&&f.env.kindOf y==some .local&&py.line==(Expr.ListComp elt gens scope cpos).pos.line&&!(scope.names.any fun(n,k)=>n==y&&(k==.local||k==.cell))):Sem Bool)=_;rw[hb]
  |Tuple ts a b=>exact zdg X ht h rfl hw hns hc
  |_=>exact nn ht
 ·refine zdg X ht h ?_ hw hns hc;exact zqy hlc hcx.1 hcx.2
noncomputable def Ok1(prog:Program)(w:World)(zc:Heap)(n:Nat)(f:Fix)(G:List D)(cf cio:Nat->List D->R D)(wf:Nat)(outer:List Env)(lp:Option (List VS))(st:List VS)(x:Sem Flow)(ps:PS):Prop:=
 (zbY ps=true\/∀a∈frs f.fs,f.s₀.heap.get? a=none)->chk f.fx ps lp st≠.err->kl prog w zc n f G cf cio wf outer lp st x ps (chk f.fx ps lp st)
theorem zq5{lp:Option (List VS)}{st:List VS}{t:Stmt}{ts:List Stmt}{a b:PS}(h1:Ok1 prog w zc n f G cf cio wf outer lp st (PySem.exec t f.env) a)(h2:∀st,Ok1 prog w zc n f G cf cio wf outer lp st (execs ts f.env) b):Ok1 prog w zc n f G cf cio wf outer lp st (execs (t::ts) f.env) (.seq a b):=by
 intro hn hc;have h1:=h1 (hn.imp an1 id);have h2:=fun st=>h2 st (hn.imp an2 id);have e:chk f.fx (.seq a b) lp st=zxg (fun s=>chk f.fx b lp s) (chk f.fx a lp st):=rfl;rw[e] at hc ⊢;generalize chk f.fx a lp st=r at *;induction r using CR.casesOn with
 |err=>exact absurd rfl hc
 |dead=>exact zir (h1 nofun) nofun
 |st s1=>exact zir (h1 nofun) fun s2 h=>by cases h;exact h2 s1 hc
theorem zgS{m:Nat}(ih:∀(lp:Option (List VS)) (st:List VS) (t:Stmt) (ps:PS),trS m f.cx t=some ps->Ok1 prog w zc n f G cf cio wf outer lp st (PySem.exec t f.env) ps)(ts:List Stmt):
  ∀(pss:List PS) (lp:Option (List VS)) (st:List VS),ts.mapM (trS m f.cx)=some pss->Ok1 prog w zc n f G cf cio wf outer lp st (execs ts f.env) (ky pss):=by
 induction ts with
 |nil=>intro pss lp st h _ _;cases mm0 h;exact zmi
 |cons t ts ih'=>
  intro pss lp st h;obtain⟨a,r,h1,h2⟩:=mm h;induction r using List.casesOn with
  |nil=>
   cases List.length_eq_zero_iff.mp (zdl h2).symm
   exact fun hn hc=>zn5 (ih lp st t a h1 hn hc)
  |cons b r=>exact zq5 (ih lp st t a h1) fun st=>ih' (b::r) lp st h2
theorem zq2(IO:zha prog w F mg zc cio n)(m:Nat):∀(f:Fix),Ctx prog w zc n f G cf outer F K mg mb L->∀(lp:Option (List VS)) (st:List VS) (t:Stmt) (ps:PS),trS m f.cx t=some ps->Ok1 prog w zc n f G cf cio wf outer lp st (PySem.exec t f.env) ps:=by
 induction m with
 |zero=>intro f X lp st t ps h;exact nn h
 |succ m IH=>
  intro f X lp st t ps h hn hc;have ihL:=fun(Z Y:Addr->Obj->Prop)=>zgS (f:=f.with Z Y) (IH (f.with Z Y) (X.with Z Y));have ihL0:=zgS (IH f X);cases ztf h with
  |app hp h1 h2=>exact zoG X hp h2 h1 hc
  |io h1 h2 hlast h3=>exact zrP X IO h1 h2 hlast h3 hc
  |exp h1=>exact znI X h1 rfl hc
  |newl hz h1 h2=>exact zmn X hz h1 h2 hc
  |newd h2=>exact zlC X h2 hc
  |put h1 h2 h3=>exact zof X h2 h3 h1 (zlM _ _ _ _ _ _) hc
  |swap hcc h1 hin h2=>exact zg5 X h1 hin h2 hcc hc
  |asg hnt h1 h2=>exact zhN X h1 h2 hnt hc
  |ifs h1 h2 h3=>exact zqS X h1 hc (ihL0 _ _ lp _ h2 (hn.imp an1 id)) (ihL0 _ _ lp _ h3 (hn.imp an2 id))
  |whil h1 h2=>exact zi4 X h1 hc (fun inv z=>ihL0 _ _ (some inv) inv h2 hn z)
  |forr h1 h2 h3=>exact zoY X h1 h2 hc (fun Z Y inv z=>ihL Z Y _ _ (some inv) _ h3 hn z)
  |ret h1=>
   have:=zti hc;rw[this];exact zoZ X h1 this
  |raise hx=>exact zjE X hx
  |brk=>
   have:=zrq hc;rw[this];exact zo3 this
  |cont=>
   have:=znF hc;rw[this];exact zlG this
  |tryE hx h4 h2 h3=>exact zhq X (hn.resolve_left nofun) h4 rfl hx h2 h3 hc
  |tryA hx h5 h4 h2 h3=>exact zh4 X (hn.resolve_left nofun) (by show(f.cx.tv? _).bind _=_;rw[h5];rfl) h4 rfl rfl (fun _ _ z=>by cases z) hx h2 h3 hc
end
end Mine
namespace Mine
open PySem PyProof.Rows PySem.Calls
set_option tactic.hygienic true in
theorem zau{names:List (Str×NameKind)}:∀{k:Nat} {acc:List (Str×Addr)} {x:Str},((x,NameKind.cell)∈names\/(acc.lookup x).isSome=true)->((cellsFrom k names acc).lookup x).isSome=true:=by
 induction names with
 |nil=>
  intro _ _ _ h;simpa [cellsFrom] using h
 |cons zhd r ih=>
  obtain⟨y,kd⟩:=zhd;intro k acc x h;skip;simp only[cellsFrom];split
  ·rename_i hk;refine ih ?_;rcases h with h|h
   ·cases h with
    |head=>exact .inr (by simp[List.lookup_cons])
    |tail _ h=>exact .inl h
   ·refine .inr ?_;rw[List.lookup_cons];cases x==y
    ·exact h
    ·rfl
  ·rename_i hk;refine ih ?_;rcases h with h|h
   ·cases h with
    |head=>exact absurd rfl hk
    |tail _ h=>exact .inl h
   ·exact .inr h
theorem ziC{kindOf:Str->Option NameKind}{b:List (Str×Value)}:∀{m:Str->Option Value} {x:Str},(∀p∈b,p.1≠x)->bindL kindOf b m x=m x:=by
 induction b with
 |nil=>
  intro _ _ _;exact rfl
 |cons zhd r ih=>
  obtain⟨y,v⟩:=zhd;intro m x h;skip;simp only[bindL];rw[ih fun p hp=>h p (List.mem_cons_of_mem _ hp)];have hne:x≠y:=fun e=>h _ (List.mem_cons_self ..) e.symm;split
  ·exact if_neg hne
  ·rfl
theorem ziq{kindOf:Str->Option NameKind}{b:List (Str×Value)}:∀{m:Str->Option Value} {x:Str},(∀p∈b,p.1≠x)->bindC kindOf b m x=m x:=by
 induction b with
 |nil=>
  intro _ _ _;exact rfl
 |cons zhd r ih=>
  obtain⟨y,v⟩:=zhd;intro m x h;skip;simp only[bindC];rw[ih fun p hp=>h p (List.mem_cons_of_mem _ hp)];have hne:x≠y:=fun e=>h _ (List.mem_cons_self ..) e.symm;split
  ·rfl
  ·exact if_neg hne
theorem zet{α β:Type}:∀{xs:List α} {vs:List β} {p:α×β},p∈xs.zip vs->p.1∈xs
 |[],_,_,h=>by exact absurd h List.not_mem_nil
 |x::xs,[],_,h=>by exact absurd h List.not_mem_nil
 |x::xs,v::vs,p,h=>by
  rw[List.zip_cons_cons] at h;cases h with
  |head=>exact List.mem_cons_self ..
  |tail _ h=>exact List.mem_cons_of_mem _ (zet h)
theorem zfY{kindOf:Str->Option NameKind}:∀{xs:List Str} {vs:List Value} {m:Str->Option Value} {i:Nat} {x:Str} {v:Value},xs.Nodup->xs[i]?=some x->vs[i]?=some v->kindOf x=some .local->bindL kindOf (xs.zip vs) m x=some v
 |[],_,_,_,_,_,_,h,_,_=>by exact nn h
 |y::xs,[],_,_,_,_,_,_,h,_=>by exact nn h
 |y::xs,u::vs,m,0,x,v,hn,h1,h2,hk=>by
  simp at h1 h2;subst h1;subst h2;rw[List.zip_cons_cons];simp only[bindL];have hno:∀p∈xs.zip vs,p.1≠y:=fun p hp e=>(List.nodup_cons.mp hn).1 (by rw[←e];exact zet hp);rw[ziC hno,if_pos hk];exact if_pos rfl
 |y::xs,u::vs,m,i+1,x,v,hn,h1,h2,hk=>by
  rw[List.zip_cons_cons];exact zfY (List.nodup_cons.mp hn).2 (h1) (h2) hk
theorem zgb{kindOf:Str->Option NameKind}:∀{xs:List Str} {vs:List Value} {m:Str->Option Value} {i:Nat} {x:Str} {v:Value},xs.Nodup->xs[i]?=some x->vs[i]?=some v->kindOf x=some .cell->bindC kindOf (xs.zip vs) m x=some v
 |[],_,_,_,_,_,_,h,_,_=>by exact nn h
 |y::xs,[],_,_,_,_,_,_,h,_=>by exact nn h
 |y::xs,u::vs,m,0,x,v,hn,h1,h2,hk=>by
  simp at h1 h2;subst h1;subst h2;rw[List.zip_cons_cons];simp only[bindC];have hno:∀p∈xs.zip vs,p.1≠y:=fun p hp e=>(List.nodup_cons.mp hn).1 (by rw[←e];exact zet hp);rw[ziq hno,if_neg (by rw[hk];trivial)];exact if_pos rfl
 |y::xs,u::vs,m,i+1,x,v,hn,h1,h2,hk=>by
  rw[List.zip_cons_cons];exact zgb (List.nodup_cons.mp hn).2 (h1) (h2) hk
structure FOK(fi:zH)(fd:zL)(cx:Cx):Prop where
 names:cx.names=fi.scope.names
 tr:trB cx fi.body=some fd.body
 nv:fd.nv=fi.scope.names.length
 np:fd.np<=fd.nv
 np0:1<=fd.np
 bind:∀(pm cd doc:Value) (vs:List Value),vs.length=fd.np->bindArgs (docDef fi.name fi.params fi.body fi.scope pm cd doc) ⟨vs,[]⟩=pure (((fi.scope.names.map (·.1)).take fd.np).zip vs)
 chk:zv9 fd.io fd.np fd.nv fd.body=true
 nodup:(fi.scope.names.map (·.1)).Nodup
 kinds:∀p∈fi.scope.names,p.2≠.free
 par:∀p∈fi.scope.names.take fd.np,p.2=.local\/p.2=.cell
 co:fi.scope.isCoroutine=false
 gen:fi.scope.isGenerator=false
 kind:fi.scope.kind=.function
noncomputable def st0(io:Bool)(np nv:Nat):List VS:=(List.range nv).map fun i=>if i+1=np/\io=true then VS.o else if i<np then .f else .u
theorem zkJ(io:Bool)(np nv:Nat):(st0 io np nv).length=nv:=by simp[st0]
theorem zjK{io:Bool}{np nv i:Nat}:VS.at (st0 io np nv) i=if i<nv then(if i+1=np/\io=true then VS.o else if i<np then .f else .u) else .u:=by
 unfold VS.at st0;rw[List.getD_eq_getElem?_getD,List.getElem?_map];by_cases h:i<nv
 ·rw[List.getElem?_range h,if_pos h];rfl
 ·rw[List.getElem?_eq_none (by simpa using h),if_neg h];rfl
section
variable{prog:Program}{w:World}{zc:Heap}{n:Nat}{F:List zH}{K:List (Str×D)}{mg mb:Str->Option Value}
structure EC0(zc:Heap)(P:Addr->Prop)(A:Around)(fs:List Env)(n:Nat)(h:Heap):Prop where
 stays:zc.StaysIn h
 pnew:km P h
 pbase:∀a o,zc.get? a=some o->P a
 handled:A.handled=none
 frames:A.frames=some fs
 funs:h.FunFrames zc fs
 depth:A.depth+n<1000
 units:A.units+3*n+4100<cLine
 nofr:∀a,P a->a∉frs fs
theorem EC.to0{P:Addr->Prop}{A:Around}{fs:List Env}{n:Nat}{env:Env}{h:Heap}(e:EC zc P A fs n env h):EC0 zc P A fs n h:=
 ⟨e.stays,e.pnew,e.pbase,e.handled,e.frames,e.funs,e.depth,e.units,e.nofr⟩
set_option tactic.hygienic true in
theorem zkS{fi:zH}{fd:zL}{cx:Cx}{a:Addr}{cd:Value}{P:Addr->Prop}{A:Around}{fs:List Env}{s:Shared}{h₁:Heap}{tk:Nat}{vs:List Value}{ds:List D}{X:Addr->Prop}{xa:Addr}(ok:FOK fi fd cx)(ec:EC0 zc P A fs (n+1) s.heap)
  (Fr₁:Fr s.heap s.heap.objs.size h₁ (bindL (envOfC fi.name fi.scope s.heap.objs.size a cd).kindOf (((fi.scope.names.map (·.1)).take fd.np).zip vs) fun _=>none))
  (Cl₁:Cl s.heap.objs.size (cellsFrom (s.heap.objs.size+1) fi.scope.names []) h₁ (bindC (envOfC fi.name fi.scope s.heap.objs.size a cd).kindOf (((fi.scope.names.map (·.1)).take fd.np).zip vs) fun _=>none))
  (hvs:vs.length=fd.np)(hds:ds.length=fd.np)
  (har:∀i v d,vs[i]?=some v->ds[i]?=some d->¬(i+1=fd.np/\fd.io=true)->zl prog w P P s.heap v d)
  (hio:fd.io=true->(∀z,X z↔z=xa)/\vs[fd.np - 1]?=some (.ref xa)/\¬P xa/\xa∉frs fs/\(∃o,s.heap.get? xa=some o)/\∀d,ds[fd.np - 1]?=some d->zl prog w (fun z=>z=xa) P s.heap (.ref xa) d)
  (hno:fd.io=false->∀z,¬X z):
  ∃P₁,SSt prog w zc n ⟨cx,envOfC fi.name fi.scope s.heap.objs.size a cd,A.deeper (envOfC fi.name fi.scope s.heap.objs.size a cd),envOfC fi.name fi.scope s.heap.objs.size a cd::fs,P,X,s,if fd.io then some (fd.np - 1) else none,fun _ _=>False,fun _ _=>False⟩
   (st0 fd.io fd.np fd.nv) (ds++List.replicate (fd.nv - fd.np) .none) P₁ (fun _=>xa) {s with heap:=h₁,toks:=tk}:=by
 generalize hE:envOfC fi.name fi.scope s.heap.objs.size a cd=env at Fr₁ Cl₁ ⊢;have eL:env.locals=s.heap.objs.size:=by rw[←hE];rfl
 have eC:env.cells=cellsFrom (s.heap.objs.size+1) fi.scope.names []:=by rw[←hE];rfl
 have eS:env.scope=fi.scope:=by rw[←hE];rfl
 have eF:env.frame=some s.heap.objs.size:=by rw[←hE];rfl
 have eG:env.globals=mainGlobals:=by rw[←hE];rfl
 have eB:env.builtins=builtinsNs:=by rw[←hE];rfl
 have eK:∀x,env.kindOf x=fi.scope.names.lookup x:=fun x=>by unfold Env.kindOf;rw[eS]
 have ownNew:∀z,Own env z->s.heap.get? z=none:=by
  rintro z (q|⟨x,hx⟩)
  ·rw[q,eL];exact kU _
  ·rw[eC] at hx;exact Heap.get?_none_of_le (qC (Cl₁.above x z (mem_of_lookup hx)))
 have ownAl:∀z,Own env z->∃o,h₁.get? z=some o:=by
  rintro z (q|⟨x,hx⟩)
  ·obtain⟨o,ho,_⟩:=zmY Fr₁.ns;rw[q,eL];exact⟨o,ho⟩
  ·rw[eC] at hx;obtain⟨o,ho,_⟩:=Cl₁.cell x z hx;exact⟨o,ho⟩
 let P₁:Addr->Prop:=fun z=>P z/\¬Own env z;have mP:∀z o,P z->s.heap.get? z=some o->P₁ z/\h₁.get? z=some o:=fun z o p e=>⟨⟨p,fun q=>by rw[ownNew z q] at e;exact nn e⟩,Fr₁.keep z o e⟩;have fr:∀z,z∈frs (env::fs)->z=s.heap.objs.size\/z∈frs fs:=fun z hz=>by
  simp only[frs,List.filterMap_cons,eF] at hz;exact List.mem_cons.mp hz
 have ec₁:EC zc P₁ (A.deeper env) (env::fs) n env h₁:=
  {stays:=fun z o q=>Fr₁.keep z o (ec.stays z o q)
   pnew:=fun z e=>⟨(ec.pnew.keep Fr₁.keep) z e,fun q=>by obtain⟨o,ho⟩:=ownAl z q;rw[ho] at e;exact sn e⟩
   pbase:=fun z o q=>(mP z o (ec.pbase z o q) (ec.stays z o q)).1
   handled:=ec.handled
   frames:=by show A.frames.map (env::·)=_;rw[ec.frames];rfl
   funs:=Heap.FunFrames.cons (by rw[eS,ok.kind];trivial) eF Fr₁.ns (by
    cases q:zc.get? s.heap.objs.size with
    |none=>rfl
    |some o=>exact absurd rfl (zdY (ec.stays _ _ q))) (jD (jF.of_keep Fr₁.keep).nf ec.funs)
   depth:=by show A.depth+1+n<1000;have q:=ec.depth;clear hio har hno;lia
   units:=by show A.units+3+3*n+4100<cLine;have q:=ec.units;clear hio har hno;lia
   kind:=by rw[eS];exact ok.kind
   globals:=eG,builtins:=eB
   own:=fun z p=>p.2
   nofr:=fun z p hz=>(fr z hz).elim (fun q=>p.2 (.inl (q.trans eL.symm))) (ec.nofr z p.1)
   inj:=fun x y c h1 h2=>by rw[eC] at h1 h2;exact name_of_addr Cl₁.apart (mem_of_lookup h1) (mem_of_lookup h2)}
 have fram:zbB cx.names env h₁:=
  {ns:=⟨_,eL▸Fr₁.ns⟩
   loc:=fun x hx=>by rw[eK,←ok.names];exact hx
   cell:=fun x hx=>by
    refine⟨by rw[eK,←ok.names];exact hx,?_⟩;have:=zau (k:=s.heap.objs.size+1) (acc:=[]) (names:=fi.scope.names) (x:=x) (.inl (ok.names▸jP hx));cases q:(cellsFrom (s.heap.objs.size+1) fi.scope.names []).lookup x with
    |none=>rw[q] at this;exact ff this
    |some c=>exact⟨c,_,by rw[eC];exact q,Cl₁.cell x c q⟩
   inj:=ec₁.inj
   ne:=fun x c hc q=>by
    rw[eC] at hc;have:=Cl₁.above x c (mem_of_lookup hc);rw[q,eL] at this;exact Nat.lt_irrefl _ this
   fn:=by rw[eS];exact ok.kind}
 have param:∀(i:Nat) (x:Str) (k:NameKind) (v:Value),cx.names[i]?=some (x,k)->i<fd.np->vs[i]?=some v->zF env h₁ x v:=by
  intro i x k v h1 hi hv;rw[ok.names] at h1;have hmem:(x,k)∈fi.scope.names.take fd.np:=List.mem_of_getElem? (i:=i) (by rw[List.getElem?_take_of_lt hi];exact h1);have hlk:fi.scope.names.lookup x=some k:=zah ok.nodup (List.mem_of_getElem? h1);have hx:((fi.scope.names.map (·.1)).take fd.np)[i]?=some x:=by rw[List.getElem?_take_of_lt hi,List.getElem?_map,h1];rfl
  have hnd:((fi.scope.names.map (·.1)).take fd.np).Nodup:=ok.nodup.sublist (List.take_sublist _ _);rcases ok.par _ hmem with hk|hk
  ·have hk':k=.local:=hk;subst hk';exact .loc _ (by rw[eK];exact hlk) (eL▸Fr₁.ns) (zfY hnd hx hv (by rw[eK];exact hlk))
  ·have hk':k=.cell:=hk;subst hk';have:=zau (k:=s.heap.objs.size+1) (acc:=[]) (names:=fi.scope.names) (x:=x) (.inl (jP hlk));cases q:(cellsFrom (s.heap.objs.size+1) fi.scope.names []).lookup x with
   |none=>rw[q] at this;exact ff this
   |some c=>
    have hc:=Cl₁.cell x c q;rw[zgb hnd hx hv (by rw[eK];exact hlk)] at hc;exact .cell c (.inl (by rw[eK];exact hlk)) (by rw[eC];exact q) hc
 have gv:∀{i d},ds[i]?=some d->zr (ds++List.replicate (fd.nv - fd.np) .none) i=d:=fun {i d} h=>by
  obtain⟨hl,e⟩:=List.getElem?_eq_some_iff.mp h;unfold zr;rw[List.getD_eq_getElem?_getD,List.getElem?_append_left hl,h];rfl
 have atO:∀{i},VS.at (st0 fd.io fd.np fd.nv) i=.o->fd.io=true/\i=fd.np - 1:=fun {i} h=>by
  rw[zjK] at h;split at h
  ·split at h
   ·rename_i q;exact⟨q.2,by rw[←q.1];rfl⟩
   ·split at h<;>cases h
  ·cases h
 have hP0:=ok.np0;have hPl:fd.np - 1<fd.np:=Nat.sub_lt hP0 (Nat.succ_pos 0);refine⟨P₁,ec₁,fram,by rw[zkJ];rw[List.length_append,List.length_replicate,hds];exact(Nat.add_sub_of_le ok.np).symm,by rw[zkJ,ok.nv,ok.names];exact Nat.le_refl _,fun i x k h1 h2 h3=>?_,fun i x k h1 h2 h3=>?_,fun i h=>?_,fun i j h1 h2 hne=>?_,fun z p=>p.1,fun i h hne=>?_,fun i hi=>?_,fun hfx z hz=>?_,ownNew,ec.pnew,fun z o e nx=>Fr₁.keep z o e,rfl,id,fun i x k h1 h=>?_,fun _ _ q=>q.elim,fun _ _ q=>q.elim,fun _ _ q=>q.elim⟩
 ·rw[zjK] at h3;split at h3
  ·split at h3
   ·cases h3
   ·rename_i hnio;split at h3
    ·rename_i hi;have hv:vs[i]?=some (vs[i]'(by rw[hvs];exact hi)):=List.getElem?_eq_getElem _;have hd:ds[i]?=some (ds[i]'(by rw[hds];exact hi)):=List.getElem?_eq_getElem _;refine⟨_,param i x k _ h1 hi hv,?_⟩;rw[gv hd];exact(har i _ _ hv hd hnio).move mP mP
    ·cases h3
  ·cases h3
 ·obtain⟨g1,g2⟩:=atO h3;subst g2;obtain⟨q1,q2,q3,q4,⟨o,q5⟩,q6⟩:=hio g1;have hd:ds[fd.np - 1]?=some (ds[fd.np - 1]'(by rw[hds];exact hPl)):=List.getElem?_eq_getElem _;refine⟨param _ x k _ h1 hPl q2,?_⟩;rw[gv hd];exact(q6 _ hd).move (fun z o t e=>⟨t,Fr₁.keep z o e⟩) mP
 ·obtain⟨g1,g2⟩:=atO h;obtain⟨q1,q2,q3,q4,⟨o,q5⟩,q6⟩:=hio g1;exact⟨fun p=>q3 p.1,fun q=>(by rw[ownNew _ q] at q5;exact nn q5),fun hz=>(fr _ hz).elim (fun q=>zdY q5 q) q4⟩
 ·exact absurd ((atO h1).2.trans (atO h2).2.symm) hne
 ·obtain⟨g1,g2⟩:=atO h;exact absurd (by simp[g1,g2]) hne
 ·cases hb:fd.io with
  |false=>simp[hb] at hi
  |true=>
   simp[hb] at hi;subst hi;refine⟨?_,(hio hb).1⟩;rw[zjK,if_pos (qD hPl ok.np),if_pos ⟨by exact Nat.sub_add_cancel ‹_›,rfl⟩]
 ·cases hb:fd.io with
  |false=>exact hno hb z hz
  |true=>simp[hb] at hfx
 ·obtain⟨g1,g2⟩:=atO h;subst g2;have h1':fi.scope.names[fd.np - 1]?=some (x,k):=by rw[←ok.names];exact h1
  have hmem:(x,k)∈fi.scope.names.take fd.np:=List.mem_of_getElem? (i:=fd.np - 1) (by rw[List.getElem?_take_of_lt hPl];exact h1');rcases ok.par _ hmem with hk|hk
  ·have hk':k=.local:=hk;subst hk';rfl
  ·have hk':k=.cell:=hk;subst hk';rfl
end
end Mine
namespace Mine
open PySem PyProof.Rows PySem.Calls
section
variable{prog:Program}{w:World}{zc:Heap}{F:List zH}{K:List (Str×D)}{mg mb:Str->Option Value}{G:List D}{T:List zL}{wf:Nat}{ios:List Str}
structure TOK(F:List zH)(K:List (Str×D))(T:List zL)(ios:List Str):Prop where
 ok:∀(i:Nat) (fi:zH),F[i]?=some fi->∃fd,T[i]?=some fd/\FOK fi fd ⟨fi.scope.names,F.map (·.name),ios,K.map (·.1)⟩/\zbY fd.body=true
theorem zbI.get{P:Addr->Prop}{h:Heap}{vs:List Value}{ds:List D}(r:zbI prog w P h vs ds):∀{i:Nat} {v:Value} {d:D},vs[i]?=some v->ds[i]?=some d->zl prog w P P h v d:=by
 unfold zbI at r;induction r with
 |nil=>intro i v d h1 _;exact nn h1
 |cons a _ ih=>
  intro i v d h1 h2;induction i using Nat.casesOn with
  |zero=>(obtain rfl:=soI h1;clear h1);(obtain rfl:=soI h2;clear h2);exact a
  |succ i=>exact ih h1 h2
theorem zdS(B:kH F K mg mb zc)(hG:G=K.map (·.2)){n:Nat}{cf cio:Nat->List D->R D}(C:zdw prog w F mg zc cf n)(IO:zha prog w F mg zc cio n){fi:zH}{fa:Addr}{o:Obj}{pm cd doc:Value}(ho:zc.get? fa=some o)(hdat:o.data=.func (docDef fi.name fi.params fi.body fi.scope pm cd doc))(hcd:zc.CodeRec cd fi.name){fd:zL}
  (ok:FOK fi fd ⟨fi.scope.names,F.map (·.name),ios,K.map (·.1)⟩)
  {P:Addr->Prop}{A:Around}{fs:List Env}{s:Shared}{vs:List Value}{ds:List D}{X:Addr->Prop}{xa:Addr}{Q E:Value->Shared->Prop}(hnt:zbY fd.body=true\/∀a∈frs fs,s.heap.get? a=none)(ec:EC0 zc P A fs (n+1) s.heap)
  (hvs:vs.length=fd.np)(hds:ds.length=fd.np)
  (har:∀i v d,vs[i]?=some v->ds[i]?=some d->¬(i+1=fd.np/\fd.io=true)->zl prog w P P s.heap v d)
  (hio:fd.io=true->(∀z,X z↔z=xa)/\vs[fd.np - 1]?=some (.ref xa)/\¬P xa/\xa∉frs fs/\(∃o,s.heap.get? xa=some o)/\∀d,ds[fd.np - 1]?=some d->zl prog w (fun z=>z=xa) P s.heap (.ref xa) d)
  (hno:fd.io=false->∀z,¬X z)
  (hok:∀d e v s',R.bind (Mine.exec G cf cio wf fd.body (ds++List.replicate (fd.nv - fd.np) .none)) (fun r=>match r.1 with
     |.ret d=>.ok (d,zr r.2 (fd.np - 1))
     |.next=>.ok (.none,zr r.2 (fd.np - 1))
     |_=>.stuck)=.ok (d,e)->(∀z o,s.heap.get? z=some o->¬X z->s'.heap.get? z=some o)->s'.os=s.os->(AllBare s.gens->AllBare s'.gens)->zl prog w P P s'.heap v d->
     (fd.io=true->(∃o,s'.heap.get? xa=some o/\NF o)/\zl prog w (fun z=>z=xa) P s'.heap (.ref xa) e)->Q v s')
  (hve:Mine.exec G cf cio wf fd.body (ds++List.replicate (fd.nv - fd.np) .none)=.ve->fd.io=false/\∀x s',za6 fs s x s'->E x s')
  (hns:R.bind (Mine.exec G cf cio wf fd.body (ds++List.replicate (fd.nv - fd.np) .none)) (fun r=>match r.1 with
     |.ret d=>.ok (d,zr r.2 (fd.np - 1))
     |.next=>.ok (.none,zr r.2 (fd.np - 1))
     |_=>.stuck)≠R.stuck):codeAny (model prog w) A (.call (.ref fa) ⟨vs,[]⟩) (fun r s'=>match r with|.ok (.ret v)=>Q v s'|.ok _=>False|.error e=>E e s') s:=by
 have hcell:∀x,fi.scope.names.lookup x=some .cell->((cellsFrom (s.heap.objs.size+1) fi.scope.names []).lookup x).isSome=true:=fun x hx=>zau (.inl (jP hx));refine(call_cells (by show A.depth<1000;have:=ec.depth;exact qB (Nat.le_add_right _ _) ‹_›) (ec.stays _ _ ho) hdat (B.nolimit.keeps ec.stays) (hcd.keeps ec.stays) (ok.bind pm cd doc vs hvs) (fun x hx=>?_) (fun h₁ tk Fr₁ Cl₁=>?_) ok.co ok.gen ok.kind)
 ·have h1:=zet hx;have:∃k,(x.1,k)∈fi.scope.names.take fd.np:=by
   rw[←List.map_take] at h1;obtain⟨p,hp,e⟩:=List.mem_map.mp h1;exact⟨p.2,by rw[←e];exact hp⟩
  obtain⟨k,hk⟩:=this;have hl:=zah ok.nodup (List.mem_of_mem_take hk);rcases ok.par _ hk with e|e
  ·have e':k=.local:=e;subst e';exact .inl hl
  ·have e':k=.cell:=e;subst e';exact .inr ⟨hl,hcell _ hl⟩
 ·obtain⟨P₁,c₁⟩:=zkS (xa:=xa) (X:=X) (tk:=tk) ok ec Fr₁ Cl₁ hvs hds har hio hno;generalize hE:envOfC fi.name fi.scope s.heap.objs.size fa cd=env at Fr₁ Cl₁ c₁ ⊢;let f:Fix:=⟨⟨fi.scope.names,F.map (·.name),ios,K.map (·.1)⟩,env,A.deeper env,env::fs,P,X,s,if fd.io then some (fd.np - 1) else none,fun _ _=>False,fun _ _=>False⟩;have eS:env.scope=fi.scope:=by rw[←hE];rfl
  have eF:env.frame=some s.heap.objs.size:=by rw[←hE];rfl
  have eK:∀x,env.kindOf x=fi.scope.names.lookup x:=fun x=>by unfold Env.kindOf;rw[eS]
  have hL:Lnk f.cx f.env:=
   {glob:=fun x hx=>by rw[eK];exact hx
    cell:=fun x hx=>by
     rcases hx with hx|hx
     ·obtain⟨h1,c,o,h2,_⟩:=c₁.fram.cell x hx;exact⟨.inl h1,c,h2⟩
     ·exact absurd rfl (ok.kinds _ (jP hx))}
  have X':Ctx prog w zc n f G cf fs F K mg mb s.heap.objs.size:=⟨B,hG,C,rfl,rfl,hL,ok.nodup,rfl,eF,eK⟩;have htr:=ok.tr;unfold trB at htr;cases hb:fi.body.mapM (trS 40 f.cx) with
  |none=>rw[hb] at htr;exact nn htr
  |some pss=>
   rw[hb] at htr;have hbody:ky pss=fd.body:=by simpa using htr
   have hchk:chk f.fx (ky pss) none (st0 fd.io fd.np fd.nv)≠.err:=by
    have:=ok.chk;unfold zv9 at this;rw[hbody];intro q;have q':chk (if fd.io=true then some (fd.np - 1) else none) fd.body none (st0 fd.io fd.np fd.nv)=.err:=q;simp only[st0] at q';dsimp only at this;rw[q'] at this;exact ff this
   have hnt':zbY (ky pss)=true\/∀a∈frs f.fs,f.s₀.heap.get? a=none:=by
    rw[hbody];refine hnt.imp id fun h z hz=>?_;simp only[f,frs,List.filterMap_cons,eF] at hz;rcases List.mem_cons.mp hz with q|q
    ·rw[q];exact kU _
    ·exact h z q
   have S:=zgS (f:=f) (fun lp st t ps g1 g2 g3=>zq2 IO 40 f X' lp st t ps g1 g2 g3) fi.body pss none (st0 fd.io fd.np fd.nv) hb hnt' hchk (wf:=wf);rw[hbody] at S;refine S {s with heap:=h₁,toks:=tk} (ds++List.replicate (fd.nv - fd.np) .none) P₁ (fun _=>xa) _ _ c₁ (fun fl ρ' fw s' he hp=>?_) (fun he x s' q=>?_) (fun he=>hns (by rw[he];rfl))
   ·rw[he] at hok hns;have fin:∀{st P₂ ad},SSt prog w zc n f st ρ' P₂ ad s'->(∀z o,s.heap.get? z=some o->¬X z->s'.heap.get? z=some o)/\s'.os=s.os/\(AllBare s.gens->AllBare s'.gens)/\(fd.io=true->(∃o,s'.heap.get? xa=some o/\NF o)/\zl prog w (fun z=>z=xa) P s'.heap (.ref xa) (zr ρ' (fd.np - 1))):=by
     intro st P₂ ad c;refine⟨c.keep,c.os,c.gens,fun hb=>?_⟩;have hfx:f.fx=some (fd.np - 1):=by exact if_pos ‹_›
     obtain⟨g1,g2⟩:=c.fxa _ hfx;have hxa:ad (fd.np - 1)=xa:=(((hio hb).1 _).mp ((g2 _).mpr rfl));obtain⟨x,k,g3,g4⟩:=c.named g1;obtain⟨_,g5⟩:=c.own _ x k g3 g4 g1;have g6:=c.there g1;rw[hxa] at g5 g6;exact⟨g6,g5.move (fun z o t e=>⟨t,e⟩) (fun z o p e=>⟨c.sub z p,e⟩)⟩
    induction fl using Fl.casesOn with
    |next=>
     obtain⟨rfl,st,P₂,ad,_,c⟩:=hp;obtain⟨f1,f2,f3,f4⟩:=fin c;exact hok .none _ .none s' rfl f1 f2 f3 (.rep .none) f4
    |brk=>obtain⟨_,inv,P₂,ad,h,_⟩:=hp;exact nn h
    |cont=>obtain⟨_,inv,P₂,ad,h,_⟩:=hp;exact nn h
    |ret d=>
     obtain⟨v,st,P₂,ad,rfl,c,r⟩:=hp;obtain⟨f1,f2,f3,f4⟩:=fin c;exact hok d _ v s' rfl f1 f2 f3 (r.move (fun z o p e=>⟨c.sub z p,e⟩) (fun z o p e=>⟨c.sub z p,e⟩)) f4
   ·obtain⟨hb,hE'⟩:=hve he;exact ExF.leave (A:=A.deeper env) c₁.ec.frames eF (kU _) (hno hb) q fun s'' q' _=>hE' x s'' q'
theorem zqp{n i:Nat}{fd:zL}{ds:List D}(hT:T[i]?=some fd)(hio:fd.io=false):zd G T wf (n+1) i ds=R.bind (if ds.length=fd.np then R.bind (Mine.exec G (zd G T wf n) (zk G T wf n) wf fd.body (ds++List.replicate (fd.nv - fd.np) .none)) (fun r=>match r.1 with
     |.ret d=>.ok (d,zr r.2 (fd.np - 1))
     |.next=>.ok (.none,zr r.2 (fd.np - 1))
     |_=>.stuck) else .stuck) fun r=>.ok r.1:=by
 have:za9 T i=false:=by unfold za9;rw[hT];exact hio
 unfold zd;rw[this];simp only[Bool.false_eq_true,if_false,zkG,hT];rfl
theorem zop{n i:Nat}{fd:zL}{ds:List D}(hT:T[i]?=some fd)(hio:fd.io=true):zk G T wf (n+1) i ds=R.bind (if ds.length=fd.np then R.bind (Mine.exec G (zd G T wf n) (zk G T wf n) wf fd.body (ds++List.replicate (fd.nv - fd.np) .none)) (fun r=>match r.1 with
     |.ret d=>.ok (d,zr r.2 (fd.np - 1))
     |.next=>.ok (.none,zr r.2 (fd.np - 1))
     |_=>.stuck) else .stuck) fun r=>.ok r.2:=by
 have:za9 T i=true:=by unfold za9;rw[hT];exact hio
 unfold zk;rw[this];simp only[if_true,zkG,hT];rfl
theorem zd7(B:kH F K mg mb zc)(hG:G=K.map (·.2))(tok:TOK F K T ios):∀n,zdw prog w F mg zc (zd G T wf n) n/\zha prog w F mg zc (zk G T wf n) n
 |0=>by
  refine⟨fun i fi fa hi hm P A fs env s vs ds Q E ec r hok hve hns=>absurd ?_ hns,fun i fi fa hi hm P A fs env s vs ds X d0 d' Q E ec r h1 h2 h3 h4 h5 h6=>?_⟩
  ·unfold zd;split<;>rfl
  ·unfold zk at h6;split at h6<;>exact ns h6
 |n+1=>by
  obtain⟨C,IO⟩:=zd7 B hG tok n;refine⟨fun i fi fa hi hm P A fs env s vs ds Q E ec r hok hve hns=>?_,fun i fi fa hi hm P A fs env s vs ds X d0 d' Q E ec r h1 h2 h3 h4 h5 h6 hok=>?_⟩
  ·obtain⟨fd,hT,ok,hnt⟩:=tok.ok i fi hi;cases hb:fd.io with
   |true=>
    have:za9 T i=true:=by unfold za9;rw[hT];exact hb
    refine absurd ?_ hns;unfold zd;rw[this];rfl
   |false=>
    rw[zqp hT hb] at hok hve hns;by_cases hl:ds.length=fd.np
    ·simp only[hl,if_true] at hok hve hns;have hvl:vs.length=ds.length:=zaz.length r;obtain⟨fa',o',pm,cd,doc,hm',ho,hdat,hcd⟩:=B.fn i fi hi;rw[hm] at hm';cases hm';refine wpAny_call (zdS (wf:=wf) (X:=fun _=>False) (xa:=0) B hG C IO ho hdat hcd ok (.inl hnt) ec.to0 (hvl.trans hl) hl (fun j v d g1 g2 _=>r.get g1 g2) (fun z=>by rw[hb] at z;exact ff z) (fun _ _ z=>z) (fun d e v s' g1 g2 g3 g4 g5 _=>?_) (fun g=>⟨hb,fun x s' q=>hve (by rw[g];rfl) x s' q⟩) (fun g=>hns (by rw[g];rfl)));exact hok d v s' (by rw[g1];rfl) ⟨fun a o z=>g2 a o z (fun q=>q),g3,g4⟩ g5
    ·simp only[hl,if_false] at hns;exact absurd rfl hns
  ·obtain⟨fd,hT,ok,hnt⟩:=tok.ok i fi hi;cases hb:fd.io with
   |false=>
    have:za9 T i=false:=by unfold za9;rw[hT];exact hb
    unfold zk at h6;rw[this] at h6;exact ns h6
   |true=>
    rw[zop hT hb] at h6;by_cases hl:(ds++[d0]).length=fd.np
    ·simp only[hl,if_true] at h6;have hvl:vs.length=ds.length:=zaz.length r;have hl':ds.length+1=fd.np:=by simpa using hl
     have e1:fd.np - 1=ds.length:=by rw[←hl'];rfl
     have e2:vs.length<=fd.np - 1:=Nat.le_of_eq (hvl.trans e1.symm);obtain⟨fa',o',pm,cd,doc,hm',ho,hdat,hcd⟩:=B.fn i fi hi;rw[hm] at hm';cases hm';refine wpAny_call (zdS (wf:=wf) (X:=fun z=>z=X) (xa:=X) B hG C IO ho hdat hcd ok (.inl hnt) ec.to0 (by simp;lia) hl (fun j v d g1 g2 g3=>?_) (fun _=>⟨fun z=>Iff.rfl,?_,h1,h3,?_,fun d g=>?_⟩) (fun z=>by rw[hb] at z;exact tf z) (fun d e v s' g1 g2 g3 g4 g5 g6=>?_) (fun g=>?_) (fun g=>?_))
     ·have hj:j<ds.length:=by
       have:j<(ds++[d0]).length:=(List.getElem?_eq_some_iff.mp g2).1;simp at this;by_cases q:j+1=fd.np
       ·exact absurd ⟨q,hb⟩ g3
       ·lia
      rw[List.getElem?_append_left (by lia)] at g1;rw[List.getElem?_append_left hj] at g2;exact r.get g1 g2
     ·rw[List.getElem?_append_right e2];have:fd.np - 1 - vs.length=0:=by rw[e1,hvl];exact Nat.sub_self _
      rw[this];rfl
     ·obtain⟨o,ho,_⟩:=h4;exact⟨o,ho⟩
     ·rw[List.getElem?_append_right (Nat.le_of_eq e1.symm)] at g;have:fd.np - 1 - ds.length=0:=by rw[e1];exact Nat.sub_self _
      rw[this] at g;simp at g;subst g;exact h5
     ·rw[g1] at h6;simp only[R.bind_ok] at h6
      (obtain rfl:=okI h6;clear h6)
      obtain⟨⟨o',g7,g8⟩,g9⟩:=g6 hb;refine hok v s' ⟨fun a o z e=>g2 a o e z,fun a o e=>?_,g3,g4⟩ g9;by_cases z:a=X
      ·exact⟨o',z▸g7,fun _=>g8⟩
      ·exact⟨o,g2 a o e z,id⟩
     ·rw[g] at h6;exact nv h6
     ·rw[g] at h6;exact ns h6
    ·simp only[hl,if_false] at h6;exact ns h6
end
end Mine
namespace Mine
open PySem PyProof.Rows PySem.Calls PySem.W
theorem zbx{α:Type}:∀{ns:List Str} {vs:List α} {x:Str},vs.length=ns.length->x∈ns->((ns.zip vs).lookup x).isSome=true
 |[],_,_,_,h=>by simp at h
 |y::ns,[],_,hl,_=>by simp at hl
 |y::ns,v::vs,x,hl,h=>by
  rw[List.zip_cons_cons,List.lookup_cons];cases hxy:x==y
  ·exact zbx (by simpa using hl) (by
    rcases List.mem_cons.mp h with h|h
    ·(replace h:=Eq.symm h;subst h);simp at hxy
    ·exact h)
  ·rfl
theorem zqk{α β:Type}{f g:α->Option β}{l:List α}:(∀a∈l,f a=g a)->l.filterMap f=l.filterMap g:=by
 induction l with
 |nil=>
  intro _;exact rfl
 |cons a l ih=>
  intro h;skip;rw[List.filterMap_cons,List.filterMap_cons,h a (List.mem_cons_self ..),ih fun b hb=>h b (List.mem_cons_of_mem _ hb)]
theorem zcB{α:Type}:∀{ns:List Str} {vs:List α},ns.Nodup->vs.length=ns.length->ns.filterMap (fun n=>((ns.zip vs).lookup n).map (n,·))=ns.zip vs
 |[],_,_,_=>by simp
 |y::ns,[],_,hl=>by simp at hl
 |y::ns,v::vs,hn,hl=>by
  rw[List.nodup_cons] at hn;rw[List.zip_cons_cons,List.filterMap_cons];have h1:List.lookup y ((y,v)::ns.zip vs)=some v:=by simp
  have h2:=zcB hn.2 (vs:=vs) (by simpa using hl);have h3:ns.filterMap (fun n=>(List.lookup n ((y,v)::ns.zip vs)).map (n,·))=ns.filterMap (fun n=>(List.lookup n (ns.zip vs)).map (n,·)):=zqk (by
   intro n hn';rw[List.lookup_cons];have:(n==y)=false:=by
    rw[beq_eq_false_iff_ne];(rintro zr5<;>(try (replace zr5:=Eq.symm zr5;subst zr5)));exact hn.1 hn'
   rw[this])
  rw[h1,h3,h2];rfl
noncomputable def zgZ(p:Arguments):Bool:=p.posonlyargs.isEmpty&&p.vararg.isNone&&p.kwonlyargs.isEmpty&&p.kwarg.isNone
theorem zwd{k:Nat}:List.drop k ((none:Option (Array Value)).getD #[]).toList=[]:=List.drop_nil
theorem zrD{name:Str}{ar:List Arg}{df:List Expr}{kd:List (Option Expr)}{body:List Stmt}{scope:Scope}{pm cd doc:Value}{vs:List Value}
  (h5:¬(decide (vs.length>(ar.map (fun a:Arg=>a.arg)).length)&&true)=true)(h7:¬(! ((List.take ((ar.map (fun a:Arg=>a.arg)).length) (ar.map (fun a:Arg=>a.arg))).filter fun n=>((((ar.map (fun a:Arg=>a.arg)).zip vs)).lookup n).isNone).isEmpty)=true)
  (h8:List.zip (List.drop (ar.map (fun a:Arg=>a.arg)).length (ar.map (fun a:Arg=>a.arg))) ([]:List Value)=[])(hf:((ar.map (fun a:Arg=>a.arg))++[]).filterMap (fun n=>(((ar.map (fun a:Arg=>a.arg)).zip vs).lookup n).map (n,·))=(ar.map (fun a:Arg=>a.arg)).zip vs):
  bindArgs (docDef name ⟨[],ar,none,[],kd,none,df⟩ body scope pm cd doc) ⟨vs,[]⟩=pure ((ar.map (fun a:Arg=>a.arg)).zip vs):=by
 refine(if_neg h5).trans ?_;rw[zwd];refine(if_neg h7).trans ?_;refine(congrArg (fun z=>forIn z _ _ >>= _) h8).trans ?_;exact congrArg (pure:List (Str×Value)->Sem (List (Str×Value))) hf
theorem zhC{name:Str}{params:Arguments}{body:List Stmt}{scope:Scope}{pm cd doc:Value}{vs:List Value}(h:zgZ params=true)(hn:(params.args.map (·.arg)).Nodup)(hl:vs.length=(params.args.map (·.arg)).length):
  bindArgs (docDef name params body scope pm cd doc) ⟨vs,[]⟩=pure ((params.args.map (·.arg)).zip vs):=by
 obtain⟨po,ar,va,ko,kd,kw,df⟩:=params;simp only[zgZ,Bool.and_eq_true,List.isEmpty_iff,Option.isNone_iff_eq_none] at h;obtain⟨⟨⟨rfl,rfl⟩,rfl⟩,rfl⟩:=h;have hm:((ar.map (·.arg)).filter fun n=>((((ar.map (·.arg)).zip vs)).lookup n).isNone)=[]:=by
  rw[List.filter_eq_nil_iff];intro x hx;have:=zbx hl hx;simp[←Option.not_isSome,this]
 have hf:=zcB hn hl;refine zrD ?_ ?_ List.zip_nil_right (by rw[List.append_nil];exact hf)
 ·rw[hl];simp
 ·rw[List.take_length,hm];simp
noncomputable def zsw(fi:zH)(fd:zL)(cx:Cx):Bool:=
 decide (fd.nv=fi.scope.names.length)&&decide (fd.np<=fd.nv)&&decide (1<=fd.np)&&zgZ fi.params &&
 decide (fi.params.args.map (·.arg)=(fi.scope.names.map (·.1)).take fd.np)&&zv9 fd.io fd.np fd.nv fd.body&&decide ((fi.scope.names.map (·.1)).Nodup) &&
 (fi.scope.names.all fun p=>p.2 != .free)&&((fi.scope.names.take fd.np).all fun p=>p.2==.local||p.2==.cell)&&!fi.scope.isCoroutine&&!fi.scope.isGenerator&&fi.scope.kind==.function
theorem zu8{fi:zH}{fd:zL}{funs ios consts:List Str}(h1:trB ⟨fi.scope.names,funs,ios,consts⟩ fi.body=some fd.body)(h:zsw fi fd ⟨fi.scope.names,funs,ios,consts⟩=true):FOK fi fd ⟨fi.scope.names,funs,ios,consts⟩:=by
 simp only[zsw,Bool.and_eq_true,decide_eq_true_eq,Bool.not_eq_true'] at h;obtain⟨⟨⟨⟨⟨⟨⟨⟨⟨⟨⟨h2,h3⟩,h4⟩,h5⟩,h6⟩,h7⟩,h8⟩,h9⟩,h10⟩,h11⟩,h12⟩,h13⟩:=h;refine⟨rfl,h1,h2,h3,h4,?_,h7,h8,?_,?_,h11,h12,by simpa using h13⟩
 ·intro pm cd doc vs hl;have hn:(fi.params.args.map (·.arg)).Nodup:=by rw[h6];exact List.Sublist.nodup (List.take_sublist _ _) h8
  have hlen:(fi.params.args.map (·.arg)).length=fd.np:=by rw[h6,List.length_take,List.length_map];lia
  rw[zhC h5 hn (by rw[hlen];exact hl),h6]
 ·intro p hp;have:=List.all_eq_true.mp h9 p hp
  simpa using this
 ·intro p hp;have:=List.all_eq_true.mp h10 p hp
  simpa using this
noncomputable def zfA{α:Type}(p:α->Bool):Option α->Bool
 |none=>false
 |some a=>p a
inductive zyU{α:Type}(p:α->Bool)(o:Option α):Prop
 |mk(a:α)(e:o=some a)(h:p a=true)
theorem j6{α:Type}{p:α->Bool}{o:Option α}(h:zfA p o=true):zyU p o:=by
 induction o using Option.casesOn with
 |none=>exact ff h
 |some a=>exact⟨a,rfl,h⟩
noncomputable def zxs(F:List zH)(K:List (Str×D))(T:List zL)(ios:List Str):Bool:=
 (List.range F.length).all fun i=>zfA (fun fi:zH=>zfA (fun fd:zL=>zsw fi fd ⟨fi.scope.names,F.map (·.name),ios,K.map (·.1)⟩&&zbY fd.body) T[i]?) F[i]?
theorem zyX{F:List zH}{K:List (Str×D)}{T:List zL}{ios:List Str}(ht:(F.map fun fi=>trB ⟨fi.scope.names,F.map (·.name),ios,K.map (·.1)⟩ fi.body)=(T.take F.length).map fun fd=>some fd.body)(h:zxs F K T ios=true):TOK F K T ios:=by
 refine⟨fun i fi hi=>?_⟩;have hl:i<F.length:=(List.getElem?_eq_some_iff.mp hi).1;have:=List.all_eq_true.mp h i (List.mem_range.mpr hl);rw[hi] at this;obtain⟨fd,hT,h2⟩:=j6 (p:=fun fd:zL=>_) this;have e:=congrArg (·[i]?) ht;simp only[List.getElem?_map,List.getElem?_take_of_lt hl,hi,hT,Option.map_some] at e;exact⟨fd,hT,zu8 (Option.some.inj e) (an1 h2),an2 h2⟩
noncomputable def zb9(f:Value->D->Bool):List Value->List D->Bool
 |[]=>fun ds=>ds.isEmpty
 |v::vs=>fun ds=>match ds with
  |[]=>false
  |d::ds=>f v d&&zb9 f vs ds
noncomputable def zv1(n:String):Value->Bool
 |.type m=>m==n
 |_=>false
theorem zk4{n:String}{v:Value}(h:zv1 n v=true):v=.type n:=by
 induction v using PySem.Value.casesOn with
 |type m=>rw[eq_of_beq (show(m==n)=true from h)]
 |_=>exact ff h
theorem zeS{f:Value->D->Bool}{P:Addr->Prop}{h:Heap}(hf:∀v d,f v d=true->Rep P h v d){vs:List Value}:∀{ds:List D},zb9 f vs ds=true->zi P h vs ds:=by
 induction vs with
 |nil=>intro ds h;induction ds using List.casesOn with
  |nil=>exact .nil
  |cons=>exact ff h
 |cons v vs ih=>intro ds h;induction ds using List.casesOn with
  |nil=>exact ff h
  |cons d ds=>exact .cons (hf v d (an1 h)) (ih (an2 h))
end Mine
namespace Mine
open PySem PyProof.Rows PySem.Calls PySem.W
section
variable{prog:Program}{w:World}{F:List zH}{K:List (Str×D)}{mg mb:Str->Option Value}{G:List D}{T:List zL}{ios:List Str}
theorem zol{P:Addr->Prop}{h:Heap}{vs:List Value}{ns:List Int}(r:IntsAre vs ns):zi P h vs (ns.map PyData.int):=by
 induction r with
 |nil=>exact .nil
 |cons n t _ ih=>exact .cons (.int n t) ih
theorem zyw{s:Shared}(B:kH F K mg mb s.heap)(hG:G=K.map (·.2))(tok:TOK F K T ios){fi:zH}{fd:zL}(ok:FOK fi fd ⟨fi.scope.names,F.map (·.name),ios,K.map (·.1)⟩)(hnp:fd.np=1)(hio:fd.io=false)
  {fa a:Addr}{o:Obj}{pm cd doc:Value}(ho:s.heap.get? fa=some o)(hdat:o.data=.func (docDef fi.name fi.params fi.body fi.scope pm cd doc))(hcd:s.heap.CodeRec cd fi.name)
  {Pa:Params}{ns:List Int}{vs:List Value}{wx:List WData}(hW:Well Pa s.heap (.ref a) (.list wx))(hL:s.heap.IsList a vs.toArray)(hI:IntsAre vs ns)(hlen:ns.length<=63)
  (hrun:∃σ,Mine.exec G (zd G T 2000 640) (zk G T 2000 640) 2000 fd.body ([.list (ns.map PyData.int)]++List.replicate (fd.nv - fd.np) .none)=.ok (.ret (.bool true),σ)):
  codeAny (model prog w) callerA (.call (.ref fa) ⟨[.ref a],[]⟩) (fun r s'=>r=.ok (.ret (.bool true))/\(∀z o,s.heap.get? z=some o->s'.heap.get? z=some o)/\s'.os=s.os/\(AllBare s.gens->AllBare s'.gens)) s:=by
 obtain⟨C,IO⟩:=zd7 (prog:=prog) (w:=w) (wf:=2000) B hG tok 640;obtain⟨σ,hrun⟩:=hrun;obtain⟨o',h1,h2,n,h3⟩:=hL;have hdict:o'.dict=none:=by
  cases hW with
  |list e _=>rw[h1] at e;injection e with e;rw[e]
 have har:zl prog w (fun _=>True) (fun _=>True) s.heap (.ref a) (.list (ns.map PyData.int)):=by
  refine .rep (.list (o:=o') (vs:=vs.toArray) (n:=n) trivial h1 h2 hdict h3 (zol hI) ?_);rw[List.length_map];unfold zp;exact qA ‹_› (by decide)
 have ec:EC0 s.heap (fun _=>True) callerA [] (640+1) s.heap:=
  {stays:=fun _ _ h=>h
   pnew:=fun _ _=>trivial
   pbase:=fun _ _ _=>trivial
   handled:=rfl
   frames:=rfl
   funs:=trivial
   depth:=by decide
   units:=by decide
   nofr:=fun _ _ h=>by cases h}
 refine codeAny_mono (zdS (wf:=2000) (P:=fun _=>True) (fs:=[]) (X:=fun _=>False) (xa:=0) (ds:=[.list (ns.map PyData.int)])
  (Q:=fun v s'=>v=.bool true/\(∀z o,s.heap.get? z=some o->s'.heap.get? z=some o)/\s'.os=s.os/\(AllBare s.gens->AllBare s'.gens)) (E:=fun _ _=>False)
  B hG C IO ho hdat hcd ok (.inr (fun _ h=>by cases h)) ec (by rw[hnp];rfl) (by rw[hnp];rfl) ?_ (fun h=>by rw[hio] at h;exact ff h) (fun _ _ h=>h) ?_ ?_ ?_) ?_
 ·intro i v d g1 g2 _;induction i using Nat.casesOn with
  |zero=>simp at g1 g2;subst g1;subst g2;exact har
  |succ i=>exact nn g1
 ·intro d e v s' he hk hos hg hr _;rw[hrun] at he;simp only[R.bind_ok] at he;injection he with he
  injection he with he1 he2
  subst he1;refine⟨?_,fun z o hz=>hk z o hz (fun h=>h),hos,hg⟩;cases hr with
  |rep hr=>cases hr;rfl
 ·intro he;rw[hrun] at he;exact ov he
 ·rw[hrun];exact fun h=>os h
 ·intro r s' h
  match r,h with
  |.ok (.ret v),h=>exact⟨by rw[h.1],h.2⟩
  |.error e,h=>exact h.elim
end
end Mine
namespace Mine
open PySem PyProof.Rows PySem.Calls PySem.W
noncomputable def ztG:Value->Option Addr
 |.ref a=>some a
 |_=>none
noncomputable def ztN:Value->Option Str
 |.str x _=>some x
 |_=>none
noncomputable def ztL:Data->Option (List Value)
 |.seq vs _=>some vs.toList
 |_=>none
theorem zoS{v:Value}{a:Addr}(h:ztG v=some a):v=.ref a:=by
 cases v with
 |ref=>(obtain rfl:=soI h;clear h);rfl
 |_=>exact nn h
theorem zmW{v:Value}{x:Str}(h:ztN v=some x):∃t,v=.str x t:=by
 cases v with
 |str=>(obtain rfl:=soI h;clear h);exact⟨_,rfl⟩
 |_=>exact nn h
theorem zpy{d:Data}{l:List Value}(h:ztL d=some l):∃vs n,d=.seq vs n/\vs.toList=l:=by
 cases d with
 |seq vs n=>(obtain rfl:=soI h;clear h);exact⟨_,_,rfl,rfl⟩
 |_=>exact nn h
noncomputable def zf7(f:Addr->Option Obj)(l:Bool)(v:Value):Option (List Value):=(ztG v).bind fun a=>(f a).bind fun o=>if(zv1 (bif l then "list" else "tuple") o.cls&&(!l||o.dict.isNone))=true then ztL o.data else none
inductive zxb(f:Addr->Option Obj)(l:Bool)(v:Value)(its:List Value):Prop
 |mk(a:Addr)(o:Obj)(vs:Array Value)(n:Nat)(e:v=.ref a)(ho:f a=some o)(h1:zv1 (bif l then "list" else "tuple") o.cls=true)(h2:(!l||o.dict.isNone)=true)(hd:o.data=.seq vs n)(hv:vs.toList=its)
theorem zhH{f:Addr->Option Obj}{l:Bool}{v:Value}{its:List Value}(h:zf7 f l v=some its):zxb f l v its:=by
 obtain⟨a,h1,h⟩:=ob h;obtain⟨o,h2,h⟩:=ob h;obtain⟨h3,h⟩:=ifn h;obtain⟨vs,n,h4,h5⟩:=zpy h;exact⟨a,o,vs,n,zoS h1,h2,an1 h3,an2 h3,h4,h5⟩
theorem zid{f g:Addr->Option Obj}(k:∀a o,f a=some o->g a=some o){l:Bool}{v:Value}{its:List Value}(h:zf7 f l v=some its):zf7 g l v=some its:=by
 obtain⟨a,h1,h⟩:=ob h;obtain⟨o,h2,h⟩:=ob h;rw[zf7,h1,Option.bind_some,k a o h2];exact h
noncomputable def zlH(f:Addr->Option Obj):Nat->Value->D->Bool
 |0=>fun _ _=>false
 |n+1=>fun v d=>match d with
  |.str y=>zfA (fun x=>decide (x=y)&&PyData.strOk y&&decide (y.length<=1000)) (ztN v)
  |.list xs=>zfA (fun vs=>zb9 (zlH f n) vs xs&&decide (xs.length<=1000)) (zf7 f true v)
  |.tuple xs=>zfA (fun vs=>zb9 (zlH f n) vs xs&&decide (xs.length<=1000)) (zf7 f false v)
  |_=>false
theorem zo0{n:Nat}(h:decide (n<=1000)=true):n<=zp:=qA (of_decide_eq_true h) (by decide)
theorem zru{h:Heap}(n:Nat):∀(v:Value) (d:D),zlH h.get? n v d=true->Rep (fun a=>∃o,h.get? a=some o) h v d:=by
 induction n with
 |zero=>intro v d hr;exact ff hr
 |succ n ih=>
  intro v d hr;cases d with
  |str y=>
   obtain⟨x,h1,h2⟩:=j6 hr;obtain⟨t,rfl⟩:=zmW h1;cases of_decide_eq_true (an1 (an1 h2));exact .str _ _ (an2 (an1 h2)) (zo0 (an2 h2))
  |list xs=>
   obtain⟨l,h1,h2⟩:=j6 hr;obtain⟨a,o,vs,m,rfl,ho,h3,h4,hd,rfl⟩:=zhH h1;exact .list ⟨o,ho⟩ ho (zk4 h3) (Option.isNone_iff_eq_none.mp h4) hd (zeS ih (an1 h2)) (zo0 (an2 h2))
  |tuple xs=>
   obtain⟨l,h1,h2⟩:=j6 hr;obtain⟨a,o,vs,m,rfl,ho,h3,h4,hd,rfl⟩:=zhH h1;exact .tuple ⟨o,ho⟩ ho (zk4 h3) hd (zeS ih (an1 h2)) (zo0 (an2 h2))
  |_=>exact ff hr
noncomputable def nsF(f:Addr->Option Obj)(name:Str):Option (Option Value):=(f mainGlobals).bind fun o=>nsIn [(mainGlobals,o)] mainGlobals name
noncomputable def zgc(cs:List (Str×D))(f:Addr->Option Obj):Bool:=(cs.all fun c=>zfA (fun r:Option Value=>zfA (fun v=>zlH f 5 v c.2) r) (nsF f c.1))&&jt.all fun x=>zfA (fun r:Option Value=>r.isNone) (nsF f x)
theorem zfs{p q:Value->D->Bool}(h:∀v d,p v d=true->q v d=true){vs:List Value}:∀{ds:List D},zb9 p vs ds=true->zb9 q vs ds=true:=by
 induction vs with
 |nil=>intro ds h;exact h
 |cons v vs ih=>intro ds hh;cases ds with
  |nil=>exact ff hh
  |cons d ds=>exact Bool.and_eq_true_iff.mpr ⟨h v d (an1 hh),ih (an2 hh)⟩
theorem znq{f g:Addr->Option Obj}(k:∀a o,f a=some o->g a=some o){x:Str}{r:Option Value}(h:nsF f x=some r):nsF g x=some r:=by
 obtain⟨o,h1,h⟩:=ob h;rw[nsF,k _ _ h1];exact h
theorem zeA{α:Type}{p:α->Bool}{o:Option α}{a:α}(e:o=some a)(h:p a=true):zfA p o=true:=by rw[e];exact h
theorem zry{f g:Addr->Option Obj}(k:∀a o,f a=some o->g a=some o)(n:Nat):∀(v:Value) (d:D),zlH f n v d=true->zlH g n v d=true:=by
 induction n with
 |zero=>intro v d hr;exact ff hr
 |succ n ih=>
  intro v d hr;cases d with
  |str y=>exact hr
  |list xs=>
   obtain⟨l,h1,h2⟩:=j6 hr;exact zeA (zid k h1) (Bool.and_eq_true_iff.mpr ⟨zfs ih (an1 h2),an2 h2⟩)
  |tuple xs=>
   obtain⟨l,h1,h2⟩:=j6 hr;exact zeA (zid k h1) (Bool.and_eq_true_iff.mpr ⟨zfs ih (an1 h2),an2 h2⟩)
  |_=>exact ff hr
theorem zpf{cs:List (Str×D)}{f g:Addr->Option Obj}(k:∀a o,f a=some o->g a=some o)(h:zgc cs f=true):zgc cs g=true:=by
 refine Bool.and_eq_true_iff.mpr ⟨List.all_eq_true.mpr fun c hc=>?_,List.all_eq_true.mpr fun x hx=>?_⟩
 ·obtain⟨r,h1,h2⟩:=j6 (List.all_eq_true.mp (an1 h) c hc);obtain⟨v,rfl,h3⟩:=j6 h2;exact zeA (znq k h1) (zry k 5 v c.2 h3)
 ·obtain⟨r,h1,h2⟩:=j6 (List.all_eq_true.mp (an2 h) x hx);exact zeA (znq k h1) h2
noncomputable def zzj(cs:List (Str×D)):Hook:=⟨Bool,fun s=>zgc cs s.heap.get?,fun _=>true,fun _ h=>zgc cs h.get?=true,fun _ _ e=>e,fun _ _ _ e k=>zpf k e⟩
theorem zyn{h:Heap}{o:Obj}(ho:h.get? mainGlobals=some o):Frag.In [(mainGlobals,o)] h:=by
 intro a o' e;by_cases hq:a=mainGlobals
 ·subst hq;have e:some o=some o':=e
  (obtain rfl:=soI e;clear e);exact ho
 ·rw[List.lookup_cons,beq_eq_false_iff_ne.mpr hq] at e;exact nn e
theorem zvR{cs:List (Str×D)}{h:Heap}{mg:Str->Option Value}(Gm:h.Ns mainGlobals mg)(hs:zgc cs h.get?=true)(i:Nat)(x:Str)(d:D)(hi:cs[i]?=some (x,d)):
  ∃v,mg x=some v/\Rep (fun a=>∃o,h.get? a=some o) h v d:=by
 obtain⟨r,h1,h2⟩:=j6 (List.all_eq_true.mp (an1 hs) (x,d) (List.mem_of_getElem? hi));obtain⟨v,rfl,h3⟩:=j6 h2;obtain⟨o,ho,hv⟩:=ob h1;exact⟨v,mg_of (zyn ho) Gm hv,zru 5 v d h3⟩
theorem zwr{cs:List (Str×D)}{h:Heap}{mg:Str->Option Value}(Gm:h.Ns mainGlobals mg)(hs:zgc cs h.get?=true):∀x∈jt,mg x=none:=by
 intro x hx;obtain⟨r,h1,h2⟩:=j6 (List.all_eq_true.mp (an2 hs) x hx);cases r with
 |some=>exact ff h2
 |none=>
  obtain⟨o,ho,hv⟩:=ob h1;exact ns_none_of (zyn ho) Gm hv
end Mine
namespace Mine
open PySem
noncomputable abbrev zsX:PE:=(.comp [none,none,none,some 13] false (.tup (.cons (.lit (.int 0)) (.cons (.lit (.int 1)) .nil))) (.one 1) (.more (.lit (.bool true)) false (.tup (.cons (.lit (.int 0)) (.cons (.lit (.int 1)) .nil))) (.one 2) (.elt (.bin .gt (.bin .idx (.bin .idx (.var 3) (.var 2)) (.var 1)) (.lit (.int 0))) (.tup (.cons (.var 1) (.cons (.var 2) (.cons (.bin .eq (.bin .idx (.bin .idx (.var 3) (.var 2)) (.var 1)) (.lit (.int 2))) .nil)))))))
noncomputable abbrev jb2:PS:=(.seq (.assign (.one 13) (.tup (.cons (.bin .idx (.var 1) (.lit (.int 5))) (.cons (.bin .idx (.var 2) (.lit (.int 5))) .nil)))) (.seq (.assign (.one 14) zsX) (.seq (.assign (.many [15,16]) (.call 27 (.cons (.var 7) (.cons (.bin .idx (.var 1) (.lit (.int 3))) (.cons (.bin .idx (.var 2) (.lit (.int 3))) .nil))))) (.seq (.assign (.one 10) (.bin .add (.bin .add (.bin .add (.bin .add (.bin .add (.bin .add (.bin .add (.bin .add (.bin .add (.lit (.str ⟨#[103]⟩)) (.var 6)) (.lit (.str ⟨#[40]⟩))) (.var 6)) (.bin .idx (.var 1) (.lit (.int 0)))) (.var 6)) (.lit (.str ⟨#[44]⟩))) (.var 6)) (.bin .idx (.var 2) (.lit (.int 0)))) (.lit (.str ⟨#[41]⟩)))) (.seq (.assign (.one 11) (.bin .add (.bin .add (.bin .add (.bin .add (.lit (.str ⟨#[103,40]⟩)) (.bin .idx (.var 1) (.lit (.int 1)))) (.lit (.str ⟨#[44,32]⟩))) (.bin .idx (.var 2) (.lit (.int 1)))) (.lit (.str ⟨#[41]⟩)))) (.ret (.tup (.cons (.var 10) (.cons (.var 11) (.cons (.tup (.cons (.lit (.str ⟨#[99,97,108,108]⟩)) (.cons (.lit (.str ⟨#[103]⟩)) (.cons (.list (.cons (.bin .idx (.var 1) (.lit (.int 2))) (.cons (.bin .idx (.var 2) (.lit (.int 2))) .nil))) .nil)))) (.cons (.var 15) (.cons (.bin .add (.bin .add (.bin .idx (.var 1) (.lit (.int 4))) (.bin .idx (.var 2) (.lit (.int 4)))) (.var 16)) (.cons (.tup (.cons (.lit (.int 0)) (.cons (.lit (.int 0)) .nil))) (.cons (.bin .add (.bin .add (.bin .idx (.var 1) (.lit (.int 6))) (.bin .idx (.var 2) (.lit (.int 6)))) (.list (.cons (.tup (.cons (.lit (.str ⟨#[102]⟩)) (.cons (.lit (.str ⟨#[103]⟩)) (.cons (.var 14) .nil)))) .nil))) .nil))))))))))))))
noncomputable abbrev jb1:PS:=(.seq (.assign (.one 10) (.bin .add (.bin .add (.bin .add (.bin .add (.bin .add (.bin .add (.bin .add (.bin .add (.lit (.str ⟨#[105,102,32]⟩)) (.var 6)) (.var 8)) (.lit (.str ⟨#[32,116,104,101,110,32]⟩))) (.var 6)) (.bin .idx (.var 1) (.lit (.int 0)))) (.var 6)) (.lit (.str ⟨#[32,101,108,115,101,32]⟩))) (.bin .idx (.var 2) (.lit (.int 0))))) (.seq (.assign (.one 11) (.bin .add (.bin .add (.bin .add (.bin .add (.bin .add (.lit (.str ⟨#[105,102,32]⟩)) (.var 8)) (.lit (.str ⟨#[32,116,104,101,110,32]⟩))) (.bin .idx (.var 1) (.lit (.int 1)))) (.lit (.str ⟨#[32,101,108,115,101,32]⟩))) (.bin .idx (.var 2) (.lit (.int 1))))) (.seq (.assign (.one 12) (.tup (.cons (.bin .min (.bin .idx (.bin .idx (.var 1) (.lit (.int 5))) (.lit (.int 0))) (.bin .idx (.bin .idx (.var 2) (.lit (.int 5))) (.lit (.int 0)))) (.cons (.bin .min (.bin .idx (.bin .idx (.var 1) (.lit (.int 5))) (.lit (.int 1))) (.bin .idx (.bin .idx (.var 2) (.lit (.int 5))) (.lit (.int 1)))) .nil)))) (.ret (.tup (.cons (.var 10) (.cons (.var 11) (.cons (.tup (.cons (.lit (.str ⟨#[105,102]⟩)) (.cons (.var 8) (.cons (.bin .idx (.var 1) (.lit (.int 2))) (.cons (.bin .idx (.var 2) (.lit (.int 2))) .nil))))) (.cons (.bin .idx (.var 9) (.lit (.int 3))) (.cons (.bin .idx (.var 9) (.lit (.int 4))) (.cons (.var 12) (.cons (.bin .add (.bin .idx (.var 1) (.lit (.int 6))) (.bin .idx (.var 2) (.lit (.int 6)))) .nil))))))))))))
noncomputable abbrev pwB:PS:=(.seq (.app 6 (.call 3 (.cons (.var 3) (.cons (.bin .add (.var 5) (.lit (.int 1))) .nil)))) (.assign (.one 5) (.bin .add (.var 5) (.lit (.int 2)))))
noncomputable abbrev pwC:PE:=(.bin .eq (.call 1 (.cons (.var 3) (.cons (.var 5) .nil))) (.lit (.str ⟨#[44]⟩)))
noncomputable abbrev zoH:PS:=(.seq (.assign (.one 3) (.call 0 (.cons (.var 2) .nil))) (.seq (.ifs (.bin .eq (.var 3) (.list .nil)) .cont .skip) (.seq (.assign (.one 4) (.call 3 (.cons (.var 3) (.cons (.lit (.int 0)) .nil)))) (.seq (.assign (.one 5) (.call 2 (.cons (.var 3) (.cons (.lit (.int 1)) (.cons (.lit (.str ⟨#[40]⟩)) .nil))))) (.seq (.newl 6 (.cons (.call 3 (.cons (.var 3) (.cons (.var 5) .nil))) .nil)) (.seq (.assign (.one 5) (.bin .add (.var 5) (.lit (.int 1)))) (.seq (.whil pwC pwB) (.seq (.assign (.one 5) (.call 2 (.cons (.var 3) (.cons (.var 5) (.cons (.lit (.str ⟨#[41]⟩)) .nil))))) (.seq (.assign (.one 5) (.call 2 (.cons (.var 3) (.cons (.var 5) (.cons (.lit (.str ⟨#[61]⟩)) .nil))))) (.seq (.assign (.many [7,5]) (.call 4 (.cons (.var 3) (.cons (.var 5) .nil)))) (.seq (.ifs (.or_ (.bin .ne (.var 5) (.un .len (.var 3))) (.call 7 (.cons (.var 6) .nil))) .raise .skip) (.app 1 (.tup (.cons (.var 4) (.cons (.var 6) (.cons (.var 7) .nil))))))))))))))))
noncomputable abbrev us5:PS:=(.seq (.ifs (.bin .eq (.bin .idx (.var 6) (.lit (.int 0))) (.lit (.str ⟨#[110,97,109,101]⟩))) (.assign (.one 9) (.tup (.cons (.bin .mul (.bin .idx (.var 9) (.lit (.int 0))) (.bin .add (.lit (.int 1)) (.bin .idx (.var 2) (.lit (.int 0))))) (.cons (.bin .mul (.bin .idx (.var 9) (.lit (.int 1))) (.bin .add (.lit (.int 1)) (.bin .idx (.var 2) (.lit (.int 1))))) .nil)))) .skip) (.ret (.tup (.cons (.bin .add (.bin .add (.bin .add (.bin .add (.var 4) (.var 3)) (.lit (.str ⟨#[45]⟩))) (.var 3)) (.lit (.str ⟨#[49]⟩))) (.cons (.bin .add (.var 5) (.lit (.str ⟨#[32,45,32,49]⟩))) (.cons (.tup (.cons (.lit (.str ⟨#[112,114,101,100]⟩)) (.cons (.var 6) .nil))) (.cons (.bin .max (.bin .sub (.var 7) (.lit (.int 1))) (.lit (.int 0))) (.cons (.var 8) (.cons (.var 9) (.cons (.var 10) .nil))))))))))
noncomputable abbrev dI:PS:=(.ifs (.or_ (.un .isNone (.var 3)) (.bin .lt (.tup (.cons (.un .len (.bin .idx (.var 2) (.var 4))) (.cons (.bin .idx (.var 2) (.var 4)) .nil))) (.tup (.cons (.un .len (.var 3)) (.cons (.var 3) .nil))))) (.assign (.one 3) (.bin .idx (.var 2) (.var 4))) .skip)
noncomputable abbrev dC:PE:=(.and_ (.bin .eq (.bin .idx (.var 5) (.lit (.int 0))) (.bin .idx (.var 5) (.lit (.int 1)))) (.and_ (.bin .eq (.call 12 (.cons (.var 5) (.cons (.var 5) .nil))) (.var 5)) (.un .not (.call 15 (.cons (.var 5) .nil)))))
noncomputable abbrev dB:PS:=(.seq (.assign (.one 5) (.bin .idx (.var 1) (.var 4))) (.ifs dC dI .skip))
noncomputable abbrev aB:PS:=(.ifs (.bin .eq (.bin .idx (.bin .idx (.var 0) (.var 3)) (.lit (.int 0))) (.bin .idx (.bin .idx (.var 1) (.var 4)) (.lit (.int 1)))) (.seq (.assign (.one 5) (.call 12 (.cons (.bin .idx (.var 1) (.var 4)) (.cons (.bin .idx (.var 0) (.var 3)) .nil)))) (.ifs (.bin .nmem (.var 5) (.var 1)) (.seq (.app 1 (.var 5)) (.app 2 (.bin .add (.bin .idx (.var 2) (.var 4)) (.list (.cons (.var 3) .nil))))) .skip)) .skip)
noncomputable abbrev aW:PS:=(.seq (.forr (.one 3) true (.un .len (.var 0)) aB) (.assign (.one 4) (.bin .add (.var 4) (.lit (.int 1)))))
noncomputable abbrev tkS:PS:=(.ifs (.bin .mem (.bin .idx (.var 0) (.var 2)) (.glob 0)) (.whil (.and_ (.bin .lt (.var 3) (.un .len (.var 0))) (.bin .mem (.bin .idx (.var 0) (.var 3)) (.glob 0))) (.assign (.one 3) (.bin .add (.var 3) (.lit (.int 1))))) (.ifs (.bin .mem (.bin .idx (.var 0) (.var 2)) (.glob 1)) (.whil (.and_ (.bin .lt (.var 3) (.un .len (.var 0))) (.bin .mem (.bin .idx (.var 0) (.var 3)) (.glob 1))) (.assign (.one 3) (.bin .add (.var 3) (.lit (.int 1))))) .skip))
noncomputable abbrev stB:PS:=(.seq (.assign (.one 6) (.lit (.str ⟨#[112,114,101,100]⟩))) (.seq (.ifs (.bin .eq (.call 1 (.cons (.var 0) (.cons (.var 1) .nil))) (.lit (.str ⟨#[43]⟩))) (.assign (.one 6) (.lit (.str ⟨#[115,117,99,99]⟩))) .skip) (.seq (.assign (.one 1) (.call 2 (.cons (.var 0) (.cons (.bin .add (.var 1) (.lit (.int 1))) (.cons (.lit (.str ⟨#[49]⟩)) .nil))))) (.assign (.one 5) (.tup (.cons (.var 6) (.cons (.var 5) .nil)))))))
noncomputable abbrev us2:PS:=(.ifs (.and_ (.bin .gt (.var 0) (.lit (.int 1))) (.bin .eq (.bin .idx (.var 6) (.lit (.int 0))) (.lit (.str ⟨#[105,102]⟩)))) (.assign (.many [4,5]) (.tup (.cons (.bin .add (.bin .add (.lit (.str ⟨#[40]⟩)) (.var 4)) (.lit (.str ⟨#[41]⟩))) (.cons (.bin .add (.bin .add (.lit (.str ⟨#[40]⟩)) (.var 5)) (.lit (.str ⟨#[41]⟩))) .nil)))) .skip)
noncomputable abbrev bdN:PS:=(.forr (.one 4) true (.un .len (.var 1)) (.ifs (.bin .eq (.bin .idx (.var 0) (.lit (.int 1))) (.lit (.int 0))) (.put 3 (.var 4) (.bin .mem (.bin .idx (.var 1) (.var 4)) (.var 2))) (.ifs (.bin .mem (.bin .idx (.var 1) (.var 4)) (.var 2)) (.put 3 (.var 4) (.lit (.bool false))) .skip)))
noncomputable abbrev shB:PS:=(.assign (.one 1) (.bin .add (.bin .add (.bin .add (.bin .add (.bin .add (.bin .add (.var 1) (.var 2)) (.lit (.str ⟨#[40]⟩))) (.m1 .join (.lit (.str ⟨#[44,32]⟩)) (.var 3))) (.lit (.str ⟨#[41,32,61,32]⟩))) (.call 9 (.cons (.var 4) .nil))) (.lit (.str ⟨#[10]⟩))))
noncomputable abbrev nmE:PE:=(.and_ (.bin .eq (.bin .idx (.bin .idx (.var 0) (.lit (.int 1))) (.lit (.int 0))) (.lit (.str ⟨#[110,97,109,101]⟩))) (.bin .mem (.bin .idx (.bin .idx (.var 0) (.lit (.int 1))) (.lit (.int 1))) (.var 2)))
noncomputable abbrev bdR:PS:=(.put 3 (.var 4) (.or_ (.bin .idx (.var 5) (.var 4)) nmE))
noncomputable abbrev stT:PE:=(.bin .mem (.call 1 (.cons (.var 0) (.cons (.var 1) .nil))) (.list (.cons (.lit (.str ⟨#[43]⟩)) (.cons (.lit (.str ⟨#[45]⟩)) .nil))))
noncomputable abbrev agB:PS:=(.seq (.assign (.many [6,1]) (.call 4 (.cons (.var 0) (.cons (.bin .add (.var 1) (.lit (.int 1))) .nil)))) (.app 5 (.var 6)))
noncomputable abbrev zeC:PE:=(.and_ (.bin .gt (.un .len (.var 2)) (.lit (.int 1))) (.bin .eq (.bin .idx (.var 2) (.lit (.int 0))) (.lit (.str ⟨#[48]⟩))))
noncomputable abbrev agT:PE:=(.or_ (.bin .eq (.var 5) (.list .nil)) (.bin .eq (.call 1 (.cons (.var 0) (.cons (.var 1) .nil))) (.lit (.str ⟨#[44]⟩))))
noncomputable abbrev twB:PS:=(.ifs (.bin .mem (.bin .idx (.var 0) (.var 1)) (.bin .upto (.var 0) (.var 1))) (.ret (.lit (.bool true))) .skip)
noncomputable abbrev nuC:PE:=(.and_ (.bin .ne (.var 2) (.lit (.str ⟨#[]⟩))) (.bin .mem (.bin .idx (.var 2) (.lit (.int 0))) (.glob 1)))
noncomputable abbrev lkB:PS:=(.exp (.call 6 (.cons (.var 7) (.cons (.var 6) (.cons (.var 8) (.cons (.var 9) .nil))))))
noncomputable abbrev zpn:PS:=(.put 5 (.tup (.cons (.var 8) (.cons (.var 6) .nil))) (.bin .idx (.var 7) (.var 8)))
noncomputable def zfL:zL:=⟨1,7,false,(.seq (.newl 1 .nil) (.seq (.assign (.one 2) (.lit (.int 0))) (.seq (.whil (.bin .lt (.var 2) (.un .len (.var 0))) (.seq (.assign (.one 3) (.bin .add (.var 2) (.lit (.int 1)))) (.seq tkS (.seq (.ifs (.bin .ne (.bin .idx (.var 0) (.var 2)) (.lit (.str ⟨#[32]⟩))) (.app 1 (.tri .slice (.var 0) (.var 2) (.var 3))) .skip) (.assign (.one 2) (.var 3)))))) (.ret (.var 1)))))⟩
noncomputable def zeD:zL:=⟨2,3,false,(.seq (.ifs (.bin .lt (.var 1) (.un .len (.var 0))) (.ret (.bin .idx (.var 0) (.var 1))) .skip) (.ret (.lit (.str ⟨#[]⟩))))⟩
noncomputable def zgk:zL:=⟨3,5,false,(.seq (.ifs (.bin .ne (.call 1 (.cons (.var 0) (.cons (.var 1) .nil))) (.var 2)) .raise .skip) (.ret (.bin .add (.var 1) (.lit (.int 1)))))⟩
noncomputable def zg7:zL:=⟨2,7,false,(.seq (.assign (.one 2) (.call 1 (.cons (.var 0) (.cons (.var 1) .nil)))) (.seq (.ifs (.or_ (.bin .eq (.var 2) (.lit (.str ⟨#[]⟩))) (.or_ (.bin .nmem (.bin .idx (.var 2) (.lit (.int 0))) (.glob 0)) (.bin .mem (.var 2) (.glob 2)))) .raise .skip) (.ret (.var 2))))⟩
noncomputable def zke:zL:=⟨2,12,false,(.seq (.ifs (.bin .eq (.call 1 (.cons (.var 0) (.cons (.var 1) .nil))) (.lit (.str ⟨#[105,102]⟩))) (.seq (.assign (.one 2) (.call 3 (.cons (.var 0) (.cons (.bin .add (.var 1) (.lit (.int 1))) .nil)))) (.seq (.assign (.one 1) (.call 2 (.cons (.var 0) (.cons (.bin .add (.var 1) (.lit (.int 2))) (.cons (.lit (.str ⟨#[116,104,101,110]⟩)) .nil))))) (.seq (.assign (.many [3,1]) (.call 4 (.cons (.var 0) (.cons (.var 1) .nil)))) (.seq (.assign (.one 1) (.call 2 (.cons (.var 0) (.cons (.var 1) (.cons (.lit (.str ⟨#[101,108,115,101]⟩)) .nil))))) (.seq (.assign (.many [4,1]) (.call 4 (.cons (.var 0) (.cons (.var 1) .nil)))) (.ret (.tup (.cons (.tup (.cons (.lit (.str ⟨#[105,102]⟩)) (.cons (.var 2) (.cons (.var 3) (.cons (.var 4) .nil))))) (.cons (.var 1) .nil))))))))) .skip) (.seq (.assign (.many [5,1]) (.call 5 (.cons (.var 0) (.cons (.var 1) .nil)))) (.seq (.whil stT stB) (.ret (.tup (.cons (.var 5) (.cons (.var 1) .nil)))))))⟩
noncomputable def zku:zL:=⟨2,15,false,(.seq (.assign (.one 2) (.call 1 (.cons (.var 0) (.cons (.var 1) .nil)))) (.seq (.ifs (.bin .eq (.var 2) (.lit (.str ⟨#[40]⟩))) (.seq (.assign (.many [3,1]) (.call 4 (.cons (.var 0) (.cons (.bin .add (.var 1) (.lit (.int 1))) .nil)))) (.seq (.assign (.one 1) (.call 2 (.cons (.var 0) (.cons (.var 1) (.cons (.lit (.str ⟨#[41]⟩)) .nil))))) (.ret (.tup (.cons (.var 3) (.cons (.var 1) .nil)))))) .skip) (.seq (.ifs nuC (.seq (.ifs zeC .raise .skip) (.ret (.tup (.cons (.tup (.cons (.lit (.str ⟨#[110,117,109]⟩)) (.cons (.un .int (.var 2)) .nil))) (.cons (.bin .add (.var 1) (.lit (.int 1))) .nil))))) .skip) (.seq (.assign (.one 4) (.call 3 (.cons (.var 0) (.cons (.var 1) .nil)))) (.seq (.assign (.one 1) (.bin .add (.var 1) (.lit (.int 1)))) (.seq (.ifs (.bin .ne (.call 1 (.cons (.var 0) (.cons (.var 1) .nil))) (.lit (.str ⟨#[40]⟩))) (.ret (.tup (.cons (.tup (.cons (.lit (.str ⟨#[110,97,109,101]⟩)) (.cons (.var 4) .nil))) (.cons (.var 1) .nil)))) .skip) (.seq (.newl 5 .nil) (.seq (.whil agT agB) (.seq (.assign (.one 1) (.call 2 (.cons (.var 0) (.cons (.var 1) (.cons (.lit (.str ⟨#[41]⟩)) .nil))))) (.ret (.tup (.cons (.tup (.cons (.lit (.str ⟨#[99,97,108,108]⟩)) (.cons (.var 4) (.cons (.var 5) .nil)))) (.cons (.var 1) .nil)))))))))))))⟩
noncomputable def zbo:zL:=⟨4,8,false,(.seq (.ifs (.and_ (.bin .eq (.bin .idx (.var 0) (.lit (.int 0))) (.lit (.str ⟨#[110,97,109,101]⟩))) (.bin .nmem (.bin .idx (.var 0) (.lit (.int 1))) (.var 1))) .raise .skip) (.seq (.ifs (.or_ (.bin .eq (.bin .idx (.var 0) (.lit (.int 0))) (.lit (.str ⟨#[112,114,101,100]⟩))) (.bin .eq (.bin .idx (.var 0) (.lit (.int 0))) (.lit (.str ⟨#[115,117,99,99]⟩)))) (.exp (.call 6 (.cons (.bin .idx (.var 0) (.lit (.int 1))) (.cons (.var 1) (.cons (.var 2) (.cons (.var 3) .nil)))))) .skip) (.seq (.ifs (.bin .eq (.bin .idx (.var 0) (.lit (.int 0))) (.lit (.str ⟨#[105,102]⟩))) (.seq (.ifs (.bin .nmem (.bin .idx (.var 0) (.lit (.int 1))) (.var 1)) .raise .skip) (.seq (.exp (.call 6 (.cons (.bin .idx (.var 0) (.lit (.int 2))) (.cons (.var 1) (.cons (.var 2) (.cons (.var 3) .nil)))))) (.exp (.call 6 (.cons (.bin .idx (.var 0) (.lit (.int 3))) (.cons (.var 1) (.cons (.var 2) (.cons (.var 3) .nil)))))))) .skip) (.ifs (.bin .eq (.bin .idx (.var 0) (.lit (.int 0))) (.lit (.str ⟨#[99,97,108,108]⟩))) (.seq (.ifs (.or_ (.bin .nmem (.bin .idx (.var 0) (.lit (.int 1))) (.var 2)) (.bin .ne (.bin .idx (.var 3) (.m1 .index (.var 2) (.bin .idx (.var 0) (.lit (.int 1))))) (.un .len (.bin .idx (.var 0) (.lit (.int 2)))))) .raise .skip) (.forr (.one 4) false (.bin .idx (.var 0) (.lit (.int 2))) (.exp (.call 6 (.cons (.var 4) (.cons (.var 1) (.cons (.var 2) (.cons (.var 3) .nil)))))))) .skip))))⟩
noncomputable def ziv:zL:=⟨1,4,false,(.seq (.forr (.one 1) true (.un .len (.var 0)) twB) (.ret (.lit (.bool false))))⟩
noncomputable def zeF:zL:=⟨1,19,false,(.seq (.newl 1 .nil) (.seq (.forr (.one 2) false (.m1 .split (.var 0) (.lit (.str ⟨#[10]⟩))) zoH) (.seq (.assign (.one 8) (.comp [none,none] false (.var 1) (.one 1) (.elt (.lit (.bool true)) (.bin .idx (.var 1) (.lit (.int 0)))))) (.seq (.assign (.one 9) (.comp [none,none,none] false (.var 1) (.one 1) (.elt (.lit (.bool true)) (.un .len (.bin .idx (.var 1) (.lit (.int 1))))))) (.seq (.ifs (.or_ (.bin .eq (.var 1) (.list .nil)) (.call 7 (.cons (.var 8) .nil))) .raise .skip) (.seq (.forr (.many [4,6,7]) false (.var 1) lkB) (.ret (.var 1))))))))⟩
noncomputable def zkh:zL:=⟨1,4,false,(.seq (.ifs (.bin .eq (.bin .idx (.var 0) (.lit (.int 0))) (.lit (.str ⟨#[110,117,109]⟩))) (.ret (.un .str (.bin .idx (.var 0) (.lit (.int 1))))) .skip) (.seq (.ifs (.bin .eq (.bin .idx (.var 0) (.lit (.int 0))) (.lit (.str ⟨#[110,97,109,101]⟩))) (.ret (.bin .idx (.var 0) (.lit (.int 1)))) .skip) (.seq (.ifs (.or_ (.bin .eq (.bin .idx (.var 0) (.lit (.int 0))) (.lit (.str ⟨#[112,114,101,100]⟩))) (.bin .eq (.bin .idx (.var 0) (.lit (.int 0))) (.lit (.str ⟨#[115,117,99,99]⟩)))) (.seq (.assign (.one 1) (.call 9 (.cons (.bin .idx (.var 0) (.lit (.int 1))) .nil))) (.seq (.ifs (.bin .eq (.bin .idx (.bin .idx (.var 0) (.lit (.int 1))) (.lit (.int 0))) (.lit (.str ⟨#[105,102]⟩))) (.assign (.one 1) (.bin .add (.bin .add (.lit (.str ⟨#[40]⟩)) (.var 1)) (.lit (.str ⟨#[41]⟩)))) .skip) (.seq (.ifs (.bin .eq (.bin .idx (.var 0) (.lit (.int 0))) (.lit (.str ⟨#[112,114,101,100]⟩))) (.ret (.bin .add (.var 1) (.lit (.str ⟨#[32,45,32,49]⟩)))) .skip) (.ret (.bin .add (.var 1) (.lit (.str ⟨#[32,43,32,49]⟩))))))) .skip) (.seq (.ifs (.bin .eq (.bin .idx (.var 0) (.lit (.int 0))) (.lit (.str ⟨#[105,102]⟩))) (.ret (.bin .add (.bin .add (.bin .add (.bin .add (.bin .add (.lit (.str ⟨#[105,102,32]⟩)) (.bin .idx (.var 0) (.lit (.int 1)))) (.lit (.str ⟨#[32,116,104,101,110,32]⟩))) (.call 9 (.cons (.bin .idx (.var 0) (.lit (.int 2))) .nil))) (.lit (.str ⟨#[32,101,108,115,101,32]⟩))) (.call 9 (.cons (.bin .idx (.var 0) (.lit (.int 3))) .nil)))) .skip) (.ret (.bin .add (.bin .add (.bin .add (.bin .idx (.var 0) (.lit (.int 1))) (.lit (.str ⟨#[40]⟩))) (.m1 .join (.lit (.str ⟨#[44,32]⟩)) (.comp [none,none,none] false (.bin .idx (.var 0) (.lit (.int 2))) (.one 1) (.elt (.lit (.bool true)) (.call 9 (.cons (.var 1) .nil)))))) (.lit (.str ⟨#[41]⟩))))))))⟩
noncomputable def zn6:zL:=⟨1,6,false,(.seq (.assign (.one 1) (.lit (.str ⟨#[]⟩))) (.seq (.forr (.many [2,3,4]) false (.var 0) shB) (.ret (.var 1))))⟩
noncomputable def zfZ:zL:=⟨1,4,false,(.seq (.newl 1 .nil) (.seq (.forr (.one 2) false (.un .keys (.var 0)) (.app 1 (.tup (.cons (.bin .idx (.var 2) (.lit (.int 0))) (.cons (.bin .idx (.var 2) (.lit (.int 1))) (.cons (.bin .idx (.var 0) (.var 2)) .nil)))))) (.ret (.var 1))))⟩
noncomputable def zfP:zL:=⟨2,11,false,(.seq (.ifs (.bin .ne (.bin .idx (.var 0) (.lit (.int 1))) (.bin .idx (.var 1) (.lit (.int 0)))) .raise .skip) (.seq (.newd 2) (.seq (.forr (.many [3,4,5]) false (.bin .idx (.var 0) (.lit (.int 2))) (.forr (.many [6,7,8]) false (.bin .idx (.var 1) (.lit (.int 2))) (.ifs (.bin .eq (.var 6) (.var 4)) (.put 2 (.tup (.cons (.var 3) (.cons (.var 7) .nil))) (.or_ (.m2 .get (.var 2) (.tup (.cons (.var 3) (.cons (.var 7) .nil))) (.lit (.bool false))) (.or_ (.var 5) (.var 8)))) .skip))) (.ret (.tup (.cons (.bin .idx (.var 0) (.lit (.int 0))) (.cons (.bin .idx (.var 1) (.lit (.int 1))) (.cons (.call 11 (.cons (.var 2) .nil)) .nil))))))))⟩
noncomputable def zbk:zL:=⟨2,7,false,(.seq (.ifs (.bin .eq (.var 1) (.list .nil)) .raise .skip) (.seq (.forr (.one 2) false (.var 1) (.ifs (.or_ (.bin .lt (.var 2) (.lit (.int 0))) (.bin .ge (.var 2) (.un .len (.var 0)))) .raise .skip)) (.seq (.assign (.one 3) (.bin .idx (.var 0) (.bin .idx (.var 1) (.lit (.int 0))))) (.seq (.forr (.one 2) false (.bin .from_ (.var 1) (.lit (.int 1))) (.assign (.one 3) (.call 12 (.cons (.var 3) (.cons (.bin .idx (.var 0) (.var 2)) .nil))))) (.ret (.var 3))))))⟩
noncomputable def zjh:zL:=⟨1,9,false,(.seq (.newl 1 .nil) (.seq (.newl 2 .nil) (.seq (.forr (.one 3) true (.un .len (.var 0)) (.ifs (.bin .nmem (.bin .idx (.var 0) (.var 3)) (.var 1)) (.seq (.app 1 (.bin .idx (.var 0) (.var 3))) (.app 2 (.list (.cons (.var 3) .nil)))) .skip)) (.seq (.assign (.one 4) (.lit (.int 0))) (.seq (.whil (.bin .lt (.var 4) (.un .len (.var 1))) aW) (.ret (.tup (.cons (.var 1) (.cons (.var 2) .nil)))))))))⟩
noncomputable def zjy:zL:=⟨1,4,false,(.seq (.forr (.many [1,2,3]) false (.bin .idx (.var 0) (.lit (.int 2))) (.ifs (.and_ (.bin .eq (.var 1) (.var 2)) (.var 3)) (.ret (.lit (.bool true))) .skip)) (.ret (.lit (.bool false))))⟩
noncomputable def zfe:zL:=⟨1,11,false,(.seq (.assign (.many [1,2]) (.call 14 (.cons (.var 0) .nil))) (.seq (.assign (.one 3) (.lit .none)) (.seq (.forr (.one 4) true (.un .len (.var 1)) dB) (.ret (.var 3)))))⟩
noncomputable def ziS:zL:=⟨1,2,false,(.ret (.un .isNone (.call 16 (.cons (.var 0) .nil))))⟩
noncomputable def zhp:zL:=⟨3,11,false,(.seq (.newd 3) (.seq (.ifs (.bin .eq (.bin .idx (.var 0) (.lit (.int 0))) (.lit (.str ⟨#[110,97,109,101]⟩))) (.put 3 (.m1 .index (.var 1) (.bin .idx (.var 0) (.lit (.int 1)))) (.lit (.bool false))) (.ifs (.and_ (.bin .eq (.bin .idx (.var 0) (.lit (.int 0))) (.lit (.str ⟨#[110,117,109]⟩))) (.bin .lt (.bin .idx (.var 0) (.lit (.int 1))) (.lit (.int 2)))) bdN (.ifs (.bin .eq (.bin .idx (.var 0) (.lit (.int 0))) (.lit (.str ⟨#[112,114,101,100]⟩))) (.seq (.assign (.one 5) (.call 18 (.cons (.bin .idx (.var 0) (.lit (.int 1))) (.cons (.var 1) (.cons (.var 2) .nil))))) (.forr (.one 4) false (.var 5) bdR)) (.ifs (.bin .eq (.bin .idx (.var 0) (.lit (.int 0))) (.lit (.str ⟨#[115,117,99,99]⟩))) (.seq (.assign (.one 5) (.call 18 (.cons (.bin .idx (.var 0) (.lit (.int 1))) (.cons (.var 1) (.cons (.var 2) .nil))))) (.forr (.one 4) false (.var 5) (.ifs (.bin .idx (.var 5) (.var 4)) (.put 3 (.var 4) (.lit (.bool false))) .skip))) (.ifs (.bin .eq (.bin .idx (.var 0) (.lit (.int 0))) (.lit (.str ⟨#[105,102]⟩))) (.seq (.assign (.one 6) (.call 18 (.cons (.bin .idx (.var 0) (.lit (.int 2))) (.cons (.var 1) (.cons (.var 2) .nil))))) (.seq (.assign (.one 7) (.call 18 (.cons (.bin .idx (.var 0) (.lit (.int 3))) (.cons (.var 1) (.cons (.bin .add (.var 2) (.list (.cons (.bin .idx (.var 0) (.lit (.int 1))) .nil))) .nil))))) (.forr (.one 4) false (.var 6) (.ifs (.bin .mem (.var 4) (.var 7)) (.put 3 (.var 4) (.and_ (.bin .idx (.var 6) (.var 4)) (.bin .idx (.var 7) (.var 4)))) .skip)))) .skip))))) (.ret (.var 3))))⟩
noncomputable def za0:zL:=⟨5,15,true,(.ifs (.or_ (.bin .eq (.bin .idx (.var 2) (.lit (.int 0))) (.lit (.str ⟨#[112,114,101,100]⟩))) (.bin .eq (.bin .idx (.var 2) (.lit (.int 0))) (.lit (.str ⟨#[115,117,99,99]⟩)))) (.io 19 (.cons (.var 0) (.cons (.var 1) (.cons (.bin .idx (.var 2) (.lit (.int 1))) (.cons (.var 3) .nil)))) 4) (.ifs (.bin .eq (.bin .idx (.var 2) (.lit (.int 0))) (.lit (.str ⟨#[105,102]⟩))) (.seq (.io 19 (.cons (.var 0) (.cons (.var 1) (.cons (.bin .idx (.var 2) (.lit (.int 2))) (.cons (.var 3) .nil)))) 4) (.io 19 (.cons (.var 0) (.cons (.var 1) (.cons (.bin .idx (.var 2) (.lit (.int 3))) (.cons (.bin .add (.var 3) (.list (.cons (.bin .idx (.var 2) (.lit (.int 1))) .nil))) .nil)))) 4)) (.ifs (.bin .eq (.bin .idx (.var 2) (.lit (.int 0))) (.lit (.str ⟨#[99,97,108,108]⟩))) (.seq (.newd 5) (.seq (.forr (.one 6) true (.un .len (.bin .idx (.var 2) (.lit (.int 2)))) (.seq (.io 19 (.cons (.var 0) (.cons (.var 1) (.cons (.bin .idx (.bin .idx (.var 2) (.lit (.int 2))) (.var 6)) (.cons (.var 3) .nil)))) 4) (.seq (.assign (.one 7) (.call 18 (.cons (.bin .idx (.bin .idx (.var 2) (.lit (.int 2))) (.var 6)) (.cons (.var 1) (.cons (.var 3) .nil))))) (.forr (.one 8) false (.var 7) zpn)))) (.seq (.assign (.one 9) (.tup (.cons (.var 0) (.cons (.bin .idx (.var 2) (.lit (.int 1))) (.cons (.call 11 (.cons (.var 5) .nil)) .nil))))) (.ifs (.bin .nmem (.var 9) (.var 4)) (.app 4 (.var 9)) .skip)))) .skip)))⟩
noncomputable def zgp:zL:=⟨1,6,false,(.seq (.newl 1 .nil) (.seq (.forr (.many [2,3,4]) false (.var 0) (.io 19 (.cons (.var 2) (.cons (.var 3) (.cons (.var 4) (.cons (.list .nil) .nil)))) 1)) (.ret (.var 1))))⟩
noncomputable def znx:zL:=⟨1,3,false,(.ret (.call 17 (.cons (.call 20 (.cons (.var 0) .nil)) .nil)))⟩
noncomputable def ze6:zL:=⟨4,11,false,(.seq (.ifs (.bin .le (.var 3) (.lit (.int 0))) (.ret (.tup (.cons (.lit .none) (.cons (.lit (.int 0)) .nil)))) .skip) (.seq (.assign (.many [4,5]) (.bin .idx (.var 0) (.var 1))) (.seq (.newd 6) (.seq (.forr (.one 7) true (.un .len (.var 4)) (.put 6 (.bin .idx (.var 4) (.var 7)) (.bin .idx (.var 2) (.var 7)))) (.ret (.call 23 (.cons (.var 0) (.cons (.var 5) (.cons (.var 6) (.cons (.bin .sub (.var 3) (.lit (.int 1))) .nil))))))))))⟩
noncomputable def zij:zL:=⟨4,10,false,(.seq (.ifs (.bin .eq (.bin .idx (.var 1) (.lit (.int 0))) (.lit (.str ⟨#[110,117,109]⟩))) (.ret (.tup (.cons (.bin .idx (.var 1) (.lit (.int 1))) (.cons (.var 3) .nil)))) .skip) (.seq (.ifs (.bin .eq (.bin .idx (.var 1) (.lit (.int 0))) (.lit (.str ⟨#[110,97,109,101]⟩))) (.ret (.tup (.cons (.bin .idx (.var 2) (.bin .idx (.var 1) (.lit (.int 1)))) (.cons (.var 3) .nil)))) .skip) (.seq (.ifs (.or_ (.bin .eq (.bin .idx (.var 1) (.lit (.int 0))) (.lit (.str ⟨#[112,114,101,100]⟩))) (.bin .eq (.bin .idx (.var 1) (.lit (.int 0))) (.lit (.str ⟨#[115,117,99,99]⟩)))) (.seq (.assign (.many [4,3]) (.call 23 (.cons (.var 0) (.cons (.bin .idx (.var 1) (.lit (.int 1))) (.cons (.var 2) (.cons (.var 3) .nil)))))) (.seq (.ifs (.un .isNone (.var 4)) (.ret (.tup (.cons (.lit .none) (.cons (.lit (.int 0)) .nil)))) .skip) (.seq (.ifs (.bin .eq (.bin .idx (.var 1) (.lit (.int 0))) (.lit (.str ⟨#[115,117,99,99]⟩))) (.ret (.tup (.cons (.bin .add (.var 4) (.lit (.int 1))) (.cons (.var 3) .nil)))) .skip) (.ret (.tup (.cons (.bin .max (.lit (.int 0)) (.bin .sub (.var 4) (.lit (.int 1)))) (.cons (.var 3) .nil))))))) .skip) (.seq (.ifs (.bin .eq (.bin .idx (.var 1) (.lit (.int 0))) (.lit (.str ⟨#[105,102]⟩))) (.seq (.ifs (.bin .eq (.bin .idx (.var 2) (.bin .idx (.var 1) (.lit (.int 1)))) (.lit (.int 0))) (.ret (.call 23 (.cons (.var 0) (.cons (.bin .idx (.var 1) (.lit (.int 2))) (.cons (.var 2) (.cons (.var 3) .nil)))))) .skip) (.ret (.call 23 (.cons (.var 0) (.cons (.bin .idx (.var 1) (.lit (.int 3))) (.cons (.var 2) (.cons (.var 3) .nil))))))) .skip) (.seq (.newl 5 .nil) (.seq (.forr (.one 6) false (.bin .idx (.var 1) (.lit (.int 2))) (.seq (.assign (.many [4,3]) (.call 23 (.cons (.var 0) (.cons (.var 6) (.cons (.var 2) (.cons (.var 3) .nil)))))) (.seq (.ifs (.un .isNone (.var 4)) (.ret (.tup (.cons (.lit .none) (.cons (.lit (.int 0)) .nil)))) .skip) (.app 5 (.var 4))))) (.ret (.call 22 (.cons (.var 0) (.cons (.bin .idx (.var 1) (.lit (.int 1))) (.cons (.var 5) (.cons (.var 3) .nil))))))))))))⟩
noncomputable def zpl:zL:=⟨4,9,false,(.seq (.newd 4) (.seq (.forr (.many [5,6,7]) false (.var 0) (.put 4 (.var 5) (.tup (.cons (.var 6) (.cons (.var 7) .nil))))) (.ret (.bin .idx (.call 22 (.cons (.var 4) (.cons (.var 1) (.cons (.var 2) (.cons (.var 3) .nil))))) (.lit (.int 0))))))⟩
noncomputable def zd9:zL:=⟨3,7,false,(.seq (.ifs (.bin .lt (.var 0) (.lit (.int 2))) (.seq (.assign (.one 3) (.bin .idx (.bin .idx (.var 1) (.lit (.int 0))) (.var 0))) (.ret (.tup (.cons (.var 3) (.cons (.var 3) (.cons (.tup (.cons (.lit (.str ⟨#[110,97,109,101]⟩)) (.cons (.var 3) .nil))) (.cons (.bin .idx (.bin .idx (.var 1) (.lit (.int 1))) (.var 0)) (.cons (.lit (.int 0)) (.cons (.tup (.cons (.bin .sub (.lit (.int 1)) (.var 0)) (.cons (.var 0) .nil))) (.cons (.list .nil) .nil)))))))))) .skip) (.seq (.assign (.one 4) (.bin .idx (.tup (.cons (.lit (.int 0)) (.cons (.lit (.int 1)) (.cons (.lit (.int 2)) (.cons (.lit (.int 10)) .nil))))) (.bin .sub (.var 0) (.lit (.int 2))))) (.seq (.assign (.one 5) (.tup (.cons (.lit (.int 0)) (.cons (.lit (.int 0)) .nil)))) (.seq (.ifs (.bin .eq (.var 4) (.lit (.int 0))) (.assign (.one 5) (.tup (.cons (.bin .add (.bin .idx (.var 2) (.lit (.int 0))) (.lit (.int 1))) (.cons (.bin .add (.bin .idx (.var 2) (.lit (.int 1))) (.lit (.int 1))) .nil)))) .skip) (.seq (.ifs (.bin .eq (.var 4) (.lit (.int 1))) (.assign (.one 5) (.var 2)) .skip) (.ret (.tup (.cons (.un .str (.var 4)) (.cons (.un .str (.var 4)) (.cons (.tup (.cons (.lit (.str ⟨#[110,117,109]⟩)) (.cons (.var 4) .nil))) (.cons (.var 4) (.cons (.lit (.int 0)) (.cons (.var 5) (.cons (.list .nil) .nil))))))))))))))⟩
noncomputable def zdc:zL:=⟨4,12,false,(.seq (.assign (.many [4,5,6,7,8,9,10]) (.var 1)) (.seq us2 (.seq (.ifs (.or_ (.bin .eq (.var 0) (.lit (.int 1))) (.bin .eq (.var 0) (.lit (.int 4)))) (.assign (.one 4) (.bin .add (.bin .add (.bin .add (.bin .add (.lit (.str ⟨#[40]⟩)) (.var 3)) (.var 4)) (.var 3)) (.lit (.str ⟨#[41]⟩)))) .skip) (.seq (.ifs (.bin .eq (.var 0) (.lit (.int 2))) (.ret (.tup (.cons (.bin .add (.bin .add (.bin .add (.bin .add (.var 4) (.var 3)) (.lit (.str ⟨#[43]⟩))) (.var 3)) (.lit (.str ⟨#[49]⟩))) (.cons (.bin .add (.var 5) (.lit (.str ⟨#[32,43,32,49]⟩))) (.cons (.tup (.cons (.lit (.str ⟨#[115,117,99,99]⟩)) (.cons (.var 6) .nil))) (.cons (.bin .add (.var 7) (.lit (.int 1))) (.cons (.var 8) (.cons (.tup (.cons (.bin .max (.bin .sub (.bin .idx (.var 9) (.lit (.int 0))) (.lit (.int 1))) (.lit (.int 0))) (.cons (.bin .max (.bin .sub (.bin .idx (.var 9) (.lit (.int 1))) (.lit (.int 1))) (.lit (.int 0))) .nil))) (.cons (.var 10) .nil))))))))) .skip) (.seq (.ifs (.bin .gt (.var 0) (.lit (.int 2))) us5 .skip) (.ret (.tup (.cons (.var 4) (.cons (.var 5) (.cons (.var 6) (.cons (.var 7) (.cons (.var 8) (.cons (.var 9) (.cons (.var 10) .nil))))))))))))))⟩
noncomputable def zb0:zL:=⟨3,3,false,(.seq (.ifs (.bin .eq (.bin .mod (.var 0) (.lit (.int 2))) (.lit (.int 0))) (.ret (.tup (.cons (.bin .add (.var 1) (.var 2)) (.cons (.bin .add (.var 1) (.lit (.int 1))) .nil)))) .skip) (.seq (.ifs (.bin .le (.var 1) (.var 2)) (.ret (.tup (.cons (.bin .sub (.var 2) (.var 1)) (.cons (.bin .add (.bin .mul (.lit (.int 2)) (.var 1)) (.lit (.int 1))) .nil)))) .skip) (.ret (.tup (.cons (.bin .sub (.bin .sub (.var 1) (.var 2)) (.lit (.int 1))) (.cons (.bin .add (.bin .mul (.lit (.int 2)) (.var 2)) (.lit (.int 2))) .nil))))))⟩
noncomputable def zd1:zL:=⟨4,19,false,(.seq (.assign (.many [4,5,6,7]) (.var 3)) (.seq (.ifs (.bin .lt (.var 0) (.lit (.int 2))) (.seq (.assign (.one 8) (.bin .idx (.var 4) (.var 0))) (.seq (.assign (.one 9) (.var 2)) (.seq (.ifs (.bin .eq (.bin .idx (.var 5) (.var 0)) (.lit (.int 0))) (.assign (.one 9) (.var 1)) .skip) jb1))) .skip) (.seq (.ifs (.bin .lt (.var 0) (.lit (.int 4))) jb2 .skip) (.ret (.var 1)))))⟩
noncomputable def kY:zL:=⟨2,2,false,(.seq (.ifs (.bin .eq (.var 0) (.lit (.int 0))) (.ret (.tup (.cons (.lit (.int 1)) (.cons (.bin .idx (.var 1) (.lit (.int 1))) .nil)))) .skip) (.seq (.ifs (.bin .eq (.var 0) (.lit (.int 1))) (.ret (.tup (.cons (.bin .idx (.var 1) (.lit (.int 0))) (.cons (.lit (.int 1)) .nil)))) .skip) (.ret (.var 1))))⟩
noncomputable def zbM:zL:=⟨3,10,false,(.seq (.assign (.one 3) (.call 26 (.cons (.bin .idx (.var 0) (.lit (.int 2))) (.cons (.call 25 (.cons (.bin .idx (.var 0) (.lit (.int 1))) (.cons (.var 2) (.cons (.var 1) .nil)))) (.cons (.var 1) (.cons (.bin .idx (.var 2) (.lit (.int 2))) .nil)))))) (.seq (.assign (.one 4) (.call 29 (.cons (.bin .idx (.var 0) (.lit (.int 0))) (.cons (.var 1) .nil)))) (.seq (.assign (.one 5) (.call 26 (.cons (.bin .idx (.var 0) (.lit (.int 4))) (.cons (.call 25 (.cons (.bin .idx (.var 0) (.lit (.int 3))) (.cons (.var 2) (.cons (.var 4) .nil)))) (.cons (.var 4) (.cons (.bin .idx (.var 2) (.lit (.int 2))) .nil)))))) (.ret (.call 26 (.cons (.bin .idx (.var 0) (.lit (.int 5))) (.cons (.call 28 (.cons (.bin .idx (.var 0) (.lit (.int 0))) (.cons (.var 3) (.cons (.var 5) (.cons (.var 2) .nil))))) (.cons (.var 1) (.cons (.bin .idx (.var 2) (.lit (.int 2))) .nil)))))))))⟩
noncomputable def ziK:zL:=⟨2,13,false,(.seq (.assign (.many [2,3,4]) (.tup (.cons (.lit (.str ⟨#[120,32,45,32,49]⟩)) (.cons (.tup (.cons (.lit (.str ⟨#[112,114,101,100]⟩)) (.cons (.tup (.cons (.lit (.str ⟨#[110,97,109,101]⟩)) (.cons (.lit (.str ⟨#[120]⟩)) .nil))) .nil))) (.cons (.lit (.bool true)) .nil))))) (.seq (.ifs (.bin .gt (.var 0) (.lit (.int 1))) (.assign (.many [2,3,4]) (.tup (.cons (.lit (.str ⟨#[120,32,45,32,49,32,43,32,49,32,45,32,49]⟩)) (.cons (.tup (.cons (.lit (.str ⟨#[112,114,101,100]⟩)) (.cons (.tup (.cons (.lit (.str ⟨#[115,117,99,99]⟩)) (.cons (.var 3) .nil))) .nil))) (.cons (.lit (.bool false)) .nil))))) .skip) (.seq (.assign (.many [5,6,7]) (.tup (.cons (.bin .add (.bin .add (.lit (.str ⟨#[103,40]⟩)) (.var 2)) (.lit (.str ⟨#[44,32,121,41,32,43,32,49]⟩))) (.cons (.tup (.cons (.lit (.str ⟨#[115,117,99,99]⟩)) (.cons (.tup (.cons (.lit (.str ⟨#[99,97,108,108]⟩)) (.cons (.lit (.str ⟨#[103]⟩)) (.cons (.list (.cons (.var 3) (.cons (.tup (.cons (.lit (.str ⟨#[110,97,109,101]⟩)) (.cons (.lit (.str ⟨#[121]⟩)) .nil))) .nil))) .nil)))) .nil))) (.cons (.list (.cons (.tup (.cons (.lit (.int 0)) (.cons (.lit (.int 0)) (.cons (.var 4) .nil)))) (.cons (.tup (.cons (.lit (.int 1)) (.cons (.lit (.int 1)) (.cons (.lit (.bool false)) .nil)))) .nil))) .nil))))) (.seq (.ifs (.bin .eq (.bin .mod (.var 0) (.lit (.int 2))) (.lit (.int 1))) (.assign (.many [5,6,7]) (.tup (.cons (.bin .add (.bin .add (.lit (.str ⟨#[103,40,121,44,32]⟩)) (.var 2)) (.lit (.str ⟨#[41]⟩))) (.cons (.tup (.cons (.lit (.str ⟨#[99,97,108,108]⟩)) (.cons (.lit (.str ⟨#[103]⟩)) (.cons (.list (.cons (.tup (.cons (.lit (.str ⟨#[110,97,109,101]⟩)) (.cons (.lit (.str ⟨#[121]⟩)) .nil))) (.cons (.var 3) .nil))) .nil)))) (.cons (.list (.cons (.tup (.cons (.lit (.int 0)) (.cons (.lit (.int 1)) (.cons (.var 4) .nil)))) (.cons (.tup (.cons (.lit (.int 1)) (.cons (.lit (.int 0)) (.cons (.lit (.bool false)) .nil)))) .nil))) .nil))))) .skip) (.seq (.assign (.many [8,9,10]) (.tup (.cons (.lit (.str ⟨#[105,102,32,97,32,116,104,101,110,32,48,32,101,108,115,101,32,104,40,97,32,45,32,49,41]⟩)) (.cons (.tup (.cons (.lit (.str ⟨#[105,102]⟩)) (.cons (.lit (.str ⟨#[97]⟩)) (.cons (.tup (.cons (.lit (.str ⟨#[110,117,109]⟩)) (.cons (.lit (.int 0)) .nil))) (.cons (.tup (.cons (.lit (.str ⟨#[99,97,108,108]⟩)) (.cons (.lit (.str ⟨#[104]⟩)) (.cons (.list (.cons (.tup (.cons (.lit (.str ⟨#[112,114,101,100]⟩)) (.cons (.tup (.cons (.lit (.str ⟨#[110,97,109,101]⟩)) (.cons (.lit (.str ⟨#[97]⟩)) .nil))) .nil))) .nil)) .nil)))) .nil))))) (.cons (.lit (.bool true)) .nil))))) (.seq (.ifs (.bin .eq (.var 1) (.lit (.int 1))) (.assign (.many [8,9,10]) (.tup (.cons (.lit (.str ⟨#[104,40,97,41]⟩)) (.cons (.tup (.cons (.lit (.str ⟨#[99,97,108,108]⟩)) (.cons (.lit (.str ⟨#[104]⟩)) (.cons (.list (.cons (.tup (.cons (.lit (.str ⟨#[110,97,109,101]⟩)) (.cons (.lit (.str ⟨#[97]⟩)) .nil))) .nil)) .nil)))) (.cons (.lit (.bool false)) .nil))))) .skip) (.seq (.newl 11 (.cons (.bin .add (.lit (.str ⟨#[103,40,120,44,32,121,41,32,61,32,105,102,32,120,32,116,104,101,110,32,121,32,101,108,115,101,32]⟩)) (.var 5)) (.cons (.bin .add (.lit (.str ⟨#[104,40,97,41,32,61,32]⟩)) (.var 8)) .nil))) (.seq (.newl 12 (.cons (.tup (.cons (.lit (.str ⟨#[103]⟩)) (.cons (.list (.cons (.lit (.str ⟨#[120]⟩)) (.cons (.lit (.str ⟨#[121]⟩)) .nil))) (.cons (.tup (.cons (.lit (.str ⟨#[105,102]⟩)) (.cons (.lit (.str ⟨#[120]⟩)) (.cons (.tup (.cons (.lit (.str ⟨#[110,97,109,101]⟩)) (.cons (.lit (.str ⟨#[121]⟩)) .nil))) (.cons (.var 6) .nil))))) .nil)))) (.cons (.tup (.cons (.lit (.str ⟨#[104]⟩)) (.cons (.list (.cons (.lit (.str ⟨#[97]⟩)) .nil)) (.cons (.var 9) .nil)))) .nil))) (.ret (.tup (.cons (.var 11) (.cons (.var 12) (.cons (.list (.cons (.tup (.cons (.lit (.str ⟨#[103]⟩)) (.cons (.lit (.str ⟨#[103]⟩)) (.cons (.var 7) .nil)))) (.cons (.tup (.cons (.lit (.str ⟨#[104]⟩)) (.cons (.lit (.str ⟨#[104]⟩)) (.cons (.list (.cons (.tup (.cons (.lit (.int 0)) (.cons (.lit (.int 0)) (.cons (.var 10) .nil)))) .nil)) .nil)))) .nil))) .nil)))))))))))))⟩
noncomputable def zcq:zL:=⟨4,7,false,(.seq (.ifs (.bin .lt (.var 0) (.lit (.int 3))) (.ret (.bin .add (.bin .add (.bin .idx (.bin .idx (.glob 4) (.var 0)) (.bin .mod (.var 1) (.lit (.int 9)))) (.lit (.str ⟨#[10]⟩))) (.var 3))) .skip) (.seq (.ifs (.bin .eq (.var 0) (.lit (.int 3))) (.seq (.assign (.one 4) (.bin .mod (.var 1) (.un .len (.var 2)))) (.ret (.bin .add (.bin .add (.bin .add (.bin .add (.bin .upto (.var 2) (.var 4)) (.lit (.str ⟨#[63]⟩))) (.bin .from_ (.var 2) (.var 4))) (.lit (.str ⟨#[10]⟩))) (.var 3)))) .skip) (.ret (.lit (.str ⟨#[32,10,10]⟩)))))⟩
noncomputable def zcx:zL:=⟨1,52,false,(.seq (.ifs (.bin .lt (.un .len (.var 0)) (.lit (.int 22))) (.ret (.lit (.bool true))) .skip) (.seq (.assign (.many [1,2]) (.tup (.cons (.bin .mod (.bin .idx (.var 0) (.lit (.int 0))) (.lit (.int 4))) (.cons (.bin .mod (.bin .idx (.var 0) (.lit (.int 1))) (.lit (.int 2))) .nil)))) (.seq (.assign (.one 3) (.bin .idx (.tup (.cons (.lit (.str ⟨#[]⟩)) (.cons (.lit (.str ⟨#[32]⟩)) (.cons (.lit (.str ⟨#[32,32]⟩)) .nil)))) (.bin .mod (.bin .idx (.var 0) (.lit (.int 5))) (.lit (.int 3))))) (.seq (.assign (.one 4) (.tup (.cons (.bin .idx (.glob 3) (.bin .mod (.bin .idx (.var 0) (.lit (.int 2))) (.lit (.int 3)))) (.cons (.tup (.cons (.bin .mod (.bin .idx (.var 0) (.lit (.int 3))) (.lit (.int 4))) (.cons (.bin .mod (.bin .idx (.var 0) (.lit (.int 4))) (.lit (.int 4))) .nil))) (.cons (.var 3) (.cons (.var 1) .nil)))))) (.seq (.assign (.one 5) (.bin .mod (.bin .idx (.var 0) (.lit (.int 6))) (.lit (.int 5)))) (.seq (.assign (.one 6) (.call 30 (.cons (.tup (.cons (.bin .mod (.bin .idx (.var 0) (.lit (.int 7))) (.lit (.int 6))) (.cons (.bin .mod (.bin .idx (.var 0) (.lit (.int 8))) (.lit (.int 6))) (.cons (.bin .mod (.bin .idx (.var 0) (.lit (.int 9))) (.lit (.int 5))) (.cons (.bin .mod (.bin .idx (.var 0) (.lit (.int 10))) (.lit (.int 6))) (.cons (.bin .mod (.bin .idx (.var 0) (.lit (.int 11))) (.lit (.int 5))) (.cons (.bin .mod (.bin .idx (.var 0) (.lit (.int 12))) (.lit (.int 5))) .nil))))))) (.cons (.tup (.cons (.lit (.int 0)) (.cons (.lit (.int 0)) .nil))) (.cons (.var 4) .nil))))) (.seq (.assign (.one 7) (.call 30 (.cons (.tup (.cons (.bin .mod (.bin .idx (.var 0) (.lit (.int 13))) (.lit (.int 6))) (.cons (.bin .mod (.bin .idx (.var 0) (.lit (.int 14))) (.lit (.int 6))) (.cons (.bin .mod (.bin .idx (.var 0) (.lit (.int 15))) (.lit (.int 5))) (.cons (.bin .mod (.bin .idx (.var 0) (.lit (.int 16))) (.lit (.int 6))) (.cons (.bin .mod (.bin .idx (.var 0) (.lit (.int 17))) (.lit (.int 5))) (.cons (.bin .mod (.bin .idx (.var 0) (.lit (.int 18))) (.lit (.int 5))) .nil))))))) (.cons (.call 29 (.cons (.var 5) (.cons (.tup (.cons (.lit (.int 0)) (.cons (.lit (.int 0)) .nil))) .nil))) (.cons (.var 4) .nil))))) (.seq (.assign (.one 8) (.call 28 (.cons (.var 5) (.cons (.var 6) (.cons (.var 7) (.cons (.var 4) .nil)))))) (.seq (.assign (.many [9,10,11]) (.call 31 (.cons (.var 1) (.cons (.var 2) .nil)))) (.seq (.assign (.many [12,13]) (.bin .idx (.var 4) (.lit (.int 0)))) (.seq (.assign (.one 14) (.bin .add (.bin .add (.bin .add (.bin .add (.bin .add (.bin .add (.bin .add (.bin .add (.bin .add (.bin .add (.bin .add (.bin .add (.bin .add (.bin .add (.bin .add (.bin .add (.var 3) (.lit (.str ⟨#[102]⟩))) (.var 3)) (.lit (.str ⟨#[40]⟩))) (.var 3)) (.var 12)) (.var 3)) (.lit (.str ⟨#[44]⟩))) (.var 3)) (.var 13)) (.var 3)) (.lit (.str ⟨#[41]⟩))) (.var 3)) (.lit (.str ⟨#[61]⟩))) (.var 3)) (.bin .idx (.var 8) (.lit (.int 0)))) (.var 3))) (.seq (.assign (.one 15) (.bin .add (.bin .add (.bin .add (.bin .add (.bin .add (.bin .add (.bin .add (.bin .add (.bin .add (.bin .add (.lit (.str ⟨#[102,40]⟩)) (.var 12)) (.lit (.str ⟨#[44,32]⟩))) (.var 13)) (.lit (.str ⟨#[41,32,61,32]⟩))) (.bin .idx (.var 8) (.lit (.int 1)))) (.lit (.str ⟨#[10]⟩))) (.bin .idx (.var 9) (.lit (.int 0)))) (.lit (.str ⟨#[10]⟩))) (.bin .idx (.var 9) (.lit (.int 1)))) (.lit (.str ⟨#[10]⟩)))) (.seq (.assign (.one 16) (.bin .add (.list (.cons (.tup (.cons (.lit (.str ⟨#[102]⟩)) (.cons (.list (.cons (.var 12) (.cons (.var 13) .nil))) (.cons (.bin .idx (.var 8) (.lit (.int 2))) .nil)))) .nil)) (.var 10))) (.seq (.assign (.one 17) (.call 8 (.cons (.m1 .join (.lit (.str ⟨#[10]⟩)) (.list (.cons (.var 3) (.cons (.var 14) (.cons (.var 3) (.cons (.bin .idx (.var 9) (.lit (.int 0))) (.cons (.bin .idx (.var 9) (.lit (.int 1))) .nil))))))) .nil))) (.seq (.ifs (.bin .ne (.var 17) (.var 16)) (.ret (.lit (.bool false))) .skip) (.seq (.ifs (.bin .ne (.call 10 (.cons (.var 17) .nil)) (.var 15)) (.ret (.lit (.bool false))) .skip) (.seq (.ifs (.bin .ne (.call 8 (.cons (.var 15) .nil)) (.var 16)) (.ret (.lit (.bool false))) .skip) (.seq (.newl 18 .nil) (.seq (.forr (.one 19) false (.bin .add (.bin .idx (.var 8) (.lit (.int 6))) (.var 11)) (.ifs (.bin .nmem (.var 19) (.var 18)) (.app 18 (.var 19)) .skip)) (.seq (.assign (.one 20) (.call 20 (.cons (.var 17) .nil))) (.seq (.ifs (.bin .ne (.var 20) (.var 18)) (.ret (.lit (.bool false))) .skip) (.seq (.forr (.one 19) false (.var 20) (.forr (.many [21,22,23]) false (.bin .idx (.var 19) (.lit (.int 2))) (.ifs (.un (.tyNot .bool) (.var 23)) (.ret (.lit (.bool false))) .skip))) (.seq (.assign (.one 24) (.bin .sub (.un .len (.var 18)) (.lit (.int 2)))) (.seq (.assign (.many [25,26]) (.tup (.cons (.lit .none) (.cons (.lit .none) .nil)))) (.seq (.ifs (.bin .eq (.var 2) (.lit (.int 1))) (.assign (.many [25,26]) (.tup (.cons (.list (.cons (.bin .add (.var 24) (.lit (.int 1))) .nil)) (.cons (.tup (.cons (.lit (.str ⟨#[104]⟩)) (.cons (.lit (.str ⟨#[104]⟩)) (.cons (.list (.cons (.tup (.cons (.lit (.int 0)) (.cons (.lit (.int 0)) (.cons (.lit (.bool false)) .nil)))) .nil)) .nil)))) .nil)))) .skip) (.seq (.ifs (.or_ (.bin .eq (.var 1) (.lit (.int 2))) (.and_ (.bin .eq (.var 1) (.lit (.int 3))) (.bin .eq (.var 2) (.lit (.int 0))))) (.assign (.many [25,26]) (.tup (.cons (.bin .mul (.list (.cons (.var 24) .nil)) (.bin .sub (.var 1) (.lit (.int 1)))) (.cons (.tup (.cons (.lit (.str ⟨#[103]⟩)) (.cons (.lit (.str ⟨#[103]⟩)) (.cons (.list (.cons (.tup (.cons (.lit (.int 0)) (.cons (.lit (.int 0)) (.cons (.lit (.bool false)) .nil)))) (.cons (.tup (.cons (.lit (.int 1)) (.cons (.lit (.int 1)) (.cons (.lit (.bool false)) .nil)))) .nil))) .nil)))) .nil)))) .skip) (.seq (.assign (.one 27) (.call 16 (.cons (.var 20) .nil))) (.seq (.ifs (.bin .ne (.var 27) (.var 25)) (.ret (.lit (.bool false))) .skip) (.seq (.assign (.one 28) (.call 21 (.cons (.var 17) .nil))) (.seq (.ifs (.un .isNone (.var 25)) (.ifs (.un (.notB true) (.var 28)) (.ret (.lit (.bool false))) .skip) (.ifs (.or_ (.un (.notB false) (.var 28)) (.bin .ne (.call 13 (.cons (.var 20) (.cons (.var 27) .nil))) (.var 26))) (.ret (.lit (.bool false))) .skip)) (.seq (.newl 29 (.cons (.bin .mod (.bin .idx (.var 0) (.lit (.int 3))) (.lit (.int 4))) (.cons (.bin .mod (.bin .idx (.var 0) (.lit (.int 4))) (.lit (.int 4))) .nil))) (.seq (.assign (.one 30) (.call 24 (.cons (.var 17) (.cons (.lit (.str ⟨#[102]⟩)) (.cons (.var 29) (.cons (.bin .add (.bin .idx (.var 8) (.lit (.int 4))) (.lit (.int 1))) .nil)))))) (.seq (.ifs (.or_ (.un (.tyNot .int) (.var 30)) (.bin .ne (.var 30) (.bin .idx (.var 8) (.lit (.int 3))))) (.ret (.lit (.bool false))) .skip) (.seq (.ifs (.un .notNone (.call 24 (.cons (.var 17) (.cons (.lit (.str ⟨#[102]⟩)) (.cons (.var 29) (.cons (.bin .idx (.var 8) (.lit (.int 4))) .nil)))))) (.ret (.lit (.bool false))) .skip) (.seq (.assign (.one 31) (.call 32 (.cons (.bin .mod (.bin .idx (.var 0) (.lit (.int 19))) (.lit (.int 5))) (.cons (.bin .idx (.var 0) (.lit (.int 20))) (.cons (.var 14) (.cons (.bin .idx (.var 9) (.lit (.int 0))) .nil)))))) (.seq (.assign (.one 32) (.lit (.bool false))) (.seq (.tryv (.exp (.call 8 (.cons (.var 31) .nil))) 32 (.bool true)) (.seq (.ifs (.un (.notB true) (.var 32)) (.ret (.lit (.bool false))) .skip) (.seq (.assign (.one 33) (.bin .idx (.tup (.cons (.list .nil) (.cons (.list (.cons (.un .neg (.lit (.int 1))) .nil)) (.cons (.list (.cons (.bin .add (.var 24) (.lit (.int 2))) .nil)) (.cons (.list (.cons (.var 24) (.cons (.bin .add (.var 24) (.lit (.int 1))) .nil))) .nil))))) (.bin .mod (.bin .idx (.var 0) (.lit (.int 21))) (.lit (.int 4))))) (.seq (.assign (.one 32) (.lit (.bool false))) (.seq (.tryv (.exp (.call 13 (.cons (.var 20) (.cons (.var 33) .nil)))) 32 (.bool true)) (.seq (.ifs (.un (.notB true) (.var 32)) (.ret (.lit (.bool false))) .skip) (.seq (.ifs (.or_ (.bin .ne (.var 17) (.var 16)) (.or_ (.bin .ne (.var 20) (.var 18)) (.bin .ne (.var 29) (.list (.cons (.bin .mod (.bin .idx (.var 0) (.lit (.int 3))) (.lit (.int 4))) (.cons (.bin .mod (.bin .idx (.var 0) (.lit (.int 4))) (.lit (.int 4))) .nil)))))) (.ret (.lit (.bool false))) .skip) (.ret (.lit (.bool true))))))))))))))))))))))))))))))))))))))))))))))⟩
noncomputable def T:List zL:=[zfL,zeD,zgk,zg7,zke,zku,zbo,ziv,zeF,zkh,zn6,zfZ,zfP,zbk,zjh,zjy,zfe,ziS,zhp,za0,zgp,znx,ze6,zij,zpl,zd9,zdc,zb0,zd1,kY,zbM,ziK,zcq,zcx]
noncomputable def G:List D:=[(.str ⟨#[97,98,99,100,101,102,103,104,105,106,107,108,109,110,111,112,113,114,115,116,117,118,119,120,121,122]⟩),
 (.str ⟨#[48,49,50,51,52,53,54,55,56,57]⟩),
 (.list [(.str ⟨#[105,102]⟩),(.str ⟨#[116,104,101,110]⟩),(.str ⟨#[101,108,115,101]⟩)]),
 (.tuple [(.tuple [(.str ⟨#[97]⟩),(.str ⟨#[98]⟩)]),(.tuple [(.str ⟨#[122,113]⟩),(.str ⟨#[97]⟩)]),(.tuple [(.str ⟨#[103]⟩),(.str ⟨#[105,102,102]⟩)])]),
 (.tuple [(.tuple [(.str ⟨#[107,40,97,41,32,61,32,98]⟩),(.str ⟨#[107,40,97,41,32,61,32,98,32,45,32,49]⟩),(.str ⟨#[107,40,97,41,32,61,32,98,32,43,32,49]⟩),(.str ⟨#[107,40,97,41,32,61,32,105,102,32,98,32,116,104,101,110,32,97,32,101,108,115,101,32,97]⟩),(.str ⟨#[107,40,97,41,32,61,32,105,102,32,97,32,116,104,101,110,32,98,32,101,108,115,101,32,97]⟩),(.str ⟨#[107,40,97,41,32,61,32,105,102,32,97,32,116,104,101,110,32,97,32,101,108,115,101,32,98]⟩),(.str ⟨#[107,40,97,41,32,61,32,103,40,97,44,32,98,41]⟩),(.str ⟨#[107,40,97,41,32,61,32,109,40,97,41]⟩),(.str ⟨#[107,40,97,41,32,61,32,103,40,97,41]⟩)]),(.tuple [(.str ⟨#[107,40,97,44,32,97,41,32,61,32,97]⟩),(.str ⟨#[103,40,97,44,32,98,41,32,61,32,97]⟩),(.str ⟨#[107,40,97,41,32,61,32,48,55]⟩),(.str ⟨#[107,40,97,41,32,61,32,97,32,43,32,50]⟩),(.str ⟨#[107,40,97,41,32,61,32,97,32,97]⟩),(.str ⟨#[107,40,97,32,61,32,97]⟩),(.str ⟨#[107,40,116,104,101,110,41,32,61,32,49]⟩),(.str ⟨#[107,40,41,32,61,32,49]⟩),(.str ⟨#[107,40,97,41,32,97]⟩)]),(.tuple [(.str ⟨#[107,40,97,41,32,61,32,103,40,97,44,32,97]⟩),(.str ⟨#[107,40,97,41,32,61,32,40,97]⟩),(.str ⟨#[107,40,97,41,32,61,32,105,102,32,97,32,116,104,97,110,32,97,32,101,108,115,101,32,97]⟩),(.str ⟨#[107,40,97,41,32,61,32,97,32,45]⟩),(.str ⟨#[107,40,97,41,32,61,32,105,102,32,97,32,116,104,101,110,32,97]⟩),(.str ⟨#[107,40,97,41,32,61]⟩),(.str ⟨#[107,40,97,41,32,61,32,65]⟩),(.str ⟨#[105,102,40,97,41,32,61,32,97]⟩),(.str ⟨#[107,32,97,41,32,61,32,97]⟩)])])]
end Mine
namespace Mine
open PySem
noncomputable abbrev S(l:List Nat):Str:=⟨l.toArray⟩
noncomputable abbrev ds(l:List Nat):D:=.str (S l)
noncomputable def jR(r:Fl×ze):R D:=match r.1 with
 |.ret d=>.ok d
 |.next=>.ok .none
 |_=>.stuck
@[simp] theorem z5(d:D)(ρ:ze):jR (.ret d,ρ)=.ok d:=rfl
@[simp] theorem za7(ρ:ze):jR (.next,ρ)=.ok .none:=rfl
theorem zq{G:List D}{T:List zL}{wf n i:Nat}{args:List D}{fd:zL}{ρ:ze}(h:T[i]?=some fd)(hio:fd.io=false)(hl:args.length=fd.np)
  (hr:args++List.replicate (fd.nv - fd.np) .none=ρ):
  zd G T wf (n+1) i args=R.bind (exec G (zd G T wf n) (zk G T wf n) wf fd.body ρ) jR:=by
 have hi:za9 T i=false:=by simp[za9,h,hio]
 show(if za9 T i then R.stuck else R.bind (zb3 G T wf (n+1) i args) fun r=>.ok r.1)=_;rw[hi,if_neg (by decide),zkG];simp only[h,hl,if_true,hr];show R.bind (R.bind (exec G (zd G T wf n) (zk G T wf n) wf fd.body ρ) _) _=_;cases exec G (zd G T wf n) (zk G T wf n) wf fd.body ρ with
 |ok r=>
  obtain⟨f,σ⟩:=r;cases f<;>rfl
 |ve=>rfl
 |stuck=>rfl
theorem zlO{G:List D}{T:List zL}{wf n i:Nat}{args:List D}{fd:zL}{ρ:ze}(h:T[i]?=some fd)(hio:fd.io=true)(hl:args.length=fd.np)
  (hr:args++List.replicate (fd.nv - fd.np) .none=ρ):
  zk G T wf (n+1) i args=R.bind (exec G (zd G T wf n) (zk G T wf n) wf fd.body ρ) fun r=>match r.1 with
   |.ret _=>.ok (zr r.2 (fd.np - 1))
   |.next=>.ok (zr r.2 (fd.np - 1))
   |_=>.stuck:=by
 have hi:za9 T i=true:=by simp[za9,h,hio]
 show(if za9 T i then R.bind (zb3 G T wf (n+1) i args) fun r=>.ok r.2 else R.stuck)=_;rw[hi,if_pos rfl,zkG];simp only[h,hl,if_true,hr];show R.bind (R.bind (exec G (zd G T wf n) (zk G T wf n) wf fd.body ρ) _) _=_;cases exec G (zd G T wf n) (zk G T wf n) wf fd.body ρ with
 |ok r=>
  obtain⟨f,σ⟩:=r;cases f<;>rfl
 |ve=>rfl
 |stuck=>rfl
@[simp] theorem zcy(a b:List Nat):(S a=S b)↔a=b:=by
 constructor
 ·intro h;injection h with h;exact List.toArray_inj h
 ·rintro rfl;rfl
@[simp] theorem zqm(a b:List Nat):S a++S b=S (a++b):=by
 show(⟨a.toArray++b.toArray⟩:Str)=_;simp
@[simp] theorem ztZ(a:List Nat):(S a).length=a.length:=rfl
@[simp] theorem kz(x y:Str):eqD (.str x) (.str y)=.ok (.bool (decide (x=y))):=rfl
@[simp] theorem zsy(x y:Str):neD (.str x) (.str y)=.ok (.bool (!decide (x=y))):=rfl
@[simp] theorem zcb(x y:Int):eqD (.int x) (.int y)=.ok (.bool (decide (x=y))):=rfl
@[simp] theorem zkK(x y:Int):neD (.int x) (.int y)=.ok (.bool (!decide (x=y))):=rfl
@[simp] theorem zaf(xs:List D):eqD (.list xs) (.list [])=.ok (.bool xs.isEmpty):=by
 induction xs using List.casesOn with
 |nil=>rfl
 |cons x xs=>
  have h:decide (4000<min (PyData.depth (.list (x::xs))) 1)=false:=decide_eq_false fun h=>absurd (qD h (Nat.min_le_right _ _)) (by decide);show(if(false||false||decide (4000<min (PyData.depth (.list (x::xs))) 1))=true then R.stuck else R.ok (PyData.bool false))=_;rw[h];rfl
theorem zai(xs:List D)(p:Nat):jg (.list xs) (.int p)=z7 (xs[p]?):=rfl
theorem zhk(l:List Nat)(p:Nat):jg (ds l) (.int p)=match l[p]? with|some c=>.ok (ds [c])|none=>.stuck:=by
 show R.bind (z7 l[p]?) (fun c=>R.ok (PyData.str ⟨#[c]⟩))=_;cases l[p]?<;>rfl
@[simp] theorem je(x:D)(xs:List D):jg (.tuple (x::xs)) (.int 0)=.ok x:=rfl
@[simp] theorem jq(x y:D)(xs:List D):jg (.tuple (x::y::xs)) (.int 1)=.ok y:=rfl
@[simp] theorem k5(x y z:D)(xs:List D):jg (.tuple (x::y::z::xs)) (.int 2)=.ok z:=rfl
@[simp] theorem zbK(x y z w:D)(xs:List D):jg (.tuple (x::y::z::w::xs)) (.int 3)=.ok w:=rfl
@[simp] theorem ziz(x y z w a:D)(xs:List D):jg (.tuple (x::y::z::w::a::xs)) (.int 4)=.ok a:=rfl
@[simp] theorem zia(x y z w a b:D)(xs:List D):jg (.tuple (x::y::z::w::a::b::xs)) (.int 5)=.ok b:=rfl
@[simp] theorem ztx(x y z w a b c:D)(xs:List D):jg (.tuple (x::y::z::w::a::b::c::xs)) (.int 6)=.ok c:=rfl
@[simp] theorem kJ(x:D)(xs:List D):jg (.list (x::xs)) (.int 0)=.ok x:=rfl
@[simp] theorem zjS(x y:D)(xs:List D):jg (.list (x::y::xs)) (.int 1)=.ok y:=rfl
@[simp] theorem kK(xs:List D):zdU (.list xs)=.ok (.int xs.length):=rfl
@[simp] theorem zyh(l:List Nat):zdU (ds l)=.ok (.int l.length):=rfl
@[simp] theorem zaN(i j:Int):ltD (.int i) (.int j)=.ok (.bool (decide (i<j))):=rfl
@[simp] theorem zgC(i j:Int):leD (.int i) (.int j)=.ok (.bool (decide (i<=j))):=rfl
@[simp] theorem zys(i j:Int):gtD (.int i) (.int j)=.ok (.bool (decide (j<i))):=rfl
@[simp] theorem zdy(i j:Int):geD (.int i) (.int j)=.ok (.bool (decide (j<=i))):=rfl
@[simp] theorem zhF(i j:Int):zdx (.int i) (.int j)=.ok (.int (i+j)):=rfl
@[simp] theorem zeX(i j:Int):zrk (.int i) (.int j)=.ok (.int (i - j)):=rfl
@[simp] theorem zwW(i j:Int):zwk (.int i) (.int j)=.ok (.int (max i j)):=rfl
@[simp] theorem zx6(i j:Int):zuY (.int i) (.int j)=.ok (.int (min i j)):=rfl
@[simp] theorem zyR(b:Bool):zM (.bool b)=.ok b:=rfl
@[simp] theorem zwq(b:Bool):zrc (.bool b)=.ok (.bool !b):=rfl
theorem zfu:(false||false)=false:=rfl
theorem zqO:(!true)=false:=rfl
theorem zqj:(!false)=true:=rfl
theorem dr0{α:Type}(l:List α):l.drop 0=l:=rfl
theorem drs{α:Type}(a:α)(l:List α)(n:Nat):(a::l).drop (n+1)=l.drop n:=rfl
section steps
variable{GG:List D}{cf cio:Nat->List D->R D}{wf:Nat}{ρ:ze}{a b c:PE}{s t:PS}{x y z:D}{o:Bin}
noncomputable def zpZ(GG:List D)(cf cio:Nat->List D->R D)(wf:Nat)(t:PS)(r:Fl×ze):R (Fl×ze):=match r.1 with
  |.next=>exec GG cf cio wf t r.2
  |f=>.ok (f,r.2)
theorem zT:exec GG cf cio wf (.seq s t) ρ=R.bind (exec GG cf cio wf s ρ) (zpZ GG cf cio wf t):=rfl
theorem zv:zpZ GG cf cio wf t (.next,ρ)=exec GG cf cio wf t ρ:=rfl
theorem zdb:zpZ GG cf cio wf t (.ret x,ρ)=.ok (.ret x,ρ):=rfl
theorem jv:exec GG cf cio wf .skip ρ=.ok (.next,ρ):=rfl
noncomputable def zoM(ρ:ze):R (Fl×ze):=.ok (.next,ρ)
theorem zn0:zoM ρ=.ok (.next,ρ):=rfl
noncomputable def zu1(ρ:ze)(g:Tg)(d:D):R (Fl×ze):=R.bind (ja ρ g d) zoM
theorem zbf{g:Tg}:exec GG cf cio wf (.assign g a) ρ=R.bind (ev GG cf a ρ) (zu1 ρ g):=rfl
theorem zao{i:Nat}:zu1 ρ (.one i) x=.ok (.next,ρ.set i x):=rfl
theorem zpk{is:List Nat}{xs:List D}:zu1 ρ (.many is) (.tuple xs)=R.bind (jE ρ is xs) zoM:=rfl
theorem zlr:jE ρ [] []=.ok ρ:=rfl
theorem zgO{i:Nat}{is:List Nat}{xs:List D}:jE ρ (i::is) (x::xs)=jE (ρ.set i x) is xs:=rfl
noncomputable def zj9(ρ:ze)(i:Nat)(ds:List D):R (Fl×ze):=if ds.any isDict then .stuck else .ok (.next,ρ.set i (.list ds))
theorem ziW{i:Nat}{es:PEs}:exec GG cf cio wf (.newl i es) ρ=R.bind (evs GG cf es ρ) (zj9 ρ i):=rfl
theorem zgz{i:Nat}:zj9 ρ i []=.ok (.next,ρ.set i (.list [])):=rfl
theorem zjV{i:Nat}:exec GG cf cio wf (.newd i) ρ=.ok (.next,ρ.set i (.dict [])):=rfl
noncomputable def zsB(ρ:ze)(i:Nat)(d:D):R (Fl×ze):=R.bind (zfG (zr ρ i) d) fun l=>.ok (.next,ρ.set i l)
theorem zfQ{i:Nat}:exec GG cf cio wf (.app i a) ρ=if kR (zr ρ i) then R.bind (ev GG cf a ρ) (zsB ρ i) else .stuck:=rfl
theorem zt9{i:Nat}{xs:List D}(h:zr ρ i=.list xs)(hl:xs.length<1000000)(hx:isDict x=false):zsB ρ i x=.ok (.next,ρ.set i (.list (xs++[x]))):=by
 unfold zsB;rw[h];show R.bind (if(isDict x||decide (zp<=xs.length))=true then R.stuck else R.ok (PyData.list (xs++[x]))) _=_;rw[if_neg]
 ·rfl
 ·rw[hx,Bool.false_or,decide_eq_true_eq];unfold zp;lia
noncomputable def ztE(GG:List D)(cf:Nat->List D->R D)(ρ:ze)(i:Nat)(k:PE)(d:D):R (Fl×ze):=R.bind (ev GG cf k ρ) fun j=>R.bind (zbL (zr ρ i) j d) fun l=>.ok (.next,ρ.set i l)
theorem znU{i:Nat}:exec GG cf cio wf (.put i a b) ρ=R.bind (ev GG cf b ρ) (ztE GG cf ρ i a):=rfl
noncomputable def zpb(ρ:ze)(i:Nat)(d j:D):R (Fl×ze):=R.bind (zbL (zr ρ i) j d) fun l=>.ok (.next,ρ.set i l)
theorem zjt{i:Nat}:ztE GG cf ρ i a x=R.bind (ev GG cf a ρ) (zpb ρ i x):=rfl
noncomputable def kIf(GG:List D)(cf cio:Nat->List D->R D)(wf:Nat)(s t:PS)(ρ:ze)(x:D):R (Fl×ze):=R.bind (zM x) fun u=>if u then exec GG cf cio wf s ρ else exec GG cf cio wf t ρ
theorem jr:exec GG cf cio wf (.ifs c s t) ρ=R.bind (ev GG cf c ρ) (kIf GG cf cio wf s t ρ):=rfl
theorem jB:kIf GG cf cio wf s t ρ (.bool true)=exec GG cf cio wf s ρ:=rfl
theorem jj:kIf GG cf cio wf s t ρ (.bool false)=exec GG cf cio wf t ρ:=rfl
noncomputable def wl(GG:List D)(cf cio:Nat->List D->R D)(wf:Nat)(c:PE)(s:PS)(m:Nat)(ρ:ze):R (Fl×ze):=
 zbF (fun σ=>R.bind (ev GG cf c σ) zM) (fun σ=>exec GG cf cio wf s σ) m ρ
theorem zqe:exec GG cf cio wf (.whil c s) ρ=wl GG cf cio wf c s wf ρ:=rfl
noncomputable def kWl(GG:List D)(cf cio:Nat->List D->R D)(wf:Nat)(c:PE)(s:PS)(m:Nat)(r:Fl×ze):R (Fl×ze):=match r.1 with
   |.next|.cont=>wl GG cf cio wf c s m r.2
   |.brk=>.ok (.next,r.2)
   |.ret d=>.ok (.ret d,r.2)
theorem zg9{m:Nat}(h:ev GG cf c ρ=.ok (.bool true)):wl GG cf cio wf c s (m+1) ρ=R.bind (exec GG cf cio wf s ρ) (kWl GG cf cio wf c s m):=by
 show R.bind (R.bind (ev GG cf c ρ) zM) _=_;rw[h];show R.bind (exec GG cf cio wf s ρ) _=_;cases exec GG cf cio wf s ρ with
 |ok r=>obtain⟨f,σ⟩:=r;cases f<;>rfl
 |ve=>rfl
 |stuck=>rfl
theorem zel{m:Nat}(h:ev GG cf c ρ=.ok (.bool false)):wl GG cf cio wf c s (m+1) ρ=.ok (.next,ρ):=by
 show R.bind (R.bind (ev GG cf c ρ) zM) _=_;rw[h];rfl
noncomputable def fl(GG:List D)(cf cio:Nat->List D->R D)(wf:Nat)(g:Tg)(s:PS)(xs:List D)(ρ:ze):R (Fl×ze):=
 zab (fun σ d=>ja σ g d) (fun σ=>exec GG cf cio wf s σ) xs ρ
noncomputable def zc1(GG:List D)(cf cio:Nat->List D->R D)(wf:Nat)(g:Tg)(rg:Bool)(s:PS)(ρ:ze)(x:D):R (Fl×ze):=R.bind (zG rg x) fun xs=>fl GG cf cio wf g s xs ρ
theorem zby{g:Tg}{rg:Bool}:exec GG cf cio wf (.forr g rg a s) ρ=R.bind (ev GG cf a ρ) (zc1 GG cf cio wf g rg s ρ):=rfl
theorem zag{g:Tg}{xs:List D}:zc1 GG cf cio wf g false s ρ (.list xs)=fl GG cf cio wf g s xs ρ:=rfl
theorem zc8{g:Tg}{m:Nat}(h:m<=100000):zc1 GG cf cio wf g true s ρ (.int m)=fl GG cf cio wf g s ((List.range m).map fun(k:Nat)=>PyData.int k) ρ:=by
 unfold zc1;show R.bind (if 0<=(m:Int)/\(m:Int)<=(zp:Nat) then R.ok ((List.range (m:Int).toNat).map fun(k:Nat)=>PyData.int k) else R.stuck) _=_;rw[if_pos]
 ·rfl
 ·simp[zp];lia
noncomputable def kFl(GG:List D)(cf cio:Nat->List D->R D)(wf:Nat)(g:Tg)(s:PS)(xs:List D)(r:Fl×ze):R (Fl×ze):=match r.1 with
   |.next|.cont=>fl GG cf cio wf g s xs r.2
   |.brk=>.ok (.next,r.2)
   |.ret d=>.ok (.ret d,r.2)
theorem jN{g:Tg}{xs:List D}:kFl GG cf cio wf g s xs (.next,ρ)=fl GG cf cio wf g s xs ρ:=rfl
theorem zaP{g:Tg}:fl GG cf cio wf g s [] ρ=.ok (.next,ρ):=rfl
noncomputable def zxY(GG:List D)(cf cio:Nat->List D->R D)(wf:Nat)(g:Tg)(s:PS)(xs:List D)(ρ:ze):R (Fl×ze):=R.bind (exec GG cf cio wf s ρ) (kFl GG cf cio wf g s xs)
theorem jT{g:Tg}{xs:List D}:zxY GG cf cio wf g s xs ρ=R.bind (exec GG cf cio wf s ρ) (kFl GG cf cio wf g s xs):=rfl
theorem zW{g:Tg}{xs:List D}:fl GG cf cio wf g s (x::xs) ρ=R.bind (ja ρ g x) (zxY GG cf cio wf g s xs):=rfl
theorem kc{i:Nat}:ja ρ (.one i) x=.ok (ρ.set i x):=rfl
theorem zna{is:List Nat}{xs:List D}:ja ρ (.many is) (.tuple xs)=jE ρ is xs:=rfl
noncomputable def zxW(ρ:ze)(d:D):R (Fl×ze):=.ok (.ret d,ρ)
theorem kG:exec GG cf cio wf (.ret a) ρ=R.bind (ev GG cf a ρ) (zxW ρ):=rfl
theorem k7:zxW ρ x=.ok (.ret x,ρ):=rfl
theorem zez:exec GG cf cio wf .raise ρ=.ve:=rfl
noncomputable def zwA(ρ:ze)(_:D):R (Fl×ze):=.ok (.next,ρ)
theorem zky:exec GG cf cio wf (.exp a) ρ=R.bind (ev GG cf a ρ) (zwA ρ):=rfl
theorem zkE:zwA ρ x=.ok (.next,ρ):=rfl
noncomputable def kIo(cio:Nat->List D->R D)(ρ:ze)(f i:Nat)(ds:List D):R (Fl×ze):=R.bind (noVe (cio f (ds++[zr ρ i]))) fun d=>.ok (.next,ρ.set i d)
theorem zup{f i:Nat}{es:PEs}:exec GG cf cio wf (.io f es i) ρ=R.bind (evs GG cf es ρ) (kIo cio ρ f i):=rfl
theorem zy7{f i:Nat}{xs:List D}(h:cio f (xs++[zr ρ i])=.ok x):kIo cio ρ f i xs=.ok (.next,ρ.set i x):=by
 unfold kIo;rw[h];rfl
theorem zo2{i:Nat}{l:Lit}(h:exec GG cf cio wf s ρ=.ve):exec GG cf cio wf (.tryv s i l) ρ=.ok (.next,ρ.set i l.d):=by
 show(match exec GG cf cio wf s ρ with|.ve=>R.ok (Fl.next,ρ.set i l.d)|r=>r)=_;rw[h]
theorem ji{l:Lit}:ev GG cf (.lit l) ρ=.ok l.d:=rfl
theorem zK{i:Nat}:ev GG cf (.var i) ρ=.ok (zr ρ i):=rfl
theorem zwm{i:Nat}:ev GG cf (.glob i) ρ=.ok (GG.getD i .none):=rfl
theorem zdI{u:Un}:ev GG cf (.un u a) ρ=R.bind (ev GG cf a ρ) (un u):=rfl
noncomputable def zym(GG:List D)(cf:Nat->List D->R D)(ρ:ze)(o:Bin)(b:PE)(x:D):R D:=R.bind (ev GG cf b ρ) (bin o x)
theorem z0:ev GG cf (.bin o a b) ρ=R.bind (ev GG cf a ρ) (zym GG cf ρ o b):=rfl
theorem z6:zym GG cf ρ o b x=R.bind (ev GG cf b ρ) (bin o x):=rfl
noncomputable def zxw(GG:List D)(cf:Nat->List D->R D)(ρ:ze)(x:D)(c:PE)(y:D):R D:=R.bind (ev GG cf c ρ) (zgr x y)
noncomputable def zzg(GG:List D)(cf:Nat->List D->R D)(ρ:ze)(b c:PE)(x:D):R D:=R.bind (ev GG cf b ρ) (zxw GG cf ρ x c)
noncomputable def kM1(GG:List D)(cf:Nat->List D->R D)(ρ:ze)(o:M1)(b:PE)(x:D):R D:=if zmE o x then R.bind (ev GG cf b ρ) (zf8 o x) else .stuck
theorem zyE{o:M1}:ev GG cf (.m1 o a b) ρ=R.bind (ev GG cf a ρ) (kM1 GG cf ρ o b):=rfl
theorem zr0{xs:List D}:kM1 GG cf ρ .index b (.list xs)=R.bind (ev GG cf b ρ) (zdX (.list xs)):=rfl
noncomputable def zyQ(GG:List D)(cf:Nat->List D->R D)(ρ:ze)(o:M2)(c:PE)(x y:D):R D:=R.bind (ev GG cf c ρ) (zie o x y)
noncomputable def kM2(GG:List D)(cf:Nat->List D->R D)(ρ:ze)(o:M2)(b c:PE)(x:D):R D:=if zpp o x then R.bind (ev GG cf b ρ) (zyQ GG cf ρ o c x) else .stuck
noncomputable def kBo(x:D):R D:=R.bind (zM x) fun u=>.ok (.bool u)
theorem zej{u:Bool}:kBo (.bool u)=.ok (.bool u):=rfl
noncomputable def zuv(GG:List D)(cf:Nat->List D->R D)(ρ:ze)(b:PE)(x:D):R D:=R.bind (zM x) fun t=>if t then R.bind (ev GG cf b ρ) kBo else .ok (.bool false)
theorem zhJ:ev GG cf (.and_ a b) ρ=R.bind (ev GG cf a ρ) (zuv GG cf ρ b):=rfl
theorem zrZ:zuv GG cf ρ b (.bool true)=R.bind (ev GG cf b ρ) kBo:=rfl
theorem zeo:zuv GG cf ρ b (.bool false)=.ok (.bool false):=rfl
noncomputable def kOr(GG:List D)(cf:Nat->List D->R D)(ρ:ze)(b:PE)(x:D):R D:=R.bind (zM x) fun t=>if t then .ok (.bool true) else R.bind (ev GG cf b ρ) kBo
theorem zdz:ev GG cf (.or_ a b) ρ=R.bind (ev GG cf a ρ) (kOr GG cf ρ b):=rfl
theorem zjP:kOr GG cf ρ b (.bool true)=.ok (.bool true):=rfl
theorem k8:kOr GG cf ρ b (.bool false)=R.bind (ev GG cf b ρ) kBo:=rfl
noncomputable def zuw(ds:List D):R D:=if ds.any isDict then .stuck else .ok (.tuple ds)
theorem zfh{es:PEs}:ev GG cf (.tup es) ρ=R.bind (evs GG cf es ρ) zuw:=rfl
theorem zdZ{xs:List D}(h:xs.any isDict=false):zuw xs=.ok (.tuple xs):=by unfold zuw;rw[h];rfl
noncomputable def zkx(ds:List D):R D:=if ds.any isDict then .stuck else .ok (.list ds)
theorem zbq{es:PEs}:ev GG cf (.list es) ρ=R.bind (evs GG cf es ρ) zkx:=rfl
theorem zgi{xs:List D}(h:xs.any isDict=false):zkx xs=.ok (.list xs):=by unfold zkx;rw[h];rfl
theorem zcf:zkx []=.ok (.list []):=rfl
theorem jV{f:Nat}{es:PEs}:ev GG cf (.call f es) ρ=R.bind (evs GG cf es ρ) (cf f):=rfl
theorem zQ:evs GG cf .nil ρ=.ok []:=rfl
noncomputable def zjW(x:D)(xs:List D):R (List D):=.ok (x::xs)
theorem zO{xs:List D}:zjW x xs=.ok (x::xs):=rfl
noncomputable def zpW(GG:List D)(cf:Nat->List D->R D)(ρ:ze)(es:PEs)(x:D):R (List D):=R.bind (evs GG cf es ρ) (zjW x)
theorem zP{es:PEs}:evs GG cf (.cons a es) ρ=R.bind (ev GG cf a ρ) (zpW GG cf ρ es):=rfl
theorem jc{es:PEs}:zpW GG cf ρ es x=R.bind (evs GG cf es ρ) (zjW x):=rfl
theorem g_0{ρ:ze}:zr (x::ρ) 0=x:=rfl
theorem g_s{ρ:ze}{i:Nat}:zr (x::ρ) (i+1)=zr ρ i:=rfl
theorem jx{i:Int}:Lit.d (.int i)=.int i:=rfl
theorem zdm{l:Str}:Lit.d (.str l)=.str l:=rfl
theorem zu4:Lit.d .none=.none:=rfl
theorem zY{r:R (Fl×ze)}(h:ev GG cf c ρ=.ok (.bool true))(g:exec GG cf cio wf s ρ=r):exec GG cf cio wf (.ifs c s t) ρ=r:=(congrArg (R.bind · _) h).trans g
theorem zz{r:R (Fl×ze)}(h:ev GG cf c ρ=.ok (.bool false))(g:exec GG cf cio wf t ρ=r):exec GG cf cio wf (.ifs c s t) ρ=r:=(congrArg (R.bind · _) h).trans g
theorem jM{i:Nat}(h:ev GG cf a ρ=.ok x):exec GG cf cio wf (.assign (.one i) a) ρ=.ok (.next,ρ.set i x):=congrArg (R.bind · _) h
theorem zd8{is:List Nat}{xs:List D}{σ:ze}(h:ev GG cf a ρ=.ok (.tuple xs))(k:jE ρ is xs=.ok σ):exec GG cf cio wf (.assign (.many is) a) ρ=.ok (.next,σ):=
 (congrArg (R.bind · _) h).trans (congrArg (R.bind · _) k)
theorem jy{r:R (Fl×ze)}{σ:ze}(h:exec GG cf cio wf s ρ=.ok (.next,σ))(g:exec GG cf cio wf t σ=r):exec GG cf cio wf (.seq s t) ρ=r:=(congrArg (R.bind · _) h).trans g
theorem zm(h:ev GG cf a ρ=.ok x)(g:ev GG cf b ρ=.ok y)(k:bin o x y=.ok z):ev GG cf (.bin o a b) ρ=.ok z:=
 (congrArg (R.bind · _) h).trans ((congrArg (R.bind · (bin o x)) g).trans k)
theorem zbA{u:Un}(h:ev GG cf a ρ=.ok x)(k:un u x=.ok z):ev GG cf (.un u a) ρ=.ok z:=(congrArg (R.bind · _) h).trans k
theorem jC{es:PEs}{xs:List D}(h:evs GG cf es ρ=.ok xs)(d:xs.any isDict=false):ev GG cf (.tup es) ρ=.ok (.tuple xs):=(congrArg (R.bind · _) h).trans (zdZ d)
theorem zul{es:PEs}{xs:List D}(h:evs GG cf es ρ=.ok xs)(d:xs.any isDict=false):ev GG cf (.list es) ρ=.ok (.list xs):=(congrArg (R.bind · _) h).trans (zgi d)
theorem zj{es:PEs}{xs:List D}(h:ev GG cf a ρ=.ok x)(g:evs GG cf es ρ=.ok xs):evs GG cf (.cons a es) ρ=.ok (x::xs):=
 (congrArg (R.bind · _) h).trans (congrArg (R.bind · _) g)
theorem zn{f:Nat}{es:PEs}{xs:List D}{r:R D}(h:evs GG cf es ρ=.ok xs)(g:cf f xs=r):ev GG cf (.call f es) ρ=r:=(congrArg (R.bind · _) h).trans g
theorem zaS{u:Bool}(h:ev GG cf a ρ=.ok (.bool true))(g:ev GG cf b ρ=.ok (.bool u)):ev GG cf (.and_ a b) ρ=.ok (.bool u):=
 (congrArg (R.bind · _) h).trans (congrArg (R.bind · kBo) g)
theorem zjn(h:ev GG cf a ρ=.ok (.bool false)):ev GG cf (.and_ a b) ρ=.ok (.bool false):=congrArg (R.bind · _) h
theorem zkB(h:ev GG cf a ρ=.ok (.bool true)):ev GG cf (.or_ a b) ρ=.ok (.bool true):=congrArg (R.bind · _) h
theorem zbz{u:Bool}(h:ev GG cf a ρ=.ok (.bool false))(g:ev GG cf b ρ=.ok (.bool u)):ev GG cf (.or_ a b) ρ=.ok (.bool u):=
 (congrArg (R.bind · _) h).trans (congrArg (R.bind · kBo) g)
inductive Rt(GG:List D)(cf cio:Nat->List D->R D)(wf:Nat)(s:PS)(ρ:ze)(x:D):Prop
 |mk(σ:ze)(h:exec GG cf cio wf s ρ=.ok (.ret x,σ))
theorem Rt.fin(h:Rt GG cf cio wf s ρ x):R.bind (exec GG cf cio wf s ρ) jR=.ok x:=h.casesOn fun _ h=>congrArg (R.bind · _) h
theorem Rt.nxt{σ:ze}(h:exec GG cf cio wf s ρ=.ok (.next,σ))(g:Rt GG cf cio wf t σ x):Rt GG cf cio wf (.seq s t) ρ x:=g.casesOn fun τ g=>⟨τ,jy h g⟩
theorem Rt.asg{i:Nat}(h:ev GG cf a ρ=.ok y)(g:Rt GG cf cio wf t (ρ.set i y) x):Rt GG cf cio wf (.seq (.assign (.one i) a) t) ρ x:=Rt.nxt (jM h) g
theorem Rt.asgm{is:List Nat}{xs:List D}{σ:ze}(h:ev GG cf a ρ=.ok (.tuple xs))(k:jE ρ is xs=.ok σ)(g:Rt GG cf cio wf t σ x):Rt GG cf cio wf (.seq (.assign (.many is) a) t) ρ x:=Rt.nxt (zd8 h k) g
theorem Rt.seq(h:Rt GG cf cio wf s ρ x):Rt GG cf cio wf (.seq s t) ρ x:=h.casesOn fun τ g=>⟨τ,congrArg (R.bind · _) g⟩
theorem Rt.ift(h:ev GG cf c ρ=.ok (.bool true))(g:Rt GG cf cio wf s ρ x):Rt GG cf cio wf (.ifs c s t) ρ x:=g.casesOn fun τ g=>⟨τ,zY h g⟩
theorem Rt.iff(h:ev GG cf c ρ=.ok (.bool false))(g:Rt GG cf cio wf t ρ x):Rt GG cf cio wf (.seq (.ifs c s .skip) t) ρ x:=Rt.nxt (zz h rfl) g
theorem Rt.ret(h:ev GG cf a ρ=.ok x):Rt GG cf cio wf (.ret a) ρ x:=⟨ρ,congrArg (R.bind · _) h⟩
end steps
theorem zyF(p:Nat):zdx (.int p) (.int 1)=.ok (.int (p+1:Nat)):=rfl
theorem zyS(p:Nat):zdx (.int p) (.int 2)=.ok (.int (p+2:Nat)):=rfl
@[simp] theorem zyu(l:List D):isDict (.tuple l)=false:=rfl
@[simp] theorem zh9(l:List D):isDict (.list l)=false:=rfl
@[simp] theorem zk3(l:Str):isDict (.str l)=false:=rfl
@[simp] theorem zaI(l:Int):isDict (.int l)=false:=rfl
@[simp] theorem zx1(l:Bool):isDict (.bool l)=false:=rfl
@[simp] theorem zwN:isDict .none=false:=rfl
noncomputable abbrev Tok:=List Nat
noncomputable abbrev zh(ts:List Tok):D:=.list (ts.map ds)
noncomputable def pk(r:List Tok):Tok:=r.headD []
variable{wf n:Nat}
theorem zri(ts:List Tok)(p:Nat):zd G T wf (n+1) 1 [zh ts,.int p]=.ok (ds (pk (ts.drop p))):=by
 rw[zq (fd:=zeD) (ρ:=[zh ts,.int p,OO]) rfl rfl rfl rfl];by_cases h:p<ts.length
 ·have h1:(p:Int)<((ts.map ds).length:Nat):=by rw[List.length_map];exact Int.ofNat_lt.mpr h
  have h2:jg (zh ts) (.int p)=.ok (ds (pk (ts.drop p))):=by
   rw[zai,List.getElem?_map,List.getElem?_eq_getElem h];have:pk (ts.drop p)=ts[p]:=by rw[List.drop_eq_getElem_cons h];rfl
   rw[this];rfl
  simp only[zeD,zT,jr,z0,zdI,zK,g_0,g_s,R.bind_ok,zbS,kK,z6,zbJ,zR,zaN,decide_eq_true h1,jB,kG,h2,k7,zdb,z5]
 ·have h1:¬(p:Int)<((ts.map ds).length:Nat):=by rw[List.length_map];exact fun hc=>h (Int.ofNat_lt.mp hc)
  rw[List.drop_eq_nil_of_le (Nat.le_of_not_lt h)];simp only[zeD,zT,jr,z0,zdI,zK,g_0,g_s,R.bind_ok,zbS,kK,z6,zbJ,zaN,decide_eq_false h1,jj,jv,zv,kG,ji,zdm,k7,z5];rfl
noncomputable def zxE(a:Bool):D->Bool
 |.bool b=>a==b
 |_=>false
noncomputable def zxP(f:List D->Bool):D->Bool
 |.list b=>f b
 |_=>false
noncomputable def zwX(f:List D->Bool):D->Bool
 |.tuple b=>f b
 |_=>false
noncomputable def zw1(f:D->Bool)(g:List D->Bool):List D->Bool
 |[]=>false
 |b::s=>f b&&g s
mutual
noncomputable def deq:D->D->Bool
 |.none=>isNone
 |.bool a=>zxE a
 |.int a=>eqI a
 |.str a=>eqS a
 |.list a=>zxP (zrg a)
 |.tuple a=>zwX (zrg a)
 |.dict _=>fun _=>false
noncomputable def zrg:List D->List D->Bool
 |[]=>List.isEmpty
 |a::r=>zw1 (deq a) (zrg r)
end
theorem zvv{b:D}(h:isNone b=true):.none=b:=by
 induction b using PyData.casesOn with
 |none=>rfl
 |_=>exact ff h
theorem zwf{a:Bool}{b:D}(h:zxE a b=true):.bool a=b:=by
 induction b using PyData.casesOn with
 |bool c=>exact congrArg _ (eq_of_beq h)
 |_=>exact ff h
theorem zx4{a:Int}{b:D}(h:eqI a b=true):.int a=b:=by
 induction b using PyData.casesOn with
 |int c=>exact congrArg _ (eq_of_beq h)
 |_=>exact ff h
theorem zyg{a:Str}{b:D}(h:eqS a b=true):.str a=b:=by
 induction b using PyData.casesOn with
 |str c=>exact congrArg _ (eq_of_beq h)
 |_=>exact ff h
theorem zut{a:List D}{f:List D->Bool}(k:∀b,f b=true->a=b){b:D}(h:zxP f b=true):.list a=b:=by
 induction b using PyData.casesOn with
 |list c=>exact congrArg _ (k c h)
 |_=>exact ff h
theorem zxo{a:List D}{f:List D->Bool}(k:∀b,f b=true->a=b){b:D}(h:zwX f b=true):.tuple a=b:=by
 induction b using PyData.casesOn with
 |tuple c=>exact congrArg _ (k c h)
 |_=>exact ff h
theorem zxr{b:List D}(h:b.isEmpty=true):[]=b:=by
 induction b using List.casesOn with
 |nil=>rfl
 |_=>exact ff h
theorem zvz{a:D}{r:List D}{f:D->Bool}{g:List D->Bool}(k:∀b,f b=true->a=b)(k':∀b,g b=true->r=b){b:List D}(h:zw1 f g b=true):a::r=b:=by
 induction b using List.casesOn with
 |nil=>exact ff h
 |cons c s=>rw[k c (Bool.and_eq_true_iff.mp h).1,k' s (Bool.and_eq_true_iff.mp h).2]
mutual
theorem zqq:∀(a b:D),deq a b=true->a=b
 |.none,_,h=>zvv h
 |.bool _,_,h=>zwf h
 |.int _,_,h=>zx4 h
 |.str _,_,h=>zyg h
 |.list a,_,h=>zut (zhc a) h
 |.tuple a,_,h=>zxo (zhc a) h
 |.dict _,_,h=>ff h
theorem zhc:∀(a b:List D),zrg a b=true->a=b
 |[],_,h=>zxr h
 |a::r,_,h=>zvz (zqq a) (zhc r) h
end
noncomputable def zdC(x:R D)(d:D):Bool:=match x with|.ok a=>deq a d|_=>false
theorem j7{x:R D}{d:D}(h:zdC x d=true):x=.ok d:=by
 induction x using R.casesOn with
 |ok a=>rw[zqq a d h]
 |ve=>exact ff h
 |stuck=>exact ff h
noncomputable def zxJ{α:Type}(x:R α):Bool:=match x with|.ve=>true|_=>false
theorem zs1{α:Type}{x:R α}(h:zxJ x=true):x=.ve:=by
 induction x using R.casesOn with
 |ok a=>exact ff h
 |ve=>rfl
 |stuck=>exact ff h
end Mine
namespace Mine
open PySem
variable{n:Nat}
theorem zpt(a0:D):zd G T 2000 (n+1) 0 [a0]=R.bind (exec G (zd G T 2000 n) (zk G T 2000 n) 2000 zfL.body [a0,OO,OO,OO,OO,OO,OO]) jR:=zq rfl rfl rfl rfl
theorem zuD(a0 a1 a2:D):zd G T 2000 (n+1) 2 [a0,a1,a2]=R.bind (exec G (zd G T 2000 n) (zk G T 2000 n) 2000 zgk.body [a0,a1,a2,OO,OO]) jR:=zq rfl rfl rfl rfl
theorem zvF(a0 a1:D):zd G T 2000 (n+1) 3 [a0,a1]=R.bind (exec G (zd G T 2000 n) (zk G T 2000 n) 2000 zg7.body [a0,a1,OO,OO,OO,OO,OO]) jR:=zq rfl rfl rfl rfl
theorem zvV(a0 a1:D):zd G T 2000 (n+1) 4 [a0,a1]=R.bind (exec G (zd G T 2000 n) (zk G T 2000 n) 2000 zke.body [a0,a1,OO,OO,OO,OO,OO,OO,OO,OO,OO,OO]) jR:=zq rfl rfl rfl rfl
theorem zuO(a0 a1:D):zd G T 2000 (n+1) 5 [a0,a1]=R.bind (exec G (zd G T 2000 n) (zk G T 2000 n) 2000 zku.body [a0,a1,OO,OO,OO,OO,OO,OO,OO,OO,OO,OO,OO,OO,OO]) jR:=zq rfl rfl rfl rfl
theorem zdH(a0 a1 a2 a3:D):zd G T 2000 (n+1) 6 [a0,a1,a2,a3]=R.bind (exec G (zd G T 2000 n) (zk G T 2000 n) 2000 zbo.body [a0,a1,a2,a3,OO,OO,OO,OO]) jR:=zq rfl rfl rfl rfl
theorem zrd(a0:D):zd G T 2000 (n+1) 7 [a0]=R.bind (exec G (zd G T 2000 n) (zk G T 2000 n) 2000 ziv.body [a0,OO,OO,OO]) jR:=zq rfl rfl rfl rfl
theorem zro(a0:D):zd G T 2000 (n+1) 8 [a0]=R.bind (exec G (zd G T 2000 n) (zk G T 2000 n) 2000 zeF.body [a0,OO,OO,OO,OO,OO,OO,OO,OO,OO,OO,OO,OO,OO,OO,OO,OO,OO,OO]) jR:=zq rfl rfl rfl rfl
theorem zdJ(a0:D):zd G T 2000 (n+1) 9 [a0]=R.bind (exec G (zd G T 2000 n) (zk G T 2000 n) 2000 zkh.body [a0,OO,OO,OO]) jR:=zq rfl rfl rfl rfl
theorem zu5(a0:D):zd G T 2000 (n+1) 10 [a0]=R.bind (exec G (zd G T 2000 n) (zk G T 2000 n) 2000 zn6.body [a0,OO,OO,OO,OO,OO]) jR:=zq rfl rfl rfl rfl
theorem zqf(a0:D):zd G T 2000 (n+1) 11 [a0]=R.bind (exec G (zd G T 2000 n) (zk G T 2000 n) 2000 zfZ.body [a0,OO,OO,OO]) jR:=zq rfl rfl rfl rfl
theorem zmx(a0 a1:D):zd G T 2000 (n+1) 12 [a0,a1]=R.bind (exec G (zd G T 2000 n) (zk G T 2000 n) 2000 zfP.body [a0,a1,OO,OO,OO,OO,OO,OO,OO,OO,OO]) jR:=zq rfl rfl rfl rfl
theorem zbj(a0 a1:D):zd G T 2000 (n+1) 13 [a0,a1]=R.bind (exec G (zd G T 2000 n) (zk G T 2000 n) 2000 zbk.body [a0,a1,OO,OO,OO,OO,OO]) jR:=zq rfl rfl rfl rfl
theorem zxj(a0:D):zd G T 2000 (n+1) 14 [a0]=R.bind (exec G (zd G T 2000 n) (zk G T 2000 n) 2000 zjh.body [a0,OO,OO,OO,OO,OO,OO,OO,OO]) jR:=zq rfl rfl rfl rfl
theorem zom(a0:D):zd G T 2000 (n+1) 16 [a0]=R.bind (exec G (zd G T 2000 n) (zk G T 2000 n) 2000 zfe.body [a0,OO,OO,OO,OO,OO,OO,OO,OO,OO,OO]) jR:=zq rfl rfl rfl rfl
theorem zvG(a0:D):zd G T 2000 (n+1) 17 [a0]=R.bind (exec G (zd G T 2000 n) (zk G T 2000 n) 2000 ziS.body [a0,OO]) jR:=zq rfl rfl rfl rfl
theorem zaK(a0 a1 a2:D):zd G T 2000 (n+1) 18 [a0,a1,a2]=R.bind (exec G (zd G T 2000 n) (zk G T 2000 n) 2000 zhp.body [a0,a1,a2,OO,OO,OO,OO,OO,OO,OO,OO]) jR:=zq rfl rfl rfl rfl
theorem k6(a0 a1 a2 a3 a4:D):zk G T 2000 (n+1) 19 [a0,a1,a2,a3,a4]=R.bind (exec G (zd G T 2000 n) (zk G T 2000 n) 2000 za0.body [a0,a1,a2,a3,a4,OO,OO,OO,OO,OO,OO,OO,OO,OO,OO]) fun r=>match r.1 with
   |.ret _=>.ok (zr r.2 4)
   |.next=>.ok (zr r.2 4)
   |_=>.stuck:=zlO (fd:=za0) rfl rfl rfl rfl
theorem zsf(a0:D):zd G T 2000 (n+1) 20 [a0]=R.bind (exec G (zd G T 2000 n) (zk G T 2000 n) 2000 zgp.body [a0,OO,OO,OO,OO,OO]) jR:=zq rfl rfl rfl rfl
theorem zuJ(a0:D):zd G T 2000 (n+1) 21 [a0]=R.bind (exec G (zd G T 2000 n) (zk G T 2000 n) 2000 znx.body [a0,OO,OO]) jR:=zq rfl rfl rfl rfl
theorem zk2(a0 a1 a2 a3:D):zd G T 2000 (n+1) 22 [a0,a1,a2,a3]=R.bind (exec G (zd G T 2000 n) (zk G T 2000 n) 2000 ze6.body [a0,a1,a2,a3,OO,OO,OO,OO,OO,OO,OO]) jR:=zq rfl rfl rfl rfl
theorem zb8(a0 a1 a2 a3:D):zd G T 2000 (n+1) 23 [a0,a1,a2,a3]=R.bind (exec G (zd G T 2000 n) (zk G T 2000 n) 2000 zij.body [a0,a1,a2,a3,OO,OO,OO,OO,OO,OO]) jR:=zq rfl rfl rfl rfl
theorem zxS(a0 a1 a2 a3:D):zd G T 2000 (n+1) 24 [a0,a1,a2,a3]=R.bind (exec G (zd G T 2000 n) (zk G T 2000 n) 2000 zpl.body [a0,a1,a2,a3,OO,OO,OO,OO,OO]) jR:=zq rfl rfl rfl rfl
theorem zi6(a0 a1 a2:D):zd G T 2000 (n+1) 25 [a0,a1,a2]=R.bind (exec G (zd G T 2000 n) (zk G T 2000 n) 2000 zd9.body [a0,a1,a2,OO,OO,OO,OO]) jR:=zq rfl rfl rfl rfl
theorem zhv(a0 a1 a2 a3:D):zd G T 2000 (n+1) 26 [a0,a1,a2,a3]=R.bind (exec G (zd G T 2000 n) (zk G T 2000 n) 2000 zdc.body [a0,a1,a2,a3,OO,OO,OO,OO,OO,OO,OO,OO]) jR:=zq rfl rfl rfl rfl
theorem zsF(a0 a1 a2:D):zd G T 2000 (n+1) 27 [a0,a1,a2]=R.bind (exec G (zd G T 2000 n) (zk G T 2000 n) 2000 zb0.body [a0,a1,a2]) jR:=zq rfl rfl rfl rfl
theorem zjq(a0 a1 a2 a3:D):zd G T 2000 (n+1) 28 [a0,a1,a2,a3]=R.bind (exec G (zd G T 2000 n) (zk G T 2000 n) 2000 zd1.body [a0,a1,a2,a3,OO,OO,OO,OO,OO,OO,OO,OO,OO,OO,OO,OO,OO,OO,OO]) jR:=zq rfl rfl rfl rfl
theorem zi3(a0 a1:D):zd G T 2000 (n+1) 29 [a0,a1]=R.bind (exec G (zd G T 2000 n) (zk G T 2000 n) 2000 kY.body [a0,a1]) jR:=zq rfl rfl rfl rfl
theorem zj0(a0 a1 a2:D):zd G T 2000 (n+1) 30 [a0,a1,a2]=R.bind (exec G (zd G T 2000 n) (zk G T 2000 n) 2000 zbM.body [a0,a1,a2,OO,OO,OO,OO,OO,OO,OO]) jR:=zq rfl rfl rfl rfl
theorem zbt(a0 a1 a2 a3:D):zd G T 2000 (n+1) 32 [a0,a1,a2,a3]=R.bind (exec G (zd G T 2000 n) (zk G T 2000 n) 2000 zcq.body [a0,a1,a2,a3,OO,OO,OO]) jR:=zq rfl rfl rfl rfl
end Mine
namespace Mine
open PySem
variable{n:Nat}
noncomputable abbrev cF(n:Nat)(f:Nat)(as:List D):R D:=zd G T 2000 n f as
noncomputable abbrev cI(n:Nat)(f:Nat)(as:List D):R D:=zk G T 2000 n f as
noncomputable def jX(c:Nat):Bool:=decide (97<=c/\c<=122)
noncomputable def jm(c:Nat):Bool:=decide (48<=c/\c<=57)
theorem zoA(l:List Nat)(a n c:Nat)(h:l=List.range' a n):l.toArray.contains c=decide (a<=c/\c<a+n):=by
 rw[h,Bool.eq_iff_iff,List.contains_toArray,List.contains_iff_mem,List.mem_range'_1,decide_eq_true_eq]
theorem ziQ(c:Nat):inD (ds [c]) (G.getD 0 .none)=.ok (.bool (jX c)):=by
 refine congrArg (fun b=>R.ok (PyData.bool b)) ((zoA _ 97 26 c rfl).trans ?_);unfold jX;exact decide_eq_decide.mpr ⟨fun h=>⟨h.1,Nat.le_of_lt_succ h.2⟩,fun h=>⟨h.1,Nat.lt_succ_of_le h.2⟩⟩
theorem zjG(c:Nat):inD (ds [c]) (G.getD 1 .none)=.ok (.bool (jm c)):=by
 refine congrArg (fun b=>R.ok (PyData.bool b)) ((zoA _ 48 10 c rfl).trans ?_);unfold jm;exact decide_eq_decide.mpr ⟨fun h=>⟨h.1,Nat.le_of_lt_succ h.2⟩,fun h=>⟨h.1,Nat.lt_succ_of_le h.2⟩⟩
theorem zwH{x:R Bool}{b:Bool}(h:R.bind x (fun c=>.ok (.bool c))=(.ok (.bool b):R D)):R.bind x (fun c=>.ok (.bool !c))=(.ok (.bool !b):R D):=by
 induction x using R.casesOn with
 |ok c=>injection h with h;injection h with h;rw[h];rfl
 |ve=>cases h
 |stuck=>cases h
theorem zrf(c:Nat):zbR (ds [c]) (G.getD 0 .none)=.ok (.bool !(jX c)):=by
 have h:=ziQ c;unfold inD at h;show(if isDict (G.getD 0 .none) then R.stuck else _)=_;rw[if_neg (by decide)];exact zwH h
noncomputable def zlb:List Tok:=[[105,102],[116,104,101,110],[101,108,115,101]]
theorem zp5(t:Tok)(ts:List Tok):((ts.map ds).any fun y=>PyData.eqv y (ds t))=ts.contains t:=by
 rw[Bool.eq_iff_iff];simp only[List.any_eq_true,List.mem_map,List.contains_iff_mem];constructor
 ·rintro⟨x,⟨a,ha,rfl⟩,h⟩;exact((zcy _ _).mp (eq_of_beq h))▸ha
 ·intro h;exact⟨ds t,⟨t,h,rfl⟩,beq_self_eq_true (S t)⟩
theorem zf2(t:Tok)(ts:List Tok):zmv (ds t) (.list (ts.map ds))=.ok (ts.contains t):=by
 show(if(isDict (ds t)||decide (4000<min (PyData.depthAll (ts.map ds)) 0))=true then R.stuck else R.ok _)=_;rw[if_neg (by show ¬(decide (4000<min _ 0)=true);rw[Nat.min_zero];decide),zp5]
theorem zax(t:Tok)(ts:List Tok):inD (ds t) (.list (ts.map ds))=.ok (.bool (ts.contains t)):=by
 rw[inD,zf2];rfl
theorem ziu(t:Tok)(ts:List Tok):zbR (ds t) (.list (ts.map ds))=.ok (.bool !(ts.contains t)):=by
 show R.bind (zmv _ _) _=_;rw[zf2];rfl
theorem ztk(t:Tok):inD (ds t) (G.getD 2 .none)=.ok (.bool (zlb.contains t)):=zax t zlb
noncomputable def jb(r:List Tok)(w:Tok):R (List Tok):=if pk r=w then .ok (r.drop 1) else .ve
noncomputable def kW:Tok->Bool
 |[]=>false
 |c::t=>jX c&&!zlb.contains (c::t)
noncomputable def jH(r:List Tok):R Tok:=if kW (pk r) then .ok (pk r) else .ve
theorem kF(ts:List Tok)(p:Nat):zd G T 2000 (n+1) 1 [zh ts,.int p]=.ok (ds (pk (ts.drop p))):=zri ts p
theorem zkX(ts:List Tok)(p:Nat)(w:Tok):zd G T 2000 (n+2) 2 [zh ts,.int p,ds w]=R.bind (jb (ts.drop p) w) fun _=>.ok (.int (p+1:Nat)):=by
 rw[zuD];simp only[zgk,zT,jr,zK,z0,z6,jV,zQ,zO,zP,jc,g_0,g_s,R.bind_ok,zp0,kF,zsy,jb];by_cases h:pk (ts.drop p)=w<;>simp[h,zv,jv,jB,jj,kG,k7,zez,ji,zK,z0,z6,g_0,g_s,jx,R.bind_ok,R.bind_ve,zdO,z5,↓reduceIte]
theorem zkj(ts:List Tok)(p:Nat):zd G T 2000 (n+2) 3 [zh ts,.int p]=R.bind (jH (ts.drop p)) fun x=>.ok (ds x):=by
 rw[zvF];simp only[zg7,zT,zv,zbf,zao,jr,ji,zK,z0,z6,zdz,jV,zQ,zO,zP,jc,g_0,g_s,zdm,R.bind_ok,List.set_cons_zero,List.set_cons_succ,jo,kF,kz,jH];cases h:pk (ts.drop p) with
 |nil=>simp only[kW,jB,zez,zjP,R.bind_ok,R.bind_ve,↓reduceIte,Bool.false_eq_true,decide_true]
 |cons c t=>
  have e0:jg (ds (c::t)) (.int 0)=.ok (ds [c]):=zhk (c::t) 0;have e1:¬(c::t=[]):=by simp
  rcases Bool.eq_false_or_eq_true (jX c) with h1|h1<;>rcases Bool.eq_false_or_eq_true (zlb.contains (c::t)) with h2|h2 <;>
   simp only[zcy,e1,decide_false,e0,zrf,ztk,kW,h1,h2,zv,jv,jB,jj,kG,k7,zez,ji,zK,zwm,z0,z6,zej,zdz,zjP,k8,g_0,g_s,jx,R.bind_ok,R.bind_ve,zte,kT,zR,z5,↓reduceIte,Bool.false_eq_true,zqO,zqj,Bool.and_true,Bool.and_false]
end Mine
namespace Mine
open PySem
variable{n:Nat}
noncomputable abbrev tIf:Tok:=[105,102]
noncomputable abbrev zbv:Tok:=[116,104,101,110]
noncomputable abbrev za8:Tok:=[101,108,115,101]
noncomputable abbrev zw2:Tok:=[110,117,109]
noncomputable abbrev ztq:Tok:=[110,97,109,101]
noncomputable abbrev zdB:Tok:=[112,114,101,100]
noncomputable abbrev zd0:Tok:=[115,117,99,99]
noncomputable abbrev ztR:Tok:=[99,97,108,108]
noncomputable abbrev zfF(i:Int):D:=.tuple [ds zw2,.int i]
noncomputable abbrev zcv(x:Tok):D:=.tuple [ds ztq,ds x]
noncomputable abbrev zd3(d:D):D:=.tuple [ds zdB,d]
noncomputable abbrev zla(d:D):D:=.tuple [ds zd0,d]
noncomputable abbrev eIf(x:Tok)(a b:D):D:=.tuple [ds tIf,ds x,a,b]
noncomputable abbrev zbU(f:Tok)(as:List D):D:=.tuple [ds ztR,ds f,.list as]
noncomputable abbrev PR:=R (D×List Tok)
noncomputable def stp:D->List Tok->PR
 |d,[]=>.ok (d,[])
 |d,[t]=>if t=[43]\/t=[45] then .ve else .ok (d,[t])
 |d,t::u::r=>if t=[43]\/t=[45] then(if u=[49] then stp (if t=[43] then zla d else zd3 d) r else .ve) else .ok (d,t::u::r)
noncomputable def exC(pE pA:List Tok->PR)(r:List Tok):PR:=
 if pk r=tIf then R.bind (jH (r.drop 1)) fun x=>R.bind (jb (r.drop 2) zbv) fun r1=>R.bind (pE r1) fun q=>R.bind (jb q.2 za8) fun r2=>
  R.bind (pE r2) fun q2=>.ok (eIf x q.1 q2.1,q2.2)
 else R.bind (pA r) fun q=>stp q.1 q.2
noncomputable def agC(pE:List Tok->PR):Nat->List D->List Tok->R (List D×List Tok)
 |0,_,_=>.stuck
 |m+1,as,r=>if as=[]\/pk r=[44] then R.bind (pE (r.drop 1)) fun q=>agC pE m (as++[q.1]) q.2 else .ok (as,r)
theorem zbG:∀(pE:List Tok->PR) (x:List D) (x_1:List Tok) (m:Nat),agC pE (m+1) x x_1=if x=[]\/pk x_1=[44] then R.bind (pE (List.drop 1 x_1)) fun(q:D×List Tok)=>agC pE m (x++[q.fst]) q.snd else R.ok (x,x_1):=fun _ _ _ _=>rfl
noncomputable def zoF(t:Tok):R D:=if 1<t.length/\t.head?=some 48 then .ve else match zkA (S t) with|some i=>.ok (zfF i)|none=>.stuck
noncomputable def zbi:Tok->Bool
 |[]=>false
 |c::_=>jm c
noncomputable def atC(pE:List Tok->PR)(r:List Tok):PR:=
 if pk r=[40] then R.bind (pE (r.drop 1)) fun q=>R.bind (jb q.2 [41]) fun r2=>.ok (q.1,r2)
 else if zbi (pk r) then R.bind (zoF (pk r)) fun d=>.ok (d,r.drop 1)
 else R.bind (jH r) fun x=>if pk (r.drop 1)=[40] then R.bind (agC pE 2000 [] (r.drop 1)) fun q=>R.bind (jb q.2 [41]) fun r2=>.ok (zbU x q.1,r2)
  else .ok (zcv x,r.drop 1)
mutual
noncomputable def pE:Nat->List Tok->PR
 |0=>fun _=>.stuck
 |n+1=>if n<2 then fun _=>.stuck else exC (pE n) (pA n)
noncomputable def pA:Nat->List Tok->PR
 |0=>fun _=>.stuck
 |n+1=>if n<2 then fun _=>.stuck else atC (pE n)
end
theorem zt8:∀(n:Nat),pE (n+1)=if n<2 then fun(x:List Tok)=>R.stuck else exC (pE n) (pA n):=fun _=>rfl
theorem zuf:∀(n:Nat),pA (n+1)=if n<2 then fun(x:List Tok)=>R.stuck else atC (pE n):=fun _=>rfl
inductive RP{α β:Type}(Q:α->β->Prop):R α->R β->Prop
 |ok{a:α}{b:β}(h:Q a b):RP Q (.ok a) (.ok b)
 |ve:RP Q .ve .ve
 |stuck{y:R β}:RP Q .stuck y
section
variable{α β γ δ:Type}{Q:α->β->Prop}{P:γ->δ->Prop}{x:R α}{y:R β}
theorem RP.bind{X:α->R γ}{Y:β->R δ}(h:RP Q x y)(k:∀a b,Q a b->RP P (X a) (Y b)):RP P (R.bind x X) (R.bind y Y):=by
 cases h with
 |ok h=>exact k _ _ h
 |ve=>exact .ve
 |stuck=>exact .stuck
theorem RP.cont{Y:β->R δ}{P:α->δ->Prop}(h:RP Q x y)(k:∀a b,Q a b->RP P (.ok a) (Y b)):RP P x (R.bind y Y):=by
 cases h with
 |ok h=>exact k _ _ h
 |ve=>exact .ve
 |stuck=>exact .stuck
theorem RP.oke{a:α}{b:β}(h:y=.ok b)(q:Q a b):RP Q (.ok a) y:=h▸.ok q
theorem RP.vee(h:y=.ve):RP Q .ve y:=h▸.ve
theorem RP.veb{Y:β->R δ}(h:RP Q .ve y):RP P .ve (R.bind y Y):=by
 cases h with
 |ve=>exact .ve
theorem RP.to{z:R β}(h:y=z)(k:RP Q x z):RP Q x y:=h▸k
end
inductive PQ(ts:List Tok):D×List Tok->D->Prop
 |mk{a:D}{p:Nat}(h:isDict a=false)(hp:p<=ts.length):PQ ts (a,ts.drop p) (.tuple [a,.int p])
inductive QR(ts:List Tok):D×List Tok->Fl×ze->Prop
 |mk{a:D}{p:Nat}{σ:ze}(h:isDict a=false)(hp:p<=ts.length):QR ts (a,ts.drop p) (.ret (.tuple [a,.int p]),σ)
noncomputable abbrev Rel(ts:List Tok):PR->R D->Prop:=RP (PQ ts)
set_option tactic.hygienic true in
theorem zhZ{r:List Tok}{w:Tok}{r':List Tok}(hw:w≠[])(h:jb r w=.ok r'):pk r=w/\r'=r.drop 1/\r≠[]:=by
 unfold jb at h;split at h
 ·rename_i e;injection h with h
  exact⟨e,h.symm,by rintro rfl;exact hw e.symm⟩
 ·exact nv h
theorem zq1{ts:List Tok}{p:Nat}{w:Tok}(hw:w≠[]){r:List Tok}(h:jb (ts.drop p) w=.ok r):
  zd G T 2000 (n+2) 2 [zh ts,.int p,ds w]=.ok (.int (p+1:Nat))/\r=ts.drop (p+1)/\p+1<=ts.length:=by
 obtain⟨_,e,ne⟩:=zhZ hw h;refine⟨by rw[zkX,h];rfl,by rw[e,List.drop_drop],?_⟩;have:¬ts.length<=p:=fun hc=>ne (List.drop_eq_nil_of_le hc);exact Nat.not_le.mp ‹_›
theorem zsv{ts:List Tok}{p:Nat}{w:Tok}(h:jb (ts.drop p) w=.ve):zd G T 2000 (n+2) 2 [zh ts,.int p,ds w]=.ve:=by rw[zkX,h];rfl
theorem zcW{ts:List Tok}{p:Nat}{x:Tok}(h:jH (ts.drop p)=.ok x):zd G T 2000 (n+2) 3 [zh ts,.int p]=.ok (ds x)/\p<ts.length:=by
 refine⟨by rw[zkj,h];rfl,?_⟩;by_cases hp:p<ts.length
 ·exact hp
 ·rw[List.drop_eq_nil_of_le (by exact Nat.not_lt.mp ‹_›)] at h;exact nv h
theorem zer{ts:List Tok}{p:Nat}(h:jH (ts.drop p)=.ve):zd G T 2000 (n+2) 3 [zh ts,.int p]=.ve:=by rw[zkj,h];rfl
theorem zya(t:Tok):inD (ds t) (.list [.str ⟨#[43]⟩,.str ⟨#[45]⟩])=.ok (.bool (decide (t=[43]\/t=[45]))):=by
 have:=zax t [[43],[45]];rw[show(PyData.list [.str ⟨#[43]⟩,.str ⟨#[45]⟩])=.list ([[43],[45]].map ds) from rfl,this];simp
section
variable{α:Type}{Q:α->Fl×ze->Prop}{ts:List Tok}{p:Nat}{ρ σ:ze}{es:PEs}{i:Nat}{s t:PS}{x:R α}{cf ci:Nat->List D->R D}{a c:PE}{u w:Tok}
theorem zeg(h:ev G cf a ρ=.ok (ds u))(e:u=w):ev G cf (.bin .eq a (.lit (.str (S w)))) ρ=.ok (.bool true):=zm h rfl (congrArg (fun b=>R.ok (PyData.bool b)) (decide_eq_true (congrArg S e)))
theorem zd6(h:ev G cf a ρ=.ok (ds u))(e:u≠w):ev G cf (.bin .eq a (.lit (.str (S w)))) ρ=.ok (.bool false):=zm h rfl (congrArg (fun b=>R.ok (PyData.bool b)) (decide_eq_false fun h=>e ((zcy _ _).mp h)))
theorem zoe(h:ev G cf a ρ=.ok (ds u))(e:u≠w):ev G cf (.bin .ne a (.lit (.str (S w)))) ρ=.ok (.bool true):=zm h rfl (congrArg (fun b=>R.ok (PyData.bool (!b))) (decide_eq_false fun h=>e ((zcy _ _).mp h)))
theorem ztX(h:ev G cf a ρ=.ok (ds u))(e:u=w):ev G cf (.bin .ne a (.lit (.str (S w)))) ρ=.ok (.bool false):=zm h rfl (congrArg (fun b=>R.ok (PyData.bool (!b))) (decide_eq_true (congrArg S e)))
theorem RP.nxt(h:exec G cf ci 2000 s ρ=.ok (.next,σ))(k:RP Q x (exec G cf ci 2000 t σ)):RP Q x (exec G cf ci 2000 (.seq s t) ρ):=RP.to (jy h rfl) k
theorem RP.wnt{X:List Tok->R α}(hw:w≠[])(he:evs G (zd G T 2000 (n+2)) es ρ=.ok [zh ts,.int p,ds w])(k:p+1<=ts.length->RP Q (X (ts.drop (p+1))) (exec G (zd G T 2000 (n+2)) ci 2000 t (ρ.set i (.int (p+1:Nat))))):
  RP Q (R.bind (jb (ts.drop p) w) X) (exec G (zd G T 2000 (n+2)) ci 2000 (.seq (.assign (.one i) (.call 2 es)) t) ρ):=by
 cases h:jb (ts.drop p) w with
 |ok r=>
  obtain⟨h1,rfl,h3⟩:=zq1 (n:=n) hw h;exact RP.nxt (jM (zn he h1)) (k h3)
 |ve=>exact RP.vee (congrArg (R.bind · _) (congrArg (R.bind · _) (zn he (zsv h))))
 |stuck=>exact .stuck
theorem RP.nam{X:Tok->R α}(he:evs G (zd G T 2000 (n+2)) es ρ=.ok [zh ts,.int p])(k:∀u,p<ts.length->RP Q (X u) (exec G (zd G T 2000 (n+2)) ci 2000 t (ρ.set i (ds u)))):
  RP Q (R.bind (jH (ts.drop p)) X) (exec G (zd G T 2000 (n+2)) ci 2000 (.seq (.assign (.one i) (.call 3 es)) t) ρ):=by
 cases h:jH (ts.drop p) with
 |ok r=>exact RP.nxt (jM (zn he (zcW h).1)) (k r (zcW (n:=n) h).2)
 |ve=>exact RP.vee (congrArg (R.bind · _) (congrArg (R.bind · _) (zn he (zer h))))
 |stuck=>exact .stuck
theorem RP.cam{X:D×List Tok->R α}{x:PR}{f j:Nat}{xs:List D}(h:Rel ts x (cf f xs))(he:evs G cf es ρ=.ok xs)(k:∀a p,isDict a=false->p<=ts.length->RP Q (X (a,ts.drop p)) (exec G cf ci 2000 t ((ρ.set i a).set j (.int (p:Nat))))):
  RP Q (R.bind x X) (exec G cf ci 2000 (.seq (.assign (.many [i,j]) (.call f es)) t) ρ):=by
 generalize hy:cf f xs=y at h;cases h with
 |ok h=>
  cases h with
  |mk h hp=>exact RP.nxt (zd8 (zn he hy) rfl) (k _ _ h hp)
 |ve=>exact RP.vee (congrArg (R.bind · _) (congrArg (R.bind · _) (zn he hy)))
 |stuck=>exact .stuck
theorem RP.ifr{x:PR}(hc:ev G cf c ρ=.ok (.bool true))(h:RP (QR ts) x (exec G cf ci 2000 s ρ)):RP (QR ts) x (exec G cf ci 2000 (.seq (.ifs c s .skip) t) ρ):=by
 refine RP.to (congrArg (R.bind · _) (zY hc rfl)) (RP.cont h fun a b h=>?_);cases h with
 |mk h hp=>exact .ok (.mk h hp)
theorem RP.rt{d:D}(h:ev G cf a ρ=.ok (.tuple [d,.int p]))(hd:isDict d=false)(hp:p<=ts.length):RP (QR ts) (.ok (d,ts.drop p)) (exec G cf ci 2000 (.ret a) ρ):=RP.oke (congrArg (R.bind · _) h) (.mk hd hp)
theorem RP.fin{x:PR}(h:RP (QR ts) x (exec G cf ci 2000 s ρ)):Rel ts x (R.bind (exec G cf ci 2000 s ρ) jR):=RP.cont h fun a b h=>by
 cases h with
 |mk h hp=>exact .ok (.mk h hp)
end
section
variable{ρ σ:ze}{i:Nat}{s t:PS}{x:D}{cf ci:Nat->List D->R D}{a c:PE}{xs ys:List D}
theorem zjl(h:ev G cf a ρ=.ok x)(hg:zr ρ i=.list xs)(hl:xs.length<1000000)(hx:isDict x=false)(hy:xs++[x]=ys):exec G cf ci 2000 (.app i a) ρ=.ok (.next,ρ.set i (.list ys)):=by
 rw[zfQ,hg,←hy];exact(congrArg (R.bind · _) h).trans (zt9 hg hl hx)
theorem zkn{u:PS}(h:ev G cf c ρ=.ok (.bool true)):exec G cf ci 2000 (.seq (.ifs c .raise u) t) ρ=.ve:=congrArg (R.bind · (zpZ G cf ci 2000 t)) (zY h rfl)
theorem zub(h:ev G cf a ρ=.ve)(hg:zr ρ i=.list xs):exec G cf ci 2000 (.app i a) ρ=.ve:=by
 rw[zfQ,hg];exact congrArg (R.bind · _) h
end
theorem zbs(t:Tok)(r:List Tok):pk (t::r)=t:=rfl
theorem jp{α:Type}{ts:List α}{p:Nat}{t:α}{r:List α}(h:t::r=ts.drop p):r=ts.drop (p+1)/\p+1<=ts.length:=by
 have h1:p<ts.length:=by
  by_cases hp:p<ts.length
  ·exact hp
  ·rw[List.drop_eq_nil_of_le (by exact Nat.not_lt.mp ‹_›)] at h;exact nomatch h
 refine⟨?_,h1⟩;have:List.drop (p+1) ts=(List.drop p ts).drop 1:=by rw[List.drop_drop]
 rw[this,←h];rfl
inductive SL(ts:List Tok)(x a b:D):D×List Tok->Fl×ze->Prop
 |mk{d:D}{r:List Tok}{p:Nat}{k:D}(hd:isDict d=false)(hp:p<=ts.length)(hr:r=ts.drop p):SL ts x a b (d,r) (.next,[zh ts,.int p,x,a,b,d,k,OO,OO,OO,OO,OO])
@[elab_as_elim] theorem up1{P:Nat->Prop}{k n:Nat}(h:k<n)(g:∀m,k<=m->P (m+1)):P n:=by
 induction n using Nat.casesOn with
 |zero=>exact absurd h (Nat.not_lt_zero _)
 |succ m=>exact g m (Nat.le_of_lt_succ h)
theorem jK{m k:Nat}(h:k<m):∃j,m=j+1/\k<=j:=by
 induction m using Nat.casesOn with
 |zero=>exact absurd h (Nat.not_lt_zero _)
 |succ m=>exact⟨m,rfl,Nat.le_of_lt_succ h⟩
theorem zdN{ts:List Tok}{p:Nat}{t:Tok}{σ:ze}{b:Bool}(h:pk (ts.drop p)=t)(hb:decide (t=[43]\/t=[45])=b):ev G (zd G T 2000 (n+2)) stT (zh ts::.int p::σ)=.ok (.bool b):=
 zm (zn rfl ((kF ts p).trans (congrArg (fun t=>R.ok (ds t)) h))) rfl ((zya t).trans (congrArg (fun b=>R.ok (PyData.bool b)) hb))
theorem st6{ts:List Tok}{p:Nat}{t:Tok}{x a b e:D}(h:pk (ts.drop p)=t):exec G (zd G T 2000 (n+2)) (zk G T 2000 (n+2)) 2000 (.ifs (.bin .eq (.call 1 (.cons (.var 0) (.cons (.var 1) .nil))) (.lit (.str ⟨#[43]⟩))) (.assign (.one 6) (.lit (.str ⟨#[115,117,99,99]⟩))) .skip) [zh ts,.int p,x,a,b,e,ds zdB,OO,OO,OO,OO,OO]=
  .ok (.next,[zh ts,.int p,x,a,b,e,if t=[43] then ds zd0 else ds zdB,OO,OO,OO,OO,OO]):=by
 by_cases ht:t=[43]
 ·rw[if_pos ht];exact zY (zeg (zn rfl (kF ts p)) (h.trans ht)) rfl
 ·rw[if_neg ht];exact zz (zd6 (zn rfl (kF ts p)) fun e=>ht (h.symm.trans e)) rfl
theorem zvm{t:Tok}{e:D}:(if t=[43] then zla e else zd3 e)=.tuple [if t=[43] then ds zd0 else ds zdB,e]:=by split<;>rfl
theorem zyD{t:Tok}{e:D}(h:isDict e=false):[if t=[43] then ds zd0 else ds zdB,e].any isDict=false:=by
 split
 ·exact(congrArg (fun b=>isDict (ds zd0)||(b||false)) h)
 ·exact(congrArg (fun b=>isDict (ds zdB)||(b||false)) h)
theorem zlV(ts:List Tok)(x a b:D):∀(e:D) (r:List Tok) (m p:Nat) (kind:D),r=ts.drop p->p<=ts.length->r.length<m->isDict e=false->
  RP (SL ts x a b) (stp e r) (wl G (zd G T 2000 (n+2)) (zk G T 2000 (n+2)) 2000 stT stB m [zh ts,.int p,x,a,b,e,kind,OO,OO,OO,OO,OO]):=by
 have hB:∀{p:Nat} {t:Tok} {e kind:D},pk (ts.drop p)=t->isDict e=false->RP (fun r q=>p+2<=ts.length/\r=ts.drop (p+2)/\q=(Fl.next,[zh ts,PyData.int (p+2:Nat),x,a,b,PyData.tuple [if t=[43] then ds zd0 else ds zdB,e],if t=[43] then ds zd0 else ds zdB,OO,OO,OO,OO,OO]))
   (R.bind (jb (ts.drop (p+1)) [49]) .ok) (exec G (zd G T 2000 (n+2)) (zk G T 2000 (n+2)) 2000 stB [zh ts,.int p,x,a,b,e,kind,OO,OO,OO,OO,OO]):=
  fun h he=>RP.nxt rfl (RP.nxt (st6 h) (RP.wnt (by decide) rfl fun hp=>RP.oke (jM (jC rfl (zyD he))) ⟨hp,rfl,rfl⟩))
 intro e r
 fun_induction stp e r with
 |case1 d=>
  intro m p kind hr hp hm hd;obtain⟨m,rfl,_⟩:=jK hm;exact RP.oke (zel (zdN (t:=[]) (by rw[←hr];rfl) rfl)) (.mk hd hp hr)
 |case2 d t h=>
  intro m p kind hr hp hm hd;obtain⟨m,rfl,_⟩:=jK hm;have ht:pk (ts.drop p)=t:=by rw[←hr];rfl
  have hw:R.bind (jb (ts.drop (p+1)) [49]) .ok=.ve:=by rw[←(jp hr).1];rfl
  have hB:=hB (kind:=kind) ht hd;rw[hw] at hB;exact RP.to (zg9 (zdN ht (decide_eq_true h))) (RP.veb hB)
 |case3 d t h=>
  intro m p kind hr hp hm hd;obtain⟨m,rfl,_⟩:=jK hm;exact RP.oke (zel (zdN (t:=t) (by rw[←hr];rfl) (decide_eq_false h))) (.mk hd hp hr)
 |case4 d t r h ih=>
  intro m p kind hr hp hm hd;obtain⟨m,rfl,hm'⟩:=jK hm;have ht:pk (ts.drop p)=t:=by rw[←hr];rfl
  have h1:=(jp hr).1;have h3:=jp h1;have hw:R.bind (jb (ts.drop (p+1)) [49]) .ok=.ok r:=by rw[←h1];rfl
  have hB:=hB (kind:=kind) ht hd;rw[hw] at hB;refine RP.to (zg9 (zdN ht (decide_eq_true h))) (RP.bind (x:=.ok r) (X:=fun _=>stp _ r) hB ?_);rintro _ _ ⟨_,_,rfl⟩;rw[←zvm];exact ih m (p+2) _ h3.1 h3.2 (Nat.le_of_succ_le hm') (by split<;>rfl)
 |case5 d t u r h h2=>
  intro m p kind hr hp hm hd;obtain⟨m,rfl,_⟩:=jK hm;have ht:pk (ts.drop p)=t:=by rw[←hr];rfl
  have hw:R.bind (jb (ts.drop (p+1)) [49]) .ok=.ve:=by rw[←(jp hr).1,show jb (u::r) [49]=.ve from if_neg h2];rfl
  have hB:=hB (kind:=kind) ht hd;rw[hw] at hB;exact RP.to (zg9 (zdN ht (decide_eq_true h))) (RP.veb hB)
 |case6 d t u r h=>
  intro m p kind hr hp hm hd;obtain⟨m,rfl,_⟩:=jK hm;exact RP.oke (zel (zdN (t:=t) (by rw[←hr];rfl) (decide_eq_false h))) (.mk hd hp hr)
end Mine
namespace Mine
open PySem
inductive AL(ts:List Tok)(t e x:D):List D×List Tok->Fl×ze->Prop
 |mk{as:List D}{p:Nat}{a:D}(hd:as.any isDict=false)(hp:p<=ts.length):AL ts t e x (as,ts.drop p) (.next,[zh ts,.int p,t,e,x,.list as,a,OO,OO,OO,OO,OO,OO,OO,OO])
theorem zwF{n:Nat}{ts:List Tok}{p:Nat}{as:List D}{t e x a:D}(h:as=[]\/pk (ts.drop p)=[44]):ev G (zd G T 2000 (n+2)) agT [zh ts,.int p,t,e,x,.list as,a,OO,OO,OO,OO,OO,OO,OO,OO]=.ok (.bool true):=by
 induction as using List.casesOn with
 |nil=>rfl
 |cons d as=>
  rcases h with h|h
  ·exact nomatch h
  ·exact zbz (zm rfl rfl (zaf (d::as))) (zeg (zn rfl (kF ts p)) h)
theorem ztI{n:Nat}{ts:List Tok}{p:Nat}{as:List D}{t e x a:D}(h:¬(as=[]\/pk (ts.drop p)=[44])):ev G (zd G T 2000 (n+2)) agT [zh ts,.int p,t,e,x,.list as,a,OO,OO,OO,OO,OO,OO,OO,OO]=.ok (.bool false):=by
 induction as using List.casesOn with
 |nil=>exact absurd (Or.inl rfl) h
 |cons d as=>exact zbz (zm rfl rfl (zaf (d::as))) (zd6 (zn rfl (kF ts p)) fun e=>h (Or.inr e))
theorem zkb{as:List D}{d:D}(h:as.any isDict=false)(hd:isDict d=false):(as++[d]).any isDict=false:=by
 rw[List.any_append,h];exact(congrArg (fun b=>false||(b||false)) hd)
inductive AB(ts:List Tok)(t e x:D)(as:List D):D×List Tok->Fl×ze->Prop
 |mk(d:D)(p:Nat)(hd:isDict d=false)(hp:p<=ts.length):AB ts t e x as (d,ts.drop p) (.next,[zh ts,.int p,t,e,x,.list (as++[d]),d,OO,OO,OO,OO,OO,OO,OO,OO])
theorem RP.agb{n:Nat}{ts:List Tok}{x:PR}{p:Nat}{as:List D}{t e y a:D}(h:Rel ts x (zd G T 2000 (n+2) 4 [zh ts,.int (p+1:Nat)]))(hl:as.length<2000):
  RP (AB ts t e y as) x (exec G (zd G T 2000 (n+2)) (zk G T 2000 (n+2)) 2000 agB [zh ts,.int p,t,e,y,.list as,a,OO,OO,OO,OO,OO,OO,OO,OO]):=by
 have k:RP (AB ts t e y as) (R.bind x R.ok) (exec G (zd G T 2000 (n+2)) (zk G T 2000 (n+2)) 2000 agB [zh ts,.int p,t,e,y,.list as,a,OO,OO,OO,OO,OO,OO,OO,OO]):=
  RP.cam h rfl fun d pa hd hp=>RP.oke (zt9 (xs:=as) rfl (Nat.lt_trans hl (by decide)) hd) (.mk d pa hd hp)
 have e:R.bind x R.ok=x:=by induction x using R.casesOn<;>rfl
 rw[e] at k;exact k
theorem nd4{u x a b:D}(h:isDict a=false)(g:isDict b=false)(hx:isDict x=false:=by rfl)(hu:isDict u=false:=by rfl):[u,x,a,b].any isDict=false:=by
 show(isDict u||(isDict x||(isDict a||(isDict b||false))))=false;rw[h,g,hx,hu];rfl
theorem nd2{a:D}{i:Int}(h:isDict a=false):[a,.int i].any isDict=false:=by
 show(isDict a||(false||false))=false;rw[h];rfl
theorem zls{n:Nat}(ts:List Tok)(pf:List Tok->PR)(ih:∀p,p<=ts.length->Rel ts (pf (ts.drop p)) (zd G T 2000 (n+2) 4 [zh ts,.int p]))(t e x:D):
  ∀(m p:Nat) (as:List D) (a:D),p<ts.length->as.length+m<=2000->as.any isDict=false->
  RP (AL ts t e x) (agC pf m as (ts.drop p)) (wl G (zd G T 2000 (n+2)) (zk G T 2000 (n+2)) 2000 agT agB m [zh ts,.int p,t,e,x,.list as,a,OO,OO,OO,OO,OO,OO,OO,OO]):=by
 intro m;induction m with
 |zero=>intro p as a hp hm hd;exact .stuck
 |succ m ihm=>
  intro p as a hp hm hd;rw[zbG];by_cases h:as=[]\/pk (ts.drop p)=[44]
  ·rw[if_pos h,List.drop_drop];have hm':as.length+1+m<=2000:=by rw[Nat.add_assoc,Nat.add_comm 1];exact hm
   refine RP.to (zg9 (zwF h)) (RP.bind (RP.agb (x:=pf (ts.drop (p+1))) (ih (p+1) hp) (qD (Nat.lt_succ_self _) (qA (Nat.le_add_right _ _) hm'))) ?_);rintro _ _ ⟨d,pa,hda,hpa⟩;by_cases hpl:pa<ts.length
   ·exact ihm pa (as++[d]) d hpl (by rw[List.length_append];exact hm') (zkb hd hda)
   ·induction m using Nat.casesOn with
    |zero=>exact .stuck
    |succ m=>
     have hno:¬(as++[d]=[]\/pk (ts.drop pa)=[44]):=by rw[List.drop_eq_nil_of_le (Nat.not_lt.mp hpl)];simp[pk]
     show RP _ (agC pf (m+1) (as++[d]) (ts.drop pa)) _;rw[zbG,if_neg hno];exact RP.oke (zel (ztI hno)) (.mk (zkb hd hda) hpa)
  ·rw[if_neg h];exact RP.oke (zel (ztI h)) (.mk hd (qC hp))
theorem zgG{ts:List Tok}{p:Nat}(h:pk (ts.drop p)≠[]):p<ts.length:=by
 by_cases hc:ts.length<=p
 ·rw[List.drop_eq_nil_of_le hc] at h;exact absurd rfl h
 ·exact Nat.not_le.mp hc
theorem zxO{cf:Nat->List D->R D}{a b:D}{σ:ze}(t:Tok):ev G cf nuC (a::b::ds t::σ)=.ok (.bool (zbi t)):=by
 induction t using List.casesOn with
 |nil=>rfl
 |cons c t=>exact zaS (zoe (w:=[]) rfl (List.cons_ne_nil _ _)) (zm rfl rfl (zjG c))
theorem zxG{cf:Nat->List D->R D}{a b:D}{σ:ze}{t:Tok}(h:zbi t=true):ev G cf zeC (a::b::ds t::σ)=.ok (.bool (decide (1<t.length/\t.head?=some 48))):=by
 induction t using List.casesOn with
 |nil=>exact ff h
 |cons c t=>
  by_cases hl:1<(c::t).length
  ·have hl':(1:Int)<((c::t).length:Nat):=Int.ofNat_lt.mpr hl;refine zaS (zm rfl rfl (congrArg (fun b=>R.ok (PyData.bool b)) (decide_eq_true hl'))) ?_;by_cases hc:c=48
   ·rw[decide_eq_true ⟨hl,congrArg some hc⟩];exact zeg (u:=[c]) (w:=[48]) rfl (congrArg (fun c=>[c]) hc)
   ·rw[decide_eq_false fun h=>hc (Option.some.inj h.2)];exact zd6 (u:=[c]) (w:=[48]) rfl fun h=>hc (List.cons.inj h).1
  ·have hl':¬(1:Int)<((c::t).length:Nat):=fun h=>hl (Int.ofNat_lt.mp h);rw[decide_eq_false fun h=>hl h.1];exact zjn (zm rfl rfl (congrArg (fun b=>R.ok (PyData.bool b)) (decide_eq_false hl')))
theorem zhh(ts:List Tok)(hl:ts.length<1000):∀n,(∀p,p<=ts.length->Rel ts (pE n (ts.drop p)) (zd G T 2000 n 4 [zh ts,.int p]))/\
  (∀p,p<=ts.length->Rel ts (pA n (ts.drop p)) (zd G T 2000 n 5 [zh ts,.int p])):=by
 intro n;induction n with
 |zero=>exact⟨fun p _=>.stuck,fun p _=>.stuck⟩
 |succ n ih=>
  obtain⟨ihE,ihA⟩:=ih;rw[zt8,zuf];by_cases hn:n<2
  ·rw[if_pos hn,if_pos hn];exact⟨fun p _=>.stuck,fun p _=>.stuck⟩
  rw[if_neg hn,if_neg hn];obtain⟨n,rfl⟩:∃k,n=k+2:=⟨n - 2,(Nat.sub_add_cancel (Nat.not_lt.mp hn)).symm⟩;clear hn;constructor
  ·intro p hp;rw[zvV];refine RP.fin ?_;unfold exC;by_cases h:pk (ts.drop p)=tIf
   ·rw[if_pos h,List.drop_drop,List.drop_drop];exact RP.ifr (zeg (zn rfl (kF ts p)) h) (RP.nam rfl fun x hp1=>RP.wnt (by decide) rfl fun hp2=>RP.cam (ihE _ hp2) rfl fun a pa hda hpa=>
     RP.wnt (by decide) rfl fun hp3=>RP.cam (ihE _ hp3) rfl fun b pb hdb hpb=>RP.rt (jC (zj (jC rfl (nd4 hda hdb)) rfl) rfl) rfl hpb)
   ·rw[if_neg h];exact RP.nxt (zz (zd6 (zn rfl (kF ts p)) h) rfl) (RP.cam (ihA p hp) rfl fun e pa hda hpa=>RP.cont (zlV (n:=n) ts .none .none .none e (ts.drop pa) 2000 pa .none rfl hpa
     (qB (qA (Nat.le_of_eq (List.length_drop ..)) (Nat.sub_le _ _)) (Nat.lt_trans hl (by decide))) hda) fun _ _ h=>h.casesOn fun hd hp hr=>hr▸RP.rt (jC rfl (nd2 hd)) hd hp)
  ·intro p hp;rw[zuO];refine RP.fin (RP.nxt (jM (zn rfl (kF ts p))) ?_);unfold atC;by_cases h:pk (ts.drop p)=[40]
   ·rw[if_pos h,List.drop_drop];exact RP.ifr (zeg rfl h) (RP.cam (ihE _ (zgG fun e=>nomatch e.symm.trans h)) rfl fun a pa hda hpa=>RP.wnt (by decide) rfl fun hp3=>RP.rt (jC rfl (nd2 hda)) hda hp3)
   ·rw[if_neg h];refine RP.nxt (zz (zd6 rfl h) rfl) ?_;have hN:=zxO (cf:=zd G T 2000 (n+2)) (a:=zh ts) (b:=.int p) (σ:=[OO,OO,OO,OO,OO,OO,OO,OO,OO,OO,OO,OO]) (pk (ts.drop p));by_cases hb:zbi (pk (ts.drop p))=true
    ·rw[if_pos hb];rw[hb] at hN;have hp1:p+1<=ts.length:=zgG fun e=>by rw[e] at hb;exact ff hb
     have hz:=zxG (cf:=zd G T 2000 (n+2)) (a:=zh ts) (b:=.int p) (σ:=[OO,OO,OO,OO,OO,OO,OO,OO,OO,OO,OO,OO]) hb;refine RP.ifr hN ?_;unfold zoF;by_cases hc:1<(pk (ts.drop p)).length/\(pk (ts.drop p)).head?=some 48
     ·rw[if_pos hc];rw[decide_eq_true hc] at hz;exact RP.vee (congrArg (R.bind · _) (zY hz rfl))
     ·rw[if_neg hc];rw[decide_eq_false hc] at hz;refine RP.nxt (zz hz rfl) ?_;cases hm:zkA (S (pk (ts.drop p))) with
      |none=>exact .stuck
      |some i=>
       show RP _ (R.ok (zfF i,(ts.drop p).drop 1)) _;rw[List.drop_drop];exact RP.rt (jC (zj (jC (zj rfl (zj (zbA rfl (congrArg (fun o=>R.bind (z7 o) fun i=>R.ok (PyData.int i)) hm)) rfl)) rfl) rfl) rfl) rfl hp1
    ·rw[if_neg hb];rw[Bool.not_eq_true] at hb;rw[hb] at hN;refine RP.nxt (zz hN rfl) (RP.nam rfl fun x hp1=>RP.nxt rfl ?_);rw[List.drop_drop];by_cases hq:pk (ts.drop (p+1))=[40]
     ·rw[if_pos hq];exact RP.nxt (zz (ztX (zn rfl (kF ts (p+1))) hq) rfl) (RP.nxt rfl (RP.bind (zls (n:=n) ts (pE (n+2)) ihE (ds (pk (ts.drop p))) .none (ds x) 2000 (p+1) [] .none (zgG fun e=>nomatch e.symm.trans hq) (by decide) rfl)
       fun _ _ h=>h.casesOn fun hd hp=>RP.wnt (by decide) rfl fun hp3=>RP.rt (jC rfl rfl) rfl hp3))
     ·rw[if_neg hq];exact RP.ifr (zoe (zn rfl (kF ts (p+1))) hq) (RP.rt rfl rfl hp1)
end Mine
namespace Mine
open PySem
noncomputable def cls(c:Nat):Nat:=if jX c then 1 else if jm c then 2 else 0
noncomputable def same(c:Nat):List Nat->Bool
 |[]=>false
 |d::_=>cls c==cls d
noncomputable def zkY(c:Nat):List Tok->List Tok
 |[]=>[[c]]
 |t::ts=>(c::t)::ts
noncomputable def tok:List Nat->List Tok
 |[]=>[]
 |c::r=>if c=32 then tok r else if cls c≠0/\same c r=true then zkY c (tok r) else[c]::tok r
theorem znS:tok []=[]:=rfl
theorem zbg:∀(d:Nat) (tail:List Nat),tok (d::tail)=if d=32 then tok tail else if cls d≠0/\same d tail=true then zkY d (tok tail) else[d]::tok tail:=fun _ _=>rfl
theorem zpr(p:Nat->Bool)(r:List Nat):(r.takeWhile p).length<=r.length:=by
 induction r with
 |nil=>simp
 |cons c r ih=>simp only[List.takeWhile_cons];split<;>simp<;>assumption
theorem zk0(p:Nat->Bool)(r:List Nat):r.take (r.takeWhile p).length=r.takeWhile p:=by
 induction r with
 |nil=>rfl
 |cons c r ih=>simp only[List.takeWhile_cons];split<;>simp[ih]
theorem zkH(p:Nat->Bool)(r:List Nat):r.drop (r.takeWhile p).length=r.dropWhile p:=by
 induction r with
 |nil=>rfl
 |cons c r ih=>simp only[List.takeWhile_cons,List.dropWhile_cons];split<;>simp[ih]
theorem zgK:cls 32=0:=by decide
theorem zdr{k:Nat}(hk:k≠0):∀(r:List Nat) (c:Nat),cls c=k->tok (c::r)=(c::r.takeWhile (fun d=>cls d==k))::tok (r.dropWhile (fun d=>cls d==k)):=by
 intro r;induction r with
 |nil=>
  intro c hc;have:c≠32:=by rintro rfl;rw[zgK] at hc;exact hk hc.symm
  simp[znS,zbg,this,same]
 |cons d r ih=>
  intro c hc;have h32:c≠32:=by rintro rfl;rw[zgK] at hc;exact hk hc.symm
  rw[zbg,if_neg h32];by_cases hd:cls d=k
  ·rw[if_pos ⟨by rw[hc];exact hk,by simp[same,hc,hd]⟩,ih d hd];simp[zkY,hd]
  ·rw[if_neg (by simp[same,hc];intro _ h;exact hd h.symm)];simp[hd]
theorem zpa{l:List Nat}{j c:Nat}{r:List Nat}(hd:l.drop j=c::r):jg (ds l) (.int j)=.ok (ds [c]):=by
 rw[zhk];have:l[j]?=some c:=by
  have:=congrArg List.head? hd
  rwa [List.head?_drop] at this
 rw[this]
section
variable{cf:Nat->List D->R D}{l:List Nat}{j i:Nat}{ρ:ze}
theorem zye{cio:Nat->List D->R D}{c:PE}{s:PS}{m:Nat}{σ:ze}{r:R (Fl×ze)}(h:ev G cf c ρ=.ok (.bool true))(g:exec G cf cio 2000 s ρ=.ok (.next,σ))(k:wl G cf cio 2000 c s m σ=r):wl G cf cio 2000 c s (m+1) ρ=r:=(zg9 h).trans ((congrArg (R.bind · _) g).trans k)
theorem zn4(h0:zr ρ 0=ds l)(h:zr ρ i=.int j)(hj:j<l.length):ev G cf (.bin .lt (.var i) (.un .len (.var 0))) ρ=.ok (.bool true):=
 zm (congrArg R.ok h) (zbA (congrArg R.ok h0) rfl) (congrArg (fun b=>R.ok (PyData.bool b)) (decide_eq_true (Int.ofNat_lt.mpr hj)))
theorem ztt(h0:zr ρ 0=ds l)(h:zr ρ i=.int j)(hj:l.length<=j):ev G cf (.bin .lt (.var i) (.un .len (.var 0))) ρ=.ok (.bool false):=
 zm (congrArg R.ok h) (zbA (congrArg R.ok h0) rfl) (congrArg (fun b=>R.ok (PyData.bool b)) (decide_eq_false fun h=>absurd (Int.ofNat_lt.mp h) (Nat.not_lt.mpr hj)))
theorem zeY{c:Nat}{r:List Nat}{gi:Nat}{b:Bool}(h0:zr ρ 0=ds l)(h:zr ρ i=.int j)(hd:l.drop j=c::r)(hG:inD (ds [c]) (G.getD gi .none)=.ok (.bool b)):ev G cf (.bin .mem (.bin .idx (.var 0) (.var i)) (.glob gi)) ρ=.ok (.bool b):=
 zm (zm (congrArg R.ok h0) (congrArg R.ok h) (zpa hd)) rfl hG
end
theorem ziN{n:Nat}(l:List Nat)(gi:Nat)(pr:Nat->Bool)(hG:∀c,inD (ds [c]) (G.getD gi .none)=.ok (.bool (pr c)))(x y z w v:D):∀(m j:Nat),(l.drop j).length<m->j<=l.length->
  wl G (zd G T 2000 n) (zk G T 2000 n) 2000 (.and_ (.bin .lt (.var 3) (.un .len (.var 0))) (.bin .mem (.bin .idx (.var 0) (.var 3)) (.glob gi))) (.assign (.one 3) (.bin .add (.var 3) (.lit (.int 1)))) m
   [ds l,x,y,.int j,z,w,v]=.ok (.next,[ds l,x,y,.int (j+((l.drop j).takeWhile pr).length:Nat),z,w,v]):=by
 intro m;induction m with
 |zero=>intro j h;exact absurd h (Nat.not_lt_zero _)
 |succ m ih=>
  intro j hm hj;cases hd:l.drop j with
  |nil=>exact zel (zjn (ztt rfl rfl (List.drop_eq_nil_iff.mp hd)))
  |cons c r=>
   obtain⟨hr,hj1⟩:=jp hd.symm;have hb:=hG c;rw[List.takeWhile_cons];by_cases hc:pr c=true
   ·rw[hc] at hb;rw[if_pos hc,List.length_cons,Nat.add_comm (r.takeWhile pr).length 1,←Nat.add_assoc,hr];exact zye (ρ:=[ds l,x,y,.int j,z,w,v]) (zaS (zn4 rfl rfl hj1) (zeY rfl rfl hd hb)) rfl (ih (j+1) (by rw[hd] at hm;rw[←hr];exact Nat.lt_of_succ_lt_succ hm) hj1)
   ·rw[Bool.not_eq_true] at hc;rw[hc] at hb;rw[if_neg (by rw[hc];decide)];exact zel (zaS (zn4 rfl rfl hj1) (zeY rfl rfl hd hb))
theorem zow(l:List Nat)(i j:Nat)(h1:i<=j)(h2:j<=l.length):zgr (ds l) (.int i) (.int j)=.ok (ds ((l.drop i).take (j - i))):=by
 show(if(0:Int)<=i/\(i:Int)<=j/\(j:Int)<=(l.length:Nat) then R.ok (PyData.str (sub (S l) i j)) else .stuck)=_;rw[if_pos (by lia)];have:sub (S l) i j=S ((l.drop i).take (j - i)):=by
  unfold sub;simp[List.extract]
 rw[this]
noncomputable def zcm(c:Nat)(r:List Nat):Nat:=if jX c=true then(r.takeWhile jX).length else if jm c=true then(r.takeWhile jm).length else 0
theorem zsi(c:Nat)(r:List Nat):zcm c r<=r.length:=by
 unfold zcm;split
 ·exact zpr _ _
 ·split
  ·exact zpr _ _
  ·exact Nat.zero_le _
theorem zxF:(fun d=>cls d==1)=jX:=by
 funext d;unfold cls
 cases jX d<;>simp<;>split<;>trivial
theorem zx7:(fun d=>cls d==2)=jm:=by
 funext d
 rw[Bool.eq_iff_iff];simp only[cls,jX,jm,beq_iff_eq];by_cases ha:97<=d/\d<=122<;>by_cases hb:48<=d/\d<=57<;>simp[ha,hb];lia
theorem zxa(c:Nat)(r:List Nat):tok (c::r)=(if c=32 then[] else[c::r.take (zcm c r)])++tok (r.drop (zcm c r)):=by
 unfold zcm;by_cases h1:jX c=true
 ·have ht:=zdr (by decide:(1:Nat)≠0) r c (if_pos h1);rw[zxF] at ht;rw[ht,if_pos h1,if_neg (by rintro rfl;exact ff h1),zk0,zkH];rfl
 ·rw[if_neg h1];by_cases h2:jm c=true
  ·have ht:=zdr (by decide:(2:Nat)≠0) r c ((if_neg h1).trans (if_pos h2));rw[zx7] at ht;rw[ht,if_pos h2,if_neg (by rintro rfl;exact ff h2),zk0,zkH];rfl
  ·have hc:cls c=0:=(if_neg h1).trans (if_neg h2);rw[if_neg h2,zbg];by_cases h3:c=32
   ·rw[if_pos h3,if_pos h3];rfl
   ·rw[if_neg h3,if_neg h3,if_neg fun h=>h.1 hc];rfl
theorem zqN{n:Nat}{l:List Nat}(hl:l.length<1900){i c:Nat}{r:List Nat}{ts:D}(hd:l.drop i=c::r):
  exec G (zd G T 2000 n) (zk G T 2000 n) 2000 tkS [ds l,ts,.int i,.int (i+1:Nat),OO,OO,OO]=.ok (.next,[ds l,ts,.int i,.int (i+1+zcm c r:Nat),OO,OO,OO]):=by
 obtain⟨hr,hj⟩:=jp hd.symm;have hm:(l.drop (i+1)).length<2000:=qB (qA (Nat.le_of_eq (List.length_drop ..)) (Nat.sub_le _ _)) (Nat.lt_trans hl (by decide));have h0:=ziQ c;unfold zcm;by_cases h1:jX c=true
 ·rw[h1] at h0;rw[if_pos h1,hr];exact zY (zeY rfl rfl hd h0) (ziN (n:=n) l 0 jX ziQ ts (.int i) .none .none .none 2000 (i+1) hm hj)
 ·rw[if_neg h1];rw[Bool.not_eq_true] at h1;rw[h1] at h0;have h2:=zjG c;by_cases h3:jm c=true
  ·rw[h3] at h2;rw[if_pos h3,hr];exact zz (zeY rfl rfl hd h0) (zY (zeY rfl rfl hd h2) (ziN (n:=n) l 1 jm zjG ts (.int i) .none .none .none 2000 (i+1) hm hj))
  ·rw[if_neg h3];rw[Bool.not_eq_true] at h3;rw[h3] at h2;exact zz (zeY rfl rfl hd h0) (zz (zeY rfl rfl hd h2) rfl)
theorem zux{n:Nat}{l:List Nat}{i c q:Nat}{r:List Nat}{ts:List Tok}{w:Tok}(hd:l.drop i=c::r)(hq:i<=q)(hq2:q<=l.length)(hw:(l.drop i).take (q - i)=w)(hts:ts.length<1000000):
  exec G (zd G T 2000 n) (zk G T 2000 n) 2000 (.ifs (.bin .ne (.bin .idx (.var 0) (.var 2)) (.lit (.str ⟨#[32]⟩))) (.app 1 (.tri .slice (.var 0) (.var 2) (.var 3))) .skip) [ds l,zh ts,.int i,.int q,OO,OO,OO]=
  .ok (.next,[ds l,zh (ts++if c=32 then[] else[w]),.int i,.int q,OO,OO,OO]):=by
 by_cases hc:c=32
 ·rw[if_pos hc,List.append_nil];exact zz (ztX (u:=[c]) (zm rfl rfl (zpa hd)) (congrArg (fun c=>[c]) hc)) rfl
 ·rw[if_neg hc];exact zY (zoe (u:=[c]) (zm rfl rfl (zpa hd)) fun h=>hc (List.cons.inj h).1) (zjl (x:=ds w) (xs:=ts.map ds) ((zow l i q hq hq2).trans (congrArg (fun w=>R.ok (ds w)) hw)) rfl (by rw[List.length_map];exact hts) rfl (List.map_append (f:=ds) (l₁:=ts) (l₂:=[w])).symm)
theorem zsz{n:Nat}(l:List Nat)(hl:l.length<1900):∀(m i:Nat) (ts:List Tok) (j:D),l.length<i+m->i<=l.length->ts.length<=i->
  ∃j',wl G (zd G T 2000 n) (zk G T 2000 n) 2000 (.bin .lt (.var 2) (.un .len (.var 0))) (.seq (.assign (.one 3) (.bin .add (.var 2) (.lit (.int 1)))) (.seq tkS
   (.seq (.ifs (.bin .ne (.bin .idx (.var 0) (.var 2)) (.lit (.str ⟨#[32]⟩))) (.app 1 (.tri .slice (.var 0) (.var 2) (.var 3))) .skip) (.assign (.one 2) (.var 3))))) m [ds l,zh ts,.int i,j,OO,OO,OO]=
   .ok (.next,[ds l,zh (ts++tok (l.drop i)),.int l.length,j',OO,OO,OO]):=by
 intro m;induction m with
 |zero=>intro i ts j h hi;exact absurd h (Nat.not_lt.mpr hi)
 |succ m ih=>
  intro i ts j h hi hts;cases hd:l.drop i with
  |nil=>
   have hil:=List.drop_eq_nil_iff.mp hd;have e:i=l.length:=Nat.le_antisymm hi hil;refine⟨j,?_⟩;rw[znS,List.append_nil,←e];exact zel (ztt rfl rfl hil)
  |cons c r=>
   obtain⟨hr,hj⟩:=jp hd.symm;have hw:=zsi c r;have hrl:i+1+r.length=l.length:=by rw[hr,List.length_drop];exact Nat.add_sub_cancel' hj
   have hq2:i+1+zcm c r<=l.length:=hrl▸Nat.add_le_add_left hw _;have hq:i+1<=i+1+zcm c r:=Nat.le_add_right _ _;have he:i+1+zcm c r - i=zcm c r+1:=by rw[Nat.add_assoc,Nat.add_sub_cancel_left,Nat.add_comm]
   have hlen:(ts++if c=32 then[] else[c::r.take (zcm c r)]).length<=i+1+zcm c r:=by
    refine qA ?_ hq;rw[List.length_append];refine Nat.add_le_add hts ?_;split
    ·exact Nat.zero_le _
    ·exact Nat.le_refl 1
   obtain⟨j',e⟩:=ih (i+1+zcm c r) (ts++if c=32 then[] else[c::r.take (zcm c r)]) (.int (i+1+zcm c r:Nat)) (qD (Nat.add_succ i m▸h) (by rw[←Nat.succ_add];exact Nat.add_le_add_right hq m)) hq2 hlen;refine⟨j',?_⟩;rw[zxa,←List.append_assoc,hr,List.drop_drop,←hr];exact zye (zn4 rfl rfl hj) (jy rfl (jy (zqN hl hd) (jy (zux hd (qA (Nat.le_succ i) hq) hq2 (by rw[hd,he];rfl) (qB hts (qB hi (Nat.lt_trans hl (by decide))))) rfl))) e
theorem zf6{n:Nat}(l:List Nat)(hl:l.length<1900):zd G T 2000 (n+1) 0 [ds l]=.ok (zh (tok l)):=by
 rw[zpt];obtain⟨j,e⟩:=zsz (n:=n) l hl 2000 0 [] .none (by rw[Nat.zero_add];exact Nat.lt_trans hl (by decide)) (Nat.zero_le _) (Nat.le_refl 0);exact(Rt.nxt rfl (Rt.nxt rfl (Rt.nxt (zqe.trans e) (Rt.ret rfl)))).fin
end Mine
namespace Mine
open PySem
theorem zkw(l:List Nat):(tok l).length<=l.length:=by
 induction l with
 |nil=>trivial
 |cons c r ih=>
  rw[zbg];split
  ·simp;exact Nat.le_succ_of_le ‹_›
  ·split
   ·cases h:tok r with
    |nil=>exact Nat.zero_lt_succ _
    |cons t ts=>rw[h] at ih;simp[zkY] at ih ⊢;exact qC ‹_›
   ·simp;assumption
noncomputable def twC(ns:List Tok):Bool:=(List.range ns.length).any fun i=>(ns.take i).contains (ns.getD i [])
theorem zmj(ns:List Tok)(i:Nat):zk9 (zh ns) (.int i)=.ok (zh (ns.take i)):=by
 show(if(0:Int)<=i then R.ok (PyData.list ((ns.map ds).take (i:Int).toNat)) else .stuck)=_;rw[if_pos (by exact Int.natCast_nonneg _)];simp
theorem zxy{cf:Nat->List D->R D}{ns:List Tok}{i:Nat}(hi:i<ns.length):ev G cf (.bin .mem (.bin .idx (.var 0) (.var 1)) (.bin .upto (.var 0) (.var 1))) [zh ns,.int i,OO,OO]=.ok (.bool ((ns.take i).contains (ns.getD i []))):=by
 have hx:jg (zh ns) (.int i)=.ok (ds (ns.getD i [])):=by
  rw[zai,List.getElem?_map,List.getElem?_eq_getElem hi,List.getD_eq_getElem?_getD,List.getElem?_eq_getElem hi];rfl
 exact zm (zm rfl rfl hx) (zm rfl rfl (zmj ns i)) (zax _ _)
theorem zs7{cf ci:Nat->List D->R D}{ns:List Tok}:∀(is:List Nat) (v:D),(∀i∈is,i<ns.length)->∃d,fl G cf ci 2000 (.one 1) twB (is.map fun(k:Nat)=>PyData.int k) [zh ns,v,OO,OO]=
  if is.any (fun i=>(ns.take i).contains (ns.getD i [])) then .ok (.ret (.bool true),[zh ns,d,OO,OO]) else .ok (.next,[zh ns,d,OO,OO]):=by
 intro is;induction is with
 |nil=>intro v _;exact⟨v,rfl⟩
 |cons i is ih=>
  intro v hi;have hc:=zxy (cf:=cf) (hi i List.mem_cons_self);rw[List.any_cons];generalize (ns.take i).contains (ns.getD i [])=c at hc;induction c using Bool.casesOn with
  |false=>
   obtain⟨d,e⟩:=ih (.int i) fun j hj=>hi j (List.mem_cons_of_mem _ hj);exact⟨d,(congrArg (R.bind · (kFl G cf ci 2000 (.one 1) twB _)) (zz hc rfl)).trans e⟩
  |true=>exact⟨.int i,congrArg (R.bind · (kFl G cf ci 2000 (.one 1) twB _)) (zY hc rfl)⟩
theorem zic{n:Nat}(ns:List Tok)(hl:ns.length<1000):zd G T 2000 (n+1) 7 [zh ns]=.ok (.bool (twC ns)):=by
 obtain⟨d,e⟩:=zs7 (cf:=zd G T 2000 n) (ci:=zk G T 2000 n) (ns:=ns) (List.range ns.length) .none fun i hi=>List.mem_range.mp hi;refine(zrd ..).trans ?_;have e:exec G (zd G T 2000 n) (zk G T 2000 n) 2000 (.forr (.one 1) true (.un .len (.var 0)) twB) [zh ns,OO,OO,OO]=if twC ns=true then .ok (.ret (.bool true),[zh ns,d,OO,OO]) else .ok (.next,[zh ns,d,OO,OO]):=
  (congrArg (R.bind · (zc1 G _ _ 2000 (.one 1) true twB _)) (zbA (u:=.len) (a:=.var 0) (x:=zh ns) (ρ:=[zh ns,OO,OO,OO]) rfl (congrArg (fun n:Nat=>R.ok (PyData.int n)) (List.length_map (as:=ns) ds)))).trans ((zc8 (qA (qC hl) (by decide))).trans e)
 generalize twC ns=c at e;induction c using Bool.casesOn with
 |false=>exact Rt.fin (Rt.nxt e (Rt.ret rfl))
 |true=>exact Rt.fin (Rt.seq ⟨_,e⟩)
structure Row where
 f:Tok
 ps:List Tok
 b:D
noncomputable def Row.d(r:Row):D:=.tuple [ds r.f,zh r.ps,r.b]
noncomputable def prC:List Tok->List Tok->R (List Tok×List Tok)
 |ps,[]=>.ok (ps,[])
 |ps,[c]=>if c=[44] then .ve else .ok (ps,[c])
 |ps,c::x::r=>if c=[44] then(if kW x then prC (ps++[x]) r else .ve) else .ok (ps,c::x::r)
noncomputable def zcl(n:Nat)(ts:List Tok):R Row:=
 R.bind (jH ts) fun f=>R.bind (jb (ts.drop 1) [40]) fun r=>R.bind (jH r) fun p=>R.bind (prC [p] (r.drop 1)) fun q=>
  R.bind (jb q.2 [41]) fun r=>R.bind (jb r [61]) fun r=>R.bind (pE n r) fun e=>if e.2≠[]\/twC q.1=true then .ve else .ok ⟨f,q.1,e.1⟩
noncomputable def zbc(n:Nat):List (List Nat)->R (List Row)
 |[]=>.ok []
 |l::ls=>if tok l=[] then zbc n ls else R.bind (zcl n (tok l)) fun r=>R.bind (zbc n ls) fun rs=>.ok (r::rs)
theorem zio:∀(n:Nat) (l:List Nat) (ls:List (List Nat)),zbc n (l::ls)=if tok l=[] then zbc n ls else(zcl n (tok l)).bind fun(r:Row)=>(zbc n ls).bind fun(rs:List Row)=>R.ok (r::rs):=fun _ _ _=>rfl
section
variable{n:Nat}{α:Type}{Q:α->Fl×ze->Prop}{ts:List Tok}{p:Nat}{ρ σ:ze}{es:PEs}{i:Nat}{s t:PS}{x:D}{cf ci:Nat->List D->R D}{a c:PE}{xs ys:List D}
theorem RP.nnl{X:Tok->R α}(he:evs G (zd G T 2000 (n+2)) es ρ=.ok [zh ts,.int p])(k:∀u,p<ts.length->RP Q (X u) (exec G (zd G T 2000 (n+2)) ci 2000 t (ρ.set i (.list [ds u])))):
  RP Q (R.bind (jH (ts.drop p)) X) (exec G (zd G T 2000 (n+2)) ci 2000 (.seq (.newl i (.cons (.call 3 es) .nil)) t) ρ):=by
 cases h:jH (ts.drop p) with
 |ok r=>exact RP.nxt (congrArg (R.bind · (zj9 ρ i)) (zj (es:=.nil) (xs:=[]) (zn he (zcW h).1) rfl)) (k r (zcW (n:=n) h).2)
 |ve=>exact RP.vee (congrArg (R.bind · _) (congrArg (R.bind · (zj9 ρ i)) (congrArg (R.bind · (zpW G _ ρ .nil)) (zn he (zer h)))))
 |stuck=>exact .stuck
end
inductive PL(ts:List Tok)(N:Nat)(t0 t1 t2 t4 t7:D):List Tok×List Tok->Fl×ze->Prop
 |mk{ps r:List Tok}{p:Nat}(hp:p<=ts.length)(hr:r=ts.drop p)(hl:ps.length<=N):PL ts N t0 t1 t2 t4 t7 (ps,r) (.next,[t0,t1,t2,zh ts,t4,.int p,zh ps,t7,OO,OO,OO,OO,OO,OO,OO,OO,OO,OO,OO])
theorem zm9{n:Nat}(ts:List Tok)(N:Nat)(hN:N<2000)(t0 t1 t2 t4 t7:D):∀(ps r:List Tok) (m p:Nat),r=ts.drop p->p<=ts.length->r.length<m->ps.length+r.length<=N->
  RP (PL ts N t0 t1 t2 t4 t7) (prC ps r) (wl G (zd G T 2000 (n+2)) (zk G T 2000 (n+2)) 2000 pwC pwB m [t0,t1,t2,zh ts,t4,.int p,zh ps,t7,OO,OO,OO,OO,OO,OO,OO,OO,OO,OO,OO]):=by
 intro ps r
 fun_induction prC ps r with
 |case1 ps=>
  intro m p hr hp hm hl;obtain⟨m,rfl,_⟩:=jK hm;exact RP.oke (zel (zd6 (u:=[]) (zn rfl ((kF ts p).trans (by rw[←hr];rfl))) (by decide))) (.mk hp hr hl)
 |case2 ps=>
  intro m p hr hp hm hl;obtain⟨m,rfl,_⟩:=jK hm;exact RP.vee ((zg9 (zeg (u:=[44]) (zn rfl ((kF ts p).trans (by rw[←hr];rfl))) rfl)).trans (congrArg (R.bind · _) (congrArg (R.bind · _) (zub (zn rfl (zer (p:=p+1) (by rw[←(jp hr).1];rfl))) rfl))))
 |case3 ps c h=>
  intro m p hr hp hm hl;obtain⟨m,rfl,_⟩:=jK hm;exact RP.oke (zel (zd6 (u:=c) (zn rfl ((kF ts p).trans (by rw[←hr];rfl))) h)) (.mk hp hr (qA (Nat.le_add_right _ _) hl))
 |case4 ps x r h ih=>
  intro m p hr hp hm hl;obtain⟨m,rfl,hm'⟩:=jK hm;have h1:=(jp hr).1;have h3:=jp h1;have hl':(ps++[x]).length+r.length<=N:=by rw[List.length_append,Nat.add_assoc,Nat.add_comm [x].length];exact qA (Nat.add_le_add_left (Nat.le_succ _) _) hl
  refine RP.to ((zg9 (zeg (u:=[44]) (zn rfl ((kF ts p).trans (by rw[←hr];rfl))) rfl)).trans (congrArg (R.bind · _) (jy (zjl (ys:=(ps++[x]).map ds) (zn rfl (zcW (n:=n) (p:=p+1) (x:=x) (by rw[←h1];exact if_pos h)).1) rfl ?_ rfl (List.map_append (f:=ds) (l₁:=ps) (l₂:=[x])).symm) rfl))) (ih m (p+2) h3.1 h3.2 (Nat.le_of_succ_le hm') hl');rw[List.length_map];exact qB (qA (Nat.le_add_right _ _) hl) (Nat.lt_trans hN (by decide))
 |case5 ps x r h=>
  intro m p hr hp hm hl;obtain⟨m,rfl,_⟩:=jK hm;exact RP.vee ((zg9 (zeg (u:=[44]) (zn rfl ((kF ts p).trans (by rw[←hr];rfl))) rfl)).trans (congrArg (R.bind · _) (congrArg (R.bind · _) (zub (zn rfl (zer (p:=p+1) (by rw[←(jp hr).1];exact if_neg h))) rfl))))
 |case6 ps c x r h=>
  intro m p hr hp hm hl;obtain⟨m,rfl,_⟩:=jK hm;exact RP.oke (zel (zd6 (u:=c) (zn rfl ((kF ts p).trans (by rw[←hr];rfl))) h)) (.mk hp hr (qA (Nat.le_add_right _ _) hl))
inductive RQ(t0:D)(rs:List Row)(l:List Nat):Row->Fl×ze->Prop
 |mk{r:Row}{t3 t4 t5 t6 t7:D}(hd:isDict r.b=false)(hl:r.ps.length<1000):RQ t0 rs l r (.next,[t0,.list ((rs++[r]).map Row.d),ds l,t3,t4,t5,t6,t7,OO,OO,OO,OO,OO,OO,OO,OO,OO,OO,OO])
theorem zn3{n:Nat}{l:List Nat}(hl:l.length<900)(h:tok l=[]){t0 t1 t3 t4 t5 t6 t7:D}:
  exec G (zd G T 2000 (n+3)) (zk G T 2000 (n+3)) 2000 zoH [t0,t1,ds l,t3,t4,t5,t6,t7,OO,OO,OO,OO,OO,OO,OO,OO,OO,OO,OO]=.ok (.cont,[t0,t1,ds l,zh [],t4,t5,t6,t7,OO,OO,OO,OO,OO,OO,OO,OO,OO,OO,OO]):=
 jy (jM (zn rfl ((zf6 l (qD hl (by decide))).trans (congrArg (fun t=>R.ok (zh t)) h)))) rfl
theorem nd3{x y a:D}(h:isDict a=false)(hx:isDict x=false:=by rfl)(hy:isDict y=false:=by rfl):[x,y,a].any isDict=false:=by
 show(isDict x||(isDict y||(isDict a||false)))=false;rw[h,hx,hy];rfl
theorem zre{n:Nat}{ts ps:List Tok}{l:List Nat}{p:Nat}{rs:List Row}{f:Tok}{b t0:D}(hrs:rs.length<1000)(hps:ps.length<1000)(hp:p<=ts.length)(hb:isDict b=false):
  RP (RQ t0 rs l) (if ts.drop p≠[]\/twC ps=true then .ve else .ok ⟨f,ps,b⟩) (exec G (zd G T 2000 (n+3)) (zk G T 2000 (n+3)) 2000 (.seq (.ifs (.or_ (.bin .ne (.var 5) (.un .len (.var 3))) (.call 7 (.cons (.var 6) .nil))) .raise .skip)
   (.app 1 (.tup (.cons (.var 4) (.cons (.var 6) (.cons (.var 7) .nil)))))) [t0,.list (rs.map Row.d),ds l,zh ts,ds f,.int p,zh ps,b,OO,OO,OO,OO,OO,OO,OO,OO,OO,OO,OO]):=by
 have hlen:((ts.map ds).length:Int)=(ts.length:Nat):=by rw[List.length_map]
 have hx:(p:Int)=((ts.map ds).length:Nat)↔ts.drop p=[]:=by
  rw[hlen,Int.ofNat_inj,List.drop_eq_nil_iff];exact⟨fun h=>Nat.le_of_eq h.symm,fun h=>Nat.le_antisymm hp h⟩
 by_cases hne:ts.drop p=[]
 ·have h1:neD (.int (p:Nat)) (.int ((ts.map ds).length:Nat))=.ok (.bool false):=congrArg (fun b=>R.ok (PyData.bool !b)) (decide_eq_true (hx.mpr hne));have h7:=zic (n:=n+2) ps hps;rcases Bool.eq_false_or_eq_true (twC ps) with htw|htw
  ·rw[if_pos (Or.inr htw)];rw[htw] at h7;exact RP.vee (zkn (zbz (zm rfl rfl h1) (zn rfl h7)))
  ·rw[if_neg fun h=>h.elim (fun h=>h hne) fun h=>nomatch htw.symm.trans h];rw[htw] at h7;exact RP.nxt (zz (zbz (zm rfl rfl h1) (zn rfl h7)) rfl) (RP.oke (zjl (jC rfl (nd3 hb)) rfl (by rw[List.length_map];exact Nat.lt_trans hrs (by decide)) rfl (List.map_append (f:=Row.d) (l₁:=rs) (l₂:=[⟨f,ps,b⟩])).symm) (.mk hb hps))
 ·rw[if_pos (Or.inl hne)];exact RP.vee (zkn (zkB (zm rfl rfl (congrArg (fun b=>R.ok (PyData.bool !b)) (decide_eq_false fun h=>hne (hx.mp h))))))
theorem zoo{n:Nat}(l:List Nat)(hl:l.length<900)(rs:List Row)(hrs:rs.length<1000)(t0 t3 t4 t5 t6 t7:D)(h:tok l≠[]):
  RP (RQ t0 rs l) (zcl (n+3) (tok l)) (exec G (zd G T 2000 (n+3)) (zk G T 2000 (n+3)) 2000 zoH [t0,.list (rs.map Row.d),ds l,t3,t4,t5,t6,t7,OO,OO,OO,OO,OO,OO,OO,OO,OO,OO,OO]):=by
 have htl:=qB (zkw l) hl;have hT:=zf6 (n:=n+2) l (qD hl (by decide));clear hl;generalize tok l=ts at *;have hE:(List.map ds ts).isEmpty=false:=by
  induction ts using List.casesOn with
  |nil=>exact absurd rfl h
  |cons=>rfl
 unfold zcl;refine RP.nxt (jM (zn rfl hT)) (RP.nxt (zz (zm rfl rfl ((zaf _).trans (congrArg (fun b=>R.ok (PyData.bool b)) hE))) rfl) (RP.nam (n:=n+1) (p:=0) rfl fun f _=>RP.wnt (n:=n+1) (p:=1) (by decide) rfl fun _=>RP.nnl (n:=n+1) (p:=1+1) rfl fun u hp3=>RP.nxt rfl ?_));rw[List.drop_drop];refine RP.bind (zm9 (n:=n+1) ts 999 (by decide) t0 (.list (rs.map Row.d)) (ds l) (ds f) t7 [u] (ts.drop (1+1+1)) 2000 3 rfl hp3 ?_ ?_) ?_
 ·exact qB (qA (Nat.le_of_eq (List.length_drop ..)) (Nat.sub_le _ _)) (Nat.lt_trans htl (by decide))
 ·exact qA (Nat.add_le_add_left (qA (Nat.le_of_eq (List.length_drop ..)) (Nat.sub_le _ _)) 1) (qA (Nat.add_le_add_left (qC htl) 1) (by decide))
 ·rintro _ _ ⟨hp4,rfl,hps⟩;exact RP.wnt (n:=n+1) (by decide) rfl fun hp5=>RP.wnt (n:=n+1) (by decide) rfl fun hp6=>RP.cam ((zhh ts (Nat.lt_trans htl (by decide)) (n+3)).1 _ hp6) rfl fun b p7 hb hp7=>zre hrs (Nat.lt_succ_of_le hps) hp7 hb
end Mine
namespace Mine
open PySem
theorem zcH{GG:List D}{cf cio:Nat->List D->R D}{wf:Nat}{ρ:ze}{a:PE}{s:PS}{xs:List D}{g:Tg}{r:R (Fl×ze)}(h:ev GG cf a ρ=.ok (.list xs))(k:fl GG cf cio wf g s xs ρ=r):exec GG cf cio wf (.forr g false a s) ρ=r:=(congrArg (R.bind · _) h).trans k
theorem RP.mapl{α β γ:Type}{Q:α->β->Prop}{P:γ->β->Prop}{x:R α}{y:R β}{f:α->γ}(h:RP Q x y)(k:∀a b,Q a b->P (f a) b):RP P (R.bind x fun a=>.ok (f a)) y:=by
 cases h with
 |ok h=>exact .ok (k _ _ h)
 |ve=>exact .ve
 |stuck=>exact .stuck
theorem RP.mono{α β:Type}{Q P:α->β->Prop}{x:R α}{y:R β}(h:RP Q x y)(k:∀a b,Q a b->P a b):RP P x y:=by
 cases h with
 |ok h=>exact .ok (k _ _ h)
 |ve=>exact .ve
 |stuck=>exact .stuck
inductive WQ(t0:D)(rs:List Row)(N:Nat):List Row->Fl×ze->Prop
 |mk{rs':List Row}{ys:List D}{t2 t3 t4 t5 t6 t7:D}(h:∀r∈rs',isDict r.b=false/\r.ps.length<1000)(hl:rs.length+rs'.length<=N)(e:ys=(rs++rs').map Row.d):WQ t0 rs N rs' (.next,[t0,.list ys,t2,t3,t4,t5,t6,t7,OO,OO,OO,OO,OO,OO,OO,OO,OO,OO,OO])
theorem zlF{n:Nat}(t0:D)(N:Nat)(hN:N<1000):∀(ls:List (List Nat)) (rs:List Row) (t2 t3 t4 t5 t6 t7:D),(∀l∈ls,l.length<900)->rs.length+ls.length<=N->
  RP (WQ t0 rs N) (zbc (n+3) ls) (fl G (zd G T 2000 (n+3)) (zk G T 2000 (n+3)) 2000 (.one 2) zoH (ls.map ds) [t0,.list (rs.map Row.d),t2,t3,t4,t5,t6,t7,OO,OO,OO,OO,OO,OO,OO,OO,OO,OO,OO]):=by
 intro ls;induction ls with
 |nil=>intro rs t2 t3 t4 t5 t6 t7 _ hn;exact .ok (.mk nofun hn (by rw[List.append_nil]))
 |cons l ls ih=>
  intro rs t2 t3 t4 t5 t6 t7 hl hn;have hl1:=hl l List.mem_cons_self;have hl2:∀l∈ls,l.length<900:=fun x hx=>hl x (List.mem_cons_of_mem _ hx);have hn1:rs.length+1+ls.length<=N:=by rw[Nat.add_assoc,Nat.add_comm 1];exact hn
  clear hl hn;rw[zio];by_cases h:tok l=[]
  ·rw[if_pos h];exact RP.to (congrArg (R.bind · (kFl G _ _ 2000 (.one 2) zoH (ls.map ds))) (zn3 hl1 h)) (ih rs (ds l) _ _ _ _ _ hl2 (qA (Nat.add_le_add_right (Nat.le_succ _) _) hn1))
  ·rw[if_neg h];refine RP.bind (zoo (n:=n) l hl1 rs (qB (qA (qA (Nat.le_succ _) (Nat.le_add_right _ _)) hn1) hN) t0 t3 t4 t5 t6 t7 h) ?_;rintro _ _ ⟨hd,hps⟩;refine RP.mapl (ih _ (ds l) _ _ _ _ _ hl2 (by rw[List.length_append];exact hn1)) ?_;rintro _ _ ⟨h,hl,rfl⟩;refine .mk ?_ ?_ (by rw[List.append_assoc];rfl)
   ·intro x hx;rcases List.mem_cons.mp hx with e|hx
    ·rw[e];exact⟨hd,hps⟩
    ·exact h x hx
   ·rw[List.length_append,Nat.add_assoc,Nat.add_comm [_].length] at hl;exact hl
theorem ziZ{turn:ze->D->R (List D×ze)}{g:D->D}(inv:ze->Prop):∀(xs:List D) (σ:ze),(∀σ,inv σ->∀d∈xs,∃σ',inv σ'/\turn σ d=.ok ([g d],σ'))->inv σ->∃σ',jU turn σ xs=.ok (xs.map g,σ'):=by
 intro xs;induction xs with
 |nil=>intro σ _ _;exact⟨σ,rfl⟩
 |cons x xs ih=>
  intro σ h hi;obtain⟨σ1,hi1,e1⟩:=h σ hi x (List.mem_cons_self);obtain⟨σ2,e2⟩:=ih σ1 (fun σ hσ d hd=>h σ hσ d (by exact List.mem_cons_of_mem _ ‹_›)) hi1;refine⟨σ2,?_⟩;rw[ztY,e1];show R.bind (jU turn σ1 xs) _=_;rw[e2];rfl
theorem zfb{cf:Nat->List D->R D}{caps:List (Option Nat)}{it e:PE}{t:Tg}{ρ:ze}{xs:List D}{g:D->D}(inv:ze->Prop)(hi:ev G cf it ρ=.ok (.list xs))(hl:xs.length<1000)
  (h0:inv (caps.map fun c=>match c with|some i=>zr ρ i|none=>.none))
  (h:∀σ,inv σ->∀d∈xs,∃σ',inv σ'/\ja σ t d=.ok σ'/\ev G cf e σ'=.ok (g d)/\isDict (g d)=false):
  ev G cf (.comp caps false it t (.elt (.lit (.bool true)) e)) ρ=.ok (.list (xs.map g)):=by
 obtain⟨σ',e'⟩:=ziZ (turn:=fun σ d=>R.bind (ja σ t d) fun σ'=>evG G cf (.elt (.lit (.bool true)) e) σ') (g:=g) inv xs _ (fun σ hσ d hd=>by
  obtain⟨σ',a,b,c,d'⟩:=h σ hσ d hd;refine⟨σ',a,?_⟩;rw[b];show R.bind (ev G cf e σ') _=_;rw[c];show(if isDict (g d)=true then R.stuck else _)=_;rw[d'];rfl) h0
 show noVe (R.bind (ev G cf it ρ) _)=_;rw[hi];refine(congrArg (fun z=>noVe (R.bind z fun r=>if r.1.length<=zp then R.ok (PyData.list r.1) else .stuck)) e').trans ?_;show noVe (if(xs.map g).length<=zp then _ else _)=_;rw[if_pos (by simp[zp];exact qA (qC ‹_›) (by decide))];rfl
noncomputable def zbW(rs:List Row):D:=zh (rs.map Row.f)
noncomputable def zaJ(rs:List Row):D:=.list (rs.map fun r=>.int r.ps.length)
noncomputable def lkA(n:Nat)(ns cs:D):List Row->R Unit
 |[]=>.ok ()
 |r::rs=>R.bind (zd G T 2000 n 6 [r.b,zh r.ps,ns,cs]) fun _=>lkA n ns cs rs
theorem zu9:∀(n:Nat) (ns cs:D) (r:Row) (rs:List Row),lkA n ns cs (r::rs)=(zd G T 2000 n 6 [r.b,zh r.ps,ns,cs]).bind fun(x:D)=>lkA n ns cs rs:=fun _ _ _ _ _=>rfl
noncomputable def zb1(n:Nat)(ls:List (List Nat)):R (List Row):=
 R.bind (zbc n ls) fun rs=>if rs.isEmpty=true\/twC (rs.map Row.f)=true then .ve else R.bind (lkA n (zbW rs) (zaJ rs) rs) fun _=>.ok rs
inductive LQ(t0 t1 t2 t3 t5 ns cs:D):Unit->Fl×ze->Prop
 |mk{t4 t6 t7:D}:LQ t0 t1 t2 t3 t5 ns cs () (.next,[t0,t1,t2,t3,t4,t5,t6,t7,ns,cs,OO,OO,OO,OO,OO,OO,OO,OO,OO])
theorem zmU{n:Nat}(t0 t1 t2 t3 t5 ns cs:D):∀(rs:List Row) (t4 t6 t7:D),
  RP (LQ t0 t1 t2 t3 t5 ns cs) (lkA n ns cs rs) (fl G (zd G T 2000 n) (zk G T 2000 n) 2000 (.many [4,6,7]) lkB (rs.map Row.d) [t0,t1,t2,t3,t4,t5,t6,t7,ns,cs,OO,OO,OO,OO,OO,OO,OO,OO,OO]):=by
 intro rs;induction rs with
 |nil=>intro t4 t6 t7;exact .ok .mk
 |cons r rs ih=>
  intro t4 t6 t7;have e:fl G (zd G T 2000 n) (zk G T 2000 n) 2000 (.many [4,6,7]) lkB ((r::rs).map Row.d) [t0,t1,t2,t3,t4,t5,t6,t7,ns,cs,OO,OO,OO,OO,OO,OO,OO,OO,OO]=
   R.bind (zd G T 2000 n 6 [r.b,zh r.ps,ns,cs]) fun _=>fl G (zd G T 2000 n) (zk G T 2000 n) 2000 (.many [4,6,7]) lkB (rs.map Row.d) [t0,t1,t2,t3,ds r.f,t5,zh r.ps,r.b,ns,cs,OO,OO,OO,OO,OO,OO,OO,OO,OO]:=by
   show R.bind (R.bind (zd G T 2000 n 6 [r.b,zh r.ps,ns,cs]) _) _=_;cases zd G T 2000 n 6 [r.b,zh r.ps,ns,cs]<;>rfl
  refine RP.to e ?_;rw[zu9];cases zd G T 2000 n 6 [r.b,zh r.ps,ns,cs] with
  |stuck=>exact .stuck
  |ve=>exact .ve
  |ok x=>exact ih _ _ _
theorem ztl{l:List Nat}{ls:List (List Nat)}(h:Txt.split (S l) (S [10])=ls.map S)(hl:l.length<100000):zjv (ds l) (ds [10])=.ok (.list (ls.map ds)):=by
 show(if(S [10]).length=1/\(S l).length<zp then R.ok (PyData.list ((Txt.split (S l) (S [10])).map .str)) else .stuck)=_;rw[if_pos ⟨rfl,by rw[ztZ];unfold zp;exact qD ‹_› (by decide)⟩,h];simp
theorem zp9{n:Nat}{rs:List Row}(hl:rs.length<1000){ρ:ze}(hρ:zr ρ 1=.list (rs.map Row.d)):ev G (zd G T 2000 n) (.comp [none,none] false (.var 1) (.one 1) (.elt (.lit (.bool true)) (.bin .idx (.var 1) (.lit (.int 0))))) ρ=.ok (zbW rs):=by
 rw[zfb (xs:=rs.map Row.d) (g:=fun d=>match d with|.tuple (x::_)=>x|_=>.none) (fun σ=>∃a b,σ=[a,b]) (by rw[zK,hρ]) (by rw[List.length_map];exact hl) ⟨_,_,rfl⟩ ?_]
 ·rw[List.map_map];show _=R.ok (PyData.list ((rs.map Row.f).map ds));rw[List.map_map];rfl
 ·rintro σ ⟨a,b,rfl⟩ d hd';obtain⟨r,hr,rfl⟩:=List.mem_map.mp hd';exact⟨[a,r.d],⟨_,_,rfl⟩,rfl,rfl,rfl⟩
theorem zlw{n:Nat}{rs:List Row}(hl:rs.length<1000){ρ:ze}(hρ:zr ρ 1=.list (rs.map Row.d)):ev G (zd G T 2000 n) (.comp [none,none,none] false (.var 1) (.one 1) (.elt (.lit (.bool true)) (.un .len (.bin .idx (.var 1) (.lit (.int 1)))))) ρ=.ok (zaJ rs):=by
 rw[zfb (xs:=rs.map Row.d) (g:=fun d=>match d with|.tuple (_::.list xs::_)=>.int xs.length|_=>.none) (fun σ=>∃a b c,σ=[a,b,c]) (by rw[zK,hρ]) (by rw[List.length_map];exact hl) ⟨_,_,_,rfl⟩ ?_]
 ·rw[List.map_map];unfold zaJ;exact congrArg (fun f=>R.ok (PyData.list (rs.map f))) (funext fun r=>congrArg (fun n:Nat=>PyData.int n) (List.length_map ..))
 ·rintro σ ⟨a,b,c,rfl⟩ d hd';obtain⟨r,hr,rfl⟩:=List.mem_map.mp hd';exact⟨[a,r.d,c],⟨_,_,_,rfl⟩,rfl,rfl,rfl⟩
inductive FQ:List Row->Fl×ze->Prop
 |mk{rs:List Row}{σ:ze}:FQ rs (.ret (.list (rs.map Row.d)),σ)
theorem zmr{n:Nat}{rs:List Row}(hl:rs.length<1000){t0 t2 t3 t4 t5 t6 t7:D}:
  RP FQ (if rs.isEmpty=true\/twC (rs.map Row.f)=true then .ve else R.bind (lkA (n+3) (zbW rs) (zaJ rs) rs) fun _=>.ok rs) (exec G (zd G T 2000 (n+3)) (zk G T 2000 (n+3)) 2000 (.seq (.ifs (.or_ (.bin .eq (.var 1) (.list .nil)) (.call 7 (.cons (.var 8) .nil))) .raise .skip)
   (.seq (.forr (.many [4,6,7]) false (.var 1) lkB) (.ret (.var 1)))) [t0,.list (rs.map Row.d),t2,t3,t4,t5,t6,t7,zbW rs,zaJ rs,OO,OO,OO,OO,OO,OO,OO,OO,OO]):=by
 have h7:zd G T 2000 (n+3) 7 [zbW rs]=.ok (.bool (twC (rs.map Row.f))):=zic (n:=n+2) (rs.map Row.f) (by rw[List.length_map];exact hl);have h1:eqD (.list (rs.map Row.d)) (.list [])=.ok (.bool rs.isEmpty):=(zaf _).trans (by induction rs using List.casesOn<;>rfl);rcases Bool.eq_false_or_eq_true rs.isEmpty with he|he
 ·rw[if_pos (Or.inl he)];rw[he] at h1;exact RP.vee (zkn (zkB (zm rfl rfl h1)))
 ·rw[he] at h1;rcases Bool.eq_false_or_eq_true (twC (rs.map Row.f)) with htw|htw
  ·rw[if_pos (Or.inr htw)];rw[htw] at h7;exact RP.vee (zkn (zbz (zm rfl rfl h1) (zn rfl h7)))
  ·rw[if_neg fun h=>h.elim (fun h=>nomatch he.symm.trans h) fun h=>nomatch htw.symm.trans h];rw[htw] at h7;exact RP.nxt (zz (zbz (zm rfl rfl h1) (zn rfl h7)) rfl) (RP.bind (zmU (n:=n+3) t0 (.list (rs.map Row.d)) t2 t3 t5 (zbW rs) (zaJ rs) rs t4 t6 t7) fun _ _ h=>h.casesOn (.ok .mk))
theorem zh8{n:Nat}{l:List Nat}{ls:List (List Nat)}(h:Txt.split (S l) (S [10])=ls.map S)(hl:l.length<100000)(hls:∀l∈ls,l.length<900)(hn:ls.length<1000):
  match zb1 (n+3) ls with
  |.ok rs=>zd G T 2000 (n+4) 8 [ds l]=.ok (.list (rs.map Row.d))
  |.ve=>zd G T 2000 (n+4) 8 [ds l]=.ve
  |.stuck=>True:=by
 have r:RP FQ (zb1 (n+3) ls) (exec G (zd G T 2000 (n+3)) (zk G T 2000 (n+3)) 2000 zeF.body [ds l,OO,OO,OO,OO,OO,OO,OO,OO,OO,OO,OO,OO,OO,OO,OO,OO,OO,OO]):=by
  refine RP.nxt rfl (RP.to (congrArg (R.bind · _) (zcH (ztl h hl) rfl)) (RP.bind (zlF (n:=n) (ds l) ls.length hn ls [] .none .none .none .none .none .none hls (Nat.le_of_eq (Nat.zero_add _))) ?_));rintro _ _ ⟨_,hl,rfl⟩;replace hl:=qB (qA (Nat.le_of_eq (Nat.zero_add _).symm) hl) hn;exact RP.nxt (jM (zp9 hl rfl)) (RP.nxt (jM (zlw hl rfl)) (zmr hl))
 rw[zro];generalize zb1 (n+3) ls=x at r;generalize exec G (zd G T 2000 (n+3)) (zk G T 2000 (n+3)) 2000 zeF.body [ds l,OO,OO,OO,OO,OO,OO,OO,OO,OO,OO,OO,OO,OO,OO,OO,OO,OO,OO]=y at r;clear h hl hls hn;cases r with
 |ok h=>exact h.casesOn rfl
 |ve=>rfl
 |stuck=>trivial
end Mine
namespace Mine
open PySem
inductive E where
 |num(i:Nat)
 |name(x:Tok)
 |pred(a:E)
 |succ(a:E)
 |iff(x:Tok)(a b:E)
 |call(a b:E)
noncomputable abbrev tG:Tok:=[103]
noncomputable def E.kind:E->Tok
 |.num _=>zw2
 |.name _=>ztq
 |.pred _=>zdB
 |.succ _=>zd0
 |.iff ..=>tIf
 |.call ..=>ztR
noncomputable def E.rest:E->List D
 |.num i=>[.int i]
 |.name x=>[ds x]
 |.pred a=>[.tuple (ds a.kind::a.rest)]
 |.succ a=>[.tuple (ds a.kind::a.rest)]
 |.iff x a b=>[ds x,.tuple (ds a.kind::a.rest),.tuple (ds b.kind::b.rest)]
 |.call a b=>[ds tG,.list [.tuple (ds a.kind::a.rest),.tuple (ds b.kind::b.rest)]]
noncomputable def E.d(e:E):D:=.tuple (ds e.kind::e.rest)
theorem Ed2(x:Tok):(E.name x).d=zcv x:=rfl
theorem Ed3(a:E):(E.pred a).d=zd3 a.d:=rfl
theorem Ed4(a:E):(E.succ a).d=zla a.d:=rfl
theorem Ed5(x:Tok)(a b:E):(E.iff x a b).d=eIf x a.d b.d:=rfl
theorem Ed6(a b:E):(E.call a b).d=zbU tG [a.d,b.d]:=rfl
noncomputable def E.isIf:E->Bool
 |.iff ..=>true
 |_=>false
noncomputable def j2(i:Nat):List Nat:=if i=0 then[48] else if i=1 then[49] else if i=2 then[50] else[49,48]
noncomputable def par(b:Bool)(l:List Nat):List Nat:=if b then[40]++l++[41] else l
noncomputable def E.text:E->List Nat
 |.num i=>j2 i
 |.name x=>x
 |.pred a=>par a.isIf a.text++[32,45,32,49]
 |.succ a=>par a.isIf a.text++[32,43,32,49]
 |.iff x a b=>[105,102,32]++x++[32,116,104,101,110,32]++a.text++[32,101,108,115,101,32]++b.text
 |.call a b=>tG++[40]++(a.text++[44,32]++b.text)++[41]
noncomputable def E.dep:E->Nat
 |.num _=>0
 |.name _=>0
 |.pred a=>a.dep+1
 |.succ a=>a.dep+1
 |.iff _ a b=>max a.dep b.dep+1
 |.call a b=>max a.dep b.dep+1
theorem zj8:∀(a:E),a.pred.dep=a.dep+1:=fun _=>rfl
theorem ziU:∀(a:E),a.succ.dep=a.dep+1:=fun _=>rfl
theorem zjM:∀(x_1:Tok) (a b:E),(E.iff x_1 a b).dep=max a.dep b.dep+1:=fun _ _ _=>rfl
theorem zjp:∀(a b:E),(a.call b).dep=max a.dep b.dep+1:=fun _ _=>rfl
noncomputable def E.wf(x y:Tok):E->Prop
 |.num i=>i=0\/i=1\/i=2\/i=10
 |.name z=>z=x\/z=y
 |.pred a=>a.wf x y
 |.succ a=>a.wf x y
 |.iff z a b=>(z=x\/z=y)/\a.wf x y/\b.wf x y
 |.call a b=>a.wf x y/\b.wf x y
theorem zxt:∀(x y x_2:Tok),E.wf x y (E.name x_2)=(x_2=x\/x_2=y):=fun _ _ _=>rfl
theorem zxD:∀(x y:Tok) (a:E),E.wf x y a.pred=E.wf x y a:=fun _ _ _=>rfl
theorem zxm:∀(x y:Tok) (a:E),E.wf x y a.succ=E.wf x y a:=fun _ _ _=>rfl
theorem zx2:∀(x y x_2:Tok) (a b:E),E.wf x y (E.iff x_2 a b)=((x_2=x\/x_2=y)/\E.wf x y a/\E.wf x y b):=fun _ _ _ _ _=>rfl
theorem zxC:∀(x y:Tok) (a b:E),E.wf x y (a.call b)=(E.wf x y a/\E.wf x y b):=fun _ _ _ _=>rfl
@[simp] theorem zxe(e:E):isDict e.d=false:=rfl
theorem mxl{k a b m:Nat}(h:k+(max a b+1)<m):k+a<m:=qB (Nat.add_le_add_left (qA (Nat.le_max_left a b) (Nat.le_succ _)) k) h
theorem mxr{k a b m:Nat}(h:k+(max a b+1)<m):k+b<m:=qB (Nat.add_le_add_left (qA (Nat.le_max_right a b) (Nat.le_succ _)) k) h
theorem zxx{k a b m:Nat}(h:k+(max a b+1)<m):k+1+b<m:=qB (by rw[Nat.add_assoc,Nat.add_comm 1 b];exact Nat.add_le_add_left (Nat.succ_le_succ (Nat.le_max_right a b)) k) h
theorem ncl{k a b m:Nat}(h:k+(a+b)<m):k+a<m:=qB (Nat.add_le_add_left (Nat.le_add_right a b) k) h
theorem zka(e:E):decide (S e.kind=({cps:=#[105,102]}:Str))=e.isIf:=by cases e<;>rfl
theorem zq0:decide (({cps:=#[110,97,109,101]}:Str)={cps:=#[110,97,109,101]})=true:=rfl
theorem zs8:decide (({cps:=#[112,114,101,100]}:Str)={cps:=#[112,114,101,100]})=true:=rfl
theorem zsm:decide (({cps:=#[115,117,99,99]}:Str)={cps:=#[115,117,99,99]})=true:=rfl
theorem ztF:decide (({cps:=#[105,102]}:Str)={cps:=#[105,102]})=true:=rfl
theorem zko:decide (({cps:=#[99,97,108,108]}:Str)={cps:=#[99,97,108,108]})=true:=rfl
theorem zgt:decide (({cps:=#[110,97,109,101]}:Str)={cps:=#[112,114,101,100]})=false:=rfl
theorem zgQ:decide (({cps:=#[110,97,109,101]}:Str)={cps:=#[115,117,99,99]})=false:=rfl
theorem zj7:decide (({cps:=#[110,97,109,101]}:Str)={cps:=#[105,102]})=false:=rfl
theorem zgA:decide (({cps:=#[110,97,109,101]}:Str)={cps:=#[99,97,108,108]})=false:=rfl
theorem zg1:decide (({cps:=#[112,114,101,100]}:Str)={cps:=#[110,97,109,101]})=false:=rfl
theorem zjg:decide (({cps:=#[112,114,101,100]}:Str)={cps:=#[105,102]})=false:=rfl
theorem zgN:decide (({cps:=#[112,114,101,100]}:Str)={cps:=#[99,97,108,108]})=false:=rfl
theorem zgm:decide (({cps:=#[115,117,99,99]}:Str)={cps:=#[110,97,109,101]})=false:=rfl
theorem zg2:decide (({cps:=#[115,117,99,99]}:Str)={cps:=#[112,114,101,100]})=false:=rfl
theorem zjd:decide (({cps:=#[115,117,99,99]}:Str)={cps:=#[105,102]})=false:=rfl
theorem zg3:decide (({cps:=#[115,117,99,99]}:Str)={cps:=#[99,97,108,108]})=false:=rfl
theorem zjm:decide (({cps:=#[105,102]}:Str)={cps:=#[110,97,109,101]})=false:=rfl
theorem zfj:decide (({cps:=#[105,102]}:Str)={cps:=#[112,114,101,100]})=false:=rfl
theorem zeM:decide (({cps:=#[105,102]}:Str)={cps:=#[115,117,99,99]})=false:=rfl
theorem zjJ:decide (({cps:=#[105,102]}:Str)={cps:=#[99,97,108,108]})=false:=rfl
theorem zgT:decide (({cps:=#[99,97,108,108]}:Str)={cps:=#[110,97,109,101]})=false:=rfl
theorem zc7:decide (({cps:=#[99,97,108,108]}:Str)={cps:=#[112,114,101,100]})=false:=rfl
theorem zc5:decide (({cps:=#[99,97,108,108]}:Str)={cps:=#[115,117,99,99]})=false:=rfl
theorem ze5:decide (({cps:=#[99,97,108,108]}:Str)={cps:=#[105,102]})=false:=rfl
theorem add_str(a b:List Nat)(h:a.length+b.length<1000000):zdx (ds a) (ds b)=.ok (ds (a++b)):=by
 show mkS (S a++S b)=_;rw[zqm];unfold mkS;rw[if_pos (by rw[ztZ];simp[zp];exact qA (qC ‹_›) (by decide))]
theorem zpx(a b:List Nat)(h:a.length+b.length<1000000):zdx (.str ⟨a.toArray⟩) (.str ⟨b.toArray⟩)=.ok (ds (a++b)):=add_str a b h
structure Sv(cf:Nat->List D->R D)(a:PE)(ρ:ze)(x:Tok)(n:Nat):Prop where
 h:ev G cf a ρ=.ok (ds x)
 l:x.length<=n
theorem Sv.add{cf:Nat->List D->R D}{a b:PE}{ρ:ze}{x y:Tok}{n m:Nat}(h:Sv cf a ρ x n)(g:Sv cf b ρ y m)(d:Nat.blt (n+m) 1000000=true):Sv cf (.bin .add a b) ρ (x++y) (n+m):=
 ⟨zm h.h g.h (zpx x y (bs (Nat.add_le_add h.l g.l) d)),by rw[List.length_append];exact Nat.add_le_add h.l g.l⟩
theorem l1{a:Nat}:[a].length<=1:=Nat.le_refl 1
theorem l2{a b:Nat}:[a,b].length<=2:=Nat.le_refl 2
theorem l3{a b c:Nat}:[a,b,c].length<=3:=Nat.le_refl 3
theorem l4{a b c d:Nat}:[a,b,c,d].length<=4:=Nat.le_refl 4
theorem l6{a b c d e f:Nat}:[a,b,c,d,e,f].length<=6:=Nat.le_refl 6
theorem zg{x y:Tok}{n m:Nat}(h:x.length<=n)(g:y.length<=m):(x++y).length<=n+m:=qA (Nat.le_of_eq List.length_append) (Nat.add_le_add h g)
theorem jL{b:Bool}{t:Tok}{n:Nat}(h:t.length<=n):(par b t).length<=1+n+1:=by
 induction b using Bool.casesOn with
 |false=>exact qA h (qA (Nat.le_add_left _ _) (Nat.le_succ _))
 |true=>exact zg (zg l1 h) l1
theorem zot(s a b:List Nat)(h:a.length+b.length+s.length<100000):zei (ds s) (.list [ds a,ds b])=.ok (ds (a++s++b)):=by
 show(if(([S a,S b]:List Str).map (·.length)).sum+2*(S s).length<=zp then _ else _)=_;rw[if_pos]
 ·have:Txt.join (S s) [S a,S b]=S (a++s++b):=by
   show(⟨a.toArray++s.toArray++b.toArray⟩:Str)=_;simp
  rw[this]
 ·simp[zp];lia
theorem zyk(s a:List Nat)(h:a.length+s.length<100000):zei (ds s) (.list [ds a])=.ok (ds a):=by
 show(if(([S a]:List Str).map (·.length)).sum+1*(S s).length<=zp then _ else _)=_;rw[if_pos]
 ·rfl
 ·simp[zp];exact qA (qC ‹_›) (by decide)
theorem zvn{i:Nat}(h:i=0\/i=1\/i=2\/i=10):zwj (.int i)=.ok (ds (j2 i)):=by
 rcases h with rfl|rfl|rfl|rfl<;>rfl
theorem zvk{GG:List D}{cf:Nat->List D->R D}{ρ:ze}{a b:PE}{y z:D}{l:Str}(h:ev GG cf a ρ=.ok (.str l))(g:ev GG cf b ρ=.ok y)(k:zei (.str l) y=.ok z):ev GG cf (.m1 .join a b) ρ=.ok z:=
 (congrArg (R.bind · _) h).trans ((congrArg (R.bind · (zei (.str l))) g).trans k)
theorem zn1{b:Bool}{t:Tok}:t.length<=(par b t).length:=by
 induction b using Bool.casesOn with
 |false=>exact Nat.le_refl _
 |true=>show _<=([40]++t++[41]).length;rw[List.length_append,List.length_append];exact qA (Nat.le_add_left _ _) (Nat.le_add_right _ _)
theorem la{x y:Tok}{N:Nat}(h:(x++y).length<N):x.length<N:=qB (qA (Nat.le_add_right _ _) (Nat.le_of_eq List.length_append.symm)) h
theorem lb{x y:Tok}{N:Nat}(h:(x++y).length<N):y.length<N:=qB (qA (Nat.le_add_left _ _) (Nat.le_of_eq List.length_append.symm)) h
theorem zpP{cf ci:Nat->List D->R D}{d0:D}{a:E}{t:Tok}(h0:jg d0 (.int 1)=.ok a.d)(ht:t.length<=10000):
  exec G cf ci 2000 (.ifs (.bin .eq (.bin .idx (.bin .idx (.var 0) (.lit (.int 1))) (.lit (.int 0))) (.lit (.str ⟨#[105,102]⟩))) (.assign (.one 1) (.bin .add (.bin .add (.lit (.str ⟨#[40]⟩)) (.var 1)) (.lit (.str ⟨#[41]⟩)))) .skip) [d0,ds t,OO,OO]=.ok (.next,[d0,ds (par a.isIf t),OO,OO]):=by
 have hc:ev G cf (.bin .eq (.bin .idx (.bin .idx (.var 0) (.lit (.int 1))) (.lit (.int 0))) (.lit (.str ⟨#[105,102]⟩))) [d0,ds t,OO,OO]=.ok (.bool a.isIf):=zm (zm (zm rfl rfl h0) rfl rfl) rfl (congrArg (fun b=>R.ok (PyData.bool b)) (zka a));generalize a.isIf=b at hc;induction b using Bool.casesOn with
 |false=>exact zz hc rfl
 |true=>exact zY hc (jM (Sv.add (Sv.add ⟨rfl,l1⟩ ⟨rfl,ht⟩ rfl) ⟨rfl,l1⟩ rfl).h)
theorem zxu{n:Nat}{a b:D}{x y:Tok}{ρ:ze}{it:PE}(ha:zd G T 2000 n 9 [a]=.ok (ds x))(hb:zd G T 2000 n 9 [b]=.ok (ds y))(hi:ev G (zd G T 2000 n) it ρ=.ok (.list [a,b])):
  ev G (zd G T 2000 n) (.comp [none,none,none] false it (.one 1) (.elt (.lit (.bool true)) (.call 9 (.cons (.var 1) .nil)))) ρ=.ok (.list [ds x,ds y]):=by
 rw[zfb (xs:=[a,b]) (g:=fun d=>match zd G T 2000 n 9 [d] with|.ok v=>v|_=>.none) (fun σ=>∃p q r,σ=[p,q,r]) hi (by simp) ⟨_,_,_,rfl⟩ ?_]
 ·simp only[List.map_cons,List.map_nil,ha,hb]
 ·rintro σ ⟨p,q,r,rfl⟩ d hd;rcases List.mem_cons.mp hd with rfl|hd
  ·exact⟨_,⟨_,_,_,rfl⟩,rfl,zn rfl (ha.trans (by rw[ha])),by rw[ha];rfl⟩
  ·rw[List.mem_singleton.mp hd];exact⟨_,⟨_,_,_,rfl⟩,rfl,zn rfl (hb.trans (by rw[hb])),by rw[hb];rfl⟩
theorem zkC{x y:Tok}:∀(e:E) (n:Nat),e.wf x y->e.text.length<10000->e.dep<n->zd G T 2000 n 9 [e.d]=.ok (ds e.text):=by
 intro e;induction e with
 |num i=>
  intro n hw hl hn;refine up1 hn fun n _=>?_;refine(zdJ ..).trans ?_;exact Rt.fin (Rt.seq (Rt.ift rfl (Rt.ret (zbA rfl (zvn hw)))))
 |name z=>
  intro n hw hl hn;refine up1 hn fun n _=>?_;exact(zdJ ..).trans rfl
 |pred a ih=>
  intro n hw hl hn;refine up1 hn fun n hn'=>?_;have ha:=qB zn1 (la hl);refine(zdJ ..).trans ?_;exact Rt.fin (Rt.nxt rfl (Rt.nxt rfl (Rt.seq (Rt.ift rfl (Rt.asg (zn rfl (ih n hw ha hn')) (Rt.nxt (zpP rfl (qC ha)) (Rt.seq (Rt.ift rfl (Rt.ret (Sv.add ⟨rfl,jL (qC ha)⟩ ⟨rfl,l4⟩ rfl).h)))))))))
 |succ a ih=>
  intro n hw hl hn;refine up1 hn fun n hn'=>?_;have ha:=qB zn1 (la hl);refine(zdJ ..).trans ?_;exact Rt.fin (Rt.nxt rfl (Rt.nxt rfl (Rt.seq (Rt.ift rfl (Rt.asg (zn rfl (ih n hw ha hn')) (Rt.nxt (zpP rfl (qC ha)) (Rt.nxt rfl (Rt.ret (Sv.add ⟨rfl,jL (qC ha)⟩ ⟨rfl,l4⟩ rfl).h))))))))
 |iff z a b iha ihb=>
  intro n hw hl hn;refine up1 hn fun n hn'=>?_;have hb:=lb hl;have ha:=lb (la (la hl));have hz:=lb (la (la (la (la hl))));refine(zdJ ..).trans ?_;exact Rt.fin (Rt.nxt rfl (Rt.nxt rfl (Rt.nxt rfl (Rt.seq (Rt.ift rfl (Rt.ret (Sv.add (Sv.add (Sv.add (Sv.add (Sv.add ⟨rfl,l3⟩ ⟨rfl,qC hz⟩ rfl) ⟨rfl,l6⟩ rfl) ⟨zn rfl (iha n hw.2.1 ha (qB (Nat.le_max_left ..) hn')),qC ha⟩ rfl) ⟨rfl,l6⟩ rfl) ⟨zn rfl (ihb n hw.2.2 hb (qB (Nat.le_max_right ..) hn')),qC hb⟩ rfl).h))))))
 |call a b iha ihb=>
  intro n hw hl hn;refine up1 hn fun n hn'=>?_;have hb:=lb (lb (la hl));have ha:=la (la (lb (la hl)));have iha:=iha n hw.1 ha (qB (Nat.le_max_left ..) hn');have ihb:=ihb n hw.2 hb (qB (Nat.le_max_right ..) hn');have hc:ev G (zd G T 2000 n) (.comp [none,none,none] false (.bin .idx (.var 0) (.lit (.int 2))) (.one 1) (.elt (.lit (.bool true)) (.call 9 (.cons (.var 1) .nil)))) [(E.call a b).d,OO,OO,OO]=.ok (.list [ds a.text,ds b.text]):=
   zxu iha ihb rfl
  refine(zdJ ..).trans ?_;exact Rt.fin (Rt.nxt rfl (Rt.nxt rfl (Rt.nxt rfl (Rt.nxt rfl (Rt.ret (Sv.add (Sv.add (Sv.add ⟨rfl,l1⟩ ⟨rfl,l1⟩ rfl) ⟨zvk rfl hc (zot [44,32] a.text b.text (bs (Nat.add_le_add (Nat.add_le_add (qC ha) (qC hb)) (Nat.le_refl _)) rfl)),zg (zg (qC ha) l2) (qC hb)⟩ rfl) ⟨rfl,l1⟩ rfl).h)))))
end Mine
namespace Mine
open PySem
theorem zkO{x y:Tok}{ns cs:List D}{j:Int}(hin:zbR (ds tG) (.list ns)=.ok (.bool false))(hix:zdX (.list ns) (ds tG)=.ok (.int j))(hc:jg (.list cs) (.int j)=.ok (.int 2)):
  ∀(e:E) (n:Nat),e.wf x y->e.dep<n->zd G T 2000 n 6 [e.d,zh [x,y],.list ns,.list cs]=.ok .none:=by
 have hz:∀z,z=x\/z=y->zbR (ds z) (zh [x,y])=.ok (.bool false):=by
  intro z h;rw[ziu];rcases h with rfl|rfl<;>simp
 intro e;induction e with
 |num i=>
  intro n hw hn;obtain⟨n,rfl⟩:∃k,n=k+1:=⟨n - 1,by exact(Nat.sub_add_cancel ‹_›).symm⟩;rw[zdH];rfl
 |name z=>
  intro n hw hn;obtain⟨n,rfl⟩:∃k,n=k+1:=⟨n - 1,by exact(Nat.sub_add_cancel ‹_›).symm⟩;rw[zdH];simp only[zbo,Ed2,zT,zv,jv,jr,jj,ji,zK,z0,z6,zej,zhJ,zrZ,zdz,k8,g_0,g_s,jx,zdm,R.bind_ok,jo,kT,zR,za7,je,jq,kz,↓zq0,zgt,zgQ,zj7,zgA,hz z hw]
 |pred a ih=>
  intro n hw hn;obtain⟨n,rfl⟩:∃k,n=k+1:=⟨n - 1,by exact(Nat.sub_add_cancel (qB (Nat.zero_le _) ‹_›)).symm⟩;have iha:=ih n hw (by simp[zj8] at hn;assumption);rw[zdH];simp only[zbo,Ed3,zT,zv,jv,jr,jB,jj,zky,zkE,ji,zK,z0,z6,zhJ,zeo,zdz,zjP,jV,zQ,zO,zP,jc,g_0,g_s,jx,zdm,R.bind_ok,jo,zR,za7,je,jq,kz,↓zs8,zg1,zjg,zgN,iha]
 |succ a ih=>
  intro n hw hn;obtain⟨n,rfl⟩:∃k,n=k+1:=⟨n - 1,by exact(Nat.sub_add_cancel (qB (Nat.zero_le _) ‹_›)).symm⟩;have iha:=ih n hw (by simp[ziU] at hn;assumption);rw[zdH];simp only[zbo,Ed4,zT,zv,jv,jr,jB,jj,zky,zkE,ji,zK,z0,z6,zej,zhJ,zeo,zdz,k8,jV,zQ,zO,zP,jc,g_0,g_s,jx,zdm,R.bind_ok,jo,zR,za7,je,jq,kz,↓zsm,zgm,zg2,zjd,zg3,iha]
 |iff z a b iha ihb=>
  intro n hw hn;obtain⟨n,rfl⟩:∃k,n=k+1:=⟨n - 1,by exact(Nat.sub_add_cancel (qB (Nat.zero_le _) ‹_›)).symm⟩;have iha:=iha n hw.2.1 (by simp[zjM] at hn;exact qB (Nat.le_max_left _ _) ‹_›);have ihb:=ihb n hw.2.2 (by simp[zjM] at hn;exact qB (Nat.le_max_right _ _) ‹_›);rw[zdH];simp only[zbo,Ed5,zT,zv,jv,jr,jB,jj,zky,zkE,ji,zK,z0,z6,zej,zhJ,zeo,zdz,k8,jV,zQ,zO,zP,jc,g_0,g_s,jx,zdm,R.bind_ok,jo,kT,zR,za7,je,jq,k5,zbK,kz,↓ztF,zjm,zfj,zeM,zjJ,iha,ihb,hz z hw.1]
 |call a b iha ihb=>
  intro n hw hn;obtain⟨n,rfl⟩:∃k,n=k+1:=⟨n - 1,by exact(Nat.sub_add_cancel (qB (Nat.zero_le _) ‹_›)).symm⟩;have iha:=iha n hw.1 (by simp[zjp] at hn;exact qB (Nat.le_max_left _ _) ‹_›);have ihb:=ihb n hw.2 (by simp[zjp] at hn;exact qB (Nat.le_max_right _ _) ‹_›);have h2:decide ((2:Int)=(([a.d,b.d]:List D).length:Nat))=true:=rfl;rw[zdH];simp only[zbo,Ed6,zT,zv,jv,jr,jB,jj,zby,zag,jN,zaP,jT,zW,kc,zky,zkE,ji,zK,zdI,z0,z6,zyE,zr0,zej,zhJ,zeo,zdz,k8,jV,zQ,zO,zP,jc,g_0,g_s,jx,zdm,R.bind_ok,List.set_cons_zero,List.set_cons_succ,jo,zp0,kT,zR,zbS,za7,je,jq,k5,kz,↓zko,zgT,zc7,zc5,ze5,hin,hix,hc,kK,zkK,h2,zqO,iha,ihb]
noncomputable def zbT(r:List Tok):Prop:=pk r≠[43]/\pk r≠[45]/\pk r≠[40]
noncomputable def PN(k:Nat)(ts:List Tok)(d:D):Prop:=∀n r,k<=n->pk r≠[40]->pE n (ts++r)=stp d r
noncomputable def PX(k:Nat)(ts:List Tok)(d:D):Prop:=∀n r,k<=n->zbT r->pE n (ts++r)=.ok (d,r)
theorem znv{d:D}{r:List Tok}(h:zbT r):stp d r=.ok (d,r):=by
 have hh:∀t,pk r=t->¬(t=[43]\/t=[45]):=by
  rintro t rfl (h'|h')
  ·exact h.1 h'
  ·exact h.2.1 h'
 match r,hh with
 |[],_=>rfl
 |[t],hh=>rw[stp,if_neg (hh t rfl)]
 |t::u::r,hh=>rw[stp,if_neg (hh t rfl)]
theorem PN.px{k:Nat}{ts:List Tok}{d:D}(h:PN k ts d):PX k ts d:=fun n r hn hr=>by rw[h n r hn hr.2.2,znv hr]
theorem PX.mono{k k':Nat}{ts:List Tok}{d:D}(h:PX k ts d)(hk:k<=k'):PX k' ts d:=fun n r hn hr=>h n r (qA hk hn) hr
theorem PN.mono{k k':Nat}{ts:List Tok}{d:D}(h:PN k ts d)(hk:k<=k'):PN k' ts d:=fun n r hn hr=>h n r (qA hk hn) hr
theorem zjO{n:Nat}(h:3<=n):pE n=exC (pE (n - 1)) (pA (n - 1)):=by
 obtain⟨n,rfl⟩:∃k,n=k+1:=⟨n - 1,by exact(Nat.sub_add_cancel (qB (Nat.zero_le _) ‹_›)).symm⟩;rw[zt8,if_neg (by exact Nat.not_le.mpr ‹_›)];rfl
theorem zmp{n:Nat}(h:3<=n):pA n=atC (pE (n - 1)):=by
 obtain⟨n,rfl⟩:∃k,n=k+1:=⟨n - 1,by exact(Nat.sub_add_cancel (qB (Nat.zero_le _) ‹_›)).symm⟩;rw[zuf,if_neg (by exact Nat.not_le.mpr ‹_›)];rfl
theorem zj3{i:Nat}(h:i=0\/i=1\/i=2\/i=10):PN 4 [j2 i] (zfF i):=by
 intro n r hn hr;rw[zjO (by exact qC ‹_›),exC,zmp (by exact Nat.le_sub_of_add_le ‹_›)];rcases h with rfl|rfl|rfl|rfl<;>rfl
theorem zl7{x:Tok}(h:kW x=true):∃c t,x=c::t/\jX c=true/\zlb.contains x=false:=by
 induction x using List.casesOn with
 |nil=>exact ff h
 |cons c t=>
  simp only[kW,Bool.and_eq_true,Bool.not_eq_true'] at h;exact⟨c,t,rfl,h.1,h.2⟩
theorem zes{x:Tok}(h:kW x=true):PN 4 [x] (zcv x):=by
 intro n r hn hr;obtain⟨c,t,rfl,hc,hk⟩:=zl7 h;rw[zjO (by exact qC ‹_›),exC,zmp (by exact Nat.le_sub_of_add_le ‹_›)];have h1:¬(pk ([c::t]++r)=tIf):=by
  intro e;have e:c::t=tIf:=e;rw[e] at hk;exact tf hk
 have h2:¬(pk ([c::t]++r)=[40]):=by
  intro e;have e:c::t=[40]:=e;injection e with e _
  subst e;exact ff hc
 have h3:¬(zbi (pk ([c::t]++r))=true):=by
  show ¬(jm c=true);simp[jX] at hc;simp[jm];lia
 rw[if_neg h1,atC,if_neg h2,if_neg h3];have h4:jH ([c::t]++r)=.ok (c::t):=by
  show(if kW (c::t)=true then _ else _)=_;rw[if_pos h];rfl
 rw[h4];show R.bind (if pk r=[40] then _ else _) _=_;rw[if_neg hr];rfl
theorem PX.paren{k:Nat}{ts:List Tok}{d:D}(h:PX k ts d):PN (k+5) ([[40]]++ts++[[41]]) d:=by
 intro n r hn hr;rw[zjO (by exact qB (Nat.le_add_left _ _) ‹_›),exC,if_neg (by simp[pk]),zmp (by lia),atC,if_pos (by rfl)];have:=h (n - 1 - 1) ([[41]]++r) (by lia) (by simp[zbT,pk]);simp only[List.append_assoc,List.cons_append,List.nil_append,drs,dr0] at this ⊢;rw[this];rfl
theorem PN.plus{k:Nat}{ts:List Tok}{d:D}(h:PN k ts d):PN k (ts++[[43],[49]]) (zla d):=by
 intro n r hn hr;rw[List.append_assoc,h n _ hn (by simp[pk])];rfl
theorem PN.minus{k:Nat}{ts:List Tok}{d:D}(h:PN k ts d):PN k (ts++[[45],[49]]) (zd3 d):=by
 intro n r hn hr;rw[List.append_assoc,h n _ hn (by simp[pk])];rfl
theorem zoz{k:Nat}{x:Tok}{ta tb:List Tok}{a b:D}(hx:kW x=true)(ha:PX k ta a)(hb:PX k tb b):PX (k+3) ([tIf,x,zbv]++ta++[za8]++tb) (eIf x a b):=by
 intro n r hn hr;have h1:=ha (n - 1) ([za8]++tb++r) (by lia) (by simp[zbT,pk]);have h2:=hb (n - 1) r (by lia) hr;rw[zjO (by exact qB (Nat.le_add_left _ _) ‹_›),exC,if_pos (by rfl)];simp only[List.append_assoc,List.cons_append,List.nil_append,drs,dr0] at h1 h2 ⊢;simp only[jH,zbs,hx,if_true,jb,R.bind_ok,drs,dr0,h1,h2]
theorem zlp{k:Nat}{ta tb:List Tok}{a b:D}(ha:PX k ta a)(hb:PX k tb b):PN (k+5) ([tG,[40]]++ta++[[44]]++tb++[[41]]) (zbU tG [a,b]):=by
 intro n r hn hr;have h1:=ha (n - 1 - 1) ([[44]]++tb++[[41]]++r) (by lia) (by simp[zbT,pk]);have h2:=hb (n - 1 - 1) ([[41]]++r) (by lia) (by simp[zbT,pk]);rw[zjO (by exact qB (Nat.le_add_left _ _) ‹_›),exC,if_neg (by simp[pk]),zmp (by lia),atC,if_neg (by simp[pk]),if_neg (by exact fun h=>ff h)];simp only[List.append_assoc,List.cons_append,List.nil_append,drs,dr0] at h1 h2 ⊢;have hx:kW tG=true:=by decide
 simp only[jH,zbs,hx,if_true,R.bind_ok];rw[zbG,if_pos (Or.inl rfl)];simp only[drs,dr0,h1,R.bind_ok,List.nil_append];rw[zbG,if_pos (show[a]=[]\/pk ([44]::(tb++[41]::r))=[44] from Or.inr rfl)];simp only[drs,dr0,h2,R.bind_ok];rw[zbG,if_neg (by simp[pk])];rfl
noncomputable def zze(c:Nat):Prop:=cls c=0
theorem znJ{c:Nat}(h:cls c≠0)(b:List Nat){d:Nat}(hd:cls d=0):same c (d::b)=false:=by simp[same,hd,h]
theorem zgU{c:Nat}(hc:cls c=0)(b:List Nat):∀a:List Nat,tok (a++c::b)=tok a++tok (c::b):=by
 intro a;induction a with
 |nil=>rfl
 |cons d a ih=>
  rw[List.cons_append,zbg,ih]
  conv=>rhs;rw[zbg]
  by_cases h32:d=32
  ·rw[if_pos h32,if_pos h32]
  ·rw[if_neg h32,if_neg h32];induction a using List.casesOn with
   |nil=>
    have h1:¬(cls d≠0/\same d ([]++c::b)=true):=by
     rintro⟨h1,h2⟩;rw[List.nil_append,znJ h1 b hc] at h2;exact ff h2
    rw[if_neg h1,if_neg (by simp[same])];rfl
   |cons e a=>
    have es:same d (e::a++c::b)=same d (e::a):=rfl;rw[es];by_cases hs:cls d≠0/\same d (e::a)=true
    ·rw[if_pos hs,if_pos hs];have hne:tok (e::a)≠[]:=by
      have he:cls e≠0:=by
       have:cls d=cls e:=by simpa [same] using hs.2
       rw[←this];exact hs.1
      rw[zdr he a e rfl];exact List.cons_ne_nil _ _
     cases hx:tok (e::a) with
     |nil=>exact absurd hx hne
     |cons t ts=>rfl
    ·rw[if_neg hs,if_neg hs];rfl
theorem zdh{c:Nat}(hc:cls c=0)(h:c≠32)(b:List Nat):tok (c::b)=[c]::tok b:=by rw[zbg,if_neg h,if_neg (by simp[hc])]
theorem zdM(b:List Nat):tok (32::b)=tok b:=by rw[zbg,if_pos rfl]
theorem jJ{a:List Nat}{c:Nat}{b:List Nat}(hc:cls c=0)(h:c≠32):tok (a++c::b)=tok a++[c]::tok b:=by rw[zgU hc,zdh hc h]
theorem zB{a b:List Nat}:tok (a++32::b)=tok a++tok b:=by rw[zgU zgK,zdM]
theorem zmq{a:List Nat}:tok (a++[32])=tok a:=by rw[zB];exact List.append_nil _
end Mine
namespace Mine
open PySem
theorem zaq(r:List Tok)(w:Tok):jb r w≠.stuck:=by unfold jb;split<;>nofun
theorem zdk(r:List Tok):jH r≠.stuck:=by unfold jH;split<;>nofun
noncomputable def j1(r r':List Tok):Prop:=∃u,r=u++r'/\[63]∉u
theorem j1.refl(r:List Tok):j1 r r:=⟨[],rfl,by trivial⟩
theorem j1.trans{a b c:List Tok}(h1:j1 a b)(h2:j1 b c):j1 a c:=by
 obtain⟨u,rfl,hu⟩:=h1;obtain⟨v,rfl,hv⟩:=h2;exact⟨u++v,by exact(List.append_assoc _ _ _).symm,by simp[hu,hv]⟩
theorem j1.len{a b:List Tok}(h:j1 a b):b.length<=a.length:=by obtain⟨u,rfl,_⟩:=h;simp
theorem zcz{t:Tok}{r:List Tok}(h:t≠[63]):j1 (t::r) r:=⟨[t],rfl,by simp;exact fun e=>h e.symm⟩
noncomputable def zcr(r:List Tok):Prop:=∀t∈r,zbi t=true->zoF t≠.stuck
theorem j1.good{a b:List Tok}(h:j1 a b)(g:zcr a):zcr b:=by
 obtain⟨u,rfl,_⟩:=h;exact fun t ht=>g t (by exact List.mem_append_right _ ‹_›)
theorem kL{r r':List Tok}{w:Tok}(hw:w≠[])(hq:w≠[63])(h:jb r w=.ok r'):j1 r r'/\r'.length+1=r.length:=by
 obtain⟨h1,h2,h3⟩:=zhZ hw h;induction r using List.casesOn with
 |nil=>exact absurd rfl h3
 |cons t r=>
  have e:t=w:=h1;subst e;subst h2;exact⟨zcz hq,by rfl⟩
theorem zcd{r:List Tok}{x:Tok}(h:jH r=.ok x):j1 r (r.drop 1)/\(r.drop 1).length+1=r.length:=by
 induction r using List.casesOn with
 |nil=>exact nv h
 |cons t r=>
  refine⟨zcz ?_,by rfl⟩;rintro rfl;exact nv h
theorem zpi:∀(d:D) (r:List Tok),stp d r≠.stuck/\∀q,stp d r=.ok q->j1 r q.2:=by
 intro d r
 fun_induction stp d r with
 |case1 d=>exact⟨by exact fun h=>os h,fun q h=>by injection h with h;subst h;exact j1.refl _⟩
 |case2 d t h=>exact⟨by exact fun h=>vs' h,fun q h=>by exact nv h⟩
 |case3 d t h=>exact⟨by exact fun h=>os h,fun q h=>by injection h with h;subst h;exact j1.refl _⟩
 |case4 d t r h ih=>
  refine⟨ih.1,fun q hq=>j1.trans (zcz ?_) (j1.trans (zcz (by decide)) (ih.2 q hq))⟩;rcases h with rfl|rfl<;>decide
 |case5 d t u r h h2=>exact⟨by exact fun h=>vs' h,fun q h=>by exact nv h⟩
 |case6 d t u r h=>exact⟨by exact fun h=>os h,fun q h=>by injection h with h;subst h;exact j1.refl _⟩
noncomputable def zsY(r:List Tok)(x:PR):Prop:=x≠.stuck/\∀q,x=.ok q->j1 r q.2/\q.2.length<r.length
theorem zq4{pf:List Tok->PR}:∀(m:Nat) (as:List D) (r:List Tok),r.length<m->zcr r->(as=[]->pk r=[40])->
  (∀r',r'.length<r.length->zcr r'->zsY r' (pf r'))->agC pf m as r≠.stuck/\∀q,agC pf m as r=.ok q->j1 r q.2:=by
 intro m;induction m with
 |zero=>intro as r h;exact absurd h (by exact absurd ‹_› (Nat.not_lt_zero _))
 |succ m ih=>
  intro as r hm hg h0 hp;rw[zbG];by_cases h:as=[]\/pk r=[44]
  ·rw[if_pos h];have hr:∃t r1,r=t::r1/\t≠[63]:=by
    induction r using List.casesOn with
    |nil=>exact h.elim (fun h=>nomatch (h0 h)) (fun h=>nomatch h)
    |cons t r1=>
     refine⟨t,r1,rfl,?_⟩;rintro rfl;rcases h with h|h
     ·have:=h0 h;cases this
     ·cases h
   obtain⟨t,r1,rfl,ht⟩:=hr;have hg1:zcr r1:=fun x hx=>hg x (by exact List.mem_cons_of_mem _ ‹_›);have f:=hp r1 (by simp) hg1;show R.bind (pf r1) _≠_/\∀q,R.bind (pf r1) _=_->_;cases hx:pf r1 with
   |stuck=>exact absurd hx f.1
   |ve=>exact⟨by exact fun h=>vs' h,fun q h=>by exact nv h⟩
   |ok q=>
    obtain⟨hc,hl⟩:=f.2 q hx;have i:=ih (as++[q.1]) q.2 (by simp at hm;exact Nat.lt_trans ‹_› ‹_›) (hc.good hg1) (by simp) (fun r' hr' hg'=>hp r' (by simp;lia) hg');exact⟨i.1,fun q' h'=>(zcz ht).trans (hc.trans (i.2 q' h'))⟩
  ·rw[if_neg h];exact⟨by exact fun h=>os h,fun q h=>by injection h with h;subst h;exact j1.refl _⟩
theorem zpd:∀(n:Nat),(∀r:List Tok,zcr r->r.length<1000->2*r.length+6<=n->zsY r (pE n r))/\(∀r:List Tok,zcr r->r.length<1000->2*r.length+5<=n->zsY r (pA n r)):=by
 intro n;induction n with
 |zero=>exact⟨fun r _ _ h=>absurd h (by exact absurd ‹_› (Nat.not_lt_zero _)),fun r _ _ h=>absurd h (by exact absurd ‹_› (Nat.not_lt_zero _))⟩
 |succ n ih=>
  obtain⟨ihE,ihA⟩:=ih;constructor
  ·intro r hg hl hn;rw[zjO (by exact qB (Nat.le_add_left _ _) ‹_›),Nat.add_sub_cancel,exC];by_cases h:pk r=tIf
   ·rw[if_pos h];induction r using List.casesOn with
    |nil=>cases h
    |cons t r1=>
     have e:t=tIf:=h;subst e;have c0:j1 (tIf::r1) r1:=zcz (by decide);simp only[drs,dr0];cases hx:jH r1 with
     |stuck=>exact absurd hx (zdk _)
     |ve=>exact⟨by exact fun h=>vs' h,fun q h=>by exact nv h⟩
     |ok x=>
      obtain⟨c1,l1⟩:=zcd hx;cases hw:jb (r1.drop 1) zbv with
      |stuck=>exact absurd hw (zaq _ _)
      |ve=>exact⟨by exact fun h=>vs' h,fun q h=>by exact nv h⟩
      |ok r2=>
       obtain⟨c2,l2⟩:=kL (by decide) (by decide) hw;simp only[R.bind_ok];have cc:=c0.trans (c1.trans c2);have f:=ihE r2 (cc.good hg) (by simp at hl;lia) (by simp at hn;lia);cases ha:pE n r2 with
       |stuck=>exact absurd ha f.1
       |ve=>exact⟨by exact fun h=>vs' h,fun q h=>by exact nv h⟩
       |ok q=>
        obtain⟨c3,l3⟩:=f.2 q ha;simp only[R.bind_ok];cases hw:jb q.2 za8 with
        |stuck=>exact absurd hw (zaq _ _)
        |ve=>exact⟨by exact fun h=>vs' h,fun q h=>by exact nv h⟩
        |ok r4=>
         obtain⟨c4,l4⟩:=kL (by decide) (by decide) hw;simp only[R.bind_ok];have cc:=cc.trans (c3.trans c4);have f:=ihE r4 (cc.good hg) (by simp at hl;lia) (by simp at hn;lia);cases hb:pE n r4 with
         |stuck=>exact absurd hb f.1
         |ve=>exact⟨by exact fun h=>vs' h,fun q h=>by exact nv h⟩
         |ok q=>
          obtain⟨c5,l5⟩:=f.2 q hb;refine⟨by exact fun h=>os h,fun q h=>?_⟩;injection h with h
          subst h;exact⟨cc.trans c5,by simp;lia⟩
   ·rw[if_neg h];have f:=ihA r hg hl (by exact Nat.le_of_lt_succ ‹_›);cases ha:pA n r with
    |stuck=>exact absurd ha f.1
    |ve=>exact⟨by exact fun h=>vs' h,fun q h=>by exact nv h⟩
    |ok q=>
     obtain⟨c1,l1⟩:=f.2 q ha;have s:=zpi q.1 q.2;exact⟨s.1,fun q' h'=>⟨c1.trans (s.2 q' h'),by have:=(s.2 q' h').len;exact qB ‹_› ‹_›⟩⟩
  ·intro r hg hl hn;rw[zmp (by exact qB (Nat.le_add_left _ _) ‹_›),Nat.add_sub_cancel,atC];by_cases h:pk r=[40]
   ·rw[if_pos h];induction r using List.casesOn with
    |nil=>cases h
    |cons t r1=>
     have e:t=[40]:=h;subst e;have c0:j1 ([40]::r1) r1:=zcz (by decide);simp only[drs,dr0];have f:=ihE r1 (c0.good hg) (by simp at hl;exact qC ‹_›) (by simp at hn;assumption);cases ha:pE n r1 with
     |stuck=>exact absurd ha f.1
     |ve=>exact⟨by exact fun h=>vs' h,fun q h=>by exact nv h⟩
     |ok q=>
      obtain⟨c1,l1⟩:=f.2 q ha;simp only[R.bind_ok];cases hw:jb q.2 [41] with
      |stuck=>exact absurd hw (zaq _ _)
      |ve=>exact⟨by exact fun h=>vs' h,fun q h=>by exact nv h⟩
      |ok r2=>
       obtain⟨c2,l2⟩:=kL (by decide) (by decide) hw;refine⟨by exact fun h=>os h,fun q h=>?_⟩;injection h with h
       subst h;exact⟨c0.trans (c1.trans c2),by simp;lia⟩
   ·rw[if_neg h];by_cases hN:zbi (pk r)=true
    ·rw[if_pos hN];induction r using List.casesOn with
     |nil=>exact ff hN
     |cons t r1=>
      have ht:t≠[63]:=by rintro rfl;exact ff hN
      have c0:j1 (t::r1) r1:=zcz ht;have hs:=hg t (List.mem_cons_self) hN;show zsY _ (R.bind (zoF t) _);cases hx:zoF t with
      |stuck=>exact absurd hx hs
      |ve=>exact⟨by exact fun h=>vs' h,fun q h=>by exact nv h⟩
      |ok d=>
       refine⟨by exact fun h=>os h,fun q h=>?_⟩;injection h with h
       subst h;exact⟨c0,by simp⟩
    ·rw[if_neg hN];cases hx:jH r with
     |stuck=>exact absurd hx (zdk _)
     |ve=>exact⟨by exact fun h=>vs' h,fun q h=>by exact nv h⟩
     |ok x=>
      obtain⟨c1,l1⟩:=zcd hx;simp only[R.bind_ok];by_cases hq:pk (r.drop 1)=[40]
      ·rw[if_pos hq];have ag:=zq4 (pf:=pE n) 2000 [] (r.drop 1) (by lia) (c1.good hg) (fun _=>hq) (fun r' hr' hg'=>ihE r' hg' (by lia) (by lia));cases ha:agC (pE n) 2000 [] (r.drop 1) with
       |stuck=>exact absurd ha ag.1
       |ve=>exact⟨by exact fun h=>vs' h,fun q h=>by exact nv h⟩
       |ok q=>
        have c2:=ag.2 q ha;simp only[R.bind_ok];cases hw:jb q.2 [41] with
        |stuck=>exact absurd hw (zaq _ _)
        |ve=>exact⟨by exact fun h=>vs' h,fun q h=>by exact nv h⟩
        |ok r2=>
         obtain⟨c3,l3⟩:=kL (by decide) (by decide) hw;refine⟨by exact fun h=>os h,fun q h=>?_⟩;injection h with h
         subst h;exact⟨c1.trans (c2.trans c3),by have:=c2.len;have:=c3.len;simp at *;lia⟩
      ·rw[if_neg hq];refine⟨by exact fun h=>os h,fun q h=>?_⟩;injection h with h
       subst h;exact⟨c1,by simp at *;lia⟩
theorem zq6:∀(ps r:List Tok),prC ps r≠.stuck/\∀q,prC ps r=.ok q->j1 r q.2:=by
 intro ps r
 fun_induction prC ps r with
 |case1 ps=>exact⟨by exact fun h=>os h,fun q h=>by injection h with h;subst h;exact j1.refl _⟩
 |case2 ps=>exact⟨by exact fun h=>vs' h,fun q h=>by exact nv h⟩
 |case3 ps c h=>exact⟨by exact fun h=>os h,fun q h=>by injection h with h;subst h;exact j1.refl _⟩
 |case4 ps x r h ih=>
  refine⟨ih.1,fun q hq=>j1.trans (zcz (by decide)) (j1.trans (zcz ?_) (ih.2 q hq))⟩;rintro rfl;exact ff h
 |case5 ps x r h=>exact⟨by exact fun h=>vs' h,fun q h=>by exact nv h⟩
 |case6 ps c x r h=>exact⟨by exact fun h=>os h,fun q h=>by injection h with h;subst h;exact j1.refl _⟩
set_option tactic.hygienic true in
theorem zsI{n:Nat}{ts:List Tok}(hg:zcr ts)(hl:ts.length<1000)(hn:2*ts.length+6<=n)(hq:[63]∈ts):zcl n ts=.ve:=by
 have key:zcl n ts≠.stuck/\∀r,zcl n ts=.ok r->j1 ts []:=by
  unfold zcl;cases h1:jH ts with
  |stuck=>exact absurd h1 (zdk _)
  |ve=>exact⟨by exact fun h=>vs' h,fun q h=>by exact nv h⟩
  |ok f=>
   obtain⟨c1,l1⟩:=zcd h1;cases h2:jb (ts.drop 1) [40] with
   |stuck=>exact absurd h2 (zaq _ _)
   |ve=>exact⟨by exact fun h=>vs' h,fun q h=>by exact nv h⟩
   |ok r2=>
    obtain⟨c2,l2⟩:=kL (by decide) (by decide) h2;simp only[R.bind_ok];cases h3:jH r2 with
    |stuck=>exact absurd h3 (zdk _)
    |ve=>exact⟨by exact fun h=>vs' h,fun q h=>by exact nv h⟩
    |ok p=>
     obtain⟨c3,l3⟩:=zcd h3;simp only[R.bind_ok];have f4:=zq6 [p] (r2.drop 1);cases h4:prC [p] (r2.drop 1) with
     |stuck=>exact absurd h4 f4.1
     |ve=>exact⟨by exact fun h=>vs' h,fun q h=>by exact nv h⟩
     |ok q=>
      have c4:=f4.2 q h4;simp only[R.bind_ok];cases h5:jb q.2 [41] with
      |stuck=>exact absurd h5 (zaq _ _)
      |ve=>exact⟨by exact fun h=>vs' h,fun q h=>by exact nv h⟩
      |ok r5=>
       obtain⟨c5,l5⟩:=kL (by decide) (by decide) h5;simp only[R.bind_ok];cases h6:jb r5 [61] with
       |stuck=>exact absurd h6 (zaq _ _)
       |ve=>exact⟨by exact fun h=>vs' h,fun q h=>by exact nv h⟩
       |ok r6=>
        obtain⟨c6,l6⟩:=kL (by decide) (by decide) h6;simp only[R.bind_ok];have cc:=c1.trans (c2.trans (c3.trans (c4.trans (c5.trans c6))));have:=cc.len;have f7:=(zpd n).1 r6 (cc.good hg) (by exact qB ‹_› ‹_›) (by lia);cases h7:pE n r6 with
        |stuck=>exact absurd h7 f7.1
        |ve=>exact⟨by exact fun h=>vs' h,fun q h=>by exact nv h⟩
        |ok e=>
         obtain⟨c7,_⟩:=f7.2 e h7;simp only[R.bind_ok];split
         ·exact⟨by exact fun h=>vs' h,fun q h=>by exact nv h⟩
         ·rename_i hne;refine⟨by exact fun h=>os h,fun r hr=>?_⟩;have:e.2=[]:=by
           by_cases hx:e.2=[]
           ·exact hx
           ·exact absurd (Or.inl hx) hne
          rw[←this];exact cc.trans c7
 cases h:zcl n ts with
 |stuck=>exact absurd h key.1
 |ve=>rfl
 |ok r=>
  obtain⟨u,hu,hu'⟩:=key.2 r h;rw[List.append_nil] at hu;rw[hu] at hq;exact absurd hq hu'
end Mine
namespace Mine
open PySem
noncomputable def qd:List Nat->Prop
 |[]=>True
 |c::r=>(jm c=true->(c=48\/c=49\/c=50)/\(∀d,r.head?=some d->jm d=true->c=49/\d=48))/\qd r
theorem zrw{b:List Nat}:∀{a:List Nat},qd (a++b)->qd a:=by
 intro a;induction a with
 |nil=>intro _;trivial
 |cons c a ih=>
  intro h;refine⟨fun hc=>⟨(h.1 hc).1,fun d hd hdd=>(h.1 hc).2 d ?_ hdd⟩,ih h.2⟩;induction a using List.casesOn with
  |nil=>exact nn hd
  |cons e a=>exact hd
theorem znG{b:List Nat}:∀{a:List Nat},qd (a++b)->qd b:=by
 intro a;induction a with
 |nil=>exact id
 |cons c a ih=>exact fun h=>ih h.2
theorem zdK{b:List Nat}{c:Nat}(hc:jm c=false)(hb:qd b):∀{a:List Nat},qd a->qd (a++c::b):=by
 intro a;induction a with
 |nil=>intro _;exact⟨fun h=>(by rw[hc] at h;exact ff h),hb⟩
 |cons d a ih=>
  intro h;refine⟨fun hd=>⟨(h.1 hd).1,fun e he hee=>?_⟩,ih h.2⟩;induction a using List.casesOn with
  |nil=>
   have:c=e:=by simpa using he
   subst this;rw[hc] at hee;exact ff hee
  |cons f a=>exact(h.1 hd).2 e he hee
theorem zjX{b:List Nat}{c:Nat}(hc:jm c=false)(hb:qd b):qd (c::b):=⟨fun h=>(by rw[hc] at h;exact ff h),hb⟩
theorem zss{c:Nat}(h:jm c=true):cls c=2:=by
 have:jX c=false:=by simp[jm] at h;simp[jX];lia
 simp[cls,this,h]
theorem zrj{c:Nat}(h:cls c=2):jm c=true:=by
 unfold cls at h;split at h
 ·cases h
 ·split at h
  ·assumption
  ·cases h
theorem zvI:∀(l:List Nat),qd l->∀t∈tok l,zbi t=true->t=[48]\/t=[49]\/t=[50]\/t=[49,48]:=by
 intro l;induction l with
 |nil=>intro _ t ht;exact absurd ht List.not_mem_nil
 |cons c r ih=>
  intro h t ht hN;rw[zbg] at ht;by_cases h32:c=32
  ·rw[if_pos h32] at ht;exact ih h.2 t ht hN
  ·rw[if_neg h32] at ht;by_cases hs:cls c≠0/\same c r=true
   ·rw[if_pos hs] at ht;induction r using List.casesOn with
    |nil=>simp[same] at hs
    |cons d r=>
     have hcd:cls c=cls d:=by simpa [same] using hs.2
     have hrun:=zdr (hcd▸hs.1) r d rfl;have ih':=ih h.2;rw[hrun] at ht ih';rcases List.mem_cons.mp ht with rfl|ht
     ·have hcN:jm c=true:=hN;have hdD:jm d=true:=zrj (by rw[←hcd];exact zss hcN);obtain⟨hc,hd⟩:=(h.1 hcN).2 d rfl hdD;have:=ih' _ (List.mem_cons_self ..) hdD;rw[hc];rcases this with e|e|e|e
      ·rw[e];trivial
      ·injection e with e _;rw[hd] at e;cases e
      ·injection e with e _;rw[hd] at e;cases e
      ·injection e with e _;rw[hd] at e;cases e
     ·exact ih' t (List.mem_cons_of_mem _ ht) hN
   ·rw[if_neg hs] at ht;rcases List.mem_cons.mp ht with rfl|ht
    ·have hcN:jm c=true:=hN;rcases (h.1 hcN).1 with rfl|rfl|rfl<;>trivial
    ·exact ih h.2 t ht hN
theorem zk6{l:List Nat}(h:qd l):zcr (tok l):=by
 intro t ht hN;rcases zvI l h t ht hN with rfl|rfl|rfl|rfl
 ·show R.ok (zfF 0)≠_;exact fun h=>os h
 ·show R.ok (zfF 1)≠_;exact fun h=>os h
 ·show R.ok (zfF 2)≠_;exact fun h=>os h
 ·show R.ok (zfF 10)≠_;exact fun h=>os h
theorem zjf{l:List Nat}(h:qd l)(p:Nat):zcr (tok (l.take p++63::l.drop p))/\[63]∈tok (l.take p++63::l.drop p):=by
 have hs:cls 63=0:=by decide
 rw[jJ hs (by decide)];have h':qd (l.take p++l.drop p):=by rw[List.take_append_drop];exact h
 refine⟨?_,by simp⟩;intro t ht;rcases List.mem_append.mp ht with ht|ht
 ·exact zk6 (zrw h') t ht
 ·rcases List.mem_cons.mp ht with rfl|ht
  ·intro hN;exact ff hN
  ·exact zk6 (znG h') t ht
noncomputable def PP(k:Nat)(b:Bool)(ts:List Tok)(d:D):Prop:=if b then PX k ts d else PN k ts d
theorem PP.px{k:Nat}{b:Bool}{ts:List Tok}{d:D}(h:PP k b ts d):PX k ts d:=by
 cases b
 ·exact PN.px h
 ·exact h
theorem PP.mono{k k':Nat}{b:Bool}{ts:List Tok}{d:D}(h:PP k b ts d)(hk:k<=k'):PP k' b ts d:=by
 cases b
 ·exact PN.mono h hk
 ·exact PX.mono h hk
theorem zuG{p:Nat->Bool}:∀{r:List Nat},(∀d∈r,p d=true)->r.takeWhile p=r/\r.dropWhile p=[]:=by
 intro r;induction r with
 |nil=>intro _;trivial
 |cons c r ih=>
  intro h;have hc:=h c (List.mem_cons_self);obtain⟨h1,h2⟩:=ih (fun d hd=>h d (by exact List.mem_cons_of_mem _ ‹_›));simp[hc,h1,h2]
theorem zhw{x:List Nat}(h:x≠[])(ha:∀c∈x,jX c=true):tok x=[x]:=by
 induction x using List.casesOn with
 |nil=>exact absurd rfl h
 |cons c r=>
  have hp:∀d∈r,(fun d=>cls d==1) d=true:=by
   intro d hd;simp[cls,ha d (by simp[hd])]
  rw[zdr (by decide:(1:Nat)≠0) r c (by simp[cls,ha c (by simp)])];obtain⟨h1,h2⟩:=zuG hp;rw[h1,h2];rfl
theorem ztS(i:Nat):tok (j2 i)=[j2 i]:=by
 unfold j2;split
 ·decide
 ·split
  ·decide
  ·split<;>decide
structure zV(x:Tok):Prop where
 nb:kW x=true
 al:∀c∈x,jX c=true
theorem zV.ne{x:Tok}(h:zV x):x≠[]:=by rintro rfl;cases h.nb
theorem zV.tok{x:Tok}(h:zV x):tok x=[x]:=zhw h.ne h.al
theorem zuk{x:Tok}(hx:zV x)(a b:List Nat):tok ([105,102,32]++x++[32,116,104,101,110,32]++a++[32,101,108,115,101,32]++b)=[tIf,x,zbv]++tok a++[za8]++tok b:=by
 have e:[105,102,32]++x++[32,116,104,101,110,32]++a++[32,101,108,115,101,32]++b=tIf++32::(x++32::(zbv++32::(a++32::(za8++32::b)))):=by simp
 rw[e,zB,zB,zB,zB,zB,hx.tok];have h1:tok tIf=[tIf]:=by decide
 have h2:tok zbv=[zbv]:=by decide
 have h3:tok za8=[za8]:=by decide
 rw[h1,h2,h3];simp
theorem zqn(a b:List Nat):tok (tG++[40]++(a++[44,32]++b)++[41])=[tG,[40]]++tok a++[[44]]++tok b++[[41]]:=by
 have e:tG++[40]++(a++[44,32]++b)++[41]=tG++40::(a++44::([]++32::(b++41::[]))):=by simp
 rw[e,jJ (by decide) (by decide),jJ (by decide) (by decide),zB,jJ (by decide) (by decide)];have h1:tok tG=[tG]:=by decide
 have h2:tok []=[]:=rfl;rw[h1,h2];simp
theorem zgR(a:List Nat):tok ([40]++a++[41])=[[40]]++tok a++[[41]]:=by
 have e:[40]++a++[41]=[]++40::(a++41::[]):=by rfl
 rw[e,jJ (by decide) (by decide),jJ (by decide) (by decide)];have h2:tok []=[]:=rfl;rw[h2];rfl
theorem zmc(a:List Nat):tok (a++[32,45,32,49])=tok a++[[45],[49]]:=by
 have e:a++[32,45,32,49]=a++32::([]++45::([]++32::[49])):=by rfl
 rw[e,zB,jJ (by decide) (by decide),zB];have h2:tok []=[]:=rfl;have h3:tok [49]=[[49]]:=by decide
 rw[h2,h3];rfl
theorem zor(a:List Nat):tok (a++[32,43,32,49])=tok a++[[43],[49]]:=by
 have e:a++[32,43,32,49]=a++32::([]++43::([]++32::[49])):=by rfl
 rw[e,zB,jJ (by decide) (by decide),zB];have h2:tok []=[]:=rfl;have h3:tok [49]=[[49]]:=by decide
 rw[h2,h3];rfl
theorem zfk{x y:Tok}(hx:zV x)(hy:zV y):∀e:E,e.wf x y->PP (5*e.dep+4) e.isIf (tok e.text) e.d:=by
 have hz:∀z,z=x\/z=y->zV z:=by rintro z (rfl|rfl)<;>assumption
 intro e;induction e with
 |num i=>intro h;show PN _ (tok (j2 i)) _;rw[ztS];exact zj3 h
 |name z=>intro h;show PN _ (tok z) _;rw[(hz z h).tok];exact zes (hz z h).nb
 |pred a ih=>
  intro h;show PN _ (tok (par a.isIf a.text++[32,45,32,49])) _;rw[zmc];have ih:=ih h;cases hi:a.isIf with
  |true=>
   rw[hi] at ih;simp only[par,if_true,zgR];exact(PX.paren ih).minus.mono (by simp[zj8];exact Nat.le_refl _)
  |false=>
   rw[hi] at ih;exact(PN.minus ih).mono (by simp[zj8];exact Nat.le_add_right _ _)
 |succ a ih=>
  intro h;show PN _ (tok (par a.isIf a.text++[32,43,32,49])) _;rw[zor];have ih:=ih h;cases hi:a.isIf with
  |true=>
   rw[hi] at ih;simp only[par,if_true,zgR];exact(PX.paren ih).plus.mono (by simp[ziU];exact Nat.le_refl _)
  |false=>
   rw[hi] at ih;exact(PN.plus ih).mono (by simp[ziU];exact Nat.le_add_right _ _)
 |iff z a b iha ihb=>
  intro h;show PX _ (tok (E.iff z a b).text) _;rw[E.text,zuk (hz z h.1)];exact(zoz (k:=5*max a.dep b.dep+4) (hz z h.1).nb ((iha h.2.1).px.mono (by lia)) ((ihb h.2.2).px.mono (by lia))).mono (by simp[zjM];lia)
 |call a b iha ihb=>
  intro h;show PN _ (tok (E.call a b).text) _;rw[E.text,zqn];exact(zlp (k:=5*max a.dep b.dep+4) ((iha h.1).px.mono (by lia)) ((ihb h.2).px.mono (by lia))).mono (by simp[zjp];exact Nat.le_refl _)
end Mine
namespace Mine
open PySem
noncomputable abbrev Res:=Option (Nat×Nat)
noncomputable def zl6:Res->D
 |none=>.tuple [OO,.int 0]
 |some (v,l)=>.tuple [.int v,.int l]
noncomputable def zrU(ρ:ze)(i:Nat)(l:D):R (Fl×ze):=.ok (.next,ρ.set i l)
theorem zdp{ρ:ze}{i:Nat}{l:D}:zrU ρ i l=.ok (.next,ρ.set i l):=rfl
theorem zi0{ρ:ze}{i:Nat}{d j:D}:zpb ρ i d j=R.bind (zbL (zr ρ i) j d) (zrU ρ i):=rfl
theorem zgL{ρ:ze}{i:Nat}{d:D}:zsB ρ i d=R.bind (zfG (zr ρ i) d) (zrU ρ i):=rfl
theorem zdW{xs:List D}{d:D}(h1:xs.length<1000000)(h2:isDict d=false):zfG (.list xs) d=.ok (.list (xs++[d])):=by
 show(if(isDict d||decide (zp<=xs.length))=true then R.stuck else _)=_;rw[if_neg];rw[h2,Bool.false_or,decide_eq_true_eq];unfold zp;lia
section
variable(ent:Nat->Nat->Nat->Res)(p:Tok)(v1 v2:Nat)
noncomputable def iv:E->Nat->Res
 |.num i,l=>some (i,l)
 |.name z,l=>some (if z=p then v1 else v2,l)
 |.pred a,l=>(iv a l).map fun r=>(r.1 - 1,r.2)
 |.succ a,l=>(iv a l).map fun r=>(r.1+1,r.2)
 |.iff z a b,l=>if(if z=p then v1 else v2)=0 then iv a l else iv b l
 |.call a b,l=>(iv a l).bind fun r=>(iv b r.2).bind fun q=>ent r.1 q.1 q.2
theorem zfV:∀(ent:Nat->Nat->Nat->Res) (p:Tok) (v1 v2 x:Nat) (z:Tok),iv ent p v1 v2 (E.name z) x=some (if z=p then v1 else v2,x):=fun _ _ _ _ _ _=>rfl
theorem zwT:∀(ent:Nat->Nat->Nat->Res) (p:Tok) (v1 v2 x:Nat) (a:E),iv ent p v1 v2 a.pred x=Option.map (fun(r:Nat×Nat)=>(r.fst - 1,r.snd)) (iv ent p v1 v2 a x):=fun _ _ _ _ _ _=>rfl
theorem zt1:∀(ent:Nat->Nat->Nat->Res) (p:Tok) (v1 v2 x:Nat) (a:E),iv ent p v1 v2 a.succ x=Option.map (fun(r:Nat×Nat)=>(r.fst+1,r.snd)) (iv ent p v1 v2 a x):=fun _ _ _ _ _ _=>rfl
theorem ztm:∀(ent:Nat->Nat->Nat->Res) (p:Tok) (v1 v2 x:Nat) (z:Tok) (a b:E),iv ent p v1 v2 (E.iff z a b) x=if(if z=p then v1 else v2)=0 then iv ent p v1 v2 a x else iv ent p v1 v2 b x:=fun _ _ _ _ _ _ _ _=>rfl
theorem zoJ:∀(ent:Nat->Nat->Nat->Res) (p:Tok) (v1 v2 x:Nat) (a b:E),iv ent p v1 v2 (a.call b) x=Option.bind (iv ent p v1 v2 a x) fun(r:Nat×Nat)=>Option.bind (iv ent p v1 v2 b r.snd) fun(q:Nat×Nat)=>ent r.fst q.fst q.snd:=fun _ _ _ _ _ _ _=>rfl
noncomputable def E.cp(Pr:Nat->Nat->Prop):E->Prop
 |.num _=>True
 |.name _=>True
 |.pred a=>a.cp Pr
 |.succ a=>a.cp Pr
 |.iff z a b=>if(if z=p then v1 else v2)=0 then a.cp Pr else b.cp Pr
 |.call a b=>a.cp Pr/\b.cp Pr/\∀l va l1 vb l2,iv ent p v1 v2 a l=some (va,l1)->iv ent p v1 v2 b l1=some (vb,l2)->Pr va vb
theorem zwt:∀(ent:Nat->Nat->Nat->Res) (p:Tok) (v1 v2:Nat) (Pr:Nat->Nat->Prop) (x_1:Tok),E.cp ent p v1 v2 Pr (E.name x_1)=True:=fun _ _ _ _ _ _=>rfl
theorem ztQ:∀(ent:Nat->Nat->Nat->Res) (p:Tok) (v1 v2:Nat) (Pr:Nat->Nat->Prop) (z:Tok) (a b:E),E.cp ent p v1 v2 Pr (E.iff z a b)=if(if z=p then v1 else v2)=0 then E.cp ent p v1 v2 Pr a else E.cp ent p v1 v2 Pr b:=fun _ _ _ _ _ _ _ _=>rfl
end
theorem zpT{p q:Tok}(hpq:p≠q){v1 v2:Nat}{z:Tok}(hz:z=p\/z=q):jg (.dict [(ds p,.int v1),(ds q,.int v2)]) (ds z)=.ok (.int (if z=p then v1 else v2:Nat)):=by
 show(if zfN (ds z)=true then z7 (kD [(ds p,.int v1),(ds q,.int v2)] (ds z)) else .stuck)=_;rw[if_pos (show zfN (ds z)=true from rfl)];show z7 (if(S p==S z)=true then _ else if(S q==S z)=true then _ else none)=_;by_cases h:z=p
 ·subst h;rw[if_pos (beq_self_eq_true _),if_pos rfl];rfl
 ·have:z=q:=hz.resolve_left h;subst this;rw[if_neg (fun e=>h (by simpa using (eq_of_beq e).symm)),if_pos (beq_self_eq_true _),if_neg h];rfl
theorem zyI(v:Nat):max (0:Int) ((v:Int) - 1)=((v - 1:Nat):Int):=by lia
section
variable{cf cio:Nat->List D->R D}{ρ σ:ze}{i:Nat}{s:PS}{x d:D}{xs:List D}
theorem kq{r:R (Fl×ze)}(h:exec G cf cio 2000 s (ρ.set i x)=.ok (.next,σ))(g:fl G cf cio 2000 (.one i) s xs σ=r):fl G cf cio 2000 (.one i) s (x::xs) ρ=r:=(congrArg (R.bind · _) h).trans g
theorem ztO(h:exec G cf cio 2000 s (ρ.set i x)=.ok (.ret d,σ)):fl G cf cio 2000 (.one i) s (x::xs) ρ=.ok (.ret d,σ):=congrArg (R.bind · _) h
end
theorem zhz{ent:Nat->Nat->Nat->Res}{p q:Tok}(hpq:p≠q){v1 v2:Nat}{defs:D}{Pr:Nat->Nat->Prop}{M:Nat}
  (hent:∀va vb l m:Nat,Pr va vb->M<=m->zd G T 2000 m 22 [defs,ds tG,.list [.int va,.int vb],.int l]=.ok (zl6 (ent va vb l))):
  ∀(e:E) (n l:Nat),e.wf p q->e.cp ent p v1 v2 Pr->M+e.dep<n->zd G T 2000 n 23 [defs,e.d,.dict [(ds p,.int v1),(ds q,.int v2)],.int l]=.ok (zl6 (iv ent p v1 v2 e l)):=by
 intro e;induction e with
 |num i=>
  intro n l hw hc hn;refine up1 hn fun n _=>?_;exact(zb8 ..).trans rfl
 |name z=>
  intro n l hw hc hn;refine up1 hn fun n _=>?_;refine(zb8 ..).trans ?_;exact Rt.fin (Rt.nxt rfl (Rt.seq (Rt.ift rfl (Rt.ret (jC (zj (zm rfl rfl (zpT hpq hw)) rfl) rfl)))))
 |pred a ih=>
  intro n l hw hc hn;refine up1 hn fun n hn'=>?_;have iha:=ih n l hw hc hn';refine(zb8 ..).trans ?_;rw[zwT];generalize iv ent p v1 v2 a l=o at iha;clear ih hw hc hn hn' hent;induction o using Option.casesOn with
  |none=>exact Rt.fin (Rt.nxt rfl (Rt.nxt rfl (Rt.seq (Rt.ift rfl (Rt.asgm (zn rfl iha) rfl (Rt.seq (Rt.ift rfl (Rt.ret rfl))))))))
  |some r=>exact Rt.fin (Rt.nxt rfl (Rt.nxt rfl (Rt.seq (Rt.ift rfl (Rt.asgm (zn rfl iha) rfl (Rt.nxt rfl (Rt.nxt rfl (Rt.ret (jC (zj (zm rfl rfl (congrArg (fun i=>R.ok (PyData.int i)) (zyI r.1))) rfl) rfl)))))))))
 |succ a ih=>
  intro n l hw hc hn;refine up1 hn fun n hn'=>?_;have iha:=ih n l hw hc hn';refine(zb8 ..).trans ?_;rw[zt1];generalize iv ent p v1 v2 a l=o at iha;clear ih hw hc hn hn' hent;induction o using Option.casesOn with
  |none=>exact Rt.fin (Rt.nxt rfl (Rt.nxt rfl (Rt.seq (Rt.ift rfl (Rt.asgm (zn rfl iha) rfl (Rt.seq (Rt.ift rfl (Rt.ret rfl))))))))
  |some r=>exact Rt.fin (Rt.nxt rfl (Rt.nxt rfl (Rt.seq (Rt.ift rfl (Rt.asgm (zn rfl iha) rfl (Rt.nxt rfl (Rt.seq (Rt.ift rfl (Rt.ret rfl)))))))))
 |iff z a b iha ihb=>
  intro n l hw hc hn;refine up1 hn fun n hn'=>?_;replace iha:=fun hc=>iha n l hw.2.1 hc (qB (Nat.add_le_add_left (Nat.le_max_left ..) M) hn');replace ihb:=fun hc=>ihb n l hw.2.2 hc (qB (Nat.add_le_add_left (Nat.le_max_right ..) M) hn');have hz:=zpT hpq (v1:=v1) (v2:=v2) hw.1;refine(zb8 ..).trans ?_;rw[ztm];rw[ztQ] at hc;generalize (if z=p then v1 else v2)=k at hz hc;clear hw hn hn' hent;induction k using Nat.casesOn with
  |zero=>exact Rt.fin (Rt.nxt rfl (Rt.nxt rfl (Rt.nxt rfl (Rt.seq (Rt.ift rfl (Rt.seq (Rt.ift (zm (zm rfl rfl hz) rfl rfl) (Rt.ret (zn rfl (iha hc))))))))))
  |succ k=>exact Rt.fin (Rt.nxt rfl (Rt.nxt rfl (Rt.nxt rfl (Rt.seq (Rt.ift rfl (Rt.nxt (zz (zm (zm rfl rfl hz) rfl rfl) rfl) (Rt.ret (zn rfl (ihb hc)))))))))
 |call a b iha ihb=>
  intro n l hw hc hn;refine up1 hn fun n hn'=>?_;obtain⟨hca,hcb,hP⟩:=hc;replace iha:=iha n l hw.1 hca (qB (Nat.add_le_add_left (Nat.le_max_left ..) M) hn');replace ihb:=fun l=>ihb n l hw.2 hcb (qB (Nat.add_le_add_left (Nat.le_max_right ..) M) hn');replace hent:=fun va vb l h=>hent va vb l n h (qA (Nat.le_add_right _ _) (qC hn'));replace hP:=hP l;refine(zb8 ..).trans ?_;rw[zoJ];clear hw hca hcb hn hn';generalize iv ent p v1 v2 a l=o at iha hP;induction o using Option.casesOn with
  |none=>exact Rt.fin (Rt.nxt rfl (Rt.nxt rfl (Rt.nxt rfl (Rt.nxt rfl (Rt.nxt rfl (Rt.seq ⟨_,zcH rfl (ztO (jy (zd8 (zn rfl iha) rfl) rfl))⟩))))))
  |some r=>
   replace ihb:=ihb r.2;replace hP:=hP r.1 r.2;show _=R.ok (zl6 (Option.bind (iv ent p v1 v2 b r.2) fun q=>ent r.1 q.1 q.2));generalize iv ent p v1 v2 b r.2=o at ihb hP;induction o using Option.casesOn with
   |none=>exact Rt.fin (Rt.nxt rfl (Rt.nxt rfl (Rt.nxt rfl (Rt.nxt rfl (Rt.nxt rfl (Rt.seq ⟨_,zcH rfl (kq (jy (zd8 (zn rfl iha) rfl) (jy rfl (zjl (xs:=[]) rfl rfl (by decide) rfl rfl))) (ztO (jy (zd8 (zn rfl ihb) rfl) rfl)))⟩))))))
   |some r2=>exact Rt.fin (Rt.nxt rfl (Rt.nxt rfl (Rt.nxt rfl (Rt.nxt rfl (Rt.nxt rfl (Rt.nxt (zcH rfl (kq (jy (zd8 (zn rfl iha) rfl) (jy rfl (zjl (xs:=[]) rfl rfl (by decide) rfl rfl))) (kq (jy (zd8 (zn rfl ihb) rfl) (jy rfl (zjl (xs:=[.int r.1]) rfl rfl (bs (Nat.le_refl 1) rfl) rfl rfl))) rfl))) (Rt.ret (zn rfl (hent r.1 r2.1 r2.2 (hP _ _ rfl rfl))))))))))
noncomputable abbrev tX:Tok:=[120]
noncomputable abbrev tY:Tok:=[121]
noncomputable def stE(mode:Nat):E:=if 1<mode then .pred (.succ (.pred (.name tX))) else .pred (.name tX)
noncomputable def gE(mode:Nat):E:=.iff tX (.name tY) (if mode % 2=0 then .succ (.call (stE mode) (.name tY)) else .call (.name tY) (stE mode))
noncomputable def zbb(mode x y:Nat):Nat:=if mode % 2=0 then x+y else if x<=y then y - x else x - y - 1
noncomputable def jf(mode x y:Nat):Nat:=if mode % 2=0 then x+1 else if x<=y then 2*x+1 else 2*y+2
noncomputable def zae(mode x y l:Nat):Res:=if jf mode x y<=l then some (zbb mode x y,l - jf mode x y) else none
theorem zyy{p:Tok}{v:D}(h:isDict v=false):zbL (.dict []) (ds p) v=.ok (.dict [(ds p,v)]):=by
 show(if(true&&!isDict v&&decide (0<zp)&&true)=true then _ else _)=_;rw[h];rfl
theorem zy6{p q:Tok}{a v:D}(hpq:p≠q)(h:isDict v=false):zbL (.dict [(ds p,a)]) (ds q) v=.ok (.dict [(ds p,a),(ds q,v)]):=by
 show(if(true&&!isDict v&&decide (1<zp)&&true)=true then R.ok (PyData.dict (zen [(ds p,a)] (ds q) v)) else _)=_;rw[h,if_pos (by decide)];show R.ok (PyData.dict (if(S p==S q)=true then _ else _))=_;rw[if_neg (fun e=>hpq (by simpa using eq_of_beq e))];rfl
theorem zav{GG:List D}{cf cio:Nat->List D->R D}{wf:Nat}{g:Tg}{s:PS}{ρ:ze}{a b:D}:zc1 GG cf cio wf g true s ρ (.int (([a,b]:List D).length:Nat))=fl GG cf cio wf g s [.int 0,.int 1] ρ:=zc8 (m:=2) (by decide)
theorem zjB{n l:Nat}{defs:D}{f p q:Tok}{v1 v2:Nat}{body:D}{r:R D}(hpq:p≠q)(hd:jg defs (ds f)=.ok (.tuple [zh [p,q],body]))
  (h:zd G T 2000 n 23 [defs,body,.dict [(ds p,.int v1),(ds q,.int v2)],.int l]=r):
  zd G T 2000 (n+1) 22 [defs,ds f,.list [.int v1,.int v2],.int (l+1:Nat)]=r:=by
 have h0:¬(((l+1:Nat):Int)<=0):=by lia
 have h1:((l+1:Nat):Int) - 1=(l:Nat):=by lia
 have i0:jg (zh [p,q]) (.int 0)=.ok (ds p):=rfl;have i1:jg (zh [p,q]) (.int 1)=.ok (ds q):=rfl;have p0:zbL (.dict []) (ds p) (.int v1)=_:=zyy rfl;have p1:zbL (.dict [(ds p,.int v1)]) (ds q) (.int v2)=_:=zy6 hpq rfl;rw[zk2];simp only[ze6,zT,zv,jv,zn0,zbf,zpk,zlr,zgO,zjV,znU,zjt,jr,jj,zby,jN,zaP,jT,zW,kc,kG,ji,zK,zdI,z0,z6,jV,zQ,zO,zP,jc,g_0,g_s,jx,R.bind_ok,List.set_cons_zero,List.set_cons_succ,zjQ,zhb,zR,zbS,zgC,decide_eq_false h0,hd,kK,List.map_cons,List.map_nil,zav,i0,i1,kJ,zjS,zi0,p0,p1,zdp,zeX,h1,h];cases r<;>rfl
theorem zo5{n:Nat}{defs f vs:D}:zd G T 2000 (n+1) 22 [defs,f,vs,.int 0]=.ok (zl6 none):=by
 have h0:((0:Int)<=0):=by decide
 rw[zk2];rfl
theorem zcT(mode:Nat):(gE mode).dep<=6:=by
 unfold gE stE;split<;>split<;>trivial
theorem zih(mode:Nat):(gE mode).wf tX tY:=by
 unfold gE stE;split<;>split<;>simp[zxt,zxD,zxm,zx2,zxC]
theorem zsp{x:Nat}(h:¬x=0):∃k,x=k+1:=⟨x - 1,(Nat.sub_add_cancel (Nat.pos_of_ne_zero h)).symm⟩
theorem zyr{mode x y:Nat}(he:mode % 2=0)(h:¬x=0):jf mode (x - 1) y+1=jf mode x y:=by
 obtain⟨k,rfl⟩:=zsp h;unfold jf;rw[if_pos he,if_pos he];rfl
theorem zyx{mode x y:Nat}(he:mode % 2=0)(h:¬x=0):zbb mode (x - 1) y+1=zbb mode x y:=by
 obtain⟨k,rfl⟩:=zsp h;unfold zbb;rw[if_pos he,if_pos he];exact(Nat.add_right_comm _ _ _)
theorem zw9{mode x y:Nat}(he:¬mode % 2=0)(h:¬x=0):jf mode y (x - 1)+1=jf mode x y:=by
 obtain⟨k,rfl⟩:=zsp h;unfold jf;rw[if_neg he,if_neg he,Nat.add_sub_cancel];by_cases q:y<=k
 ·rw[if_pos q,if_neg (Nat.not_le.mpr (Nat.lt_succ_of_le q))]
 ·rw[if_neg q,if_pos (show k+1<=y from Nat.not_le.mp q)];rfl
theorem zy3{mode x y:Nat}(he:¬mode % 2=0)(h:¬x=0):zbb mode y (x - 1)=zbb mode x y:=by
 obtain⟨k,rfl⟩:=zsp h;unfold zbb;rw[if_neg he,if_neg he,Nat.add_sub_cancel];by_cases q:y<=k
 ·rw[if_pos q,if_neg (Nat.not_le.mpr (Nat.lt_succ_of_le q)),Nat.sub_right_comm];rfl
 ·rw[if_neg q,if_pos (show k+1<=y from Nat.not_le.mp q)];rfl
theorem znt{mode x y:Nat}:¬jf mode x y<=0:=by
 unfold jf;split
 ·exact Nat.not_succ_le_zero _
 ·split<;>exact Nat.not_succ_le_zero _
theorem zxk{a b l:Nat}(e:a+1=b)(h:a<=l):b<=l+1:=e▸Nat.succ_le_succ h
theorem ztJ{a b l:Nat}(e:a+1=b)(h:¬a<=l):¬b<=l+1:=fun q=>h (Nat.le_of_succ_le_succ (qA (Nat.le_of_eq e) q))
theorem zrX{mode:Nat}{defs:D}(hd:jg defs (ds tG)=.ok (.tuple [zh [tX,tY],(gE mode).d])):
  ∀(c x y l m:Nat),jf mode x y=c->8*c+10<=m->zd G T 2000 m 22 [defs,ds tG,.list [.int x,.int y],.int l]=.ok (zl6 (zae mode x y l)):=by
 intro c;induction c using Nat.strongRecOn with
 |ind c ih=>
  intro x y l m hc hm;obtain⟨m,rfl⟩:∃k,m=k+1:=⟨m - 1,by exact(Nat.sub_add_cancel (qB (Nat.zero_le _) ‹_›)).symm⟩;induction l using Nat.casesOn with
  |zero=>
   have:zae mode x y 0=none:=if_neg znt;rw[this];exact zo5
  |succ l=>
   refine zjB (by decide) hd ?_;have hx:∀st:E,st=stE mode->∀l,x≠0->iv (zae mode) tX x y st l=some (x - 1,l):=by
    rintro st rfl l hx;unfold stE;split
    ·rfl
    ·rfl
   have hgv:iv (zae mode) tX x y (gE mode) l=zae mode x y (l+1):=by
    unfold gE;simp only[zfV,ztm,if_true];by_cases h0:x=0
    ·rw[if_pos h0];subst h0;have:¬(tY=tX):=by decide
     simp[zae,jf,zbb,this]
    ·rw[if_neg h0];by_cases he:mode % 2=0
     ·rw[if_pos he];have:¬(tY=tX):=by decide
      simp only[zfV,zt1,zoJ,hx _ rfl _ h0,Option.bind_some,this,if_false];have e1:jf mode (x - 1) y+1=jf mode x y:=zyr he h0;have e2:zbb mode (x - 1) y+1=zbb mode x y:=zyx he h0;unfold zae;by_cases hl:jf mode (x - 1) y<=l
      ·rw[if_pos hl,if_pos (zxk e1 hl),←e1,←e2];simp
      ·rw[if_neg hl,if_neg (ztJ e1 hl)];rfl
     ·rw[if_neg he];have:¬(tY=tX):=by decide
      simp only[zfV,zoJ,hx _ rfl _ h0,Option.bind_some,this,if_false];have e1:jf mode y (x - 1)+1=jf mode x y:=zw9 he h0;have e2:zbb mode y (x - 1)=zbb mode x y:=zy3 he h0;unfold zae;by_cases hl:jf mode y (x - 1)<=l
      ·rw[if_pos hl,if_pos (zxk e1 hl),←e1,←e2];simp
      ·rw[if_neg hl,if_neg (ztJ e1 hl)]
   have hc1:1<=c:=hc▸Nat.pos_of_ne_zero fun q=>znt (Nat.le_of_eq q);rw[←hgv];refine zhz (Pr:=fun va vb=>jf mode va vb<c) (M:=8*(c - 1)+10) (by decide) ?_ (gE mode) m l (zih mode) ?_ (by have:=zcT mode;lia)
   ·intro va vb l' m' hp hm';exact ih _ hp va vb l' m' rfl (by lia)
   ·unfold gE;simp only[zwt,ztQ,if_true];by_cases h0:x=0
    ·rw[if_pos h0];trivial
    ·rw[if_neg h0];have hst:E.cp (zae mode) tX x y (fun va vb=>jf mode va vb<c) (stE mode):=by
      unfold stE;split<;>trivial
     have hy:¬(tY=tX):=by decide
     by_cases he:mode % 2=0
     ·rw[if_pos he];refine⟨hst,trivial,?_⟩;intro l va l1 vb l2 h1 h2;rw[hx _ rfl _ h0] at h1;simp only[zfV,hy,if_false] at h2;injection h1 with h1;injection h1 with h1 h1'
      injection h2 with h2;injection h2 with h2 h2'
      rw[←hc,←h1,←h2,←zyr he h0];exact Nat.lt_succ_self _
     ·rw[if_neg he];refine⟨trivial,hst,?_⟩;intro l va l1 vb l2 h1 h2;rw[hx _ rfl _ h0] at h2;simp only[zfV,hy,if_false] at h1;injection h1 with h1;injection h1 with h1 h1'
      injection h2 with h2;injection h2 with h2 h2'
      rw[←hc,←h1,←h2,←zw9 he h0];exact Nat.lt_succ_self _
end Mine
namespace Mine
open PySem
noncomputable abbrev OB:=Option Bool×Option Bool
noncomputable def bdD:OB->D
 |(none,none)=>.dict []
 |(some a,none)=>.dict [(.int 0,.bool a)]
 |(none,some b)=>.dict [(.int 1,.bool b)]
 |(some a,some b)=>.dict [(.int 0,.bool a),(.int 1,.bool b)]
noncomputable def zc9:Option Bool->Option Bool
 |some true=>some false
 |_=>none
noncomputable def ifO:Option Bool->Option Bool->Option Bool
 |some a,some b=>some (a&&b)
 |_,_=>none
noncomputable def E.nm?(kn:List Tok):E->Bool
 |.name z=>kn.contains z
 |_=>false
noncomputable def bd(p q:Tok)(kn:List Tok):E->OB
 |.num i=>if i=0 then(some (kn.contains p),some (kn.contains q)) else if i=1 then(if kn.contains p then some false else none,if kn.contains q then some false else none) else(none,none)
 |.name z=>if z=p then(some false,none) else(none,some false)
 |.pred a=>((bd p q kn a).1.map (·||a.nm? kn),(bd p q kn a).2.map (·||a.nm? kn))
 |.succ a=>(zc9 (bd p q kn a).1,zc9 (bd p q kn a).2)
 |.iff z a b=>(ifO (bd p q kn a).1 (bd p q (kn++[z]) b).1,ifO (bd p q kn a).2 (bd p q (kn++[z]) b).2)
 |.call _ _=>(none,none)
theorem zwY:∀(p q:Tok) (kn:List Tok) (i:Nat),bd p q kn (E.num i)=if i=0 then(some (kn.contains p),some (kn.contains q)) else if i=1 then(if kn.contains p=true then some false else none,if kn.contains q=true then some false else none) else(none,none):=fun _ _ _ _=>rfl
theorem znO:∀(p q:Tok) (kn:List Tok) (z:Tok),bd p q kn (E.name z)=if z=p then(some false,none) else(none,some false):=fun _ _ _ _=>rfl
theorem zue:∀(p q:Tok) (kn:List Tok) (a:E),bd p q kn a.pred=(Option.map (fun(x:Bool)=>x||E.nm? kn a) (bd p q kn a).fst,Option.map (fun(x:Bool)=>x||E.nm? kn a) (bd p q kn a).snd):=fun _ _ _ _=>rfl
theorem zt4:∀(p q:Tok) (kn:List Tok) (a:E),bd p q kn a.succ=(zc9 (bd p q kn a).fst,zc9 (bd p q kn a).snd):=fun _ _ _ _=>rfl
theorem ztu:∀(p q:Tok) (kn:List Tok) (z:Tok) (a b:E),bd p q kn (E.iff z a b)=(ifO (bd p q kn a).fst (bd p q (kn++[z]) b).fst,ifO (bd p q kn a).snd (bd p q (kn++[z]) b).snd):=fun _ _ _ _ _ _=>rfl
noncomputable def E.isName:E->Bool
 |.name _=>true
 |_=>false
theorem zlW{e:E}{kn:List Tok}(h:e.isName=false):e.nm? kn=false:=by
 induction e using E.casesOn with
 |name z=>exact tf h
 |_=>rfl
theorem zlY(e:E):decide (S e.kind=({cps:=#[110,97,109,101]}:Str))=e.isName:=by cases e<;>rfl
section dict
variable{GG:List D}{cf cio:Nat->List D->R D}{wf:Nat}{g:Tg}{s:PS}{ρ:ze}{x y:D}{a b c:Bool}
theorem fd1:zc1 GG cf cio wf g false s ρ (.dict [(.int 0,x)])=fl GG cf cio wf g s [.int 0] ρ:=rfl
theorem fd2:zc1 GG cf cio wf g false s ρ (.dict [(.int 1,x)])=fl GG cf cio wf g s [.int 1] ρ:=rfl
theorem fd3:zc1 GG cf cio wf g false s ρ (.dict [(.int 0,x),(.int 1,y)])=fl GG cf cio wf g s [.int 0,.int 1] ρ:=rfl
theorem gd0{r:List (D×D)}:jg (.dict ((.int 0,x)::r)) (.int 0)=.ok x:=rfl
end dict
theorem zeT(kn:List Tok)(z:Tok)(h:kn.length<1000):zdx (zh kn) (.list [ds z])=.ok (zh (kn++[z])):=by
 show mkL (kn.map ds++[ds z])=_;unfold mkL;rw[if_pos (by simp[zp];exact qA (qC ‹_›) (by decide))];simp
theorem zuM{p q z:Tok}(hpq:p≠q)(h:z=p\/z=q):zdX (zh [p,q]) (ds z)=.ok (.int (if z=p then 0 else 1)):=by
 show(if[S p,S q].contains (S z) then R.ok (PyData.int ([S p,S q].idxOf (S z))) else .stuck)=_;have hsn:¬(S p=S q):=by rw[zcy];exact hpq
 rcases h with rfl|rfl
 ·simp
 ·rw[if_pos (by simp),if_neg (fun e=>hpq e.symm)];have:[S p,S z].idxOf (S z)=1:=by
   rw[List.idxOf_cons,List.idxOf_cons];have:(S p==S z)=false:=by exact if_neg ‹_›
   simp[this]
  rw[this];rfl
section
variable{cf cio:Nat->List D->R D}{ρ σ:ze}{i:Nat}{s:PS}{x y:D}{a b:PE}{u v:Bool}{r:R (Fl×ze)}
theorem zap{g:Tg}{rg:Bool}(h:ev G cf a ρ=.ok x)(k:zc1 G cf cio 2000 g rg s ρ x=r):exec G cf cio 2000 (.forr g rg a s) ρ=r:=(congrArg (R.bind · _) h).trans k
theorem zhU(h:ev G cf b ρ=.ok x)(g:ev G cf a ρ=.ok y)(k:zpb ρ i x y=r):exec G cf cio 2000 (.put i a b) ρ=r:=(congrArg (R.bind · _) h).trans ((congrArg (R.bind · _) g).trans k)
theorem zqC(h:ev G cf a ρ=.ok (.bool u))(g:ev G cf b ρ=.ok (.bool v)):ev G cf (.or_ a b) ρ=.ok (.bool (u||v)):=by
 induction u using Bool.casesOn with
 |false=>exact zbz h g
 |true=>exact zkB h
end
theorem zkz{cf:Nat->List D->R D}{a:E}{kn:List Tok}{x1:D}{σ:ze}:ev G cf nmE (a.pred.d::x1::zh kn::σ)=.ok (.bool (a.nm? kn)):=by
 induction a using E.casesOn with
 |name z=>exact zaS rfl (zm rfl rfl (zax z kn))
 |_=>rfl
theorem zqQ{cf ci:Nat->List D->R D}{a:E}{kn:List Tok}{x1:D}(o:OB):
  ∃t,exec G cf ci 2000 (.forr (.one 4) false (.var 5) bdR) [a.pred.d,x1,zh kn,.dict [],OO,bdD o,OO,OO,OO,OO,OO]=
  .ok (.next,[a.pred.d,x1,zh kn,bdD (o.1.map (·||a.nm? kn),o.2.map (·||a.nm? kn)),t,bdD o,OO,OO,OO,OO,OO]):=by
 obtain⟨o1,o2⟩:=o;induction o1 using Option.casesOn with
 |none=>
  induction o2 using Option.casesOn with
  |none=>exact⟨_,rfl⟩
  |some u=>exact⟨_,zap rfl (fd2.trans (kq (zhU (zqC (u:=u) rfl zkz) rfl rfl) rfl))⟩
 |some w=>
  induction o2 using Option.casesOn with
  |none=>exact⟨_,zap rfl (fd1.trans (kq (zhU (zqC (u:=w) rfl zkz) rfl rfl) rfl))⟩
  |some u=>exact⟨_,zap rfl (fd3.trans (kq (zhU (zqC (u:=w) rfl zkz) rfl rfl) (kq (zhU (zqC (u:=u) rfl zkz) rfl rfl) rfl)))⟩
theorem zqh{cf ci:Nat->List D->R D}{p q:Tok}{kn:List Tok}{i:Nat}(hi:i=0\/i=1):
  ∃t,exec G cf ci 2000 bdN [(E.num i).d,zh [p,q],zh kn,.dict [],OO,OO,OO,OO,OO,OO,OO]=.ok (.next,[(E.num i).d,zh [p,q],zh kn,bdD (bd p q kn (.num i)),t,OO,OO,OO,OO,OO,OO]):=by
 have hp:=zax p kn;have hq:=zax q kn;rw[zwY];generalize kn.contains p=c at hp;generalize kn.contains q=d at hq;rcases hi with rfl|rfl
 ·exact⟨_,zap rfl (zav.trans (kq (zY rfl (zhU (zm rfl rfl hp) rfl rfl)) (kq (zY rfl (zhU (zm rfl rfl hq) rfl rfl)) rfl)))⟩
 ·induction c using Bool.casesOn with
  |false=>
   induction d using Bool.casesOn with
   |false=>exact⟨_,zap rfl (zav.trans (kq (zz rfl (zz (zm rfl rfl hp) rfl)) (kq (zz rfl (zz (zm rfl rfl hq) rfl)) rfl)))⟩
   |true=>exact⟨_,zap rfl (zav.trans (kq (zz rfl (zz (zm rfl rfl hp) rfl)) (kq (zz rfl (zY (zm rfl rfl hq) rfl)) rfl)))⟩
  |true=>
   induction d using Bool.casesOn with
   |false=>exact⟨_,zap rfl (zav.trans (kq (zz rfl (zY (zm rfl rfl hp) rfl)) (kq (zz rfl (zz (zm rfl rfl hq) rfl)) rfl)))⟩
   |true=>exact⟨_,zap rfl (zav.trans (kq (zz rfl (zY (zm rfl rfl hp) rfl)) (kq (zz rfl (zY (zm rfl rfl hq) rfl)) rfl)))⟩
theorem zrT{cf ci:Nat->List D->R D}{x0 x1 x2:D}(o:OB):∃t,exec G cf ci 2000 (.forr (.one 4) false (.var 5) (.ifs (.bin .idx (.var 5) (.var 4)) (.put 3 (.var 4) (.lit (.bool false))) .skip)) [x0,x1,x2,.dict [],OO,bdD o,OO,OO,OO,OO,OO]=
  .ok (.next,[x0,x1,x2,bdD (zc9 o.1,zc9 o.2),t,bdD o,OO,OO,OO,OO,OO]):=by
 rcases o with⟨_|_|_,_|_|_⟩<;>exact⟨_,rfl⟩
theorem zvZ{cf ci:Nat->List D->R D}{x0 x1 x2:D}(o o':OB):∃t,exec G cf ci 2000 (.forr (.one 4) false (.var 6) (.ifs (.bin .mem (.var 4) (.var 7)) (.put 3 (.var 4) (.and_ (.bin .idx (.var 6) (.var 4)) (.bin .idx (.var 7) (.var 4)))) .skip)) [x0,x1,x2,.dict [],OO,OO,bdD o,bdD o',OO,OO,OO]=
  .ok (.next,[x0,x1,x2,bdD (ifO o.1 o'.1,ifO o.2 o'.2),t,OO,bdD o,bdD o',OO,OO,OO]):=by
 rcases o with⟨_|_|_,_|_|_⟩<;>rcases o' with⟨_|_,_|_⟩<;>exact⟨_,rfl⟩
theorem zhE{p q:Tok}(hpq:p≠q):∀(e:E) (n:Nat) (kn:List Tok),e.wf p q->kn.length+e.dep<900->e.dep<n->zd G T 2000 n 18 [e.d,zh [p,q],zh kn]=.ok (bdD (bd p q kn e)):=by
 intro e;induction e with
 |num i=>
  intro n kn hw hk hn;refine up1 hn fun n _=>?_;refine(zaK ..).trans ?_;rcases hw with rfl|rfl|rfl|rfl
  ·exact(zqh (Or.inl rfl)).elim fun t h=>Rt.fin (Rt.nxt rfl (Rt.nxt (zz rfl (zY rfl h)) (Rt.ret rfl)))
  ·exact(zqh (Or.inr rfl)).elim fun t h=>Rt.fin (Rt.nxt rfl (Rt.nxt (zz rfl (zY rfl h)) (Rt.ret rfl)))
  ·rfl
  ·rfl
 |name z=>
  intro n kn hw hk hn;refine up1 hn fun n _=>?_;refine(zaK ..).trans ?_;rw[znO];have hi:=zuM hpq hw;by_cases hz:z=p
  ·rw[if_pos hz] at hi ⊢;exact Rt.fin (Rt.nxt rfl (Rt.nxt (zY rfl (zhU rfl hi rfl)) (Rt.ret rfl)))
  ·rw[if_neg hz] at hi ⊢;exact Rt.fin (Rt.nxt rfl (Rt.nxt (zY rfl (zhU rfl hi rfl)) (Rt.ret rfl)))
 |pred a ih=>
  intro n kn hw hk hn;refine up1 hn fun n hn'=>?_;have iha:=ih n kn hw (Nat.lt_of_succ_lt hk) hn';refine(zaK ..).trans ?_;rw[zue];generalize bd p q kn a=o at iha;exact(zqQ o).elim fun t h=>Rt.fin (Rt.nxt rfl (Rt.nxt (zz rfl (zz rfl (zY rfl (jy (jM (zn rfl iha)) h)))) (Rt.ret rfl)))
 |succ a ih=>
  intro n kn hw hk hn;refine up1 hn fun n hn'=>?_;have iha:=ih n kn hw (Nat.lt_of_succ_lt hk) hn';refine(zaK ..).trans ?_;rw[zt4];generalize bd p q kn a=o at iha;exact(zrT o).elim fun t h=>Rt.fin (Rt.nxt rfl (Rt.nxt (zz rfl (zz rfl (zz rfl (zY rfl (jy (jM (zn rfl iha)) h))))) (Rt.ret rfl)))
 |iff z a b iha ihb=>
  intro n kn hw hk hn;refine up1 hn fun n hn'=>?_;have iha:=iha n kn hw.2.1 (mxl hk) (qB (Nat.le_max_left ..) hn');have ihb:=ihb n (kn++[z]) hw.2.2 (by rw[List.length_append];exact zxx hk) (qB (Nat.le_max_right ..) hn');have hap:=zeT kn z (qB (Nat.le_add_right _ _) (Nat.lt_trans hk (by decide)));refine(zaK ..).trans ?_;rw[ztu];generalize bd p q kn a=o at iha;generalize bd p q (kn++[z]) b=o' at ihb;exact(zvZ o o').elim fun t h=>Rt.fin (Rt.nxt rfl (Rt.nxt (zz rfl (zz rfl (zz rfl (zz rfl (zY rfl (jy (jM (zn rfl iha)) (jy (jM (zn (zj rfl (zj rfl (zj (zm rfl rfl hap) rfl))) ihb)) h))))))) (Rt.ret rfl)))
 |call a b iha ihb=>
  intro n kn hw hk hn;refine up1 hn fun n _=>?_;exact(zaK ..).trans rfl
end Mine
namespace Mine
open PySem
noncomputable def oe(i j:Int):Option Bool->List D
 |none=>[]
 |some b=>[.tuple [.int i,.int j,.bool b]]
noncomputable def zaU(o o':OB):List D:=oe 0 0 o.1++oe 0 1 o'.1++oe 1 0 o.2++oe 1 1 o'.2
noncomputable def gD(f g:Tok)(o o':OB):D:=.tuple [ds f,ds g,.list (zaU o o')]
noncomputable def zrx:OB->List (D×D)
 |(a,b)=>(match a with|none=>[]|some x=>[(zcC (0,0),.bool x)])++(match b with|none=>[]|some x=>[(zcC (1,0),.bool x)])
noncomputable def zyp:OB->List (D×D)
 |(a,b)=>(match a with|none=>[]|some x=>[(zcC (0,1),.bool x)])++(match b with|none=>[]|some x=>[(zcC (1,1),.bool x)])
theorem zj5{cf cio:Nat->List D->R D}(o:OB)(t0 t1 t2 t3 t4 t8:D):∃t8',zc1 G cf cio 2000 (.one 8) false zpn [t0,t1,t2,t3,t4,.dict [],.int 0,bdD o,t8,OO,OO,OO,OO,OO,OO] (bdD o)=
  .ok (.next,[t0,t1,t2,t3,t4,.dict (zrx o),.int 0,bdD o,t8',OO,OO,OO,OO,OO,OO]):=by
 rcases o with⟨_|a,_|b⟩
 ·exact⟨t8,rfl⟩
 ·exact⟨.int 1,rfl⟩
 ·exact⟨.int 0,rfl⟩
 ·exact⟨.int 1,rfl⟩
theorem zjN{cf cio:Nat->List D->R D}(o o':OB)(t0 t1 t2 t3 t4 t8:D):∃t8',zc1 G cf cio 2000 (.one 8) false zpn [t0,t1,t2,t3,t4,.dict (zrx o),.int 1,bdD o',t8,OO,OO,OO,OO,OO,OO] (bdD o')=
  .ok (.next,[t0,t1,t2,t3,t4,.dict (zrx o++zyp o'),.int 1,bdD o',t8',OO,OO,OO,OO,OO,OO]):=by
 rcases o' with⟨_|a,_|b⟩
 ·refine⟨t8,?_⟩;rcases o with⟨_|c,_|d⟩<;>rfl
 ·refine⟨.int 1,?_⟩;rcases o with⟨_|c,_|d⟩<;>rfl
 ·refine⟨.int 0,?_⟩;rcases o with⟨_|c,_|d⟩<;>rfl
 ·refine⟨.int 1,?_⟩;rcases o with⟨_|c,_|d⟩<;>rfl
theorem zmR{n:Nat}(o o':OB):zd G T 2000 (n+1) 11 [.dict (zrx o++zyp o')]=.ok (.list (zaU o o')):=by
 rw[zqf];rcases o with⟨_|c,_|d⟩<;>rcases o' with⟨_|a,_|b⟩<;>rfl
noncomputable def j9(out:List D)(g:D):List D:=if out.any (fun x=>PyData.eqv x g) then out else out++[g]
theorem zdf(i j:Int)(o:Option Bool):PyData.depthAll (oe i j o)<=1:=by cases o<;>simp[oe,PyData.depthAll,PyData.depth]
theorem zgD(a b:List D):PyData.depthAll (a++b)=max (PyData.depthAll a) (PyData.depthAll b):=by
 induction a with
 |nil=>rfl
 |cons x a ih=>simp only[List.cons_append,PyData.depthAll,ih];exact(Nat.max_assoc _ _ _).symm
theorem kr(f g:Tok)(o o':OB):PyData.depth (gD f g o o')<=3:=by
 have h:PyData.depthAll (zaU o o')<=1:=by
  unfold zaU;simp only[zgD];have h1:=zdf 0 0 o.1;have h2:=zdf 0 1 o'.1;have h3:=zdf 1 0 o.2;have h4:=zdf 1 1 o'.2;exact Nat.max_le.mpr ⟨Nat.max_le.mpr ⟨Nat.max_le.mpr ⟨h1,h2⟩,h3⟩,h4⟩
 show PyData.depthAll [ds f,ds g,.list (zaU o o')]+1<=3
 skip;(apply bs;(repeat' first|exact qC ‹_›|assumption|exact Nat.le_refl 0|exact Nat.le_refl 1|apply Nat.add_le_add);rfl)
theorem zdd{x:D}(hd:isDict x=false)(h:PyData.depth x<=4000)(out:List D):zbR x (.list out)=.ok (.bool !(out.any fun y=>PyData.eqv y x)):=by
 show R.bind (if(isDict x||decide (4000<min (PyData.depthAll out) x.depth))=true then R.stuck else R.ok (out.any fun y=>PyData.eqv y x)) _=_;rw[if_neg (by rw[hd];simp;lia)];rfl
noncomputable def cl(f p q:Tok):E->List Tok->List D->List D
 |.num _,_,out=>out
 |.name _,_,out=>out
 |.pred a,kn,out=>cl f p q a kn out
 |.succ a,kn,out=>cl f p q a kn out
 |.iff z a b,kn,out=>cl f p q b (kn++[z]) (cl f p q a kn out)
 |.call a b,kn,out=>j9 (cl f p q b kn (cl f p q a kn out)) (gD f tG (bd p q kn a) (bd p q kn b))
theorem zw5:∀(f p q:Tok) (x:List Tok) (x_1:List D) (i:Nat),cl f p q (E.num i) x x_1=x_1:=fun _ _ _ _ _ _=>rfl
theorem zxq:∀(f p q:Tok) (x:List Tok) (x_1:List D) (x_3:Tok),cl f p q (E.name x_3) x x_1=x_1:=fun _ _ _ _ _ _=>rfl
theorem zwP:∀(f p q:Tok) (x:List Tok) (x_1:List D) (z:Tok) (a b:E),cl f p q (E.iff z a b) x x_1=cl f p q b (x++[z]) (cl f p q a x x_1):=fun _ _ _ _ _ _ _ _=>rfl
theorem zxV:∀(f p q:Tok) (x:List Tok) (x_1:List D) (a b:E),cl f p q (a.call b) x x_1=j9 (cl f p q b x (cl f p q a x x_1)) (gD f tG (bd p q x a) (bd p q x b)):=fun _ _ _ _ _ _ _=>rfl
noncomputable def E.nc:E->Nat
 |.num _=>0
 |.name _=>0
 |.pred a=>a.nc
 |.succ a=>a.nc
 |.iff _ a b=>a.nc+b.nc
 |.call a b=>a.nc+b.nc+1
theorem zwS:∀(x_1:Tok) (a b:E),(E.iff x_1 a b).nc=a.nc+b.nc:=fun _ _ _=>rfl
theorem zwQ:∀(a b:E),(a.call b).nc=a.nc+b.nc+1:=fun _ _=>rfl
theorem zdu(out:List D)(g:D):(j9 out g).length<=out.length+1:=by unfold j9;split<;>simp
theorem zgv(f p q:Tok):∀(e:E) (kn:List Tok) (out:List D),(cl f p q e kn out).length<=out.length+e.nc:=by
 intro e;induction e with
 |num=>intro kn out;simp[zw5]
 |name=>intro kn out;simp[zxq]
 |pred a ih=>exact ih
 |succ a ih=>exact ih
 |iff z a b iha ihb=>
  intro kn out;have h1:=iha kn out;have h2:=ihb (kn++[z]) (cl f p q a kn out);simp only[zwP,zwS];lia
 |call a b iha ihb=>
  intro kn out;have h1:=iha kn out;have h2:=ihb kn (cl f p q a kn out);have h3:=zdu (cl f p q b kn (cl f p q a kn out)) (gD f tG (bd p q kn a) (bd p q kn b));simp only[zxV,zwQ];lia
theorem zoE{cio:Nat->List D->R D}{ρ:ze}{f i:Nat}{xs:List D}:kIo cio ρ f i xs=R.bind (noVe (cio f (xs++[zr ρ i]))) (zrU ρ i):=rfl
theorem zgf{a:D}:noVe (R.ok a)=.ok a:=rfl
theorem zf4{cf cio:Nat->List D->R D}{ρ:ze}{f i:Nat}{es:PEs}{xs:List D}{x:D}(h:evs G cf es ρ=.ok xs)(g:cio f (xs++[zr ρ i])=.ok x):exec G cf cio 2000 (.io f es i) ρ=.ok (.next,ρ.set i x):=(congrArg (R.bind · _) h).trans (zy7 g)
theorem zqL{cf cio:Nat->List D->R D}{t0 t1 t2 t3 t5 t6 t7 t8:D}{out:List D}{g:D}(hd:isDict g=false)(hp:PyData.depth g<=4000)(ho:out.length<1000000):
  exec G cf cio 2000 (.ifs (.bin .nmem (.var 9) (.var 4)) (.app 4 (.var 9)) .skip) [t0,t1,t2,t3,.list out,t5,t6,t7,t8,g,OO,OO,OO,OO,OO]=.ok (.next,[t0,t1,t2,t3,.list (j9 out g),t5,t6,t7,t8,g,OO,OO,OO,OO,OO]):=by
 have hn:=zdd hd hp out;unfold j9;generalize (out.any fun y=>PyData.eqv y g)=w at hn;induction w using Bool.casesOn with
 |false=>exact zY (zm rfl rfl hn) (zjl rfl rfl ho hd rfl)
 |true=>exact zz (zm rfl rfl hn) rfl
theorem ucl{n:Nat}{a0 a1 a2 a3 a4 r:D}{σ:ze}(h:exec G (zd G T 2000 n) (zk G T 2000 n) 2000 za0.body [a0,a1,a2,a3,a4,OO,OO,OO,OO,OO,OO,OO,OO,OO,OO]=.ok (.next,σ))(e:zr σ 4=r):zk G T 2000 (n+1) 19 [a0,a1,a2,a3,a4]=.ok r:=
 (k6 ..).trans ((congrArg (R.bind · _) h).trans (congrArg R.ok e))
theorem zvW{k a b m l:Nat}(h:k+(a+b)<m)(g:l<=k+a):l+b<m:=qB (Nat.add_le_add_right g b) (Nat.add_assoc k a b▸h)
theorem zho{f p q:Tok}(hpq:p≠q):∀(e:E) (n:Nat) (kn:List Tok) (out:List D),e.wf p q->kn.length+e.dep<900->out.length+e.nc<900->e.dep<n->
  zk G T 2000 n 19 [ds f,zh [p,q],e.d,zh kn,.list out]=.ok (.list (cl f p q e kn out)):=by
 intro e;induction e with
 |num i=>
  intro n kn out hw hk ho hn;refine up1 hn fun n _=>?_;exact(k6 ..).trans rfl
 |name z=>
  intro n kn out hw hk ho hn;refine up1 hn fun n _=>?_;exact(k6 ..).trans rfl
 |pred a ih=>
  intro n kn out hw hk ho hn;refine up1 hn fun n hn'=>?_;exact ucl (zY rfl (zf4 rfl (ih n kn out hw (Nat.lt_of_succ_lt hk) ho hn'))) rfl
 |succ a ih=>
  intro n kn out hw hk ho hn;refine up1 hn fun n hn'=>?_;exact ucl (zY rfl (zf4 rfl (ih n kn out hw (Nat.lt_of_succ_lt hk) ho hn'))) rfl
 |iff z a b iha ihb=>
  intro n kn out hw hk ho hn;refine up1 hn fun n hn'=>?_;have iha:=iha n kn out hw.2.1 (mxl hk) (ncl ho) (qB (Nat.le_max_left ..) hn');have ihb:=ihb n (kn++[z]) (cl f p q a kn out) hw.2.2 (by rw[List.length_append];exact zxx hk) (zvW ho (zgv f p q a kn out)) (qB (Nat.le_max_right ..) hn');have hap:=zeT kn z (qB (Nat.le_add_right _ _) (Nat.lt_trans hk (by decide)));exact ucl (zz rfl (zY rfl (jy (zf4 rfl iha) (zf4 (zj rfl (zj rfl (zj rfl (zj (zm rfl rfl hap) rfl)))) ihb)))) rfl
 |call a b iha ihb=>
  intro n kn out hw hk ho hn;refine up1 hn fun n hn'=>?_;have ha':=qB (Nat.le_max_left ..) hn';have hb':=qB (Nat.le_max_right ..) hn';have ho':out.length+(a.nc+b.nc)<900:=Nat.lt_of_succ_lt ho;have iha:=iha n kn out hw.1 (mxl hk) (ncl ho') ha';have ihb:=ihb n kn (cl f p q a kn out) hw.2 (mxr hk) (zvW ho' (zgv f p q a kn out)) hb';have hl2:=qB (zgv f p q b kn (cl f p q a kn out)) (zvW ho' (zgv f p q a kn out));have ba:=zhE hpq a n kn hw.1 (mxl hk) ha';have bb:=zhE hpq b n kn hw.2 (mxr hk) hb';obtain⟨n,rfl,_⟩:=jK ha';have har:=zmR (n:=n) (bd p q kn a) (bd p q kn b);obtain⟨t8,l0⟩:=zj5 (cf:=zd G T 2000 (n+1)) (cio:=zk G T 2000 (n+1)) (bd p q kn a) (ds f) (zh [p,q]) (zbU tG [a.d,b.d]) (zh kn) (.list (cl f p q a kn out)) .none;obtain⟨t8',l1⟩:=zjN (cf:=zd G T 2000 (n+1)) (cio:=zk G T 2000 (n+1)) (bd p q kn a) (bd p q kn b) (ds f) (zh [p,q]) (zbU tG [a.d,b.d]) (zh kn) (.list (cl f p q b kn (cl f p q a kn out))) t8;clear hn hn' ha' hb' ho ho' hk hw;exact ucl (zz rfl (zz rfl (zY rfl (jy rfl (jy (zap rfl (zav.trans (kq (jy (zf4 rfl iha) (jy (jM (zn rfl ba)) (zap rfl l0))) (kq (jy (zf4 rfl ihb) (jy (jM (zn rfl bb)) (zap rfl l1))) rfl))))
    (jy (jM (jC (zj rfl (zj rfl (zj (zn rfl har) rfl))) rfl)) (zqL rfl (qA (kr f tG (bd p q kn a) (bd p q kn b)) (by decide)) (Nat.lt_trans hl2 (by decide))))))))) rfl
end Mine
namespace Mine
open PySem
noncomputable abbrev tF:Tok:=[102]
structure P7 where
 t:List Nat
 u:List Nat
 e:E
 v:Nat
 n:Nat
 b0:Nat
 b1:Nat
 gs:List D
noncomputable def P7.d(p:P7):D:=.tuple [ds p.t,ds p.u,p.e.d,.int p.v,.int p.n,.tuple [.int p.b0,.int p.b1],.list p.gs]
noncomputable abbrev zgx(x y:Tok)(v1 v2:Nat)(sp:List Nat)(mode:Nat):D:=.tuple [.tuple [ds x,ds y],.tuple [.int v1,.int v2],ds sp,.int mode]
noncomputable abbrev knD(k0 k1:Nat):D:=.tuple [.int k0,.int k1]
noncomputable def zeJ(x y:Tok)(v1 v2 k0 k1:Nat)(k:Int):P7:=
 if k=0 then⟨x,x,.name x,v1,0,1,0,[]⟩
 else if k=1 then⟨y,y,.name y,v2,0,0,1,[]⟩
 else if k=2 then⟨j2 0,j2 0,.num 0,0,0,k0+1,k1+1,[]⟩
 else if k=3 then⟨j2 1,j2 1,.num 1,1,0,k0,k1,[]⟩
 else if k=4 then⟨j2 2,j2 2,.num 2,2,0,0,0,[]⟩
 else⟨j2 10,j2 10,.num 10,10,0,0,0,[]⟩
theorem zkc{n:Nat}(x y:Tok)(v1 v2:Nat)(sp:List Nat)(mode k0 k1:Nat)(k:Int)(hk:0<=k/\k<6):
  zd G T 2000 (n+1) 25 [.int k,zgx x y v1 v2 sp mode,knD k0 k1]=.ok (zeJ x y v1 v2 k0 k1 k).d:=by
 have:k=0\/k=1\/k=2\/k=3\/k=4\/k=5:=by lia
 rw[zi6];rcases this with rfl|rfl|rfl|rfl|rfl|rfl
 ·rfl
 ·rfl
 ·rfl
 ·rfl
 ·rfl
 ·rfl
noncomputable def unC(sp:List Nat)(k0 k1:Nat)(k:Int)(p:P7):P7:=
 if k=0 then p
 else if k=1 then {p with t:=[40]++sp++p.t++sp++[41]}
 else if k=2 then⟨par p.e.isIf p.t++sp++[43]++sp++[49],par p.e.isIf p.u++[32,43,32,49],.succ p.e,p.v+1,p.n,p.b0 - 1,p.b1 - 1,p.gs⟩
 else⟨(if k=4 then[40]++sp++par p.e.isIf p.t++sp++[41] else par p.e.isIf p.t)++sp++[45]++sp++[49],par p.e.isIf p.u++[32,45,32,49],.pred p.e,p.v - 1,p.n,
  if p.e.isName then p.b0*(1+k0) else p.b0,if p.e.isName then p.b1*(1+k1) else p.b1,p.gs⟩
theorem zci(a b:Nat)(h1:a<1000)(h2:b<1000):zeG (.int a) (.int b)=.ok (.int (a*b:Nat)):=by
 show(if(zea (a:Int)&&zea (b:Int))=true then R.ok (PyData.int ((a:Int)*(b:Int))) else .stuck)=_;rw[if_pos]
 ·rfl
 ·simp[zea];lia
theorem zw6(b:Nat):max ((b:Int) - 1) 0=((b - 1:Nat):Int):=by
 induction b using Nat.casesOn with
 |zero=>rfl
 |succ n=>rw[show((n.succ:Nat):Int)=(n:Int)+1 from rfl,Int.add_sub_cancel];exact Int.max_eq_left (Int.natCast_nonneg n)
theorem zjr{cf ci:Nat->List D->R D}{k:Int}{a1 a2 a3 v n bb gs:D}{e:E}{t u:Tok}(hk:decide (1<k)=true)(ht:t.length<=10000)(hu:u.length<=10000):
  exec G cf ci 2000 us2 [.int k,a1,a2,a3,ds t,ds u,e.d,v,n,bb,gs,OO]=.ok (.next,[.int k,a1,a2,a3,ds (par e.isIf t),ds (par e.isIf u),e.d,v,n,bb,gs,OO]):=by
 have hc:=zaS (GG:=G) (cf:=cf) (ρ:=[.int k,a1,a2,a3,ds t,ds u,e.d,v,n,bb,gs,OO]) (a:=.bin .gt (.var 0) (.lit (.int 1))) (b:=.bin .eq (.bin .idx (.var 6) (.lit (.int 0))) (.lit (.str ⟨#[105,102]⟩)))
  (congrArg (fun b=>R.ok (PyData.bool b)) hk) (congrArg (fun b=>R.ok (PyData.bool b)) (zka e))
 generalize e.isIf=b at hc;induction b using Bool.casesOn with
 |false=>exact zz hc rfl
 |true=>exact zY hc (zd8 (jC (zj (Sv.add (Sv.add ⟨rfl,l1⟩ ⟨rfl,ht⟩ rfl) ⟨rfl,l1⟩ rfl).h (zj (Sv.add (Sv.add ⟨rfl,l1⟩ ⟨rfl,hu⟩ rfl) ⟨rfl,l1⟩ rfl).h rfl)) rfl) rfl)
theorem zuS{cf:Nat->List D->R D}{a:PE}{ρ:ze}{x:Nat}(h:ev G cf a ρ=.ok (.int (x:Nat))):ev G cf (.bin .max (.bin .sub a (.lit (.int 1))) (.lit (.int 0))) ρ=.ok (.int (x - 1:Nat)):=
 zm (zm h rfl rfl) rfl (congrArg (fun i=>R.ok (PyData.int i)) (zw6 x))
theorem zki{cf ci:Nat->List D->R D}{a0 a1:D}{k0 k1 b0 b1 v n:Nat}{e:E}{sp t u:Tok}{gs:List D}(hsp:sp.length<=10)(ht:t.length<=10100)(hu:u.length<=10100)
  (m0:zeG (.int b0) (.int (1+k0:Nat))=.ok (.int (b0*(1+k0):Nat)))(m1:zeG (.int b1) (.int (1+k1:Nat))=.ok (.int (b1*(1+k1):Nat))):
  Rt G cf ci 2000 us5 [a0,a1,knD k0 k1,ds sp,ds t,ds u,e.d,.int v,.int n,.tuple [.int b0,.int b1],.list gs,OO]
   (P7.d ⟨t++sp++[45]++sp++[49],u++[32,45,32,49],.pred e,v - 1,n,if e.isName then b0*(1+k0) else b0,if e.isName then b1*(1+k1) else b1,gs⟩):=by
 have hc:ev G cf (.bin .eq (.bin .idx (.var 6) (.lit (.int 0))) (.lit (.str ⟨#[110,97,109,101]⟩))) [a0,a1,knD k0 k1,ds sp,ds t,ds u,e.d,.int v,.int n,.tuple [.int b0,.int b1],.list gs,OO]=.ok (.bool e.isName):=
  congrArg (fun b=>R.ok (PyData.bool b)) (zlY e)
 have fin:∀{c0 c1:Nat},Rt G cf ci 2000 ((.ret (.tup (.cons (.bin .add (.bin .add (.bin .add (.bin .add (.var 4) (.var 3)) (.lit (.str ⟨#[45]⟩))) (.var 3)) (.lit (.str ⟨#[49]⟩))) (.cons (.bin .add (.var 5) (.lit (.str ⟨#[32,45,32,49]⟩))) (.cons (.tup (.cons (.lit (.str ⟨#[112,114,101,100]⟩)) (.cons (.var 6) .nil))) (.cons (.bin .max (.bin .sub (.var 7) (.lit (.int 1))) (.lit (.int 0))) (.cons (.var 8) (.cons (.var 9) (.cons (.var 10) .nil)))))))))) [a0,a1,knD k0 k1,ds sp,ds t,ds u,e.d,.int v,.int n,.tuple [.int c0,.int c1],.list gs,OO] (P7.d ⟨t++sp++[45]++sp++[49],u++[32,45,32,49],.pred e,v - 1,n,c0,c1,gs⟩):=
  Rt.ret (jC (zj (Sv.add (Sv.add (Sv.add (Sv.add ⟨rfl,ht⟩ ⟨rfl,hsp⟩ rfl) ⟨rfl,l1⟩ rfl) ⟨rfl,hsp⟩ rfl) ⟨rfl,l1⟩ rfl).h (zj (Sv.add ⟨rfl,hu⟩ ⟨rfl,l4⟩ rfl).h (zj rfl (zj (zuS rfl) rfl)))) rfl)
 generalize e.isName=b at hc;induction b using Bool.casesOn with
 |false=>exact Rt.nxt (zz hc rfl) fin
 |true=>exact Rt.nxt (zY hc (jM (jC (zj (zm rfl rfl m0) (zj (zm rfl rfl m1) rfl)) rfl))) fin
theorem zeP{n:Nat}(sp:List Nat)(k0 k1:Nat)(k:Int)(hk:0<=k/\k<5)(p:P7)(ht:p.t.length<10000)(hu:p.u.length<10000)(hsp:sp.length<10)(hb0:p.b0<10)(hb1:p.b1<10)(hk0:k0<10)(hk1:k1<10):
  zd G T 2000 (n+1) 26 [.int k,p.d,knD k0 k1,ds sp]=.ok (unC sp k0 k1 k p).d:=by
 have m0:=zci p.b0 (1+k0) (qD hb0 (by decide)) (bs (Nat.add_le_add (Nat.le_refl 1) (qC hk0)) rfl);have m1:=zci p.b1 (1+k1) (qD hb1 (by decide)) (bs (Nat.add_le_add (Nat.le_refl 1) (qC hk1)) rfl);replace ht:=qC ht;replace hu:=qC hu;replace hsp:=qC hsp;clear hb0 hb1 hk0 hk1;rw[zhv];obtain⟨k,rfl⟩:=Int.eq_ofNat_of_zero_le hk.1;obtain⟨_,hk⟩:=hk
 match k,hk with
 |0,_=>rfl
 |1,_=>exact(Rt.nxt rfl (Rt.nxt rfl (Rt.nxt (zY rfl (jM (Sv.add (Sv.add (Sv.add (Sv.add ⟨rfl,l1⟩ ⟨rfl,hsp⟩ rfl) ⟨rfl,ht⟩ rfl) ⟨rfl,hsp⟩ rfl) ⟨rfl,l1⟩ rfl).h)) (Rt.nxt rfl (Rt.nxt rfl (Rt.ret rfl)))))).fin
 |2,_=>exact(Rt.nxt rfl (Rt.nxt (zjr rfl ht hu) (Rt.nxt rfl (Rt.seq (Rt.ift rfl (Rt.ret (jC (zj (Sv.add (Sv.add (Sv.add (Sv.add ⟨rfl,jL ht⟩ ⟨rfl,hsp⟩ rfl) ⟨rfl,l1⟩ rfl) ⟨rfl,hsp⟩ rfl) ⟨rfl,l1⟩ rfl).h (zj (Sv.add ⟨rfl,jL hu⟩ ⟨rfl,l4⟩ rfl).h (zj rfl (zj rfl (zj rfl (zj (jC (zj (zuS rfl) (zj (zuS rfl) rfl)) rfl) rfl)))))) rfl))))))).fin
 |3,_=>exact(Rt.nxt rfl (Rt.nxt (zjr rfl ht hu) (Rt.nxt rfl (Rt.nxt rfl (Rt.seq (Rt.ift rfl (zki hsp (qA (jL ht) (Nat.le_of_ble_eq_true rfl)) (qA (jL hu) (Nat.le_of_ble_eq_true rfl)) m0 m1))))))).fin
 |4,_=>exact(Rt.nxt rfl (Rt.nxt (zjr rfl ht hu) (Rt.nxt (zY rfl (jM (Sv.add (Sv.add (Sv.add (Sv.add ⟨rfl,l1⟩ ⟨rfl,hsp⟩ rfl) ⟨rfl,jL ht⟩ rfl) ⟨rfl,hsp⟩ rfl) ⟨rfl,l1⟩ rfl).h)) (Rt.nxt rfl (Rt.seq (Rt.ift rfl (zki hsp (qA (zg (zg (zg (zg l1 hsp) (jL ht)) hsp) l1) (Nat.le_of_ble_eq_true rfl)) (qA (jL hu) (Nat.le_of_ble_eq_true rfl)) m0 m1))))))).fin
end Mine
namespace Mine
open PySem
theorem zrS{n:Nat}(mode x y:Nat)(hm:mode<4)(hx:x<900)(hy:y<900):zd G T 2000 (n+1) 27 [.int mode,.int x,.int y]=.ok (.tuple [.int (zbb mode x y),.int (jf mode x y)]):=by
 rw[zsF];have hmod:zh7 (.int mode) (.int 2)=.ok (.int (mode % 2:Nat)):=by
  show(if(0:Int)<2 then R.ok (PyData.int ((mode:Int) % 2)) else .stuck)=_;rw[if_pos (by decide)];rfl
 have m0:=zci 2 x (by decide) (by exact qD ‹_› (by decide));have m1:=zci 2 y (by decide) (by exact qD ‹_› (by decide));have m0:zeG (.int 2) (.int x)=_:=m0;have m1:zeG (.int 2) (.int y)=_:=m1;unfold zbb jf;by_cases he:mode % 2=0
 ·have h0:((mode % 2:Nat):Int)=0:=by lia
  simp only[zb0,zT,zdb,jr,jB,kG,k7,ji,zK,z0,z6,zfh,zQ,zO,zP,jc,g_0,g_s,jx,R.bind_ok,zdO,zju,jo,z5,zaI,List.any_cons,List.any_nil,zfu,zdZ,hmod,zcb,decide_eq_true h0,zhF,if_pos he];rfl
 ·have h0:¬((mode % 2:Nat):Int)=0:=by lia
  by_cases hxy:x<=y
  ·have h1:(x:Int)<=y:=by lia
   have e1:(y:Int) - x=(y - x:Nat):=by lia
   simp only[zb0,zT,zv,zdb,jv,jr,jB,jj,kG,k7,ji,zK,z0,z6,zfh,zQ,zO,zP,jc,g_0,g_s,jx,R.bind_ok,zdO,zjQ,zoj,zju,jo,zhb,z5,zaI,List.any_cons,List.any_nil,zfu,zdZ,hmod,zcb,decide_eq_false h0,zgC,decide_eq_true h1,zeX,m0,zyF,if_neg he,if_pos hxy,e1]
  ·have h1:¬(x:Int)<=y:=by lia
   have e1:(x:Int) - y - 1=(x - y - 1:Nat):=by lia
   simp only[zb0,zT,zv,jv,jr,jj,kG,k7,ji,zK,z0,z6,zfh,zQ,zO,zP,jc,g_0,g_s,jx,R.bind_ok,zdO,zjQ,zoj,zju,jo,zhb,z5,zaI,List.any_cons,List.any_nil,zfu,zdZ,hmod,zcb,decide_eq_false h0,zgC,decide_eq_false h1,zeX,m1,zyS,if_neg he,if_neg hxy,e1]
noncomputable def jd(b:Nat):Option Bool:=if b=0 then none else if b=1 then some false else some true
noncomputable def zfo(x y:Tok)(v1 v2:Nat)(sp:List Nat)(mode:Nat)(k:Int)(p q:P7):P7:=
 if k<2 then
  let z:=if k=0 then x else y
  let w:=if k=0 then v1 else v2
  ⟨[105,102,32]++sp++z++[32,116,104,101,110,32]++sp++p.t++sp++[32,101,108,115,101,32]++q.t,
   [105,102,32]++z++[32,116,104,101,110,32]++p.u++[32,101,108,115,101,32]++q.u,
   .iff z p.e q.e,if w=0 then p.v else q.v,if w=0 then p.n else q.n,min p.b0 q.b0,min p.b1 q.b1,p.gs++q.gs⟩
 else if k<4 then
  ⟨tG++sp++[40]++sp++p.t++sp++[44]++sp++q.t++[41],[103,40]++p.u++[44,32]++q.u++[41],.call p.e q.e,zbb mode p.v q.v,p.n+q.n+jf mode p.v q.v,0,0,
   p.gs++q.gs++[gD tF tG (jd p.b0,jd p.b1) (jd q.b0,jd q.b1)]⟩
 else p
noncomputable def zyP(a b c d:Nat):D:=.tuple [.tuple [.int a,.int b],.tuple [.int c,.int d]]
noncomputable def zw3(cf:Nat->List D->R D)(v:D):R D:=ev G cf zsX [OO,OO,OO,OO,OO,OO,OO,OO,OO,OO,OO,OO,OO,v]
set_option maxHeartbeats 4000000 in
theorem zlv(cf:Nat->List D->R D):([0,1,2].all fun a=>[0,1,2].all fun b=>[0,1,2].all fun c=>[0,1,2].all fun d=>zdC (zw3 cf (zyP a b c d)) (.list (zaU (jd a,jd b) (jd c,jd d))))=true:=rfl
theorem zsN{a:Nat}(h:a<=2):a∈[0,1,2]:=by
 have:a=0\/a=1\/a=2:=by lia
 rcases this with e|e|e
 ·exact e▸List.mem_cons_self
 ·exact e▸List.mem_cons_of_mem _ List.mem_cons_self
 ·exact e▸List.mem_cons_of_mem _ (List.mem_cons_of_mem _ List.mem_cons_self)
theorem zng{cf:Nat->List D->R D}{ρ:ze}{a b c d:Nat}(ha:a<=2)(hb:b<=2)(hc:c<=2)(hd:d<=2)(h:zr ρ 13=.tuple [.tuple [.int a,.int b],.tuple [.int c,.int d]]):
  ev G cf zsX ρ=.ok (.list (zaU (jd a,jd b) (jd c,jd d))):=by
 have e:ev G cf zsX ρ=zw3 cf (zr ρ 13):=rfl;have k:=List.all_eq_true.mp (List.all_eq_true.mp (List.all_eq_true.mp (List.all_eq_true.mp (zlv cf) a (zsN ha)) b (zsN hb)) c (zsN hc)) d (zsN hd);rw[e,h];exact j7 k
end Mine
namespace Mine
open PySem
theorem za3{xs ys:List D}(h:xs.length+ys.length<1000000):zdx (.list xs) (.list ys)=.ok (.list (xs++ys)):=by
 show mkL (xs++ys)=_;unfold mkL;rw[if_pos (by simp[zp];exact qA (qC ‹_›) (by decide))]
structure Sml(p:P7):Prop where
 t:p.t.length<5000
 u:p.u.length<5000
 v:p.v<900
 b0:p.b0<=2
 b1:p.b1<=2
 gs:p.gs.length<5000
theorem zyW(a b:Nat):min (a:Int) (b:Int)=((min a b:Nat):Int):=by
 rcases Nat.le_total a b with h|h
 ·rw[Nat.min_eq_left h,Int.min_eq_left (Int.ofNat_le.mpr h)]
 ·rw[Nat.min_eq_right h,Int.min_eq_right (Int.ofNat_le.mpr h)]
theorem zt5(a b:Nat):zdx (.int a) (.int b)=.ok (.int (a+b:Nat)):=by rw[zhF];rfl
theorem ztn{cf:Nat->List D->R D}{a b:PE}{ρ:ze}{x y:Nat}(h:ev G cf a ρ=.ok (.int (x:Nat)))(g:ev G cf b ρ=.ok (.int (y:Nat))):ev G cf (.bin .min a b) ρ=.ok (.int (min x y:Nat)):=
 zm h g (congrArg (fun i=>R.ok (PyData.int i)) (zyW x y))
theorem zew{cf ci:Nat->List D->R D}{x0 x3 x4 x5 x7:D}{z sp:Tok}{p q r:P7}(hp:Sml p)(hq:Sml q)(hsp:sp.length<=10)(hz:z.length<=10):
  Rt G cf ci 2000 jb1 [x0,p.d,q.d,x3,x4,x5,ds sp,x7,ds z,r.d,OO,OO,OO,OO,OO,OO,OO,OO,OO]
  (P7.d ⟨[105,102,32]++sp++z++[32,116,104,101,110,32]++sp++p.t++sp++[32,101,108,115,101,32]++q.t,[105,102,32]++z++[32,116,104,101,110,32]++p.u++[32,101,108,115,101,32]++q.u,.iff z p.e q.e,r.v,r.n,min p.b0 q.b0,min p.b1 q.b1,p.gs++q.gs⟩):=
 have s:∀{ρ:ze},zr ρ 6=ds sp->Sv cf (.var 6) ρ sp 10:=fun h=>⟨congrArg R.ok h,hsp⟩
 Rt.asg (Sv.add (Sv.add (Sv.add (Sv.add (Sv.add (Sv.add (Sv.add (Sv.add ⟨rfl,l3⟩ (s rfl) rfl) ⟨rfl,hz⟩ rfl) ⟨rfl,l6⟩ rfl) (s rfl) rfl) ⟨rfl,qC hp.t⟩ rfl) (s rfl) rfl) ⟨rfl,l6⟩ rfl) ⟨rfl,qC hq.t⟩ rfl).h
 (Rt.asg (Sv.add (Sv.add (Sv.add (Sv.add (Sv.add ⟨rfl,l3⟩ ⟨rfl,hz⟩ rfl) ⟨rfl,l6⟩ rfl) ⟨rfl,qC hp.u⟩ rfl) ⟨rfl,l6⟩ rfl) ⟨rfl,qC hq.u⟩ rfl).h
 (Rt.asg (jC (zj (ztn (x:=p.b0) (y:=q.b0) rfl rfl) (zj (ztn (x:=p.b1) (y:=q.b1) rfl rfl) rfl)) rfl)
 (Rt.ret (jC (zj rfl (zj rfl (zj rfl (zj rfl (zj rfl (zj rfl (zj (zm rfl rfl (za3 (bs (Nat.add_le_add (qC hp.gs) (qC hq.gs)) rfl))) rfl))))))) rfl))))
theorem zlh{ci:Nat->List D->R D}{n:Nat}{x0 x3 x4 x5:D}{mode:Nat}{sp:Tok}{p q:P7}(hm:mode<4)(hp:Sml p)(hq:Sml q)(hsp:sp.length<=10):
  Rt G (zd G T 2000 (n+1)) ci 2000 jb2 [x0,p.d,q.d,x3,x4,x5,ds sp,.int mode,OO,OO,OO,OO,OO,OO,OO,OO,OO,OO,OO]
  (P7.d ⟨tG++sp++[40]++sp++p.t++sp++[44]++sp++q.t++[41],[103,40]++p.u++[44,32]++q.u++[41],.call p.e q.e,zbb mode p.v q.v,p.n+q.n+jf mode p.v q.v,0,0,p.gs++q.gs++[gD tF tG (jd p.b0,jd p.b1) (jd q.b0,jd q.b1)]⟩):=
 have s:∀{ρ:ze},zr ρ 6=ds sp->Sv (zd G T 2000 (n+1)) (.var 6) ρ sp 10:=fun h=>⟨congrArg R.ok h,hsp⟩
 Rt.asg rfl (Rt.asg (zng hp.b0 hp.b1 hq.b0 hq.b1 rfl) (Rt.asgm (zn rfl (zrS mode p.v q.v hm hp.v hq.v)) rfl
 (Rt.asg (Sv.add (Sv.add (Sv.add (Sv.add (Sv.add (Sv.add (Sv.add (Sv.add (Sv.add ⟨rfl,l1⟩ (s rfl) rfl) ⟨rfl,l1⟩ rfl) (s rfl) rfl) ⟨rfl,qC hp.t⟩ rfl) (s rfl) rfl) ⟨rfl,l1⟩ rfl) (s rfl) rfl) ⟨rfl,qC hq.t⟩ rfl) ⟨rfl,l1⟩ rfl).h
 (Rt.asg (Sv.add (Sv.add (Sv.add (Sv.add ⟨rfl,l2⟩ ⟨rfl,qC hp.u⟩ rfl) ⟨rfl,l2⟩ rfl) ⟨rfl,qC hq.u⟩ rfl) ⟨rfl,l1⟩ rfl).h
 (Rt.ret (jC (zj rfl (zj rfl (zj rfl (zj rfl (zj (zm (zm rfl rfl (zt5 p.n q.n)) rfl (zt5 (p.n+q.n) (jf mode p.v q.v))) (zj rfl (zj (zm (zm rfl rfl (za3 (bs (Nat.add_le_add (qC hp.gs) (qC hq.gs)) rfl))) rfl (za3 (bs (Nat.add_le_add (qA (Nat.le_of_eq List.length_append) (Nat.add_le_add (qC hp.gs) (qC hq.gs))) (Nat.le_refl 1)) rfl))) rfl))))))) rfl))))))
theorem zle{n:Nat}(x y:Tok)(v1 v2:Nat)(sp:List Nat)(mode:Nat)(k:Int)(hk:0<=k/\k<6)(p q:P7)(hp:Sml p)(hq:Sml q)(hsp:sp.length<10)(hx:x.length<10)(hy:y.length<10)(hm:mode<4):
  zd G T 2000 (n+2) 28 [.int k,p.d,q.d,zgx x y v1 v2 sp mode]=.ok (zfo x y v1 v2 sp mode k p q).d:=by
 replace hsp:=qC hsp;replace hx:=qC hx;replace hy:=qC hy;rw[zjq];obtain⟨k,rfl⟩:=Int.eq_ofNat_of_zero_le hk.1;obtain⟨_,hk⟩:=hk
 match k,hk with
 |0,_=>induction v1 using Nat.casesOn with
  |zero=>exact(Rt.nxt rfl (Rt.seq (Rt.ift rfl (Rt.nxt rfl (Rt.nxt rfl (Rt.nxt rfl (zew (r:=p) hp hq hsp hx))))))).fin
  |succ=>exact(Rt.nxt rfl (Rt.seq (Rt.ift rfl (Rt.nxt rfl (Rt.nxt rfl (Rt.nxt rfl (zew (r:=q) hp hq hsp hx))))))).fin
 |1,_=>induction v2 using Nat.casesOn with
  |zero=>exact(Rt.nxt rfl (Rt.seq (Rt.ift rfl (Rt.nxt rfl (Rt.nxt rfl (Rt.nxt rfl (zew (r:=p) hp hq hsp hy))))))).fin
  |succ=>exact(Rt.nxt rfl (Rt.seq (Rt.ift rfl (Rt.nxt rfl (Rt.nxt rfl (Rt.nxt rfl (zew (r:=q) hp hq hsp hy))))))).fin
 |2,_=>exact(Rt.nxt rfl (Rt.nxt rfl (Rt.seq (Rt.ift rfl (zlh hm hp hq hsp))))).fin
 |3,_=>exact(Rt.nxt rfl (Rt.nxt rfl (Rt.seq (Rt.ift rfl (zlh hm hp hq hsp))))).fin
 |4,_=>rfl
 |5,_=>rfl
noncomputable def zac(k:Int)(k0 k1:Nat):Nat×Nat:=if k=0 then(1,k1) else if k=1 then(k0,1) else(k0,k1)
theorem zkQ{n:Nat}(k:Int)(k0 k1:Nat):zd G T 2000 (n+1) 29 [.int k,knD k0 k1]=.ok (knD (zac k k0 k1).1 (zac k k0 k1).2):=by
 rw[zi3];unfold zac;by_cases h0:k=0
 ·simp only[kY,zT,zdb,jr,jB,kG,k7,ji,zK,z0,z6,zfh,zQ,zO,zP,jc,g_0,g_s,jx,R.bind_ok,jo,zR,z5,zaI,List.any_cons,List.any_nil,zfu,zdZ,zcb,decide_eq_true h0,jq,if_pos h0];rfl
 ·by_cases h1:k=1
  ·simp only[kY,zT,zv,zdb,jv,jr,jB,jj,kG,k7,ji,zK,z0,z6,zfh,zQ,zO,zP,jc,g_0,g_s,jx,R.bind_ok,jo,zR,z5,zaI,List.any_cons,List.any_nil,zfu,zdZ,zcb,decide_eq_false h0,decide_eq_true h1,je,if_neg h0,if_pos h1];rfl
  ·simp only[kY,zT,zv,jv,jr,jj,kG,k7,ji,zK,z0,z6,g_0,g_s,jx,R.bind_ok,jo,z5,zcb,decide_eq_false h0,decide_eq_false h1,if_neg h0,if_neg h1]
end Mine
namespace Mine
open PySem
noncomputable def zas(sp:List Nat):Prop:=sp=[]\/sp=[32]\/sp=[32,32]
theorem tsp{sp:List Nat}(h:zas sp)(b:List Nat):tok (sp++b)=tok b:=by
 rcases h with rfl|rfl|rfl
 ·rfl
 ·exact zdM b
 ·show tok (32::32::b)=_;rw[zdM,zdM]
theorem zhK{sp:List Nat}(h:zas sp)(a:List Nat){c:Nat}(hc:cls c=0)(b:List Nat):tok (a++(sp++c::b))=tok a++tok (c::b):=by
 rcases h with rfl|rfl|rfl
 ·exact zgU hc b a
 ·show tok (a++32::(c::b))=_;rw[zB]
 ·show tok (a++32::(32::(c::b)))=_;rw[zB,zdM]
theorem zyM{sp:List Nat}(h:zas sp)(a:List Nat):tok (a++sp)=tok a:=by
 rcases h with rfl|rfl|rfl
 ·simp
 ·exact zmq
 ·show tok (a++32::[32])=_;rw[zB];exact List.append_nil _
theorem zex:tok []=[]:=rfl
theorem zxK:tok [49]=[[49]]:=by decide
theorem zto{sp:List Nat}(h:zas sp)(a:List Nat):tok ([40]++sp++a++sp++[41])=[[40]]++tok a++[[41]]:=by
 have e:[40]++sp++a++sp++[41]=[]++40::(sp++(a++(sp++41::[]))):=by simp
 rw[e,jJ (by decide) (by decide),tsp h,zhK h _ (by decide),zdh (by decide) (by decide),zex];rfl
theorem zx0{sp:List Nat}(h:zas sp)(a:List Nat){c:Nat}(hc:cls c=0)(h32:c≠32):tok (a++sp++[c]++sp++[49])=tok a++[[c],[49]]:=by
 have e:a++sp++[c]++sp++[49]=a++(sp++c::(sp++[49])):=by simp
 rw[e,zhK h _ hc,zdh hc h32,tsp h,zxK]
theorem zyL{sp:List Nat}(h:zas sp){x:Tok}(hx:zV x)(a b:List Nat):tok ([105,102,32]++sp++x++[32,116,104,101,110,32]++sp++a++sp++[32,101,108,115,101,32]++b)=[tIf,x,zbv]++tok a++[za8]++tok b:=by
 have e:[105,102,32]++sp++x++[32,116,104,101,110,32]++sp++a++sp++[32,101,108,115,101,32]++b=tIf++32::(sp++(x++32::(zbv++32::(sp++(a++(sp++32::(za8++32::b))))))):=by simp
 rw[e,zB,tsp h,zB,zB,tsp h,zhK h _ zgK,zdM,zB,hx.tok];have h1:tok tIf=[tIf]:=by decide
 have h2:tok zbv=[zbv]:=by decide
 have h3:tok za8=[za8]:=by decide
 rw[h1,h2,h3];simp
theorem zv7{sp:List Nat}(h:zas sp)(a b:List Nat):tok (tG++sp++[40]++sp++a++sp++[44]++sp++b++[41])=[tG,[40]]++tok a++[[44]]++tok b++[[41]]:=by
 have e:tG++sp++[40]++sp++a++sp++[44]++sp++b++[41]=tG++(sp++40::(sp++(a++(sp++44::(sp++(b++41::[])))))):=by simp
 rw[e,zhK h _ (by decide),zdh (c:=40) (by decide) (by decide),tsp h,zhK h _ (by decide),zdh (c:=44) (by decide) (by decide),tsp h,jJ (by decide) (by decide),zex];have h1:tok tG=[tG]:=by decide
 rw[h1];simp
theorem qd0:qd []:=trivial
theorem zx8:∀{a:List Nat},(∀c∈a,jm c=false)->qd a:=by
 intro a;induction a with
 |nil=>intro _;trivial
 |cons c a ih=>intro h;exact zjX (h c (List.mem_cons_self)) (ih fun d hd=>h d (by exact List.mem_cons_of_mem _ ‹_›))
theorem zU{b:List Nat}(hb:qd b):∀{a:List Nat},(∀c∈a,jm c=false)->qd (a++b):=by
 intro a;induction a with
 |nil=>intro _;exact hb
 |cons c a ih=>intro h;exact zjX (h c (List.mem_cons_self)) (ih fun d hd=>h d (by exact List.mem_cons_of_mem _ ‹_›))
theorem zd4{sp:List Nat}(h:zas sp):∀c∈sp,jm c=false:=by
 rcases h with rfl|rfl|rfl<;>trivial
theorem zey{x:Tok}(h:zV x):∀c∈x,jm c=false:=by
 intro c hc;have:=h.al c hc;simp[jX] at this;simp[jm];lia
theorem zg8{sp:List Nat}(h:zas sp){a b:List Nat}{c:Nat}(hc:jm c=false)(ha:qd a)(hb:qd b):qd (a++(sp++c::b)):=by
 rcases h with rfl|rfl|rfl
 ·exact zdK hc hb ha
 ·exact zdK (by decide) (zjX hc hb) ha
 ·exact zdK (by decide) (zjX (by decide) (zjX hc hb)) ha
theorem zu2{sp:List Nat}(h:zas sp){a:List Nat}(ha:qd a):qd (a++sp):=by
 rcases h with rfl|rfl|rfl
 ·simpa using ha
 ·exact zdK (by decide) qd0 ha
 ·exact zdK (by decide) (zjX (by decide) qd0) ha
theorem zy8:qd [49]:=by trivial
theorem zpA{sp:List Nat}(h:zas sp){a:List Nat}(ha:qd a):qd ([40]++sp++a++sp++[41]):=by
 have e:[40]++sp++a++sp++[41]=40::(sp++(a++(sp++41::[]))):=by simp
 rw[e];exact zjX (by decide) (zU (zg8 h (by decide) ha qd0) (zd4 h))
theorem zi8{b:Bool}{a:List Nat}(ha:qd a):qd (par b a):=by
 cases b
 ·exact ha
 ·have:=zpA (sp:=[]) (Or.inl rfl) ha
  simpa [par] using this
theorem zwC{sp:List Nat}(h:zas sp){a:List Nat}{c:Nat}(hc:jm c=false)(ha:qd a):qd (a++sp++[c]++sp++[49]):=by
 have e:a++sp++[c]++sp++[49]=a++(sp++c::(sp++[49])):=by simp
 rw[e];exact zg8 h hc ha (zU zy8 (zd4 h))
theorem zy4{sp:List Nat}(h:zas sp){x:Tok}(hx:zV x){a b:List Nat}(ha:qd a)(hb:qd b):qd ([105,102,32]++sp++x++[32,116,104,101,110,32]++sp++a++sp++[32,101,108,115,101,32]++b):=by
 have e:[105,102,32]++sp++x++[32,116,104,101,110,32]++sp++a++sp++[32,101,108,115,101,32]++b=[105,102,32]++(sp++(x++([32,116,104,101,110,32]++(sp++(a++(sp++32::([101,108,115,101,32]++b))))))):=by simp
 rw[e];exact zU (zU (zU (zU (zU (zg8 h (by decide) ha (zU hb (by decide))) (zd4 h)) (by decide)) (zey hx)) (zd4 h)) (by decide)
theorem zuV{sp:List Nat}(h:zas sp){a b:List Nat}(ha:qd a)(hb:qd b):qd (tG++sp++[40]++sp++a++sp++[44]++sp++b++[41]):=by
 have e:tG++sp++[40]++sp++a++sp++[44]++sp++b++[41]=tG++(sp++([40]++(sp++(a++(sp++44::(sp++(b++41::[]))))))):=by simp
 rw[e];exact zU (zU (zU (zU (zg8 h (by decide) ha (zU (zdK (by decide) qd0 hb) (zd4 h))) (zd4 h)) (by decide)) (zd4 h)) (by decide)
structure En(x y:Tok)(v1 v2:Nat)(sp:List Nat)(mode:Nat):Prop where
 hx:zV x
 hy:zV y
 xy:x≠y
 lx:x.length<=3
 ly:y.length<=3
 h1:v1<=3
 h2:v2<=3
 sp:zas sp
 md:mode<4
structure Gd(x y:Tok)(v1 v2:Nat)(mode:Nat)(kn:List Tok)(L K V Dp Nc:Nat)(p:P7):Prop where
 wf:p.e.wf x y
 pt:PP K p.e.isIf (tok p.t) p.e.d
 u:p.u=p.e.text
 tl:p.t.length<=L
 ul:p.u.length<=L
 q:qd p.t
 nt:10∉p.t
 nu:10∉p.u
 dep:p.e.dep<=Dp
 nc:p.e.nc<=Nc
 gl:p.gs.length<=Nc
 val:∀l,iv (zae mode) x v1 v2 p.e l=if p.n<=l then some (p.v,l - p.n) else none
 cp:p.e.cp (zae mode) x v1 v2 (fun a b=>a<=30/\b<=30)
 v:p.v<=V
 b0:p.b0<=2
 b1:p.b1<=2
 bd:bd x y kn p.e=(jd p.b0,jd p.b1)
 cl:∀out,cl tF x y p.e kn out=p.gs.foldl j9 out
 gg:∀g∈p.gs,∃o o',g=gD tF tG o o'
noncomputable def zfz(x y:Tok)(kn:List Tok)(k0 k1:Nat):Prop:=k0=(if kn.contains x then 1 else 0)/\k1=(if kn.contains y then 1 else 0)
theorem zas.len{sp:List Nat}(h:zas sp):sp.length<=2:=by rcases h with rfl|rfl|rfl<;>trivial
theorem zas.nl{sp:List Nat}(h:zas sp):10∉sp:=by rcases h with rfl|rfl|rfl<;>trivial
theorem zV.nl{x:Tok}(h:zV x):10∉x:=by intro hc;have:=h.al 10 hc;exact ff this
theorem Gd.sml{x y:Tok}{v1 v2 mode:Nat}{kn:List Tok}{L K V Dp Nc:Nat}{p:P7}(h:Gd x y v1 v2 mode kn L K V Dp Nc p)(hL:L<5000)(hV:V<900)(hN:Nc<5000):Sml p:=
 ⟨by have:=h.tl;exact qB ‹_› ‹_›,by have:=h.ul;exact qB ‹_› ‹_›,by have:=h.v;exact qB ‹_› ‹_›,h.b0,h.b1,by have:=h.gl;exact qB ‹_› ‹_›⟩
theorem Gd.mono{x y:Tok}{v1 v2 mode:Nat}{kn:List Tok}{L K V Dp Nc L' K' V' Dp' Nc':Nat}{p:P7}(h:Gd x y v1 v2 mode kn L K V Dp Nc p)(hL:L<=L')(hK:K<=K')(hV:V<=V')(hD:Dp<=Dp')(hN:Nc<=Nc'):Gd x y v1 v2 mode kn L' K' V' Dp' Nc' p:=
 {h with pt:=h.pt.mono hK,tl:=qA h.tl hL,ul:=qA h.ul hL,dep:=qA h.dep hD,nc:=qA h.nc hN,gl:=qA h.gl hN,v:=qA h.v hV}
section
variable{x y:Tok}{v1 v2:Nat}{sp:List Nat}{mode:Nat}
theorem ntl(i:Nat)(h:i=0\/i=1\/i=2\/i=10):(j2 i).length<=3:=by rcases h with rfl|rfl|rfl|rfl<;>decide
theorem ntn(i:Nat)(h:i=0\/i=1\/i=2\/i=10):10∉j2 i:=by rcases h with rfl|rfl|rfl|rfl<;>decide
theorem zkq(H:En x y v1 v2 sp mode){kn:List Tok}{k0 k1:Nat}(hk:zfz x y kn k0 k1)(k:Int):Gd x y v1 v2 mode kn 3 4 10 0 0 (zeJ x y v1 v2 k0 k1 k):=by
 have hyx:¬(y=x):=fun e=>H.xy e.symm;have hv1:=H.h1;have hv2:=H.h2;have num:∀(i b0 b1:Nat),(i=0\/i=1\/i=2\/i=10)->b0<=2->b1<=2->bd x y kn (.num i)=(jd b0,jd b1)->Gd x y v1 v2 mode kn 3 4 10 0 0 ⟨j2 i,j2 i,.num i,i,0,b0,b1,[]⟩:=by
  intro i b0 b1 hi h0 h1 hb;exact {wf:=hi,pt:=by show PN _ (tok (j2 i)) _;rw[ztS];exact zj3 hi,u:=rfl,tl:=ntl i hi,ul:=ntl i hi,q:=by rcases hi with rfl|rfl|rfl|rfl<;>trivial,nt:=ntn i hi,nu:=ntn i hi,dep:=Nat.le_refl _,nc:=Nat.le_refl _,gl:=Nat.le_refl _,val:=by intro l;rfl,cp:=trivial,v:=by simp only;lia,b0:=h0,b1:=h1,bd:=hb,cl:=by intro out;rfl,gg:=by simp}
 have nam:∀(z:Tok) (v b0 b1:Nat),(z=x\/z=y)->v=(if z=x then v1 else v2)->b0<=2->b1<=2->bd x y kn (.name z)=(jd b0,jd b1)->Gd x y v1 v2 mode kn 3 4 10 0 0 ⟨z,z,.name z,v,0,b0,b1,[]⟩:=by
  intro z v b0 b1 hz hv h0 h1 hb;have hzo:zV z:=by(rcases hz with zr37|zr38<;>(try (replace zr37:=Eq.symm zr37;subst zr37))<;>(try (replace zr38:=Eq.symm zr38;subst zr38)));exact H.hx;exact H.hy
  have hzl:z.length<=3:=by(rcases hz with zr39|zr40<;>(try (replace zr39:=Eq.symm zr39;subst zr39))<;>(try (replace zr40:=Eq.symm zr40;subst zr40)));exact H.lx;exact H.ly
  exact {wf:=hz,pt:=by show PN _ (tok z) _;rw[hzo.tok];exact zes hzo.nb,u:=rfl,tl:=hzl,ul:=hzl,q:=zx8 (zey hzo),nt:=hzo.nl,nu:=hzo.nl,dep:=Nat.le_refl _,nc:=Nat.le_refl _,gl:=Nat.le_refl _,val:=by intro l;simp[zfV,hv],cp:=trivial,v:=by(show v<=10;rw[hv];split<;>exact qA ‹_› (by decide)),b0:=h0,b1:=h1,bd:=hb,cl:=by intro out;rfl,gg:=by simp}
 obtain⟨e0,e1⟩:=hk;unfold zeJ;split
 ·exact nam x v1 1 0 (Or.inl rfl) (by simp) (by exact Nat.succ_pos _) (by exact Nat.zero_le _) (by simp[znO,jd])
 ·split
  ·exact nam y v2 0 1 (Or.inr rfl) (by simp[hyx]) (by exact Nat.zero_le _) (by exact Nat.succ_pos _) (by exact if_neg ‹_›)
  ·split
   ·refine num 0 _ _ (by trivial) (by rw[e0];split<;>lia) (by rw[e1];split<;>lia) ?_;rw[e0,e1];show(some (kn.contains x),some (kn.contains y))=_;rcases Bool.eq_false_or_eq_true (kn.contains x) with h|h<;>rcases Bool.eq_false_or_eq_true (kn.contains y) with h'|h'<;>rw[h,h']<;>rfl
   ·split
    ·refine num 1 _ _ (by trivial) (by rw[e0];split<;>lia) (by rw[e1];split<;>lia) ?_;rw[e0,e1];show((if kn.contains x=true then some false else none),(if kn.contains y=true then some false else none))=_;rcases Bool.eq_false_or_eq_true (kn.contains x) with h|h<;>rcases Bool.eq_false_or_eq_true (kn.contains y) with h'|h'<;>rw[h,h']<;>rfl
    ·split
     ·exact num 2 0 0 (by trivial) (Nat.zero_le _) (Nat.zero_le _) (by rfl)
     ·exact num 10 0 0 (by trivial) (Nat.zero_le _) (Nat.zero_le _) (by rfl)
end
end Mine
namespace Mine
open PySem
section
variable{x y:Tok}{v1 v2:Nat}{sp:List Nat}{mode:Nat}
theorem ze4{b:Bool}{l:List Nat}(h:10∉l):10∉par b l:=by cases b<;>simp[par,h]
theorem zp2(b:Bool)(l:List Nat):tok (par b l)=(if b then[[40]]++tok l++[[41]] else tok l):=by
 cases b
 ·rfl
 ·exact zgR l
theorem PP.post{K:Nat}{b:Bool}{l:List Nat}{d:D}(h:PP K b (tok l) d):PN (K+5) (tok (par b l)) d:=by
 rw[zp2];cases b
 ·exact PN.mono h (Nat.le_add_right _ _)
 ·exact PX.paren h
theorem PP.of_pn{K:Nat}{b:Bool}{ts:List Tok}{d:D}(h:PN K ts d):PP K b ts d:=by
 cases b
 ·exact h
 ·exact h.px
theorem zhO{b:Nat}(h:b<=2):zc9 (jd b)=jd (b - 1):=by
 have:b=0\/b=1\/b=2:=by lia
 rcases this with rfl|rfl|rfl<;>rfl
theorem zln{a b:Nat}(ha:a<=2)(hb:b<=2):ifO (jd a) (jd b)=jd (min a b):=by
 have h1:a=0\/a=1\/a=2:=by lia
 have h2:b=0\/b=1\/b=2:=by lia
 rcases h1 with rfl|rfl|rfl<;>rcases h2 with rfl|rfl|rfl<;>rfl
theorem zoL{f:Nat×Nat->Nat×Nat}{n v l:Nat}:Option.map f (if n<=l then some (v,l - n) else none)=if n<=l then some (f (v,l - n)) else none:=by split<;>rfl
theorem zJ{a b:List Nat}(h:10∉a)(g:10∉b):10∉a++b:=fun e=>(List.mem_append.mp e).elim h g
theorem ztp{b:Nat}(h:jd b=some false):b=1:=by
 match b,h with
 |0,h=>exact nn h
 |1,_=>rfl
 |b+2,h=>exact tf (Option.some.inj h)
theorem zua{b:Nat}(h:jd b=none):b=0:=by
 match b,h with
 |0,_=>rfl
 |1,h=>exact sn h
 |b+2,h=>exact sn h
inductive NmV(x y:Tok)(b0 b1:Nat):E->Prop
 |l(h0:b0=1)(h1:b1=0):NmV x y b0 b1 (.name x)
 |r(h0:b0=0)(h1:b1=1):NmV x y b0 b1 (.name y)
theorem zkM{x y:Tok}(hxy:x≠y){kn:List Tok}{e:E}{b0 b1:Nat}(hn:e.isName=true)(hw:e.wf x y)(hb:bd x y kn e=(jd b0,jd b1)):NmV x y b0 b1 e:=by
 induction e using E.casesOn with
 |name z=>
  rw[znO] at hb;rcases hw with rfl|rfl
  ·rw[if_pos rfl] at hb;exact .l (ztp (Prod.mk.inj hb).1.symm) (zua (Prod.mk.inj hb).2.symm)
  ·rw[if_neg fun e=>hxy e.symm] at hb;exact .r (zua (Prod.mk.inj hb).1.symm) (ztp (Prod.mk.inj hb).2.symm)
 |_=>exact ff hn
theorem zt0{c:Bool}{k:Nat}(h:k=if c=true then 1 else 0):k<=1:=by
 rw[h];induction c using Bool.casesOn with
 |false=>exact Nat.zero_le _
 |true=>exact Nat.le_refl _
theorem zps{b k:Nat}(hb:b<=1)(hk:k<=1):b*(1+k)<=2:=Nat.mul_le_mul hb (Nat.add_le_add_left hk 1)
theorem zpY{c:Bool}{k:Nat}(h:k=if c=true then 1 else 0):some (false||c)=jd (1*(1+k)):=by
 rw[h];induction c using Bool.casesOn<;>rfl
theorem zs3(H:En x y v1 v2 sp mode){kn:List Tok}{k0 k1:Nat}(hk:zfz x y kn k0 k1){p:P7}(hw:p.e.wf x y)(hb:bd x y kn p.e=(jd p.b0,jd p.b1)):
  (bd x y kn (.pred p.e)=(jd (if p.e.isName then p.b0*(1+k0) else p.b0),jd (if p.e.isName then p.b1*(1+k1) else p.b1))):=by
 rw[zue,hb];by_cases hn:p.e.isName=true
 ·have h:=zkM H.xy hn hw hb;rw[if_pos hn,if_pos hn];clear hn hb hw;generalize p.e=e at h;generalize p.b0=b0 at h;generalize p.b1=b1 at h;cases h with
  |l h0 h1=>
   rw[h0,h1,Nat.zero_mul];exact congrArg (fun o=>(o,(none:Option Bool))) (zpY hk.1)
  |r h0 h1=>
   rw[h0,h1,Nat.zero_mul];exact congrArg (fun o=>((none:Option Bool),o)) (zpY hk.2)
 ·rw[if_neg hn,if_neg hn,zlW (Bool.not_eq_true _▸hn)];have e:∀o:Option Bool,o.map (·||false)=o:=fun o=>by
   induction o using Option.casesOn with
   |none=>rfl
   |some b=>exact congrArg some (Bool.or_false b)
  rw[e,e]
theorem zx5(H:En x y v1 v2 sp mode){kn:List Tok}{k0 k1:Nat}(hk:zfz x y kn k0 k1){e:E}{b0 b1:Nat}(hw:e.wf x y)(hb:bd x y kn e=(jd b0,jd b1))(h0:b0<=2)(h1:b1<=2):
  (if e.isName then b0*(1+k0) else b0)<=2/\(if e.isName then b1*(1+k1) else b1)<=2:=by
 by_cases hn:e.isName=true
 ·have h:=zkM H.xy hn hw hb;rw[if_pos hn,if_pos hn];clear hn hw hb;cases h with
  |l e0 e1=>exact⟨zps (Nat.le_of_eq e0) (zt0 hk.1),by rw[e1,Nat.zero_mul];exact Nat.zero_le _⟩
  |r e0 e1=>exact⟨by rw[e0,Nat.zero_mul];exact Nat.zero_le _,zps (Nat.le_of_eq e1) (zt0 hk.2)⟩
 ·rw[if_neg hn,if_neg hn];exact⟨h0,h1⟩
theorem ua1(L:Nat):1+2+L+2+1<=L+14:=by lia
theorem ua2(L:Nat):L+8+2+1+2+1<=L+14:=by lia
theorem ua3(L:Nat):1+L+1+4<=L+14:=by lia
theorem ua4(L:Nat):1+L+1<=L+8:=by lia
theorem ua5(L:Nat):1+2+(1+L+1)+2+1<=L+8:=by lia
theorem zxl(H:En x y v1 v2 sp mode){kn:List Tok}{L K V Dp Nc:Nat}{p:P7}(h:Gd x y v1 v2 mode kn L K V Dp Nc p):
  Gd x y v1 v2 mode kn (L+14) (K+10) (V+1) (Dp+1) Nc ⟨par p.e.isIf p.t++sp++[43]++sp++[49],par p.e.isIf p.u++[32,43,32,49],.succ p.e,p.v+1,p.n,p.b0 - 1,p.b1 - 1,p.gs⟩ where
 wf:=h.wf
 pt:=by
  show PN _ (tok (par p.e.isIf p.t++sp++[43]++sp++[49])) _;rw[zx0 H.sp _ (by decide) (by decide)];exact h.pt.post.plus.mono (by lia)
 u:=by(show par p.e.isIf p.u++_=par p.e.isIf p.e.text++_;rw[h.u])
 tl:=qA (zg (zg (zg (zg (qA (jL h.tl) (ua4 L)) H.sp.len) l1) H.sp.len) l1) (ua2 L)
 ul:=qA (zg (jL h.ul) l4) (ua3 L)
 q:=zwC H.sp (by decide) (zi8 h.q)
 nt:=zJ (zJ (zJ (zJ (ze4 h.nt) H.sp.nl) (by decide)) H.sp.nl) (by decide)
 nu:=zJ (ze4 h.nu) (by decide)
 dep:=Nat.succ_le_succ h.dep
 nc:=h.nc
 gl:=h.gl
 val:=by
  intro l;show Option.map _ (iv (zae mode) x v1 v2 p.e l)=_;rw[h.val,zoL]
 cp:=h.cp
 v:=Nat.succ_le_succ h.v
 b0:=qA (Nat.sub_le _ _) h.b0
 b1:=qA (Nat.sub_le _ _) h.b1
 bd:=by
  show bd x y kn (.succ p.e)=_;rw[zt4,h.bd];show(zc9 (jd p.b0),zc9 (jd p.b1))=_;rw[zhO h.b0,zhO h.b1]
 cl:=h.cl
 gg:=h.gg
theorem ztW(H:En x y v1 v2 sp mode){kn:List Tok}{k0 k1:Nat}(hk:zfz x y kn k0 k1){L K V Dp Nc:Nat}{p:P7}(h:Gd x y v1 v2 mode kn L K V Dp Nc p){t:Tok}(ht:PN (K+10) (tok t++[[45],[49]]) (E.pred p.e).d)(hl:t.length<=L+8)(hq:qd t)(hn:10∉t):
  Gd x y v1 v2 mode kn (L+14) (K+10) (V+1) (Dp+1) Nc ⟨t++sp++[45]++sp++[49],par p.e.isIf p.u++[32,45,32,49],.pred p.e,p.v - 1,p.n,
   if p.e.isName then p.b0*(1+k0) else p.b0,if p.e.isName then p.b1*(1+k1) else p.b1,p.gs⟩ where
 wf:=h.wf
 pt:=by
  show PN _ (tok (t++sp++[45]++sp++[49])) _;rw[zx0 H.sp _ (by decide) (by decide)];exact ht
 u:=by(show par p.e.isIf p.u++_=par p.e.isIf p.e.text++_;rw[h.u])
 tl:=qA (zg (zg (zg (zg hl H.sp.len) l1) H.sp.len) l1) (ua2 L)
 ul:=qA (zg (jL h.ul) l4) (ua3 L)
 q:=zwC H.sp (by decide) hq
 nt:=zJ (zJ (zJ (zJ hn H.sp.nl) (by decide)) H.sp.nl) (by decide)
 nu:=zJ (ze4 h.nu) (by decide)
 dep:=Nat.succ_le_succ h.dep
 nc:=h.nc
 gl:=h.gl
 val:=by
  intro l;show Option.map _ (iv (zae mode) x v1 v2 p.e l)=_;rw[h.val,zoL]
 cp:=h.cp
 v:=qA (Nat.sub_le _ _) (Nat.le_succ_of_le h.v)
 b0:=(zx5 H hk h.wf h.bd h.b0 h.b1).1
 b1:=(zx5 H hk h.wf h.bd h.b0 h.b1).2
 bd:=zs3 H hk h.wf h.bd
 cl:=h.cl
 gg:=h.gg
theorem znB(H:En x y v1 v2 sp mode){kn:List Tok}{k0 k1:Nat}(hk:zfz x y kn k0 k1)(k:Int){L K V Dp Nc:Nat}{p:P7}(h:Gd x y v1 v2 mode kn L K V Dp Nc p):
  Gd x y v1 v2 mode kn (L+14) (K+10) (V+1) (Dp+1) Nc (unC sp k0 k1 k p):=by
 unfold unC;split
 ·exact h.mono (Nat.le_add_right _ _) (Nat.le_add_right _ _) (Nat.le_succ _) (Nat.le_succ _) (Nat.le_refl _)
 ·split
  ·exact {h with
    pt:=by
     show PP _ _ (tok ([40]++sp++p.t++sp++[41])) _;rw[zto H.sp];exact(PP.of_pn h.pt.px.paren).mono (by lia)
    tl:=qA (zg (zg (zg (zg l1 H.sp.len) h.tl) H.sp.len) l1) (ua1 L)
    ul:=qA h.ul (Nat.le_add_right _ _)
    q:=zpA H.sp h.q
    nt:=zJ (zJ (zJ (zJ (by decide) H.sp.nl) h.nt) H.sp.nl) (by decide)
    dep:=Nat.le_succ_of_le h.dep
    v:=Nat.le_succ_of_le h.v}
  ·split
   ·exact zxl H h
   ·split
    ·exact ztW H hk h (by rw[zto H.sp];exact h.pt.post.px.paren.minus) (qA (zg (zg (zg (zg l1 H.sp.len) (jL h.tl)) H.sp.len) l1) (ua5 L)) (zpA H.sp (zi8 h.q)) (zJ (zJ (zJ (zJ (by decide) H.sp.nl) (ze4 h.nt)) H.sp.nl) (by decide))
    ·exact ztW H hk h (h.pt.post.minus.mono (by lia)) (qA (jL h.tl) (ua4 L)) (zi8 h.q) (ze4 h.nt)
noncomputable def zkP(x y:Tok)(k:Int)(kn:List Tok):List Tok:=if k=0 then kn++[x] else if k=1 then kn++[y] else kn
theorem zkV(H:En x y v1 v2 sp mode){kn:List Tok}{k0 k1:Nat}(hk:zfz x y kn k0 k1)(k:Int):zfz x y (zkP x y k kn) (zac k k0 k1).1 (zac k k0 k1).2:=by
 have hyx:¬(y=x):=fun e=>H.xy e.symm;obtain⟨e0,e1⟩:=hk;unfold zkP zac;split
 ·refine⟨by simp,?_⟩;show k1=_;rw[e1];simp[hyx]
 ·split
  ·refine⟨?_,by simp⟩;show k0=_;rw[e0];simp[H.xy]
  ·exact⟨e0,e1⟩
theorem zrF(mode a b:Nat):zbb mode a b<=a+b:=by
 unfold zbb;split;exact Nat.le_refl _;split
 ·exact qA (Nat.sub_le _ _) (Nat.le_add_left _ _)
 ·exact qA (Nat.sub_le _ _) (qA (Nat.sub_le _ _) (Nat.le_add_right _ _))
theorem zeO{a b m:Nat}(h:a<=m)(k:b<=m):a+b<=2*m:=by rw[Nat.two_mul];exact Nat.add_le_add h k
theorem zxv{a b m:Nat}(h:a<=m)(k:b<=m):max a b+1<=m+1:=Nat.succ_le_succ (Nat.max_le.mpr ⟨h,k⟩)
theorem le3{a b c l:Nat}(h1:a<=l)(h2:b<=l - a)(h3:c<=l - a - b):a+b+c<=l:=by
 rw[Nat.sub_sub] at h3;exact Nat.add_comm c _▸Nat.add_le_of_le_sub (Nat.add_comm b a▸Nat.add_le_of_le_sub h1 h2) h3
theorem zyV{a b c l:Nat}(h:¬a<=l):¬a+b+c<=l:=fun q=>h (qA (Nat.le_add_right a (b+c)) (Nat.add_assoc a b c▸q))
theorem zyY{a b c l:Nat}(h:¬b<=l - a):¬a+b+c<=l:=fun q=>h (Nat.le_sub_of_add_le (Nat.add_comm a b▸qA (Nat.le_add_right (a+b) c) q))
theorem zyT{a b c l:Nat}(h:¬c<=l - a - b):¬a+b+c<=l:=fun q=>h (by rw[Nat.sub_sub];exact Nat.le_sub_of_add_le (Nat.add_comm (a+b) c▸q))
theorem ja1(L:Nat):3+2+3+6+2+L+2+6+L<=2*L+24:=by lia
theorem ja2(L:Nat):3+3+6+L+6+L<=2*L+24:=by lia
theorem ja3(L:Nat):1+2+1+2+L+2+1+2+L+1<=2*L+24:=by lia
theorem ja4(L:Nat):2+L+2+L+1<=2*L+24:=by lia
theorem zi9{a b:List D}(h:∀g∈a,∃o o',g=gD tF tG o o')(k:∀g∈b,∃o o',g=gD tF tG o o'):∀g∈a++b,∃o o',g=gD tF tG o o':=
 fun g hg=>(List.mem_append.mp hg).elim (h g) (k g)
theorem zxi{m0 a b c d l:Nat}:(if m0=0 then(if c<=l then some (a,l - c) else none) else if d<=l then some (b,l - d) else none)=if(if m0=0 then c else d)<=l then some (if m0=0 then a else b,l - if m0=0 then c else d) else none:=by
 induction m0 using Nat.casesOn<;>rfl
theorem zyO{w a b m:Nat}(h:a<=m)(k:b<=m):(if w=0 then a else b)<=m:=by
 induction w using Nat.casesOn with
 |zero=>exact h
 |succ=>exact k
theorem zkr(H:En x y v1 v2 sp mode){kn:List Tok}{L K V Dp Nc:Nat}{p q:P7}{z:Tok}{w:Nat}(hz:z=x\/z=y)(hw:(if z=x then v1 else v2)=w)(ho:zV z)(hl:z.length<=3)(hp:Gd x y v1 v2 mode kn L K V Dp Nc p)(hq:Gd x y v1 v2 mode (kn++[z]) L K V Dp Nc q):
  Gd x y v1 v2 mode kn (2*L+24) (K+5) (2*V) (Dp+1) (2*Nc+1) ⟨[105,102,32]++sp++z++[32,116,104,101,110,32]++sp++p.t++sp++[32,101,108,115,101,32]++q.t,
   [105,102,32]++z++[32,116,104,101,110,32]++p.u++[32,101,108,115,101,32]++q.u,.iff z p.e q.e,if w=0 then p.v else q.v,if w=0 then p.n else q.n,min p.b0 q.b0,min p.b1 q.b1,p.gs++q.gs⟩ where
 wf:=⟨hz,hp.wf,hq.wf⟩
 pt:=by
  show PX _ (tok ([105,102,32]++sp++z++[32,116,104,101,110,32]++sp++p.t++sp++[32,101,108,115,101,32]++q.t)) _;rw[zyL H.sp ho];exact(zoz ho.nb hp.pt.px hq.pt.px).mono (by lia)
 u:=by
  show[105,102,32]++z++[32,116,104,101,110,32]++p.u++[32,101,108,115,101,32]++q.u=_;rw[hp.u,hq.u];rfl
 tl:=qA (zg (zg (zg (zg (zg (zg (zg (zg l3 H.sp.len) hl) l6) H.sp.len) hp.tl) H.sp.len) l6) hq.tl) (ja1 L)
 ul:=qA (zg (zg (zg (zg (zg l3 hl) l6) hp.ul) l6) hq.ul) (ja2 L)
 q:=zy4 H.sp ho hp.q hq.q
 nt:=zJ (zJ (zJ (zJ (zJ (zJ (zJ (zJ (by decide) H.sp.nl) ho.nl) (by decide)) H.sp.nl) hp.nt) H.sp.nl) (by decide)) hq.nt
 nu:=zJ (zJ (zJ (zJ (zJ (by decide) ho.nl) (by decide)) hp.nu) (by decide)) hq.nu
 dep:=zxv hp.dep hq.dep
 nc:=Nat.le_succ_of_le (zeO hp.nc hq.nc)
 gl:=Nat.le_succ_of_le (qA (Nat.le_of_eq List.length_append) (zeO hp.gl hq.gl))
 val:=by
  intro l;show(if(if z=x then v1 else v2)=0 then iv (zae mode) x v1 v2 p.e l else iv (zae mode) x v1 v2 q.e l)=_;rw[hw,hp.val,hq.val];exact zxi
 cp:=by
  show(if(if z=x then v1 else v2)=0 then E.cp (zae mode) x v1 v2 _ p.e else E.cp (zae mode) x v1 v2 _ q.e);rw[hw];induction w using Nat.casesOn with
  |zero=>exact hp.cp
  |succ=>exact hq.cp
 v:=zyO (qA hp.v (Nat.le_mul_of_pos_left _ (by decide))) (qA hq.v (Nat.le_mul_of_pos_left _ (by decide)))
 b0:=qA (Nat.min_le_left _ _) hp.b0
 b1:=qA (Nat.min_le_left _ _) hp.b1
 bd:=by
  show bd x y kn (.iff z p.e q.e)=_;rw[ztu,hp.bd,hq.bd];show(ifO (jd p.b0) (jd q.b0),ifO (jd p.b1) (jd q.b1))=_;rw[zln hp.b0 hq.b0,zln hp.b1 hq.b1]
 cl:=by
  intro out;show cl tF x y q.e (kn++[z]) (cl tF x y p.e kn out)=_;rw[hp.cl,hq.cl];exact List.foldl_append.symm
 gg:=zi9 hp.gg hq.gg
theorem zyc{mode a b n1 n2 l:Nat}{f:Nat->Res}(hf:∀l,f l=if n2<=l then some (b,l - n2) else none):((if n1<=l then some (a,l - n1) else none:Res).bind fun r=>(f r.2).bind fun s=>zae mode r.1 s.1 s.2)=if n1+n2+jf mode a b<=l then some (zbb mode a b,l - (n1+n2+jf mode a b)) else none:=by
 by_cases c1:n1<=l
 ·rw[if_pos c1];show(f (l - n1)).bind _=_;rw[hf];by_cases c2:n2<=l - n1
  ·rw[if_pos c2];show zae mode a b (l - n1 - n2)=_;unfold zae;by_cases c3:jf mode a b<=l - n1 - n2
   ·rw[if_pos c3,if_pos (le3 c1 c2 c3),Nat.sub_sub,Nat.sub_sub,Nat.add_assoc]
   ·rw[if_neg c3,if_neg (zyT c3)]
  ·rw[if_neg c2,if_neg (zyY c2)];rfl
 ·rw[if_neg c1,if_neg (zyV c1)];rfl
theorem ztB{a n va l l1:Nat}(h:(if n<=l then some (a,l - n) else none:Res)=some (va,l1)):a=va:=by
 split at h
 ·exact(Prod.mk.inj (Option.some.inj h)).1
 ·exact nn h
theorem zkD(H:En x y v1 v2 sp mode){kn:List Tok}{L K V Dp Nc:Nat}{p q:P7}(hp:Gd x y v1 v2 mode kn L K V Dp Nc p)(hq:Gd x y v1 v2 mode kn L K V Dp Nc q)(hV:V<=30):
  Gd x y v1 v2 mode kn (2*L+24) (K+5) (2*V) (Dp+1) (2*Nc+1) ⟨tG++sp++[40]++sp++p.t++sp++[44]++sp++q.t++[41],[103,40]++p.u++[44,32]++q.u++[41],.call p.e q.e,zbb mode p.v q.v,p.n+q.n+jf mode p.v q.v,0,0,
   p.gs++q.gs++[gD tF tG (jd p.b0,jd p.b1) (jd q.b0,jd q.b1)]⟩ where
 wf:=⟨hp.wf,hq.wf⟩
 pt:=by
  show PN _ (tok (tG++sp++[40]++sp++p.t++sp++[44]++sp++q.t++[41])) _;rw[zv7 H.sp];exact zlp hp.pt.px hq.pt.px
 u:=by
  show[103,40]++p.u++[44,32]++q.u++[41]=_;rw[hp.u,hq.u];rfl
 tl:=qA (zg (zg (zg (zg (zg (zg (zg (zg (zg l1 H.sp.len) l1) H.sp.len) hp.tl) H.sp.len) l1) H.sp.len) hq.tl) l1) (ja3 L)
 ul:=qA (zg (zg (zg (zg l2 hp.ul) l2) hq.ul) l1) (ja4 L)
 q:=zuV H.sp hp.q hq.q
 nt:=zJ (zJ (zJ (zJ (zJ (zJ (zJ (zJ (zJ (by decide) H.sp.nl) (by decide)) H.sp.nl) hp.nt) H.sp.nl) (by decide)) H.sp.nl) hq.nt) (by decide)
 nu:=zJ (zJ (zJ (zJ (by decide) hp.nu) (by decide)) hq.nu) (by decide)
 dep:=zxv hp.dep hq.dep
 nc:=Nat.succ_le_succ (zeO hp.nc hq.nc)
 gl:=qA (Nat.le_of_eq List.length_append) (Nat.succ_le_succ (qA (Nat.le_of_eq List.length_append) (zeO hp.gl hq.gl)))
 val:=by
  intro l;show(iv (zae mode) x v1 v2 p.e l).bind (fun r=>(iv (zae mode) x v1 v2 q.e r.2).bind fun s=>zae mode r.1 s.1 s.2)=_;rw[hp.val];exact zyc hq.val
 cp:=⟨hp.cp,hq.cp,fun l va l1 vb l2 e1 e2=>⟨ztB ((hp.val l).symm.trans e1)▸qA hp.v hV,ztB ((hq.val l1).symm.trans e2)▸qA hq.v hV⟩⟩
 v:=qA (zrF mode p.v q.v) (zeO hp.v hq.v)
 b0:=Nat.zero_le _
 b1:=Nat.zero_le _
 bd:=rfl
 cl:=by
  intro out;show j9 (cl tF x y q.e kn (cl tF x y p.e kn out)) (gD tF tG (bd x y kn p.e) (bd x y kn q.e))=_;rw[hp.cl,hq.cl,hp.bd,hq.bd,List.foldl_append,List.foldl_append];rfl
 gg:=zi9 (zi9 hp.gg hq.gg) fun g hg=>⟨_,_,List.mem_singleton.mp hg⟩
theorem zlk(H:En x y v1 v2 sp mode){kn:List Tok}(k:Int)(hk:0<=k){L K V Dp Nc:Nat}{p q:P7}(hp:Gd x y v1 v2 mode kn L K V Dp Nc p)(hq:Gd x y v1 v2 mode (zkP x y k kn) L K V Dp Nc q)(hV:V<=30):
  Gd x y v1 v2 mode kn (2*L+24) (K+5) (2*V) (Dp+1) (2*Nc+1) (zfo x y v1 v2 sp mode k p q):=by
 obtain⟨k,rfl⟩:=Int.eq_ofNat_of_zero_le hk
 match k,hq with
 |0,hq=>exact zkr H (Or.inl rfl) (if_pos rfl) H.hx H.lx hp hq
 |1,hq=>exact zkr H (Or.inr rfl) (if_neg fun e=>H.xy e.symm) H.hy H.ly hp hq
 |2,hq=>exact zkD H hp hq hV
 |3,hq=>exact zkD H hp hq hV
 |k+4,_=>
  have e:zfo x y v1 v2 sp mode ((k+4:Nat):Int) p q=p:=by
   clear hk hp hV H;unfold zfo;rw[if_neg (by lia),if_neg (by lia)]
  rw[e];exact hp.mono (qA (Nat.le_mul_of_pos_left _ (by decide)) (Nat.le_add_right _ _)) (Nat.le_add_right _ _) (Nat.le_mul_of_pos_left _ (by decide)) (Nat.le_succ _) (Nat.le_succ_of_le (Nat.le_mul_of_pos_left _ (by decide)))
end
end Mine
namespace Mine
open PySem
noncomputable def Ref{α:Type}(x y:R α):Prop:=x=.stuck\/y=x
theorem Ref.refl{α:Type}(x:R α):Ref x x:=Or.inr rfl
theorem Ref.bind{α β:Type}{x y:R α}{f g:α->R β}(h:Ref x y)(hf:∀a,Ref (f a) (g a)):Ref (R.bind x f) (R.bind y g):=by
 rcases h with rfl|rfl
 ·exact Or.inl rfl
 ·induction y using R.casesOn with
  |ok a=>exact hf a
  |ve=>exact Or.inr rfl
  |stuck=>exact Or.inl rfl
theorem Ref.ite{α:Type}{c:Prop}[Decidable c]{x y x' y':R α}(h:Ref x x')(h':Ref y y'):Ref (if c then x else y) (if c then x' else y'):=by split<;>assumption
theorem Ref.noVe{α:Type}{x y:R α}(h:Ref x y):Ref (noVe x) (Mine.noVe y):=by
 rcases h with rfl|rfl
 ·exact Or.inl rfl
 ·exact Or.inr rfl
theorem zb5{t t':ze->D->R (List D×ze)}(h:∀σ d,Ref (t σ d) (t' σ d)):∀(ds:List D) (σ:ze),Ref (jU t σ ds) (jU t' σ ds)
 |[],_=>Ref.refl _
 |d::ds,σ=>(h σ d).bind fun r=>(zb5 h ds r.2).bind fun _=>Ref.refl _
section
variable{GG:List D}{cf cf' cio cio':Nat->List D->R D}
mutual
theorem zw(h:∀f as,Ref (cf f as) (cf' f as)):∀(e:PE) (ρ:ze),Ref (ev GG cf e ρ) (ev GG cf' e ρ)
 |.lit _,_=>Ref.refl _
 |.var _,_=>Ref.refl _
 |.glob _,_=>Ref.refl _
 |.un _ a,ρ=>(zw h a ρ).bind fun _=>Ref.refl _
 |.bin _ a b,ρ=>(zw h a ρ).bind fun _=>(zw h b ρ).bind fun _=>Ref.refl _
 |.tri _ a b c,ρ=>(zw h a ρ).bind fun _=>(zw h b ρ).bind fun _=>(zw h c ρ).bind fun _=>Ref.refl _
 |.m1 _ a b,ρ=>(zw h a ρ).bind fun _=>Ref.ite ((zw h b ρ).bind fun _=>Ref.refl _) (Ref.refl _)
 |.m2 _ a b c,ρ=>(zw h a ρ).bind fun _=>Ref.ite ((zw h b ρ).bind fun _=>(zw h c ρ).bind fun _=>Ref.refl _) (Ref.refl _)
 |.and_ a b,ρ=>(zw h a ρ).bind fun _=>(Ref.refl _).bind fun _=>Ref.ite ((zw h b ρ).bind fun _=>Ref.refl _) (Ref.refl _)
 |.or_ a b,ρ=>(zw h a ρ).bind fun _=>(Ref.refl _).bind fun _=>Ref.ite (Ref.refl _) ((zw h b ρ).bind fun _=>Ref.refl _)
 |.ite c a b,ρ=>(zw h c ρ).bind fun _=>(Ref.refl _).bind fun _=>Ref.ite (zw h a ρ) (zw h b ρ)
 |.tup es,ρ=>(za4 h es ρ).bind fun _=>Ref.refl _
 |.list es,ρ=>(za4 h es ρ).bind fun _=>Ref.refl _
 |.call f es,ρ=>(za4 h es ρ).bind fun ds=>h f ds
 |.comp _ _ it t g,ρ=>Ref.noVe ((zw h it ρ).bind fun _=>(Ref.refl _).bind fun xs=>(zb5 (fun σ d=>(Ref.refl _).bind fun σ'=>zhj h g σ') xs _).bind fun _=>Ref.refl _)
theorem za4(h:∀f as,Ref (cf f as) (cf' f as)):∀(es:PEs) (ρ:ze),Ref (evs GG cf es ρ) (evs GG cf' es ρ)
 |.nil,_=>Ref.refl _
 |.cons a r,ρ=>(zw h a ρ).bind fun _=>(za4 h r ρ).bind fun _=>Ref.refl _
theorem zhj(h:∀f as,Ref (cf f as) (cf' f as)):∀(g:PG) (σ:ze),Ref (evG GG cf g σ) (evG GG cf' g σ)
 |.elt c e,σ=>(zw h c σ).bind fun _=>(Ref.refl _).bind fun _=>Ref.ite ((zw h e σ).bind fun _=>Ref.refl _) (Ref.refl _)
 |.more c _ it t g,σ=>(zw h c σ).bind fun _=>(Ref.refl _).bind fun _=>Ref.ite ((zw h it σ).bind fun _=>(Ref.refl _).bind fun ys=>zb5 (fun τ d=>(Ref.refl _).bind fun τ'=>zhj h g τ') ys σ) (Ref.refl _)
end
theorem zcK{t t':ze->R Bool}{b b':ze->R (Fl×ze)}(ht:∀ρ,Ref (t ρ) (t' ρ))(hb:∀ρ,Ref (b ρ) (b' ρ)):∀(n:Nat) (ρ:ze),Ref (zbF t b n ρ) (zbF t' b' n ρ)
 |0,_=>Ref.refl _
 |n+1,ρ=>(ht ρ).bind fun _=>Ref.ite ((hb ρ).bind fun r=>by
   obtain⟨f,σ⟩:=r;cases f
   ·exact zcK ht hb n σ
   ·exact Ref.refl _
   ·exact zcK ht hb n σ
   ·exact Ref.refl _) (Ref.refl _)
theorem zcN{bd:ze->D->R ze}{b b':ze->R (Fl×ze)}(hb:∀ρ,Ref (b ρ) (b' ρ)):∀(ds:List D) (ρ:ze),Ref (zab bd b ds ρ) (zab bd b' ds ρ)
 |[],_=>Ref.refl _
 |d::ds,ρ=>(Ref.refl _).bind fun ρ'=>(hb ρ').bind fun r=>by
   obtain⟨f,σ⟩:=r;cases f
   ·exact zcN hb ds σ
   ·exact Ref.refl _
   ·exact zcN hb ds σ
   ·exact Ref.refl _
theorem ki{wf:Nat}(h:∀f as,Ref (cf f as) (cf' f as))(hi:∀f as,Ref (cio f as) (cio' f as)):∀(s:PS) (ρ:ze),Ref (exec GG cf cio wf s ρ) (exec GG cf' cio' wf s ρ)
 |.skip,_=>Ref.refl _
 |.seq a b,ρ=>(ki h hi a ρ).bind fun r=>by
   obtain⟨f,σ⟩:=r;cases f
   ·exact ki h hi b σ
   ·exact Ref.refl _
   ·exact Ref.refl _
   ·exact Ref.refl _
 |.assign _ e,ρ=>(zw h e ρ).bind fun _=>Ref.refl _
 |.newl _ es,ρ=>(za4 h es ρ).bind fun _=>Ref.refl _
 |.newd _,_=>Ref.refl _
 |.app _ e,ρ=>Ref.ite ((zw h e ρ).bind fun _=>Ref.refl _) (Ref.refl _)
 |.put _ k v,ρ=>(zw h v ρ).bind fun _=>(zw h k ρ).bind fun _=>Ref.refl _
 |.ifs c a b,ρ=>(zw h c ρ).bind fun _=>(Ref.refl _).bind fun _=>Ref.ite (ki h hi a ρ) (ki h hi b ρ)
 |.whil c b,ρ=>zcK (fun σ=>(zw h c σ).bind fun _=>Ref.refl _) (fun σ=>ki h hi b σ) wf ρ
 |.forr _ _ e b,ρ=>(zw h e ρ).bind fun _=>(Ref.refl _).bind fun xs=>zcN (fun σ=>ki h hi b σ) xs ρ
 |.ret e,ρ=>(zw h e ρ).bind fun _=>Ref.refl _
 |.raise,_=>Ref.refl _
 |.brk,_=>Ref.refl _
 |.cont,_=>Ref.refl _
 |.exp e,ρ=>(zw h e ρ).bind fun _=>Ref.refl _
 |.io f es _,ρ=>(za4 h es ρ).bind fun ds=>(Ref.noVe (hi f _)).bind fun _=>Ref.refl _
 |.tryv b x l,ρ=>(ki (wf:=wf) h hi b ρ).elim (fun e=>.inl (by rw[zfd,e])) (fun e=>.inr (by rw[zfd,zfd,e]))
end
theorem zcI(GG:List D)(TT:List zL)(wf:Nat):∀(n f:Nat) (as:List D),Ref (zb3 GG TT wf n f as) (zb3 GG TT wf (n+1) f as)
 |0,_,_=>Or.inl rfl
 |n+1,f,as=>by
  show Ref (match TT[f]? with|none=>_|some fd=>_) (match TT[f]? with|none=>_|some fd=>_);cases TT[f]? with
  |none=>exact Ref.refl _
  |some fd=>
   refine Ref.ite ((ki ?_ ?_ fd.body _).bind fun _=>Ref.refl _) (Ref.refl _)
   ·intro g as;exact Ref.ite (Ref.refl _) ((zcI GG TT wf n g as).bind fun _=>Ref.refl _)
   ·intro g as;exact Ref.ite ((zcI GG TT wf n g as).bind fun _=>Ref.refl _) (Ref.refl _)
theorem zee(GG:List D)(TT:List zL)(wf n f:Nat)(as:List D):Ref (zd GG TT wf n f as) (zd GG TT wf (n+1) f as):=
 Ref.ite (Ref.refl _) ((zcI GG TT wf n f as).bind fun _=>Ref.refl _)
theorem j5{GG:List D}{TT:List zL}{wf n m f:Nat}{as:List D}{d:D}(h:zd GG TT wf n f as=.ok d)(hm:n<=m):zd GG TT wf m f as=.ok d:=by
 induction hm with
 |refl=>exact h
 |step _ ih=>
  rcases zee GG TT wf _ f as with e|e
  ·rw[ih] at e;exact os e
  ·rw[e,ih]
theorem zj4{GG:List D}{TT:List zL}{wf n m f:Nat}{as:List D}(h:zd GG TT wf n f as=.ve)(hm:n<=m):zd GG TT wf m f as=.ve:=by
 induction hm with
 |refl=>exact h
 |step _ ih=>
  rcases zee GG TT wf _ f as with e|e
  ·rw[ih] at e;exact vs' e
  ·rw[e,ih]
end Mine
namespace Mine
open PySem
noncomputable abbrev Mx:=OB×OB
noncomputable abbrev tH:Tok:=[104]
noncomputable def obs:List OB:=[(none,none),(none,some false),(none,some true),(some false,none),(some false,some false),(some false,some true),(some true,none),(some true,some false),(some true,some true)]
theorem zkd(o:OB):o∈obs:=by
 rcases o with⟨_|_|_,_|_|_⟩<;>trivial
noncomputable def mxs:List Mx:=obs.flatMap fun o=>obs.map fun o'=>(o,o')
theorem zgM(A:Mx):A∈mxs:=by
 obtain⟨o,o'⟩:=A;simp only[mxs,List.mem_flatMap,List.mem_map];exact⟨o,zkd o,o',zkd o',rfl⟩
noncomputable def ziH:Option Bool->Option Bool->Option Bool
 |some s,some t=>some (s||t)
 |_,_=>none
noncomputable def zlm:Option Bool->Option Bool->Option Bool
 |some s,some t=>some (s||t)
 |some s,none=>some s
 |none,t=>t
noncomputable def zay(A B:Mx):Mx:=
 ((zlm (ziH A.1.1 B.1.1) (ziH A.2.1 B.1.2),zlm (ziH A.1.2 B.1.1) (ziH A.2.2 B.1.2)),
  (zlm (ziH A.1.1 B.2.1) (ziH A.2.1 B.2.2),zlm (ziH A.1.2 B.2.1) (ziH A.2.2 B.2.2)))
noncomputable def grD(f g:Tok)(A:Mx):D:=gD f g A.1 A.2
noncomputable def ggM(mode:Nat):Mx:=if mode % 2=0 then((some (decide (mode<=1)),none),(none,some false)) else((none,some false),(some (decide (mode<=1)),none))
noncomputable def hhM(hk:Nat):Mx:=((some (decide (hk=0)),none),(none,none))
noncomputable def zef:List Nat:=[0,1,2,3]
noncomputable def al(mode:Nat):List (Mx×Nat):=
 if mode=1 then[(ggM 1,1),(zay (ggM 1) (ggM 1),2),(zay (zay (ggM 1) (ggM 1)) (ggM 1),3)]
 else if mode=3 then[(ggM 3,1),(zay (ggM 3) (ggM 3),2)] else[(ggM mode,1)]
noncomputable def cFb(m:Nat):Bool:=mxs.all fun A=>zdC (zd G T 2000 2 12 [grD tF tG A,grD tG tG (ggM m)]) (grD tF tG (zay A (ggM m)))
theorem cF0:cFb 0=true:=by decide +kernel
theorem cF1:cFb 1=true:=by decide +kernel
theorem cF2:cFb 2=true:=by decide +kernel
theorem cF3:cFb 3=true:=by decide +kernel
theorem zad{m:Nat}(h:m<4):m=0\/m=1\/m=2\/m=3:=by lia
theorem zwl{m n:Nat}(hm:m<4)(hn:2<=n)(A:Mx):zd G T 2000 n 12 [grD tF tG A,grD tG tG (ggM m)]=.ok (grD tF tG (zay A (ggM m))):=by
 have h:cFb m=true:=by rcases zad hm with rfl|rfl|rfl|rfl;exact cF0;exact cF1;exact cF2;exact cF3
 exact j5 (j7 (List.all_eq_true.mp h A (zgM A))) hn
theorem zvf:(zef.all fun m=>(al m).all fun p=>zdC (zd G T 2000 2 12 [grD tG tG p.1,grD tG tG (ggM m)]) (grD tG tG (zay p.1 (ggM m))))=true:=by decide +kernel
theorem znw{m n:Nat}(hm:m<4)(hn:2<=n){p:Mx×Nat}(hp:p∈al m):zd G T 2000 n 12 [grD tG tG p.1,grD tG tG (ggM m)]=.ok (grD tG tG (zay p.1 (ggM m))):=by
 have h:=List.all_eq_true.mp zvf m (by rcases zad hm with rfl|rfl|rfl|rfl<;>trivial);exact j5 (j7 (List.all_eq_true.mp h p hp)) hn
theorem zvU:([0,1].all fun h=>zdC (zd G T 2000 2 12 [grD tH tH (hhM h),grD tH tH (hhM h)]) (grD tH tH (hhM h)))=true:=by decide +kernel
theorem znE{h n:Nat}(hh:h<2)(hn:2<=n):zd G T 2000 n 12 [grD tH tH (hhM h),grD tH tH (hhM h)]=.ok (grD tH tH (hhM h)):=by
 have:=List.all_eq_true.mp zvU h (by have:h=0\/h=1:=(by lia);rcases this with rfl|rfl<;>trivial);exact j5 (j7 this) hn
theorem an{a b:Bool}(h:a=true)(k:b=true):(a&&b)=true:=by rw[h,k];rfl
theorem zh6(l:List D):(∀d∈l,PyData.eqv d d=true)->PyData.eqvAll l l=true:=by
 induction l with
 |nil=>intro _;rfl
 |cons d l ih=>exact fun h=>an (h d List.mem_cons_self) (ih fun e he=>h e (List.mem_cons_of_mem _ he))
noncomputable def ed(i j:Int)(c:Bool):D:=.tuple [.int i,.int j,.bool c]
theorem zqV(i j:Int)(c:Bool):PyData.eqv (ed i j c) (ed i j c)=true:=an (beq_self_eq_true i) (an (beq_self_eq_true j) (an (beq_self_eq_true c) rfl))
noncomputable def zgh(d:D):Prop:=∃i j c,d=ed i j c
theorem zeB(i j:Int)(o:Option Bool):∀d∈oe i j o,zgh d:=by
 intro d hd;induction o using Option.casesOn with
 |none=>exact absurd hd List.not_mem_nil
 |some b=>exact⟨i,j,b,List.mem_singleton.mp hd⟩
theorem zbd(o o':OB):∀d∈zaU o o',zgh d:=by
 intro d hd;simp only[zaU,List.mem_append] at hd;rcases hd with((hd|hd)|hd)|hd
 ·exact zeB _ _ _ d hd
 ·exact zeB _ _ _ d hd
 ·exact zeB _ _ _ d hd
 ·exact zeB _ _ _ d hd
theorem zny(o o':OB):∀d∈zaU o o',PyData.eqv d d=true:=by
 intro d hd;obtain⟨i,j,c,rfl⟩:=zbd o o' d hd;exact zqV i j c
theorem zgs(f g:Tok)(A:Mx):PyData.eqv (grD f g A) (grD f g A)=true:=
 an (beq_self_eq_true (S f)) (an (beq_self_eq_true (S g)) (an (zh6 _ (zny _ _)) rfl))
noncomputable def lk(i j:Int):List D->Option Bool
 |.tuple [.int a,.int b,.bool c]::r=>if a=i/\b=j then some c else lk i j r
 |_=>none
theorem zn9{a b:D}(ha:zgh a)(hb:zgh b)(h:PyData.eqv a b=true):a=b:=by
 obtain⟨i,j,c,rfl⟩:=ha;obtain⟨i',j',c',rfl⟩:=hb;rw[eq_of_beq (an1 h),eq_of_beq (an1 (an2 h)),eq_of_beq (an1 (an2 (an2 h)))]
theorem zh2{a:List D}:∀{b:List D},(∀d∈a,zgh d)->(∀d∈b,zgh d)->PyData.eqvAll a b=true->a=b:=by
 induction a with
 |nil=>intro b _ _ h;induction b using List.casesOn with
  |nil=>rfl
  |cons=>exact ff h
 |cons x a ih=>intro b ha hb h;induction b using List.casesOn with
  |nil=>exact ff h
  |cons y b=>rw[zn9 (ha x List.mem_cons_self) (hb y List.mem_cons_self) (an1 h),ih (fun d hd=>ha d (List.mem_cons_of_mem _ hd)) (fun d hd=>hb d (List.mem_cons_of_mem _ hd)) (an2 h)]
theorem zoq(o o':OB):lk 0 0 (zaU o o')=o.1/\lk 1 0 (zaU o o')=o.2/\lk 0 1 (zaU o o')=o'.1/\lk 1 1 (zaU o o')=o'.2:=by
 rcases o with⟨_|c,_|d⟩<;>rcases o' with⟨_|a,_|b⟩<;>exact⟨rfl,rfl,rfl,rfl⟩
theorem zs5{o o' q q':OB}(h:zaU o o'=zaU q q'):(o,o')=(q,q'):=by
 have h1:=zoq o o';have h2:=zoq q q';rw[h] at h1;obtain⟨a,b,c,d⟩:=h1;obtain⟨a',b',c',d'⟩:=h2;rcases o with⟨o1,o2⟩
 rcases o' with⟨o3,o4⟩
 rcases q with⟨q1,q2⟩
 rcases q' with⟨q3,q4⟩
 simp only at *;rw[←a,←b,←c,←d,a',b',c',d']
theorem kM{f g f' g':Tok}{A B:Mx}(h:PyData.eqv (grD f g A) (grD f' g' B)=true):f=f'/\g=g'/\A=B:=by
 have h:((S f==S f')&&((S g==S g')&&(PyData.eqvAll (zaU A.1 A.2) (zaU B.1 B.2)&&true)))=true:=h;exact⟨(zcy _ _).mp (eq_of_beq (an1 h)),(zcy _ _).mp (eq_of_beq (an1 (an2 h))),zs5 (zh2 (zbd _ _) (zbd _ _) (an1 (an2 (an2 h))))⟩
end Mine
namespace Mine
open PySem
inductive Nd where
 |F(A:Mx)
 |X(A:Mx)
 |H
noncomputable def Nd.dd(hk:Nat):Nd->D
 |.F A=>grD tF tG A
 |.X A=>grD tG tG A
 |.H=>grD tH tH (hhM hk)
noncomputable def Nd.src:Nd->Tok
 |.F _=>tF
 |.X _=>tG
 |.H=>tH
noncomputable def Nd.tgt:Nd->Tok
 |.F _=>tG
 |.X _=>tG
 |.H=>tH
theorem zpN{hk:Nat}{a b:Nd}:PyData.eqv (a.dd hk) (b.dd hk)=true↔a=b:=by
 constructor
 ·intro h;cases a<;>cases b
  ·rw[(kM h).2.2]
  ·exact absurd (kM h).1 (by decide)
  ·exact absurd (kM h).1 (by decide)
  ·exact absurd (kM h).1 (by decide)
  ·rw[(kM h).2.2]
  ·exact absurd (kM h).1 (by decide)
  ·exact absurd (kM h).1 (by decide)
  ·exact absurd (kM h).1 (by decide)
  ·rfl
 ·rintro rfl;cases a<;>exact zgs _ _ _
theorem zi1{hk:Nat}(a:Nd):jg (a.dd hk) (.int 0)=.ok (ds a.src):=by cases a<;>rfl
theorem zjR{hk:Nat}(a:Nd):jg (a.dd hk) (.int 1)=.ok (ds a.tgt):=by cases a<;>rfl
theorem zev{hk:Nat}(a:Nd):isDict (a.dd hk)=false:=by cases a<;>rfl
theorem zhg{hk:Nat}(a:Nd):PyData.depth (a.dd hk)<=4000:=by
 cases a<;>exact qA (kr _ _ _ _) (by decide)
noncomputable abbrev KW:=List (Nd×List Nat)
noncomputable def knL(hk:Nat)(kw:KW):List D:=kw.map fun p=>p.1.dd hk
noncomputable def wyL(kw:KW):List D:=kw.map fun p=>.list (p.2.map fun(k:Nat)=>PyData.int k)
theorem zjA{hk:Nat}(kw:KW)(c:Nd):((knL hk kw).any fun y=>PyData.eqv y (c.dd hk))=true↔∃p∈kw,p.1=c:=by
 simp only[knL,List.any_eq_true,List.mem_map];constructor
 ·rintro⟨x,⟨p,hp,rfl⟩,h⟩;exact⟨p,hp,zpN.mp h⟩
 ·rintro⟨p,hp,rfl⟩;exact⟨_,⟨p,hp,rfl⟩,zpN.mpr rfl⟩
noncomputable def nx(mode:Nat):Nd->Nd
 |.F A=>.F (zay A (ggM mode))
 |.X A=>.X (zay A (ggM mode))
 |.H=>.H
structure Inv(mode n at_:Nat)(kw:KW):Prop where
 nd:(kw.map (·.1)).Nodup
 okk:∀p∈kw,(∃A,p.1=.F A)\/p=(.H,[n+1])\/(∃q∈al mode,p=(.X q.1,List.replicate q.2 n)/\∀r∈al mode,r.2<=q.2->∃p'∈kw,p'.1=.X r.1)
 gg:∃p∈kw,p.1=.X (ggM mode)
 hh:∃p∈kw,p.1=.H
 pr:∀i,i<at_->∀p,kw[i]?=some p->∀A,p.1=.X A->∃p'∈kw,p'.1=.X (zay A (ggM mode))
 wl:∀p∈kw,p.2.length<=kw.length
theorem zsU{mode:Nat}(hm:mode<4):∀q∈al mode,(∃r∈al mode,r.2<=q.2/\r.1=zay q.1 (ggM mode))\/(zay q.1 (ggM mode),q.2+1)∈al mode:=by
 rcases zad hm with rfl|rfl|rfl|rfl
 ·intro q hq;simp[al] at hq;subst hq;left;exact⟨_,List.mem_singleton.mpr rfl,Nat.le_refl _,by decide⟩
 ·intro q hq;simp[al] at hq;rcases hq with rfl|rfl|rfl
  ·right;trivial
  ·right;trivial
  ·left;exact⟨(zay (ggM 1) (ggM 1),2),by trivial,by decide,by decide⟩
 ·intro q hq;simp[al] at hq;subst hq;left;exact⟨_,List.mem_singleton.mpr rfl,Nat.le_refl _,by decide⟩
 ·intro q hq;simp[al] at hq;rcases hq with rfl|rfl
  ·right;trivial
  ·left;exact⟨(ggM 3,1),by trivial,by decide,by decide⟩
theorem zkN{mode:Nat}(hm:mode<4):∀q∈al mode,∀r∈al mode,q.2=r.2->q=r:=by
 rcases zad hm with rfl|rfl|rfl|rfl
 ·intro q hq r hr _;simp[al] at hq hr;rw[hq,hr]
 ·intro q hq r hr h;simp[al] at hq hr;rcases hq with rfl|rfl|rfl<;>rcases hr with rfl|rfl|rfl<;>first|rfl|(exact absurd h (by decide))
 ·intro q hq r hr _;simp[al] at hq hr;rw[hq,hr]
 ·intro q hq r hr h;simp[al] at hq hr;rcases hq with rfl|rfl<;>rcases hr with rfl|rfl<;>first|rfl|(exact absurd h (by decide))
theorem zoT{mode:Nat}(hm:mode<4):(ggM mode,1)∈al mode:=by rcases zad hm with rfl|rfl|rfl|rfl<;>trivial
theorem Inv.push{mode n at_:Nat}(hm:mode<4){kw:KW}(h:Inv mode n at_ kw){c:Nd}{w:List Nat}{p:Nd×List Nat}(hp:kw[at_]?=some p)(hc:c=nx mode p.1)(hw:w=p.2++[n])(hn:∀p∈kw,p.1≠c):
  Inv mode n (at_+1) (kw++[(c,w)]):=by
 have hmem:p∈kw:=List.mem_of_getElem? hp;have up:∀{X:Nd},(∃p'∈kw,p'.1=X)->∃p'∈kw++[(c,w)],p'.1=X:=by
  rintro X ⟨p',hp',e⟩;exact⟨p',by exact List.mem_append_left _ ‹_›,e⟩
 refine⟨?_,?_,up h.gg,up h.hh,?_,?_⟩
 ·rw[List.map_append,List.nodup_append];refine⟨h.nd,by simp,?_⟩;intro a ha b hb
  (obtain⟨q,hq,zr1⟩:=List.mem_map.mp ha;replace zr1:=Eq.symm zr1;subst zr1)
  have hb:b=c:=by simpa using hb
  (replace hb:=Eq.symm hb;subst hb)
  exact hn q hq
 ·intro q hq;rcases List.mem_append.mp hq with hq|hq
  ·rcases h.okk q hq with a|a|⟨r,hr,e,hd⟩
   ·exact Or.inl a
   ·exact Or.inr (Or.inl a)
   ·exact Or.inr (Or.inr ⟨r,hr,e,fun s hs hl=>up (hd s hs hl)⟩)
  ·have hq:q=(c,w):=by simpa using hq
   (replace hq:=Eq.symm hq;subst hq)
   rcases h.okk p hmem with⟨A,e⟩|e|⟨r,hr,e,hd⟩
   ·left;exact⟨_,by rw[hc,e];rfl⟩
   ·exfalso;obtain⟨p',hp',e'⟩:=h.hh;refine hn p' hp' ?_;rw[e',hc,e];rfl
   ·right;right;have hcx:c=.X (zay r.1 (ggM mode)):=by rw[hc,e];rfl
    rcases zsU hm r hr with⟨s,hs,hsl,es⟩|hin
    ·exfalso;obtain⟨p',hp',e'⟩:=hd s hs hsl;exact hn p' hp' (by rw[e',hcx,es])
    ·refine⟨_,hin,?_,?_⟩
     ·show(c,w)=(Nd.X (zay r.1 (ggM mode)),List.replicate (r.2+1) n);rw[hcx,hw,e,List.replicate_succ']
     ·intro s hs hsl;by_cases hle:s.2<=r.2
      ·exact up (hd s hs hle)
      ·have:s=(zay r.1 (ggM mode),r.2+1):=zkN hm s hs _ hin (by simp at hsl;simp;lia);rw[this];exact⟨(c,w),by trivial,hcx⟩
 ·intro i hi q hq A hA;have hat:at_<kw.length:=by
   rw[List.getElem?_eq_some_iff] at hp;exact hp.1
  rw[List.getElem?_append_left (by exact qD ‹_› ‹_›)] at hq;by_cases hia:i<at_
  ·exact up (h.pr i hia q hq A hA)
  ·have:i=at_:=by lia
   (replace this:=Eq.symm this;subst this)
   rw[hp] at hq;injection hq with hq
   (replace hq:=Eq.symm hq;subst hq)
   exact⟨(c,w),by simp,by rw[hc,hA];rfl⟩
 ·intro q hq;simp only[List.length_append,List.length_cons,List.length_nil];rcases List.mem_append.mp hq with hq|hq
  ·have:=h.wl q hq;exact Nat.le_succ_of_le ‹_›
  ·have hq:q=(c,w):=by simpa using hq
   (replace hq:=Eq.symm hq;subst hq)
   have:=h.wl p hmem;rw[hw];simp;assumption
theorem Inv.keep{mode n at_:Nat}{kw:KW}(h:Inv mode n at_ kw){p:Nd×List Nat}(hp:kw[at_]?=some p)(hn:∃p'∈kw,p'.1=nx mode p.1):Inv mode n (at_+1) kw:=by
 refine⟨h.nd,h.okk,h.gg,h.hh,?_,h.wl⟩;intro i hi q hq A hA;by_cases hia:i<at_
 ·exact h.pr i hia q hq A hA
 ·have:i=at_:=by lia
  subst this;rw[hp] at hq;injection hq with hq
  subst hq;obtain⟨p',hp',e⟩:=hn;exact⟨p',hp',by rw[e,hA];rfl⟩
theorem zlx{α:Type}:∀{l m:List α},l.Nodup->(∀a∈l,a∈m)->l.length<=m.length:=by
 classical
 intro l;induction l with
 |nil=>intro m _ _;simp
 |cons a l ih=>
  intro m hn hs;have ha:a∈m:=hs a (List.mem_cons_self);rw[List.nodup_cons] at hn;have:=ih (m:=m.erase a) hn.2 (fun b hb=>by
   have hne:b≠a:=by(rintro zr32<;>(try (replace zr32:=Eq.symm zr32;subst zr32)));exact hn.1 hb
   exact(List.mem_erase_of_ne hne).mpr (hs b (by exact List.mem_cons_of_mem _ ‹_›)))
  rw[List.length_erase_of_mem ha] at this;have hpos:0<m.length:=List.length_pos_of_mem ha;simp;lia
theorem Inv.len{mode n at_:Nat}{kw:KW}(h:Inv mode n at_ kw):kw.length<=200:=by
 have:=zlx (m:=mxs.map Nd.F++mxs.map Nd.X++[Nd.H]) h.nd (by
  intro a _;simp only[List.mem_append,List.mem_map,List.mem_singleton];induction a using Nd.casesOn with
  |F A=>exact Or.inl (Or.inl ⟨A,zgM A,rfl⟩)
  |X A=>exact Or.inl (Or.inr ⟨A,zgM A,rfl⟩)
  |H=>exact Or.inr rfl)
 have e:(mxs.map Nd.F++mxs.map Nd.X++[Nd.H]).length=163:=by
  have h81:mxs.length=81:=by decide
  rfl
 rw[e,List.length_map] at this;exact qA ‹_› (by decide)
end Mine
namespace Mine
open PySem
noncomputable def zc(mode:Nat)(Fs:List Mx):List Nd:=Fs.map Nd.F++[.X (ggM mode),.H]
noncomputable def zo(mode hk:Nat)(Fs:List Mx):D:=.list ((zc mode Fs).map (Nd.dd hk))
theorem ze3(mode:Nat)(Fs:List Mx):(zc mode Fs).length=Fs.length+2:=by simp[zc]
theorem za5{mode hk:Nat}{Fs:List Mx}{k:Nat}{a:Nd}(h:(zc mode Fs)[k]?=some a):jg (zo mode hk Fs) (.int k)=.ok (a.dd hk):=by
 rw[zo,zai,List.getElem?_map,h];rfl
theorem zuu{mode:Nat}{Fs:List Mx}{k:Nat}(h:k<Fs.length):∃A,(zc mode Fs)[k]?=some (.F A):=by
 refine⟨Fs[k],?_⟩;rw[zc,List.getElem?_append_left (by simpa using h),List.getElem?_map,List.getElem?_eq_getElem h];rfl
theorem zjY(mode:Nat)(Fs:List Mx):(zc mode Fs)[Fs.length]?=some (.X (ggM mode)):=by
 rw[zc,List.getElem?_append_right (by simp)];simp
theorem zg0(mode:Nat)(Fs:List Mx):(zc mode Fs)[Fs.length+1]?=some .H:=by
 rw[zc,List.getElem?_append_right (by simp)];simp
theorem zgu{hk:Nat}{kw:KW}{i:Nat}{p:Nd×List Nat}(h:kw[i]?=some p):jg (.list (knL hk kw)) (.int i)=.ok (p.1.dd hk):=by
 rw[zai,knL,List.getElem?_map,h];rfl
theorem zm1{kw:KW}{i:Nat}{p:Nd×List Nat}(h:kw[i]?=some p):jg (.list (wyL kw)) (.int i)=.ok (.list (p.2.map fun(k:Nat)=>PyData.int k)):=by
 rw[zai,wyL,List.getElem?_map,h];rfl
theorem zhf{hk:Nat}(kw:KW):(knL hk kw).length=kw.length:=List.length_map _
theorem znr(kw:KW):(wyL kw).length=kw.length:=List.length_map _
section
variable{mode hk N:Nat}{Fs:List Mx}
theorem zgJ{kw:KW}{at_ k:Nat}{p:Nd×List Nat}{a:Nd}(hp:kw[at_]?=some p)(ha:(zc mode Fs)[k]?=some a)(hne:a.src≠p.1.tgt)(t5:D):
  exec G (zd G T 2000 N) (zk G T 2000 N) 2000 aB [zo mode hk Fs,.list (knL hk kw),.list (wyL kw),.int k,.int at_,t5,OO,OO,OO]=
  .ok (.next,[zo mode hk Fs,.list (knL hk kw),.list (wyL kw),.int k,.int at_,t5,OO,OO,OO]):=by
 have hd:¬(S a.src=S p.1.tgt):=by rw[zcy];exact hne
 simp only[jv,jr,jj,ji,zK,z0,z6,g_0,g_s,jx,R.bind_ok,jo,zR,za5 ha,zi1,zgu hp,zjR,kz,decide_eq_false hd]
theorem zsb{kw:KW}{at_:Nat}{p:Nd×List Nat}(hp:kw[at_]?=some p)(more:List D):∀(ks:List Nat) (t3 t5:D),(∀k∈ks,k<Fs.length)->∃t3',
  fl G (zd G T 2000 N) (zk G T 2000 N) 2000 (.one 3) aB ((ks.map fun(k:Nat)=>PyData.int k)++more) [zo mode hk Fs,.list (knL hk kw),.list (wyL kw),t3,.int at_,t5,OO,OO,OO]=
  fl G (zd G T 2000 N) (zk G T 2000 N) 2000 (.one 3) aB more [zo mode hk Fs,.list (knL hk kw),.list (wyL kw),t3',.int at_,t5,OO,OO,OO]:=by
 intro ks;induction ks with
 |nil=>intro t3 t5 _;exact⟨t3,rfl⟩
 |cons k ks ih=>
  intro t3 t5 hks;obtain⟨A,hA⟩:=zuu (mode:=mode) (hks k (List.mem_cons_self));obtain⟨t3',e⟩:=ih (.int k) t5 (fun j hj=>hks j (by exact List.mem_cons_of_mem _ ‹_›));refine⟨t3',?_⟩;rw[List.map_cons,List.cons_append,zW];simp only[kc,R.bind_ok,List.set_cons_zero,List.set_cons_succ,jT];rw[zgJ hp hA (by cases p.1<;>simp[Nd.src,Nd.tgt])];exact e
theorem zud{kw:KW}{at_ k:Nat}{p:Nd×List Nat}{a c:Nd}(hp:kw[at_]?=some p)(ha:(zc mode Fs)[k]?=some a)(he:a.src=p.1.tgt)(hc:zd G T 2000 N 12 [p.1.dd hk,a.dd hk]=.ok (c.dd hk))(hl:kw.length<1000)(hw:p.2.length<1000)(t5:D):
  ((∃p'∈kw,p'.1=c)->exec G (zd G T 2000 N) (zk G T 2000 N) 2000 aB [zo mode hk Fs,.list (knL hk kw),.list (wyL kw),.int k,.int at_,t5,OO,OO,OO]=
  .ok (.next,[zo mode hk Fs,.list (knL hk kw),.list (wyL kw),.int k,.int at_,c.dd hk,OO,OO,OO]))/\
  ((∀p'∈kw,p'.1≠c)->exec G (zd G T 2000 N) (zk G T 2000 N) 2000 aB [zo mode hk Fs,.list (knL hk kw),.list (wyL kw),.int k,.int at_,t5,OO,OO,OO]=
  .ok (.next,[zo mode hk Fs,.list (knL hk (kw++[(c,p.2++[k])])),.list (wyL (kw++[(c,p.2++[k])])),.int k,.int at_,c.dd hk,OO,OO,OO])):=by
 have hd:(S a.src=S p.1.tgt):=by rw[he]
 have hni:=zdd (zev (hk:=hk) c) (zhg c) (knL hk kw);constructor
 ·intro hin;have h1:((knL hk kw).any fun y=>PyData.eqv y (c.dd hk))=true:=(zjA kw c).mpr hin;rw[h1] at hni;simp only[zT,zv,jv,zbf,zao,jr,jB,jj,ji,zK,z0,z6,jV,zQ,zO,zP,jc,g_0,g_s,jx,R.bind_ok,List.set_cons_zero,List.set_cons_succ,jo,kT,zR,za5 ha,zi1,zgu hp,zjR,kz,decide_eq_true hd,hc,hni,zqO]
 ·intro hno;have h1:((knL hk kw).any fun y=>PyData.eqv y (c.dd hk))=false:=by
   rw[←Bool.not_eq_true,zjA];rintro⟨p',hp',e⟩;exact hno p' hp' e
  rw[h1] at hni;have a1:=zdW (xs:=knL hk kw) (d:=c.dd hk) (by rw[zhf];exact qD ‹_› (by decide)) (zev c);have a2:zfG (.list (wyL kw)) (.list (p.2.map (fun(k:Nat)=>PyData.int k)++[.int k]))=_:=zdW (by rw[znr];exact qD ‹_› (by decide)) rfl;have a3:zdx (.list (p.2.map fun(k:Nat)=>PyData.int k)) (.list [.int k])=_:=za3 (by simp;exact qB ‹_› (by decide));simp only[zT,zv,zbf,zao,zfQ,jr,jB,ji,zK,z0,z6,zbq,jV,zQ,zO,zP,jc,g_0,g_s,jx,R.bind_ok,List.set_cons_zero,List.set_cons_succ,zdO,jo,kT,zR,↓reduceIte,zaI,List.any_cons,List.any_nil,zfu,zgi,za5 ha,zi1,zgu hp,zjR,kz,decide_eq_true hd,hc,hni,zqj,kR,zgL,a1,zdp,zm1 hp,a3,a2];simp[knL,wyL]
theorem zeU:zdU (zo mode hk Fs)=.ok (.int (Fs.length+2:Nat)):=by
 show R.ok (PyData.int (((zc mode Fs).map (Nd.dd hk)).length:Nat))=_;rw[List.length_map,ze3]
theorem zvD(k:Nat):(List.range (k+2)).map (fun(k:Nat)=>PyData.int k)=((List.range k).map fun(k:Nat)=>PyData.int k)++[PyData.int k,PyData.int (k+1:Nat)]:=by
 rw[List.range_succ,List.range_succ];simp
theorem zkt{g:Tg}{s:PS}{ρ:ze}{d:D}{q i:Nat}(hl:zdU d=.ok (.int q))(h:zr ρ i=d):exec G (zd G T 2000 N) (zk G T 2000 N) 2000 (.forr g true (.un .len (.var i)) s) ρ=zc1 G (zd G T 2000 N) (zk G T 2000 N) 2000 g true s ρ (.int q):=by
 rw[zby,zdI,zK,h,R.bind_ok];show R.bind (zdU d) _=_;rw[hl,R.bind_ok]
theorem zfm(hF:Fs.length<1000){g:Tg}{s:PS}{ρ:ze}(h:zr ρ 0=zo mode hk Fs):exec G (zd G T 2000 N) (zk G T 2000 N) 2000 (.forr g true (.un .len (.var 0)) s) ρ=fl G (zd G T 2000 N) (zk G T 2000 N) 2000 g s ((List.range (Fs.length+2)).map fun(k:Nat)=>PyData.int k) ρ:=
 (zkt zeU h).trans (zc8 (by exact qB ‹_› (by decide)))
theorem zvP(hm:mode<4)(hh:hk<2)(hN:2<=N)(hF:Fs.length<1000){kw:KW}{at_:Nat}(I:Inv mode Fs.length at_ kw)(hat:at_<kw.length)(t3 t5:D):∃kw' t3' t5',Inv mode Fs.length (at_+1) kw'/\kw.length<=kw'.length/\
  exec G (zd G T 2000 N) (zk G T 2000 N) 2000 aW [zo mode hk Fs,.list (knL hk kw),.list (wyL kw),t3,.int at_,t5,OO,OO,OO]=
  .ok (.next,[zo mode hk Fs,.list (knL hk kw'),.list (wyL kw'),t3',.int (at_+1:Nat),t5',OO,OO,OO]):=by
 have hlen:=I.len;obtain⟨p,hp⟩:∃p,kw[at_]?=some p:=⟨_,List.getElem?_eq_getElem hat⟩;have hpm:p∈kw:=List.mem_of_getElem? hp;have hwl:=I.wl p hpm;have start:∀r:R (Fl×ze),(∀t3,fl G (zd G T 2000 N) (zk G T 2000 N) 2000 (.one 3) aB [PyData.int Fs.length,PyData.int (Fs.length+1:Nat)] [zo mode hk Fs,.list (knL hk kw),.list (wyL kw),t3,.int at_,t5,OO,OO,OO]=r)->
   exec G (zd G T 2000 N) (zk G T 2000 N) 2000 aW [zo mode hk Fs,.list (knL hk kw),.list (wyL kw),t3,.int at_,t5,OO,OO,OO]=R.bind r (zpZ G (zd G T 2000 N) (zk G T 2000 N) 2000 (.assign (.one 4) (.bin .add (.var 4) (.lit (.int 1))))):=by
  intro r hr;rw[zT];rw[zfm hF rfl,zvD];obtain⟨t3',e⟩:=zsb (mode:=mode) (hk:=hk) (N:=N) (Fs:=Fs) hp [PyData.int Fs.length,PyData.int (Fs.length+1:Nat)] (List.range Fs.length) t3 t5 (by simp);rw[e,hr]
 have hb0:=zjY mode Fs;have hb1:=zg0 mode Fs;by_cases hG:p.1.tgt=tG
 ·have hc:zd G T 2000 N 12 [p.1.dd hk,(Nd.X (ggM mode)).dd hk]=.ok ((nx mode p.1).dd hk):=by
   rcases I.okk p hpm with⟨A,e⟩|e|⟨q,hq,e,_⟩
   ·rw[e];exact zwl hm hN A
   ·rw[e] at hG;exact absurd hG (show ¬(tH=tG) by decide)
   ·rw[e];exact znw hm hN hq
  obtain⟨hin,hout⟩:=zud (N:=N) (Fs:=Fs) hp hb0 (by rw[hG];rfl) hc (by exact qB ‹_› (by decide)) (by lia) t5;have hne:(Nd.H).src≠p.1.tgt:=by rw[hG];decide
  by_cases hx:∃p'∈kw,p'.1=nx mode p.1
  ·have hin:=hin hx;refine⟨kw,.int (Fs.length+1:Nat),(nx mode p.1).dd hk,I.keep hp hx,Nat.le_refl _,?_⟩;rw[start (.ok (.next,[zo mode hk Fs,.list (knL hk kw),.list (wyL kw),.int (Fs.length+1:Nat),.int at_,(nx mode p.1).dd hk,OO,OO,OO]))]
   ·rfl
   ·intro t3;rw[zW];simp only[kc,R.bind_ok,List.set_cons_zero,List.set_cons_succ,jT,hin,jN];rw[zW];simp only[kc,R.bind_ok,List.set_cons_zero,List.set_cons_succ,jT];rw[zgJ hp hb1 hne];rfl
  ·have hno:∀p'∈kw,p'.1≠nx mode p.1:=fun p' hp' e=>hx ⟨p',hp',e⟩;have hout:=hout hno;refine⟨kw++[(nx mode p.1,p.2++[Fs.length])],.int (Fs.length+1:Nat),(nx mode p.1).dd hk,I.push hm hp rfl rfl hno,by simp,?_⟩;rw[start (.ok (.next,[zo mode hk Fs,.list (knL hk (kw++[(nx mode p.1,p.2++[Fs.length])])),.list (wyL (kw++[(nx mode p.1,p.2++[Fs.length])])),.int (Fs.length+1:Nat),.int at_,(nx mode p.1).dd hk,OO,OO,OO]))]
   ·rfl
   ·intro t3;rw[zW];simp only[kc,R.bind_ok,List.set_cons_zero,List.set_cons_succ,jT,hout,jN];rw[zW];simp only[kc,R.bind_ok,List.set_cons_zero,List.set_cons_succ,jT];rw[zgJ (p:=p) (by rw[List.getElem?_append_left hat];exact hp) hb1 hne];rfl
 ·have hH:p.1=.H:=by
   cases h:p.1 with
   |F A=>rw[h] at hG;exact absurd rfl hG
   |X A=>rw[h] at hG;exact absurd rfl hG
   |H=>rfl
  have hc:zd G T 2000 N 12 [p.1.dd hk,(Nd.H).dd hk]=.ok ((Nd.H).dd hk):=by rw[hH];exact znE hh hN
  have hin:=fun t5=>(zud (N:=N) (Fs:=Fs) hp hb1 (by rw[hH];rfl) hc (by exact qB ‹_› (by decide)) (by lia) t5).1 I.hh;refine⟨kw,.int (Fs.length+1:Nat),(Nd.H).dd hk,I.keep hp (by rw[hH];exact I.hh),Nat.le_refl _,?_⟩;rw[start (.ok (.next,[zo mode hk Fs,.list (knL hk kw),.list (wyL kw),.int (Fs.length+1:Nat),.int at_,(Nd.H).dd hk,OO,OO,OO]))]
  ·rfl
  ·intro t3;rw[zW];simp only[kc,R.bind_ok,List.set_cons_zero,List.set_cons_succ,jT];rw[zgJ hp hb0 (by rw[hH];exact(show tG≠tH by decide))];simp only[R.bind_ok,jN];rw[zW];simp only[kc,R.bind_ok,List.set_cons_zero,List.set_cons_succ,jT,hin,jN,zaP]
theorem zq8(hm:mode<4)(hh:hk<2)(hN:2<=N)(hF:Fs.length<1000):∀(j m at_:Nat) (kw:KW) (t3 t5:D),Inv mode Fs.length at_ kw->at_<=kw.length->201 - at_<=j->j<m->∃kw' t3' t5',Inv mode Fs.length kw'.length kw'/\
  wl G (zd G T 2000 N) (zk G T 2000 N) 2000 (.bin .lt (.var 4) (.un .len (.var 1))) aW m [zo mode hk Fs,.list (knL hk kw),.list (wyL kw),t3,.int at_,t5,OO,OO,OO]=
  .ok (.next,[zo mode hk Fs,.list (knL hk kw'),.list (wyL kw'),t3',.int kw'.length,t5',OO,OO,OO]):=by
 intro j;induction j with
 |zero=>intro m at_ kw t3 t5 I hat hj hm';exact absurd (qA (Nat.le_of_sub_eq_zero (Nat.le_zero.mp hj)) (qA hat I.len)) (by decide)
 |succ j ih=>
  intro m at_ kw t3 t5 I hat hj hm';obtain⟨m,rfl⟩:∃k,m=k+1:=⟨m - 1,by exact(Nat.sub_add_cancel (qB (Nat.zero_le _) ‹_›)).symm⟩;have hc:ev G (zd G T 2000 N) (.bin .lt (.var 4) (.un .len (.var 1))) [zo mode hk Fs,.list (knL hk kw),.list (wyL kw),t3,.int at_,t5,OO,OO,OO]=.ok (.bool (decide ((at_:Int)<(kw.length:Nat)))):=by
   simp only[zK,zdI,z0,z6,g_0,g_s,R.bind_ok,zbJ,zbS,kK,zhf,zaN]
  by_cases hlt:at_<kw.length
  ·have h1:(at_:Int)<(kw.length:Nat):=by exact Int.ofNat_lt.mpr ‹_›
   rw[zg9 (by rw[hc,decide_eq_true h1])];obtain⟨kw1,t3',t5',I1,hle,e⟩:=zvP (N:=N) hm hh hN hF I hlt t3 t5;rw[e];exact ih m (at_+1) kw1 t3' t5' I1 (by exact qD ‹_› ‹_›) (by rw[←Nat.sub_sub];exact Nat.sub_le_of_le_add hj) (by exact Nat.le_of_lt_succ ‹_›)
  ·have h1:¬(at_:Int)<(kw.length:Nat):=by lia
   have:at_=kw.length:=by lia
   subst this;exact⟨kw,t3,t5,I,zel (by rw[hc,decide_eq_false h1])⟩
noncomputable def kw0(mode:Nat)(Fs:List Mx)(k:Nat):KW:=((zc mode Fs).take k).zipIdx.map fun p=>(p.1,[p.2])
theorem zfi{mode:Nat}{Fs:List Mx}{k:Nat}{a:Nd}(h:(zc mode Fs)[k]?=some a):kw0 mode Fs (k+1)=kw0 mode Fs k++[(a,[k])]:=by
 have hk:k<(zc mode Fs).length:=by rw[List.getElem?_eq_some_iff] at h;exact h.1
 unfold kw0;rw[List.take_add_one,h];rw[List.zipIdx_append,List.map_append];simp;lia
theorem zep(mode:Nat)(Fs:List Mx)(k:Nat):(kw0 mode Fs k).map (·.1)=(zc mode Fs).take k:=by
 unfold kw0;rw[List.map_map];have:((fun x:Nd×List Nat=>x.1) ∘ fun p:Nd×Nat=>(p.1,[p.2]))=Prod.fst:=by funext p;rfl
 rw[this,List.zipIdx_map_fst]
theorem zeV(hm:mode<4)(h:Fs.Nodup):(zc mode Fs).Nodup:=by
 unfold zc;rw[List.nodup_append];refine⟨?_,by simp,?_⟩
 ·exact List.Pairwise.map _ (fun a b hab e=>hab (by injection e)) h
 ·intro a ha b hb;obtain⟨A,_,rfl⟩:=List.mem_map.mp ha;simp at hb;rcases hb with rfl|rfl<;>simp
theorem zvw(hm:mode<4)(hnd:Fs.Nodup)(hF:Fs.length<100):∀(ks k:Nat) (t3:D),k+ks=Fs.length+2->∃t3',
  fl G (zd G T 2000 N) (zk G T 2000 N) 2000 (.one 3) (.ifs (.bin .nmem (.bin .idx (.var 0) (.var 3)) (.var 1)) (.seq (.app 1 (.bin .idx (.var 0) (.var 3))) (.app 2 (.list (.cons (.var 3) .nil)))) .skip) ((List.range' k ks).map fun(k:Nat)=>PyData.int k) [zo mode hk Fs,.list (knL hk (kw0 mode Fs k)),.list (wyL (kw0 mode Fs k)),t3,OO,OO,OO,OO,OO]=
  .ok (.next,[zo mode hk Fs,.list (knL hk (kw0 mode Fs (Fs.length+2))),.list (wyL (kw0 mode Fs (Fs.length+2))),t3',OO,OO,OO,OO,OO]):=by
 intro ks;induction ks with
 |zero=>intro k t3 hk';have:k=Fs.length+2:=(by assumption);(replace this:=Eq.symm this;subst this);exact⟨t3,rfl⟩
 |succ ks ih=>
  intro k t3 hk';have hkl:k<(zc mode Fs).length:=by rw[ze3];lia
  obtain⟨a,ha⟩:∃a,(zc mode Fs)[k]?=some a:=⟨_,List.getElem?_eq_getElem hkl⟩;obtain⟨t3',e⟩:=ih (k+1) (.int k) (by lia);refine⟨t3',?_⟩;rw[List.range'_succ,List.map_cons,zW];have hno:∀p'∈kw0 mode Fs k,p'.1≠a:=by
   intro p' hp' e';have h1:p'.1∈(zc mode Fs).take k:=by rw[←zep];exact List.mem_map.mpr ⟨p',hp',rfl⟩
   have hnod:=zeV hm hnd;have hs:(zc mode Fs).take (k+1)=(zc mode Fs).take k++[a]:=by rw[List.take_add_one,ha];rfl
   have h2:((zc mode Fs).take (k+1)).Nodup:=List.Sublist.nodup (List.take_sublist _ _) hnod;rw[hs,List.nodup_append] at h2;exact h2.2.2 _ h1 a (List.mem_cons_self) e'
  have h1:((knL hk (kw0 mode Fs k)).any fun y=>PyData.eqv y (a.dd hk))=false:=by
   rw[←Bool.not_eq_true,zjA];rintro⟨p',hp',e⟩;exact hno p' hp' e
  have hni:=zdd (zev (hk:=hk) a) (zhg a) (knL hk (kw0 mode Fs k));rw[h1] at hni;have hkl:(kw0 mode Fs k).length<=200:=by
   have:=congrArg List.length (zep mode Fs k);simp[zc] at this;lia
  have a1:=zdW (xs:=knL hk (kw0 mode Fs k)) (d:=a.dd hk) (by rw[zhf];exact qB ‹_› (by decide)) (zev a);have a2:zfG (.list (wyL (kw0 mode Fs k))) (.list [.int k])=_:=zdW (by rw[znr];exact qB ‹_› (by decide)) rfl;simp only[zT,zv,zfQ,jr,jB,jN,jT,kc,zK,z0,z6,zbq,zQ,zO,zP,jc,g_0,g_s,R.bind_ok,List.set_cons_zero,List.set_cons_succ,kT,zR,↓reduceIte,zaI,List.any_cons,List.any_nil,zfu,zgi,za5 ha,hni,zqj,kR,zgL,a1,a2,zdp];rw[zfi ha] at e;have e1:knL hk (kw0 mode Fs k++[(a,[k])])=knL hk (kw0 mode Fs k)++[a.dd hk]:=by simp[knL]
  have e2:wyL (kw0 mode Fs k++[(a,[k])])=wyL (kw0 mode Fs k)++[.list [.int k]]:=by simp[wyL]
  rw[e1,e2] at e;exact e
theorem zuL{m:Nat}(hm:m<4){r:Mx×Nat}(hr:r∈al m):1<=r.2:=by
 have k:(zef.all fun m=>(al m).all fun r=>decide (1<=r.2))=true:=by decide +kernel
 exact of_decide_eq_true (List.all_eq_true.mp (List.all_eq_true.mp k m (by rcases zad hm with rfl|rfl|rfl|rfl<;>decide)) r hr)
theorem zy1(hm:mode<4)(hnd:Fs.Nodup):Inv mode Fs.length 0 (kw0 mode Fs (Fs.length+2)):=by
 have e:kw0 mode Fs (Fs.length+2)=kw0 mode Fs Fs.length++[(.X (ggM mode),[Fs.length])]++[(.H,[Fs.length+1])]:=by
  rw[zfi (zg0 mode Fs),zfi (zjY mode Fs)]
 have hFm:∀p∈kw0 mode Fs Fs.length,∃A,p.1=.F A:=by
  intro p hp;have h1:p.1∈(zc mode Fs).take Fs.length:=by rw[←zep];exact List.mem_map.mpr ⟨p,hp,rfl⟩
  have:(zc mode Fs).take Fs.length=Fs.map Nd.F:=by unfold zc;rw[List.take_append_of_le_length (by simp),List.take_of_length_le (by simp)]
  rw[this] at h1;obtain⟨A,_,h⟩:=List.mem_map.mp h1;exact⟨A,h.symm⟩
 refine⟨?_,?_,?_,?_,?_,?_⟩
 ·rw[zep,List.take_of_length_le (by rw[ze3];exact Nat.le_refl _)];exact zeV hm hnd
 ·intro p hp;have hp':=hp;rw[e] at hp;rcases List.mem_append.mp hp with hp|hp
  ·rcases List.mem_append.mp hp with hp|hp
   ·exact Or.inl (hFm p hp)
   ·have hp:p=(.X (ggM mode),[Fs.length]):=by simpa using hp
    refine Or.inr (Or.inr ⟨_,zoT hm,hp,?_⟩);intro r hr hl;have hr1:1<=r.2:=zuL hm hr;have:r=(ggM mode,1):=zkN hm r hr _ (zoT hm) (by simp at hl;simp;exact Nat.le_antisymm ‹_› ‹_›);exact⟨p,hp',by rw[this,hp]⟩
  ·exact Or.inr (Or.inl (by simpa using hp))
 ·exact⟨(.X (ggM mode),[Fs.length]),by rw[e];simp,rfl⟩
 ·exact⟨(.H,[Fs.length+1]),by rw[e];simp,rfl⟩
 ·intro i hi;exact absurd ‹_› (Nat.not_lt_zero _)
 ·intro p hp;have hone:p.2.length=1:=by
   unfold kw0 at hp;obtain⟨q,_,rfl⟩:=List.mem_map.mp hp;rfl
  have:=List.length_pos_of_mem hp;lia
theorem zwg(hm:mode<4)(hh:hk<2)(hN:2<=N)(hnd:Fs.Nodup)(hF:Fs.length<100):∃kw,Inv mode Fs.length kw.length kw/\zd G T 2000 (N+1) 14 [zo mode hk Fs]=.ok (.tuple [.list (knL hk kw),.list (wyL kw)]):=by
 obtain⟨t3,e1⟩:=zvw (mode:=mode) (hk:=hk) (N:=N) hm hnd hF (Fs.length+2) 0 .none (Nat.add_comm _ _);obtain⟨kw,t3',t5',I,e2⟩:=zq8 (mode:=mode) (hk:=hk) (N:=N) hm hh hN (by exact qD ‹_› (by decide)) 1000 2000 0 (kw0 mode Fs (Fs.length+2)) t3 .none (zy1 hm hnd) (Nat.zero_le _) (by decide) (by decide);refine⟨kw,I,?_⟩;rw[zxj];simp only[zjh];rw[zT];simp only[ziW,zQ,R.bind_ok,zgz,zv,List.set_cons_zero,List.set_cons_succ];rw[zT];simp only[ziW,zQ,R.bind_ok,zgz,zv,List.set_cons_zero,List.set_cons_succ];rw[zT,zfm (by exact qD ‹_› (by decide)) rfl,List.range_eq_range'];have e0:(PyData.list []:D)=.list (knL hk (kw0 mode Fs 0))/\(PyData.list []:D)=.list (wyL (kw0 mode Fs 0)):=by
  constructor<;>rfl
 have e1':=e1;rw[←e0.1,←e0.2] at e1';rw[e1'];simp only[R.bind_ok,zv];rw[zT];simp only[zbf,ji,jx,R.bind_ok,zao,zv,List.set_cons_zero,List.set_cons_succ];rw[zT,zqe];have e2':wl G (zd G T 2000 N) (zk G T 2000 N) 2000 (.bin .lt (.var 4) (.un .len (.var 1))) aW 2000 [zo mode hk Fs,.list (knL hk (kw0 mode Fs (Fs.length+2))),.list (wyL (kw0 mode Fs (Fs.length+2))),t3,.int 0,OO,OO,OO,OO]=_:=e2;rw[e2'];rfl
end
end Mine
namespace Mine
open PySem
noncomputable def shr(A:Mx):Bool:=A.1.1==some true||A.2.2==some true
noncomputable def dng(hk:Nat):Nd->Bool
 |.F _=>false
 |.X A=>decide (zay A A=A)&&!shr A
 |.H=>decide (hk=1)
theorem zwe:(zef.all fun m=>(al m).all fun p=>zdC (zd G T 2000 2 12 [grD tG tG p.1,grD tG tG p.1]) (grD tG tG (zay p.1 p.1))&&zdC (zd G T 2000 1 15 [grD tG tG p.1]) (.bool (shr p.1)))=true:=by decide +kernel
theorem zvS:([0,1].all fun h=>zdC (zd G T 2000 1 15 [grD tH tH (hhM h)]) (.bool (decide (h=0))))=true:=by decide +kernel
theorem zoR(f g:Tok)(A B:Mx):eqD (grD f g A) (grD f g B)=.ok (.bool (decide (A=B))):=by
 have hd:=kr f g A.1 A.2;show(if(isDict (grD f g A)||isDict (grD f g B)||deep (grD f g A) (grD f g B))=true then R.stuck else R.ok (PyData.bool (PyData.eqv (grD f g A) (grD f g B))))=_;rw[if_neg]
 ·congr 2
  rw[Bool.eq_iff_iff,decide_eq_true_eq];constructor
  ·intro h;exact(kM h).2.2
  ·rintro rfl;exact zgs f g A
 ·have:deep (grD f g A) (grD f g B)=false:=by
   unfold deep;rw[decide_eq_false_iff_not];have:PyData.depth (grD f g A)<=3:=hd;lia
  rw[this];exact fun h=>ff h
noncomputable def zba(w v:List Nat):Bool:=if(w.length:Int)=v.length then z9 (w.map fun(k:Nat)=>(k:Int)) (v.map fun(k:Nat)=>(k:Int)) else decide ((w.length:Int)<v.length)
theorem zfS(w:List Nat):zaE (w.map fun(k:Nat)=>PyData.int k)=some (w.map fun(k:Nat)=>(k:Int)):=by
 induction w with
 |nil=>rfl
 |cons a w ih=>show(zaE (w.map fun(k:Nat)=>PyData.int k)).bind _=_;rw[ih];rfl
noncomputable def wD(w:List Nat):D:=.list (w.map fun(k:Nat)=>PyData.int k)
theorem zyZ(w v:List Nat):ltD (.tuple [.int w.length,wD w]) (.tuple [.int v.length,wD v])=.ok (.bool (zba w v)):=by
 show R.bind (R.bind (z7 (zaE (w.map fun(k:Nat)=>PyData.int k))) fun a=>R.bind (z7 (zaE (v.map fun(k:Nat)=>PyData.int k))) _) _=_;rw[zfS,zfS];rfl
noncomputable def zbe:Option (List Nat)->D
 |none=>.none
 |some w=>wD w
noncomputable def upd(hk:Nat)(b:Option (List Nat))(p:Nd×List Nat):Option (List Nat):=
 if dng hk p.1 then(match b with|none=>some p.2|some v=>if zba p.2 v then some p.2 else b) else b
theorem zw7{cf:Nat->List D->R D}{ρ:ze}{a b:PE}{u v:Bool}(h:ev G cf a ρ=.ok (.bool u))(g:ev G cf b ρ=.ok (.bool v)):ev G cf (.and_ a b) ρ=.ok (.bool (u&&v)):=by
 induction u using Bool.casesOn with
 |false=>exact zjn h
 |true=>exact zaS h g
theorem zt3(w:List Nat):zdU (wD w)=.ok (.int w.length):=congrArg (fun n:Nat=>R.ok (PyData.int n)) (List.length_map ..)
section
variable{mode hk N:Nat}
theorem zvN(hm:mode<4)(hh:hk<2)(hN:2<=N){n:Nat}{kw:KW}(I:Inv mode n kw.length kw){p:Nd×List Nat}(hp:p∈kw){x0 x1 x2 x3 x4:D}:
  ev G (zd G T 2000 N) dC [x0,x1,x2,x3,x4,p.1.dd hk,OO,OO,OO,OO,OO]=.ok (.bool (dng hk p.1)):=by
 rcases I.okk p hp with⟨A,e⟩|e|⟨q,hq,e,_⟩
 ·rw[e];rfl
 ·rw[e];have hk':hk∈[0,1]:=by
   match hk,hh with
   |0,_=>exact List.mem_cons_self
   |1,_=>exact List.mem_cons_of_mem _ List.mem_cons_self
  have hs:zd G T 2000 N 15 [grD tH tH (hhM hk)]=.ok (.bool (decide (hk=0))):=j5 (j7 (List.all_eq_true.mp zvS hk hk')) (qC hN);have hc:=znE hh hN;have he:=zoR tH tH (hhM hk) (hhM hk);rw[decide_eq_true rfl] at he;have hd:dng hk .H=!decide (hk=0):=by
   match hk,hh with
   |0,_=>rfl
   |1,_=>rfl
  rw[hd];exact zaS rfl (zaS (zm (zn rfl hc) rfl he) (zbA (zn rfl hs) rfl))
 ·rw[e];have hchk:=List.all_eq_true.mp (List.all_eq_true.mp zwe mode (by rcases zad hm with rfl|rfl|rfl|rfl<;>trivial)) q hq;have hc:zd G T 2000 N 12 [grD tG tG q.1,grD tG tG q.1]=.ok (grD tG tG (zay q.1 q.1)):=j5 (j7 (an1 hchk)) hN;have hs:zd G T 2000 N 15 [grD tG tG q.1]=.ok (.bool (shr q.1)):=j5 (j7 (an2 hchk)) (qC hN);exact zaS rfl (zw7 (zm (zn rfl hc) rfl (zoR tG tG _ _)) (zbA (zn rfl hs) rfl))
theorem zyz{cf ci:Nat->List D->R D}{x0 x1 x2 x5:D}{k:Nat}{w:List Nat}(b:Option (List Nat))(hw:jg x2 (.int k)=.ok (wD w)):
  exec G cf ci 2000 dI [x0,x1,x2,zbe b,.int k,x5,OO,OO,OO,OO,OO]=.ok (.next,[x0,x1,x2,zbe (match b with|none=>some w|some v=>if zba w v then some w else b),.int k,x5,OO,OO,OO,OO,OO]):=by
 induction b using Option.casesOn with
 |none=>exact zY (zkB rfl) (jM hw)
 |some v=>
  have hl:=zyZ w v;have hc:∀{c:Bool},ltD (.tuple [.int w.length,wD w]) (.tuple [.int v.length,wD v])=.ok (.bool c)->ev G cf (.or_ (.un .isNone (.var 3)) (.bin .lt (.tup (.cons (.un .len (.bin .idx (.var 2) (.var 4))) (.cons (.bin .idx (.var 2) (.var 4)) .nil))) (.tup (.cons (.un .len (.var 3)) (.cons (.var 3) .nil))))) [x0,x1,x2,wD v,.int k,x5,OO,OO,OO,OO,OO]=.ok (.bool c):=
   fun h=>zbz rfl (zm (jC (zj (zbA (zm rfl rfl hw) (zt3 w)) (zj (zm rfl rfl hw) rfl)) rfl) (jC (zj (zbA rfl (zt3 v)) rfl) rfl) h)
  show _=R.ok (Fl.next,[x0,x1,x2,zbe (if zba w v=true then some w else some v),PyData.int k,x5,OO,OO,OO,OO,OO]);generalize zba w v=c at hl;induction c using Bool.casesOn with
  |false=>exact zz (hc hl) rfl
  |true=>exact zY (hc hl) (jM hw)
theorem zvA(hm:mode<4)(hh:hk<2)(hN:2<=N){n:Nat}{kw:KW}(I:Inv mode n kw.length kw){k:Nat}{p:Nd×List Nat}(hp:kw[k]?=some p)(g0 t5:D)(b:Option (List Nat)):∃t5',
  exec G (zd G T 2000 N) (zk G T 2000 N) 2000 dB [g0,.list (knL hk kw),.list (wyL kw),zbe b,.int k,t5,OO,OO,OO,OO,OO]=
  .ok (.next,[g0,.list (knL hk kw),.list (wyL kw),zbe (upd hk b p),.int k,t5',OO,OO,OO,OO,OO]):=by
 refine⟨p.1.dd hk,jy (jM (zm rfl rfl (zgu hp))) ?_⟩;have hc:=fun x0 x1 x2 x3 x4=>zvN hm hh hN I (List.mem_of_getElem? hp) (x0:=x0) (x1:=x1) (x2:=x2) (x3:=x3) (x4:=x4);unfold upd;generalize dng hk p.1=c at hc;induction c using Bool.casesOn with
 |false=>exact zz (hc ..) rfl
 |true=>exact zY (hc ..) (zyz b (zm1 hp))
theorem zuI(hm:mode<4)(hh:hk<2)(hN:2<=N){n:Nat}{kw:KW}(I:Inv mode n kw.length kw)(g0:D):∀(rest:KW) (k:Nat) (t4 t5:D) (b:Option (List Nat)),kw.drop k=rest->∃t4' t5',
  fl G (zd G T 2000 N) (zk G T 2000 N) 2000 (.one 4) dB ((List.range' k rest.length).map fun(k:Nat)=>PyData.int k) [g0,.list (knL hk kw),.list (wyL kw),zbe b,t4,t5,OO,OO,OO,OO,OO]=
  .ok (.next,[g0,.list (knL hk kw),.list (wyL kw),zbe (rest.foldl (upd hk) b),t4',t5',OO,OO,OO,OO,OO]):=by
 intro rest;induction rest with
 |nil=>intro k t4 t5 b _;exact⟨t4,t5,rfl⟩
 |cons p rest ih=>
  intro k t4 t5 b hk';have hp:kw[k]?=some p:=by
   have:=congrArg List.head? hk'
   simpa [List.head?_drop] using this
  obtain⟨hr,_⟩:=jp hk'.symm;obtain⟨t5',e⟩:=zvA (N:=N) hm hh hN I hp g0 t5 b;obtain⟨t4',t5'',e2⟩:=ih (k+1) (.int k) t5' (upd hk b p) hr.symm;refine⟨t4',t5'',?_⟩;rw[List.length_cons,List.range'_succ,List.map_cons,zW];simp only[kc,R.bind_ok,List.set_cons_zero,List.set_cons_succ,jT];rw[e];exact e2
noncomputable def due(mode hk n:Nat):Option (List Nat):=if mode=2 then some [n] else if mode=3/\hk=0 then some [n,n] else if hk=1 then some [n+1] else none
theorem zp6{kw:KW}(h:∀p∈kw,dng hk p.1=false):∀b,kw.foldl (upd hk) b=b:=by
 induction kw with
 |nil=>intro b;rfl
 |cons p kw ih=>
  intro b;rw[List.foldl_cons];have:upd hk b p=b:=by unfold upd;rw[h p (by exact List.mem_cons_self)];rfl
  rw[this];exact ih (fun q hq=>h q (by exact List.mem_cons_of_mem _ ‹_›)) b
theorem zdv{w:List Nat}:∀{kw:KW} {b:Option (List Nat)},(∀p∈kw,dng hk p.1=true->p.2=w\/(zba w p.2=true/\zba p.2 w=false))->zba w w=false->
  (b=some w\/((b=none\/∃v,b=some v/\zba w v=true)/\∃p∈kw,dng hk p.1=true/\p.2=w))->kw.foldl (upd hk) b=some w:=by
 intro kw;induction kw with
 |nil=>
  intro b _ _ hb;rcases hb with hb|⟨_,p,hp,_⟩
  ·exact hb
  ·cases hp
 |cons p kw ih=>
  intro b h hw hb;rw[List.foldl_cons];refine ih (fun q hq=>h q (by exact List.mem_cons_of_mem _ ‹_›)) hw ?_;have hp:=h p (List.mem_cons_self);rcases hb with hb|⟨hb,q,hq,hqd,hqw⟩
  ·left;unfold upd;by_cases hd:dng hk p.1=true
   ·rw[if_pos hd,hb];rcases hp hd with e|⟨e1,e2⟩
    ·simp[e,hw]
    ·simp[e2]
   ·rw[if_neg hd];exact hb
  ·by_cases hd:dng hk p.1=true
   ·rcases hp hd with e|⟨e1,e2⟩
    ·left;unfold upd;rw[if_pos hd]
     (rcases hb with zr5|⟨v,zr6,hv⟩<;>(try (replace zr5:=Eq.symm zr5;subst zr5))<;>(try (replace zr6:=Eq.symm zr6;subst zr6)))
     ·exact congrArg _ ‹_›
     ·simp[e,hv]
    ·right;refine⟨?_,?_⟩
     ·right;unfold upd;rw[if_pos hd]
      (rcases hb with zr7|⟨v,zr8,hv⟩<;>(try (replace zr7:=Eq.symm zr7;subst zr7))<;>(try (replace zr8:=Eq.symm zr8;subst zr8)))
      ·exact⟨p.2,rfl,e1⟩
      ·by_cases hl:zba p.2 v=true
       ·exact⟨p.2,by exact if_pos ‹_›,e1⟩
       ·exact⟨v,by exact if_neg ‹_›,hv⟩
     ·(rcases List.mem_cons.mp hq with zr9|hq<;>(try (replace zr9:=Eq.symm zr9;subst zr9)))
      ·rw[hqw] at e1;rw[hw] at e1;exact ff e1
      ·exact⟨q,hq,hqd,hqw⟩
   ·right;have:upd hk b p=b:=by unfold upd;rw[if_neg hd]
    rw[this];refine⟨hb,?_⟩
    (rcases List.mem_cons.mp hq with zr10|hq<;>(try (replace zr10:=Eq.symm zr10;subst zr10)))
    ·exact absurd hqd hd
    ·exact⟨q,hq,hqd,hqw⟩
theorem zbp(w:List Nat):zba w w=false:=by
 unfold zba;rw[if_pos rfl];have:∀l:List Int,z9 l l=false:=by
  intro l;induction l with
  |nil=>rfl
  |cons a l ih=>simp[zjI,ih]
 exact this _
theorem zvb(hm:mode<4)(hh:hk<2){n:Nat}{kw:KW}(I:Inv mode n kw.length kw):kw.foldl (upd hk) none=due mode hk n:=by
 have hhk:hk=0\/hk=1:=by lia
 have cls:∀p∈kw,dng hk p.1=true->(hk=1/\p.2=[n+1])\/(∃q∈al mode,p=(.X q.1,List.replicate q.2 n)/\dng hk (.X q.1)=true):=by
  intro p hp hd;rcases I.okk p hp with⟨A,e⟩|e|⟨q,hq,e,_⟩
  ·rw[e] at hd;exact ff hd
  ·left;refine⟨?_,by rw[e]⟩;rw[e] at hd
   simpa [dng] using hd
  ·right;exact⟨q,hq,e,by rw[e] at hd;exact hd⟩
 obtain⟨pg,hpg,epg⟩:=I.gg;obtain⟨ph,hph,eph⟩:=I.hh;have wh:ph.2=[n+1]:=by
  rcases I.okk ph hph with⟨A,e⟩|e|⟨q,hq,e,_⟩
  ·rw[e] at eph;cases eph
  ·rw[e]
  ·rw[e] at eph;cases eph
 have hdh:hk=1->dng hk ph.1=true:=by intro h;rw[eph,dng,h];rfl
 unfold due;have only:(∀q∈al mode,dng hk (.X q.1)=false)->kw.foldl (upd hk) none=if hk=1 then some [n+1] else none:=by
  intro hal;rcases hhk with h|h
  ·rw[if_neg (by lia)];refine zp6 ?_ none;intro p hp;rw[←Bool.not_eq_true];intro hd;rcases cls p hp hd with⟨h1,_⟩|⟨q,hq,_,hdq⟩
   ·lia
   ·rw[hal q hq] at hdq;exact ff hdq
  ·rw[if_pos h];refine zdv ?_ (zbp _) (Or.inr ⟨Or.inl rfl,ph,hph,hdh h,wh⟩);intro p hp hd;rcases cls p hp hd with⟨_,e⟩|⟨q,hq,_,hdq⟩
   ·exact Or.inl e
   ·rw[hal q hq] at hdq;exact ff hdq
 rcases zad hm with rfl|rfl|rfl|rfl
 ·rw[if_neg (by decide),if_neg (by simp)];refine only ?_;intro q hq;simp[al] at hq;subst hq;rfl
 ·rw[if_neg (by decide),if_neg (by simp)];refine only ?_;intro q hq;simp[al] at hq;rcases hq with rfl|rfl|rfl<;>rfl
 ·rw[if_pos rfl];have hgw:pg.2=[n]/\dng hk pg.1=true:=by
   rcases I.okk pg hpg with⟨A,e⟩|e|⟨q,hq,e,_⟩
   ·rw[e] at epg;cases epg
   ·rw[e] at epg;cases epg
   ·simp[al] at hq;subst hq;rw[e];exact⟨rfl,rfl⟩
  refine zdv ?_ (zbp _) (Or.inr ⟨Or.inl rfl,pg,hpg,hgw.2,hgw.1⟩);intro p hp hd;rcases cls p hp hd with⟨_,e⟩|⟨q,hq,e,_⟩
  ·right;rw[e];constructor<;>simp[zba,zjI]<;>lia
  ·left;simp[al] at hq;subst hq;rw[e];rfl
 ·rw[if_neg (by decide)];have i:∃i:Nat,kw[i]?=some pg:=by
   obtain⟨i,hi⟩:=List.mem_iff_getElem?.mp hpg;exact⟨i,hi⟩
  obtain⟨i,hi⟩:=i;have hil:i<kw.length:=by rw[List.getElem?_eq_some_iff] at hi;exact hi.1
  obtain⟨p2,hp2,e2⟩:=I.pr i hil pg hi _ epg;have hw2:p2.2=[n,n]/\dng hk p2.1=true:=by
   rcases I.okk p2 hp2 with⟨A,e⟩|e|⟨q,hq,e,_⟩
   ·rw[e] at e2;cases e2
   ·rw[e] at e2;cases e2
   ·simp[al] at hq;rcases hq with rfl|rfl
    ·rw[e] at e2;injection e2 with e2
     exact absurd e2 (by decide)
    ·rw[e];exact⟨rfl,rfl⟩
  have hX:∀p∈kw,dng hk p.1=true->p.2=[n,n]\/(hk=1/\p.2=[n+1]):=by
   intro p hp hd;rcases cls p hp hd with h|⟨q,hq,e,hdq⟩
   ·exact Or.inr h
   ·left;simp[al] at hq;rcases hq with rfl|rfl
    ·exact absurd hdq (show ¬((decide (zay (ggM 3) (ggM 3)=ggM 3)&&!shr (ggM 3))=true) by decide)
    ·rw[e];rfl
  rcases hhk with h|h
  ·rw[if_pos ⟨rfl,h⟩];refine zdv ?_ (zbp _) (Or.inr ⟨Or.inl rfl,p2,hp2,hw2.2,hw2.1⟩);intro p hp hd;rcases hX p hp hd with e|⟨e,_⟩
   ·exact Or.inl e
   ·lia
  ·rw[if_neg (by simp[h]),if_pos h];refine zdv ?_ (zbp _) (Or.inr ⟨Or.inl rfl,ph,hph,hdh h,wh⟩);intro p hp hd;rcases hX p hp hd with e|⟨_,e⟩
   ·right;rw[e];constructor<;>rfl
   ·exact Or.inl e
theorem zfJ(hm:mode<4)(hh:hk<2)(hN:2<=N){Fs:List Mx}(hnd:Fs.Nodup)(hF:Fs.length<100):zd G T 2000 (N+2) 16 [zo mode hk Fs]=.ok (zbe (due mode hk Fs.length)):=by
 obtain⟨kw,I,e⟩:=zwg (N:=N) hm hh hN hnd hF;have hlen:=I.len;obtain⟨t4,t5,e2⟩:=zuI (N:=N+1) (hk:=hk) hm hh (by exact Nat.le_succ_of_le ‹_›) I (zo mode hk Fs) kw 0 .none .none none rfl;have hl:zdU (.list (knL hk kw))=.ok (.int kw.length):=by rw[kK,zhf]
 rw[zom];simp only[zfe];rw[zT];simp only[zbf,jV,zP,zK,g_0,R.bind_ok,jc,zQ,zO,e,zpk,zgO,zlr,zn0,zv,List.set_cons_zero,List.set_cons_succ];rw[zT];simp only[zbf,ji,zu4,R.bind_ok,zao,zv,List.set_cons_zero,List.set_cons_succ];rw[zT,zkt hl rfl,zc8 (by exact qA ‹_› (by decide)),List.range_eq_range'];have e2':fl G (zd G T 2000 (N+1)) (zk G T 2000 (N+1)) 2000 (.one 4) dB ((List.range' 0 kw.length).map fun(k:Nat)=>PyData.int k) [zo mode hk Fs,.list (knL hk kw),.list (wyL kw),OO,OO,OO,OO,OO,OO,OO,OO]=_:=e2;rw[e2',zvb hm hh I];rfl
theorem zse(hm:mode<4)(hh:hk<2)(hN:2<=N){Fs:List Mx}(hnd:Fs.Nodup)(hF:Fs.length<100):zd G T 2000 (N+3) 17 [zo mode hk Fs]=.ok (.bool (due mode hk Fs.length).isNone):=by
 rw[zvG];simp only[ziS,kG,k7,zK,zdI,jV,zQ,zO,zP,jc,g_0,R.bind_ok,zxA,z5,zfJ (N:=N) hm hh hN hnd hF];cases due mode hk Fs.length<;>rfl
end
end Mine
namespace Mine
open PySem
noncomputable def jn:List (List Nat)->List Nat
 |[]=>[]
 |[a]=>a
 |a::b::r=>a++10::jn (b::r)
theorem ztH:∀(a:List Nat),jn [a]=a:=fun _=>rfl
theorem zqs:∀(a b:List Nat) (r:List (List Nat)),jn (a::b::r)=a++10::jn (b::r):=fun _ _ _=>rfl
theorem zkv:∀ls:List (List Nat),Str.join (S [10]) (ls.map S)=S (jn ls)
 |[]=>rfl
 |[a]=>rfl
 |a::b::r=>by
  have ih:=zkv (b::r);show S a++S [10]++Str.join (S [10]) ((b::r).map S)=_;rw[ih,zqm,zqm];simp[zqs]
theorem zuA:∀(ls ms:List (List Nat)),ls≠[]->ms≠[]->(∀l∈ls,10∉l)->(∀l∈ms,10∉l)->jn ls=jn ms->ls=ms:=by
 have cut:∀(a b c d:List Nat),10∉a->10∉c->a++10::b=c++10::d->a=c/\b=d:=by
  intro a;induction a with
  |nil=>
   intro b c d _ hc h;induction c using List.casesOn with
   |nil=>simpa using h
   |cons e c=>injection h with h _;exact absurd (by rw[←h];exact List.mem_cons_self) hc
  |cons e a ih=>
   intro b c d ha hc h;induction c using List.casesOn with
   |nil=>injection h with h _;exact absurd (by rw[h];exact List.mem_cons_self) ha
   |cons f c=>
    injection h with h1 h2
    obtain⟨h3,h4⟩:=ih b c d (fun hm=>ha (by exact List.mem_cons_of_mem _ ‹_›)) (fun hm=>hc (by exact List.mem_cons_of_mem _ ‹_›)) h2;exact⟨by rw[h1,h3],h4⟩
 intro ls;induction ls with
 |nil=>intro ms h;exact absurd rfl h
 |cons a ls ih=>
  intro ms _ hms hl hm h;induction ms using List.casesOn with
  |nil=>exact absurd rfl hms
  |cons c ms=>
   have ha:=hl a (List.mem_cons_self);have hc:=hm c (List.mem_cons_self);induction ls using List.casesOn with
   |nil=>
    induction ms using List.casesOn with
    |nil=>exact congrArg (fun z=>[z]) h
    |cons d ms=>
     exfalso;have h:a=c++10::jn (d::ms):=h;exact ha (by rw[h];simp)
   |cons b ls=>
    induction ms using List.casesOn with
    |nil=>
     exfalso;have h:a++10::jn (b::ls)=c:=h;exact hc (by rw[←h];simp)
    |cons d ms=>
     obtain⟨h1,h2⟩:=cut a _ c _ ha hc h;rw[h1,ih (d::ms) (by exact List.cons_ne_nil _ _) (by exact List.cons_ne_nil _ _) (fun l hx=>hl l (by simp at hx;simp;right;exact hx)) (fun l hx=>hm l (by simp at hx;simp;right;exact hx)) h2]
theorem zhR(ls:List (List Nat))(hne:ls≠[])(h:∀l∈ls,10∉l):Txt.split (S (jn ls)) (S [10])=ls.map S:=by
 have h1:=StrLaws.join_split (S (jn ls)) (S [10]);have h2:=StrLaws.split_free (S (jn ls)) 10;have h3:=PyProof.Rows.split_pos (S (jn ls)) (S [10]);generalize Txt.split (S (jn ls)) (S [10])=ps at *;have e:ps=(ps.map fun p=>p.cps.toList).map S:=by
  rw[List.map_map];have:(S ∘ fun p:Str=>p.cps.toList)=id:=by funext p;rfl
  rw[this,List.map_id]
 rw[e] at h1 ⊢;rw[zkv,zcy] at h1;rw[zuA _ ls (by intro hc;rw[List.map_eq_nil_iff] at hc;rw[hc] at h3;exact absurd h3 (Nat.not_lt_zero _)) hne ?_ h h1];intro l hl;obtain⟨p,hp,rfl⟩:=List.mem_map.mp hl;exact h2 p hp
end Mine
namespace Mine
open PySem
theorem zyK{p q:Tok}(h:p≠q):twC [p,q]=false:=by
 have:¬(q=p):=fun e=>h e.symm;simp[twC,List.range_succ,this]
theorem zyB(p:Tok):twC [p]=false:=by rfl
theorem zfr:zbT []:=by trivial
theorem zvd{f p q:Tok}{ts:List Tok}{d:D}{K n:Nat}(hf:kW f=true)(hp:kW p=true)(hq:kW q=true)(hpq:p≠q)(h:PX K ts d)(hn:K<=n):zcl n ([f,[40],p,[44],q,[41],[61]]++ts)=.ok ⟨f,[p,q],d⟩:=by
 have hx:=h n [] hn zfr;rw[List.append_nil] at hx;unfold zcl;simp only[jH,List.cons_append,List.nil_append,zbs,hf,if_true,R.bind_ok,drs,dr0,jb,hp];have hpr:prC [p] ([44]::q::[41]::[61]::ts)=.ok ([p,q],[41]::[61]::ts):=by
  rw[prC,if_pos rfl,if_pos hq];rw[prC,if_neg (by decide)];rfl
 rw[hpr];simp only[R.bind_ok,zbs,if_true,drs,dr0,hx];rw[if_neg (by simp[zyK hpq])]
theorem zxp{f p:Tok}{ts:List Tok}{d:D}{K n:Nat}(hf:kW f=true)(hp:kW p=true)(h:PX K ts d)(hn:K<=n):zcl n ([f,[40],p,[41],[61]]++ts)=.ok ⟨f,[p],d⟩:=by
 have hx:=h n [] hn zfr;rw[List.append_nil] at hx;unfold zcl;simp only[jH,List.cons_append,List.nil_append,zbs,hf,if_true,R.bind_ok,drs,dr0,jb,hp];have hpr:prC [p] ([41]::[61]::ts)=.ok ([p],[41]::[61]::ts):=by
  rw[prC,if_neg (by decide)]
 rw[hpr];simp only[R.bind_ok,zbs,if_true,drs,dr0,hx];rw[if_neg (by simp[zyB])]
theorem znA{k:Nat}{f:Tok}(hf:kW f=true)(h40:f≠[40])(hi:f≠tIf)(hd:zbi f=false){ta:List Tok}{a:D}(ha:PX k ta a):PN (k+5) ([f,[40]]++ta++[[41]]) (zbU f [a]):=by
 intro n r hn hr;have h1:=ha (n - 1 - 1) ([[41]]++r) (by lia) (by simp[zbT,pk]);rw[zjO (by exact qB (Nat.le_add_left _ _) ‹_›),exC,if_neg (by exact hi),zmp (by lia),atC,if_neg (by exact h40),if_neg (by simp[pk,hd])];simp only[List.append_assoc,List.cons_append,List.nil_append,drs,dr0] at h1 ⊢;simp only[jH,zbs,hf,if_true,R.bind_ok];rw[zbG,if_pos (Or.inl rfl)];simp only[drs,dr0,h1,R.bind_ok,List.nil_append];rw[zbG,if_neg (by simp[pk])];rfl
noncomputable abbrev tA:Tok:=[97]
noncomputable def hE(hk:Nat):D:=if hk=1 then zbU tH [zcv tA] else eIf tA (zfF 0) (zbU tH [zd3 (zcv tA)])
noncomputable def hT(hk:Nat):List Nat:=if hk=1 then[104,40,97,41] else[105,102,32,97,32,116,104,101,110,32,48,32,101,108,115,101,32,104,40,97,32,45,32,49,41]
noncomputable def j3(mode:Nat):List Nat:=[103,40,120,44,32,121,41,32,61,32]++(gE mode).text
noncomputable def zan(hk:Nat):List Nat:=[104,40,97,41,32,61,32]++hT hk
noncomputable def zcM(x y:Tok)(w:P7):Row:=⟨tF,[x,y],w.e.d⟩
noncomputable def zaT(mode:Nat):Row:=⟨tG,[tX,tY],(gE mode).d⟩
noncomputable def zaV(hk:Nat):Row:=⟨tH,[tA],hE hk⟩
theorem okX:zV tX:=⟨by decide,by decide⟩
theorem okY:zV tY:=⟨by decide,by decide⟩
theorem okA:zV tA:=⟨by decide,by decide⟩
theorem zpM{f p q:Tok}(hf:tok f=[f])(hp:zV p)(hq:zV q)(b:List Nat):tok (f++[40]++p++[44,32]++q++[41,32,61,32]++b)=[f,[40],p,[44],q,[41],[61]]++tok b:=by
 have e:f++[40]++p++[44,32]++q++[41,32,61,32]++b=f++40::(p++44::([]++32::(q++41::([]++32::([]++61::([]++32::b)))))):=by simp
 rw[e,jJ (by decide) (by decide),jJ (by decide) (by decide),zB,jJ (by decide) (by decide),zB,jJ (by decide) (by decide),zB,hf,hp.tok,hq.tok,zex];rfl
theorem ztD{mode n:Nat}(hn:40<=n):tok (j3 mode)≠[]/\zcl n (tok (j3 mode))=.ok (zaT mode):=by
 have e:j3 mode=tG++[40]++tX++[44,32]++tY++[41,32,61,32]++(gE mode).text:=rfl;rw[e,zpM (by decide) okX okY];refine⟨by exact List.cons_ne_nil _ _,?_⟩;have h:=(zfk okX okY (gE mode) (zih mode)).px;have:=zcT mode;exact zvd (by decide) okX.nb okY.nb (by decide) h (by lia)
theorem ztA{hk n:Nat}(hh:hk<2)(hn:40<=n):tok (zan hk)≠[]/\zcl n (tok (zan hk))=.ok (zaV hk):=by
 have hc:∀{k:Nat} {ta:List Tok} {a:D},PX k ta a->PN (k+5) ([tH,[40]]++ta++[[41]]) (zbU tH [a]):=fun h=>znA (by decide) (by decide) (by decide) (by decide) h;have h01:hk=0\/hk=1:=by lia
 rcases h01 with rfl|rfl
 ·have e:tok (zan 0)=[tH,[40],tA,[41],[61]]++([tIf,tA,zbv]++[j2 0]++[za8]++([tH,[40]]++([tA]++[[45],[49]])++[[41]])):=by decide
  rw[e];refine⟨by trivial,?_⟩;have h:=zoz (k:=9) okA.nb ((zj3 (i:=0) (by trivial)).px.mono (by decide)) (hc (zes okA.nb).minus.px).px;exact zxp (by decide) (by decide) h (by exact qB (Nat.le_add_left _ _) ‹_›)
 ·have e:tok (zan 1)=[tH,[40],tA,[41],[61]]++([tH,[40]]++[tA]++[[41]]):=by decide
  rw[e];refine⟨by trivial,?_⟩;exact zxp (by decide) (by decide) (hc (zes okA.nb).px).px (by exact qB (Nat.le_add_left _ _) ‹_›)
noncomputable def jZ(sp:List Nat)(x y:Tok)(t:List Nat):List Nat:=sp++[102]++sp++[40]++sp++x++sp++[44]++sp++y++sp++[41]++sp++[61]++sp++t++sp
theorem zf1(sp:List Nat)(x y:Tok)(t:List Nat):(jZ sp x y t).length=9*sp.length+x.length+y.length+t.length+5:=by
 simp only[jZ,List.length_append,List.length_cons,List.length_nil];lia
theorem zv2{sp:List Nat}(h:zas sp){x y:Tok}(hx:zV x)(hy:zV y)(t:List Nat):tok (jZ sp x y t)=[tF,[40],x,[44],y,[41],[61]]++tok t:=by
 have e:jZ sp x y t=sp++(tF++(sp++40::(sp++(x++(sp++44::(sp++(y++(sp++41::(sp++61::(sp++(t++sp))))))))))) :=by simp[jZ]
 rw[e,tsp h,zhK h _ (by decide),zdh (c:=40) (by decide) (by decide),tsp h,zhK h _ (by decide),zdh (c:=44) (by decide) (by decide),tsp h,zhK h _ (by decide),zdh (c:=41) (by decide) (by decide),tsp h,
  zdh (c:=61) (by decide) (by decide),tsp h,zyM h,hx.tok,hy.tok]
 have h1:tok tF=[tF]:=by decide
 rw[h1];simp
noncomputable def zbX(x y:Tok)(u:List Nat)(mode hk:Nat):List Nat:=[102,40]++x++[44,32]++y++[41,32,61,32]++u++[10]++j3 mode++[10]++zan hk++[10]
noncomputable def zhy(x y:Tok)(u:List Nat):List Nat:=tF++[40]++x++[44,32]++y++[41,32,61,32]++u
theorem zlg(mode:Nat)(hm:mode<4):10∉j3 mode/\(j3 mode).length<200:=by rcases zad hm with rfl|rfl|rfl|rfl<;>decide
theorem zmZ(hk:Nat)(hh:hk<2):10∉zan hk/\(zan hk).length<200:=by
 have h01:hk=0\/hk=1:=by lia
 rcases h01 with rfl|rfl<;>decide
theorem lkH:([0,1].all fun h=>zdC (zd G T 2000 5 6 [hE h,zh [tA],zh [tF,tG,tH],.list [.int 2,.int 2,.int 1]]) .none)=true:=by decide +kernel
theorem zwi{x y:Tok}{w:P7}{mode hk n:Nat}(hw:w.e.wf x y)(hd:w.e.dep<=10)(hh:hk<2)(hn:20<=n):
  lkA n (zbW [zcM x y w,zaT mode,zaV hk]) (zaJ [zcM x y w,zaT mode,zaV hk]) [zcM x y w,zaT mode,zaV hk]=.ok ():=by
 have e1:zbW [zcM x y w,zaT mode,zaV hk]=.list [ds tF,ds tG,ds tH]:=rfl;have e2:zaJ [zcM x y w,zaT mode,zaV hk]=.list [.int 2,.int 2,.int 1]:=rfl;rw[e1,e2];have l1:=zkO (x:=x) (y:=y) (ns:=[ds tF,ds tG,ds tH]) (cs:=[.int 2,.int 2,.int 1]) (j:=1) rfl rfl rfl w.e n hw (by lia);have l2:=zkO (x:=tX) (y:=tY) (ns:=[ds tF,ds tG,ds tH]) (cs:=[.int 2,.int 2,.int 1]) (j:=1) rfl rfl rfl (gE mode) n (zih mode) (by have:=zcT mode;lia);have l3:zd G T 2000 n 6 [hE hk,zh [tA],.list [ds tF,ds tG,ds tH],.list [.int 2,.int 2,.int 1]]=.ok .none:=by
  have:=List.all_eq_true.mp lkH hk (by have h01:hk=0\/hk=1:=(by lia);rcases h01 with rfl|rfl<;>trivial);exact j5 (j7 this) (by exact qB (Nat.le_add_left _ _) ‹_›)
 unfold lkA;show R.bind (zd G T 2000 n 6 [w.e.d,zh [x,y],_,_]) _=_;rw[l1];show R.bind (zd G T 2000 n 6 [(gE mode).d,zh [tX,tY],_,_]) _=_;rw[l2];show R.bind (zd G T 2000 n 6 [hE hk,zh [tA],_,_]) _=_;rw[l3];rfl
theorem zlS{n:Nat}{ls:List (List Nat)}{x y:Tok}{w:P7}{mode hk:Nat}(h:zbc n ls=.ok [zcM x y w,zaT mode,zaV hk])(hw:w.e.wf x y)(hd:w.e.dep<=10)(hh:hk<2)(hn:20<=n):zb1 n ls=.ok [zcM x y w,zaT mode,zaV hk]:=by
 unfold zb1;rw[h,R.bind_ok,if_neg]
 ·rw[zwi hw hd hh hn];rfl
 ·have:twC ([zcM x y w,zaT mode,zaV hk].map Row.f)=false:=by show twC [tF,tG,tH]=false;decide
  rw[this];simp
section
variable{x y:Tok}{v1 v2:Nat}{sp:List Nat}{mode:Nat}
noncomputable def jO(x y:Tok)(w:P7)(mode hk:Nat):D:=.list [(zcM x y w).d,(zaT mode).d,(zaV hk).d]
theorem ac{α:Type}{P:α->Prop}{a:α}{l:List α}(h:P a)(g:∀x∈l,P x):∀x∈a::l,P x:=fun x hx=>(List.mem_cons.mp hx).elim (fun e=>e▸h) (g x)
theorem a0{α:Type}{P:α->Prop}:∀x∈([]:List α),P x:=nofun
@[elab_as_elim] theorem up4{P:Nat->Prop}{n:Nat}(h:100<=n)(g:∀m,96<=m->P (m+4)):P n:=Nat.sub_add_cancel (qA (by decide:4<=100) h)▸g (n - 4) (Nat.sub_le_sub_right h 4)
theorem zkp(H:En x y v1 v2 sp mode){t:Tok}{L:Nat}(h:t.length<=L):(jZ sp x y t).length<=2+1+2+1+2+3+2+1+2+3+2+1+2+1+2+L+2:=(zg (zg (zg (zg (zg (zg (zg (zg (zg (zg (zg (zg (zg (zg (zg (zg H.sp.len l1) H.sp.len) l1) H.sp.len) H.lx) H.sp.len) l1) H.sp.len) H.ly) H.sp.len) l1) H.sp.len) l1) H.sp.len) h) H.sp.len)
theorem zk5(H:En x y v1 v2 sp mode){t:Tok}(h:10∉t):10∉jZ sp x y t:=(zJ (zJ (zJ (zJ (zJ (zJ (zJ (zJ (zJ (zJ (zJ (zJ (zJ (zJ (zJ (zJ H.sp.nl (by decide)) H.sp.nl) (by decide)) H.sp.nl) H.hx.nl) H.sp.nl) (by decide)) H.sp.nl) H.hy.nl) H.sp.nl) (by decide)) H.sp.nl) (by decide)) H.sp.nl) h) H.sp.nl)
theorem jl{a:Tok}{b:List Tok}{c:Tok}{n m:Nat}(h:a.length<=n)(g:(jn (c::b)).length<=m):(jn (a::c::b)).length<=n+(m+1):=zg h (Nat.succ_le_succ g)
theorem zig{n:Nat}{l:Tok}{ls:List Tok}{w:P7}{hk:Nat}(hnl:∀r∈l::ls,10∉r)(hll:∀r∈l::ls,r.length<900)(hlen:(jn (l::ls)).length<100000)(hn:(l::ls).length<1000)(hw:w.e.wf x y)(hd:w.e.dep<=10)(hh:hk<2)(h96:96<=n)
  (h:zbc (n+3) (l::ls)=.ok [zcM x y w,zaT mode,zaV hk]):zd G T 2000 (n+4) 8 [ds (jn (l::ls))]=.ok (jO x y w mode hk):=by
 have pq:=zh8 (n:=n) (zhR _ (List.cons_ne_nil _ _) hnl) hlen hll hn;rw[zlS h hw hd hh (qA (by decide) (qA h96 (Nat.le_add_right _ _)))] at pq;exact pq
theorem zj1{n:Nat}{l:Tok}{ls:List Tok}{r:R (List Row)}(h:tok l=[])(g:zbc n ls=r):zbc n (l::ls)=r:=(if_pos h).trans g
theorem zdV{n:Nat}{l:Tok}{ls:List Tok}{r:Row}{rs:List Row}(h:tok l≠[])(g:zcl n (tok l)=.ok r)(k:zbc n ls=.ok rs):zbc n (l::ls)=.ok (r::rs):=
 (if_neg h).trans ((congrArg (R.bind · _) g).trans (congrArg (R.bind · _) k))
theorem zpO{sp:Tok}(h:zas sp):tok sp=[]:=by rcases h with rfl|rfl|rfl<;>rfl
theorem ziD(H:En x y v1 v2 sp mode){L K V Dp Nc:Nat}{w:P7}(hg:Gd x y v1 v2 mode [] L K V Dp Nc w)(hL:L<500)(hK:K<100)(hD:Dp<=10){hk n:Nat}(hh:hk<2)(hn:100<=n):
  zd G T 2000 n 8 [ds (jn [sp,jZ sp x y w.t,sp,j3 mode,zan hk])]=.ok (jO x y w mode hk):=by
 refine up4 hn fun n hn=>?_;have hfl:=zkp H (qA hg.tl (qC hL));have q1:=zlg mode H.md;have q2:=zmZ hk hh;have g1:=ztD (mode:=mode) (n:=n+3) (qA (by decide) (qA hn (Nat.le_add_right _ _)));have g2:=ztA (hk:=hk) (n:=n+3) hh (qA (by decide) (qA hn (Nat.le_add_right _ _)));have hr:=zv2 H.sp H.hx H.hy w.t;refine zig (ac H.sp.nl (ac (zk5 H hg.nt) (ac H.sp.nl (ac q1.1 (ac q2.1 a0))))) (ac (bs H.sp.len rfl) (ac (bs hfl rfl) (ac (bs H.sp.len rfl) (ac (Nat.lt_trans q1.2 (by decide)) (ac (Nat.lt_trans q2.2 (by decide)) a0)))))
  (bs (jl H.sp.len (jl hfl (jl H.sp.len (jl (qC q1.2) (qC q2.2))))) rfl) (bs (Nat.le_refl _) rfl) hg.wf (qA hg.dep hD) hh hn
  (zj1 (zpO H.sp) (zdV (by rw[hr];exact List.cons_ne_nil _ _) ?_ (zj1 (zpO H.sp) (zdV g1.1 g1.2 (zdV g2.1 g2.2 rfl)))))
 rw[hr];exact zvd (by decide) H.hx.nb H.hy.nb H.xy hg.pt.px (qA (Nat.le_of_lt_succ hK) (Nat.add_le_add_right hn 3))
theorem zpg(x y:Tok)(u:List Nat)(mode hk:Nat):zbX x y u mode hk=jn [zhy x y u,j3 mode,zan hk,[]]:=by simp[zbX,zhy,ztH,zqs]
theorem zpR(H:En x y v1 v2 sp mode){u:Tok}{L:Nat}(h:u.length<=L):(zhy x y u).length<=1+1+3+2+3+4+L:=(zg (zg (zg (zg (zg (zg l1 l1) H.lx) l2) H.ly) l4) h)
theorem zm6(H:En x y v1 v2 sp mode){u:Tok}(h:10∉u):10∉zhy x y u:=(zJ (zJ (zJ (zJ (zJ (zJ (by decide) (by decide)) H.hx.nl) (by decide)) H.hy.nl) (by decide)) h)
theorem zhA(H:En x y v1 v2 sp mode){L K V Dp Nc:Nat}{w:P7}(hg:Gd x y v1 v2 mode [] L K V Dp Nc w)(hL:L<500)(hK:K<100)(hD:Dp<=10){hk n:Nat}(hh:hk<2)(hn:100<=n):
  zd G T 2000 n 8 [ds (zbX x y w.u mode hk)]=.ok (jO x y w mode hk):=by
 rw[zpg];refine up4 hn fun n hn=>?_;have hfl:=zpR H (qA hg.ul (qC hL));have q1:=zlg mode H.md;have q2:=zmZ hk hh;have g1:=ztD (mode:=mode) (n:=n+3) (qA (by decide) (qA hn (Nat.le_add_right _ _)));have g2:=ztA (hk:=hk) (n:=n+3) hh (qA (by decide) (qA hn (Nat.le_add_right _ _)));have hr:tok (zhy x y w.u)=_:=zpM (f:=tF) (by decide) H.hx H.hy w.u;refine zig (ac (zm6 H hg.nu) (ac q1.1 (ac q2.1 (ac nofun a0)))) (ac (bs hfl rfl) (ac (Nat.lt_trans q1.2 (by decide)) (ac (Nat.lt_trans q2.2 (by decide)) (ac (by decide) a0))))
  (bs (jl hfl (jl (qC q1.2) (jl (qC q2.2) (Nat.le_refl 0)))) rfl) (bs (Nat.le_refl _) rfl) hg.wf (qA hg.dep hD) hh hn
  (zdV (by rw[hr];exact List.cons_ne_nil _ _) ?_ (zdV g1.1 g1.2 (zdV g2.1 g2.2 (zj1 zex rfl))))
 rw[hr,hg.u];exact zvd (by decide) H.hx.nb H.hy.nb H.xy (zfk H.hx H.hy w.e hg.wf).px (by have:=hg.dep;lia)
end
end Mine
namespace Mine
open PySem
theorem txH:([0,1].all fun h=>zdC (zd G T 2000 5 9 [hE h]) (ds (hT h)))=true:=by decide +kernel
theorem h01{hk:Nat}(hh:hk<2):hk∈[0,1]:=by
 have h01:hk=0\/hk=1:=by lia
 rcases h01 with rfl|rfl<;>trivial
section
variable{x y:Tok}{v1 v2:Nat}{sp:List Nat}{mode:Nat}
theorem zve(hm:mode<4):(gE mode).text.length<200:=by rcases zad hm with rfl|rfl|rfl|rfl<;>decide
theorem zuK{hk:Nat}(hh:hk<2):(hT hk).length<200:=by
 have h01:hk=0\/hk=1:=by lia
 rcases h01 with rfl|rfl<;>decide
noncomputable abbrev shT(T f J t:Tok):Tok:=T++f++[40]++J++[41,32,61,32]++t++[10]
theorem zji{n:Nat}{ci:Nat->List D->R D}{x0 x2 x3 x4 x5 d ps:D}{T f J t:Tok}{xs:List D}{r:R (Fl×ze)}(hT:T.length<=10000)(hf:f.length<=10)(hJ:J.length<=100)(ht:t.length<=1000)(hj:zei (.str ⟨#[44,32]⟩) ps=.ok (ds J))(hd:zd G Mine.T 2000 n 9 [d]=.ok (ds t))
  (k:fl G (zd G Mine.T 2000 n) ci 2000 (.many [2,3,4]) shB xs [x0,ds (shT T f J t),ds f,ps,d,x5]=r):
  fl G (zd G Mine.T 2000 n) ci 2000 (.many [2,3,4]) shB (.tuple [ds f,ps,d]::xs) [x0,ds T,x2,x3,x4,x5]=r:=
 (congrArg (R.bind · (kFl G (zd G Mine.T 2000 n) ci 2000 (.many [2,3,4]) shB xs)) (jM (ρ:=[x0,ds T,ds f,ps,d,x5]) (Sv.add (Sv.add (Sv.add (Sv.add (Sv.add (Sv.add ⟨rfl,hT⟩ ⟨rfl,hf⟩ rfl) ⟨rfl,l1⟩ rfl) ⟨zvk rfl rfl hj,hJ⟩ rfl) ⟨rfl,l4⟩ rfl) ⟨zn rfl hd,ht⟩ rfl) ⟨rfl,l1⟩ rfl).h)).trans k
theorem ztP(T f J t:Tok):shT T f J t=T++(f++[40]++J++[41,32,61,32]++t)++[10]:=by simp only[shT,List.append_assoc]
theorem zv8(x y u g h:Tok):shT (shT (shT [] [102] (x++[44,32]++y) u) [103] [120,44,32,121] g) [104] [97] h=[102,40]++x++[44,32]++y++[41,32,61,32]++u++[10]++([103,40,120,44,32,121,41,32,61,32]++g)++[10]++([104,40,97,41,32,61,32]++h)++[10]:=by
 have e2:([102,40]:Tok)++(x++[44,32]++y)=[102,40]++x++[44,32]++y:=by rw[←List.append_assoc,←List.append_assoc]
 rw[ztP,ztP];exact congrArg (fun l=>l++[41,32,61,32]++u++[10]++([103,40,120,44,32,121,41,32,61,32]++g)++[10]++([104,40,97,41,32,61,32]++h)++[10]) e2
theorem zrJ(H:En x y v1 v2 sp mode){L K V Dp Nc:Nat}{w:P7}(hg:Gd x y v1 v2 mode [] L K V Dp Nc w)(hL:L<500)(hD:Dp<=10){hk n:Nat}(hh:hk<2)(hn:100<=n):
  zd G T 2000 n 10 [jO x y w mode hk]=.ok (ds (zbX x y w.u mode hk)):=by
 obtain⟨n,rfl,hn'⟩:=jK hn;have hul:=qA hg.ul (qC hL);have t1:=zkC w.e n hg.wf (by rw[←hg.u];exact qB hul (by decide)) (qB (qA hg.dep hD) (qD (by decide) hn'));rw[←hg.u] at t1;have hgl:=qC (zve (mode:=mode) H.md);have hhl:=qC (zuK hh);have t2:=zkC (gE mode) n (zih mode) (qB hgl (by decide)) (qB (zcT mode) (qD (by decide) hn'));have t3:zd G T 2000 n 9 [hE hk]=.ok (ds (hT hk)):=j5 (j7 (List.all_eq_true.mp txH hk (h01 hh))) (qA (by decide) hn');have a1:(x++[44,32]++y).length<=8:=zg (zg H.lx l2) H.ly;have l0:([]:Tok).length<=0:=Nat.le_refl 0;have b1:=zg (zg (zg (zg (zg (zg l0 (l1 (a:=102))) (l1 (a:=40))) a1) (l4 (a:=41) (b:=32) (c:=61) (d:=32))) hul) (l1 (a:=10));have a2:(tX++[44,32]++tY).length<=4:=Nat.le_refl 4;have b2:=zg (zg (zg (zg (zg (zg b1 (l1 (a:=103))) (l1 (a:=40))) a2) (l4 (a:=41) (b:=32) (c:=61) (d:=32))) hgl) (l1 (a:=10));rw[zu5];exact(Rt.fin (Rt.nxt rfl (Rt.nxt (zcH rfl (zji (T:=[]) (Nat.zero_le _) (Nat.le_of_ble_eq_true rfl) (qA a1 (Nat.le_of_ble_eq_true rfl)) (qA hul (Nat.le_of_ble_eq_true rfl)) (zot [44,32] x y (bs (Nat.add_le_add (Nat.add_le_add H.lx H.ly) (Nat.le_refl 2)) rfl)) t1
  (zji (qA b1 (Nat.le_of_ble_eq_true rfl)) (Nat.le_of_ble_eq_true rfl) (Nat.le_of_ble_eq_true rfl) (qA hgl (Nat.le_of_ble_eq_true rfl)) (zot [44,32] tX tY (by decide)) t2
  (zji (qA b2 (Nat.le_of_ble_eq_true rfl)) (Nat.le_of_ble_eq_true rfl) (Nat.le_of_ble_eq_true rfl) (qA hhl (Nat.le_of_ble_eq_true rfl)) (zyk [44,32] tA (by decide)) t3 rfl)))) (Rt.ret rfl)))).trans (congrArg (fun l=>R.ok (ds l)) (zv8 x y w.u (gE mode).text (hT hk)))
theorem zyA(hm:mode<4)(out:List D):cl tG tX tY (gE mode) [] out=j9 out (grD tG tG (ggM mode)):=by
 rcases zad hm with rfl|rfl|rfl|rfl<;>rfl
theorem bH:([false,true].all fun b=>zdC (zd G T 2000 2 11 [.dict [(zcC (0,0),.bool b)]]) (.list (oe 0 0 (some b))))=true:=by decide +kernel
theorem ziG{n:Nat}{kn:D}{a:D}{b:Bool}{out:List D}(hc:zk G T 2000 (n+2) 19 [ds tH,zh [tA],a,kn,.list out]=.ok (.list out))(hb:zd G T 2000 (n+2) 18 [a,zh [tA],kn]=.ok (.dict [(.int 0,.bool b)]))(hl:out.length<900):
  zk G T 2000 (n+3) 19 [ds tH,zh [tA],zbU tH [a],kn,.list out]=.ok (.list (j9 out (grD tH tH ((some b,none),(none,none))))):=by
 have har:zd G T 2000 (n+2) 11 [.dict [(.tuple [.int 0,.int 0],.bool b)]]=.ok (.list (oe 0 0 (some b))):=
  j5 (j7 (List.all_eq_true.mp bH b (by cases b<;>trivial))) (Nat.le_add_left _ _)
 have hni:zbR (.tuple [ds tH,ds tH,.list (oe 0 0 (some b))]) (.list out)=.ok (.bool !(out.any fun y=>PyData.eqv y (grD tH tH ((some b,none),(none,none))))):=
  zdd (x:=grD tH tH ((some b,none),(none,none))) rfl (qA (kr _ _ _ _) (by decide)) out
 have k1:∀{cf cio:Nat->List D->R D} {s:PS} {ρ:ze} {z:D},zc1 G cf cio 2000 (.one 6) true s ρ (.int (([z]:List D).length:Nat))=fl G cf cio 2000 (.one 6) s [.int 0] ρ:=zc8 (m:=1) (Nat.succ_pos _);have pt:zbL (.dict []) (.tuple [.int 0,.int 0]) (.bool b)=.ok (.dict [(.tuple [.int 0,.int 0],.bool b)]):=rfl;rw[k6];simp only[za0,zT,zv,zbf,zao,zjV,znU,zjt,jr,jB,jj,zby,jN,zaP,jT,zW,kc,zup,ji,zK,zdI,z0,z6,zej,zdz,k8,zfh,jV,zQ,zO,zP,jc,g_0,g_s,jx,zdm,R.bind_ok,List.set_cons_zero,List.set_cons_succ,jo,kT,zR,zbS,zh9,zk3,zaI,List.any_cons,List.any_nil,zfu,zdZ,je,jq,k5,kz,↓zko,zc7,zc5,ze5,kK,k1,kJ,zoE,List.cons_append,List.nil_append,hc,zgf,zdp,hb,fd1,gd0,zi0,pt,har,hni];unfold j9;rcases Bool.eq_false_or_eq_true (out.any fun y=>PyData.eqv y (grD tH tH ((some b,none),(none,none)))) with hw|hw
 ·rw[hw];rfl
 ·rw[hw];have a1:zfG (.list out) (.tuple [ds tH,ds tH,.list (oe 0 0 (some b))])=_:=zdW (by exact qD ‹_› (by decide)) rfl;simp only[zfQ,jB,zK,g_0,g_s,R.bind_ok,List.set_cons_zero,List.set_cons_succ,↓reduceIte,Bool.false_eq_true,zqj,kR,zgL,a1,zdp];rfl
theorem zqJ{hk n:Nat}(hh:hk<2)(hn:20<=n){out:List D}(hl:out.length<900):zk G T 2000 n 19 [ds tH,zh [tA],hE hk,zh [],.list out]=.ok (.list (j9 out (grD tH tH (hhM hk)))):=by
 have nm:∀(m:Nat) (kn:D),zk G T 2000 (m+1) 19 [ds tH,zh [tA],zcv tA,kn,.list out]=.ok (.list out):=by
  intro m kn;rw[k6];rfl
 have ix:zdX (zh [tA]) (ds tA)=.ok (.int 0):=rfl;have bn:∀(m:Nat) (kn:D),zd G T 2000 (m+1) 18 [zcv tA,zh [tA],kn]=.ok (.dict [(.int 0,.bool false)]):=by
  intro m kn;rw[zaK];rfl
 have h01:hk=0\/hk=1:=by lia
 rcases h01 with rfl|rfl
 ·obtain⟨n,rfl⟩:∃k,n=k+4:=⟨n - 4,by lia⟩;have c1:zk G T 2000 (n+2) 19 [ds tH,zh [tA],zd3 (zcv tA),zh [tA],.list out]=.ok (.list out):=by
   have:=nm n (zh [tA]);rw[k6];rfl
  have c2:zd G T 2000 (n+2) 18 [zd3 (zcv tA),zh [tA],zh [tA]]=.ok (.dict [(.int 0,.bool true)]):=by
   have:=bn n (zh [tA]);have hin:inD (ds tA) (zh [tA])=.ok (.bool true):=by rw[zax];rfl
   rw[zaK];rfl
  have c3:=ziG c1 c2 hl;have c4:zk G T 2000 (n+3) 19 [ds tH,zh [tA],zfF 0,zh [],.list out]=.ok (.list out):=by
   rw[k6];rfl
  have ha:zdx (zh []) (.list [ds tA])=.ok (zh [tA]):=zeT [] tA (by trivial);show zk G T 2000 (n+3+1) 19 [ds tH,zh [tA],eIf tA (zfF 0) (zbU tH [zd3 (zcv tA)]),zh [],.list out]=_;rw[k6];simp only[za0,zT,zv,jr,jB,jj,zup,ji,zK,z0,z6,zej,zdz,k8,zbq,zQ,zO,zP,jc,g_0,g_s,jx,zdm,R.bind_ok,List.set_cons_zero,List.set_cons_succ,zdO,jo,zR,zk3,List.any_cons,List.any_nil,zfu,zgi,je,jq,k5,zbK,kz,↓ztF,zfj,zeM,zoE,List.cons_append,List.nil_append,c4,zgf,zdp,ha,c3];rfl
 ·obtain⟨n,rfl⟩:∃k,n=k+3:=⟨n - 3,by lia⟩;exact ziG (nm (n+1) _) (bn (n+1) _) hl
theorem ze1:∀(gs out:List D),(gs.foldl j9 out).length<=out.length+gs.length:=by
 intro gs;induction gs with
 |nil=>intro out;simp
 |cons g gs ih=>intro out;have:=ih (j9 out g);have:=zdu out g;simp;lia
theorem zjs(H:En x y v1 v2 sp mode){L K V Dp Nc:Nat}{w:P7}(hg:Gd x y v1 v2 mode [] L K V Dp Nc w)(hD:Dp<=10)(hN:Nc<100){hk n:Nat}(hh:hk<2)(hn:30<=n):
  zd G T 2000 n 20 [jO x y w mode hk]=.ok (.list ((w.gs++[grD tG tG (ggM mode),grD tH tH (hhM hk)]).foldl j9 [])):=by
 obtain⟨n,rfl⟩:∃k,n=k+1:=⟨n - 1,by exact(Nat.sub_add_cancel (qB (Nat.zero_le _) ‹_›)).symm⟩;have hdp:=hg.dep;have hnc:=hg.nc;have hgl:=hg.gl;have c1:=zho (f:=tF) H.xy w.e n [] [] hg.wf (by simp;lia) (by simp;lia) (by lia);rw[hg.cl] at c1;have hl1:=ze1 w.gs [];have c2:=zho (f:=tG) (p:=tX) (q:=tY) (by decide) (gE mode) n [] (w.gs.foldl j9 []) (zih mode) (by have:=zcT mode;simp;exact qB ‹_› (by decide)) (by
  have:(gE mode).nc=1:=by rcases zad H.md with rfl|rfl|rfl|rfl<;>rfl
  simp at hl1;lia) (by have:=zcT mode;lia)
 rw[zyA H.md] at c2;have hl2:=zdu (w.gs.foldl j9 []) (grD tG tG (ggM mode));have c3:=zqJ (hk:=hk) (n:=n) hh (by lia) (out:=j9 (w.gs.foldl j9 []) (grD tG tG (ggM mode))) (by simp at hl1;lia);have e:∀l:List D,(PyData.list l)=.list l:=fun l=>rfl;rw[zsf];have z:zh []=.list []:=rfl;rw[z] at c1 c2 c3;simp only[zgp,jO,zcM,zaT,zaV,Row.d,zT,zv,zlr,zgO,ziW,zgz,zby,zag,jN,zaP,jT,zW,zna,kG,k7,zup,zK,zbq,zQ,zO,zP,jc,g_0,g_s,R.bind_ok,List.set_cons_zero,List.set_cons_succ,z5,zcf,zoE,List.cons_append,List.nil_append,c1,c2,c3,zgf,zdp,List.foldl_append,List.foldl_cons,List.foldl_nil]
end
end Mine
namespace Mine
open PySem
noncomputable def zck(l:List Mx)(A:Mx):List Mx:=if A∈l then l else l++[A]
theorem zsH(f g:Tok)(l:List Mx)(A:Mx):j9 (l.map (grD f g)) (grD f g A)=(zck l A).map (grD f g):=by
 unfold j9 zck;have:((l.map (grD f g)).any fun x=>PyData.eqv x (grD f g A))=true↔A∈l:=by
  simp only[List.any_eq_true,List.mem_map];constructor
  ·rintro⟨d,⟨B,hB,rfl⟩,h⟩;rw[←(kM h).2.2];exact hB
  ·intro h;exact⟨_,⟨A,h,rfl⟩,zgs f g A⟩
 by_cases h:A∈l
 ·rw[if_pos (this.mpr h),if_pos h]
 ·rw[if_neg (fun hc=>h (this.mp hc)),if_neg h];simp
theorem zql(f g:Tok):∀(As l:List Mx),(As.map (grD f g)).foldl j9 (l.map (grD f g))=(As.foldl zck l).map (grD f g):=by
 intro As;induction As with
 |nil=>intro l;rfl
 |cons A As ih=>intro l;rw[List.map_cons,List.foldl_cons,zsH,ih,List.foldl_cons]
set_option tactic.hygienic true in
theorem zso{l:List Mx}(h:l.Nodup)(A:Mx):(zck l A).Nodup:=by
 unfold zck;split
 ·exact h
 ·rename_i hn;rw[List.nodup_append];refine⟨h,by simp,?_⟩;intro a ha b hb;have:b=A:=by simpa using hb
  (replace this:=Eq.symm this;subst this)
  (rintro zr3<;>(try (replace zr3:=Eq.symm zr3;subst zr3)));exact hn ha
theorem zqd:∀(As l:List Mx),l.Nodup->(As.foldl zck l).Nodup:=by
 intro As;induction As with
 |nil=>intro l h;exact h
 |cons A As ih=>intro l h;exact ih _ (zso h A)
theorem zmS:∀(As l:List Mx),(As.foldl zck l).length<=l.length+As.length:=by
 intro As;induction As with
 |nil=>intro l;simp
 |cons A As ih=>
  intro l;have:=ih (zck l A);have h2:(zck l A).length<=l.length+1:=by unfold zck;split<;>simp
  simp;lia
theorem znP{gs:List D}(h:∀g∈gs,∃o o',g=gD tF tG o o'):∃As:List Mx,gs=As.map (grD tF tG):=by
 induction gs with
 |nil=>exact⟨[],rfl⟩
 |cons g gs ih=>
  obtain⟨o,o',e⟩:=h g (List.mem_cons_self);obtain⟨As,eA⟩:=ih (fun g' hg'=>h g' (by exact List.mem_cons_of_mem _ ‹_›));exact⟨(o,o')::As,by rw[eA,e];rfl⟩
theorem zgP{gs:List D}{Nc:Nat}(h:∀g∈gs,∃o o',g=gD tF tG o o')(hl:gs.length<=Nc)(mode hk:Nat):∃Fs:List Mx,Fs.Nodup/\Fs.length<=Nc/\(PyData.list ((gs++[grD tG tG (ggM mode),grD tH tH (hhM hk)]).foldl j9 []))=zo mode hk Fs:=by
 obtain⟨As,rfl⟩:=znP h;refine⟨As.foldl zck [],zqd As [] (by trivial),?_,?_⟩
 ·have:=zmS As [];simp at this hl;exact qA ‹_› ‹_›
 ·rw[List.foldl_append];have e0:(As.map (grD tF tG)).foldl j9 []=(As.foldl zck []).map (grD tF tG):=zql tF tG As [];rw[e0];have e1:j9 ((As.foldl zck []).map (grD tF tG)) (grD tG tG (ggM mode))=(As.foldl zck []).map (grD tF tG)++[grD tG tG (ggM mode)]:=by
   unfold j9;rw[if_neg];simp only[List.any_eq_true,List.mem_map];rintro⟨d,⟨B,_,rfl⟩,h⟩;exact absurd (kM h).1 (by decide)
  have e2:j9 ((As.foldl zck []).map (grD tF tG)++[grD tG tG (ggM mode)]) (grD tH tH (hhM hk))=(As.foldl zck []).map (grD tF tG)++[grD tG tG (ggM mode)]++[grD tH tH (hhM hk)]:=by
   unfold j9;rw[if_neg];simp only[List.any_eq_true,List.mem_append,List.mem_map,List.mem_singleton];rintro⟨d,(⟨B,_,rfl⟩|rfl),h⟩
   ·exact absurd (kM h).1 (by decide)
   ·exact absurd (kM h).1 (by decide)
  rw[List.foldl_cons,List.foldl_cons,List.foldl_nil,e1,e2];unfold zo zc;rw[List.map_append,List.map_map];simp[Nd.dd,Function.comp_def]
section
variable{mode hk N:Nat}{Fs:List Mx}
theorem zuX{g:D}:zd G T 2000 (N+1) 13 [g,.list []]=.ve:=by
 rw[zbj];rfl
theorem zuq{g:D}:zd G T 2000 (N+1) 13 [g,.list [.int (-1)]]=.ve:=by
 rw[zbj];rfl
theorem kg:zdU (zo mode hk Fs)=.ok (.int ((Fs.length:Int)+2)):=zeU
theorem zwa:zd G T 2000 (N+1) 13 [zo mode hk Fs,.list [.int ((Fs.length:Int)+2)]]=.ve:=by
 have h:decide (((Fs.length:Int)+2)<0)=false:=by rw[decide_eq_false_iff_not];lia
 have h2:decide (((Fs.length:Int)+2)<=((Fs.length:Int)+2))=true:=by simp
 rw[zbj];simp only[zbk,zT,zv,jv,jr,jB,jj,zby,zag,jT,zW,kc,zez,ji,zK,zdI,z0,z6,zej,zdz,k8,zbq,zQ,g_0,g_s,jx,R.bind_ok,R.bind_ve,List.set_cons_zero,List.set_cons_succ,jo,zbJ,zdq,zbS,zcf,zaf,List.isEmpty_cons,zaN,h,kg,zdy,h2]
theorem zbN{i:Int}(h0:0<=i)(h1:i<(Fs.length:Int)+2):decide (i<0)=false/\decide ((Fs.length:Int)+2<=i)=false:=by
 constructor<;>rw[decide_eq_false_iff_not]<;>lia
theorem zpS:jg (zo mode hk Fs) (.int (Fs.length:Int))=.ok (grD tG tG (ggM mode)):=za5 (zjY mode Fs)
theorem zqB:jg (zo mode hk Fs) (.int ((Fs.length:Int)+1))=.ok (grD tH tH (hhM hk)):=za5 (k:=Fs.length+1) (zg0 mode Fs)
theorem zks(d:D)(l:List D):ziA (.list (d::l)) (.int 1)=.ok (.list l):=rfl
theorem zuF:zd G T 2000 (N+2) 13 [zo mode hk Fs,.list [.int (Fs.length:Int),.int ((Fs.length:Int)+1)]]=.ve:=by
 obtain⟨a1,a2⟩:=zbN (Fs:=Fs) (i:=(Fs.length:Int)) (Int.natCast_nonneg _) (by lia);obtain⟨b1,b2⟩:=zbN (Fs:=Fs) (i:=(Fs.length:Int)+1) (Int.natCast_nonneg _) (by lia);have hc:zd G T 2000 (N+1) 12 [grD tG tG (ggM mode),grD tH tH (hhM hk)]=.ve:=by
  have i1:jg (grD tG tG (ggM mode)) (.int 1)=.ok (ds tG):=rfl;have i2:jg (grD tH tH (hhM hk)) (.int 0)=.ok (ds tH):=rfl;have hne:¬(S tG=S tH):=by rw[zcy];decide
  rw[zmx];rfl
 rw[zbj];simp only[zbk,zT,zv,jv,zbf,zao,jr,jj,zby,zag,jN,zaP,jT,zW,kc,ji,zK,zdI,z0,z6,zej,zdz,k8,zbq,jV,zQ,zO,zP,jc,g_0,g_s,jx,R.bind_ok,R.bind_ve,List.set_cons_zero,List.set_cons_succ,jo,zbJ,zdq,zR,zeE,zbS,zcf,zaf,List.isEmpty_cons,zaN,kg,zdy,a1,a2,b1,b2,kJ,zpS,zqB,zks,hc]
theorem zxU:zd G T 2000 (N+1) 13 [zo mode hk Fs,.list [.int (Fs.length:Int)]]=.ok (grD tG tG (ggM mode)):=by
 obtain⟨a1,a2⟩:=zbN (Fs:=Fs) (i:=(Fs.length:Int)) (Int.natCast_nonneg _) (by lia);rw[zbj];simp only[zbk,zT,zv,jv,zbf,zao,jr,jj,zby,zag,jN,zaP,jT,zW,kc,kG,k7,ji,zK,zdI,z0,z6,zej,zdz,k8,zbq,zQ,g_0,g_s,jx,R.bind_ok,List.set_cons_zero,List.set_cons_succ,jo,zbJ,zdq,zR,zeE,zbS,z5,zcf,zaf,List.isEmpty_cons,zaN,kg,zdy,a1,a2,kJ,zpS,zks]
theorem zqw:zd G T 2000 (N+1) 13 [zo mode hk Fs,.list [.int ((Fs.length:Int)+1)]]=.ok (grD tH tH (hhM hk)):=by
 obtain⟨b1,b2⟩:=zbN (Fs:=Fs) (i:=(Fs.length:Int)+1) (Int.natCast_nonneg _) (by lia);rw[zbj];simp only[zbk,zT,zv,jv,zbf,zao,jr,jj,zby,zag,jN,zaP,jT,zW,kc,kG,k7,ji,zK,zdI,z0,z6,zej,zdz,k8,zbq,zQ,g_0,g_s,jx,R.bind_ok,List.set_cons_zero,List.set_cons_succ,jo,zbJ,zdq,zR,zeE,zbS,z5,zcf,zaf,List.isEmpty_cons,zaN,kg,zdy,b1,b2,kJ,zqB,zks]
theorem zyb(hm:mode<4)(hN:2<=N):zd G T 2000 (N+1) 13 [zo mode hk Fs,.list [.int (Fs.length:Int),.int (Fs.length:Int)]]=.ok (grD tG tG (zay (ggM mode) (ggM mode))):=by
 obtain⟨a1,a2⟩:=zbN (Fs:=Fs) (i:=(Fs.length:Int)) (Int.natCast_nonneg _) (by lia);have hc:=znw (n:=N) hm hN (zoT hm);rw[zbj];simp only[zbk,zT,zv,jv,zbf,zao,jr,jj,zby,zag,jN,zaP,jT,zW,kc,kG,k7,ji,zK,zdI,z0,z6,zej,zdz,k8,zbq,jV,zQ,zO,zP,jc,g_0,g_s,jx,R.bind_ok,List.set_cons_zero,List.set_cons_succ,jo,zbJ,zdq,zR,zeE,zbS,z5,zcf,zaf,List.isEmpty_cons,zaN,kg,zdy,a1,a2,kJ,zpS,zks,hc]
end
section
variable{x y:Tok}{v1 v2:Nat}{sp:List Nat}{mode:Nat}
noncomputable def ziE(x y:Tok)(w:P7)(mode hk:Nat):D:=.dict [(ds tF,.tuple [zh [x,y],w.e.d]),(ds tG,.tuple [zh [tX,tY],(gE mode).d]),(ds tH,.tuple [zh [tA],hE hk])]
theorem zf3{w:P7}{hk n:Nat}{vs lim:D}{r:D}(h:zd G T 2000 n 22 [ziE x y w mode hk,ds tF,vs,lim]=.ok (.tuple [r,.int 0])):zd G T 2000 (n+1) 24 [jO x y w mode hk,ds tF,vs,lim]=.ok r:=by
 have p0:∀v:List D,zbL (.dict []) (ds tF) (.tuple v)=.ok (.dict [(ds tF,.tuple v)]):=fun v=>rfl;have p1:∀v v':List D,zbL (.dict [(ds tF,.tuple v)]) (ds tG) (.tuple v')=.ok (.dict [(ds tF,.tuple v),(ds tG,.tuple v')]):=fun v v'=>rfl;have p2:∀v v' v'':List D,zbL (.dict [(ds tF,.tuple v),(ds tG,.tuple v')]) (ds tH) (.tuple v'')=.ok (.dict [(ds tF,.tuple v),(ds tG,.tuple v'),(ds tH,.tuple v'')]):=fun v v' v''=>rfl;have hdh:isDict (hE hk)=false:=by unfold hE;split<;>rfl
 unfold ziE at h;rw[zxS];simp only[zpl,jO,zcM,zaT,zaV,Row.d,zT,zv,zlr,zgO,zjV,znU,zjt,zby,zag,jN,zaP,jT,zW,zna,kG,k7,ji,zK,z0,z6,zfh,jV,zQ,zO,zP,jc,g_0,g_s,jx,R.bind_ok,List.set_cons_zero,List.set_cons_succ,zR,z5,zh9,List.any_cons,List.any_nil,zfu,zdZ,hdh,zxe,zi0,p0,p1,p2,zdp,h,je]
theorem zuH(H:En x y v1 v2 sp mode){L K V Dp Nc:Nat}{w:P7}(hg:Gd x y v1 v2 mode [] L K V Dp Nc w)(hD:Dp<=10){hk n:Nat}(hn:600<=n):
  zd G T 2000 n 24 [jO x y w mode hk,ds tF,.list [.int v1,.int v2],.int (w.n+1:Nat)]=.ok (.int w.v)/\
  zd G T 2000 n 24 [jO x y w mode hk,ds tF,.list [.int v1,.int v2],.int w.n]=.ok .none:=by
 have hdp:=hg.dep;obtain⟨n,rfl⟩:∃k,n=k+2:=⟨n - 2,by lia⟩;have dF:jg (ziE x y w mode hk) (ds tF)=.ok (.tuple [zh [x,y],w.e.d]):=rfl;have dG:jg (ziE x y w mode hk) (ds tG)=.ok (.tuple [zh [tX,tY],(gE mode).d]):=rfl;have hv:∀l:Nat,zd G T 2000 n 23 [ziE x y w mode hk,w.e.d,.dict [(ds x,.int v1),(ds y,.int v2)],.int l]=.ok (zl6 (iv (zae mode) x v1 v2 w.e l)):=by
  intro l;refine zhz (Pr:=fun a b=>a<=30/\b<=30) (M:=8*62+10) H.xy ?_ w.e n l hg.wf hg.cp (by lia);intro va vb l m hp hm;refine zrX dG (jf mode va vb) va vb l m rfl ?_;have:jf mode va vb<=62:=by unfold jf;split;lia;split<;>lia
  lia
 constructor
 ·refine zf3 ?_;rw[zjB H.xy dF (hv w.n),hg.val,if_pos (Nat.le_refl _),Nat.sub_self];rfl
 ·refine zf3 ?_;cases hn0:w.n with
  |zero=>exact zo5
  |succ l=>
   rw[zjB H.xy dF (hv l),hg.val,if_neg (by lia)];rfl
end
end Mine
namespace Mine
open PySem
noncomputable def ztU(mode hk:Nat):D:=.tuple [.list [ds (j3 mode),ds (zan hk)],.list [(zaT mode).d,(zaV hk).d],.list [grD tG tG (ggM mode),grD tH tH (hhM hk)]]
theorem zo6:(zef.all fun(m:Nat)=>[0,1].all fun(h:Nat)=>zdC (zd G T 2000 1 31 [.int m,.int h]) (ztU m h))=true:=by decide +kernel
theorem zca{m:Nat}(hm:m<4):m∈zef:=by rcases zad hm with rfl|rfl|rfl|rfl<;>trivial
theorem zrb{mode hk n:Nat}(hm:mode<4)(hh:hk<2)(hn:1<=n):zd G T 2000 n 31 [.int mode,.int hk]=.ok (ztU mode hk):=
 j5 (j7 (List.all_eq_true.mp (List.all_eq_true.mp zo6 mode (zca hm)) hk (h01 hh))) hn
noncomputable def zl3(k c:Nat):List Nat:=match G.getD 4 .none with
 |.tuple xs=>match xs.getD k .none with
  |.tuple ys=>match ys.getD c .none with
   |.str s=>s.cps.toList
   |_=>[]
  |_=>[]
 |_=>[]
noncomputable def zsM:List Nat:=[0,1,2,3,4,5,6,7,8]
noncomputable def zrl(k m:Nat):Bool:=zsM.all fun c=>zxJ (zb1 60 [zl3 k c,j3 m])&&decide (10∉zl3 k c)&&decide ((zl3 k c).length<100)
theorem zy2:(zef.all fun m=>zrl 0 m)=true:=by decide +kernel
theorem zza:(zef.all fun m=>zrl 1 m)=true:=by decide +kernel
theorem zyJ:(zef.all fun m=>zrl 2 m)=true:=by decide +kernel
theorem zrs:([0,1,2].all fun(k:Nat)=>zsM.all fun(c:Nat)=>zdC (R.bind (jg (G.getD 4 .none) (.int k)) fun d=>jg d (.int c)) (ds (zl3 k c)))=true:=by decide +kernel
theorem zb4{l:List Nat}{ls:List (List Nat)}{n m:Nat}(e:l=jn ls)(hne:ls≠[])(hnl:∀r∈ls,10∉r)(hll:∀r∈ls,r.length<900)(hlen:l.length<100000)(hl:ls.length<1000)(h:zb1 (m+3) ls=.ve)(hn:m+4<=n):zd G T 2000 n 8 [ds l]=.ve:=by
 subst e;have pq:=zh8 (n:=m) (zhR ls hne hnl) hlen hll hl;rw[h] at pq;exact zj4 pq hn
noncomputable def zch(kind c:Nat)(frow grow:List Nat):List Nat:=
 if kind<3 then zl3 kind (c % 9)++[10]++grow
 else if kind=3 then frow.take (c % frow.length)++[63]++frow.drop (c % frow.length)++[10]++grow
 else[32,10,10]
theorem zoX(l:List Nat)(i:Nat)(h:i<=l.length):zk9 (ds l) (.int i)=.ok (ds (l.take i)):=by
 show(if(0:Int)<=i then R.ok (PyData.str (sub (S l) 0 (min (i:Int).toNat (S l).length))) else if(i:Int)=-1/\1<=(S l).length then R.ok (PyData.str (sub (S l) 0 ((S l).length - 1))) else .stuck)=_;rw[if_pos (by exact Int.natCast_nonneg _)];have:sub (S l) 0 (min (i:Int).toNat (S l).length)=S (l.take i):=by
  unfold sub;simp[List.extract]
 rw[this]
theorem zph(l:List Nat)(i:Nat)(h:i<=l.length):ziA (ds l) (.int i)=.ok (ds (l.drop i)):=by
 show(if(0:Int)<=i/\(i:Int)<=(l.length:Nat) then R.ok (PyData.str (sub (S l) (i:Int).toNat (S l).length)) else .stuck)=_;rw[if_pos (by lia)];have:sub (S l) (i:Int).toNat (S l).length=S (l.drop i):=by
  unfold sub;simp[List.extract];exact List.take_of_length_le (by simp)
 rw[this]
theorem zpF(c:Int)(k:Nat)(hk:0<k):zh7 (.int c) (.int k)=.ok (.int ((c % (k:Int)).toNat:Nat)):=by
 show(if(0:Int)<k then R.ok (PyData.int (c % (k:Int))) else .stuck)=_;rw[if_pos (by exact Int.ofNat_lt.mpr ‹_›)];have:0<=c % (k:Int):=Int.emod_nonneg _ (by lia);congr 2;lia
noncomputable def md(s:Int)(k:Nat):Nat:=(s % (k:Int)).toNat
theorem ku(s:Int){k:Nat}(hk:0<k):zh7 (.int s) (.int k)=.ok (.int (md s k)):=zpF s k hk
theorem zd5(s:Int){k:Nat}(hk:0<k):md s k<k:=(Int.toNat_lt (Int.emod_nonneg s (Int.ne_of_gt (Int.ofNat_lt.mpr hk)))).mpr (Int.emod_lt_of_pos s (Int.ofNat_lt.mpr hk))
theorem zty{i:Nat}(h:i<9):i∈zsM:=by
 have k:(List.range 9).all (fun i=>zsM.contains i)=true:=by decide
 exact List.contains_iff_mem.mp (List.all_eq_true.mp k i (List.mem_range.mpr h))
theorem zkf{kind mode:Nat}(h:kind<3)(hm:mode<4):zrl kind mode=true:=by
 match kind,h with
 |0,_=>exact List.all_eq_true.mp zy2 mode (zca hm)
 |1,_=>exact List.all_eq_true.mp zza mode (zca hm)
 |2,_=>exact List.all_eq_true.mp zyJ mode (zca hm)
theorem zvs{α β:Type}{x:R α}{f:α->R β}{r:β}(h:R.bind x f=.ok r):∃a,x=.ok a/\f a=.ok r:=by
 induction x using R.casesOn with
 |ok a=>exact⟨a,rfl,h⟩
 |ve=>exact nv h
 |stuck=>exact ns h
theorem zlB{n:Nat}(kind:Nat)(hkind:kind<5)(c:Int)(frow grow:List Nat)(hf:0<frow.length)(hf2:frow.length<5000)(hg:grow.length<5000):∃c':Nat,zd G T 2000 (n+1) 32 [.int kind,.int c,ds frow,ds grow]=.ok (ds (zch kind c' frow grow)):=by
 replace hg:=qC hg;by_cases h3:kind<3
 ·refine⟨md c 9,(zbt ..).trans ?_⟩;have hi:=zty (zd5 c (k:=9) (by decide));obtain⟨d,h1,h2⟩:=zvs (j7 (List.all_eq_true.mp (List.all_eq_true.mp zrs kind (by match kind,h3 with|0,_=>trivial|1,_=>trivial|2,_=>trivial)) _ hi));have hl:=of_decide_eq_true (an2 (List.all_eq_true.mp (zkf (mode:=0) h3 (by decide)) _ hi));unfold zch;rw[if_pos h3,Nat.mod_eq_of_lt (zd5 c (by decide))];exact Rt.fin (Rt.seq (Rt.ift (zm rfl rfl (congrArg (fun b=>R.ok (PyData.bool b)) (decide_eq_true (Int.ofNat_lt.mpr h3)))) (Rt.ret (Sv.h (Sv.add (Sv.add ⟨zm (zm rfl rfl h1) (zm rfl rfl (ku c (k:=9) (by decide))) h2,qC hl⟩ ⟨rfl,l1⟩ rfl) ⟨rfl,hg⟩ rfl)))))
 ·match kind,hkind,h3 with
  |0,_,h=>exact absurd (by decide) h
  |1,_,h=>exact absurd (by decide) h
  |2,_,h=>exact absurd (by decide) h
  |3,_,_=>
   have hlt:=zd5 c hf;have ht:(frow.take (md c frow.length)).length<=5000:=qA (qA (Nat.le_of_eq List.length_take) (Nat.min_le_right _ _)) (qC hf2);have hd:(frow.drop (md c frow.length)).length<=5000:=qA (qA (Nat.le_of_eq List.length_drop) (Nat.sub_le _ _)) (qC hf2);refine⟨md c frow.length,(zbt ..).trans ?_⟩;have e:zch 3 (md c frow.length) frow grow=frow.take (md c frow.length)++[63]++frow.drop (md c frow.length)++[10]++grow:=by
    unfold zch;rw[if_neg (by decide),if_pos rfl,Nat.mod_eq_of_lt hlt]
   rw[e];exact Rt.fin (Rt.nxt rfl (Rt.seq (Rt.ift rfl (Rt.asg (zm rfl (zbA rfl rfl) (ku c hf)) (Rt.ret (Sv.h (Sv.add (Sv.add (Sv.add (Sv.add ⟨zm rfl rfl (zoX frow _ (qC hlt)),ht⟩ ⟨rfl,l1⟩ rfl) ⟨zm rfl rfl (zph frow _ (qC hlt)),hd⟩ rfl) ⟨rfl,l1⟩ rfl) ⟨rfl,hg⟩ rfl)))))))
  |4,_,_=>exact⟨0,(zbt ..).trans rfl⟩
theorem zuh{sp:List Nat}(h:zas sp){x y:Tok}(hx:zV x)(hy:zV y){t:List Nat}(ht:qd t):qd (jZ sp x y t):=by
 have e:jZ sp x y t=sp++(tF++(sp++([40]++(sp++(x++(sp++([44]++(sp++(y++(sp++([41]++(sp++([61]++(sp++(t++sp))))))))))))))) :=by simp[jZ]
 rw[e];have s:=zd4 h;exact zU (zU (zU (zU (zU (zU (zU (zU (zU (zU (zU (zU (zU (zU (zU (zu2 h ht) s) (by decide)) s) (by decide)) s) (zey hy)) s) (by decide)) s) (zey hx)) s) (by decide)) s) (by decide)) s
section
variable{x y:Tok}{v1 v2:Nat}{sp:List Nat}{mode:Nat}
theorem zlo(l:List Nat)(i c:Nat):(l.take i++c::l.drop i).length=l.length+1:=by
 rw[List.length_append,List.length_cons,←Nat.add_assoc,←List.length_append,List.take_append_drop]
theorem zvO{l:List Nat}{i:Nat}(h:10∉l):10∉l.take i++63::l.drop i:=fun hc=>(List.mem_append.mp hc).elim (fun hc=>h (List.mem_of_mem_take hc)) fun hc=>(List.mem_cons.mp hc).elim (fun e=>nomatch e) fun hc=>h (List.mem_of_mem_drop hc)
theorem zmz(H:En x y v1 v2 sp mode){L K V Dp Nc:Nat}{w:P7}(hg:Gd x y v1 v2 mode [] L K V Dp Nc w)(hL:L<200){n kind c:Nat}(hn:600<=n):
  zd G T 2000 n 8 [ds (zch kind c (jZ sp x y w.t) (j3 mode))]=.ve:=by
 have g1:=zlg mode H.md;have g2:=qC g1.2;unfold zch;by_cases h3:kind<3
 ·rw[if_pos h3];have hb:=List.all_eq_true.mp (zkf h3 H.md) _ (zty (Nat.mod_lt c (by decide)));generalize zl3 kind (c % 9)=b at hb;have b2:=of_decide_eq_true (an2 (an1 hb));have b3:=of_decide_eq_true (an2 hb);exact zb4 (m:=57) (ls:=[b,j3 mode]) (by rw[List.append_assoc];rfl) (List.cons_ne_nil _ _) (ac b2 (ac g1.1 a0)) (ac (Nat.lt_trans b3 (by decide)) (ac (Nat.lt_trans g1.2 (by decide)) a0)) (bs (zg (zg (qC b3) l1) g2) rfl) (bs (Nat.le_refl _) rfl) (zs1 (an1 (an1 hb))) (qA (by decide) hn)
 ·rw[if_neg h3];by_cases h4:kind=3
  ·rw[if_pos h4];generalize c % (jZ sp x y w.t).length=i;obtain⟨gt,hin⟩:=zjf (zuh H.sp H.hx H.hy hg.q) i;have hfl:=zkp H (qA hg.tl (qC hL));have hfn:=zk5 H hg.nt;generalize jZ sp x y w.t=f at gt hin hfl hfn;have hl1:(f.take i++63::f.drop i).length<=300:=by rw[zlo];exact qA (Nat.succ_le_succ hfl) (Nat.le_of_ble_eq_true rfl)
   have hl2:=qA (zkw (f.take i++63::f.drop i)) (qA (by rw[zlo];exact Nat.succ_le_succ hfl) (Nat.le_refl _));refine zb4 (m:=590) (ls:=[f.take i++63::f.drop i,j3 mode]) ?_ (List.cons_ne_nil _ _) (ac (zvO hfn) (ac g1.1 a0)) (ac (bs hl1 rfl) (ac (Nat.lt_trans g1.2 (by decide)) a0)) ?_ (bs (Nat.le_refl _) rfl) ?_ (qA (by decide) hn)
   ·show f.take i++[63]++f.drop i++[10]++j3 mode=(f.take i++63::f.drop i)++10::j3 mode;rw[List.append_assoc,List.append_assoc (f.take i)];rfl
   ·rw[List.append_assoc (f.take i)];exact bs (zg (zg hl1 l1) g2) rfl
   ·have hne:tok (f.take i++63::f.drop i)≠[]:=fun e=>nomatch (e▸hin:[63]∈([]:List Tok));unfold zb1;rw[zio,if_neg hne,zsI gt (bs hl2 rfl) (qA (Nat.add_le_add_right (Nat.mul_le_mul_left 2 hl2) 6) (Nat.le_of_ble_eq_true rfl)) hin];rfl
  ·rw[if_neg h4];exact zb4 (m:=57) (ls:=[[32],[],[]]) rfl (List.cons_ne_nil _ _) (ac (by decide) (ac nofun (ac nofun a0))) (ac (by decide) (ac (by decide) (ac (by decide) a0))) (by decide) (by decide) rfl (qA (by decide) hn)
end
end Mine
namespace Mine
open PySem
section
variable{x y:Tok}{v1 v2:Nat}{sp:List Nat}{mode:Nat}
theorem zhI{kn:List Tok}{k0 k1:Nat}(h:zfz x y kn k0 k1):k0<10/\k1<10:=by
 obtain⟨a,b⟩:=h;constructor
 ·rw[a];split<;>lia
 ·rw[b];split<;>lia
theorem zkW(H:En x y v1 v2 sp mode){kn:List Tok}{k0 k1:Nat}(hk:zfz x y kn k0 k1){n:Nat}(hn:10<=n)(c0 c1 c2 c3 c4 c5:Int)(h0:0<=c0/\c0<6)(h1:0<=c1/\c1<6)(h2:0<=c2/\c2<5)(h3:0<=c3/\c3<6)(h4:0<=c4/\c4<5)(h5:0<=c5/\c5<5):
  ∃p,zd G T 2000 n 30 [.tuple [.int c0,.int c1,.int c2,.int c3,.int c4,.int c5],knD k0 k1,zgx x y v1 v2 sp mode]=.ok p.d/\Gd x y v1 v2 mode kn 72 29 23 3 1 p:=by
 obtain⟨n,rfl⟩:∃k,n=k+4:=⟨n - 4,by lia⟩;have hsl:=H.sp.len;have hlx:=H.lx;have hly:=H.ly;have mk:=zkV H hk c0;have ⟨s0,s1⟩:=zhI hk;have ⟨m0,m1⟩:=zhI mk;have g1:=zkq H hk c1;have g2:=znB H hk c2 g1;have g3:=zkq H mk c3;have g4:=znB H mk c4 g3;have g5:=zlk H c0 h0.1 g2 g4 (by decide);have g6:=znB H hk c5 g5;have q1:=g1.sml (by decide) (by decide) (Nat.succ_pos _);have q2:=g2.sml (by decide) (by decide) (Nat.succ_pos _);have q3:=g3.sml (by decide) (by decide) (Nat.succ_pos _);have q4:=g4.sml (by decide) (by decide) (Nat.succ_pos _);have q5:=g5.sml (by decide) (by decide) (by decide);have e1:=zkc (n:=n+2) x y v1 v2 sp mode k0 k1 c1 h1;have e2:=zeP (n:=n+2) sp k0 k1 c2 h2 (ht:=by have:=q1.t;exact qD ‹_› (by decide)) (hu:=by have:=q1.u;exact qD ‹_› (by decide)) (hsp:=by exact qB ‹_› (by decide)) (hb0:=by have:=q1.b0;exact qB ‹_› (by decide)) (hb1:=by have:=q1.b1;exact qB ‹_› (by decide)) (hk0:=s0) (hk1:=s1) (p:=zeJ x y v1 v2 k0 k1 c1);have e3:=zkQ (n:=n+2) c0 k0 k1;have e4:=zkc (n:=n+2) x y v1 v2 sp mode (zac c0 k0 k1).1 (zac c0 k0 k1).2 c3 h3;have e5:=zeP (n:=n+2) sp (zac c0 k0 k1).1 (zac c0 k0 k1).2 c4 h4 (ht:=by have:=q3.t;exact qD ‹_› (by decide)) (hu:=by have:=q3.u;exact qD ‹_› (by decide)) (hsp:=by exact qB ‹_› (by decide)) (hb0:=by have:=q3.b0;exact qB ‹_› (by decide)) (hb1:=by have:=q3.b1;exact qB ‹_› (by decide)) (hk0:=m0) (hk1:=m1) (p:=zeJ x y v1 v2 (zac c0 k0 k1).1 (zac c0 k0 k1).2 c3);have e6:=zle (n:=n+1) x y v1 v2 sp mode c0 h0 _ _ q2 q4 (by exact qB ‹_› (by decide)) (by exact qB ‹_› (by decide)) (by exact qB ‹_› (by decide)) H.md;have e7:=zeP (n:=n+2) sp k0 k1 c5 h5 (ht:=by have:=q5.t;exact qD ‹_› (by decide)) (hu:=by have:=q5.u;exact qD ‹_› (by decide)) (hsp:=by exact qB ‹_› (by decide)) (hb0:=by have:=q5.b0;exact qB ‹_› (by decide)) (hb1:=by have:=q5.b1;exact qB ‹_› (by decide)) (hk0:=s0) (hk1:=s1) (p:=zfo x y v1 v2 sp mode c0 (unC sp k0 k1 c2 (zeJ x y v1 v2 k0 k1 c1)) (unC sp (zac c0 k0 k1).1 (zac c0 k0 k1).2 c4 (zeJ x y v1 v2 (zac c0 k0 k1).1 (zac c0 k0 k1).2 c3)));refine⟨_,?_,g6⟩;rw[zj0];simp only[zbM,zT,zv,zbf,zao,kG,k7,ji,zK,z0,z6,jV,zQ,zO,zP,jc,g_0,g_s,jx,R.bind_ok,List.set_cons_zero,List.set_cons_succ,zR,z5,je,jq,k5,zbK,ziz,zia,e1,e2,e3,e4,e5,e6,e7]
theorem znp(H:En x y v1 v2 sp mode){n:Nat}(hn:10<=n)(k:Int)(hk:0<=k/\k<5){p q:P7}(hp:Gd x y v1 v2 mode [] 72 29 23 3 1 p)(hq:Gd x y v1 v2 mode (zkP x y k []) 72 29 23 3 1 q):
  ∃w,zd G T 2000 n 28 [.int k,p.d,q.d,zgx x y v1 v2 sp mode]=.ok w.d/\Gd x y v1 v2 mode [] 168 34 46 4 3 w:=by
 obtain⟨n,rfl⟩:∃k,n=k+2:=⟨n - 2,by lia⟩;have hsl:=H.sp.len;have hlx:=H.lx;have hly:=H.ly;have e:=zle (n:=n) x y v1 v2 sp mode k ⟨hk.1,by lia⟩ p q (hp.sml (by decide) (by decide) (by decide)) (hq.sml (by decide) (by decide) (by decide)) (by exact qB ‹_› (by decide)) (by exact qB ‹_› (by decide)) (by exact qB ‹_› (by decide)) H.md;exact⟨_,e,zlk H k hk.1 hp hq (by decide)⟩
end
mutual
noncomputable def noD:D->Bool
 |.dict _=>false
 |.list xs=>zbC xs
 |.tuple xs=>zbC xs
 |_=>true
noncomputable def zbC:List D->Bool
 |[]=>true
 |x::xs=>noD x&&zbC xs
end
theorem zkk:∀(x_1:D) (xs:List D),zbC (x_1::xs)=(noD x_1&&zbC xs):=fun _ _=>rfl
mutual
theorem zis:∀d:D,noD d=true->PyData.eqv d d=true
 |.none,_=>rfl
 |.bool b,_=>beq_self_eq_true b
 |.int i,_=>beq_self_eq_true i
 |.str s,_=>beq_self_eq_true s
 |.list xs,h=>zbO xs h
 |.tuple xs,h=>zbO xs h
 |.dict _,h=>by exact ff h
theorem zbO:∀xs:List D,zbC xs=true->PyData.eqvAll xs xs=true
 |[],_=>rfl
 |x::xs,h=>by
  show(PyData.eqv x x&&PyData.eqvAll xs xs)=true;rw[zis x (an1 h),zbO xs (an2 h)];rfl
end
theorem zqX{d:D}(h:noD d=true):isDict d=false:=by cases d<;>first|rfl|exact ff h
theorem zc2{d:D}(h:noD d=true)(hd:PyData.depth d<=4000):neD d d=.ok (.bool false):=by
 show(if(isDict d||isDict d||deep d d)=true then R.stuck else R.ok (PyData.bool !(PyData.eqv d d)))=_;rw[if_neg,zis d h]
 ·rfl
 ·rw[zqX h];simp[deep];assumption
theorem zfg(a b:List D):zbC (a++b)=(zbC a&&zbC b):=by
 induction a with
 |nil=>rfl
 |cons x a ih=>simp[zkk,ih,Bool.and_assoc]
theorem zar{l:List D}(h:∀d∈l,noD d=true):zbC l=true:=by
 induction l with
 |nil=>rfl
 |cons x l ih=>simp only[zkk,h x (by simp),ih (fun d hd=>h d (by simp[hd])),Bool.and_self]
theorem zbP{l:List D}{k:Nat}(h:∀d∈l,PyData.depth d<=k):PyData.depthAll l<=k:=by
 induction l with
 |nil=>simp[PyData.depthAll]
 |cons x l ih=>simp only[PyData.depthAll];have:=h x (by exact List.mem_cons_self);have:=ih (fun d hd=>h d (by exact List.mem_cons_of_mem _ ‹_›));lia
theorem zt6(e:E):noD e.d=true:=by
 induction e with
 |num=>rfl
 |name=>rfl
 |pred a ih=>simp[Ed3,noD,zbC,ih]
 |succ a ih=>simp[Ed4,noD,zbC,ih]
 |iff z a b iha ihb=>simp[Ed5,noD,zbC,iha,ihb]
 |call a b iha ihb=>simp[Ed6,noD,zbC,iha,ihb]
theorem mxd{a b x y:Nat}(h:x<=2*a+2)(g:y<=2*b+2):max x (max y 0)<=2*max a b+2:=
 Nat.max_le.mpr ⟨qA h (Nat.add_le_add_right (Nat.mul_le_mul_left 2 (Nat.le_max_left ..)) 2),Nat.max_le.mpr ⟨qA g (Nat.add_le_add_right (Nat.mul_le_mul_left 2 (Nat.le_max_right ..)) 2),Nat.zero_le _⟩⟩
theorem mx0{x m:Nat}(h:x<=m):max 0 x<=m:=Nat.max_le.mpr ⟨Nat.zero_le _,h⟩
theorem zlc(e:E):PyData.depth e.d<=2*e.dep+2:=by
 induction e with
 |num=>exact Nat.zero_lt_succ _
 |name=>exact Nat.zero_lt_succ _
 |pred a ih=>exact Nat.succ_le_succ (mx0 (Nat.max_le.mpr ⟨Nat.le_succ_of_le ih,Nat.zero_le _⟩))
 |succ a ih=>exact Nat.succ_le_succ (mx0 (Nat.max_le.mpr ⟨Nat.le_succ_of_le ih,Nat.zero_le _⟩))
 |iff z a b iha ihb=>exact Nat.succ_le_succ (mx0 (mx0 (Nat.le_succ_of_le (mxd iha ihb))))
 |call a b iha ihb=>exact Nat.succ_le_succ (mx0 (mx0 (Nat.max_le.mpr ⟨Nat.succ_le_succ (mxd iha ihb),Nat.zero_le _⟩)))
theorem zfa(l:List Tok):noD (zh l)=true:=zar (by
 intro d hd;obtain⟨t,_,rfl⟩:=List.mem_map.mp hd;rfl)
theorem zcO(l:List Tok):PyData.depth (zh l)<=1:=by
 show PyData.depthAll (l.map ds)+1<=1;have:PyData.depthAll (l.map ds)<=0:=zbP (by
  intro d hd;obtain⟨t,_,rfl⟩:=List.mem_map.mp hd;simp[PyData.depth])
 exact Nat.lt_succ_of_le ‹_›
theorem zdQ{x y:Tok}{w:P7}{mode hk:Nat}(hd:w.e.dep<=10)(hh:hk<2):neD (jO x y w mode hk) (jO x y w mode hk)=.ok (.bool false):=by
 have h1:=zlc w.e;have h2:=zlc (gE mode);have h2':=zcT mode;have h3:noD (hE hk)=true/\PyData.depth (hE hk)<=10:=by
  have h01:hk=0\/hk=1:=by lia
  rcases h01 with rfl|rfl
  ·exact⟨by decide,by decide⟩
  ·exact⟨by decide,by decide⟩
 have a:=zcO [x,y];have b:=zcO [tX,tY];have c:=zcO [tA];refine zc2 ?_ ?_
 ·have e1:=zt6 w.e;have e2:=zt6 (gE mode);have e3:=zfa [x,y];have e4:=zfa [tX,tY];have e5:=zfa [tA];simp only[jO,zcM,zaT,zaV,Row.d,noD,zbC] at *;simp[e1,e2,h3.1];exact⟨rfl,rfl,rfl⟩
 ·simp only[jO,zcM,zaT,zaV,Row.d];have hA:PyData.depth w.e.d<=22:=qA h1 (Nat.add_le_add_right (Nat.mul_le_mul_left 2 hd) 2);have hB:PyData.depth (gE mode).d<=14:=qA h2 (Nat.add_le_add_right (Nat.mul_le_mul_left 2 h2') 2);have hC:=h3.2;simp only[PyData.depth,PyData.depthAll] at *;first|(repeat' first|exact Nat.zero_le _|exact qA ‹_› (by decide)|refine Nat.max_le.mpr ⟨?_,?_⟩|refine Nat.succ_le_succ ?_)|lia
theorem zoV(f g:Tok)(A:Mx):noD (grD f g A)=true:=by
 have he:∀i j o,∀d∈oe i j o,noD d=true:=by
  intro i j o d hd;induction o using Option.casesOn with
  |none=>cases hd
  |some b=>simp[oe] at hd;subst hd;rfl
 have:zbC (zaU A.1 A.2)=true:=by
  unfold zaU;rw[zfg,zfg,zfg,zar (he _ _ _),zar (he _ _ _),zar (he _ _ _),zar (he _ _ _)];rfl
 show(zbC [ds f,ds g,.list (zaU A.1 A.2)])=true;simp[zbC,noD,this]
theorem zwn(hk:Nat)(a:Nd):noD (a.dd hk)=true:=by cases a<;>exact zoV _ _ _
theorem zou(hk:Nat)(a:Nd):PyData.depth (a.dd hk)<=3:=by cases a<;>exact kr _ _ _ _
theorem zeb{mode hk:Nat}{Fs:List Mx}:neD (zo mode hk Fs) (zo mode hk Fs)=.ok (.bool false):=by
 refine zc2 ?_ ?_
 ·refine zar ?_;intro d hd;obtain⟨a,_,rfl⟩:=List.mem_map.mp hd;exact zwn hk a
 ·show PyData.depthAll _+1<=4000;have:PyData.depthAll ((zc mode Fs).map (Nd.dd hk))<=3:=zbP (by
   intro d hd;obtain⟨a,_,rfl⟩:=List.mem_map.mp hd;exact zou hk a)
  exact qB ‹_› (by decide)
theorem zqo(l:List Nat):neD (ds l) (ds l)=.ok (.bool false):=zc2 rfl (by simp[PyData.depth])
theorem zo1(w:List Nat):neD (wD w) (wD w)=.ok (.bool false):=by
 refine zc2 ?_ ?_
 ·refine zar ?_;intro d hd;obtain⟨a,_,rfl⟩:=List.mem_map.mp hd;rfl
 ·show PyData.depthAll _+1<=4000;have:PyData.depthAll (w.map fun(k:Nat)=>PyData.int k)<=0:=zbP (by
   intro d hd;obtain⟨a,_,rfl⟩:=List.mem_map.mp hd;simp[PyData.depth])
  exact qB ‹_› (by decide)
theorem zix(f g:Tok)(A:Mx):neD (grD f g A) (grD f g A)=.ok (.bool false):=zc2 (zoV f g A) (qA (kr _ _ _ _) (by decide))
end Mine
namespace Mine
open PySem
theorem zrI(s:Int)(k:Nat)(hk:0<k):∃m:Nat,m<k/\zh7 (.int s) (.int k)=.ok (.int m):=by
 refine⟨(s % (k:Int)).toNat,?_,zpF s k hk⟩;have:=Int.emod_lt_of_pos s (show(0:Int)<k by exact Int.ofNat_lt.mpr ‹_›);have:=Int.emod_nonneg s (show(k:Int)≠0 by lia);lia
theorem zwG(a b c d e:List Nat)(h:a.length+b.length+c.length+d.length+e.length<100000):zei (ds [10]) (.list [ds a,ds b,ds c,ds d,ds e])=.ok (ds (jn [a,b,c,d,e])):=by
 show(if(([S a,S b,S c,S d,S e]:List Str).map (·.length)).sum+5*(S [10]).length<=zp then _ else _)=_;rw[if_pos]
 ·have:Txt.join (S [10]) [S a,S b,S c,S d,S e]=S (jn [a,b,c,d,e]):=by
   show(⟨a.toArray++[10].toArray++b.toArray++[10].toArray++c.toArray++[10].toArray++d.toArray++[10].toArray++e.toArray⟩:Str)=_;simp[ztH,zqs]
  rw[this]
 ·simp[zp];lia
theorem zvt(m:Nat)(h:m<3):∃sp,zas sp/\jg (.tuple [.str ⟨#[]⟩,.str ⟨#[32]⟩,.str ⟨#[32,32]⟩]) (.int m)=.ok (ds sp):=by
 have:m=0\/m=1\/m=2:=by lia
 rcases this with rfl|rfl|rfl
 ·exact⟨[],Or.inl rfl,rfl⟩
 ·exact⟨[32],Or.inr (Or.inl rfl),rfl⟩
 ·exact⟨[32,32],Or.inr (Or.inr rfl),rfl⟩
theorem zu7(m:Nat)(h:m<3):∃x y:Tok,zV x/\zV y/\x≠y/\x.length<=3/\y.length<=3/\jg (G.getD 3 .none) (.int m)=.ok (.tuple [ds x,ds y]):=by
 have:m=0\/m=1\/m=2:=by lia
 rcases this with rfl|rfl|rfl
 ·exact⟨[97],[98],⟨by decide,by decide⟩,⟨by decide,by decide⟩,by decide,by decide,by decide,rfl⟩
 ·exact⟨[122,113],[97],⟨by decide,by decide⟩,⟨by decide,by decide⟩,by decide,by decide,by decide,rfl⟩
 ·exact⟨[103],[105,102,102],⟨by decide,by decide⟩,⟨by decide,by decide⟩,by decide,by decide,by decide,rfl⟩
theorem zrv(a0 a1 a2 a3 a4 a5 a6 a7 a8 a9 a10 a11 a12 a13 a14 a15 a16 a17:D):∀(gs out:List D) (t19:D),(∀g∈gs,isDict g=false/\PyData.depth g<=4000)->out.length+gs.length<1000->∃t19',fl G (zd G T 2000 640) (zk G T 2000 640) 2000 (.one 19) (.ifs (.bin .nmem (.var 19) (.var 18)) (.app 18 (.var 19)) .skip) gs [a0,a1,a2,a3,a4,a5,a6,a7,a8,a9,a10,a11,a12,a13,a14,a15,a16,a17,.list out,t19,OO,OO,OO,OO,OO,OO,OO,OO,OO,OO,OO,OO,OO,OO,OO,OO,OO,OO,OO,OO,OO,OO,OO,OO,OO,OO,OO,OO,OO,OO,OO,OO]=.ok (.next,[a0,a1,a2,a3,a4,a5,a6,a7,a8,a9,a10,a11,a12,a13,a14,a15,a16,a17,.list (gs.foldl j9 out),t19',OO,OO,OO,OO,OO,OO,OO,OO,OO,OO,OO,OO,OO,OO,OO,OO,OO,OO,OO,OO,OO,OO,OO,OO,OO,OO,OO,OO,OO,OO,OO,OO]):=by
 intro gs;induction gs with
 |nil=>intro out t19 _ _;exact⟨t19,rfl⟩
 |cons g gs ih=>
  intro out t19 hg hl;obtain⟨h1,h2⟩:=hg g (List.mem_cons_self);have hni:=zdd h1 h2 out;have hal:=zdu out g;obtain⟨t',e⟩:=ih (j9 out g) g (fun g' hg'=>hg g' (by exact List.mem_cons_of_mem _ ‹_›)) (by simp at hl;lia);refine⟨t',?_⟩;rw[List.foldl_cons,zW];have key:j9 out g=(if(out.any fun y=>PyData.eqv y g)=true then out else out++[g]):=rfl;rcases Bool.eq_false_or_eq_true (out.any fun y=>PyData.eqv y g) with hw|hw
  ·rw[hw] at hni key;simp only[if_true] at key;rw[key] at e ⊢;simp only[jv,jr,jj,jN,jT,kc,zK,z0,z6,g_0,g_s,R.bind_ok,List.set_cons_zero,List.set_cons_succ,kT,hni,zqO];exact e
  ·rw[hw] at hni key;simp only[Bool.false_eq_true,if_false] at key;rw[key] at e ⊢;have a1:zfG (.list out) g=_:=zdW (by lia) h1;simp only[zfQ,jr,jB,jN,jT,kc,zK,z0,z6,g_0,g_s,R.bind_ok,List.set_cons_zero,List.set_cons_succ,kT,↓reduceIte,hni,zqj,kR,zgL,a1,zdp];exact e
theorem zxB(a0 a1 a2 a3 a4 a5 a6 a7 a8 a9 a10 a11 a12 a13 a14 a15 a16 a17 a18 a20 t19:D):∀(es:List D) (t21 t22 t23:D),(∀d∈es,zgh d)->∃t21' t22' t23',fl G (zd G T 2000 640) (zk G T 2000 640) 2000 (.many [21,22,23]) (.ifs (.un (.tyNot .bool) (.var 23)) (.ret (.lit (.bool false))) .skip) es [a0,a1,a2,a3,a4,a5,a6,a7,a8,a9,a10,a11,a12,a13,a14,a15,a16,a17,a18,t19,a20,t21,t22,t23,OO,OO,OO,OO,OO,OO,OO,OO,OO,OO,OO,OO,OO,OO,OO,OO,OO,OO,OO,OO,OO,OO,OO,OO,OO,OO,OO,OO]=.ok (.next,[a0,a1,a2,a3,a4,a5,a6,a7,a8,a9,a10,a11,a12,a13,a14,a15,a16,a17,a18,t19,a20,t21',t22',t23',OO,OO,OO,OO,OO,OO,OO,OO,OO,OO,OO,OO,OO,OO,OO,OO,OO,OO,OO,OO,OO,OO,OO,OO,OO,OO,OO,OO]):=by
 intro es;induction es with
 |nil=>intro t21 t22 t23 _;exact⟨t21,t22,t23,rfl⟩
 |cons d es ih=>
  intro t21 t22 t23 h;obtain⟨i,j,c,rfl⟩:=h d List.mem_cons_self;unfold ed;obtain⟨u,v,w,e⟩:=ih (.int i) (.int j) (.bool c) (fun d hd=>h d (by exact List.mem_cons_of_mem _ ‹_›));refine⟨u,v,w,?_⟩;rw[zW];have ht:tyIs .bool (.bool c)=true:=rfl;exact e
theorem zuR(a0 a1 a2 a3 a4 a5 a6 a7 a8 a9 a10 a11 a12 a13 a14 a15 a16 a17 a18 a20:D):∀(gs:List D) (t19 t21 t22 t23:D),(∀g∈gs,∃f h:D,∃es,g=.tuple [f,h,.list es]/\∀d∈es,zgh d)->∃t19' t21' t22' t23',fl G (zd G T 2000 640) (zk G T 2000 640) 2000 (.one 19) (.forr (.many [21,22,23]) false (.bin .idx (.var 19) (.lit (.int 2))) (.ifs (.un (.tyNot .bool) (.var 23)) (.ret (.lit (.bool false))) .skip)) gs [a0,a1,a2,a3,a4,a5,a6,a7,a8,a9,a10,a11,a12,a13,a14,a15,a16,a17,a18,t19,a20,t21,t22,t23,OO,OO,OO,OO,OO,OO,OO,OO,OO,OO,OO,OO,OO,OO,OO,OO,OO,OO,OO,OO,OO,OO,OO,OO,OO,OO,OO,OO]=.ok (.next,[a0,a1,a2,a3,a4,a5,a6,a7,a8,a9,a10,a11,a12,a13,a14,a15,a16,a17,a18,t19',a20,t21',t22',t23',OO,OO,OO,OO,OO,OO,OO,OO,OO,OO,OO,OO,OO,OO,OO,OO,OO,OO,OO,OO,OO,OO,OO,OO,OO,OO,OO,OO]):=by
 intro gs;induction gs with
 |nil=>intro t19 t21 t22 t23 _;exact⟨t19,t21,t22,t23,rfl⟩
 |cons g gs ih=>
  intro t19 t21 t22 t23 h;obtain⟨f,hh,es,eg,he⟩:=h g (List.mem_cons_self);obtain⟨u,v,w,e1⟩:=zxB a0 a1 a2 a3 a4 a5 a6 a7 a8 a9 a10 a11 a12 a13 a14 a15 a16 a17 a18 a20 g es t21 t22 t23 he;obtain⟨p,q,r,s,e2⟩:=ih g u v w (fun g' hg'=>h g' (by exact List.mem_cons_of_mem _ ‹_›));refine⟨p,q,r,s,?_⟩;have i2:jg g (.int 2)=.ok (.list es):=by rw[eg];rfl
  rw[zW];simp only[zby,zag,jN,jT,kc,ji,zK,z0,z6,g_0,g_s,jx,R.bind_ok,List.set_cons_zero,List.set_cons_succ,zR,i2,e1];exact e2
noncomputable def zhB(mode hk:Nat):D:=if mode=2\/(mode=3/\hk=0) then grD tG tG ((some false,none),(none,some false)) else if hk=1 then grD tH tH (hhM 1) else .none
theorem zrY(a0 a3 a4 a5 a6 a7 a8 a9 a10 a11 a12 a13 a14 a15 a16 a17 a18 a19 a20 a21 a22 a23:D){mode hk:Nat}(n:Nat)(hm:mode<4)(hh:hk<2):
  ∃e25 e26,exec G (zd G T 2000 640) (zk G T 2000 640) 2000 (.ifs (.bin .eq (.var 2) (.lit (.int 1))) (.assign (.many [25,26]) (.tup (.cons (.list (.cons (.bin .add (.var 24) (.lit (.int 1))) .nil)) (.cons (.tup (.cons (.lit (.str ⟨#[104]⟩)) (.cons (.lit (.str ⟨#[104]⟩)) (.cons (.list (.cons (.tup (.cons (.lit (.int 0)) (.cons (.lit (.int 0)) (.cons (.lit (.bool false)) .nil)))) .nil)) .nil)))) .nil)))) .skip) [a0,.int mode,.int hk,a3,a4,a5,a6,a7,a8,a9,a10,a11,a12,a13,a14,a15,a16,a17,a18,a19,a20,a21,a22,a23,.int (n:Int),OO,OO,OO,OO,OO,OO,OO,OO,OO,OO,OO,OO,OO,OO,OO,OO,OO,OO,OO,OO,OO,OO,OO,OO,OO,OO,OO]=.ok (.next,[a0,.int mode,.int hk,a3,a4,a5,a6,a7,a8,a9,a10,a11,a12,a13,a14,a15,a16,a17,a18,a19,a20,a21,a22,a23,.int (n:Int),e25,e26,OO,OO,OO,OO,OO,OO,OO,OO,OO,OO,OO,OO,OO,OO,OO,OO,OO,OO,OO,OO,OO,OO,OO,OO,OO])/\exec G (zd G T 2000 640) (zk G T 2000 640) 2000 (.ifs (.or_ (.bin .eq (.var 1) (.lit (.int 2))) (.and_ (.bin .eq (.var 1) (.lit (.int 3))) (.bin .eq (.var 2) (.lit (.int 0))))) (.assign (.many [25,26]) (.tup (.cons (.bin .mul (.list (.cons (.var 24) .nil)) (.bin .sub (.var 1) (.lit (.int 1)))) (.cons (.tup (.cons (.lit (.str ⟨#[103]⟩)) (.cons (.lit (.str ⟨#[103]⟩)) (.cons (.list (.cons (.tup (.cons (.lit (.int 0)) (.cons (.lit (.int 0)) (.cons (.lit (.bool false)) .nil)))) (.cons (.tup (.cons (.lit (.int 1)) (.cons (.lit (.int 1)) (.cons (.lit (.bool false)) .nil)))) .nil))) .nil)))) .nil)))) .skip) [a0,.int mode,.int hk,a3,a4,a5,a6,a7,a8,a9,a10,a11,a12,a13,a14,a15,a16,a17,a18,a19,a20,a21,a22,a23,.int (n:Int),e25,e26,OO,OO,OO,OO,OO,OO,OO,OO,OO,OO,OO,OO,OO,OO,OO,OO,OO,OO,OO,OO,OO,OO,OO,OO,OO]=.ok (.next,[a0,.int mode,.int hk,a3,a4,a5,a6,a7,a8,a9,a10,a11,a12,a13,a14,a15,a16,a17,a18,a19,a20,a21,a22,a23,.int (n:Int),zbe (due mode hk n),zhB mode hk,OO,OO,OO,OO,OO,OO,OO,OO,OO,OO,OO,OO,OO,OO,OO,OO,OO,OO,OO,OO,OO,OO,OO,OO,OO]):=by
 have h01:hk=0\/hk=1:=by lia
 have n1:((n:Int)+1)=((n+1:Nat):Int):=rfl;have m1:zeG (.list [.int (n:Int)]) (.int 1)=.ok (.list [.int (n:Int)]):=rfl;have m2:zeG (.list [.int (n:Int)]) (.int 2)=.ok (.list [.int (n:Int),.int (n:Int)]):=rfl;have hd:∀l:List D,isDict (.list l)=false:=fun l=>rfl;rcases h01 with rfl|rfl
 ·refine⟨.none,OO,by rfl,?_⟩;rcases zad hm with rfl|rfl|rfl|rfl
  ·skip;rfl
  ·skip;rfl
  ·skip;rfl
  ·skip;rfl
 ·refine⟨.list [.int ((n:Int)+1)],.tuple [.str ⟨#[104]⟩,.str ⟨#[104]⟩,.list [.tuple [.int 0,.int 0,.bool false]]],by rfl,?_⟩;rcases zad hm with rfl|rfl|rfl|rfl
  ·skip;rfl
  ·skip;rfl
  ·skip;rfl
  ·skip;rfl
theorem zlu{mode hk:Nat}{Fs:List Mx}(hm:mode<4)(hh:hk<2){w:List Nat}(h:due mode hk Fs.length=some w):zd G T 2000 640 13 [zo mode hk Fs,wD w]=.ok (zhB mode hk):=by
 have h01:hk=0\/hk=1:=by lia
 rcases h01 with rfl|rfl<;>rcases zad hm with rfl|rfl|rfl|rfl
 ·exact nn h
 ·exact nn h
 ·injection h with h;subst h;exact zxU
 ·injection h with h;subst h;exact zyb (by decide) (by decide)
 ·injection h with h;subst h;exact zqw
 ·injection h with h;subst h;exact zqw
 ·injection h with h;subst h;exact zxU
 ·injection h with h;subst h;exact zqw
theorem zmM{mode hk:Nat}:neD (zhB mode hk) (zhB mode hk)=.ok (.bool false):=by
 unfold zhB;split
 ·exact zix _ _ _
 ·split
  ·exact zix _ _ _
  ·rfl
theorem zmT(o:Option (List Nat)):neD (zbe o) (zbe o)=.ok (.bool false):=by
 induction o using Option.casesOn with
 |none=>rfl
 |some w=>exact zo1 w
end Mine
namespace Mine
open PySem
section
variable{GG:List D}{cf cio:Nat->List D->R D}{wf:Nat}{ρ:ze}{a b c:PE}{s t:PS}{x y z:D}{o:Bin}
theorem zbD{f:Nat}{es:PEs}{xs:List D}{r:R D}(g:cf f xs=r)(h:evs GG cf es ρ=.ok xs):ev GG cf (.call f es) ρ=r:=zn h g
theorem zy0{i:Nat}{es:PEs}{xs:List D}(h:evs GG cf es ρ=.ok xs)(d:xs.any isDict=false):exec GG cf cio wf (.newl i es) ρ=.ok (.next,ρ.set i (.list xs)):=
 (congrArg (R.bind · _) h).trans (by show(if _ then _ else _)=_;rw[d];rfl)
theorem zww{f i:Nat}{es:PEs}{xs:List D}{l:Lit}(g:cf f xs=.ve)(h:evs GG cf es ρ=.ok xs):exec GG cf cio wf (.tryv (.exp (.call f es)) i l) ρ=.ok (.next,ρ.set i l.d):=
 zo2 ((congrArg (R.bind · _) (zbD g h)))
theorem zaa{S:D}{s i k:Int}(h0:zr ρ 0=S)(hi:jg S (.int i)=.ok (.int s))(hm:zh7 (.int s) (.int k)=.ok z):ev GG cf (.bin .mod (.bin .idx (.var 0) (.lit (.int i))) (.lit (.int k))) ρ=.ok z:=
 zm (zm (congrArg R.ok h0) rfl hi) rfl hm
end
theorem zdR(s:Int){k:Nat}(hk:0<k):0<=((md s k:Nat):Int)/\((md s k:Nat):Int)<k:=⟨Int.natCast_nonneg _,Int.ofNat_lt.mpr (zd5 s hk)⟩
theorem zuP(i:Int):neD (.int i) (.int i)=.ok (.bool false):=by rw[zkK,decide_eq_true rfl];rfl
theorem zpV{mode hk:Nat}{Fs:List Mx}{m:Nat}(h:m<4):∃path,jg (.tuple [.list [],.list [.int (-1)],.list [.int ((Fs.length:Int)+2)],.list [.int (Fs.length:Int),.int ((Fs.length:Int)+1)]]) (.int m)=.ok path/\zd G T 2000 640 13 [zo mode hk Fs,path]=.ve:=by
 match m,h with
 |0,_=>exact⟨_,rfl,zuX⟩
 |1,_=>exact⟨_,rfl,zuq⟩
 |2,_=>exact⟨_,rfl,zwa⟩
 |3,_=>exact⟨_,rfl,zuF⟩
theorem zur{cf ci:Nat->List D->R D}{ρ:ze}{d:Option (List Nat)}{g l:D}(h25:zr ρ 25=zbe d)(h28:zr ρ 28=.bool d.isNone)(h20:zr ρ 20=g)(h27:zr ρ 27=zbe d)(h26:zr ρ 26=l)(h:∀v,d=some v->cf 13 [g,wD v]=.ok l)(hl:neD l l=.ok (.bool false)):
  exec G cf ci 2000 (.ifs (.un .isNone (.var 25)) (.ifs (.un (.notB true) (.var 28)) (.ret (.lit (.bool false))) .skip) (.ifs (.or_ (.un (.notB false) (.var 28)) (.bin .ne (.call 13 (.cons (.var 20) (.cons (.var 27) .nil))) (.var 26))) (.ret (.lit (.bool false))) .skip)) ρ=.ok (.next,ρ):=by
 induction d using Option.casesOn with
 |none=>exact zY (zbA (congrArg R.ok h25) rfl) (zz (zbA (congrArg R.ok h28) rfl) rfl)
 |some v=>exact zz (zbA (congrArg R.ok h25) rfl) (zz (zbz (zbA (congrArg R.ok h28) rfl) (zm (zbD (h v rfl) (zj (congrArg R.ok h20) (zj (congrArg R.ok h27) rfl))) (congrArg R.ok h26) hl)) rfl)
theorem zs4{x y:Tok}{v1 v2 mode:Nat}{sp:List Nat}(H:En x y v1 v2 sp mode){t:List Nat}(h:t.length<=168):(jZ sp x y t).length<=240:=by
 have h1:=H.sp.len;have h2:=H.lx;have h3:=H.ly;clear H;rw[zf1];lia
theorem zsZ{mode hk:Nat}{gs:List D}(h:∀g∈gs,∃o o',g=gD tF tG o o'):∀g∈gs++[grD tG tG (ggM mode),grD tH tH (hhM hk)],isDict g=false/\PyData.depth g<=4000:=by
 intro g hg;rcases List.mem_append.mp hg with hg|hg
 ·obtain⟨o,o',rfl⟩:=h g hg;exact⟨rfl,qA (kr _ _ _ _) (by decide)⟩
 ·rcases List.mem_cons.mp hg with rfl|hg
  ·exact⟨rfl,qA (kr _ _ _ _) (by decide)⟩
  ·rw[List.mem_singleton.mp hg];exact⟨rfl,qA (kr _ _ _ _) (by decide)⟩
theorem zly{mode hk:Nat}{Fs:List Mx}:∀g∈(zc mode Fs).map (Nd.dd hk),∃f h:D,∃es,g=.tuple [f,h,.list es]/\∀d∈es,zgh d:=by
 intro g hg;obtain⟨a,_,rfl⟩:=List.mem_map.mp hg;induction a using Nd.casesOn with
 |F A=>exact⟨_,_,_,rfl,zbd _ _⟩
 |X A=>exact⟨_,_,_,rfl,zbd _ _⟩
 |H=>exact⟨_,_,_,rfl,zbd _ _⟩
set_option maxHeartbeats 1000000 in
theorem zsh(SC:D)(s:Nat->Int)(L:Int)(hL:zdU SC=.ok (.int L))(hL22:¬L<22)(hs:∀i:Nat,i<22->jg SC (.int i)=.ok (.int (s i))):
  Rt G (zd G T 2000 640) (zk G T 2000 640) 2000 zcx.body [SC,OO,OO,OO,OO,OO,OO,OO,OO,OO,OO,OO,OO,OO,OO,OO,OO,OO,OO,OO,OO,OO,OO,OO,OO,OO,OO,OO,OO,OO,OO,OO,OO,OO,OO,OO,OO,OO,OO,OO,OO,OO,OO,OO,OO,OO,OO,OO,OO,OO,OO,OO] (.bool true):=by
 obtain⟨mode,hm,em⟩:=zrI (s 0) 4 (by decide);obtain⟨hk,hh,eh⟩:=zrI (s 1) 2 (by decide);obtain⟨sp,hsp,esp⟩:=zvt (md (s 5) 3) (zd5 _ (by decide));obtain⟨x,y,hx,hy,hxy,hlx,hly,eps⟩:=zu7 (md (s 2) 3) (zd5 _ (by decide));obtain⟨v1,hv1,e3⟩:=zrI (s 3) 4 (by decide);obtain⟨v2,hv2,e4⟩:=zrI (s 4) 4 (by decide);have H:En x y v1 v2 sp mode:=⟨hx,hy,hxy,hlx,hly,Nat.le_of_lt_succ hv1,Nat.le_of_lt_succ hv2,hsp,hm⟩;clear hx hy hxy hv1 hv2;have hsl:=hsp.len;have kn0:zfz x y [] 0 0:=⟨rfl,rfl⟩;obtain⟨p,ep,gp⟩:=zkW H kn0 (n:=640) (by decide) (md (s 7) 6:Nat) (md (s 8) 6:Nat) (md (s 9) 5:Nat) (md (s 10) 6:Nat) (md (s 11) 5:Nat) (md (s 12) 5:Nat) (zdR (s 7) (k:=6) (by decide)) (zdR (s 8) (k:=6) (by decide)) (zdR (s 9) (k:=5) (by decide)) (zdR (s 10) (k:=6) (by decide)) (zdR (s 11) (k:=5) (by decide)) (zdR (s 12) (k:=5) (by decide));obtain⟨q,eq',gq⟩:=zkW H (zkV H kn0 (md (s 6) 5:Nat)) (n:=640) (by decide) (md (s 13) 6:Nat) (md (s 14) 6:Nat) (md (s 15) 5:Nat) (md (s 16) 6:Nat) (md (s 17) 5:Nat) (md (s 18) 5:Nat) (zdR (s 13) (k:=6) (by decide)) (zdR (s 14) (k:=6) (by decide)) (zdR (s 15) (k:=5) (by decide)) (zdR (s 16) (k:=6) (by decide)) (zdR (s 17) (k:=5) (by decide)) (zdR (s 18) (k:=5) (by decide));obtain⟨w,ew,gw⟩:=znp H (n:=640) (by decide) (md (s 6) 5:Nat) (zdR (s 6) (k:=5) (by decide)) gp gq;clear gp gq;have hgl:=qC (zlg mode hm).2;have hhl:=qC (zmZ hk hh).2;have hfl:=zs4 H gw.tl;have hd:w.e.dep<=10:=qA gw.dep (by decide);refine Rt.iff (zm (zbA rfl hL) rfl (congrArg (fun b=>R.ok (PyData.bool b)) (decide_eq_false hL22))) ?_;refine Rt.asgm (jC (zj (zaa rfl (hs 0 (by decide)) em) (zj (zaa rfl (hs 1 (by decide)) eh) rfl)) rfl) rfl ?_;refine Rt.asg (zm rfl (zaa rfl (hs 5 (by decide)) (ku (s 5) (k:=3) (by decide))) esp) ?_;refine Rt.asg (y:=zgx x y v1 v2 sp mode) (jC (zj (zm rfl (zaa rfl (hs 2 (by decide)) (ku (s 2) (k:=3) (by decide))) eps) (zj (jC (zj (zaa rfl (hs 3 (by decide)) e3) (zj (zaa rfl (hs 4 (by decide)) e4) rfl)) rfl) rfl)) rfl) ?_;refine Rt.asg (zaa rfl (hs 6 (by decide)) (ku (s 6) (k:=5) (by decide))) ?_;refine Rt.asg (zbD ep (zj (jC (zj (zaa rfl (hs 7 (by decide)) (ku (s 7) (k:=6) (by decide))) (zj (zaa rfl (hs 8 (by decide)) (ku (s 8) (k:=6) (by decide))) (zj (zaa rfl (hs 9 (by decide)) (ku (s 9) (k:=5) (by decide))) (zj (zaa rfl (hs 10 (by decide)) (ku (s 10) (k:=6) (by decide))) (zj (zaa rfl (hs 11 (by decide)) (ku (s 11) (k:=5) (by decide))) (zj (zaa rfl (hs 12 (by decide)) (ku (s 12) (k:=5) (by decide))) rfl)))))) rfl) rfl)) ?_;refine Rt.asg (zbD eq' (zj (jC (zj (zaa rfl (hs 13 (by decide)) (ku (s 13) (k:=6) (by decide))) (zj (zaa rfl (hs 14 (by decide)) (ku (s 14) (k:=6) (by decide))) (zj (zaa rfl (hs 15 (by decide)) (ku (s 15) (k:=5) (by decide))) (zj (zaa rfl (hs 16 (by decide)) (ku (s 16) (k:=6) (by decide))) (zj (zaa rfl (hs 17 (by decide)) (ku (s 17) (k:=5) (by decide))) (zj (zaa rfl (hs 18 (by decide)) (ku (s 18) (k:=5) (by decide))) rfl)))))) rfl) (zj (zbD (zkQ (n:=639) (md (s 6) 5:Nat) 0 0) rfl) rfl))) ?_;refine Rt.asg (zbD ew rfl) ?_;refine Rt.asgm (zbD (zrb (mode:=mode) (hk:=hk) (n:=640) hm hh (by decide)) rfl) rfl ?_;refine Rt.asgm (xs:=[ds x,ds y]) rfl rfl ?_;show Rt G _ _ 2000 _ [SC,.int mode,.int hk,ds sp,zgx x y v1 v2 sp mode,.int (md (s 6) 5:Nat),p.d,q.d,w.d,.list [ds (j3 mode),ds (zan hk)],.list [(zaT mode).d,(zaV hk).d],.list [grD tG tG (ggM mode),grD tH tH (hhM hk)],ds x,ds y,OO,OO,OO,OO,OO,OO,OO,OO,OO,OO,OO,OO,OO,OO,OO,OO,OO,OO,OO,OO,OO,OO,OO,OO,OO,OO,OO,OO,OO,OO,OO,OO,OO,OO,OO,OO,OO,OO] _;refine Rt.asg (y:=ds (jZ sp x y w.t)) (Sv.add (Sv.add (Sv.add (Sv.add (Sv.add (Sv.add (Sv.add (Sv.add (Sv.add (Sv.add (Sv.add (Sv.add (Sv.add (Sv.add (Sv.add (Sv.add ⟨rfl,hsl⟩ ⟨rfl,l1⟩ rfl) ⟨rfl,hsl⟩ rfl) ⟨rfl,l1⟩ rfl) ⟨rfl,hsl⟩ rfl) ⟨rfl,hlx⟩ rfl) ⟨rfl,hsl⟩ rfl) ⟨rfl,l1⟩ rfl) ⟨rfl,hsl⟩ rfl) ⟨rfl,hly⟩ rfl) ⟨rfl,hsl⟩ rfl) ⟨rfl,l1⟩ rfl) ⟨rfl,hsl⟩ rfl) ⟨rfl,l1⟩ rfl) ⟨rfl,hsl⟩ rfl) ⟨rfl,gw.tl⟩ rfl) ⟨rfl,hsl⟩ rfl).h ?_;refine Rt.asg (y:=ds (zbX x y w.u mode hk)) (Sv.add (Sv.add (Sv.add (Sv.add (Sv.add (Sv.add (Sv.add (Sv.add (Sv.add (Sv.add ⟨rfl,l2⟩ ⟨rfl,hlx⟩ rfl) ⟨rfl,l2⟩ rfl) ⟨rfl,hly⟩ rfl) ⟨rfl,l4⟩ rfl) ⟨rfl,gw.ul⟩ rfl) ⟨rfl,l1⟩ rfl) ⟨rfl,hgl⟩ rfl) ⟨rfl,l1⟩ rfl) ⟨rfl,hhl⟩ rfl) ⟨rfl,l1⟩ rfl).h ?_;refine Rt.asg (y:=jO x y w mode hk) (zm rfl rfl (za3 (xs:=[(zcM x y w).d]) (ys:=[(zaT mode).d,(zaV hk).d]) (bs (Nat.le_refl _) rfl))) ?_;refine Rt.asg (zbD (ziD H gw (by decide) (by decide) (by decide) (hk:=hk) (n:=640) hh (by decide)) (zj (zvk rfl rfl (zwG sp (jZ sp x y w.t) sp (j3 mode) (zan hk) (bs (Nat.add_le_add (Nat.add_le_add (Nat.add_le_add (Nat.add_le_add hsl hfl) hsl) hgl) hhl) rfl))) rfl)) ?_;refine Rt.iff (zm rfl rfl (zdQ hd hh)) ?_;refine Rt.iff (zm (zbD (zrJ H gw (by decide) (by decide) (hk:=hk) (n:=640) hh (by decide)) rfl) rfl (zqo _)) ?_;refine Rt.iff (zm (zbD (zhA H gw (by decide) (by decide) (by decide) (hk:=hk) (n:=640) hh (by decide)) rfl) rfl (zdQ hd hh)) ?_;refine Rt.nxt rfl ?_;obtain⟨Fs,hnd,hFl,eG⟩:=zgP gw.gg gw.gl mode hk;obtain⟨t19,ead⟩:=zrv SC (.int mode) (.int hk) (ds sp) (zgx x y v1 v2 sp mode) (.int (md (s 6) 5:Nat)) p.d q.d w.d (.list [ds (j3 mode),ds (zan hk)]) (.list [(zaT mode).d,(zaV hk).d]) (.list [grD tG tG (ggM mode),grD tH tH (hhM hk)]) (ds x) (ds y) (ds (jZ sp x y w.t)) (ds (zbX x y w.u mode hk)) (jO x y w mode hk) (jO x y w mode hk) (w.gs++[grD tG tG (ggM mode),grD tH tH (hhM hk)]) [] .none (zsZ gw.gg) (bs (qA (Nat.le_of_eq (Nat.zero_add _)) (qA (Nat.le_of_eq List.length_append) (Nat.add_le_add gw.gl (Nat.le_refl 2)))) rfl);rw[eG] at ead;refine Rt.nxt (zcH (zm rfl rfl (za3 (bs (Nat.add_le_add gw.gl (Nat.le_refl 2)) rfl))) ead) ?_;have ecalls:∀n,30<=n->zd G T 2000 n 20 [jO x y w mode hk]=.ok (zo mode hk Fs):=fun n hn=>(zjs H gw (by decide) (by decide) hh hn).trans (congrArg R.ok eG);clear ead;have hF:Fs.length<100:=qB hFl (by decide);have eends:zd G T 2000 640 21 [jO x y w mode hk]=.ok (.bool (due mode hk Fs.length).isNone):=by
  rw[zuJ];exact(Rt.ret (zbD (zse (N:=636) hm hh (by decide) hnd hF) (zj (zbD (ecalls 639 (by decide)) rfl) rfl))).fin
 refine Rt.asg (zbD (ecalls 640 (by decide)) rfl) ?_;refine Rt.iff (zm rfl rfl zeb) ?_;obtain⟨t19',t21,t22,t23,ety⟩:=zuR SC (.int mode) (.int hk) (ds sp) (zgx x y v1 v2 sp mode) (.int (md (s 6) 5:Nat)) p.d q.d w.d (.list [ds (j3 mode),ds (zan hk)]) (.list [(zaT mode).d,(zaV hk).d]) (.list [grD tG tG (ggM mode),grD tH tH (hhM hk)]) (ds x) (ds y) (ds (jZ sp x y w.t)) (ds (zbX x y w.u mode hk)) (jO x y w mode hk) (jO x y w mode hk) (zo mode hk Fs) (zo mode hk Fs) ((zc mode Fs).map (Nd.dd hk)) t19 .none .none .none zly;refine Rt.nxt (zcH rfl ety) ?_;clear ety;refine Rt.asg (zm (zbA rfl kg) rfl (congrArg (fun i=>R.ok (PyData.int i)) (Int.add_sub_cancel (Fs.length:Int) 2))) ?_;refine Rt.nxt rfl ?_;obtain⟨e25,e26,ed1,ed2⟩:=zrY SC (ds sp) (zgx x y v1 v2 sp mode) (.int (md (s 6) 5:Nat)) p.d q.d w.d (.list [ds (j3 mode),ds (zan hk)]) (.list [(zaT mode).d,(zaV hk).d]) (.list [grD tG tG (ggM mode),grD tH tH (hhM hk)]) (ds x) (ds y) (ds (jZ sp x y w.t)) (ds (zbX x y w.u mode hk)) (jO x y w mode hk) (jO x y w mode hk) (zo mode hk Fs) t19' (zo mode hk Fs) t21 t22 t23 (mode:=mode) (hk:=hk) Fs.length hm hh;refine Rt.nxt ed1 (Rt.nxt ed2 ?_);clear ed1 ed2;refine Rt.asg (zbD (zfJ (N:=638) (mode:=mode) (hk:=hk) hm hh (by decide) hnd hF) rfl) ?_;refine Rt.iff (zm rfl rfl (zmT _)) ?_;refine Rt.asg (zbD eends rfl) ?_;refine Rt.nxt (zur rfl rfl rfl rfl rfl (fun v hv=>zlu hm hh hv) zmM) ?_;obtain⟨r1,r2⟩:=zuH H gw (by decide) (hk:=hk) (n:=640) (by decide);refine Rt.nxt (zy0 (xs:=[.int v1,.int v2]) (zj (zaa rfl (hs 3 (by decide)) e3) (zj (zaa rfl (hs 4 (by decide)) e4) rfl)) rfl) ?_;refine Rt.asg (zbD r1 rfl) ?_;refine Rt.iff (zbz rfl (zm rfl rfl (zuP _))) ?_;refine Rt.iff (zbA (zbD r2 rfl) rfl) ?_;obtain⟨cd,edam⟩:=zlB (n:=639) (md (s 19) 5) (zd5 _ (by decide)) (s 20) (jZ sp x y w.t) (j3 mode) (by rw[zf1];exact Nat.succ_pos _) (qB hfl (by decide)) (qB hgl (by decide));refine Rt.asg (zbD edam (zj (zaa rfl (hs 19 (by decide)) (ku (s 19) (k:=5) (by decide))) (zj (zm rfl rfl (hs 20 (by decide))) rfl))) ?_;refine Rt.nxt rfl ?_;refine Rt.nxt (zww (zmz H gw (by decide) (n:=640) (kind:=md (s 19) 5) (c:=cd) (by decide)) rfl) ?_;refine Rt.iff rfl ?_;obtain⟨path,epath,epv⟩:=zpV (mode:=mode) (hk:=hk) (Fs:=Fs) (zd5 (s 21) (k:=4) (by decide));refine Rt.asg (zm rfl (zaa rfl (hs 21 (by decide)) (ku (s 21) (k:=4) (by decide))) epath) ?_;refine Rt.nxt rfl ?_;refine Rt.nxt (zww epv rfl) ?_;refine Rt.iff rfl ?_;refine Rt.iff (zbz (zm rfl rfl (zdQ hd hh)) (zbz (zm rfl rfl zeb) (zm rfl (zul (zj (zaa rfl (hs 3 (by decide)) e3) (zj (zaa rfl (hs 4 (by decide)) e4) rfl)) rfl) (zo1 [v1,v2])))) ?_;exact Rt.ret rfl
end Mine
namespace Mine
open PySem
theorem zyv(ns:List Int):∃σ,exec G (zd G T 2000 640) (zk G T 2000 640) 2000 zcx.body ([.list (ns.map PyData.int)]++List.replicate (zcx.nv - zcx.np) .none)=.ok (.ret (.bool true),σ):=by
 have r:Rt G (zd G T 2000 640) (zk G T 2000 640) 2000 zcx.body ([.list (ns.map PyData.int)]++List.replicate (zcx.nv - zcx.np) .none) (.bool true):=by
  by_cases h:(((ns.map PyData.int).length:Nat):Int)<22
  ·exact Rt.seq (Rt.ift (zm (zbA rfl rfl) rfl (congrArg (fun b=>R.ok (PyData.bool b)) (decide_eq_true h))) (Rt.ret rfl))
  ·refine zsh (.list (ns.map PyData.int)) (ns.getD · 0) _ rfl h fun i hi=>?_;rw[List.length_map] at h;have hl:i<ns.length:=qD hi (Int.ofNat_le.mp (Int.not_lt.mp h));rw[zai,List.getElem?_map,List.getElem?_eq_getElem hl,List.getD_eq_getElem?_getD,List.getElem?_eq_getElem hl];rfl
 exact r.casesOn fun σ h=>⟨σ,h⟩
end Mine
set_option tactic.hygienic true
open PySem PySem.W PyProof.Rows PySem.Calls
set_option Elab.async false
set_option maxRecDepth 100000
set_option maxHeartbeats 8000000
namespace Mine
noncomputable def zzc:Stmt->Bool
 |.Assign [.Name n _] _ _=>n==Str.ofString "__name__"
 |_=>false
noncomputable def zpC:Program:={PySem.Challenge.pw_sx_r010_1 with main:={PySem.Challenge.pw_sx_r010_1.main with body:=PySem.Challenge.pw_sx_r010_1.main.body.filter fun s=>!zzc s}}
noncomputable def K1:List (Str×D):=[(Str.ofString "_letters",G.getD 0 .none),(Str.ofString "_digits",G.getD 1 .none),(Str.ofString "_keys",G.getD 2 .none),(Str.ofString "_law_params",G.getD 3 .none),(Str.ofString "_law_bad",G.getD 4 .none)]
theorem hG1:G=K1.map (·.2):=rfl
noncomputable def zy9(d:DefRec):zH:=⟨d.name,d.params,d.body,d.scope⟩
noncomputable def F0:List zH:=(recsOf zpC).map zy9
noncomputable def F1:List zH:=F0.take 33
noncomputable def io1:List Str:=[Str.ofString "_calls"]
theorem zwc:F0.length=34:=by decide +kernel
theorem zzh:zxs F1 K1 T io1=true:=by decide +kernel
theorem tr1:(F1.map fun fi=>trB ⟨fi.scope.names,F1.map (·.name),io1,K1.map (·.1)⟩ fi.body)=(T.take F1.length).map fun fd=>some fd.body:=by kernel_rfl
noncomputable def zhr:zH:=F0.getD 33 ⟨⟨#[]⟩,default,[],default⟩
theorem zzi:zsw zhr zcx ⟨zhr.scope.names,F1.map (·.name),io1,K1.map (·.1)⟩=true:=by decide +kernel
theorem zzb:trB ⟨zhr.scope.names,F1.map (·.name),io1,K1.map (·.1)⟩ zhr.body=some zcx.body:=by kernel_rfl
theorem zws:zhr.name=Str.ofString "law":=by decide +kernel
theorem zxf:zhr∈F0:=by
 have h:33<F0.length:=by rw[zwc];decide
 have:zhr=F0[33]:=by unfold zhr;rw[List.getD_eq_getElem?_getD,List.getElem?_eq_getElem h];rfl
 rw[this];exact List.getElem_mem h
theorem zsr:33<(recsOf zpC).length:=by decide +kernel
noncomputable def zzd:DefRec:=(recsOf zpC)[33]'(zsr)
end Mine
theorem PySem.Challenge.cw_sx_r010_1_holds : PySem.Challenge.rw_sx_r010_1.Holds := by
  w_on
  refine holds_law (by decide +kernel) fun said => ?_
  refine holds_open (q := Mine.zpC) (d := Mine.zzd) (kwd := []) (loose := [Str.ofString "_keys"]) (Xt := fun s => xlAt Mine.zpC [] s && recOk (RowW.records (OpenRow.toRowW PySem.Challenge.rw_sx_r010_1.row)) s) (XP := XL Mine.zpC []) (Yf := Hook.obs (Mine.zzj Mine.K1)) (Ya := Hook.val (Mine.zzj Mine.K1)) (YP := Hook.says (Mine.zzj Mine.K1)) (N := 2642) ?hl (Hook.of (Mine.zzj Mine.K1)) (Hook.keeps (Mine.zzj Mine.K1)) (fun s e => xl_of s (Bool.and_eq_true_iff.mp e).1) XL.keeps (by kernel_rfl) (by kernel_rfl) (by kernel_rfl) (fun s e => recFacts_of (Bool.and_eq_true_iff.mp e).2) (by rfl) (by first | assumption | decide +kernel) (by decide +kernel) ⟨rfl, rfl, rfl, rfl, rfl, by decide +kernel⟩ ?hw ?hc
  case hl => intro w; kernel_rfl
  case hw => w_witness2
  case hc =>
    intro w s₀ s₁ mg mb G Y fa o pm cd doc dV kV ho hd hcd hD hmg hg args vals as hpre hlay hrd hwl hlo
    have hY : Mine.zgc Mine.K1 s₁.heap.get? = true := Y
    refine Ground.open G ?_
    intro T B D TE TW
    have hB : Mine.kH Mine.F1 Mine.K1 mg mb s₁.heap :=
      { g := T.g, b := T.b, nolimit := T.nolimit, bi := T.builtins
        fn := fun i fi hi => by
          have hm : fi ∈ Mine.F0 := List.mem_of_mem_take (List.mem_of_getElem? hi)
          obtain ⟨d, hd', rfl⟩ := List.mem_map.mp hm
          exact T.fn d hd'
        const := Mine.zvR T.g hY
        free := Mine.zwr T.g hY }
    have hLaw : ∃ o pm cd doc, s₁.heap.get? fa = some o ∧ o.data = .func (docDef Mine.zhr.name Mine.zhr.params Mine.zhr.body Mine.zhr.scope pm cd doc) ∧ s₁.heap.CodeRec cd Mine.zhr.name := by
      obtain ⟨d, hd', e⟩ := List.mem_map.mp Mine.zxf
      obtain ⟨a, o, pm, cd, doc, h1, h2, h3, h4⟩ := T.fn d hd'
      have e1 : d.name = Mine.zhr.name := by rw [← e]; rfl
      rw [e1, Mine.zws] at h1
      have hmg : mg (Str.ofString "law") = some (.ref fa) := hmg
      have ea : a = fa := by injection Option.some.inj (h1.symm.trans hmg)
      exact ⟨o, pm, cd, doc, ea ▸ h2, by rw [h3, ← e]; rfl, by rw [← e1]; exact h4⟩
    clear hd hcd hD ho
    obtain ⟨o, pm, cd, doc, ho, hdat, hcd⟩ := hLaw
    wrow_args hpre hlay hrd hwl hlo
    all_goals (
      first | refine callC_kw (enter_call ?_) | refine enter_call ?_ | refine callC_kw (enter_callW ?_) | refine enter_callW ?_ | w_how
      w_top on
      rename_i ns _ _ _ _ _ _ _ a vs _ hL _ hW _ hI _ hle _
      refine codeAny_mono (Mine.zyw (T := Mine.T) hB Mine.hG1 (Mine.zyX Mine.tr1 Mine.zzh) (Mine.zu8 Mine.zzb Mine.zzi) rfl rfl ho hdat hcd hW hL hI (by omega) (Mine.zyv ns)) ?_
      intro r s' h
      obtain ⟨rfl, hk, hos, hgn⟩ := h
      refine ⟨Or.inl ⟨_, _, _, rfl, raisesW_false ?_, .bool true, ?_, unshared_nil⟩, .of_keep hk, hos, hgn (.of_eq hg)⟩
      · wrow_none_raised
      · wrow_post)
