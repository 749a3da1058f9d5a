import PyProof.Rows.All
import KE.KEqDict
import KE.KRevSl
import KE.KIsAll
import KE.KDictSum
import KE.KDictOf
import KE.KDictMeth
import PyProof.EnumMake
import KE.KItem
import Wide.All
import OpenK.AllK
import PyProof.TableCode
import Wide.FinOn
import PySem.Challenge.RW_uf010027_13
set_option Elab.async false
set_option maxRecDepth 100000
set_option maxHeartbeats 8000000
set_option linter.all false
set_option autoImplicit false
/-! The pure evaluator (my own): the row's AST over plain values. -/
namespace Mine
open PySem
inductive PV where
 | none
 | bool (b:Bool)
 | int (i:Int)
 | str (s:Str)
 | tup (xs:List PV)
 | lst (xs:List PV)
 | ref (i:Nat)
 | exc (C:Addr)
 deriving Inhabited
inductive Cel where
 | list (xs:List PV)
 | dict (kvs:List (Str×PV))
 | dead
 deriving Inhabited
noncomputable abbrev zaa:=List Cel
inductive Rs (α:Type) where
 | ok (a:α) (σ:zaa)
 | err (C:Addr) (σ:zaa)
 | stuck
noncomputable def M(α:Type):Type:=zaa→Rs α
namespace M
variable {α β:Type}
noncomputable def ret(a:α):M α:=fun σ=>.ok a σ
noncomputable def bind(x:M α)(f:α→M β):M β:=fun σ=>
 match x σ with
 | .ok a σ'=>f a σ'
 | .err C σ'=>.err C σ'
 | .stuck=>.stuck
noncomputable def fail:M α:=fun _=>.stuck
noncomputable def lift(o:Option α):M α:=fun σ=>
 match o with
 | some a=>.ok a σ
 | none=>.stuck
noncomputable def noErr(x:M α):M α:=fun σ=>match x σ with
 | .ok a σ'=>.ok a σ'
 | _=>.stuck
noncomputable def cond(b:Bool)(x y:M α):M α:=match b with | true=>x | false=>y
end M
noncomputable def zal{α β:Type}(f:α→Option β):List α→Option (List β)
 | []=>some []
 | x::xs=>match f x with
  | some y=>match zal f xs with
   | some ys=>some (y::ys)
   | Option.none=>Option.none
  | Option.none=>Option.none
mutual
noncomputable def eqv:PV→PV→Bool
 | .none,.none=>true
 | .bool a,.bool b=>a==b
 | .bool a,.int j=>(if a then 1 else 0)==j
 | .int i,.bool b=>i==(if b then 1 else 0)
 | .int i,.int j=>i==j
 | .str x,.str y=>x==y
 | .lst xs,.lst ys=>eqvs xs ys
 | .tup xs,.tup ys=>eqvs xs ys
 | _,_=>false
noncomputable def eqvs:List PV→List PV→Bool
 | [],[]=>true
 | x::xs,y::ys=>eqv x y&&eqvs xs ys
 | _,_=>false
end
noncomputable def whole(σ:zaa):Nat→PV→Option PV
 | 0,_=>Option.none
 | n+1,v=>match v with
  | .none=>some .none
  | .bool b=>some (.bool b)
  | .int i=>some (.int i)
  | .str s=>some (.str s)
  | .tup xs=>(zal (whole σ n) xs).map .tup
  | .lst xs=>(zal (whole σ n) xs).map .lst
  | .ref i=>match σ[i]? with
   | some (.list xs)=>(zal (whole σ n) xs).map .lst
   | _=>Option.none
  | .exc _=>Option.none
noncomputable def zai:Nat:=500
noncomputable def zjc(y x:Str):Bool:=!(Builtin.Str.occurrences x y 0 x.length 1).isEmpty
noncomputable def cget(i:Nat):M Cel:=fun σ=>
 match σ[i]? with
 | some c=>.ok c σ
 | Option.none=>.stuck
noncomputable def cset(i:Nat)(c:Cel):M Unit:=fun σ=>.ok () (σ.set i c)
noncomputable def cnew(c:Cel):M PV:=fun σ=>.ok (.ref σ.length) (σ++[c])
noncomputable def zan:PV→M Bool
 | .bool b=>M.ret b
 | _=>M.fail
noncomputable def onInt{β:Type}(a:PV)(k:Int→M β):M β:=match a with
 | .int i=>k i
 | _=>M.fail
noncomputable def onStr{β:Type}(a:PV)(k:Str→M β):M β:=match a with
 | .str i=>k i
 | _=>M.fail
noncomputable def onTup{β:Type}(a:PV)(k:List PV→M β):M β:=match a with
 | .tup i=>k i
 | _=>M.fail
noncomputable def onLst{β:Type}(a:PV)(k:List PV→M β):M β:=match a with
 | .lst i=>k i
 | _=>M.fail
noncomputable def onRef{β:Type}(a:PV)(k:Nat→M β):M β:=match a with
 | .ref i=>k i
 | _=>M.fail
noncomputable def lget(i:Nat):M (List PV):=(cget i).bind fun c=>match c with
 | .list xs=>M.ret xs
 | _=>M.fail
noncomputable def litems:PV→M (List PV)
 | .lst xs=>M.ret xs
 | .ref i=>lget i
 | _=>M.fail
noncomputable def items:PV→M (List PV)
 | .tup xs=>M.ret xs
 | v=>litems v
noncomputable def dget(i:Nat):M (List (Str×PV)):=(cget i).bind fun c=>match c with
 | .dict kvs=>M.ret kvs
 | _=>M.fail
noncomputable def dput(k:Str)(v:PV)(kvs:List (Str×PV)):List (Str×PV):=
 if kvs.any (fun kv=>kv.1=k) then kvs.map (fun kv=>if kv.1=k then (kv.1,v) else kv) else kvs++[(k,v)]
noncomputable def dat(kvs:List (Str×PV))(k:Str):Option PV:=(kvs.find? fun kv=>kv.1=k).map (·.2)
noncomputable def ddel(k:Str)(kvs:List (Str×PV)):List (Str×PV):=kvs.filter fun kv=>decide (kv.1≠k)
noncomputable def wholeM(a:PV):M PV:=fun σ=>
 match whole σ zai a with
 | some x=>.ok x σ
 | Option.none=>.stuck
noncomputable def zbT(as:List PV):M (List PV):=fun σ=>
 match zal (whole σ zai) as with
 | some x=>.ok x σ
 | Option.none=>.stuck
noncomputable def eqM(a b:PV):M Bool:=(wholeM a).bind fun x=>(wholeM b).bind fun y=>M.ret (eqv x y)
noncomputable def zil(x:PV)(ys:List PV):M Bool:=(wholeM x).bind fun x'=>(zbT ys).bind fun ys'=>M.ret (ys'.any fun y=>eqv y x')
structure FnD where
 params:List Str
 scope:Scope
 body:List Stmt
inductive GV where
 | fn (a:Addr)
 | cls (a:Addr)
 | val (v:PV)
structure Md where
 rz:Bool
 lp:Bool
structure Gl where
 names:List (Str×GV)
 fns:List (Addr×FnD)
 sub:List (Addr×Addr)
 clss:List Addr
 mu:List (Nat×Nat)
 fz:List (Nat×Nat)
noncomputable abbrev Loc:=Str→Option PV
noncomputable def Loc.set(ρ:Loc)(x:Str)(v:PV):Loc:=fun y=>if y=x then some v else ρ y
structure Cx where
 G:Gl
 call:Md→Addr→List PV→M PV
 md:Md
noncomputable def zaw(cx:Cx)(p:Pos)(xs:List PV):M PV:=
 M.cond (cx.G.mu.contains (p.line,p.col)) (cnew (.list xs)) (M.ret (.lst xs))
inductive Callee where
 | fn (a:Addr)
 | cls (a:Addr)
 | val (v:PV)
 | bi (x:Str)
noncomputable def zaW(cx:Cx)(sc:Scope)(ρ:Loc)(x:Str):Option Callee:=
 match ρ x with
 | some v=>some (.val v)
 | Option.none=>
  match sc.names.lookup x with
  | some .globalImplicit=>
   match cx.G.names.lookup x with
   | some (.fn a)=>some (.fn a)
   | some (.cls a)=>some (.cls a)
   | some (.val v)=>some (.val v)
   | Option.none=>some (.bi x)
  | _=>Option.none
noncomputable def zba(i:Int):Bool:=decide (-(2 ^ 62)≤i)&&decide (i≤2 ^ 62)
noncomputable def zcZ(s:Str)(n:Nat):Str:=⟨((List.replicate n s.cps.toList).flatten).toArray⟩
noncomputable def ziI(xs:List PV)(n:Nat):List PV:=(List.replicate n xs).flatten
noncomputable def addV(cx:Cx)(p:Pos)(a b:PV):M PV:=match a with
 | .int i=>onInt b fun j=>M.ret (.int (i+j))
 | .str x=>onStr b fun y=>M.cond (decide (x.length+y.length≤2 ^ 20)) (M.ret (.str (x++y))) M.fail
 | .tup x=>onTup b fun y=>M.cond (decide (x.length+y.length≤2 ^ 20)) (M.ret (.tup (x++y))) M.fail
 | .lst x=>onLst b fun y=>M.cond (decide (x.length+y.length≤2 ^ 20)) (zaw cx p (x++y)) M.fail
 | _=>M.fail
noncomputable def mulV(cx:Cx)(p:Pos)(a b:PV):M PV:=onInt b fun n=>match a with
 | .int i=>M.cond (zba i || zba n) (M.ret (.int (i*n))) M.fail
 | .str x=>M.cond (decide (0≤n)&&decide (n≤1000)&&decide (x.length≤1000)) (M.ret (.str (zcZ x n.toNat))) M.fail
 | .lst x=>M.cond (decide (0≤n)&&decide (n≤1000)&&decide (x.length≤1000)) (zaw cx p (ziI x n.toNat)) M.fail
 | _=>M.fail
noncomputable def zng(cx:Cx)(p:Pos)(op:Operator)(a b:PV):M PV:=match op with
 | .Add=>addV cx p a b
 | .Sub=>onInt a fun i=>onInt b fun j=>M.ret (.int (i-j))
 | .Mult=>mulV cx p a b
 | .FloorDiv=>onInt a fun i=>onInt b fun j=>M.cond (decide (0<j)&&decide (j<1073741824)) (M.ret (.int (i.fdiv j))) M.fail
 | .Mod=>onInt a fun i=>onInt b fun j=>M.cond (decide (0<j)) (M.ret (.int (i.fmod j))) M.fail
 | _=>M.fail
noncomputable def zgk:PV→Bool
 | .none=>true
 | _=>false
noncomputable def zgm(p:Bool):PV→Bool
 | .bool q=>p==q
 | _=>false
noncomputable def ziJ:PV→Option Bool
 | .none=>some false
 | .bool _=>some false
 | _=>Option.none
noncomputable def zeh(a b:PV):Option Bool:=match a with
 | .none=>some (zgk b)
 | .bool p=>some (zgm p b)
 | _=>ziJ b
noncomputable def inOp(x c:PV):M Bool:=match c with
 | .str y=>onStr x fun s=>M.ret (zjc s y)
 | c=>(items c).bind fun xs=>zil x xs
noncomputable def ze8:PV→Bool
 | .none=>true
 | .bool _=>true
 | .int _=>true
 | .str _=>true
 | _=>false
noncomputable def zig(b:List (Str×PV)):List (Str×PV)→Bool
 | []=>true
 | kv::r=>(match dat b kv.1 with
  | some y=>eqv kv.2 y&&zig b r
  | Option.none=>false)
noncomputable def znL:Option Cel→Option (List (Str×PV))
 | some (.dict kvs)=>some kvs
 | _=>Option.none
noncomputable def zlS(σ:zaa):PV→Option (List (Str×PV))
 | .ref i=>znL σ[i]?
 | _=>Option.none
noncomputable def eqD(x y:List (Str×PV)):M Bool:=M.cond (x.all (fun kv=>ze8 kv.2)&&y.all (fun kv=>ze8 kv.2)) (M.ret (x.length==y.length&&zig y x)) M.fail
noncomputable def eqX(a b:PV):M Bool:=fun σ=>
 match zlS σ a,zlS σ b with
 | some x,some y=>eqD x y σ
 | _,_=>eqM a b σ
noncomputable def zac(op:CmpOp)(a b:PV):M PV:=match op with
 | .Eq=>(eqX a b).bind fun r=>M.ret (.bool r)
 | .NotEq=>(eqX a b).bind fun r=>M.ret (.bool !r)
 | .Lt=>onInt a fun i=>onInt b fun j=>M.ret (.bool (decide (i<j)))
 | .LtE=>onInt a fun i=>onInt b fun j=>M.ret (.bool (decide (i≤j)))
 | .Gt=>onInt a fun i=>onInt b fun j=>M.ret (.bool (decide (j<i)))
 | .GtE=>onInt a fun i=>onInt b fun j=>M.ret (.bool (decide (j≤i)))
 | .Is=>(M.lift (zeh a b)).bind fun r=>M.ret (.bool r)
 | .IsNot=>(M.lift (zeh a b)).bind fun r=>M.ret (.bool !r)
 | .In=>(inOp a b).bind fun r=>M.ret (.bool r)
 | .NotIn=>(inOp a b).bind fun r=>M.ret (.bool !r)
noncomputable def clip(n:Nat)(i:Int):Nat:=(max 0 (min (if i<0 then i+n else i) n)).toNat
noncomputable def slc{α:Type}(lo hi:Option Int)(xs:List α):List α:=
 (xs.drop (lo.elim 0 (clip xs.length))).take (hi.elim xs.length (clip xs.length)-lo.elim 0 (clip xs.length))
noncomputable def atI{α:Type}(xs:List α)(i:Int):Option α:=
 if zba i then (seqIndex? i xs.length).bind fun k=>xs[k]? else Option.none
noncomputable def znC(o:PV)(i:Int):M PV:=match o with
 | .str s=>(M.lift (atI s.cps.toList i)).bind fun c=>M.ret (.str ⟨#[c]⟩)
 | o=>(items o).bind fun xs=>M.lift (atI xs i)
noncomputable def index(o k:PV):M PV:=match k with
 | .int i=>znC o i
 | .str k=>onRef o fun a=>(dget a).bind fun kvs=>M.lift (dat kvs k)
 | _=>M.fail
noncomputable def zk1:PV→Option (Option Int)
 | .none=>some Option.none
 | .int i=>some (some i)
 | _=>Option.none
noncomputable def cutT(xs:List PV)(lo hi:Option Int):M PV:=match lo with
 | some a=>match hi with
  | some _=>M.fail
  | Option.none=>M.cond (decide (1≤a)&&decide (a≤xs.length)&&decide (xs.length≤2 ^ 20)) (M.ret (.tup (xs.drop a.toNat))) M.fail
 | Option.none=>M.fail
noncomputable def cut(cx:Cx)(p:Pos)(_down:Bool)(v:PV)(lo hi:Option Int):M PV:=
 match v with
 | .str s=>M.cond (decide (s.length≤2 ^ 20)) (M.ret (.str ⟨(slc lo hi s.cps.toList).toArray⟩)) M.fail
 | .tup xs=>cutT xs lo hi
 | v=>(litems v).bind fun xs=>M.cond (decide (xs.length≤2 ^ 20)) (zaw cx p (slc lo hi xs)) M.fail
noncomputable def revL(cx:Cx)(p:Pos)(v:PV)(k:Option Int):M PV:=match k with
 | some i=>M.cond (decide (i=-1)) ((litems v).bind fun xs=>M.cond (decide (xs.length≤2 ^ 20)) (zaw cx p xs.reverse) M.fail) M.fail
 | Option.none=>M.fail
inductive Tn where
 | none | bool | int | str | tuple | list | dict
 deriving DecidableEq
inductive Ty where
 | bi (T:Tn)
 | valueError
 | own (C:Addr)
noncomputable def subT(T U:Tn):Bool:=decide (T=U) || (decide (T=.bool)&&decide (U=.int))
noncomputable def isBi(T:Tn):Ty→M Bool
 | .bi U=>M.ret (subT T U)
 | _=>M.fail
noncomputable def zqy(_:Gl)(_:Addr)(_:Ty):M Bool:=M.fail
noncomputable def zbP(G:Gl)(t:Ty)(v:PV):M Bool:=
 match v with
 | .none=>isBi .none t
 | .bool _=>isBi .bool t
 | .int _=>isBi .int t
 | .str _=>isBi .str t
 | .tup _=>isBi .tuple t
 | .lst _=>isBi .list t
 | .ref a=>(cget a).bind fun c=>match c with
  | .list _=>isBi .list t
  | .dict _=>isBi .dict t
  | .dead=>M.fail
 | .exc C=>zqy G C t
noncomputable def tyTab:List (Str×Ty):=[("int",.bi .int),("bool",.bi .bool),("str",.bi .str),("tuple",.bi .tuple),("list",.bi .list),("dict",.bi .dict),("ValueError",.valueError)]
noncomputable def tyOf(cx:Cx)(sc:Scope)(ρ:Loc)(x:Str):Option Ty:=
 match zaW cx sc ρ x with
 | some (.cls a)=>some (.own a)
 | some (.bi y)=>tyTab.lookup y
 | _=>Option.none
noncomputable def zhm{α:Type}(b:α):Option (List α)→Option (List α)
 | some r=>some (b::r)
 | Option.none=>Option.none
noncomputable def zbE:List PV→Option (List Bool)
 | []=>some []
 | .bool b::r=>zhm b (zbE r)
 | _::_=>Option.none
noncomputable def zd2:List PV→Option (List Int)
 | []=>some []
 | .int i::r=>zhm i (zd2 r)
 | _::_=>Option.none
noncomputable def zd4(acc:Int):List Int→Bool
 | []=>true
 | x::r=>zba x&&zba (acc+x)&&zd4 (acc+x) r
noncomputable def zct:List PV→Option (List Str)
 | []=>some []
 | .str s::r=>zhm s (zct r)
 | _::_=>Option.none
noncomputable def zn0(a b:Str):Bool:=decide (a.cps.toList≤b.cps.toList)
noncomputable def zeI(x:Str):List Str→List Str
 | []=>[x]
 | y::r=>if zn0 x y then x::y::r else y::zeI x r
noncomputable def zak:List Str→List Str
 | []=>[]
 | x::r=>zeI x (zak r)
noncomputable def zc6:PV→M (List PV)
 | .lst xs=>M.ret xs
 | .ref i=>(cget i).bind fun c=>match c with
  | .list xs=>M.ret xs
  | .dict kvs=>M.ret (kvs.map fun kv=>.str kv.1)
  | .dead=>M.fail
 | _=>M.fail
noncomputable def zhd(n:Nat):M Int:=M.cond (decide (n≤2 ^ 20)) (M.ret n) M.fail
noncomputable def zou:PV→M Int
 | .str s=>zhd s.length
 | .tup xs=>zhd xs.length
 | .lst xs=>zhd xs.length
 | .ref i=>(cget i).bind fun c=>match c with
  | .list xs=>zhd xs.length
  | .dict kvs=>zhd kvs.length
  | .dead=>M.fail
 | _=>M.fail
noncomputable def zlK(v:PV):M PV:=onRef v fun i=>(lget i).bind fun xs=>(cset i .dead).bind fun _=>M.ret (.lst xs)
structure Ad where
 vis:List Addr
 hid:List Addr
noncomputable def Ad.nil:Ad:=⟨[],[]⟩
noncomputable def Ad.add(ι:Ad)(a:Addr):Ad:=⟨ι.vis++[a],ι.hid⟩
noncomputable def Ad.hide(ι:Ad)(a:Addr):Ad:=⟨ι.vis,a::ι.hid⟩
noncomputable def zcF(ι:Ad)(σ:zaa)(a:Addr):Prop:=∃(i:Nat)(c:Cel),ι.vis[i]?=some a∧σ[i]?=some c∧c≠Cel.dead
noncomputable def Live(ι:Ad)(σ:zaa)(a:Addr):Prop:=zcF ι σ a∨a∈ι.hid
theorem zaK{ι:Ad}{σ:zaa}{a:Addr}(h:¬ Live ι σ a):¬ zcF ι σ a:=fun q=>h (.inl q)
theorem zk5{ι:Ad}{σ:zaa}{a:Addr}(h:¬ Live ι σ a):a∉ι.hid:=fun q=>h (.inr q)
mutual
inductive Rep (h:Heap) (ι:Ad) (σ:zaa):PV→Value→Prop
 | none:Rep h ι σ .none .none
 | bool (b:Bool):Rep h ι σ (.bool b) (.bool b)
 | int (i:Int) (t:Tok):Rep h ι σ (.int i) (.int i t)
 | str (x:Str) (t:Tok):Rep h ι σ (.str x) (.str x t)
 | tup {a:Addr} {vs:Array Value} {n:Nat} {xs:List PV}:h.get? a=some { cls:=.type "tuple",data:=.seq vs n }→¬ Live ι σ a→RepL h ι σ xs vs.toList→Rep h ι σ (.tup xs) (.ref a)
 | lst {a:Addr} {vs:Array Value} {n:Nat} {xs:List PV}:h.get? a=some { cls:=.type "list",data:=.seq vs n }→¬ Live ι σ a→RepL h ι σ xs vs.toList→Rep h ι σ (.lst xs) (.ref a)
 | ref {i:Nat} {a:Addr}:ι.vis[i]?=some a→Rep h ι σ (.ref i) (.ref a)
 | exc {C a:Addr} {o:Obj} {fs:Array Value}:h.get? a=some o→o.cls=.ref C→o.data=.fields fs→o.dict=Option.none→¬ Live ι σ a→Rep h ι σ (.exc C) (.ref a)
inductive RepL (h:Heap) (ι:Ad) (σ:zaa):List PV→List Value→Prop
 | nil:RepL h ι σ [] []
 | cons {x:PV} {v:Value} {xs:List PV} {vs:List Value}:Rep h ι σ x v→RepL h ι σ xs vs→RepL h ι σ (x::xs) (v::vs)
end
noncomputable def RepI(h:Heap)(ι:Ad)(σ:zaa)(x:Value):PV→Prop
 | .none=>x=.none
 | .bool b=>x=.bool b
 | .int i=>∃ t,x=.int i t
 | .str y=>∃ t,x=.str y t
 | .tup xs=>∃(a:Addr)(vs:Array Value)(n:Nat),x=.ref a∧h.get? a=some { cls:=.type "tuple",data:=.seq vs n }∧¬ Live ι σ a∧RepL h ι σ xs vs.toList
 | .lst xs=>∃(a:Addr)(vs:Array Value)(n:Nat),x=.ref a∧h.get? a=some { cls:=.type "list",data:=.seq vs n }∧¬ Live ι σ a∧RepL h ι σ xs vs.toList
 | .ref i=>∃ a:Addr,x=.ref a∧ι.vis[i]?=some a
 | .exc C=>∃(a:Addr)(o:Obj)(fs:Array Value),x=.ref a∧h.get? a=some o∧o.cls=.ref C∧o.data=.fields fs∧o.dict=Option.none∧¬ Live ι σ a
theorem Rep.inv{h:Heap}{ι:Ad}{σ:zaa}{a:PV}{x:Value}(r:Rep h ι σ a x):RepI h ι σ x a:=
 Rep.rec (motive_1:=fun a x _=>RepI h ι σ x a) (motive_2:=fun _ _ _=>True) rfl (fun _=>rfl) (fun _ t=>⟨t,rfl⟩) (fun _ t=>⟨t,rfl⟩) (fun e nl r _=>⟨_,_,_,rfl,e,nl,r⟩) (fun e nl r _=>⟨_,_,_,rfl,e,nl,r⟩)
  (fun e=>⟨_,rfl,e⟩) (fun e c d k nl=>⟨_,_,_,rfl,e,c,d,k,nl⟩) trivial (fun _ _ _ _=>trivial) r
theorem RepL.length{h:Heap}{ι:Ad}{σ:zaa}:∀{xs:List PV}{vs:List Value},RepL h ι σ xs vs→xs.length=vs.length
 | _,_,.nil=>rfl
 | _,_,.cons _ r=>by simp [RepL.length r]
theorem RepL.get{h:Heap}{ι:Ad}{σ:zaa}:∀{xs:List PV}{vs:List Value}(_:RepL h ι σ xs vs){j:Nat}{x:PV},xs[j]?=some x→∃ v,vs[j]?=some v∧Rep h ι σ x v
 | _,_,.nil,_,_,e=>by simp at e
 | _,_,.cons r _,0,_,e=>by simp at e;subst e;exact ⟨_,rfl,r⟩
 | _,_,.cons _ r,j+1,_,e=>by simp at e ⊢;exact r.get e
theorem RepL.append{h:Heap}{ι:Ad}{σ:zaa}:∀{xs:List PV}{vs:List Value}{ys:List PV}{ws:List Value},RepL h ι σ xs vs→RepL h ι σ ys ws→RepL h ι σ (xs++ys) (vs++ws)
 | _,_,_,_,.nil,q=>q
 | _,_,_,_,.cons r p,q=>.cons r (p.append q)
theorem RepL.drop{h:Heap}{ι:Ad}{σ:zaa}:∀{xs:List PV}{vs:List Value}(k:Nat),RepL h ι σ xs vs→RepL h ι σ (xs.drop k) (vs.drop k)
 | _,_,0,p=>p
 | _,_,_+1,.nil=>.nil
 | _,_,k+1,.cons _ p=>by simpa using p.drop k
theorem RepL.take{h:Heap}{ι:Ad}{σ:zaa}:∀{xs:List PV}{vs:List Value}(k:Nat),RepL h ι σ xs vs→RepL h ι σ (xs.take k) (vs.take k)
 | _,_,0,_=>.nil
 | _,_,_+1,.nil=>.nil
 | _,_,k+1,.cons r p=>by simpa using .cons r (p.take k)
theorem RepL.reverse{h:Heap}{ι:Ad}{σ:zaa}:∀{xs:List PV}{vs:List Value},RepL h ι σ xs vs→RepL h ι σ xs.reverse vs.reverse
 | _,_,.nil=>.nil
 | _,_,.cons r p=>by rw [List.reverse_cons,List.reverse_cons];exact p.reverse.append (.cons r .nil)
noncomputable def zpi(prog:Program)(w:World)(h:Heap)(ι:Ad)(σ:zaa)(a:Addr)(kvs:List (Str×PV)):Prop:=
 ∃ ys:List (Str×Value),h.DictOf (strKind prog w) a ys∧ys.map (·.1)=kvs.map (·.1)∧RepL h ι σ (kvs.map (·.2)) (ys.map (·.2))
noncomputable def CelOk(prog:Program)(w:World)(h:Heap)(ι:Ad)(σ:zaa)(a:Addr):Cel→Prop
 | .list xs=>∃ vs:Array Value,h.PlainList a vs∧RepL h ι σ xs vs.toList
 | .dict kvs=>zpi prog w h ι σ a kvs
 | .dead=>True
structure StoreOk (prog:Program) (w:World) (hB:Heap) (h:Heap) (ι:Ad) (σ:zaa):Prop where
 len:ι.vis.length=σ.length
 nodup:ι.vis.Nodup
 there:∀ a∈ι.vis,∃ o,h.get? a=some o
 hthere:∀ a∈ι.hid,∃ o,h.get? a=some o∧∀ vs,o.data≠.fields vs
 apart:∀ a∈ι.vis,a∉ι.hid
 base:∀ a∈ι.vis,hB.get? a=Option.none
 hbase:∀ a∈ι.hid,hB.get? a=Option.none
 sys:∃ o,hB.get? sysModules=some o
 ok:∀(i:Nat)(a:Addr)(c:Cel),ι.vis[i]?=some a→σ[i]?=some c→CelOk prog w h ι σ a c
structure Evo (D:List Addr) (h:Heap) (ι:Ad) (σ:zaa) (h':Heap) (ι':Ad) (σ':zaa):Prop where
 pre:∀(i:Nat)(a:Addr),ι.vis[i]?=some a→ι'.vis[i]?=some a
 fresh:∀(i:Nat)(a:Addr),ι'.vis[i]?=some a→ι.vis[i]?=Option.none→h.get? a=Option.none
 dead:∀ i:Nat,σ[i]?=some .dead→σ'[i]?=some .dead
 alive:∀(b:Addr)(o:Obj),h.get? b=some o→∃ o',h'.get? b=some o'
 keep:∀(b:Addr)(o:Obj),h.get? b=some o→¬ zcF ι σ b→b∉D→(∃ sl,h'.get? b=some { o with slots:=sl })∧((∀ es n,o.data≠.dict es n)→h'.get? b=some o)
 hid:∀ a∈ι.hid,a∈ι'.hid
 hfresh:∀ a∈ι'.hid,a∈ι.hid∨h.get? a=Option.none
structure EvoW (D:List Addr) (h:Heap) (ι:Ad) (σ:zaa) (h':Heap) (ι':Ad) (σ':zaa):Prop where
 pre:∀(i:Nat)(a:Addr),ι.vis[i]?=some a→ι'.vis[i]?=some a
 fresh:∀(i:Nat)(a:Addr),ι'.vis[i]?=some a→ι.vis[i]?=Option.none→h.get? a=Option.none
 dead:∀ i:Nat,σ[i]?=some .dead→σ'[i]?=some .dead
 keep:∀(b:Addr)(o:Obj),h.get? b=some o→¬ zcF ι σ b→b∉D→(∃ sl,h'.get? b=some { o with slots:=sl })∧((∀ es n,o.data≠.dict es n)→h'.get? b=some o)
 hfresh:∀ a∈ι'.hid,a∈ι.hid∨h.get? a=Option.none
theorem Evo.weak{D:List Addr}{h:Heap}{ι:Ad}{σ:zaa}{h':Heap}{ι':Ad}{σ':zaa}(X:Evo D h ι σ h' ι' σ'):EvoW D h ι σ h' ι' σ':=⟨X.pre,X.fresh,X.dead,X.keep,X.hfresh⟩
theorem EvoW.notLiveV{D:List Addr}{h:Heap}{ι:Ad}{σ:zaa}{h':Heap}{ι':Ad}{σ':zaa}(X:EvoW D h ι σ h' ι' σ')(hl:ι.vis.length=σ.length){a:Addr}{o:Obj}(ha:h.get? a=some o)
  (hn:¬ zcF ι σ a):¬ zcF ι' σ' a:=by
 rintro ⟨i,c,hi,hc,hd⟩
 cases hq:ι.vis[i]? with
 | none=>have:=X.fresh i a hi hq;rw [ha] at this;cases this
 | some b=>
  have:=X.pre i b hq
  rw [this] at hi;cases hi
  have hlt:i<σ.length:=by rw [← hl];exact (List.getElem?_eq_some_iff.mp hq).1
  cases hs:σ[i]? with
  | none=>rw [List.getElem?_eq_none_iff] at hs;omega
  | some c'=>
   by_cases hcd:c'=.dead
   ·subst hcd
    have:=X.dead i hs
    rw [this] at hc;cases hc;exact hd rfl
   ·exact hn ⟨i,c',hq,hs,hcd⟩
theorem EvoW.notLive{D:List Addr}{h:Heap}{ι:Ad}{σ:zaa}{h':Heap}{ι':Ad}{σ':zaa}(X:EvoW D h ι σ h' ι' σ')(hl:ι.vis.length=σ.length){a:Addr}{o:Obj}(ha:h.get? a=some o)
  (hn:¬ Live ι σ a):¬ Live ι' σ' a:=by
 rintro (q | q)
 ·exact X.notLiveV hl ha (zaK hn) q
 ·rcases X.hfresh a q with q | q
  ·exact hn (.inr q)
  ·rw [ha] at q;cases q
theorem Evo.notLiveV{D:List Addr}{h:Heap}{ι:Ad}{σ:zaa}{h':Heap}{ι':Ad}{σ':zaa}(X:Evo D h ι σ h' ι' σ')(hl:ι.vis.length=σ.length){a:Addr}{o:Obj}(ha:h.get? a=some o)
  (hn:¬ zcF ι σ a):¬ zcF ι' σ' a:=X.weak.notLiveV hl ha hn
theorem Evo.notLive{D:List Addr}{h:Heap}{ι:Ad}{σ:zaa}{h':Heap}{ι':Ad}{σ':zaa}(X:Evo D h ι σ h' ι' σ')(hl:ι.vis.length=σ.length){a:Addr}{o:Obj}(ha:h.get? a=some o)
  (hn:¬ Live ι σ a):¬ Live ι' σ' a:=X.weak.notLive hl ha hn
theorem EvoW.off{D:List Addr}{h:Heap}{ι:Ad}{σ:zaa}{h':Heap}{ι':Ad}{σ':zaa}(X:EvoW D h ι σ h' ι' σ'){b:Addr}{o:Obj}(ho:h.get? b=some o)(hn:b∉ι.vis∧b∉ι.hid):b∉ι'.vis∧b∉ι'.hid:=by
 refine ⟨fun q=>?_,fun q=>?_⟩
 ·obtain ⟨i,hi⟩:=List.getElem?_of_mem q
  cases q':ι.vis[i]? with
  | none=>have:=X.fresh i b hi q';rw [ho] at this;cases this
  | some a=>have:=X.pre i a q';rw [hi] at this;cases this;exact hn.1 (List.mem_of_getElem? q')
 ·rcases X.hfresh b q with q | q
  ·exact hn.2 q
  ·rw [ho] at q;cases q
theorem Evo.refl(h:Heap)(ι:Ad)(σ:zaa):Evo [] h ι σ h ι σ:=
 ⟨fun _ _ e=>e,fun i a e e'=>(by rw [e] at e';cases e'),fun _ e=>e,fun b o e=>⟨o,e⟩,fun b o e _ _=>⟨⟨o.slots,e⟩,fun _=>e⟩,fun _ h=>h,fun _ h=>.inl h⟩
theorem Evo.trans{D E:List Addr}{h₁ h₂ h₃:Heap}{ι₁ ι₂ ι₃:Ad}{σ₁ σ₂ σ₃:zaa}(hl:ι₁.vis.length=σ₁.length)(X:Evo D h₁ ι₁ σ₁ h₂ ι₂ σ₂)(Y:Evo E h₂ ι₂ σ₂ h₃ ι₃ σ₃)
  (hE:∀ b∈E,∀ o,h₁.get? b=some o→b∈D):Evo D h₁ ι₁ σ₁ h₃ ι₃ σ₃ where
 pre:=fun i a e=>Y.pre i a (X.pre i a e)
 fresh:=fun i a e e'=>by
  cases hq:ι₂.vis[i]? with
  | none=>
   have h2:=Y.fresh i a e hq
   cases q:h₁.get? a with
   | none=>rfl
   | some o=>obtain ⟨o',ho'⟩:=X.alive a o q;rw [h2] at ho';cases ho'
  | some b=>have:=Y.pre i b hq;rw [this] at e;cases e;exact X.fresh i _ hq e'
 dead:=fun i e=>Y.dead i (X.dead i e)
 alive:=fun b o e=>by obtain ⟨o',e'⟩:=X.alive b o e;exact Y.alive b o' e'
 keep:=fun b o e hn hD=>by
  obtain ⟨⟨sl,e₂⟩,k⟩:=X.keep b o e hn hD
  obtain ⟨⟨sl',e₃⟩,_⟩:=Y.keep b _ e₂ (X.notLiveV hl e hn) (fun hb=>hD (hE b hb o e))
  exact ⟨⟨sl',e₃⟩,fun q=>(Y.keep b _ (k q) (X.notLiveV hl e hn) (fun hb=>hD (hE b hb o e))).2 q⟩
 hid:=fun a ha=>Y.hid a (X.hid a ha)
 hfresh:=fun a ha=>by
  rcases Y.hfresh a ha with q | q
  ·exact X.hfresh a q
  ·right
   cases q':h₁.get? a with
   | none=>rfl
   | some o=>obtain ⟨o',ho'⟩:=X.alive a o q';rw [q] at ho';cases ho'
theorem Evo.wide{D E:List Addr}{h:Heap}{ι:Ad}{σ:zaa}{h':Heap}{ι':Ad}{σ':zaa}(X:Evo D h ι σ h' ι' σ')(hE:∀ b∈D,b∈E):Evo E h ι σ h' ι' σ':=
 ⟨X.pre,X.fresh,X.dead,X.alive,fun b o e hn hD=>X.keep b o e hn fun q=>hD (hE b q),X.hid,X.hfresh⟩
theorem Evo.unhide{D:List Addr}{h:Heap}{ι:Ad}{σ:zaa}{h':Heap}{ι':Ad}{σ':zaa}(X:Evo D h ι σ h' ι' σ'):Evo D h ι σ h' ⟨ι'.vis,ι.hid⟩ σ':=
 ⟨X.pre,X.fresh,X.dead,X.alive,X.keep,fun _ h=>h,fun _ h=>.inl h⟩
noncomputable def NoSeq(D:List Addr)(h:Heap):Prop:=∀ b∈D,∀ o,h.get? b=some o→(∀ vs n,o.data≠.seq vs n)∧((∀ vs,o.data≠.fields vs)∨∀ C,o.cls≠.ref C)
theorem NoSeq.nil(h:Heap):NoSeq [] h:=fun _ hb=>nomatch hb
noncomputable def Off(ι:Ad)(D:List Addr)(h:Heap):Prop:=∀ b∈D,b∈ι.hid∨∀ o,h.get? b=some o→(∀ vs n,o.data≠.seq vs n)∧((∀ vs,o.data≠.fields vs)∨∀ C,o.cls≠.ref C)
theorem NoSeq.off{ι:Ad}{D:List Addr}{h:Heap}(n:NoSeq D h):Off ι D h:=fun b hb=>.inr (n b hb)
theorem Off.hid{ι:Ad}{a:Addr}{h:Heap}(n:a∈ι.hid):Off ι [a] h:=fun b hb=>by rw [List.mem_singleton.mp hb];exact .inl n
structure RepTo (h:Heap) (ι:Ad) (σ:zaa) (h':Heap) (ι':Ad) (σ':zaa):Prop where
 seq:∀{a:Addr}{T:String}{vs:Array Value}{n:Nat},h.get? a=some { cls:=.type T,data:=.seq vs n }→¬ Live ι σ a→h'.get? a=some { cls:=.type T,data:=.seq vs n }∧¬ Live ι' σ' a
 vis:∀{i:Nat}{a:Addr},ι.vis[i]?=some a→ι'.vis[i]?=some a
 exc:∀{a C:Addr}{o:Obj}{fs:Array Value},h.get? a=some o→o.cls=.ref C→o.data=.fields fs→o.dict=Option.none→¬ Live ι σ a→Rep h' ι' σ' (.exc C) (.ref a)
theorem RepL.to{h:Heap}{ι:Ad}{σ:zaa}{h':Heap}{ι':Ad}{σ':zaa}(X:RepTo h ι σ h' ι' σ'){xs:List PV}{vs:List Value}(r:RepL h ι σ xs vs):RepL h' ι' σ' xs vs:=
 RepL.rec (motive_1:=fun x v _=>Rep h' ι' σ' x v) (motive_2:=fun x v _=>RepL h' ι' σ' x v) .none .bool .int .str (fun e nl _ r=>.tup (X.seq e nl).1 (X.seq e nl).2 r) (fun e nl _ r=>.lst (X.seq e nl).1 (X.seq e nl).2 r)
  (fun e=>.ref (X.vis e)) (fun e c d k nl=>X.exc e c d k nl) .nil (fun _ _ r rs=>.cons r rs) r
theorem RepL.head{h:Heap}{ι:Ad}{σ:zaa}{x:PV}{v:Value}{xs:List PV}{vs:List Value}(r:RepL h ι σ (x::xs) (v::vs)):Rep h ι σ x v:=by cases r;assumption
theorem Rep.to{h:Heap}{ι:Ad}{σ:zaa}{h':Heap}{ι':Ad}{σ':zaa}(X:RepTo h ι σ h' ι' σ'){x:PV}{v:Value}(r:Rep h ι σ x v):Rep h' ι' σ' x v:=(RepL.to X (.cons r .nil)).head
theorem EvoW.to{D:List Addr}{h:Heap}{ι:Ad}{σ:zaa}{h':Heap}{ι':Ad}{σ':zaa}(hl:ι.vis.length=σ.length)(X:EvoW D h ι σ h' ι' σ')(hD:Off ι D h):RepTo h ι σ h' ι' σ' where
 seq:=fun e nl=>⟨(X.keep _ _ e (zaK nl) (fun hb=>(hD _ hb).elim (zk5 nl) fun q=>(q _ e).1 _ _ rfl)).2 (fun _ _ q=>nomatch q),X.notLive hl e nl⟩
 vis:=fun e=>X.pre _ _ e
 exc:=fun e c d k nl=>by
  obtain ⟨⟨sl,e'⟩,_⟩:=X.keep _ _ e (zaK nl) (fun hb=>(hD _ hb).elim (zk5 nl) fun q=>(q _ e).2.elim (fun q=>q _ d) fun q=>q _ c)
  exact .exc e' c d k (X.notLive hl e nl)
theorem Rep.evoW{D:List Addr}{h:Heap}{ι:Ad}{σ:zaa}{h':Heap}{ι':Ad}{σ':zaa}(hl:ι.vis.length=σ.length)(X:EvoW D h ι σ h' ι' σ')(hD:Off ι D h){x:PV}{v:Value}(r:Rep h ι σ x v):Rep h' ι' σ' x v:=r.to (X.to hl hD)
theorem RepL.evoW{D:List Addr}{h:Heap}{ι:Ad}{σ:zaa}{h':Heap}{ι':Ad}{σ':zaa}(hl:ι.vis.length=σ.length)(X:EvoW D h ι σ h' ι' σ')(hD:Off ι D h){xs:List PV}{vs:List Value}(r:RepL h ι σ xs vs):RepL h' ι' σ' xs vs:=r.to (X.to hl hD)
theorem Rep.evo'{D:List Addr}{h:Heap}{ι:Ad}{σ:zaa}{h':Heap}{ι':Ad}{σ':zaa}(hl:ι.vis.length=σ.length)(X:Evo D h ι σ h' ι' σ')(hD:Off ι D h){x:PV}{v:Value}(r:Rep h ι σ x v):Rep h' ι' σ' x v:=r.evoW hl X.weak hD
theorem RepL.evo'{D:List Addr}{h:Heap}{ι:Ad}{σ:zaa}{h':Heap}{ι':Ad}{σ':zaa}(hl:ι.vis.length=σ.length)(X:Evo D h ι σ h' ι' σ')(hD:Off ι D h){xs:List PV}{vs:List Value}(r:RepL h ι σ xs vs):RepL h' ι' σ' xs vs:=r.evoW hl X.weak hD
theorem Rep.evo{D:List Addr}{h:Heap}{ι:Ad}{σ:zaa}{h':Heap}{ι':Ad}{σ':zaa}(hl:ι.vis.length=σ.length)(X:Evo D h ι σ h' ι' σ')(hD:NoSeq D h){x:PV}{v:Value}(r:Rep h ι σ x v):Rep h' ι' σ' x v:=r.evo' hl X hD.off
theorem RepL.evo{D:List Addr}{h:Heap}{ι:Ad}{σ:zaa}{h':Heap}{ι':Ad}{σ':zaa}(hl:ι.vis.length=σ.length)(X:Evo D h ι σ h' ι' σ')(hD:NoSeq D h){xs:List PV}{vs:List Value}(r:RepL h ι σ xs vs):RepL h' ι' σ' xs vs:=r.evo' hl X hD.off
theorem zbl{ι:Ad}{σ:zaa}{l:List Addr}(hs:∀ a∈l,a∈ι.hid){a:Addr}(h:¬ Live ι σ a):¬ Live ⟨ι.vis,l⟩ σ a:=fun q=>h (q.elim .inl fun q=>.inr (hs a q))
theorem zgR{h:Heap}{ι:Ad}{σ:zaa}{l:List Addr}(hs:∀ a∈l,a∈ι.hid):RepTo h ι σ h ⟨ι.vis,l⟩ σ:=⟨fun e nl=>⟨e,zbl hs nl⟩,fun e=>e,fun e c d k nl=>.exc e c d k (zbl hs nl)⟩
theorem Rep.unhide{h:Heap}{ι:Ad}{σ:zaa}{l:List Addr}(hs:∀ a∈l,a∈ι.hid){x:PV}{v:Value}(r:Rep h ι σ x v):Rep h ⟨ι.vis,l⟩ σ x v:=r.to (zgR hs)
theorem RepL.unhide{h:Heap}{ι:Ad}{σ:zaa}{l:List Addr}(hs:∀ a∈l,a∈ι.hid){xs:List PV}{vs:List Value}(r:RepL h ι σ xs vs):RepL h ⟨ι.vis,l⟩ σ xs vs:=r.to (zgR hs)
theorem CelOk.unhide{prog:Program}{w:World}{h:Heap}{ι:Ad}{σ:zaa}{l:List Addr}(hs:∀ a∈l,a∈ι.hid){a:Addr}{c:Cel}(x:CelOk prog w h ι σ a c):CelOk prog w h ⟨ι.vis,l⟩ σ a c:=by
 cases c with
 | list xs=>obtain ⟨vs,p,r⟩:=x;exact ⟨vs,p,r.unhide hs⟩
 | dict kvs=>obtain ⟨ys,d,k2,r⟩:=x;exact ⟨ys,d,k2,r.unhide hs⟩
 | dead=>trivial
theorem StoreOk.unhide{prog:Program}{w:World}{hB h:Heap}{ι:Ad}{σ:zaa}{l:List Addr}(hs:∀ a∈l,a∈ι.hid)(S:StoreOk prog w hB h ι σ):StoreOk prog w hB h ⟨ι.vis,l⟩ σ:=
 ⟨S.len,S.nodup,S.there,fun a ha=>S.hthere a (hs a ha),fun a ha q=>S.apart a ha (hs a q),S.base,fun a ha=>S.hbase a (hs a ha),S.sys,fun i a c e e'=>(S.ok i a c e e').unhide hs⟩
structure Step (prog:Program) (w:World) (hB:Heap) (h:Heap) (ι:Ad) (σ:zaa) (h':Heap) (ι':Ad) (σ':zaa):Prop where
 evo:Evo [] h ι σ h' ι' σ'
 store:StoreOk prog w hB h' ι' σ'
 stays:hB.StaysIn h'
variable {prog:Program} {w:World} {hB:Heap}
theorem Step.refl{h:Heap}{ι:Ad}{σ:zaa}(S:StoreOk prog w hB h ι σ)(B:hB.StaysIn h):Step prog w hB h ι σ h ι σ:=⟨Evo.refl _ _ _,S,B⟩
theorem Step.trans{h₁ h₂ h₃:Heap}{ι₁ ι₂ ι₃:Ad}{σ₁ σ₂ σ₃:zaa}(hl:ι₁.vis.length=σ₁.length)(X:Step prog w hB h₁ ι₁ σ₁ h₂ ι₂ σ₂)(Y:Step prog w hB h₂ ι₂ σ₂ h₃ ι₃ σ₃) :
  Step prog w hB h₁ ι₁ σ₁ h₃ ι₃ σ₃:=⟨X.evo.trans hl Y.evo (fun _ hb=>nomatch hb),Y.store,Y.stays⟩
structure FrOk (hB:Heap) (env:Env) (ρ:Loc) (h:Heap) (ι:Ad) (σ:zaa):Prop where
 ns:∃ m,h.Ns env.locals m∧∀ x v,ρ x=some v→env.kindOf x=some .local→∃ y,m x=some y∧Rep h ι σ v y
 cel:∀ x v,ρ x=some v→env.kindOf x=some .cell→∃ c y,env.cells.lookup x=some c∧h.IsCell c (some y)∧Rep h ι σ v y
 kinds:∀ x v,ρ x=some v→env.kindOf x=some .local∨env.kindOf x=some .cell
 cells:∀ x,env.kindOf x=some .cell→∃ c y,env.cells.lookup x=some c∧h.IsCell c y
 apart:env.cells.Pairwise fun x y=>x.2≠y.2
 own:∀ b∈env.locals::env.cells.map (·.2),¬ Live ι σ b∧hB.get? b=Option.none
 cellsAt:∀ b∈env.cells.map (·.2),∃ y,h.IsCell b y
 off:∀ b∈env.locals::env.cells.map (·.2),b∉ι.vis∧b∉ι.hid
noncomputable def dyn(env:Env):List Addr:=env.locals::env.cells.map (·.2)
theorem FrOk.noSeq{env:Env}{ρ:Loc}{h:Heap}{ι:Ad}{σ:zaa}(F:FrOk hB env ρ h ι σ):NoSeq (dyn env) h:=by
 intro b hb o ho
 rcases List.mem_cons.mp hb with rfl | hb
 ·obtain ⟨m,⟨o',es,ep,ho',hd,_⟩,_⟩:=F.ns
  rw [ho] at ho';cases ho'
  exact ⟨fun vs n q=>(by rw [hd] at q;cases q),.inl fun vs q=>(by rw [hd] at q;cases q)⟩
 ·obtain ⟨y,o',ho',hd⟩:=F.cellsAt b hb
  rw [ho] at ho';cases ho'
  exact ⟨fun vs n q=>(by rw [hd] at q;cases q),.inl fun vs q=>(by rw [hd] at q;cases q)⟩
theorem Ns.evoW{D:List Addr}{h:Heap}{ι:Ad}{σ:zaa}{h':Heap}{ι':Ad}{σ':zaa}(X:EvoW D h ι σ h' ι' σ'){a:Addr}{m:Str→Option Value}(hn:h.Ns a m)(hl:¬ Live ι σ a)(hD:a∉D):h'.Ns a m:=by
 obtain ⟨o,es,ep,ho,hd,r⟩:=hn
 obtain ⟨⟨sl,e⟩,_⟩:=X.keep a o ho (zaK hl) hD
 exact ⟨_,es,ep,e,hd,r⟩
theorem IsCell.evoW{D:List Addr}{h:Heap}{ι:Ad}{σ:zaa}{h':Heap}{ι':Ad}{σ':zaa}(X:EvoW D h ι σ h' ι' σ'){a:Addr}{v:Option Value}(hn:h.IsCell a v)(hl:¬ Live ι σ a)(hD:a∉D):h'.IsCell a v:=by
 obtain ⟨o,ho,hd⟩:=hn
 obtain ⟨⟨sl,e⟩,_⟩:=X.keep a o ho (zaK hl) hD
 exact ⟨_,e,hd⟩
theorem Ns.evo{D:List Addr}{h:Heap}{ι:Ad}{σ:zaa}{h':Heap}{ι':Ad}{σ':zaa}(X:Evo D h ι σ h' ι' σ'){a:Addr}{m:Str→Option Value}(hn:h.Ns a m)(hl:¬ Live ι σ a)(hD:a∉D):h'.Ns a m:=Ns.evoW X.weak hn hl hD
theorem IsCell.evo{D:List Addr}{h:Heap}{ι:Ad}{σ:zaa}{h':Heap}{ι':Ad}{σ':zaa}(X:Evo D h ι σ h' ι' σ'){a:Addr}{v:Option Value}(hn:h.IsCell a v)(hl:¬ Live ι σ a)(hD:a∉D):h'.IsCell a v:=IsCell.evoW X.weak hn hl hD
theorem FrOk.evoW{D:List Addr}{env:Env}{ρ:Loc}{h:Heap}{ι:Ad}{σ:zaa}{h':Heap}{ι':Ad}{σ':zaa}(F:FrOk hB env ρ h ι σ)(hl:ι.vis.length=σ.length)(X:EvoW D h ι σ h' ι' σ')(hO:Off ι D h)(hD:∀ b∈dyn env,b∉D):FrOk hB env ρ h' ι' σ' where
 ns:=by
  obtain ⟨m,hn,hv⟩:=F.ns
  refine ⟨m,Ns.evoW X hn (F.own _ (.head _)).1 (hD _ (.head _)),fun x v e k=>?_⟩
  obtain ⟨y,hy,r⟩:=hv x v e k
  exact ⟨y,hy,r.evoW hl X hO⟩
 cel:=fun x v e k=>by
  obtain ⟨c,y,hc,hy,r⟩:=F.cel x v e k
  have hm:c∈dyn env:=.tail _ (List.mem_map_of_mem (f:=Prod.snd) (mem_of_lookup hc))
  exact ⟨c,y,hc,IsCell.evoW X hy (F.own c hm).1 (hD c hm),r.evoW hl X hO⟩
 kinds:=F.kinds
 cells:=fun x k=>by
  obtain ⟨c,y,hc,hy⟩:=F.cells x k
  have hm:c∈dyn env:=.tail _ (List.mem_map_of_mem (f:=Prod.snd) (mem_of_lookup hc))
  exact ⟨c,y,hc,IsCell.evoW X hy (F.own c hm).1 (hD c hm)⟩
 apart:=F.apart
 own:=fun b hb=>by
  refine ⟨?_,(F.own b hb).2⟩
  have own:=(F.own b hb).1
  rcases List.mem_cons.mp hb with rfl | hb
  ·obtain ⟨m,⟨o,_,_,ho,_⟩,_⟩:=F.ns;exact X.notLive hl ho own
  ·obtain ⟨y,o,ho,_⟩:=F.cellsAt b hb;exact X.notLive hl ho own
 cellsAt:=fun b hb=>by
  obtain ⟨y,hy⟩:=F.cellsAt b hb
  exact ⟨y,IsCell.evoW X hy (F.own b (.tail _ hb)).1 (hD b (.tail _ hb))⟩
 off:=fun b hb=>by
  have off:=F.off b hb
  rcases List.mem_cons.mp hb with rfl | hb
  ·obtain ⟨m,⟨o,_,_,ho,_⟩,_⟩:=F.ns;exact X.off ho off
  ·obtain ⟨y,o,ho,_⟩:=F.cellsAt b hb;exact X.off ho off
theorem FrOk.evo{D:List Addr}{env:Env}{ρ:Loc}{h:Heap}{ι:Ad}{σ:zaa}{h':Heap}{ι':Ad}{σ':zaa}(F:FrOk hB env ρ h ι σ)(hl:ι.vis.length=σ.length)(X:Evo D h ι σ h' ι' σ')(hO:Off ι D h)(hD:∀ b∈dyn env,b∉D):FrOk hB env ρ h' ι' σ':=F.evoW hl X.weak hO hD
theorem FrOk.step{env:Env}{ρ:Loc}{h:Heap}{ι:Ad}{σ:zaa}{h':Heap}{ι':Ad}{σ':zaa}(F:FrOk hB env ρ h ι σ)(hl:ι.vis.length=σ.length)(X:Evo [] h ι σ h' ι' σ'):FrOk hB env ρ h' ι' σ':=
 F.evo hl X (NoSeq.nil _).off fun _ _=>List.not_mem_nil
theorem FrOk.unhide{env:Env}{ρ:Loc}{h:Heap}{ι:Ad}{σ:zaa}{l:List Addr}(hs:∀ a∈l,a∈ι.hid)(F:FrOk hB env ρ h ι σ):FrOk hB env ρ h ⟨ι.vis,l⟩ σ where
 ns:=by
  obtain ⟨m,hn,hv⟩:=F.ns
  refine ⟨m,hn,fun x v e k=>?_⟩
  obtain ⟨y,hy,r⟩:=hv x v e k
  exact ⟨y,hy,r.unhide hs⟩
 cel:=fun x v e k=>by
  obtain ⟨c,y,hc,hy,r⟩:=F.cel x v e k
  exact ⟨c,y,hc,hy,r.unhide hs⟩
 kinds:=F.kinds
 cells:=F.cells
 apart:=F.apart
 own:=fun b hb=>⟨zbl hs (F.own b hb).1,(F.own b hb).2⟩
 cellsAt:=F.cellsAt
 off:=fun b hb=>⟨(F.off b hb).1,fun q=>(F.off b hb).2 (hs b q)⟩
structure Stk (hB:Heap) (fl:List Env) (h:Heap) (ι:Ad) (σ:zaa):Prop where
 fun_:h.FunFrames hB fl
 notLive:∀ b∈fl.filterMap (·.frame),¬ Live ι σ b
 dicts:∀ b∈fl.filterMap (·.frame),∃ o es n,h.get? b=some o∧o.data=.dict es n
theorem Stk.there{fl:List Env}{h:Heap}{ι:Ad}{σ:zaa}(S:Stk hB fl h ι σ){b:Addr}(hb:b∈fl.filterMap (·.frame)):∃ o,h.get? b=some o:=by
 obtain ⟨_,o,ho,_⟩:=S.fun_.mem hb
 exact ⟨o,ho⟩
theorem FunFrames.map{h h':Heap}:∀{l:List Env},h.FunFrames hB l→(∀ b∈l.filterMap (·.frame),∀ o,h.get? b=some o→(∀ vs,o.data≠.fields vs)→∃ o',h'.get? b=some o'∧∀ vs,o'.data≠.fields vs)→h'.FunFrames hB l
 | [],_,_=>trivial
 | env::rest,⟨hk,⟨L,o,hf,hn,ho,hd⟩,hr⟩,k=>by
  obtain ⟨o',ho',hd'⟩:=k L (by rw [List.filterMap_cons,hf];exact .head _) o ho hd
  exact ⟨hk,⟨L,o',hf,hn,ho',hd'⟩,FunFrames.map hr fun b hb=>k b (by rw [List.filterMap_cons,hf];exact .tail _ hb)⟩
theorem Stk.evoW{D:List Addr}{fl:List Env}{h:Heap}{ι:Ad}{σ:zaa}{h':Heap}{ι':Ad}{σ':zaa}(S:Stk hB fl h ι σ)(hl:ι.vis.length=σ.length)(X:EvoW D h ι σ h' ι' σ')
  (hD:∀ b∈D,b∈fl.filterMap (·.frame)→∃ o' es n,h'.get? b=some o'∧o'.data=.dict es n):Stk hB fl h' ι' σ' where
 fun_:=FunFrames.map S.fun_ fun b hb o ho hd=>by
  by_cases hm:b∈D
  ·obtain ⟨o',es,n,h1,h2⟩:=hD b hm hb
   exact ⟨o',h1,fun vs q=>by rw [h2] at q;cases q⟩
  ·obtain ⟨⟨sl,e⟩,_⟩:=X.keep b o ho (zaK (S.notLive b hb)) hm
   exact ⟨_,e,hd⟩
 notLive:=fun b hb=>by obtain ⟨o,ho⟩:=S.there hb;exact X.notLive hl ho (S.notLive b hb)
 dicts:=fun b hb=>by
  by_cases hm:b∈D
  ·exact hD b hm hb
  ·obtain ⟨o,es,n,ho,hd⟩:=S.dicts b hb
   obtain ⟨⟨sl,e⟩,_⟩:=X.keep b o ho (zaK (S.notLive b hb)) hm
   exact ⟨_,es,n,e,hd⟩
theorem Stk.evo{D:List Addr}{fl:List Env}{h:Heap}{ι:Ad}{σ:zaa}{h':Heap}{ι':Ad}{σ':zaa}(S:Stk hB fl h ι σ)(hl:ι.vis.length=σ.length)(X:Evo D h ι σ h' ι' σ')
  (hD:∀ b∈D,b∈fl.filterMap (·.frame)→∃ o' es n,h'.get? b=some o'∧o'.data=.dict es n):Stk hB fl h' ι' σ':=S.evoW hl X.weak hD
theorem Stk.step{fl:List Env}{h:Heap}{ι:Ad}{σ:zaa}{h':Heap}{ι':Ad}{σ':zaa}(S:Stk hB fl h ι σ)(hl:ι.vis.length=σ.length)(X:Evo [] h ι σ h' ι' σ'):Stk hB fl h' ι' σ':=
 S.evo hl X fun _ hb=>nomatch hb
structure Fly (h h':Heap) (e C:Addr):Prop where
 new:h.get? e=Option.none
 there:∃ oe vs,h'.get? e=some oe∧(oe.cls=.ref C∧oe.dict=Option.none)∧oe.data=.fields vs∧1<vs.size∧
  (vs[1]?=some .none∨∃ T oT ts,vs[1]?=some (.ref T)∧T≠e∧h.get? T=Option.none∧h'.get? T=some oT∧oT.data=.fields ts∧3<ts.size)
theorem zdz{M:Model}{A:Around}{E:Value→Shared→Prop}{s:Shared}(keep:List Value):∀(l:List Value){Q:Unit→Shared→Prop},Q () s→wpAny M A (release.go keep l) Q E s
 | [],_,h=>wpAny_pure h
 | [_],_,h=>wpAny_pure h
 | _::b::r,_,h=>wpAny_bind (wpAny_holding (wpAny_point (zdz keep (b::r) h)))
theorem zds{M:Model}{A:Around}{E:Value→Shared→Prop}{s:Shared}{vs:List Value}{m:Sem Value}{Q:Value→Shared→Prop}(h:wpAny M A m Q E s):wpAny M A (operate vs m) Q E s:=
 wpAny_bind (wpAny_holding (wpAny_mono h (fun _ _ q=>wpAny_bind (zdz _ _ (wpAny_pure q))) fun _ _ q=>q))
structure Ar (md:Md) (d:Nat) (fl:List Env) (A:Around):Prop where
 frames:A.frames=some fl
 depth:A.depth+d<recursionLimit
 units:A.units+8*d+2000<cLine
 quiet:md.rz=true∨md.lp=true→A.handled=none
structure Inv (prog:Program) (w:World) (hB:Heap) (env:Env) (ρ:Loc) (fl:List Env) (h:Heap) (ι:Ad) (σ:zaa):Prop where
 stays:hB.StaysIn h
 store:StoreOk prog w hB h ι σ
 fr:FrOk hB env ρ h ι σ
 stk:Stk hB fl h ι σ
section
variable {prog:Program} {w:World} {hB:Heap} {env:Env} {ρ:Loc} {fl:List Env} {h h':Heap} {ι ι':Ad} {σ σ':zaa}
theorem Inv.step(I:Inv prog w hB env ρ fl h ι σ)(X:Step prog w hB h ι σ h' ι' σ'):Inv prog w hB env ρ fl h' ι' σ':=
 ⟨X.stays,X.store,I.fr.step I.store.len X.evo,I.stk.step I.store.len X.evo⟩
theorem Inv.refl(I:Inv prog w hB env ρ fl h ι σ):Step prog w hB h ι σ h ι σ:=Step.refl I.store I.stays
theorem Rep.step{x:PV}{v:Value}(r:Rep h ι σ x v)(hl:ι.vis.length=σ.length)(X:Step prog w hB h ι σ h' ι' σ'):Rep h' ι' σ' x v:=r.evo hl X.evo (NoSeq.nil _)
theorem RepL.step{x:List PV}{v:List Value}(r:RepL h ι σ x v)(hl:ι.vis.length=σ.length)(X:Step prog w hB h ι σ h' ι' σ'):RepL h' ι' σ' x v:=r.evo hl X.evo (NoSeq.nil _)
end
noncomputable def Sim(prog:Program)(w:World)(hB:Heap)(A:Around){α β:Type}(R:Heap→Ad→zaa→α→β→Prop)(t:Sem β)(r:M α)(s:Shared)(ι:Ad)(σ:zaa):Prop:=
 ∀(Q:β→Shared→Prop)(E:Value→Shared→Prop),r σ≠.stuck→
  (∀ a σ',r σ=.ok a σ'→∀ x h' tk ι',Step prog w hB s.heap ι σ h' ι' σ'→R h' ι' σ' a x→Q x { s with heap:=h',toks:=tk })→
  (∀ C σ',r σ=.err C σ'→∀ e h' tk ι',Step prog w hB s.heap ι σ h' ι' σ'→Fly s.heap h' e C→E (.ref e) { s with heap:=h',toks:=tk })→
  wpAny (model prog w) A t Q E s
section
variable {prog:Program} {w:World} {hB:Heap} {A:Around} {α β γ δ:Type} {s:Shared} {ι:Ad} {σ:zaa}
theorem za4{h₁ h₂:Heap}(ha:∀(b:Addr)(o:Obj),h₁.get? b=some o→∃ o',h₂.get? b=some o'){a:Addr}(h:h₂.get? a=none):h₁.get? a=none:=by
 cases q:h₁.get? a with
 | none=>rfl
 | some o=>obtain ⟨o',e⟩:=ha a o q;rw [h] at e;cases e
theorem Fly.older{h₁ h₂ h₃:Heap}{e C:Addr}(X:Fly h₂ h₃ e C)(hs:∀(b:Addr)(o:Obj),h₁.get? b=some o→∃ o',h₂.get? b=some o'):Fly h₁ h₃ e C:=by
 obtain ⟨hn,oe,vs,h1,h2,h3,h4,h5⟩:=X
 refine ⟨za4 hs hn,oe,vs,h1,h2,h3,h4,?_⟩
 rcases h5 with h5 | ⟨T,oT,ts,a,b,c,d⟩
 ·exact .inl h5
 ·exact .inr ⟨T,oT,ts,a,b,za4 hs c,d⟩
theorem Sim.bind{R:Heap→Ad→zaa→α→β→Prop}{R':Heap→Ad→zaa→δ→γ→Prop}{t:Sem β}{k:β→Sem γ}{r:M α}{f:α→M δ}(hl:ι.vis.length=σ.length)
  (h1:Sim prog w hB A R t r s ι σ)
  (h2:∀ a σ' x h' tk ι',r σ=.ok a σ'→Step prog w hB s.heap ι σ h' ι' σ'→R h' ι' σ' a x→Sim prog w hB A R' (k x) (f a) { s with heap:=h',toks:=tk } ι' σ') :
  Sim prog w hB A R' (t >>= k) (r.bind f) s ι σ:=by
 intro Q E hns hok herr
 have hne:r σ≠.stuck:=fun q=>hns (by simp only [M.bind,q])
 refine wpAny_bind (h1 _ _ hne (fun a σ₁ e₁ x h₁ tk₁ ι₁ X₁ r₁=>?_) (fun C σ₁ e₁ e h₁ tk₁ ι₁ X₁ F₁=>?_))
 ·have hb:(r.bind f) σ=f a σ₁:=by simp only [M.bind,e₁]
  refine h2 a σ₁ x h₁ tk₁ ι₁ e₁ X₁ r₁ Q E (by rw [← hb];exact hns) (fun b σ₂ e₂ y h₂ tk₂ ι₂ X₂ r₂=>?_) (fun C σ₂ e₂ e h₂ tk₂ ι₂ X₂ F₂=>?_)
  ·exact hok b σ₂ (hb.trans e₂) y h₂ tk₂ ι₂ (X₁.trans hl X₂) r₂
  ·exact herr C σ₂ (hb.trans e₂) e h₂ tk₂ ι₂ (X₁.trans hl X₂) (F₂.older X₁.evo.alive)
 ·exact herr C σ₁ (by simp only [M.bind,e₁]) e h₁ tk₁ ι₁ X₁ F₁
theorem Sim.pure{R:Heap→Ad→zaa→α→β→Prop}{a:α}{x:β}(S:StoreOk prog w hB s.heap ι σ)(B:hB.StaysIn s.heap)(hr:R s.heap ι σ a x):Sim prog w hB A R (pure x) (M.ret a) s ι σ:=by
 intro Q E _ hok _
 exact wpAny_pure (hok a σ rfl x s.heap s.toks ι (Step.refl S B) hr)
theorem Sim.fail{R:Heap→Ad→zaa→α→β→Prop}{t:Sem β}:Sim prog w hB A R t M.fail s ι σ:=fun _ _ h _ _=>(h rfl).elim
theorem Sim.mono{R R':Heap→Ad→zaa→α→β→Prop}{t:Sem β}{r:M α}(h:Sim prog w hB A R t r s ι σ)(hr:∀ h' ι' σ' a x,R h' ι' σ' a x→R' h' ι' σ' a x):Sim prog w hB A R' t r s ι σ:=
 fun Q E hns hok herr=>h Q E hns (fun a σ' e x h' tk ι' X r=>hok a σ' e x h' tk ι' X (hr _ _ _ _ _ r)) herr
theorem Sim.tree{R:Heap→Ad→zaa→α→β→Prop}{t t':Sem β}{r:M α}(h:Sim prog w hB A R t r s ι σ)(k:∀ Q E,wpAny (model prog w) A t Q E s→wpAny (model prog w) A t' Q E s):Sim prog w hB A R t' r s ι σ:=
 fun Q E hns hok herr=>k Q E (h Q E hns hok herr)
theorem Sim.res{R:Heap→Ad→zaa→α→β→Prop}{t:Sem β}{r r':M α}(h:Sim prog w hB A R t r s ι σ)(e:r' σ=r σ):Sim prog w hB A R t r' s ι σ:=
 fun Q E hns hok herr=>h Q E (e▸hns) (fun a σ' q=>hok a σ' (e.trans q)) (fun C σ' q=>herr C σ' (e.trans q))
theorem Sim.holding{R:Heap→Ad→zaa→α→β→Prop}{t:Sem β}{r:M α}(vs:List Value)(h:Sim prog w hB A R t r s ι σ):Sim prog w hB A R (holding vs t) r s ι σ:=h.tree fun _ _=>wpAny_holding
theorem Sim.standAt{R:Heap→Ad→zaa→α→β→Prop}{t:Sem β}{r:M α}(p:Pos)(h:Sim prog w hB A R t r s ι σ):Sim prog w hB A R (do standAt p;t) r s ι σ:=h.tree fun _ _ k=>wpAny_bind (wpAny_standAt k)
theorem Sim.operate{R:Heap→Ad→zaa→α→Value→Prop}{t:Sem Value}{r:M α}(vs:List Value)(h:Sim prog w hB A R t r s ι σ):Sim prog w hB A R (operate vs t) r s ι σ:=h.tree fun _ _=>zds
theorem Sim.val{R:Heap→Ad→zaa→α→β→Prop}{t:Sem β}{r:M α}{a:α}(S:StoreOk prog w hB s.heap ι σ)(B:hB.StaysIn s.heap)(e:r σ=.ok a σ)
  (h:∀ Q E,(∀ x tk,R s.heap ι σ a x→Q x { s with toks:=tk })→wpAny (model prog w) A t Q E s):Sim prog w hB A R t r s ι σ:=
 fun Q E _ hok _=>h Q E fun x tk r=>hok a σ e x s.heap tk ι (Step.refl S B) r
theorem Sim.cond{R:Heap→Ad→zaa→α→β→Prop}{t:Sem β}{b:Bool}{x y:M α}(hx:b=true→Sim prog w hB A R t x s ι σ)(hy:b=false→Sim prog w hB A R t y s ι σ):Sim prog w hB A R t (M.cond b x y) s ι σ:=by
 cases b
 ·exact hy rfl
 ·exact hx rfl
theorem Sim.iff{R:Heap→Ad→zaa→α→β→Prop}{t u:Sem β}{b:Bool}{x y:M α}(hx:b=true→Sim prog w hB A R t x s ι σ)(hy:b=false→Sim prog w hB A R u y s ι σ):Sim prog w hB A R (if b then t else u) (M.cond b x y) s ι σ:=by
 cases b
 ·exact hy rfl
 ·exact hx rfl
theorem Sim.onInt{R:Heap→Ad→zaa→α→β→Prop}{t:Value→Sem β}{k:Int→M α}{a:PV}{x:Value}(r:Rep s.heap ι σ a x) (h:∀ i u,Sim prog w hB A R (t (.int i u)) (k i) s ι σ):Sim prog w hB A R (t x) (onInt a k) s ι σ:=by
 cases a with
 | int i=>obtain ⟨u,e⟩:=r.inv;rw [e];exact h i u
 | _=>exact Sim.fail
theorem Sim.onStr{R:Heap→Ad→zaa→α→β→Prop}{t:Value→Sem β}{k:Str→M α}{a:PV}{x:Value}(r:Rep s.heap ι σ a x) (h:∀ i u,Sim prog w hB A R (t (.str i u)) (k i) s ι σ):Sim prog w hB A R (t x) (onStr a k) s ι σ:=by
 cases a with
 | str i=>obtain ⟨u,e⟩:=r.inv;rw [e];exact h i u
 | _=>exact Sim.fail
theorem Sim.onTup{R:Heap→Ad→zaa→α→β→Prop}{t:Value→Sem β}{k:List PV→M α}{a:PV}{x:Value}(r:Rep s.heap ι σ a x)
  (h:∀ xs l vs n,s.heap.get? l=some { cls:=.type "tuple",data:=.seq vs n }→¬ Live ι σ l→RepL s.heap ι σ xs vs.toList→Sim prog w hB A R (t (.ref l)) (k xs) s ι σ):Sim prog w hB A R (t x) (onTup a k) s ι σ:=by
 cases a with
 | tup xs=>obtain ⟨l,vs,n,e,e',nl,rl⟩:=r.inv;rw [e];exact h xs l vs n e' nl rl
 | _=>exact Sim.fail
theorem Sim.onLst{R:Heap→Ad→zaa→α→β→Prop}{t:Value→Sem β}{k:List PV→M α}{a:PV}{x:Value}(r:Rep s.heap ι σ a x)
  (h:∀ xs l vs n,s.heap.get? l=some { cls:=.type "list",data:=.seq vs n }→¬ Live ι σ l→RepL s.heap ι σ xs vs.toList→Sim prog w hB A R (t (.ref l)) (k xs) s ι σ):Sim prog w hB A R (t x) (onLst a k) s ι σ:=by
 cases a with
 | lst xs=>obtain ⟨l,vs,n,e,e',nl,rl⟩:=r.inv;rw [e];exact h xs l vs n e' nl rl
 | _=>exact Sim.fail
theorem Sim.onRef{R:Heap→Ad→zaa→α→β→Prop}{t:Value→Sem β}{k:Nat→M α}{a:PV}{x:Value}(r:Rep s.heap ι σ a x) (h:∀ i l,ι.vis[i]?=some l→Sim prog w hB A R (t (.ref l)) (k i) s ι σ):Sim prog w hB A R (t x) (onRef a k) s ι σ:=by
 cases a with
 | ref i=>obtain ⟨l,e,e'⟩:=r.inv;rw [e];exact h i l e'
 | _=>exact Sim.fail
theorem zae{γ δ:Type}{m:M γ}{f:γ→M δ}{σ:zaa}(h:m σ=.stuck):m.bind f σ=.stuck:=by unfold M.bind;rw [h]
theorem zab{γ δ:Type}{m:M γ}{f:γ→M δ}{σ σ':zaa}{a:γ}(h:m σ=.ok a σ'):m.bind f σ=f a σ':=by unfold M.bind;rw [h]
theorem zam{γ δ:Type}{m:M γ}{f:γ→M δ}{σ σ':zaa}{C:Addr}(h:m σ=.err C σ'):m.bind f σ=.err C σ':=by unfold M.bind;rw [h]
theorem Sim.stuck{R:Heap→Ad→zaa→α→β→Prop}{t:Sem β}{r:M α}(e:r σ=.stuck):Sim prog w hB A R t r s ι σ:=fun _ _ h _ _=>(h e).elim
theorem Sim.bstuck{R:Heap→Ad→zaa→α→β→Prop}{t:Sem β}{γ:Type}{m:M γ}{f:γ→M α}(e:m σ=.stuck):Sim prog w hB A R t (m.bind f) s ι σ:=Sim.stuck (zae e)
theorem Sim.part{R:Heap→Ad→zaa→α→β→Prop}{t:Sem β}{γ:Type}{m:M γ}{f:γ→M α}(P:γ→Prop)(h:(∃ a,m σ=.ok a σ∧P a)∨m σ=.stuck)(k:∀ a,P a→Sim prog w hB A R t (f a) s ι σ):Sim prog w hB A R t (m.bind f) s ι σ:=by
 rcases h with ⟨a,e,p⟩ | e
 ·exact (k a p).res (zab e)
 ·exact Sim.bstuck e
theorem Sim.lift{R:Heap→Ad→zaa→α→β→Prop}{t:Sem β}{γ:Type}{o:Option γ}{f:γ→M α}(k:∀ a,o=some a→Sim prog w hB A R t (f a) s ι σ):Sim prog w hB A R t ((M.lift o).bind f) s ι σ:=by
 cases o with
 | none=>exact Sim.bstuck rfl
 | some a=>exact k a rfl
end
section
variable {prog:Program} {w:World} {hB h:Heap} {ι:Ad} {σ:zaa}
theorem zkg(o:Obj):RepTo h ι σ (h.push o) ι σ:=⟨fun e nl=>⟨Heap.get?_push_of_some _ e,nl⟩,fun e=>e,fun e c d k nl=>.exc (Heap.get?_push_of_some _ e) c d k nl⟩
theorem Rep.push(o:Obj){x:PV}{v:Value}(r:Rep h ι σ x v):Rep (h.push o) ι σ x v:=r.to (zkg o)
theorem RepL.push(o:Obj){xs:List PV}{vs:List Value}(r:RepL h ι σ xs vs):RepL (h.push o) ι σ xs vs:=r.to (zkg o)
theorem size_push(h:Heap)(o:Obj):(h.push o).objs.size=h.objs.size+1:=by
 obtain ⟨os,l⟩:=h;exact Array.size_push ..
theorem CelOk.push(o:Obj){a:Addr}{c:Cel}(x:CelOk prog w h ι σ a c):CelOk prog w (h.push o) ι σ a c:=by
 cases c with
 | list xs=>obtain ⟨vs,⟨n,e⟩,r⟩:=x;exact ⟨vs,⟨n,Heap.get?_push_of_some _ e⟩,r.push o⟩
 | dict kvs=>obtain ⟨ys,d,k,r⟩:=x;exact ⟨ys,d.push o,k,r.push o⟩
 | dead=>trivial
theorem StoreOk.push(S:StoreOk prog w hB h ι σ)(o:Obj):StoreOk prog w hB (h.push o) ι σ:=
 ⟨S.len,S.nodup,fun a ha=>by obtain ⟨o',e⟩:=S.there a ha;exact ⟨o',Heap.get?_push_of_some _ e⟩,fun a ha=>by obtain ⟨o',e,f⟩:=S.hthere a ha;exact ⟨o',Heap.get?_push_of_some _ e,f⟩,S.apart,S.base,S.hbase,S.sys,fun i a c e e'=>(S.ok i a c e e').push o⟩
theorem Evo.push(h:Heap)(ι:Ad)(σ:zaa)(o:Obj):Evo [] h ι σ (h.push o) ι σ:=
 ⟨fun _ _ e=>e,fun i a e e'=>(by rw [e] at e';cases e'),fun _ e=>e,fun b o' e=>⟨o',Heap.get?_push_of_some _ e⟩,fun b o' e _ _=>⟨⟨o'.slots,Heap.get?_push_of_some _ e⟩,fun _=>Heap.get?_push_of_some _ e⟩,fun _ h=>h,fun _ h=>.inl h⟩
theorem StaysIn.push(B:hB.StaysIn h)(o:Obj):hB.StaysIn (h.push o):=fun b o' e=>Heap.get?_push_of_some _ (B b o' e)
theorem Step.push(S:StoreOk prog w hB h ι σ)(B:hB.StaysIn h)(o:Obj):Step prog w hB h ι σ (h.push o) ι σ:=⟨Evo.push h ι σ o,S.push o,StaysIn.push B o⟩
theorem zbG(S:StoreOk prog w hB h ι σ):¬ Live ι σ h.objs.size:=by
 rintro (⟨i,c,hi,_⟩ | q)
 ·obtain ⟨o,ho⟩:=S.there _ (List.mem_of_getElem? hi)
  exact absurd (Heap.lt_size ho) (Nat.lt_irrefl _)
 ·obtain ⟨o,ho,_⟩:=S.hthere _ q
  exact absurd (Heap.lt_size ho) (Nat.lt_irrefl _)
theorem Rep.newTup(S:StoreOk prog w hB h ι σ){xs:List PV}{vs:List Value}(r:RepL h ι σ xs vs) :
  Rep (h.push { cls:=.type "tuple",data:=.seq vs.toArray }) ι σ (.tup xs) (.ref h.objs.size):=
 .tup (Heap.get?_push_size _ rfl) (zbG S) (by simpa using r.push _)
end
section
variable {prog:Program} {w:World} {hB h h':Heap} {ι:Ad} {σ:zaa}
theorem zeB{ι:List Addr}(hn:ι.Nodup){i j:Nat}{a:Addr}(hi:ι[i]?=some a)(hj:ι[j]?=some a):i=j:=by
 obtain ⟨h1,e1⟩:=List.getElem?_eq_some_iff.mp hi
 obtain ⟨h2,e2⟩:=List.getElem?_eq_some_iff.mp hj
 have hp:=List.pairwise_iff_getElem.mp hn
 rcases Nat.lt_trichotomy i j with q | q | q
 ·exact absurd (e1.trans e2.symm) (hp i j h1 h2 q)
 ·exact q
 ·exact absurd (e2.trans e1.symm) (hp j i h2 h1 q)
theorem CelOk.evo{ι':Ad}{σ':zaa}(hl:ι.vis.length=σ.length)(X:Evo [] h ι σ h' ι' σ'){a:Addr}{c:Cel}(x:CelOk prog w h ι σ a c)(hs:∀ o,h.get? a=some o→h'.get? a=some o):CelOk prog w h' ι' σ' a c:=by
 cases c with
 | list xs=>obtain ⟨vs,⟨n,e⟩,r⟩:=x;exact ⟨vs,⟨n,hs _ e⟩,r.evo hl X (NoSeq.nil _)⟩
 | dict kvs=>
  obtain ⟨ys,⟨o,es,ep,e,k⟩,k2,r⟩:=x
  exact ⟨ys,⟨o,es,ep,hs _ e,k⟩,k2,r.evo hl X (NoSeq.nil _)⟩
 | dead=>trivial
theorem zic{i:Nat}{a:Addr}{c c₀:Cel}(hi:ι.vis[i]?=some a)(hc:σ[i]?=some c₀)(hd:c₀≠.dead)(hs:Heap.SameBut a h h')(ha:∃ o',h'.get? a=some o'):Evo [] h ι σ h' ι (σ.set i c) where
 pre:=fun _ _ e=>e
 fresh:=fun j b e e'=>by rw [e] at e';cases e'
 dead:=fun j e=>by
  have hj:i≠j:=fun q=>by subst q;rw [hc] at e;cases e;exact hd rfl
  rw [List.getElem?_set_ne hj];exact e
 alive:=fun b o e=>by
  by_cases hb:b=a
  ·subst hb;exact ha
  ·exact ⟨o,(hs.2 b hb).trans e⟩
 keep:=fun b o e hn _=>by
  have hb:b≠a:=fun q=>hn (q▸⟨i,c₀,hi,hc,hd⟩)
  exact ⟨⟨o.slots,(hs.2 b hb).trans e⟩,fun _=>(hs.2 b hb).trans e⟩
 hid:=fun _ h=>h
 hfresh:=fun _ h=>.inl h
theorem Step.set{i:Nat}{a:Addr}{c c₀:Cel}(S:StoreOk prog w hB h ι σ)(B:hB.StaysIn h')(hi:ι.vis[i]?=some a)(hc:σ[i]?=some c₀)(hd:c₀≠.dead)(hs:Heap.SameBut a h h')
  (hk:CelOk prog w h' ι (σ.set i c) a c) (ha:∃ o',h'.get? a=some o'):Step prog w hB h ι σ h' ι (σ.set i c):=by
 have X:=zic (c:=c) hi hc hd hs ha
 refine ⟨X,⟨by rw [List.length_set];exact S.len,S.nodup,fun b hb=>by obtain ⟨o,ho⟩:=S.there b hb;exact X.alive b o ho,fun b hb=>by obtain ⟨o,ho,f⟩:=S.hthere b hb;exact ⟨o,(hs.2 b (fun q=>S.apart a (List.mem_of_getElem? hi) (q▸hb))).trans ho,f⟩,S.apart,S.base,S.hbase,S.sys,fun j b c' e e'=>?_⟩,B⟩
 by_cases hj:i=j
 ·subst hj
  rw [hi] at e;cases e
  rw [List.getElem?_set_self (List.getElem?_eq_some_iff.mp hc).1] at e';cases e'
  exact hk
 ·rw [List.getElem?_set_ne hj] at e'
  have hba:b≠a:=fun q=>hj (zeB S.nodup hi (q▸e))
  exact (S.ok j b c' e e').evo S.len X fun o ho=>(hs.2 b hba).trans ho
theorem zdQ(S:StoreOk prog w hB h ι σ){a:Addr}(ha:a∈ι.vis):(a==sysModules)=false:=by
 cases q:a==sysModules with
 | false=>rfl
 | true=>
  have:=eq_of_beq q
  subst this
  obtain ⟨o,ho⟩:=S.sys
  rw [S.base _ ha] at ho;cases ho
theorem zc0{a:Addr}(B:hB.StaysIn h)(ha:hB.get? a=none)(hs:Heap.SameBut a h h'):hB.StaysIn h':=fun b o e=>by
 have hb:b≠a:=fun q=>by rw [q,ha] at e;cases e
 exact (hs.2 b hb).trans (B b o e)
theorem Live.append{c:Cel}{a b:Addr}(hl:ι.vis.length=σ.length):Live (ι.add a) (σ++[c]) b→Live ι σ b∨b=a:=by
 rintro (⟨i,c',hi,hc,hd⟩ | q)
 rotate_left
 ·exact .inl (.inr q)
 simp only [Ad.add] at hi
 by_cases q:i<ι.vis.length
 ·rw [List.getElem?_append_left q] at hi
  rw [List.getElem?_append_left (hl▸q)] at hc
  exact .inl (.inl ⟨i,c',hi,hc,hd⟩)
 ·rw [List.getElem?_append_right (Nat.le_of_not_lt q)] at hi
  have:i-ι.vis.length=0:=by
   have:=(List.getElem?_eq_some_iff.mp hi).1
   simp at this;omega
  rw [this] at hi;simp at hi;exact .inr hi.symm
theorem ziR{a:Addr}(c:Cel)(hk:∀ b o,h.get? b=some o→h'.get? b=some o)(ha:h.get? a=none):Evo [] h ι σ h' (ι.add a) (σ++[c]) where
 pre:=fun i a e=>by simp only [Ad.add];rw [List.getElem?_append_left (List.getElem?_eq_some_iff.mp e).1];exact e
 fresh:=fun i b e e'=>by
  simp only [Ad.add] at e
  have hi:ι.vis.length≤i:=List.getElem?_eq_none_iff.mp e'
  rw [List.getElem?_append_right hi] at e
  have:i-ι.vis.length=0:=by
   have:=(List.getElem?_eq_some_iff.mp e).1
   simp at this;omega
  rw [this] at e;simp at e;rw [← e];exact ha
 dead:=fun i e=>by rw [List.getElem?_append_left (List.getElem?_eq_some_iff.mp e).1];exact e
 alive:=fun b o e=>⟨o,hk b o e⟩
 keep:=fun b o' e _ _=>⟨⟨o'.slots,hk _ _ e⟩,fun _=>hk _ _ e⟩
 hid:=fun _ h=>h
 hfresh:=fun _ h=>.inl h
theorem Step.newAt{a:Addr}(S:StoreOk prog w hB h ι σ)(B:hB.StaysIn h)(c:Cel)(hk:∀ b o,h.get? b=some o→h'.get? b=some o)(ha:h.get? a=none)(ht:∃ o,h'.get? a=some o)
  (hc:CelOk prog w h' (ι.add a) (σ++[c]) a c):Step prog w hB h ι σ h' (ι.add a) (σ++[c]):=by
 have X:=ziR (ι:=ι) (σ:=σ) c hk ha
 refine ⟨X,⟨by simp [Ad.add,S.len],?_,fun b hb=>?_,fun b hb=>?_,fun b hb=>?_,fun b hb=>?_,S.hbase,S.sys,fun j b c' e e'=>?_⟩,fun b o e=>hk b o (B b o e)⟩
 ·simp only [Ad.add]
  rw [List.nodup_append]
  refine ⟨S.nodup,by simp,fun x hx b hb q=>?_⟩
  rw [List.mem_singleton] at hb
  obtain ⟨o,ho⟩:=S.there x hx
  rw [q,hb,ha] at ho;cases ho
 ·rcases List.mem_append.mp hb with hb | hb
  ·obtain ⟨o,ho⟩:=S.there b hb;exact ⟨o,hk b o ho⟩
  ·rw [List.mem_singleton.mp hb];exact ht
 ·obtain ⟨o,ho,f⟩:=S.hthere b hb;exact ⟨o,hk b o ho,f⟩
 ·rcases List.mem_append.mp hb with hb | hb
  ·exact S.apart b hb
  ·rw [List.mem_singleton.mp hb];intro q;obtain ⟨o,ho,_⟩:=S.hthere _ q;rw [ha] at ho;cases ho
 ·rcases List.mem_append.mp hb with hb | hb
  ·exact S.base b hb
  ·rw [List.mem_singleton.mp hb];exact za4 (fun b o e=>⟨o,B b o e⟩) ha
 ·simp only [Ad.add] at e
  by_cases q:j<ι.vis.length
  ·rw [List.getElem?_append_left q] at e
   rw [List.getElem?_append_left (S.len▸q)] at e'
   exact (S.ok j b c' e e').evo S.len X fun o' ho=>hk _ _ ho
  ·rw [List.getElem?_append_right (Nat.le_of_not_lt q)] at e
   rw [List.getElem?_append_right (by rw [← S.len];exact Nat.le_of_not_lt q)] at e'
   have h0:j-ι.vis.length=0:=by
    have:=(List.getElem?_eq_some_iff.mp e).1
    simp at this;omega
   rw [h0] at e;rw [← S.len,h0] at e'
   simp at e e'
   subst e;subst e';exact hc
theorem zav(h:Heap):h.get? h.objs.size=none:=by
 cases q:h.get? h.objs.size with
 | none=>rfl
 | some o=>exact absurd (Heap.lt_size q) (Nat.lt_irrefl _)
theorem Step.keeps(S:StoreOk prog w hB h ι σ)(B:hB.StaysIn h)(hk:∀ b o,h.get? b=some o→h'.get? b=some o):Step prog w hB h ι σ h' ι σ:=by
 have X:Evo [] h ι σ h' ι σ:=⟨fun _ _ e=>e,fun i a e e'=>(by rw [e] at e';cases e'),fun _ e=>e,fun b o e=>⟨o,hk b o e⟩,fun b o e _ _=>⟨⟨o.slots,hk b o e⟩,fun _=>hk b o e⟩,fun _ h=>h,fun _ h=>.inl h⟩
 exact ⟨X,⟨S.len,S.nodup,fun a ha=>by obtain ⟨o,ho⟩:=S.there a ha;exact ⟨o,hk _ _ ho⟩,fun a ha=>by obtain ⟨o,ho,f⟩:=S.hthere a ha;exact ⟨o,hk _ _ ho,f⟩,S.apart,S.base,S.hbase,S.sys,fun i a c e e'=>(S.ok i a c e e').evo S.len X fun o ho=>hk _ _ ho⟩,fun b o e=>hk b o (B b o e)⟩
theorem zdR(S:StoreOk prog w hB h ι σ){a:Addr}(ha:h.get? a=none):¬ Live ι σ a:=by
 rintro (⟨i,c,hi,_⟩ | q)
 ·obtain ⟨o,ho⟩:=S.there _ (List.mem_of_getElem? hi)
  rw [ha] at ho;cases ho
 ·obtain ⟨o,ho,_⟩:=S.hthere _ q
  rw [ha] at ho;cases ho
theorem zeJ(S:StoreOk prog w hB h ι σ)(a:Addr):(ι.add a).vis[σ.length]?=some a:=by
 simp only [Ad.add]
 rw [List.getElem?_append_right (by rw [S.len];exact Nat.le_refl _)];simp [S.len]
theorem SameBut.refl(a:Addr)(h:Heap):Heap.SameBut a h h:=⟨rfl,fun _ _=>rfl⟩
theorem Step.kill{i:Nat}{a:Addr}{c₀:Cel}(S:StoreOk prog w hB h ι σ)(B:hB.StaysIn h)(hi:ι.vis[i]?=some a)(hc:σ[i]?=some c₀)(hd:c₀≠.dead):Step prog w hB h ι σ h ι (σ.set i .dead):=
 Step.set S B hi hc hd (SameBut.refl a h) trivial (S.there a (List.mem_of_getElem? hi))
theorem ze6{i:Nat}{a:Addr}{c₀:Cel}(S:StoreOk prog w hB h ι σ)(hi:ι.vis[i]?=some a)(hc:σ[i]?=some c₀):¬ Live ι (σ.set i .dead) a:=by
 rintro (⟨j,c,hj,hcj,hd⟩ | q)
 ·obtain rfl:=zeB S.nodup hi hj
  rw [List.getElem?_set_self (List.getElem?_eq_some_iff.mp hc).1] at hcj;cases hcj;exact hd rfl
 ·exact S.apart a (List.mem_of_getElem? hi) q
end
section
variable {prog:Program} {w:World} {hB:Heap} {A:Around} {s:Shared} {ι:Ad} {σ:zaa}
noncomputable abbrev SimV(prog:Program)(w:World)(hB:Heap)(A:Around)(t:Sem Value)(r:M PV)(s:Shared)(ι:Ad)(σ:zaa):Prop:=Sim prog w hB A Rep t r s ι σ
theorem zev{t:Sem Value}{cx:Cx}{p:Pos}{xs:List PV}{vs:List Value}(S:StoreOk prog w hB s.heap ι σ)(B:hB.StaysIn s.heap)(r:RepL s.heap ι σ xs vs)
  (mk:∀(Q:Value→Shared→Prop)(E:Value→Shared→Prop),(∀ D h' n tk,s.heap.get? D=none→(∀ b o,s.heap.get? b=some o→h'.get? b=some o)→h'.get? D=some { cls:=.type "list",data:=.seq vs.toArray n }→Q (.ref D) { s with heap:=h',toks:=tk })→wpAny (model prog w) A t Q E s) :
  SimV prog w hB A t (zaw cx p xs) s ι σ:=by
 refine Sim.cond (fun _=>?_) (fun _=>?_)
 ·intro Q E _ hok _
  refine mk _ _ fun D h' n tk hD hk hd=>hok (.ref σ.length) (σ++[.list xs]) rfl _ _ tk (ι.add D) ?_ (.ref (zeJ S D))
  have X:=ziR (ι:=ι) (σ:=σ) (.list xs) hk hD
  exact Step.newAt S B _ hk hD ⟨_,hd⟩ ⟨vs.toArray,⟨n,hd⟩,by simpa using r.evo S.len X (NoSeq.nil _)⟩
 ·intro Q E _ hok _
  refine mk _ _ fun D h' n tk hD hk hd=>hok _ _ rfl _ _ tk ι (Step.keeps S B hk) ?_
  have X:=(Step.keeps (prog:=prog) (w:=w) S B hk).evo
  exact .lst hd (zdR S hD) (by simpa using r.evo S.len X (NoSeq.nil _))
theorem zbz{t:Sem Value}{cx:Cx}{p:Pos}{xs:List PV}{vs:List Value}(S:StoreOk prog w hB s.heap ι σ)(B:hB.StaysIn s.heap)(r:RepL s.heap ι σ xs vs)
  (mk:∀(Q:Value→Shared→Prop)(E:Value→Shared→Prop),(∀ tk,Q (.ref s.heap.objs.size) { s with heap:=s.heap.push { cls:=.type "list",data:=.seq vs.toArray },toks:=tk })→wpAny (model prog w) A t Q E s) :
  SimV prog w hB A t (zaw cx p xs) s ι σ:=
 zev S B r fun Q E h=>mk Q E fun tk=>h _ _ 0 tk (zav _) (fun _ _ e=>Heap.get?_push_of_some _ e) (Heap.get?_push_size _ rfl)
theorem zjm{cx:Cx}{p:Pos}{xs:List PV}{vs:List Value}(S:StoreOk prog w hB s.heap ι σ)(B:hB.StaysIn s.heap)(r:RepL s.heap ι σ xs vs)(hsz:vs.length≤sizeLine) :
  SimV prog w hB A (newList vs) (zaw cx p xs) s ι σ:=
 zbz S B r fun _ _ h=>wpAny_newObj_type (h s.toks) (by show vs.toArray.size≤sizeLine;rw [List.size_toArray];exact hsz)
theorem zn1{xs:List PV}{vs:List Value}(S:StoreOk prog w hB s.heap ι σ)(B:hB.StaysIn s.heap)(r:RepL s.heap ι σ xs vs)(hsz:vs.length≤sizeLine) :
  SimV prog w hB A (newTuple vs) (M.ret (.tup xs)) s ι σ:=by
 intro Q E _ hok _
 exact wpAny_newObj_type (hok _ _ rfl _ _ s.toks ι (Step.push S B _) (Rep.newTup S r)) (by show vs.toArray.size≤sizeLine;rw [List.size_toArray];exact hsz)
theorem zbN(S:StoreOk prog w hB s.heap ι σ){i:Nat}{a:Addr}(hi:ι.vis[i]?=some a):(∃ xs vs n,lget i σ=.ok xs σ∧σ[i]?=some (.list xs)∧s.heap.get? a=some { cls:=.type "list",data:=.seq vs n }∧RepL s.heap ι σ xs vs.toList)∨lget i σ=.stuck:=by
 unfold lget M.bind cget
 cases hc:σ[i]? with
 | none=>exact .inr rfl
 | some c=>
  cases c with
  | list xs=>obtain ⟨vs,⟨n,hp⟩,rl⟩:=S.ok _ _ _ hi hc;exact .inl ⟨xs,vs,n,rfl,rfl,hp,rl⟩
  | dict kvs=>exact .inr rfl
  | dead=>exact .inr rfl
theorem zhN{v:PV}{t:Sem Value}(S:StoreOk prog w hB s.heap ι σ)(B:hB.StaysIn s.heap)(h:∀ Q E,(∀ y,Rep s.heap ι σ v y→Q y s)→wpAny (model prog w) A t Q E s):SimV prog w hB A t (zlK v) s ι σ:=by
 intro Q E hns hok herr
 refine h Q E fun y r=>?_
 cases v with
 | ref i=>
  obtain ⟨a,rfl,e⟩:=r.inv
  rcases zbN S e with ⟨xs,vs,n,h1,hc,hp,rl⟩ | h1
  ·have X:=Step.kill S B e hc (fun q=>nomatch q)
   exact hok (.lst xs) (σ.set i .dead) (zab h1) (.ref a) s.heap s.toks ι X (.lst hp (ze6 S e hc) (rl.evo S.len X.evo (NoSeq.nil _)))
  ·exact (hns (zae h1)).elim
 | _=>exact (hns rfl).elim
section
variable {α β:Type} {R:Heap→Ad→zaa→α→β→Prop}
theorem Sim.cel{t:Sem β}{f:Cel→M α}{i:Nat}{a:Addr}(S:StoreOk prog w hB s.heap ι σ)(hi:ι.vis[i]?=some a)
  (k:∀ c,σ[i]?=some c→CelOk prog w s.heap ι σ a c→Sim prog w hB A R t (f c) s ι σ):Sim prog w hB A R t ((cget i).bind f) s ι σ:=by
 cases hc:σ[i]? with
 | none=>exact Sim.bstuck (by unfold cget;rw [hc])
 | some c=>exact (k c hc (S.ok _ _ _ hi hc)).res (zab (by unfold cget;rw [hc]))
theorem Sim.lget{t:Sem β}{f:List PV→M α}{i:Nat}{a:Addr}(S:StoreOk prog w hB s.heap ι σ)(hi:ι.vis[i]?=some a)
  (k:∀ xs vs n,σ[i]?=some (.list xs)→s.heap.get? a=some { cls:=.type "list",data:=.seq vs n }→RepL s.heap ι σ xs vs.toList→Sim prog w hB A R t (f xs) s ι σ):Sim prog w hB A R t ((lget i).bind f) s ι σ:=by
 rcases zbN S hi with ⟨xs,vs,n,h1,hc,hp,rl⟩ | h1
 ·exact (k xs vs n hc hp rl).res (zab h1)
 ·exact Sim.bstuck h1
theorem zdT(S:StoreOk prog w hB s.heap ι σ){v:PV}{x:Value}(r:Rep s.heap ι σ v x) :
  (∃ xs vs n a,litems v σ=.ok xs σ∧x=.ref a∧s.heap.get? a=some { cls:=.type "list",data:=.seq vs n }∧RepL s.heap ι σ xs vs.toList)∨litems v σ=.stuck:=by
 cases v with
 | lst xs=>obtain ⟨a,vs,n,e,e',_,rl⟩:=r.inv;exact .inl ⟨_,_,_,_,rfl,e,e',rl⟩
 | ref i=>
  obtain ⟨a,e,hi⟩:=r.inv
  rcases zbN S hi with ⟨xs,vs,n,h1,hc,hp,rl⟩ | h1
  ·exact .inl ⟨_,_,_,_,h1,e,hp,rl⟩
  ·exact .inr h1
 | _=>exact .inr rfl
theorem Sim.litems{t:Value→Sem β}{f:List PV→M α}{v:PV}{x:Value}(S:StoreOk prog w hB s.heap ι σ)(r:Rep s.heap ι σ v x)
  (k:∀ xs a vs n,s.heap.get? a=some { cls:=.type "list",data:=.seq vs n }→RepL s.heap ι σ xs vs.toList→Sim prog w hB A R (t (.ref a)) (f xs) s ι σ):Sim prog w hB A R (t x) ((litems v).bind f) s ι σ:=by
 rcases zdT S r with ⟨xs,vs,n,a,h1,e,hp,rl⟩ | h1
 ·rw [e];exact (k xs a vs n hp rl).res (zab h1)
 ·exact Sim.bstuck h1
noncomputable def ziq(h:Heap)(ι:Ad)(σ:zaa)(a:Addr)(vs:Array Value)(n:Nat):Prop:=h.get? a=some { cls:=.type "list",data:=.seq vs n }∨h.get? a=some { cls:=.type "tuple",data:=.seq vs n }∧¬ Live ι σ a
theorem zh8(S:StoreOk prog w hB s.heap ι σ){v:PV}{x:Value}(r:Rep s.heap ι σ v x) :
  (∃ xs vs n a,items v σ=.ok xs σ∧x=.ref a∧ziq s.heap ι σ a vs n∧RepL s.heap ι σ xs vs.toList)∨items v σ=.stuck:=by
 have o:items v=litems v→(∃ xs vs n a,items v σ=.ok xs σ∧x=.ref a∧ziq s.heap ι σ a vs n∧RepL s.heap ι σ xs vs.toList)∨items v σ=.stuck:=by
  intro q
  rw [q]
  rcases zdT S r with ⟨xs,vs,n,a,h1,e,hp,rl⟩ | h1
  ·exact .inl ⟨xs,vs,n,a,h1,e,.inl hp,rl⟩
  ·exact .inr h1
 cases v with
 | tup xs=>obtain ⟨a,vs,n,e,e',nl,rl⟩:=r.inv;exact .inl ⟨_,_,_,_,rfl,e,.inr ⟨e',nl⟩,rl⟩
 | _=>exact o rfl
theorem Sim.items{t:Value→Sem β}{f:List PV→M α}{v:PV}{x:Value}(S:StoreOk prog w hB s.heap ι σ)(r:Rep s.heap ι σ v x)
  (k:∀ xs a vs n,ziq s.heap ι σ a vs n→RepL s.heap ι σ xs vs.toList→Sim prog w hB A R (t (.ref a)) (f xs) s ι σ):Sim prog w hB A R (t x) ((items v).bind f) s ι σ:=by
 rcases zh8 S r with ⟨xs,vs,n,a,h1,e,hp,rl⟩ | h1
 ·rw [e];exact (k xs a vs n hp rl).res (zab h1)
 ·exact Sim.bstuck h1
end
end
section
variable {prog:Program} {w:World} {hB:Heap} {A:Around} {s:Shared} {ι:Ad} {σ:zaa}
theorem small_iff{i:Int}:zba i=true↔-(2 ^ 62)≤i∧i≤2 ^ 62:=by simp [zba]
theorem zdi{i:Int}(h:zba i=true):Builtin.Int.intBits i≤64:=by
 have:=small_iff.mp h
 unfold Builtin.Int.intBits
 split
 ·omega
 ·rename_i h0
  have hn:i.natAbs≠0:=by simpa using h0
  have:i.natAbs<2 ^ 63:=by omega
  have:=(Nat.log2_lt hn).mpr this
  omega
theorem zbA{α:Type}(xs:Array α):∀(n:Nat)(acc:Array α),((List.replicate n xs).foldl (·++·) acc).toList=acc.toList++(List.replicate n xs.toList).flatten
 | 0,acc=>by simp
 | n+1,acc=>by rw [List.replicate_succ,List.foldl_cons,zbA xs n,List.replicate_succ,List.flatten_cons,Array.toList_append,List.append_assoc]
theorem ziB{h:Heap}{xs:List PV}{vs:List Value}(r:RepL h ι σ xs vs):∀ n:Nat,RepL h ι σ (ziI xs n) (List.replicate n vs).flatten
 | 0=>.nil
 | n+1=>by unfold ziI;rw [List.replicate_succ,List.flatten_cons,List.replicate_succ,List.flatten_cons];exact r.append (ziB r n)
theorem zfY{x:Str}(h:(x.length==0)=true):x=⟨#[]⟩:=by
 obtain ⟨xs⟩:=x
 exact congrArg Str.mk (Array.eq_empty_of_size_eq_zero (eq_of_beq h))
theorem zhI(x y:Str):(x++y).length=x.length+y.length:=Array.size_append
theorem zjx{x y:Str}{t u:Tok}(S:StoreOk prog w hB s.heap ι σ)(B:hB.StaysIn s.heap)(hb:x.length+y.length≤2 ^ 20):SimV prog w hB A (binaryOp .Add (.str x t) (.str y u)) (M.ret (.str (x++y))) s ι σ:=by
 refine Sim.val S B rfl fun Q E h=>P.add_str ?_
 have e1:x=⟨#[]⟩→x++y=y:=fun q=>by rw [q];exact congrArg Str.mk Array.empty_append
 have e2:y=⟨#[]⟩→x++y=x:=fun q=>by rw [q];exact congrArg Str.mk Array.append_empty
 split
 ·rename_i h0;exact h _ _ (by rw [e1 (zfY h0)];exact .str _ _)
 ·split
  ·rename_i h0;exact h _ _ (by rw [e2 (zfY h0)];exact .str _ _)
  ·exact ⟨by rw [zhI];exact Nat.le_trans hb (by decide),h _ _ (.str _ _)⟩
theorem zcG(vs ws:Array Value):(vs.toList++ws.toList).toArray=vs++ws:=Array.toList_inj.mp Array.toList_append.symm
theorem zfl{xs:List PV}{vs:Array Value}(r:RepL s.heap ι σ xs vs.toList)(h:vs.isEmpty=true):xs=[]:=List.length_eq_zero_iff.mp (r.length.trans (Array.isEmpty_iff_size_eq_zero.mp h))
theorem zjw{xs ys:List PV}{l l':Addr}{vs ws:Array Value}{n n':Nat}(S:StoreOk prog w hB s.heap ι σ)(B:hB.StaysIn s.heap) (e:s.heap.get? l=some { cls:=.type "tuple",data:=.seq vs n }) (nl:¬ Live ι σ l) (rl:RepL s.heap ι σ xs vs.toList)
  (e':s.heap.get? l'=some { cls:=.type "tuple",data:=.seq ws n' }) (nl':¬ Live ι σ l') (rl':RepL s.heap ι σ ys ws.toList) (hb:xs.length+ys.length≤2 ^ 20):SimV prog w hB A (binaryOp .Add (.ref l) (.ref l')) (M.ret (.tup (xs++ys))) s ι σ:=by
 have hsz:vs.size+ws.size≤sizeLine:=Nat.le_trans (Nat.le_of_eq (congr (congrArg _ rl.length.symm) rl'.length.symm)) (Nat.le_trans hb (by decide))
 by_cases hv:vs.isEmpty=true
 ·rw [zfl rl hv]
  exact Sim.val S B rfl fun Q E h=>concat_meets ⟨_,e,rfl⟩ ⟨_,e',rfl⟩ noFill_tuple_add seq_tuple_add PySem.F.slot_tuple_add PySem.F.entry_tuple_add (PySem.F.args_tuple_add_2 _ _) (PyProof.Rows.tuple_addW0 _ _ vs ws n n' none none #[] #[] hv) ⟨e,e',h _ _ (.tup e' nl' rl')⟩
 ·by_cases hw:ws.isEmpty=true
  ·rw [zfl rl' hw,List.append_nil]
   exact Sim.val S B rfl fun Q E h=>concat_meets ⟨_,e,rfl⟩ ⟨_,e',rfl⟩ noFill_tuple_add seq_tuple_add PySem.F.slot_tuple_add PySem.F.entry_tuple_add (PySem.F.args_tuple_add_2 _ _) (PyProof.Rows.tuple_addW1 _ _ vs ws n n' none none #[] #[] hv hw) ⟨e,e',h _ _ (.tup e nl rl)⟩
  ·intro Q E _ hok _
   refine concat_meets ⟨_,e,rfl⟩ ⟨_,e',rfl⟩ noFill_tuple_add seq_tuple_add PySem.F.slot_tuple_add PySem.F.entry_tuple_add (PySem.F.args_tuple_add_2 _ _) (PyProof.Rows.tuple_addW2 _ _ vs ws n n' none none #[] #[] hv hw hsz) ⟨e,e',?_⟩
   have r:=Rep.newTup S (rl.append rl')
   rw [zcG] at r
   exact hok _ _ rfl _ _ s.toks ι (Step.push S B _) r
theorem zjy{cx:Cx}{p:Pos}{xs ys:List PV}{l l':Addr}{vs ws:Array Value}{n n':Nat}(S:StoreOk prog w hB s.heap ι σ)(B:hB.StaysIn s.heap) (e:s.heap.get? l=some { cls:=.type "list",data:=.seq vs n }) (rl:RepL s.heap ι σ xs vs.toList)
  (e':s.heap.get? l'=some { cls:=.type "list",data:=.seq ws n' }) (rl':RepL s.heap ι σ ys ws.toList) (hb:xs.length+ys.length≤2 ^ 20):SimV prog w hB A (binaryOp .Add (.ref l) (.ref l')) (zaw cx p (xs++ys)) s ι σ:=by
 have hsz:vs.size+ws.size≤sizeLine:=Nat.le_trans (Nat.le_of_eq (congr (congrArg _ rl.length.symm) rl'.length.symm)) (Nat.le_trans hb (by decide))
 refine zbz S B (rl.append rl') fun Q E k=>P.add_list e e' ?_ hsz
 rw [← zcG]
 exact k s.toks
theorem zfi(x:Str)(n:Nat):(zcZ x n).length=n*x.length:=by
 unfold zcZ Str.length;simp [List.length_flatten,List.map_replicate]
theorem zja(x:Str):zcZ x 1=x:=congrArg Str.mk (by rw [List.replicate_one,List.flatten_singleton,Array.toArray_toList])
theorem zjb(n:Nat):zcZ ⟨#[]⟩ n=⟨#[]⟩:=zfY (by rw [zfi];exact beq_of_eq (Nat.mul_zero n))
theorem zhJ(x:Str)(n:Nat):zcZ x n=⟨(List.replicate n x.cps).foldl (·++·) #[]⟩:=congrArg Str.mk (Array.toList_inj.mp ((zbA x.cps n #[]).symm))
theorem zoV{n:Int}(h0:0<n)(h1:n≤1000):1000≤((2:Int) ^ 63-1) / n:=Int.le_ediv_of_mul_le h0 (by omega)
theorem zjk{x:Str}{n:Int}{t u:Tok}(S:StoreOk prog w hB s.heap ι σ)(B:hB.StaysIn s.heap)(h0:0≤n)(h1:n≤1000)(h2:x.length≤1000):SimV prog w hB A (binaryOp .Mult (.str x t) (.int n u)) (M.ret (.str (zcZ x n.toNat))) s ι σ:=by
 have hmul:x.length*n.toNat≤1000*1000:=Nat.mul_le_mul h2 (by omega)
 refine Sim.val S B rfl fun Q E h=>P.mul_str (by rw [decide_eq_false (by omega),decide_eq_false (by omega)];rfl) (fun h3 h4 h5=>?_) (fun _ _=>decide_eq_false (Nat.not_lt.mpr (Nat.le_trans hmul (by decide)))) ?_
 ·have:=zoV (n:=n) (by omega) h1
  omega
 ·split
  ·rename_i h3
   exact ⟨by decide,h _ _ (by rw [show n.toNat=0 by omega];exact .str _ _)⟩
  ·split
   ·rename_i h3 h4
    have:zcZ x n.toNat=x:=by
     rcases Bool.or_eq_true_iff.mp h4 with q | q
     ·rw [show n.toNat=1 by have:=eq_of_beq q;omega,zja]
     ·rw [zfY q,zjb]
    exact h _ _ (by rw [this];exact .str _ _)
   ·rw [← zhJ]
    exact ⟨by rw [zfi,Nat.mul_comm];exact Nat.le_trans hmul (by decide),h _ _ (.str _ _)⟩
theorem zjl{cx:Cx}{p:Pos}{m:Int}{u:Tok}{xs:List PV}{l:Addr}{vs:Array Value}{n:Nat}(S:StoreOk prog w hB s.heap ι σ)(B:hB.StaysIn s.heap) (e:s.heap.get? l=some { cls:=.type "list",data:=.seq vs n }) (rl:RepL s.heap ι σ xs vs.toList)
  (h0:0≤m) (h1:m≤1000) (h2:xs.length≤1000):SimV prog w hB A (binaryOp .Mult (.ref l) (.int m u)) (zaw cx p (ziI xs m.toNat)) s ι σ:=by
 have hx:xs.length=vs.size:=rl.length
 have hmul:vs.size*m.toNat≤1000*1000:=Nat.mul_le_mul (by omega) (by omega)
 have q:(List.replicate m.toNat vs.toList).flatten.toArray=List.foldl (fun x1 x2=>x1++x2) #[] (List.replicate (if vs.isEmpty=true then 0 else m.toNat) vs):=by
  apply Array.toList_inj.mp
  rw [zbA]
  by_cases hv:vs.isEmpty=true
  ·rw [if_pos hv]
   have:vs=#[]:=Array.isEmpty_iff.mp hv
   subst this;simp
  ·rw [if_neg hv];simp
 refine zbz S B (ziB rl m.toNat) fun Q E k=>?_
 refine wpAny_binaryOp_repeat_ref (T:="list") (U:="int") (by decide) ⟨_,e,rfl⟩ (fun s'=>typeIs_int s' m u) noFill_list_mul F.fills_int_mul F.slot_int_rmul repeat_list F.slot_int_index.lookup
  (call_meets F.slot_int_rmul (typeIs_int s m u) F.entry_int_rmul (F.args_int_rmul_2 _ _) (int___rmul___int_list m u _ vs n)
   ⟨e,rfl,⟨_,e,rfl⟩,call_meets F.slot_list_mul ⟨_,e,rfl⟩ F.entry_list_mul (F.args_list_mul_2 _ _)
    (AutoListH.list___mul___list_int_3 _ vs n m u (by simp [Builtin.List.listFitsIndex];omega) (by omega) (by simp [Builtin.List.listTooLong,sizeLine];omega))
    ⟨e,?_⟩⟩)
 rw [← q]
 exact k s.toks
theorem rep3{n:Int}{k:Nat} (h:(decide (0≤n)&&decide (n≤1000)&&decide (k≤1000))=true):0≤n∧n≤1000∧k≤1000:=by
 rw [Bool.and_eq_true,Bool.and_eq_true] at h
 exact ⟨of_decide_eq_true h.1.1,of_decide_eq_true h.1.2,of_decide_eq_true h.2⟩
theorem zob{cx:Cx}{p:Pos}{a b:PV}{x y:Value}(S:StoreOk prog w hB s.heap ι σ)(B:hB.StaysIn s.heap)(ra:Rep s.heap ι σ a x)(rb:Rep s.heap ι σ b y):SimV prog w hB A (binaryOp .Add x y) (addV cx p a b) s ι σ:=by
 cases a with
 | int i=>obtain ⟨t,rfl⟩:=ra.inv;exact Sim.onInt rb fun j u=>Sim.val S B rfl fun Q E h=>P.add_int (h _ _ (.int _ _))
 | str x=>obtain ⟨t,rfl⟩:=ra.inv;exact Sim.onStr rb fun y u=>Sim.cond (fun hb=>zjx S B (of_decide_eq_true hb)) fun _=>Sim.fail
 | tup xs=>obtain ⟨l,vs,n,rfl,e,nl,rl⟩:=ra.inv;exact Sim.onTup rb fun ys l' ws n' e' nl' rl'=>Sim.cond (fun hb=>zjw S B e nl rl e' nl' rl' (of_decide_eq_true hb)) fun _=>Sim.fail
 | lst xs=>obtain ⟨l,vs,n,rfl,e,nl,rl⟩:=ra.inv;exact Sim.onLst rb fun ys l' ws n' e' nl' rl'=>Sim.cond (fun hb=>zjy S B e rl e' rl' (of_decide_eq_true hb)) fun _=>Sim.fail
 | _=>exact Sim.fail
theorem zn4{cx:Cx}{p:Pos}{a b:PV}{x y:Value}(S:StoreOk prog w hB s.heap ι σ)(B:hB.StaysIn s.heap)(ra:Rep s.heap ι σ a x)(rb:Rep s.heap ι σ b y):SimV prog w hB A (binaryOp .Mult x y) (mulV cx p a b) s ι σ:=by
 refine Sim.onInt rb fun n u=>?_
 cases a with
 | int i=>obtain ⟨t,rfl⟩:=ra.inv;exact Sim.cond (fun hb=>Sim.val S B rfl fun Q E h=>P.mul_int (h _ _ (.int _ _)) ((Bool.or_eq_true_iff.mp hb).elim (fun q=>IntMulOk.of_left (zdi q)) fun q=>IntMulOk.of_right (zdi q))) fun _=>Sim.fail
 | str x=>obtain ⟨t,rfl⟩:=ra.inv;exact Sim.cond (fun hb=>zjk S B (rep3 hb).1 (rep3 hb).2.1 (rep3 hb).2.2) fun _=>Sim.fail
 | lst xs=>obtain ⟨l,vs,m,rfl,e,nl,rl⟩:=ra.inv;exact Sim.cond (fun hb=>zjl S B e rl (rep3 hb).1 (rep3 hb).2.1 (rep3 hb).2.2) fun _=>Sim.fail
 | _=>exact Sim.fail
theorem zkL{cx:Cx}{p:Pos}{op:Operator}{a b:PV}{x y:Value}(S:StoreOk prog w hB s.heap ι σ)(B:hB.StaysIn s.heap)(ra:Rep s.heap ι σ a x)(rb:Rep s.heap ι σ b y) :
  SimV prog w hB A (binaryOp op x y) (zng cx p op a b) s ι σ:=by
 cases op with
 | Add=>exact zob S B ra rb
 | Mult=>exact zn4 S B ra rb
 | Sub=>exact Sim.onInt (t:=fun x=>binaryOp .Sub x y) ra fun i t=>Sim.onInt rb fun j u=>Sim.val S B rfl fun Q E h=>P.sub_int (h _ _ (.int _ _))
 | FloorDiv=>
  refine Sim.onInt (t:=fun x=>binaryOp .FloorDiv x y) ra fun i t=>Sim.onInt rb fun j u=>Sim.cond (fun hb=>?_) (fun _=>Sim.fail)
  have h1:=of_decide_eq_true (Bool.and_eq_true_iff.mp hb).1
  have h2:=of_decide_eq_true (Bool.and_eq_true_iff.mp hb).2
  refine Sim.val S B rfl fun Q E h=>AutoIntOps.floordiv_1 (fun q=>Int.ne_of_gt h1 (eq_of_beq q)) ?_ (h _ _ (.int _ _))
  rw [PyProof.noPylong_small (by omega)];exact Bool.false_ne_true
 | Mod=>
  refine Sim.onInt (t:=fun x=>binaryOp .Mod x y) ra fun i t=>Sim.onInt rb fun j u=>Sim.cond (fun hb=>?_) (fun _=>Sim.fail)
  exact Sim.val S B rfl fun Q E h=>AutoIntOps.mod_1 (fun q=>Int.ne_of_gt (of_decide_eq_true hb) (eq_of_beq q)) (h _ _ (.int _ _))
 | _=>exact Sim.fail
end
end Mine
namespace Mine
open PySem PySem.SeqAt
theorem zaI{α β:Type}{f:α→Option β}{x:α}{xs:List α}{zs:List β}(h:zal f (x::xs)=some zs):∃ y ys,f x=some y∧zal f xs=some ys∧zs=y::ys:=by
 simp only [zal] at h
 cases hf:f x with
 | none=>rw [hf] at h;cases h
 | some y=>
  rw [hf] at h
  cases hr:zal f xs with
  | none=>rw [hr] at h;cases h
  | some ys=>rw [hr] at h;cases h;exact ⟨y,ys,rfl,rfl,rfl⟩
theorem zau{α β:Type}{f:α→Option β}:∀{xs:List α}{zs:List β},zal f xs=some zs→zs.length=xs.length
 | [],_,h=>by cases h;rfl
 | _::xs,_,h=>by obtain ⟨y,ys,_,h2,rfl⟩:=zaI h;simp [zau h2]
noncomputable def zg8(xs ys:List PV)(j:Nat):Bool:=match xs[j]?,ys[j]? with
 | some a,some b=>eqv a b
 | _,_=>true
theorem zeL:∀ xs ys:List PV,((List.range (min xs.length ys.length)).all (zg8 xs ys)&&xs.length==ys.length)=eqvs xs ys
 | [],[]=>rfl
 | [],_::_=>by simp [eqvs]
 | _::_,[]=>by simp [eqvs]
 | x::xs,y::ys=>by
  have ih:=zeL xs ys
  have e1:min (x::xs).length (y::ys).length=min xs.length ys.length+1:=by simp only [List.length_cons];omega
  have e2:((x::xs).length==(y::ys).length)=(xs.length==ys.length):=by simp
  have e3:(List.range (min xs.length ys.length+1)).all (zg8 (x::xs) (y::ys))=(eqv x y&&(List.range (min xs.length ys.length)).all (zg8 xs ys)):=by
   rw [List.range_succ_eq_map,List.all_cons,List.all_map]
   congr 1
  rw [e1,e2,e3,eqvs,← ih,Bool.and_assoc]
theorem zb6{xs ys:List PV}(h:xs.length=ys.length):(List.range xs.length).all (zg8 xs ys)=eqvs xs ys:=by
 have:=zeL xs ys
 rw [← h,Nat.min_self] at this
 simpa using this
theorem zbQ{xs ys:List PV}(h:xs.length≠ys.length):eqvs xs ys=false:=by
 rw [← zeL xs ys];simp [h]
section
variable {prog:Program} {w:World} {hB:Heap} {h:Heap} {ι:Ad} {σ:zaa}
inductive View (h:Heap) (ι:Ad) (σ:zaa) (n:Nat):PV→Value→Prop
 | none:View h ι σ n .none .none
 | bool (b:Bool):View h ι σ n (.bool b) (.bool b)
 | int (i:Int) (t:Tok):View h ι σ n (.int i) (.int i t)
 | str (x:Str) (t:Tok):View h ι σ n (.str x) (.str x t)
 | lst {l:Addr} {vs:Array Value} {k:Nat} {xs zs:List PV}:h.get? l=some { cls:=.type "list",data:=.seq vs k }→RepL h ι σ xs vs.toList→zal (whole σ n) xs=some zs→View h ι σ n (.lst zs) (.ref l)
 | tup {l:Addr} {vs:Array Value} {k:Nat} {xs zs:List PV}:h.get? l=some { cls:=.type "tuple",data:=.seq vs k }→RepL h ι σ xs vs.toList→zal (whole σ n) xs=some zs→View h ι σ n (.tup zs) (.ref l)
theorem view(S:StoreOk prog w hB h ι σ){n:Nat}{a x:PV}{v:Value}(r:Rep h ι σ a v)(e:whole σ (n+1) a=some x):View h ι σ n x v:=by
 cases r with
 | none=>cases e;exact .none
 | bool b=>cases e;exact .bool b
 | int i t=>cases e;exact .int i t
 | str y t=>cases e;exact .str y t
 | tup e' _ rl=>
  simp only [whole] at e
  obtain ⟨zs,h1,rfl⟩:=Option.map_eq_some_iff.mp e
  exact .tup e' rl h1
 | lst e' _ rl=>
  simp only [whole] at e
  obtain ⟨zs,h1,rfl⟩:=Option.map_eq_some_iff.mp e
  exact .lst e' rl h1
 | ref hi=>
  simp only [whole] at e
  split at e
  ·rename_i xs hc
   obtain ⟨zs,h1,rfl⟩:=Option.map_eq_some_iff.mp e
   obtain ⟨vs,⟨k,hp⟩,rl⟩:=S.ok _ _ _ hi hc
   exact .lst hp rl h1
  ·cases e
 | exc=>cases e
theorem zmm{n m:Nat} (ih:∀{x y:PV}{v:Value},View h ι σ n x v→View h ι σ m y v→x=y) (S:StoreOk prog w hB h ι σ) {xs:List PV} {vs:List Value} (r:RepL h ι σ xs vs) :
  ∀{ys zs us:List PV},RepL h ι σ ys vs→zal (whole σ (n+1)) xs=some zs→zal (whole σ (m+1)) ys=some us→zs=us:=by
 induction vs generalizing xs with
 | nil=>intro ys zs us r' e e';cases r;cases r';cases e;cases e';rfl
 | cons v vs ihv=>
  intro ys zs us r' e e'
  cases r with
  | cons r rs=>
   cases r' with
   | cons r' rs'=>
    obtain ⟨y,ys,h1,h2,rfl⟩:=zaI e
    obtain ⟨u,us,k1,k2,rfl⟩:=zaI e'
    rw [ih (view S r h1) (view S r' k1),ihv rs rs' h2 k2]
theorem zfg{n:Nat}(hn:n=0){xs zs:List PV}(e:zal (whole σ n) xs=some zs):xs=[]∧zs=[]:=by
 subst hn
 cases xs with
 | nil=>cases e;exact ⟨rfl,rfl⟩
 | cons x xs=>obtain ⟨y,ys,h1,_⟩:=zaI e;cases h1
theorem ziz{n m:Nat} (ih:∀ k,n=k+1→∀ l,m=l+1→∀{x y:PV}{v:Value},View h ι σ k x v→View h ι σ l y v→x=y) (S:StoreOk prog w hB h ι σ) {xs ys zs us:List PV} {vs:List Value} (r:RepL h ι σ xs vs) (r':RepL h ι σ ys vs)
  (e:zal (whole σ n) xs=some zs) (e':zal (whole σ m) ys=some us):zs=us:=by
 have hlen:xs.length=ys.length:=r.length.trans r'.length.symm
 cases n with
 | zero=>
  obtain ⟨rfl,rfl⟩:=zfg rfl e
  have:ys=[]:=List.length_eq_zero_iff.mp hlen.symm
  subst this;cases e';rfl
 | succ n=>
  cases m with
  | zero=>
   obtain ⟨rfl,rfl⟩:=zfg rfl e'
   have:xs=[]:=List.length_eq_zero_iff.mp hlen
   subst this;cases e;rfl
  | succ m=>exact zmm (ih n rfl m rfl) S r r' e e'
theorem zgN{n m:Nat} (ih:∀ k,n=k+1→∀ l,m=l+1→∀{x y:PV}{v:Value},View h ι σ k x v→View h ι σ l y v→x=y) (S:StoreOk prog w hB h ι σ) {x y:PV} {v:Value} (a:View h ι σ n x v) (b:View h ι σ m y v):x=y:=by
 cases a with
 | lst e r o=>cases b with
  | lst e' r' o'=>rw [e] at e';cases e';rw [ziz ih S r r' o o']
  | tup e'=>rw [e] at e';simp at e'
 | tup e r o=>cases b with
  | lst e'=>rw [e] at e';simp at e'
  | tup e' r' o'=>rw [e] at e';cases e';rw [ziz ih S r r' o o']
 | _=>cases b;rfl
theorem zgO(S:StoreOk prog w hB h ι σ)(n:Nat):∀(m:Nat){x y:PV}{v:Value},View h ι σ n x v→View h ι σ m y v→x=y:=by
 induction n with
 | zero=>exact fun m _ _ _ a b=>zgN (fun k q=>absurd q (by omega)) S a b
 | succ n ih=>exact fun m _ _ _ a b=>zgN (fun k q l _=>by cases q;exact ih l) S a b
theorem zdA{α β:Type}{f:α→Option β}{P:β→Prop}(hP:∀ x y,f x=some y→P y):∀{xs:List α}{zs:List β},zal f xs=some zs→∀ z∈zs,P z
 | [],_,e=>by cases e;intro z hz;cases hz
 | x::xs,_,e=>by
  obtain ⟨y,ys,h1,h2,rfl⟩:=zaI e
  intro z hz
  rcases List.mem_cons.mp hz with rfl | hz
  ·exact hP x z h1
  ·exact zdA hP h2 z hz
theorem zgr:∀{zs:List PV},(∀ z∈zs,eqv z z=true)→eqvs zs zs=true
 | [],_=>rfl
 | z::zs,h=>Bool.and_eq_true_iff.mpr ⟨h z (.head _),zgr fun y hy=>h y (.tail _ hy)⟩
theorem zif(n:Nat):∀{x a:PV},whole σ n a=some x→eqv x x=true:=by
 induction n with
 | zero=>intro x a e;cases e
 | succ n ih=>
  have sq:∀{xs:List PV}{x:PV}{c:List PV→PV}(_:∀ zs,eqv (c zs) (c zs)=eqvs zs zs),(zal (whole σ n) xs).map c=some x→eqv x x=true:=by
   intro xs x c hc e
   obtain ⟨zs,h1,rfl⟩:=Option.map_eq_some_iff.mp e
   rw [hc];exact zgr (zdA (fun x y q=>ih q) h1)
  intro x a e
  cases a with
  | none=>cases e;rfl
  | bool b=>cases e;exact beq_self_eq_true b
  | int b=>cases e;exact beq_self_eq_true b
  | str b=>cases e;exact beq_self_eq_true b
  | tup xs=>exact sq (c:=.tup) (fun _=>rfl) e
  | lst xs=>exact sq (c:=.lst) (fun _=>rfl) e
  | ref i=>
   change (match σ[i]? with | some (Cel.list xs)=>(zal (whole σ n) xs).map PV.lst | _=>Option.none)=some x at e
   cases hc:σ[i]? with
   | none=>rw [hc] at e;cases e
   | some c=>rw [hc] at e;cases c with
    | list xs=>exact sq (c:=.lst) (fun _=>rfl) e
    | dict _=>cases e
    | dead=>cases e
  | exc _=>cases e
theorem zdV(n:Nat){xs zs:List PV}(e:zal (whole σ n) xs=some zs):eqvs zs zs=true:=zgr (zdA (fun _ _ q=>zif n q) e)
theorem zka{n:Nat}{x:PV}{v:Value}(V:View h ι σ n x v):eqv x x=true:=by
 cases V with
 | none=>rfl
 | bool b=>simp [eqv]
 | int b t=>simp [eqv]
 | str b t=>simp [eqv]
 | lst e r o=>simp only [eqv];exact zdV n o
 | tup e r o=>simp only [eqv];exact zdV n o
end
section
variable {prog:Program} {w:World} {hB:Heap} {s:Shared} {ι:Ad} {σ:zaa}
theorem zey{n m:Nat}{P:PV→PV→Value→Value→Prop} (hp:∀{a b x y:PV}{u v:Value},Rep s.heap ι σ a u→Rep s.heap ι σ b v→whole σ n a=some x→whole σ m b=some y→P x y u v) :
  ∀{xs ys zs us:List PV}{vs ws:List Value},RepL s.heap ι σ xs vs→RepL s.heap ι σ ys ws→zal (whole σ n) xs=some zs→zal (whole σ m) ys=some us→
   ∀ j (h1:j<vs.length) (h2:j<ws.length),∃ x y,zs[j]?=some x∧us[j]?=some y∧P x y vs[j] ws[j]
 | _,_,_,_,_,_,.nil,_,_,_,j,h1,_=>absurd h1 (Nat.not_lt_zero _)
 | _,_,_,_,_,_,.cons _ _,.nil,_,_,j,_,h2=>absurd h2 (Nat.not_lt_zero _)
 | _,_,_,_,_,_,.cons r rs,.cons r' rs',e,e',j,h1,h2=>by
  obtain ⟨y,ys,k1,k2,rfl⟩:=zaI e
  obtain ⟨u,us,l1,l2,rfl⟩:=zaI e'
  cases j with
  | zero=>exact ⟨y,u,rfl,rfl,hp r r' k1 l1⟩
  | succ j=>exact zey hp rs rs' k2 l2 j (Nat.lt_of_succ_lt_succ h1) (Nat.lt_of_succ_lt_succ h2)
theorem zed{zs us:List PV}{j:Nat}{x y:PV}(h1:zs[j]?=some x)(h2:us[j]?=some y):zg8 zs us j=eqv x y:=by simp only [zg8,h1,h2]
variable {A:Around} {n m:Nat}
theorem zdW(S:StoreOk prog w hB s.heap ι σ){x y:PV}{l l':Addr}(e:l=l')(vx:View s.heap ι σ n x (.ref l))(vy:View s.heap ι σ m y (.ref l')):EqAt A s (.ref l) (.ref l') (eqv x y):=by
 subst e
 rw [zgO S n m vx vy,zka vy]
 exact EqAt.same _
theorem zg7{l l':Addr}{vs vs':Array Value}{k k':Nat}{xs zs xs' zs':List PV} (e:s.heap.get? l=some { cls:=.type "list",data:=.seq vs k }) (r:RepL s.heap ι σ xs vs.toList) (o:zal (whole σ n) xs=some zs)
  (e':s.heap.get? l'=some { cls:=.type "list",data:=.seq vs' k' }) (r':RepL s.heap ι σ xs' vs'.toList) (o':zal (whole σ m) xs'=some zs') (hu:A.units<cLine)
  (he:∀{a b x y:PV}{u v:Value},Rep s.heap ι σ a u→Rep s.heap ι σ b v→whole σ n a=some x→whole σ m b=some y→EqAt A.in1 s u v (eqv x y)):RcAt A s (.ref l) (.ref l') (eqv (.lst zs) (.lst zs')):=by
 have hl:s.heap.IsList l vs:=⟨_,e,rfl,_,rfl⟩
 have hl':s.heap.IsList l' vs':=⟨_,e',rfl,_,rfl⟩
 have n1:zs.length=vs.size:=(zau o).trans r.length
 have n2:zs'.length=vs'.size:=(zau o').trans r'.length
 show RcAt A s (.ref l) (.ref l') (eqvs zs zs')
 by_cases hsz:vs.size=vs'.size
 ·rw [← zb6 (by omega:zs.length=zs'.length),n1]
  refine RcAt.lists hl hl' hsz hu fun j j1 j2=>?_
  obtain ⟨x,y,h1,h2,h3⟩:=zey (s:=s) (P:=fun x y u v=>EqAt A.in1 s u v (eqv x y)) he r r' o o' j (by simpa using j1) (by simpa using j2)
  rw [zed h1 h2];simpa using h3
 ·rw [zbQ (by omega:zs.length≠zs'.length)]
  exact RcAt.lists_lengths hl hl' (by simpa using hsz) hu
theorem zfm{l l':Addr}{vs vs':Array Value}{k k':Nat}{xs zs xs' zs':List PV} (e:s.heap.get? l=some { cls:=.type "tuple",data:=.seq vs k }) (r:RepL s.heap ι σ xs vs.toList) (o:zal (whole σ n) xs=some zs)
  (e':s.heap.get? l'=some { cls:=.type "tuple",data:=.seq vs' k' }) (r':RepL s.heap ι σ xs' vs'.toList) (o':zal (whole σ m) xs'=some zs') (hu:A.units<cLine)
  (he:∀{a b x y:PV}{u v:Value},Rep s.heap ι σ a u→Rep s.heap ι σ b v→whole σ n a=some x→whole σ m b=some y→EqAt A.in1 s u v (eqv x y)):RcAt A s (.ref l) (.ref l') (eqv (.tup zs) (.tup zs')):=by
 have hl:s.heap.IsTuple l vs:=⟨_,e,rfl,_,rfl⟩
 have hl':s.heap.IsTuple l' vs':=⟨_,e',rfl,_,rfl⟩
 have n1:zs.length=vs.size:=(zau o).trans r.length
 have n2:zs'.length=vs'.size:=(zau o').trans r'.length
 show RcAt A s (.ref l) (.ref l') (eqvs zs zs')
 rw [← zeL zs zs',n1,n2]
 refine RcAt.tuples hl hl' hu fun j j1 j2=>?_
 obtain ⟨x,y,h1,h2,h3⟩:=zey (s:=s) (P:=fun x y u v=>EqAt A.in1 s u v (eqv x y)) he r r' o o' j (by simpa using j1) (by simpa using j2)
 rw [zed h1 h2];simpa using h3
theorem zlP(S:StoreOk prog w hB s.heap ι σ){x y:PV}{u v:Value}(vx:View s.heap ι σ n x u)(vy:View s.heap ι σ m y v)(hu:A.units<cLine)
  (he:∀{a b x y:PV}{u v:Value},Rep s.heap ι σ a u→Rep s.heap ι σ b v→whole σ n a=some x→whole σ m b=some y→EqAt A.in1 s u v (eqv x y)):EqAt A s u v (eqv x y):=by
  cases vx with
  | none=>cases vy with
   | none=>exact EqAt.same _
   | bool y=>exact EqAt.none_bool  y
   | int y u=>exact EqAt.none_int  y u
   | str y u=>exact EqAt.none_str  y u
   | lst e r o=>exact EqAt.none_list  ⟨_,e,rfl,_,rfl⟩ hu
   | tup e r o=>exact EqAt.none_tuple  ⟨_,e,rfl,_,rfl⟩ hu
  | bool x=>cases vy with
   | none=>exact EqAt.bool_none x
   | bool y=>exact EqAt.bool_bool x y
   | int y u=>exact EqAt.bool_int x y u
   | str y u=>exact EqAt.bool_str x y u
   | lst e r o=>exact EqAt.bool_list x ⟨_,e,rfl,_,rfl⟩ hu
   | tup e r o=>exact EqAt.bool_tuple x ⟨_,e,rfl,_,rfl⟩ hu
  | int x t=>cases vy with
   | none=>exact EqAt.int_none x t
   | bool y=>exact EqAt.int_bool x t y
   | int y u=>exact EqAt.int_int x t y u
   | str y u=>exact EqAt.int_str x t y u
   | lst e r o=>exact EqAt.int_list x t ⟨_,e,rfl,_,rfl⟩ hu
   | tup e r o=>exact EqAt.int_tuple x t ⟨_,e,rfl,_,rfl⟩ hu
  | str x t=>cases vy with
   | none=>exact EqAt.str_none x t
   | bool y=>exact EqAt.str_bool x t y
   | int y u=>exact EqAt.str_int x t y u
   | str y u=>exact EqAt.str_str x t y u
   | lst e r o=>exact EqAt.str_list x t ⟨_,e,rfl,_,rfl⟩ hu
   | tup e r o=>exact EqAt.str_tuple x t ⟨_,e,rfl,_,rfl⟩ hu
  | @lst l1 _ _ _ _ e r o=>cases vy with
   | none=>exact EqAt.list_none  ⟨_,e,rfl,_,rfl⟩ hu
   | bool y=>exact EqAt.list_bool y ⟨_,e,rfl,_,rfl⟩ hu
   | int y u=>exact EqAt.list_int y u ⟨_,e,rfl,_,rfl⟩ hu
   | str y u=>exact EqAt.list_str y u ⟨_,e,rfl,_,rfl⟩ hu
   | tup e' r' o'=>exact EqAt.list_tuple ⟨_,e,rfl,_,rfl⟩ ⟨_,e',rfl,_,rfl⟩ hu
   | @lst l2 _ _ _ _ e' r' o'=>
    by_cases hll:l1=l2
    ·exact zdW S hll (.lst e r o) (.lst e' r' o')
    ·exact EqAt.of_refs hll (zg7 e r o e' r' o' hu he)
  | @tup l1 _ _ _ _ e r o=>cases vy with
   | none=>exact EqAt.tuple_none  ⟨_,e,rfl,_,rfl⟩ hu
   | bool y=>exact EqAt.tuple_bool y ⟨_,e,rfl,_,rfl⟩ hu
   | int y u=>exact EqAt.tuple_int y u ⟨_,e,rfl,_,rfl⟩ hu
   | str y u=>exact EqAt.tuple_str y u ⟨_,e,rfl,_,rfl⟩ hu
   | lst e' r' o'=>exact EqAt.tuple_list ⟨_,e,rfl,_,rfl⟩ ⟨_,e',rfl,_,rfl⟩ hu
   | @tup l2 _ _ _ _ e' r' o'=>
    by_cases hll:l1=l2
    ·exact zdW S hll (.tup e r o) (.tup e' r' o')
    ·exact EqAt.of_refs hll (zfm e r o e' r' o' hu he)
theorem zkS{x y:PV}{u v:Value}(vx:View s.heap ι σ n x u)(vy:View s.heap ι σ m y v)(hu:A.units<cLine)
  (he:∀{a b x y:PV}{u v:Value},Rep s.heap ι σ a u→Rep s.heap ι σ b v→whole σ n a=some x→whole σ m b=some y→EqAt A.in1 s u v (eqv x y)):RcAt A s u v (eqv x y):=by
  cases vx with
  | none=>cases vy with
   | none=>exact RcAt.none_none
   | bool y=>exact RcAt.none_bool  y
   | int y u=>exact RcAt.none_int  y u
   | str y u=>exact RcAt.none_str  y u
   | lst e r o=>exact RcAt.none_list  ⟨_,e,rfl,_,rfl⟩ hu
   | tup e r o=>exact RcAt.none_tuple  ⟨_,e,rfl,_,rfl⟩ hu
  | bool x=>cases vy with
   | none=>exact RcAt.bool_none x
   | bool y=>exact RcAt.bool_bool x y
   | int y u=>exact RcAt.bool_int x y u
   | str y u=>exact RcAt.bool_str x y u
   | lst e r o=>exact RcAt.bool_list x ⟨_,e,rfl,_,rfl⟩ hu
   | tup e r o=>exact RcAt.bool_tuple x ⟨_,e,rfl,_,rfl⟩ hu
  | int x t=>cases vy with
   | none=>exact RcAt.int_none x t
   | bool y=>exact RcAt.int_bool x t y
   | int y u=>exact RcAt.int_int x t y u
   | str y u=>exact RcAt.int_str x t y u
   | lst e r o=>exact RcAt.int_list x t ⟨_,e,rfl,_,rfl⟩ hu
   | tup e r o=>exact RcAt.int_tuple x t ⟨_,e,rfl,_,rfl⟩ hu
  | str x t=>cases vy with
   | none=>exact RcAt.str_none x t
   | bool y=>exact RcAt.str_bool x t y
   | int y u=>exact RcAt.str_int x t y u
   | str y u=>exact RcAt.str_str x t y u
   | lst e r o=>exact RcAt.str_list x t ⟨_,e,rfl,_,rfl⟩ hu
   | tup e r o=>exact RcAt.str_tuple x t ⟨_,e,rfl,_,rfl⟩ hu
  | lst e r o=>cases vy with
   | none=>exact RcAt.list_none  ⟨_,e,rfl,_,rfl⟩ hu
   | bool y=>exact RcAt.list_bool y ⟨_,e,rfl,_,rfl⟩ hu
   | int y u=>exact RcAt.list_int y u ⟨_,e,rfl,_,rfl⟩ hu
   | str y u=>exact RcAt.list_str y u ⟨_,e,rfl,_,rfl⟩ hu
   | tup e' r' o'=>exact RcAt.list_tuple ⟨_,e,rfl,_,rfl⟩ ⟨_,e',rfl,_,rfl⟩ hu
   | lst e' r' o'=>exact zg7 e r o e' r' o' hu he
  | tup e r o=>cases vy with
   | none=>exact RcAt.tuple_none  ⟨_,e,rfl,_,rfl⟩ hu
   | bool y=>exact RcAt.tuple_bool y ⟨_,e,rfl,_,rfl⟩ hu
   | int y u=>exact RcAt.tuple_int y u ⟨_,e,rfl,_,rfl⟩ hu
   | str y u=>exact RcAt.tuple_str y u ⟨_,e,rfl,_,rfl⟩ hu
   | lst e' r' o'=>exact RcAt.tuple_list ⟨_,e,rfl,_,rfl⟩ ⟨_,e',rfl,_,rfl⟩ hu
   | tup e' r' o'=>exact zfm e r o e' r' o' hu he
theorem zkR{l l':Addr}{vs vs':Array Value}{k k':Nat}{xs zs xs' zs':List PV} (e:s.heap.get? l=some { cls:=.type "list",data:=.seq vs k }) (r:RepL s.heap ι σ xs vs.toList) (o:zal (whole σ n) xs=some zs)
  (e':s.heap.get? l'=some { cls:=.type "list",data:=.seq vs' k' }) (r':RepL s.heap ι σ xs' vs'.toList) (o':zal (whole σ m) xs'=some zs') (hu:A.units<cLine)
  (he:∀{a b x y:PV}{u v:Value},Rep s.heap ι σ a u→Rep s.heap ι σ b v→whole σ n a=some x→whole σ m b=some y→EqAt A.in1 s u v (eqv x y)):RcNeAt A s (.ref l) (.ref l') (!eqv (.lst zs) (.lst zs')):=by
 have hl:s.heap.IsList l vs:=⟨_,e,rfl,_,rfl⟩
 have hl':s.heap.IsList l' vs':=⟨_,e',rfl,_,rfl⟩
 have n1:zs.length=vs.size:=(zau o).trans r.length
 have n2:zs'.length=vs'.size:=(zau o').trans r'.length
 show RcNeAt A s (.ref l) (.ref l') (!eqvs zs zs')
 have he':∀ j (j1:j<vs.size) (j2:j<vs'.size),EqAt A.in1 s vs[j] vs'[j] (zg8 zs zs' j):=fun j j1 j2=>by
  obtain ⟨x,y,h1,h2,h3⟩:=zey (s:=s) (P:=fun x y u v=>EqAt A.in1 s u v (eqv x y)) he r r' o o' j (by simpa using j1) (by simpa using j2)
  rw [zed h1 h2];simpa using h3
 by_cases hsz:vs.size=vs'.size
 ·rw [← zb6 (by omega:zs.length=zs'.length),n1]
  exact RcNeAt.lists hl hl' hsz hu he'
 ·rw [zbQ (by omega:zs.length≠zs'.length)]
  exact RcNeAt.lists_lengths hl hl' (by simpa using hsz) hu
theorem zjB{l l':Addr}{vs vs':Array Value}{k k':Nat}{xs zs xs' zs':List PV} (e:s.heap.get? l=some { cls:=.type "tuple",data:=.seq vs k }) (r:RepL s.heap ι σ xs vs.toList) (o:zal (whole σ n) xs=some zs)
  (e':s.heap.get? l'=some { cls:=.type "tuple",data:=.seq vs' k' }) (r':RepL s.heap ι σ xs' vs'.toList) (o':zal (whole σ m) xs'=some zs') (hu:A.units<cLine)
  (he:∀{a b x y:PV}{u v:Value},Rep s.heap ι σ a u→Rep s.heap ι σ b v→whole σ n a=some x→whole σ m b=some y→EqAt A.in1 s u v (eqv x y)):RcNeAt A s (.ref l) (.ref l') (!eqv (.tup zs) (.tup zs')):=by
 have hl:s.heap.IsTuple l vs:=⟨_,e,rfl,_,rfl⟩
 have hl':s.heap.IsTuple l' vs':=⟨_,e',rfl,_,rfl⟩
 have n1:zs.length=vs.size:=(zau o).trans r.length
 have n2:zs'.length=vs'.size:=(zau o').trans r'.length
 show RcNeAt A s (.ref l) (.ref l') (!eqvs zs zs')
 have he':∀ j (j1:j<vs.size) (j2:j<vs'.size),EqAt A.in1 s vs[j] vs'[j] (zg8 zs zs' j):=fun j j1 j2=>by
  obtain ⟨x,y,h1,h2,h3⟩:=zey (s:=s) (P:=fun x y u v=>EqAt A.in1 s u v (eqv x y)) he r r' o o' j (by simpa using j1) (by simpa using j2)
  rw [zed h1 h2];simpa using h3
 rw [← zeL zs zs',n1,n2]
 exact RcNeAt.tuples hl hl' hu he'
theorem zkQ{x y:PV}{u v:Value}(vx:View s.heap ι σ n x u)(vy:View s.heap ι σ m y v)(hu:A.units<cLine)
  (he:∀{a b x y:PV}{u v:Value},Rep s.heap ι σ a u→Rep s.heap ι σ b v→whole σ n a=some x→whole σ m b=some y→EqAt A.in1 s u v (eqv x y)):RcNeAt A s u v (!eqv x y):=by
  cases vx with
  | none=>cases vy with
   | none=>exact RcNeAt.none_none
   | bool y=>exact RcNeAt.none_bool  y
   | int y u=>exact RcNeAt.none_int  y u
   | str y u=>exact RcNeAt.none_str  y u
   | lst e r o=>exact RcNeAt.none_list  ⟨_,e,rfl,_,rfl⟩ hu
   | tup e r o=>exact RcNeAt.none_tuple  ⟨_,e,rfl,_,rfl⟩ hu
  | bool x=>cases vy with
   | none=>exact RcNeAt.bool_none x
   | bool y=>exact RcNeAt.bool_bool x y
   | int y u=>exact RcNeAt.bool_int x y u
   | str y u=>exact RcNeAt.bool_str x y u
   | lst e r o=>exact RcNeAt.bool_list x ⟨_,e,rfl,_,rfl⟩ hu
   | tup e r o=>exact RcNeAt.bool_tuple x ⟨_,e,rfl,_,rfl⟩ hu
  | int x t=>cases vy with
   | none=>exact RcNeAt.int_none x t
   | bool y=>exact RcNeAt.int_bool x t y
   | int y u=>exact RcNeAt.int_int x t y u
   | str y u=>exact RcNeAt.int_str x t y u
   | lst e r o=>exact RcNeAt.int_list x t ⟨_,e,rfl,_,rfl⟩ hu
   | tup e r o=>exact RcNeAt.int_tuple x t ⟨_,e,rfl,_,rfl⟩ hu
  | str x t=>cases vy with
   | none=>exact RcNeAt.str_none x t
   | bool y=>exact RcNeAt.str_bool x t y
   | int y u=>exact RcNeAt.str_int x t y u
   | str y u=>exact RcNeAt.str_str x t y u
   | lst e r o=>exact RcNeAt.str_list x t ⟨_,e,rfl,_,rfl⟩ hu
   | tup e r o=>exact RcNeAt.str_tuple x t ⟨_,e,rfl,_,rfl⟩ hu
  | lst e r o=>cases vy with
   | none=>exact RcNeAt.list_none  ⟨_,e,rfl,_,rfl⟩ hu
   | bool y=>exact RcNeAt.list_bool y ⟨_,e,rfl,_,rfl⟩ hu
   | int y u=>exact RcNeAt.list_int y u ⟨_,e,rfl,_,rfl⟩ hu
   | str y u=>exact RcNeAt.list_str y u ⟨_,e,rfl,_,rfl⟩ hu
   | tup e' r' o'=>exact RcNeAt.list_tuple ⟨_,e,rfl,_,rfl⟩ ⟨_,e',rfl,_,rfl⟩ hu
   | lst e' r' o'=>exact zkR e r o e' r' o' hu he
  | tup e r o=>cases vy with
   | none=>exact RcNeAt.tuple_none  ⟨_,e,rfl,_,rfl⟩ hu
   | bool y=>exact RcNeAt.tuple_bool y ⟨_,e,rfl,_,rfl⟩ hu
   | int y u=>exact RcNeAt.tuple_int y u ⟨_,e,rfl,_,rfl⟩ hu
   | str y u=>exact RcNeAt.tuple_str y u ⟨_,e,rfl,_,rfl⟩ hu
   | lst e' r' o'=>exact RcNeAt.tuple_list ⟨_,e,rfl,_,rfl⟩ ⟨_,e',rfl,_,rfl⟩ hu
   | tup e' r' o'=>exact zjB e r o e' r' o' hu he
theorem zbR(S:StoreOk prog w hB s.heap ι σ):∀(n m:Nat)(A:Around){a b x y:PV}{u v:Value},Rep s.heap ι σ a u→Rep s.heap ι σ b v→whole σ n a=some x→whole σ m b=some y→A.units+n<cLine+1→EqAt A s u v (eqv x y)
 | 0,_,_,_,_,_,_,_,_,_,_,e,_,_=>by simp only [whole] at e;cases e
 | _+1,0,_,_,_,_,_,_,_,_,_,_,e,_=>by simp only [whole] at e;cases e
 | n+1,m+1,A,_,_,_,_,_,_,ra,rb,ea,eb,hu=>zlP S (view S ra ea) (view S rb eb) (by omega) fun r1 r2 e1 e2=>zbR S n m A.in1 r1 r2 e1 e2 (by rw [Around.in1_units];omega)
theorem zjC(S:StoreOk prog w hB s.heap ι σ):∀(n m:Nat)(A:Around){a b x y:PV}{u v:Value},Rep s.heap ι σ a u→Rep s.heap ι σ b v→whole σ n a=some x→whole σ m b=some y→A.units+n<cLine+1→RcAt A s u v (eqv x y)
 | 0,_,_,_,_,_,_,_,_,_,_,e,_,_=>by simp only [whole] at e;cases e
 | _+1,0,_,_,_,_,_,_,_,_,_,_,e,_=>by simp only [whole] at e;cases e
 | n+1,m+1,A,_,_,_,_,_,_,ra,rb,ea,eb,hu=>zkS (view S ra ea) (view S rb eb) (by omega) fun r1 r2 e1 e2=>zbR S n m A.in1 r1 r2 e1 e2 (by rw [Around.in1_units];omega)
theorem zjA(S:StoreOk prog w hB s.heap ι σ):∀(n m:Nat)(A:Around){a b x y:PV}{u v:Value},Rep s.heap ι σ a u→Rep s.heap ι σ b v→whole σ n a=some x→whole σ m b=some y→A.units+n<cLine+1→RcNeAt A s u v (!eqv x y)
 | 0,_,_,_,_,_,_,_,_,_,_,e,_,_=>by simp only [whole] at e;cases e
 | _+1,0,_,_,_,_,_,_,_,_,_,_,e,_=>by simp only [whole] at e;cases e
 | n+1,m+1,A,_,_,_,_,_,_,ra,rb,ea,eb,hu=>zkQ (view S ra ea) (view S rb eb) (by omega) fun r1 r2 e1 e2=>zbR S n m A.in1 r1 r2 e1 e2 (by rw [Around.in1_units];omega)
end
end Mine
namespace Mine
open PySem PySem.SeqAt PySem.W
section
variable {prog:Program} {w:World} {hB:Heap} {A:Around} {s:Shared} {ι:Ad} {σ:zaa}
theorem zbo(a:PV):(∃ x,wholeM a σ=.ok x σ∧whole σ zai a=some x)∨wholeM a σ=.stuck:=by
 unfold wholeM
 cases h:whole σ zai a with
 | none=>exact .inr rfl
 | some x=>exact .inl ⟨x,rfl,rfl⟩
theorem zbS(a:List PV):(∃ x,zbT a σ=.ok x σ∧zal (whole σ zai) a=some x)∨zbT a σ=.stuck:=by
 unfold zbT
 cases h:zal (whole σ zai) a with
 | none=>exact .inr rfl
 | some x=>exact .inl ⟨x,rfl,rfl⟩
theorem zah{α β γ:Type}(x:M α)(f:α→M β)(g:β→M γ):((x.bind f).bind g) σ=(x.bind fun a=>(f a).bind g) σ:=by
 unfold M.bind
 cases x σ <;> rfl
open Classical in
noncomputable def hitE(h:Heap)(ι:Ad)(σ:zaa)(n:Nat)(x':PV)(y:Value):Bool:=decide (∃ a z,Rep h ι σ a y∧whole σ n a=some z∧eqv z x'=true)
open Classical in
theorem zlG(S:StoreOk prog w hB s.heap ι σ){n:Nat}{x' a z:PV}{y:Value}(r:Rep s.heap ι σ a y)(e:whole σ n a=some z):hitE s.heap ι σ n x' y=eqv z x':=by
 unfold hitE
 cases n with
 | zero=>cases e
 | succ n=>
  by_cases h:eqv z x'=true
  ·rw [h];exact decide_eq_true ⟨a,z,r,e,h⟩
  ·rw [Bool.not_eq_true] at h
   rw [h]
   refine decide_eq_false ?_
   rintro ⟨b,u,r',e',h'⟩
   rw [zgO S n n (view S r' e') (view S r e),h] at h'
   cases h'
theorem hits(S:StoreOk prog w hB s.heap ι σ){n:Nat}{x':PV}:∀{xs zs:List PV}{vs:List Value},RepL s.heap ι σ xs vs→zal (whole σ n) xs=some zs→vs.map (hitE s.heap ι σ n x')=zs.map fun z=>eqv z x'
 | _,_,_,.nil,e=>by cases e;rfl
 | _,_,_,.cons r rs,e=>by
  obtain ⟨y,ys,h1,h2,rfl⟩:=zaI e
  rw [List.map_cons,List.map_cons,zlG S r h1,hits S rs h2]
theorem ziN(S:StoreOk prog w hB s.heap ι σ){n m:Nat}{x x':PV}{u:Value}(rx:Rep s.heap ι σ x u)(ex:whole σ m x=some x')(hu:A.units+n<cLine+1) :
  ∀{xs zs:List PV}{vs:List Value},RepL s.heap ι σ xs vs→zal (whole σ n) xs=some zs→∀ y∈vs,EqAt A s y u (hitE s.heap ι σ n x' y)
 | _,_,_,.nil,_,_,h=>nomatch h
 | _,_,_,.cons r rs,e,y,h=>by
  obtain ⟨z,zs,h1,h2,rfl⟩:=zaI e
  rcases List.mem_cons.mp h with rfl | h
  ·rw [zlG S r h1];exact zbR S n m A r rx h1 ex hu
  ·exact ziN S rx ex hu rs h2 y h
theorem znj(S:StoreOk prog w hB s.heap ι σ){n:Nat}{x':PV}{xs zs:List PV}{vs:Array Value}(r:RepL s.heap ι σ xs vs.toList)(e:zal (whole σ n) xs=some zs):vs.any (hitE s.heap ι σ n x')=zs.any fun z=>eqv z x':=by
 have:=hits S (x':=x') r e
 rw [← Array.any_toList]
 have h1:vs.toList.any (hitE s.heap ι σ n x')=(vs.toList.map (hitE s.heap ι σ n x')).any id:=by rw [List.any_map];rfl
 have h2:(zs.any fun z=>eqv z x')=(zs.map fun z=>eqv z x').any id:=by rw [List.any_map];rfl
 rw [h1,h2,this]
theorem zg1{x:PV}{ys:List PV}{u:Value}{t:Sem Value}{f:Bool→Bool}(S:StoreOk prog w hB s.heap ι σ)(B:hB.StaysIn s.heap)(rx:Rep s.heap ι σ x u){vs:Array Value}(ry:RepL s.heap ι σ ys vs.toList)(hu:A.units+600<cLine)
  (h:∀(e:Value→Bool),(∀ y,y∈vs→EqAt A.in1 s y u (e y))→∀ Q E,Q (.bool (f (vs.any e))) s→wpAny (model prog w) A t Q E s) :
  SimV prog w hB A t ((zil x ys).bind fun r=>M.ret (.bool (f r))) s ι σ:=by
 refine Sim.res ?_ (zah _ _ _)
 refine Sim.part (fun x'=>whole σ zai x=some x') (zbo x) fun x' h1=>?_
 refine Sim.res ?_ (zah _ _ _)
 refine Sim.part (fun zs=>zal (whole σ zai) ys=some zs) (zbS ys) fun zs k1=>?_
 refine Sim.val S B rfl fun Q E hq=>h (hitE s.heap ι σ zai x') (fun y hy=>?_) Q E ?_
 ·exact ziN S rx h1 (by rw [Around.in1_units];show A.units+1+500<cLine+1;omega) ry k1 y (Array.mem_def.mp hy)
 ·rw [znj S ry k1];exact hq _ s.toks (.bool _)
theorem zn6{x c:PV}{u v:Value}(S:StoreOk prog w hB s.heap ι σ)(B:hB.StaysIn s.heap)(rx:Rep s.heap ι σ x u)(rc:Rep s.heap ι σ c v)(hu:A.units+600<cLine) :
  SimV prog w hB A (compareOp .In u v) ((items c).bind fun xs=>(zil x xs).bind fun r=>M.ret (.bool r)) s ι σ∧SimV prog w hB A (compareOp .NotIn u v) ((items c).bind fun xs=>(zil x xs).bind fun r=>M.ret (.bool !r)) s ι σ:=by
 constructor
 ·refine Sim.items S rc fun xs l vs n e rl=>zg1 (f:=id) S B rx rl hu fun e' he Q E hq=>?_
  exact e.elim (fun e=>in_listAt e' ⟨_,e,rfl,_,rfl⟩ he hq) fun e=>in_tupleAt e' ⟨_,e.1,rfl,_,rfl⟩ he hq
 ·refine Sim.items S rc fun xs l vs n e rl=>zg1 (f:=not) S B rx rl hu fun e' he Q E hq=>?_
  exact e.elim (fun e=>notIn_listAt e' ⟨_,e,rfl,_,rfl⟩ he hq) fun e=>notIn_tupleAt e' ⟨_,e.1,rfl,_,rfl⟩ he hq
theorem zfo{α β:Type}(x:PV)(k:Str→M α)(f:α→M β):(onStr x k).bind f σ=onStr x (fun y=>(k y).bind f) σ:=by cases x <;> rfl
theorem zno{x c:PV}{u v:Value}(S:StoreOk prog w hB s.heap ι σ)(B:hB.StaysIn s.heap)(rx:Rep s.heap ι σ x u)(rc:Rep s.heap ι σ c v)(hu:A.units+600<cLine) :
  SimV prog w hB A (compareOp .In u v) ((inOp x c).bind fun r=>M.ret (.bool r)) s ι σ∧SimV prog w hB A (compareOp .NotIn u v) ((inOp x c).bind fun r=>M.ret (.bool !r)) s ι σ:=by
 have o:=zn6 S B rx rc hu
 have o:inOp x c=(items c).bind (fun xs=>zil x xs)→SimV prog w hB A (compareOp .In u v) ((inOp x c).bind fun r=>M.ret (.bool r)) s ι σ∧SimV prog w hB A (compareOp .NotIn u v) ((inOp x c).bind fun r=>M.ret (.bool !r)) s ι σ:=fun q=>And.intro (o.1.res (by rw [q];exact zah _ _ _)) (o.2.res (by rw [q];exact zah _ _ _))
 cases c with
 | str y=>
  obtain ⟨t,rfl⟩:=rc.inv
  constructor
  ·refine Sim.res ?_ (zfo x (fun s=>M.ret (zjc s y)) _)
   exact Sim.onStr (t:=fun u=>compareOp .In u (.str y t)) rx fun z t'=>Sim.val S B rfl fun Q E h=>P.in_str (h _ s.toks (.bool _))
  ·refine Sim.res ?_ (zfo x (fun s=>M.ret (zjc s y)) _)
   exact Sim.onStr (t:=fun u=>compareOp .NotIn u (.str y t)) rx fun z t'=>Sim.val S B rfl fun Q E h=>P.notIn_str (h _ s.toks (.bool _))
 | _=>exact o rfl
theorem zgi{b:PV}{y:Value}(rb:Rep s.heap ι σ b y):plainIs .none y=true∧(Value.none==y)=zgk b∧plainIs y .none=true∧(y==Value.none)=zgk b:=by
 cases b with
 | none=>cases rb.inv;exact ⟨rfl,rfl,rfl,rfl⟩
 | bool _=>cases rb.inv;exact ⟨rfl,rfl,rfl,rfl⟩
 | int _=>obtain ⟨_,rfl⟩:=rb.inv;exact ⟨rfl,rfl,rfl,rfl⟩
 | str _=>obtain ⟨_,rfl⟩:=rb.inv;exact ⟨rfl,rfl,rfl,rfl⟩
 | tup _=>obtain ⟨_,_,_,rfl,_⟩:=rb.inv;exact ⟨rfl,rfl,rfl,rfl⟩
 | lst _=>obtain ⟨_,_,_,rfl,_⟩:=rb.inv;exact ⟨rfl,rfl,rfl,rfl⟩
 | ref _=>obtain ⟨_,rfl,_⟩:=rb.inv;exact ⟨rfl,rfl,rfl,rfl⟩
 | exc _=>obtain ⟨_,_,_,rfl,_⟩:=rb.inv;exact ⟨rfl,rfl,rfl,rfl⟩
theorem zgj{b:PV}{y:Value}(p:Bool)(rb:Rep s.heap ι σ b y):plainIs (.bool p) y=true∧(Value.bool p==y)=zgm p b∧plainIs y (.bool p)=true∧(y==Value.bool p)=zgm p b:=by
 cases b with
 | none=>cases rb.inv;exact ⟨rfl,rfl,rfl,rfl⟩
 | bool q=>cases rb.inv;cases p <;> cases q <;> exact ⟨rfl,rfl,rfl,rfl⟩
 | int _=>obtain ⟨_,rfl⟩:=rb.inv;exact ⟨rfl,rfl,rfl,rfl⟩
 | str _=>obtain ⟨_,rfl⟩:=rb.inv;exact ⟨rfl,rfl,rfl,rfl⟩
 | tup _=>obtain ⟨_,_,_,rfl,_⟩:=rb.inv;exact ⟨rfl,rfl,rfl,rfl⟩
 | lst _=>obtain ⟨_,_,_,rfl,_⟩:=rb.inv;exact ⟨rfl,rfl,rfl,rfl⟩
 | ref _=>obtain ⟨_,rfl,_⟩:=rb.inv;exact ⟨rfl,rfl,rfl,rfl⟩
 | exc _=>obtain ⟨_,_,_,rfl,_⟩:=rb.inv;exact ⟨rfl,rfl,rfl,rfl⟩
theorem zeg{a b:PV}{x y:Value}{r:Bool}(ra:Rep s.heap ι σ a x)(rb:Rep s.heap ι σ b y)(e:zeh a b=some r):plainIs x y=true∧(x==y)=r:=by
 have o:zeh a b=ziJ b→zgk a=false→(∀ p,zgm p a=false)→plainIs x y=true∧(x==y)=r:=by
  intro q h1 h2
  rw [q] at e
  cases b with
  | none=>cases rb.inv;cases e;exact ⟨(zgi ra).2.2.1,(zgi ra).2.2.2.trans h1⟩
  | bool p=>cases rb.inv;cases e;exact ⟨(zgj p ra).2.2.1,(zgj p ra).2.2.2.trans (h2 p)⟩
  | _=>cases e
 cases a with
 | none=>cases ra.inv;cases e;exact ⟨(zgi rb).1,(zgi rb).2.1⟩
 | bool p=>cases ra.inv;cases e;exact ⟨(zgj p rb).1,(zgj p rb).2.1⟩
 | _=>exact o rfl rfl fun _=>rfl
theorem zcW{h:Heap}{k:Str}:∀{kvs:List (Str×PV)}{ys:List (Str×Value)}{z:PV},ys.map (·.1)=kvs.map (·.1)→RepL h ι σ (kvs.map (·.2)) (ys.map (·.2))→dat kvs k=some z→∃ v,valueAt ys k=some v∧Rep h ι σ z v
 | [],_,_,_,_,e=>by simp [dat] at e
 | (k',v')::r,[],_,e,_,_=>by simp at e
 | (k',v')::r,(j,y)::ys,z,e,rl,hz=>by
  simp only [List.map_cons,List.cons.injEq] at e rl
  obtain ⟨rfl,e⟩:=e
  cases rl with
  | cons r1 rs=>
   by_cases q:j=k
   ·subst q
    simp [dat] at hz;subst hz
    exact ⟨y,by simp [valueAt],r1⟩
   ·have:dat r k=some z:=by simpa [dat,q] using hz
    obtain ⟨v,h1,h2⟩:=zcW e rs this
    exact ⟨v,by simpa [valueAt,q] using h1,h2⟩
theorem zej{k:Str}:∀{kvs:List (Str×PV)}{ys:List (Str×Value)},ys.map (·.1)=kvs.map (·.1)→dat kvs k=none→valueAt ys k=none
 | [],[],_,_=>rfl
 | [],_::_,e,_=>by simp at e
 | (k',v')::r,[],e,_=>by simp at e
 | (k',v')::r,(j,y)::ys,e,hz=>by
  simp only [List.map_cons,List.cons.injEq] at e
  obtain ⟨rfl,e⟩:=e
  by_cases q:j=k
  ·subst q;simp [dat] at hz
  ·have:dat r k=none:=by simpa [dat,q] using hz
   simpa [valueAt,q] using zej e this
theorem zfI(S:StoreOk prog w hB s.heap ι σ){a:PV}{x:Value}{kvs:List (Str×PV)}(r:Rep s.heap ι σ a x)(h:zlS σ a=some kvs) :
  ∃ d ys,x=.ref d∧(d==sysModules)=false∧s.heap.DictOf (PySem.strKind prog w) d ys∧ys.map (·.1)=kvs.map (·.1)∧RepL s.heap ι σ (kvs.map (·.2)) (ys.map (·.2)):=by
 cases a with
 | ref i=>
  obtain ⟨d,e,hi⟩:=r.inv
  have h:znL σ[i]?=some kvs:=h
  cases hc:σ[i]? with
  | none=>rw [hc] at h;cases h
  | some c=>
   cases c with
   | dict kvs'=>
    rw [hc] at h;cases h
    obtain ⟨ys,hd,h1,h2⟩:=S.ok _ _ _ hi hc
    exact ⟨d,ys,e,zdQ S (List.mem_of_getElem? hi),hd,h1,h2⟩
   | _=>rw [hc] at h;cases h
 | _=>cases h
theorem zff{v:PV}(h:ze8 v=true):whole σ 1 v=some v:=by
 cases v <;> first | rfl | cases h
theorem zfH(S:StoreOk prog w hB s.heap ι σ){b:List (Str×PV)}{yb:List (Str×Value)}(kb:yb.map (·.1)=b.map (·.1)) (rb:RepL s.heap ι σ (b.map (·.2)) (yb.map (·.2))) (fb:b.all (fun kv=>ze8 kv.2)=true) (hu:A.units+1<cLine+1) :
  ∀(a:List (Str×PV))(ya:List (Str×Value)),ya.map (·.1)=a.map (·.1)→RepL s.heap ι σ (a.map (·.2)) (ya.map (·.2))→a.all (fun kv=>ze8 kv.2)=true→KeqHits A s yb ya (zig b a)
 | [],ya,k,_,_=>by
  have:ya=[]:=by simpa using k
  subst this;exact .nil
 | (k,v)::a,ya,hk,hr,hf=>by
  cases ya with
  | nil=>simp at hk
  | cons y ya=>
   obtain ⟨k',x⟩:=y
   simp only [List.map_cons,List.cons.injEq] at hk
   obtain ⟨hkk,hk⟩:=hk
   subst k'
   simp only [List.all_cons,Bool.and_eq_true] at hf
   cases hr with
   | cons r rs=>
    have ih:=zfH S kb rb fb hu a ya hk rs hf.2
    unfold zig
    cases hd:dat b k with
    | none=>exact .miss (zej kb hd)
    | some z=>
     obtain ⟨u,h1,h2⟩:=zcW kb rb hd
     have hz:ze8 z=true:=by
      unfold dat at hd
      cases q:b.find? fun kv=>decide (kv.1=k) with
      | none=>rw [q] at hd;cases hd
      | some kv=>rw [q] at hd;cases hd;exact List.all_eq_true.mp fb kv (List.mem_of_find?_eq_some q)
     exact .hit h1 (zbR S 1 1 A r h2 (zff hf.1) (zff hz) hu) ih
theorem zn8{a b:PV}{t:Sem Value}{f:Bool→Bool}(S:StoreOk prog w hB s.heap ι σ)(B:hB.StaysIn s.heap)
  (h:∀ x' y',whole σ zai a=some x'→whole σ zai b=some y'→∀ Q E,Q (.bool (f (eqv x' y'))) s→wpAny (model prog w) A t Q E s):SimV prog w hB A t ((eqM a b).bind fun r=>M.ret (.bool (f r))) s ι σ:=by
 refine Sim.res ?_ (zah _ _ _)
 refine Sim.part (fun x'=>whole σ zai a=some x') (zbo a) fun x' h1=>?_
 refine Sim.res ?_ (zah _ _ _)
 refine Sim.part (fun x'=>whole σ zai b=some x') (zbo b) fun y' h2=>?_
 exact Sim.val S B rfl fun Q E hq=>h x' y' h1 h2 Q E (hq _ s.toks (.bool _))
theorem zn9{x' y':List (Str×PV)}{d e:Addr}{yx yy:List (Str×Value)}{t:Sem Value}{f:Bool→Bool}(S:StoreOk prog w hB s.heap ι σ)(B:hB.StaysIn s.heap)(hu:A.units+600<cLine)(kx:yx.map (·.1)=x'.map (·.1)) (rx:RepL s.heap ι σ (x'.map (·.2)) (yx.map (·.2))) (ky:yy.map (·.1)=y'.map (·.1)) (ry:RepL s.heap ι σ (y'.map (·.2)) (yy.map (·.2)))
  (h:KeqHits A.in1 s yy yx (zig y' x')→∀ Q E,Q (.bool (f (yx.length==yy.length&&zig y' x'))) s→wpAny (model prog w) A t Q E s):SimV prog w hB A t ((eqD x' y').bind fun r=>M.ret (.bool (f r))) s ι σ:=by
 have l1:yx.length=x'.length:=by have:=congrArg List.length kx;rwa [List.length_map,List.length_map] at this
 have l2:yy.length=y'.length:=by have:=congrArg List.length ky;rwa [List.length_map,List.length_map] at this
 rw [l1,l2] at h
 by_cases hf:(x'.all (fun kv=>ze8 kv.2)&&y'.all (fun kv=>ze8 kv.2))=true
 ·have hf':=Bool.and_eq_true_iff.mp hf
  have e1:eqD x' y' σ=.ok (x'.length==y'.length&&zig y' x') σ:=by unfold eqD;rw [hf];rfl
  exact Sim.val S B (zab e1) fun Q E hq=>h (zfH (A:=A.in1) S ky ry hf'.2 (by rw [Around.in1_units];omega) x' yx kx rx hf'.1) Q E (hq _ s.toks (.bool _))
 ·exact Sim.bstuck (by unfold eqD;rw [eq_false_of_ne_true hf];rfl)
theorem zkE{a b:PV}{x y:Value}{t:Sem Value}{f:Bool→Bool}(S:StoreOk prog w hB s.heap ι σ)(B:hB.StaysIn s.heap)(ra:Rep s.heap ι σ a x)(rb:Rep s.heap ι σ b y)(hu:A.units+600<cLine)
  (h:∀ x' y',whole σ zai a=some x'→whole σ zai b=some y'→∀ Q E,Q (.bool (f (eqv x' y'))) s→wpAny (model prog w) A t Q E s)
  (hd:∀{d e:Addr}{yx yy:List (Str×Value)}{r:Bool},x=.ref d→y=.ref e→(d==sysModules)=false→(e==sysModules)=false→s.heap.DictOf (PySem.strKind prog w) d yx→s.heap.DictOf (PySem.strKind prog w) e yy→KeqHits A.in1 s yy yx r→∀ Q E,Q (.bool (f (yx.length==yy.length&&r))) s→wpAny (model prog w) A t Q E s) :
  SimV prog w hB A t ((eqX a b).bind fun r=>M.ret (.bool (f r))) s ι σ:=by
 have o:eqX a b σ=eqM a b σ→SimV prog w hB A t ((eqX a b).bind fun r=>M.ret (.bool (f r))) s ι σ:=fun q=>(zn8 S B h).res (by unfold M.bind;rw [q])
 cases hx:zlS σ a with
 | none=>exact o (by unfold eqX;rw [hx])
 | some x'=>
  cases hy:zlS σ b with
  | none=>exact o (by unfold eqX;rw [hx,hy])
  | some y'=>
   obtain ⟨dx,yx,ex,lx,ddx,kx,rx⟩:=zfI S ra hx
   obtain ⟨dy,yy,ey,ly,ddy,ky,ry⟩:=zfI S rb hy
   exact (zn9 (d:=dx) (e:=dy) S B hu kx rx ky ry fun hh Q E hq=>hd ex ey lx ly ddx ddy hh Q E hq).res (by unfold M.bind;rw [show eqX a b σ=eqD x' y' σ by unfold eqX;rw [hx,hy]])
theorem zhP{op:CmpOp}{a b:PV}{x y:Value}(S:StoreOk prog w hB s.heap ι σ)(B:hB.StaysIn s.heap)(ra:Rep s.heap ι σ a x)(rb:Rep s.heap ι σ b y)(hu:A.units+600<cLine) :
  SimV prog w hB A (compareOp op x y) (zac op a b) s ι σ:=by
 have num:∀{op:CmpOp}{f:Int→Int→Bool},(∀{i j:Int}{t u:Tok} {Q E},Q (.bool (f i j)) s→wpAny (model prog w) A (compareOp op (.int i t) (.int j u)) Q E s)→
   SimV prog w hB A (compareOp op x y) (onInt a fun i=>onInt b fun j=>M.ret (.bool (f i j))) s ι σ:=fun {op f} hw=>
  Sim.onInt (t:=fun x=>compareOp op x y) ra fun i t=>Sim.onInt rb fun j u=>Sim.val S B rfl fun Q E h=>hw (h _ s.toks (.bool _))
 have fuel:A.units+zai<cLine+1:=by show A.units+500<cLine+1;omega
 have hu1:A.units+1<cLine:=by omega
 cases op with
 | Eq=>exact zkE (f:=id) S B ra rb hu (fun x' y' h1 h2 Q E hq=>zjC S zai zai A ra rb h1 h2 fuel prog w E Q hq) (fun ex ey lx ly ddx ddy hh Q E hq=>by rw [ex,ey];exact keq_eq lx ly ddx ddy (by omega) (fun _=>hh) hq)
 | NotEq=>exact zkE (f:=not) S B ra rb hu (fun x' y' h1 h2 Q E hq=>zjA S zai zai A ra rb h1 h2 fuel prog w E Q hq) (fun ex ey lx ly ddx ddy hh Q E hq=>by rw [ex,ey];exact keq_ne lx ly ddx ddy (by omega) (fun _=>hh) hq)
 | Lt=>exact num (f:=fun i j=>decide (i<j)) P.lt_int
 | LtE=>exact num (f:=fun i j=>decide (i≤j)) P.le_int
 | Gt=>exact num (f:=fun i j=>decide (j<i)) P.gt_int
 | GtE=>exact num (f:=fun i j=>decide (j≤i)) P.ge_int
 | Is=>exact Sim.lift fun r h=>Sim.val S B rfl fun Q E hq=>wpAny_is_plain (zeg ra rb h).1 (by rw [(zeg ra rb h).2];exact hq _ s.toks (.bool _))
 | IsNot=>exact Sim.lift fun r h=>Sim.val S B rfl fun Q E hq=>wpAny_isNot_plain (zeg ra rb h).1 (by rw [(zeg ra rb h).2];exact hq _ s.toks (.bool _))
 | In=>exact (zno S B ra rb hu).1
 | NotIn=>exact (zno S B ra rb hu).2
noncomputable abbrev RB:Heap→Ad→zaa→Bool→Bool→Prop:=fun _ _ _ a b=>a=b
theorem zcc{a:PV}{x:Value}(S:StoreOk prog w hB s.heap ι σ)(B:hB.StaysIn s.heap)(ra:Rep s.heap ι σ a x):Sim prog w hB A RB (truthy x) (zan a) s ι σ:=by
 cases a with
 | bool b=>cases ra.inv;exact Sim.val S B rfl fun Q E h=>wpAny_truthy_bool (h b s.toks rfl)
 | _=>exact Sim.fail
end
end Mine
namespace Mine
open PySem PySem.SeqAt PyProof.Rows
section
variable {prog:Program} {w:World} {hB:Heap} {A:Around} {s:Shared} {ι:Ad} {σ:zaa}
theorem zkk(slice:Expr)(o i:Value):subscripted slice false o i=operate [i,o] (getItem o i)∨subscripted slice false o i=operate [o,i] (getItem o i):=by
 cases slice with
 | Slice _ _ st _=>cases st with
  | none=>exact .inl rfl
  | some _=>exact .inr rfl
 | _=>exact .inr rfl
theorem zaZ{E:Value→Shared→Prop}{value slice:Expr}{o i:Value}{T id:String}{Q:Value→Shared→Prop}(hT:s.TypeIs o T)
  (hl:typeLookup (.type T) "__getitem__"=pure (some (.builtin id))) (h:wpAny (model prog w) A (getItem o i) Q E s) :
  wpAny (model prog w) A (subscriptTail value slice o i) Q E s:=by
 unfold subscriptTail
 refine wpAny_bind ?_
 rw [getitemInPython_of_ne hT.not_modules]
 refine wpAny_bind (wpAny_specialOf hT hl ?_)
 have fin:wpAny (model prog w) A (subscripted slice false o i) (fun r s₃=>wpAny (model prog w) A (letTemporaryGo value o r >>= fun _=>pure r) Q E s₃) E s:=by
  have h':=wpAny_mono (Q':=fun r s₃=>wpAny (model prog w) A (letTemporaryGo value o r >>= fun _=>pure r) Q E s₃) h (fun r s₃ h₃=>wpAny_bind (wpAny_letTemporaryGo (wpAny_pure h₃))) fun _ _ x=>x
  exact (zkk slice o i).elim (fun q=>by rw [q];exact zds h') fun q=>by rw [q];exact zds h'
 exact wpAny_pure (wpAny_bind fin)
theorem zi1{α:Type}{xs:List α}{i:Int}{x:α}(e:atI xs i=some x):∃ k,seqIndex? i xs.length=some k∧xs[k]?=some x∧-(2 ^ 62)≤i∧i≤2 ^ 62:=by
 unfold atI at e
 split at e
 ·rename_i h
  obtain ⟨k,h1,h2⟩:=Option.bind_eq_some_iff.mp e
  exact ⟨k,h1,h2,(small_iff.mp h).1,(small_iff.mp h).2⟩
 ·cases e
theorem ze5{i:Int}{n k:Nat}(h:seqIndex? i n=some k):(0≤i∧k=i.toNat)∨(i<0∧-(n:Int)≤i∧k=(i+n).toNat):=by
 have f:∀{j:Int},(if (decide (0≤j)&&decide (j<n))=true then some j.toNat else none)=some k→0≤j∧k=j.toNat:=by
  intro j h
  by_cases c:(decide (0≤j)&&decide (j<n))=true
  ·rw [if_pos c] at h;cases h;exact ⟨of_decide_eq_true (Bool.and_eq_true_iff.mp c).1,rfl⟩
  ·rw [if_neg c] at h;cases h
 have h':=f h
 by_cases q:i<0
 ·rw [if_pos q] at h';exact .inr ⟨q,by omega,h'.2⟩
 ·rw [if_neg q] at h';exact .inl h'
theorem zem{E:Value→Shared→Prop}{l:Addr}{vs:Array Value}{n:Nat}{k:Nat}{i:Int}{t:Tok}{x:Value}{Q:Value→Shared→Prop} (e:s.heap.get? l=some { cls:=.type "list",data:=.seq vs n })
  (hk:seqIndex? i vs.size=some k) (hx:vs[k]?=some x) (h1:-(2 ^ 62)≤i) (h2:i≤2 ^ 62) (h:Q x s):wpAny (model prog w) A (getItem (.ref l) (.int i t)) Q E s:=by
 have hl:s.heap.IsList l vs:=⟨_,e,rfl,_,rfl⟩
 rcases ze5 hk with ⟨q,rfl⟩ | ⟨q,q2,rfl⟩
 ·exact wpAny_getItem_list hl q (by omega) hx h
 ·exact wpAny_getItem_list_neg hl q q2 (by omega) hx h
theorem Sim.ofLift{o:Option PV}{t:Sem Value}(h:∀ z,o=some z→SimV prog w hB A t (M.ret z) s ι σ):SimV prog w hB A t (M.lift o) s ι σ:=by
 cases o with
 | none=>exact Sim.stuck rfl
 | some z=>exact h z rfl
theorem zpf{vs:Array Value}{k:Nat}{v:Value}(h:vs.toList[k]?=some v):vs[k]?=some v:=(Array.getElem?_toList ..).symm.trans h
theorem zjp{value slice:Expr}{a:PV}{x:Value}{i:Int}{t:Tok}(S:StoreOk prog w hB s.heap ι σ)(B:hB.StaysIn s.heap)(ra:Rep s.heap ι σ a x) :
  SimV prog w hB A (subscriptTail value slice x (.int i t)) (znC a i) s ι σ:=by
 have seq:SimV prog w hB A (subscriptTail value slice x (.int i t)) ((items a).bind fun xs=>M.lift (atI xs i)) s ι σ:=by
  refine Sim.items (t:=fun x=>subscriptTail value slice x (.int i t)) S ra fun xs l vs n e rl=>Sim.ofLift fun z hz=>?_
  obtain ⟨k,h1,h2,h3,h4⟩:=zi1 hz
  obtain ⟨v,hv,rv⟩:=rl.get h2
  have hv:=zpf hv
  rw [rl.length] at h1
  refine Sim.val S B rfl fun Q E hq=>?_
  rcases e with e | ⟨e,_⟩
  ·exact zaZ ⟨_,e,rfl⟩ slot_list_getitem.lookup (zem e h1 hv h3 h4 (hq _ s.toks rv))
  ·exact zaZ ⟨_,e,rfl⟩ slot_tuple_getitem.lookup (PyProof.Rows.getItem_tuple ⟨_,e,rfl,_,rfl⟩ (by omega) (by omega) h1 hv (hq _ s.toks rv))
 cases a with
 | str z=>
  obtain ⟨u,rfl⟩:=ra.inv
  refine Sim.lift fun c hz=>?_
  obtain ⟨k,h1,h2,h3,h4⟩:=zi1 hz
  refine Sim.val S B rfl fun Q E hq=>zaZ (typeIs_str s z u) F.slot_str_getitem.lookup (P.getItem_str (by rw [decide_eq_false (by omega),decide_eq_false (by omega)];rfl) ?_ (hq _ _ (.str _ _)))
  rw [show z.length=z.cps.toList.length from rfl,h1]
  exact (Array.getElem?_toList ..).symm.trans h2
 | _=>exact seq
theorem zkC{value slice:Expr}{a b:PV}{x y:Value}(S:StoreOk prog w hB s.heap ι σ)(B:hB.StaysIn s.heap)(ra:Rep s.heap ι σ a x)(rb:Rep s.heap ι σ b y) :
  SimV prog w hB A (subscriptTail value slice x y) (index a b) s ι σ:=by
 cases b with
 | int i=>obtain ⟨t,rfl⟩:=rb.inv;exact zjp S B ra
 | str k=>
  obtain ⟨t,rfl⟩:=rb.inv
  refine Sim.onRef (t:=fun x=>subscriptTail value slice x (.str k t)) ra fun i l hi=>Sim.res (Sim.cel S hi fun c hc ok=>?_) (zah _ _ _)
  cases c with
  | dict kvs=>
   obtain ⟨ys,hd,hk,rl⟩:=ok
   refine Sim.ofLift (o:=dat kvs k) fun z hz=>?_
   obtain ⟨v,hv,rv⟩:=zcW hk rl hz
   exact Sim.val S B rfl fun Q E hq=>zaZ hd.typeIs F.slot_dict_getitem.lookup (wpAny_getItem_of (strKind_is prog w k t) hd.mapOf hv (hq _ _ rv))
  | _=>exact Sim.fail
 | _=>exact Sim.fail
end
section
variable {prog:Program} {w:World} {hB:Heap} {A:Around} {s:Shared} {ι:Ad} {σ:zaa}
theorem zdo(n:Nat)(i:Int):((clip n i:Nat):Int)=max 0 (min (if i<0 then i+n else i) n):=clipAt_cast n i
theorem zo6(n:Nat)(i:Int):clip n i≤n:=by have:=zdo n i;omega
theorem zps(lo hi:Option Int)(n:Nat):Builtin.Str.strSliceIndices lo hi 1 n=(List.range (hi.elim n (clip n)-lo.elim 0 (clip n))).map ((lo.elim 0 (clip n))+·):=by
 rw [← sliceRange_one]
 unfold Builtin.Str.strSliceIndices
 cases lo with
 | none=>
  cases hi with
  | none=>simp
  | some j=>simp only [Option.elim,zdo];simp
 | some i=>
  cases hi with
  | none=>simp only [Option.elim,zdo];simp
  | some j=>simp only [Option.elim,zdo];simp
theorem zkp{α:Type}{lo hi:Option Int}{xs:List α}(h:hi.elim xs.length (clip xs.length)-lo.elim 0 (clip xs.length)=xs.length):slc lo hi xs=xs:=by
 unfold slc
 have h1:hi.elim xs.length (clip xs.length)≤xs.length:=by cases hi with | none=>exact Nat.le_refl _ | some j=>exact zo6 _ _
 by_cases h0:xs.length=0
 ·have:xs=[]:=List.length_eq_zero_iff.mp h0
  subst this;simp
 ·have h2:lo.elim 0 (clip xs.length)=0:=by omega
  rw [h,h2];simp
theorem zjP{sl:Addr}{vl vu:Value}{lo hi:Option Int}(hs:s.heap.IsSliceOf sl vl vu .none)(pl:IsPart vl lo)(pu:IsPart vu hi) :
  ∃ l u:Option (Int×Tok),s.heap.IsSlice sl l u none∧l.map (·.1)=lo∧u.map (·.1)=hi:=by
 cases pl with
 | none=>cases pu with
  | none=>exact ⟨none,none,hs,rfl,rfl⟩
  | int j u=>exact ⟨none,some (j,u),hs,rfl,rfl⟩
 | int i t=>cases pu with
  | none=>exact ⟨some (i,t),none,hs,rfl,rfl⟩
  | int j u=>exact ⟨some (i,t),some (j,u),hs,rfl,rfl⟩
theorem RepL.slc{h:Heap}{xs:List PV}{vs:List Value}(r:RepL h ι σ xs vs)(lo hi:Option Int):RepL h ι σ (slc lo hi xs) (slc lo hi vs):=by
 unfold Mine.slc
 rw [r.length]
 exact (r.drop _).take _
theorem zmB{value slice:Expr}{cx:Cx}{p:Pos}{sl:Addr}{vl vu:Value}{lo hi:Option Int}{l:Addr}{vs:Array Value}{n:Nat}{xs:List PV}(S:StoreOk prog w hB s.heap ι σ)(B:hB.StaysIn s.heap)
  (hs:s.heap.IsSliceOf sl vl vu .none) (pl:IsPart vl lo) (pu:IsPart vu hi) (e:s.heap.get? l=some { cls:=.type "list",data:=.seq vs n }) (rl:RepL s.heap ι σ xs vs.toList) (hb:xs.length≤2 ^ 20) :
  SimV prog w hB A (subscriptTail value slice (.ref l) (.ref sl)) (zaw cx p (Mine.slc lo hi xs)) s ι σ:=by
 have hsz:vs.size≤sizeLine:=Nat.le_trans (Nat.le_of_eq rl.length.symm) (Nat.le_trans hb (by decide))
 refine zbz S B (rl.slc lo hi) fun Q E k=>zaZ ⟨_,e,rfl⟩ slot_list_getitem.lookup ?_
 refine wpAny_getItem_list_slice ⟨_,e,rfl,_,rfl⟩ hs pl pu .none (fun q=>nomatch q) ?_ hsz
 have q:slicePick vs lo hi none=(Mine.slc lo hi vs.toList).toArray:=by
  rw [slicePick_plain];unfold Mine.slc;rw [Array.length_toList];rfl
 rw [q]
 exact k s.toks
theorem zjj{value slice:Expr}{cx:Cx}{p:Pos}{sl:Addr}{vl vu vk:Value}{l:Addr}{vs:Array Value}{n:Nat}{xs:List PV}(S:StoreOk prog w hB s.heap ι σ)(B:hB.StaysIn s.heap)
  (hs:s.heap.IsSliceOf sl vl vu vk) (pl:IsPart vl none) (pu:IsPart vu none) (pk:IsPart vk (some (-1))) (e:s.heap.get? l=some { cls:=.type "list",data:=.seq vs n }) (rl:RepL s.heap ι σ xs vs.toList) (hb:xs.length≤2 ^ 20) :
  SimV prog w hB A (subscriptTail value slice (.ref l) (.ref sl)) (zaw cx p xs.reverse) s ι σ:=by
 have hsz:vs.size≤sizeLine:=Nat.le_trans (Nat.le_of_eq rl.length.symm) (Nat.le_trans hb (by decide))
 refine zbz S B rl.reverse fun Q E k=>zaZ ⟨_,e,rfl⟩ slot_list_getitem.lookup ?_
 refine wpAny_getItem_list_slice ⟨_,e,rfl,_,rfl⟩ hs pl pu pk (by decide) ?_ hsz
 rw [PySem.W.krv_pick]
 exact k s.toks
theorem zn3{value slice:Expr}{cx:Cx}{p:Pos}{a:PV}{x:Value}{sl:Addr}{vl vu vk:Value}{k:Option Int}(S:StoreOk prog w hB s.heap ι σ)(B:hB.StaysIn s.heap)(ra:Rep s.heap ι σ a x)
  (hs:s.heap.IsSliceOf sl vl vu vk) (pl:IsPart vl none) (pu:IsPart vu none) (pk:IsPart vk k) :
  SimV prog w hB A (subscriptTail value slice x (.ref sl)) (revL cx p a k) s ι σ:=by
 cases k with
 | none=>exact Sim.fail
 | some i=>exact Sim.cond (fun hi=>by
   have hi:i=-1:=of_decide_eq_true hi
   subst hi
   exact Sim.litems (t:=fun x=>subscriptTail value slice x (.ref sl)) S ra fun xs l vs n e rl=>Sim.cond (fun hb=>zjj S B hs pl pu pk e rl (of_decide_eq_true hb)) fun _=>Sim.fail) fun _=>Sim.fail
theorem zmA{value slice:Expr}{z:Str}{t:Tok}{sl:Addr}{vl vu:Value}{lo hi:Option Int}(S:StoreOk prog w hB s.heap ι σ)(B:hB.StaysIn s.heap)(hs:s.heap.IsSliceOf sl vl vu .none)(pl:IsPart vl lo)(pu:IsPart vu hi)(hb:z.length≤2 ^ 20) :
  SimV prog w hB A (subscriptTail value slice (.str z t) (.ref sl)) (M.ret (.str ⟨(Mine.slc lo hi z.cps.toList).toArray⟩)) s ι σ:=by
 obtain ⟨l,u,h1,rfl,rfl⟩:=zjP hs pl pu
 refine Sim.val S B rfl fun Q E hq=>zaZ (typeIs_str s z t) F.slot_str_getitem.lookup (wpAny_getItem_str_slice h1 (by decide) ?_)
 have hn:z.cps.toList.length=z.length:=rfl
 have e1:slicePicked z l u none=(List.range ((u.map (·.1)).elim z.length (clip z.length)-(l.map (·.1)).elim 0 (clip z.length))).map (((l.map (·.1)).elim 0 (clip z.length))+·):=zps _ _ _
 have e2:(slicePicked z l u none).filterMap (z.cps[·]?)=Mine.slc (l.map (·.1)) (u.map (·.1)) z.cps.toList:=by
  rw [e1,pick_run];rfl
 unfold sliceMade
 split
 ·rename_i hc
  have hc':(slicePicked z l u none).length=z.length:=eq_of_beq hc
  rw [e1,List.length_map,List.length_range] at hc'
  exact hq _ s.toks (by rw [zkp (xs:=z.cps.toList) hc'];exact .str _ _)
 ·rw [e2]
  refine ⟨?_,hq _ _ (.str _ _)⟩
  show (Mine.slc _ _ _).toArray.size≤sizeLine
  unfold Mine.slc
  rw [List.size_toArray,List.length_take,List.length_drop]
  exact Nat.le_trans (Nat.min_le_right _ _) (Nat.le_trans (Nat.sub_le _ _) (Nat.le_trans hb (by decide)))
theorem zmz{value slice:Expr}{sl:Addr}{vl vu:Value}{lo hi:Option Int}{l:Addr}{vs:Array Value}{n:Nat}{xs:List PV}(S:StoreOk prog w hB s.heap ι σ)(B:hB.StaysIn s.heap)
  (hs:s.heap.IsSliceOf sl vl vu .none) (pl:IsPart vl lo) (pu:IsPart vu hi) (e:s.heap.get? l=some { cls:=.type "tuple",data:=.seq vs n }) (rl:RepL s.heap ι σ xs vs.toList):SimV prog w hB A (subscriptTail value slice (.ref l) (.ref sl)) (cutT xs lo hi) s ι σ:=by
 cases pl with
 | none=>exact Sim.fail
 | int i t=>
  cases pu with
  | int j u=>exact Sim.fail
  | none=>
   refine Sim.cond (fun hb=>?_) (fun _=>Sim.fail)
   rw [Bool.and_eq_true,Bool.and_eq_true] at hb
   have h1:=of_decide_eq_true hb.1.1
   have h2:=of_decide_eq_true hb.1.2
   have h3:vs.size≤sizeLine:=Nat.le_trans (Nat.le_of_eq rl.length.symm) (Nat.le_trans (of_decide_eq_true hb.2) (by decide))
   have hlen:xs.length=vs.size:=rl.length
   have hi':((i.toNat:Nat):Int)=i:=Int.toNat_of_nonneg (by omega)
   intro Q E _ hok _
   refine zaZ ⟨_,e,rfl⟩ slot_tuple_getitem.lookup (getItem_tuple_from (a:=i.toNat) (u:=t) ⟨_,e,rfl,_,rfl⟩ (by rw [hi'];exact hs) (by omega) (by omega) ?_ h3)
   exact hok _ _ rfl _ _ s.toks ι (Step.push S B _) (Rep.newTup S (rl.drop i.toNat))
theorem zoa{value slice:Expr}{cx:Cx}{p:Pos}{a:PV}{x:Value}{sl:Addr}{vl vu:Value}{lo hi:Option Int}(S:StoreOk prog w hB s.heap ι σ)(B:hB.StaysIn s.heap)(ra:Rep s.heap ι σ a x)
  (hs:s.heap.IsSliceOf sl vl vu .none) (pl:IsPart vl lo) (pu:IsPart vu hi) :
  SimV prog w hB A (subscriptTail value slice x (.ref sl)) (cut cx p false a lo hi) s ι σ:=by
 have lst:SimV prog w hB A (subscriptTail value slice x (.ref sl)) ((litems a).bind fun xs=>M.cond (decide (xs.length≤2 ^ 20)) (zaw cx p (slc lo hi xs)) M.fail) s ι σ:=
  Sim.litems (t:=fun x=>subscriptTail value slice x (.ref sl)) S ra fun xs l vs n e rl=>Sim.cond (fun hb=>zmB S B hs pl pu e rl (of_decide_eq_true hb)) fun _=>Sim.fail
 cases a with
 | str z=>obtain ⟨t,rfl⟩:=ra.inv;exact Sim.cond (fun hb=>zmA S B hs pl pu (of_decide_eq_true hb)) fun _=>Sim.fail
 | tup xs=>obtain ⟨l,vs,n,rfl,e,nl,rl⟩:=ra.inv;exact zmz S B hs pl pu e rl
 | _=>exact lst
end
section
variable {prog:Program} {w:World} {hB:Heap} {A:Around} {s:Shared} {ι:Ad} {σ:zaa}
theorem zgh{A':Around}(hh:A'.handled=none){l:Addr}{vs:Array Value}{n:Nat}
  (e:ziq s.heap ι σ l vs n)
  (Q:Value→Shared→Prop) (E:Value→Shared→Prop)
  (h:∀(o:Obj)(St:Nat→Heap→Prop),Walks prog w A' s.heap.objs.size [s.heap.objs.size,l] [s.heap.objs.size] vs.size (fun i v=>vs[i]?=some v) St→St 0 (s.heap.push o)→Q (.ref s.heap.objs.size) { s with heap:=s.heap.push o }) :
  wpAny (model prog w) A' (pyIter (.ref l)) Q E s:=by
 rcases e with e | ⟨e,_⟩
 ·have hne:l≠s.heap.objs.size:=Nat.ne_of_lt (Heap.lt_size e)
  exact wpAny_pyIter_list ⟨_,e,rfl,_,rfl⟩ (h _ _ (Walks.list hh _ l hne vs) ⟨⟨_,Heap.get?_push_size _ rfl,rfl,rfl⟩,⟨_,Heap.get?_push_of_some _ e,rfl,_,rfl⟩⟩)
 ·have hne:l≠s.heap.objs.size:=Nat.ne_of_lt (Heap.lt_size e)
  exact wpAny_pyIter_tuple ⟨_,e,rfl,_,rfl⟩ (h _ _ (Walks.tuple hh _ l hne vs) ⟨⟨_,Heap.get?_push_size _ rfl,rfl,rfl⟩,⟨_,Heap.get?_push_of_some _ e,rfl,_,rfl⟩⟩)
theorem zdD{o:Obj}{h':Heap}(hk:∀ b o',b∉[s.heap.objs.size]→(s.heap.push o).get? b=some o'→h'.get? b=some o'):∀ b o',s.heap.get? b=some o'→h'.get? b=some o':=fun b o' e=>
 hk b o' (fun hm=>absurd (Heap.lt_size e) (by rw [List.mem_singleton.mp hm];exact Nat.lt_irrefl _)) (Heap.get?_push_of_some _ e)
theorem zf6{α:Type}{o:Option (List α)}{b:α}{bs:List α}(h:zhm b o=some bs):∃ r,o=some r∧bs=b::r:=by
 cases o with
 | none=>cases h
 | some r=>cases h;exact ⟨r,rfl,rfl⟩
theorem ziZ{h:Heap}:∀{xs:List PV}{vs:List Value}{bs:List Bool},RepL h ι σ xs vs→zbE xs=some bs→bs.length=vs.length∧∀(i:Nat)(v:Value),vs[i]?=some v→v=.bool ((bs[i]?).getD false)
 | [],_,_,r,e=>by cases r;cases e;exact ⟨rfl,fun i v h=>nomatch h⟩
 | x::xs,_,bs,r,e=>by
  cases r with
  | cons r rs=>
   cases x with
   | bool b=>
    obtain ⟨r',h1,rfl⟩:=zf6 (o:=zbE xs) (b:=b) (bs:=bs) e
    obtain ⟨h2,h3⟩:=ziZ rs h1
    refine ⟨congrArg Nat.succ h2,fun i v h=>?_⟩
    cases i with
    | zero=>exact (Option.some.inj h).symm.trans r.inv
    | succ i=>exact h3 i v h
   | _=>cases e
theorem zlD{h:Heap}:∀{xs:List PV}{vs:List Value}{bs:List Int},RepL h ι σ xs vs→zd2 xs=some bs→bs.length=vs.length∧∀(i:Nat)(v:Value),vs[i]?=some v→∃(t:Tok),v=.int ((bs[i]?).getD 0) t
 | [],_,_,r,e=>by cases r;cases e;exact ⟨rfl,fun i v h=>nomatch h⟩
 | x::xs,_,bs,r,e=>by
  cases r with
  | cons r rs=>
   cases x with
   | int b=>
    obtain ⟨r',h1,rfl⟩:=zf6 (o:=zd2 xs) (b:=b) (bs:=bs) e
    obtain ⟨h2,h3⟩:=zlD rs h1
    refine ⟨congrArg Nat.succ h2,fun i v h=>?_⟩
    cases i with
    | zero=>obtain ⟨t,q⟩:=r.inv;exact ⟨t,(Option.some.inj h).symm.trans q⟩
    | succ i=>exact h3 i v h
   | _=>cases e
theorem zfX{h:Heap}:∀{xs:List PV}{vs:List Value}{ss:List Str},RepL h ι σ xs vs→zct xs=some ss→StrsAre vs ss
 | [],_,_,r,e=>by cases r;cases e;exact .nil
 | x::xs,_,bs,r,e=>by
  cases r with
  | cons r rs=>
   cases x with
   | str b=>
    obtain ⟨r',h1,rfl⟩:=zf6 (o:=zct xs) (b:=b) (bs:=bs) e
    obtain ⟨t,rfl⟩:=r.inv
    exact .cons _ _ (zfX rs h1)
   | _=>cases e
theorem zkT{bs:List Bool}(f:Nat→Bool)(hf:∀ i b,bs[i]?=some b→f i=b):(List.range bs.length).map f=bs:=by
 apply List.ext_getElem?
 intro i
 simp only [List.getElem?_map]
 by_cases h:i<bs.length
 ·rw [List.getElem?_range h,List.getElem?_eq_getElem h];simp [hf i _ (List.getElem?_eq_getElem h)]
 ·rw [List.getElem?_eq_none (by simpa using h),List.getElem?_eq_none (by simpa using h)];rfl
theorem zex:∀(ns:List Int)(val:Nat→Int)(acc:Int),(∀ i b,ns[i]?=some b→val i=b)→zd4 acc ns=true→
  ∀ j,j≤ns.length→acc+preSum val j=acc+(ns.take j).sum:=by
 intro ns val acc hv hok j hj
 congr 1
 induction j with
 | zero=>rfl
 | succ j ih=>
  have hlt:j<ns.length:=hj
  rw [preSum,ih (Nat.le_of_lt hlt),hv j ns[j] (List.getElem?_eq_getElem hlt),List.take_succ_eq_append_getElem hlt,List.sum_append,List.sum_cons,List.sum_nil,Int.add_zero]
theorem zgU:∀(ns:List Int)(acc:Int),zd4 acc ns=true→∀ j,(h:j<ns.length)→zba ns[j]=true∧zba (acc+(ns.take (j+1)).sum)=true
 | [],_,_,j,h=>absurd h (Nat.not_lt_zero _)
 | x::r,acc,e,j,h=>by
  simp only [zd4,Bool.and_eq_true] at e
  cases j with
  | zero=>simp only [List.getElem_cons_zero,Nat.zero_add,List.take_succ_cons,List.take_zero,List.sum_cons,List.sum_nil,Int.add_zero];exact ⟨e.1.1,e.1.2⟩
  | succ j=>
   have:=zgU r (acc+x) e.2 j (by simpa using h)
   simp only [List.getElem_cons_succ,List.take_succ_cons,List.sum_cons]
   rw [← Int.add_assoc];exact this
theorem zn5{v:PV}{x:Value}(S:StoreOk prog w hB s.heap ι σ)(B:hB.StaysIn s.heap)(r:Rep s.heap ι σ v x):SimV prog w hB A (call (.builtin "len") [x]) ((zou v).bind fun n=>M.ret (.int n)) s ι σ:=by
 have core:∀{n:Nat},(∀ Q E,(∀ t tk,Q (.int n t) { s with toks:=tk })→n≤2 ^ 20→wpAny (model prog w) A (call (.builtin "len") [x]) Q E s)→SimV prog w hB A (call (.builtin "len") [x]) ((zhd n).bind fun n=>M.ret (.int n)) s ι σ:=by
  intro n h
  unfold zhd
  by_cases hn:n≤2 ^ 20
  ·rw [decide_eq_true hn]
   exact Sim.val S B rfl fun Q E hq=>h Q E (fun t tk=>hq _ tk (.int _ _)) hn
  ·rw [decide_eq_false hn];exact Sim.stuck rfl
 have big:∀{n:Nat},n≤2 ^ 20→(n:Int)<2 ^ 63:=fun h=>by omega
 cases v with
 | str y=>obtain ⟨t,rfl⟩:=r.inv;exact core fun Q E hq hn=>P.len_str (by have:=big hn;omega) (hq _ _)
 | tup xs=>obtain ⟨l,vs,n,rfl,e,nl,rl⟩:=r.inv;exact core fun Q E hq hn=>by rw [rl.length] at hq hn;exact PyProof.Rows.len_tuple ⟨_,e,rfl,_,rfl⟩ (big hn) (hq _ _)
 | lst xs=>obtain ⟨l,vs,n,rfl,e,nl,rl⟩:=r.inv;exact core fun Q E hq hn=>by rw [rl.length] at hq hn;exact Calls.call_len_list ⟨_,e,rfl,_,rfl⟩ (big hn) (hq _ _)
 | ref i=>
  obtain ⟨a,rfl,hi⟩:=r.inv
  refine Sim.res (Sim.cel S hi fun c hc ok=>?_) (zah _ _ _)
  cases c with
  | list xs=>
   obtain ⟨vs,⟨n,hp⟩,rl⟩:=ok
   exact core (n:=xs.length) fun Q E hq hn=>by rw [rl.length] at hq hn;exact Calls.call_len_list ⟨_,hp,rfl,_,rfl⟩ (big hn) (hq _ _)
  | dict kvs=>
   obtain ⟨ys,hd,hk,rl⟩:=ok
   have hlen:ys.length=kvs.length:=by have:=congrArg List.length hk;rwa [List.length_map,List.length_map] at this
   refine core (n:=kvs.length) fun Q E hq hn=>?_
   rw [← hlen] at hq hn
   exact call_len_dict (zdQ S (List.mem_of_getElem? hi)) hd (big hn) (hq _ _)
  | dead=>exact Sim.fail
 | _=>exact Sim.fail
theorem zkM{v:PV}{x:Value}(S:StoreOk prog w hB s.heap ι σ)(B:hB.StaysIn s.heap)(hh:A.handled=none)(r:Rep s.heap ι σ v x) :
  SimV prog w hB A (call (.builtin "all") [x]) ((items v).bind fun xs=>(M.lift (zbE xs)).bind fun bs=>M.ret (.bool (bs.all id))) s ι σ∧SimV prog w hB A (call (.builtin "any") [x]) ((items v).bind fun xs=>(M.lift (zbE xs)).bind fun bs=>M.ret (.bool (bs.any id))) s ι σ:=by
 have core:∀{l:Addr}{vs:Array Value}{n:Nat}{xs:List PV}{bs:List Bool},ziq s.heap ι σ l vs n→RepL s.heap ι σ xs vs.toList→zbE xs=some bs→
   SimV prog w hB A (call (.builtin "all") [.ref l]) (M.ret (.bool (bs.all id))) s ι σ∧SimV prog w hB A (call (.builtin "any") [.ref l]) (M.ret (.bool (bs.any id))) s ι σ:=by
  intro l vs n xs bs e rl hb
  obtain ⟨h1,h2⟩:=ziZ rl hb
  have tr:TruthOf prog w A.in1 (fun i v=>vs[i]?=some v) (fun i=>(bs[i]?).getD false):=fun i v s' Q E hv hq=>by
   rw [h2 i v ((Array.getElem?_toList ..).trans hv)]
   exact wpAny_truthy_bool hq
  have hmap:(List.range vs.size).map (fun i=>(bs[i]?).getD false)=bs:=by
   rw [← Array.length_toList,← h1]
   exact zkT _ fun i b hib=>by rw [hib];rfl
  constructor
  ·intro Q E _ hok _
   refine call_all_walk (zgh (A':=A.in1) hh e _ _ fun o St W st=>⟨_,_,_,_,_,_,_,rfl,W,st,tr,fun h' tk hk=>?_⟩)
   rw [show (List.range vs.size).all (fun i=>(bs[i]?).getD false)=bs.all id from (List.all_map (f:=fun i=>(bs[i]?).getD false) (p:=id) (l:=List.range vs.size)).symm.trans (by rw [hmap])]
   exact hok _ σ rfl _ h' tk ι (Step.keeps S B (zdD hk)) (.bool _)
  ·intro Q E _ hok _
   refine call_any_walk (zgh (A':=A.in1) hh e _ _ fun o St W st=>⟨_,_,_,_,_,_,_,rfl,W,st,tr,fun h' tk hk=>?_⟩)
   rw [show (List.range vs.size).any (fun i=>(bs[i]?).getD false)=bs.any id from (List.any_map (f:=fun i=>(bs[i]?).getD false) (p:=id) (l:=List.range vs.size)).symm.trans (by rw [hmap])]
   exact hok _ σ rfl _ h' tk ι (Step.keeps S B (zdD hk)) (.bool _)
 exact ⟨Sim.items (t:=fun x=>call (.builtin "all") [x]) S r fun xs l vs n e rl=>Sim.lift fun bs hb=>(core e rl hb).1,Sim.items (t:=fun x=>call (.builtin "any") [x]) S r fun xs l vs n e rl=>Sim.lift fun bs hb=>(core e rl hb).2⟩
theorem zn2{v:PV}{x:Value}(S:StoreOk prog w hB s.heap ι σ)(B:hB.StaysIn s.heap)(hh:A.handled=none)(r:Rep s.heap ι σ v x) :
  SimV prog w hB A (call (.builtin "sum") [x]) ((items v).bind fun xs=>(M.lift (zd2 xs)).bind fun ns=>M.cond (zd4 0 ns) (M.ret (.int ns.sum)) M.fail) s ι σ:=by
 refine Sim.items (t:=fun x=>call (.builtin "sum") [x]) S r fun xs l vs n e rl=>Sim.lift fun ns hb=>Sim.cond (fun hok'=>?_) fun _=>Sim.fail
 obtain ⟨h1,h2⟩:=zlD rl hb
 have hv:∀(i:Nat)(b:Int),ns[i]?=some b→(ns[i]?).getD 0=b:=fun i b q=>by rw [q];rfl
 have hn:ns.length=vs.size:=h1
 intro Q E _ hok _
 refine call_sum_walk (zgh (A':=A.in1) hh e _ _ fun o St W st=>⟨_,_,_,_,_,_,fun i=>(ns[i]?).getD 0,rfl,W,st,fun b hb'=>?_,fun i v hv'=>h2 i v ((Array.getElem?_toList ..).trans hv'),fun j hj=>?_,fun h' tk t' hk=>?_⟩)
 ·rw [size_push]
  rcases List.mem_cons.mp hb' with rfl | hb'
  ·exact Nat.lt_succ_self _
  ·rw [List.mem_singleton.mp hb'];exact Nat.lt_succ_of_lt (e.elim Heap.lt_size fun e=>Heap.lt_size e.1)
 ·have hj':j<ns.length:=by omega
  obtain ⟨a1,a2⟩:=zgU ns 0 hok' j hj'
  have e1:=zex ns _ 0 hv hok' (j+1) hj'
  rw [Int.zero_add,Int.zero_add] at e1
  rw [Int.zero_add] at a2
  have b1:=small_iff.mp a1;have b2:=small_iff.mp a2
  rw [e1]
  have e2:(ns[j]?).getD 0=ns[j]:=hv j _ (List.getElem?_eq_getElem hj')
  simp only [e2]
  unfold InLong
  omega
 ·have e1:=zex ns _ 0 hv hok' ns.length (Nat.le_refl _)
  rw [Int.zero_add,Int.zero_add,List.take_length] at e1
  rw [← hn,e1]
  exact hok _ σ rfl _ h' tk ι (Step.keeps S B (zdD hk)) (.int _ _)
theorem zkw{v:PV}{x:Value}(S:StoreOk prog w hB s.heap ι σ)(B:hB.StaysIn s.heap)(r:Rep s.heap ι σ v x) :
  SimV prog w hB A (call (.type "tuple") [x]) ((items v).bind fun xs=>M.cond (decide (xs.length≤2 ^ 20)) (M.ret (.tup xs)) M.fail) s ι σ:=by
 refine Sim.items (t:=fun x=>call (.type "tuple") [x]) S r fun xs l vs n e rl=>Sim.cond (fun hn=>?_) fun _=>Sim.fail
 have hsz:vs.size≤sizeLine:=Nat.le_trans (Nat.le_of_eq rl.length.symm) (Nat.le_trans (of_decide_eq_true hn) (by decide))
 rcases e with e | ⟨e,nl⟩
 ·intro Q E _ hok _
  refine call_tuple_list ⟨_,e,rfl,_,rfl⟩ (fun h' hk=>?_) hsz
  have X:=Step.keeps (prog:=prog) (w:=w) S B hk
  exact hok _ _ rfl _ _ s.toks ι (X.trans S.len (Step.push X.store X.stays _)) (Rep.newTup X.store (rl.step S.len X))
 ·exact Sim.val S B rfl fun Q E hq=>call_tuple_same ⟨_,e,rfl,_,rfl⟩ (hq _ s.toks (.tup e nl rl))
theorem ziv{cx:Cx}{p:Pos}{l:Addr}{vs:Array Value}{n:Nat}{xs:List PV}(S:StoreOk prog w hB s.heap ι σ)(B:hB.StaysIn s.heap)(e:ziq s.heap ι σ l vs n)(rl:RepL s.heap ι σ xs vs.toList)(hn:xs.length≤2 ^ 20) :
  SimV prog w hB A (call (.type "list") [.ref l]) (zaw cx p xs) s ι σ:=by
 refine zev S B rl fun Q E h=>?_
 have hsz:vs.size≤sizeLine:=Nat.le_trans (Nat.le_of_eq rl.length.symm) (Nat.le_trans hn (by decide))
 rcases e with e | ⟨e,_⟩
 ·exact call_list_seq l (.inl rfl) e rfl rfl (fun h' c' hk hd=>h _ h' c' s.toks (zav _) hk hd) hsz
 ·exact call_list_seq l (.inr rfl) e rfl rfl (fun h' c' hk hd=>h _ h' c' s.toks (zav _) hk hd) hsz
end
end Mine
namespace Mine
open PySem
noncomputable section
noncomputable def arg0{β:Type}(vs:List PV)(k:M β):M β:=match vs with
 | []=>k
 | _::_=>M.fail
noncomputable def arg1{β:Type}(vs:List PV)(k:PV→M β):M β:=match vs with
 | []=>M.fail
 | v::r=>arg0 r (k v)
noncomputable def arg2{β:Type}(vs:List PV)(k:PV→PV→M β):M β:=match vs with
 | []=>M.fail
 | v::r=>arg1 r (k v)
noncomputable def zqA:PV→M PV
 | .bool b=>M.ret (.int (if b then 1 else 0))
 | _=>M.fail
noncomputable def zos(cx:Cx)(p:Pos):PV→M PV
 | .ref i=>(cget i).bind fun c=>match c with
  | .list xs=>M.cond (decide (xs.length≤2 ^ 20)) (zaw cx p xs) M.fail
  | .dict kvs=>M.cond (cx.md.lp&&decide (kvs.length≤2 ^ 20)) (zaw cx p (kvs.map fun kv=>.str kv.1)) M.fail
  | .dead=>M.fail
 | v=>(items v).bind fun xs=>M.cond (decide (xs.length≤2 ^ 20)) (zaw cx p xs) M.fail
noncomputable def zoX(v:PV):M PV:=onRef v fun i=>(dget i).bind fun kvs=>M.cond (decide (kvs.length<1000)) (cnew (.dict kvs)) M.fail
inductive Bi where
 | len | all | any | sum | list | tuple | int | min | dict
 | sorted
noncomputable def zgB(cx:Cx)(p:Pos)(f:Bi)(vs:List PV):M PV:=match f with
 | .len=>arg1 vs fun v=>(zou v).bind fun n=>M.ret (.int n)
 | .all=>arg1 vs fun v=>M.cond cx.md.lp ((items v).bind fun xs=>(M.lift (zbE xs)).bind fun bs=>M.ret (.bool (bs.all id))) M.fail
 | .any=>arg1 vs fun v=>M.cond cx.md.lp ((items v).bind fun xs=>(M.lift (zbE xs)).bind fun bs=>M.ret (.bool (bs.any id))) M.fail
 | .sum=>arg1 vs fun v=>M.cond cx.md.lp ((items v).bind fun xs=>(M.lift (zd2 xs)).bind fun ns=>M.cond (zd4 0 ns) (M.ret (.int ns.sum)) M.fail) M.fail
 | .list=>arg1 vs (zos cx p)
 | .tuple=>arg1 vs fun v=>(items v).bind fun xs=>M.cond (decide (xs.length≤2 ^ 20)) (M.ret (.tup xs)) M.fail
 | .int=>arg1 vs zqA
 | .min=>arg2 vs fun a b=>onInt a fun a=>onInt b fun b=>M.cond cx.md.lp (M.ret (.int (if b<a then b else a))) M.fail
 | .sorted=>arg1 vs fun v=>M.cond cx.md.lp ((zc6 v).bind fun xs=>(M.lift (zct xs)).bind fun ss=>M.cond (decide (ss.length<64)) (zaw cx p ((zak ss).map .str)) M.fail) M.fail
 | .dict=>arg1 vs zoX
noncomputable def biTab:List (Str×Bi):=[("len",.len),("all",.all),("any",.any),("sum",.sum),("list",.list),("tuple",.tuple),("int",.int),("min",.min),("dict",.dict)
 ,("sorted",.sorted)
 ]
noncomputable def builtin(cx:Cx)(p:Pos)(f:Str)(vs:List PV):M PV:=(M.lift (biTab.lookup f)).bind fun b=>zgB cx p b vs
noncomputable def zbt(x:PV):List PV→Nat→Option Nat
 | [],_=>Option.none
 | y::ys,i=>if eqv y x then some i else zbt x ys (i+1)
noncomputable def zgo(x:PV)(ys:List PV):M Nat:=(wholeM x).bind fun x'=>(zbT ys).bind fun ys'=>M.lift (zbt x' ys' 0)
noncomputable def zlY(x:PV)(ys:List PV):M Nat:=(wholeM x).bind fun x'=>(zbT ys).bind fun ys'=>M.ret (ys'.countP fun y=>eqv y x')
noncomputable def tnOf:PV→M Tn
 | .none=>M.ret .none
 | .bool _=>M.ret .bool
 | .int _=>M.ret .int
 | .str _=>M.ret .str
 | .tup _=>M.ret .tuple
 | .lst _=>M.ret .list
 | .ref i=>(cget i).bind fun c=>match c with
  | .list _=>M.ret .list
  | .dict _=>M.ret .dict
  | .dead=>M.fail
 | .exc _=>M.fail
inductive Mt where
 | append | clear | extend | index | count
 | join
 | get | pop | dclear | setdefault | update
noncomputable def zmJ:Tn→List (Str×Mt)
 | .list=>[("append",.append),("clear",.clear),("extend",.extend),("index",.index),("count",.count)]
 | .str=>[("join",.join)
  ]
 | .dict=>[("get",.get),("pop",.pop),("clear",.dclear),("setdefault",.setdefault),("update",.update)]
 | _=>[]
noncomputable def mtOf(T:Tn)(f:Str):Option Mt:=(zmJ T).lookup f
noncomputable def zqE(kvs:List (Str×PV))(vs:List PV):M PV:=match vs with
 | []=>M.fail
 | k::r=>onStr k fun k=>match r with
  | []=>M.ret ((dat kvs k).getD .none)
  | d::r=>arg0 r (M.ret ((dat kvs k).getD d))
noncomputable def zhT(i:Nat)(kvs:List (Str×PV))(k:Str)(d:PV):M PV:=match dat kvs k with
 | some v=>M.ret v
 | Option.none=>(cset i (.dict (dput k d kvs))).bind fun _=>M.ret d
noncomputable def popM(i:Nat)(kvs:List (Str×PV))(k:Str):M PV:=match dat kvs k with
 | some v=>(cset i (.dict (ddel k kvs))).bind fun _=>M.ret v
 | Option.none=>M.fail
noncomputable def za6(a b:List (Str×PV)):List (Str×PV):=b.foldl (fun d kv=>dput kv.1 kv.2 d) a
noncomputable def zbM(cx:Cx)(p:Pos)(m:Mt)(o:PV)(vs:List PV):M PV:=
 match m with
 | .get=>onRef o fun i=>(dget i).bind fun kvs=>zqE kvs vs
 | .pop=>onRef o fun i=>arg1 vs fun v=>onStr v fun k=>(dget i).bind fun kvs=>M.cond (decide (kvs.length<1000)) (popM i kvs k) M.fail
 | .dclear=>onRef o fun i=>arg0 vs ((dget i).bind fun kvs=>M.cond (decide (kvs.length<1000)) ((cset i (.dict [])).bind fun _=>M.ret .none) M.fail)
 | .setdefault=>onRef o fun i=>arg2 vs fun v d=>onStr v fun k=>(dget i).bind fun kvs=>M.cond (decide (kvs.length<1000)) (zhT i kvs k d) M.fail
 | .update=>onRef o fun i=>arg1 vs fun v=>onRef v fun j=>(dget i).bind fun a=>(dget j).bind fun b=>M.cond (decide (i≠j)&&decide (a.length+b.length<1000)) ((cset i (.dict (za6 a b))).bind fun _=>M.ret .none) M.fail
 | .append=>onRef o fun i=>arg1 vs fun v=>(lget i).bind fun xs=>M.cond (decide (xs.length<2 ^ 20)) ((cset i (.list (xs++[v]))).bind fun _=>M.ret .none) M.fail
 | .clear=>onRef o fun i=>arg0 vs ((lget i).bind fun xs=>M.cond (decide (xs.length<2 ^ 20)) ((cset i (.list [])).bind fun _=>M.ret .none) M.fail)
 | .extend=>onRef o fun i=>arg1 vs fun v=>onLst v fun ys=>(lget i).bind fun xs=>M.cond (decide (xs.length+ys.length<2 ^ 20)) ((cset i (.list (xs++ys))).bind fun _=>M.ret .none) M.fail
 | .index=>arg1 vs fun v=>(litems o).bind fun xs=>M.cond (decide (xs.length<2 ^ 20)) ((zgo v xs).bind fun n=>M.ret (.int n)) M.fail
 | .count=>arg1 vs fun v=>(litems o).bind fun xs=>(zlY v xs).bind fun n=>M.ret (.int n)
 | .join=>onStr o fun s=>arg1 vs fun v=>(items v).bind fun xs=>(M.lift (zct xs)).bind fun ss=>M.cond (decide ((ss.map (·.length)).sum+ss.length*s.length≤16777216)) (M.ret (.str (Str.join s ss))) M.fail
structure Src where
 xs:List PV
 watch:List (Nat×List PV)
open Classical in
noncomputable def chkW:List (Nat×List PV)→M Unit
 | []=>M.ret ()
 | (i,xs)::r=>fun σ=>if σ[i]?=some (.list xs) then chkW r σ else .stuck
noncomputable def zbb(a:Int):Nat→List PV
 | 0=>[]
 | n+1=>.int a::zbb (a+1) n
noncomputable def zd6:List Nat→List PV
 | []=>[]
 | c::r=>.str ⟨#[c]⟩::zd6 r
noncomputable def zaz:PV→M Src
 | .tup xs=>M.ret ⟨xs,[]⟩
 | .lst xs=>M.ret ⟨xs,[]⟩
 | .str s=>M.ret ⟨zd6 s.cps.toList,[]⟩
 | .ref i=>(lget i).bind fun xs=>M.ret ⟨xs,[(i,xs)]⟩
 | _=>M.fail
noncomputable def zbZ:Expr→Nat
 | .Name ..=>1
 | .Tuple ..=>2
 | .Starred ..=>3
 | .Set ..=>4
 | .Constant ..=>5
 | .Subscript ..=>6
 | .Slice ..=>7
 | .ListComp ..=>8
 | _=>0
noncomputable def nmOf(e:Expr):Option { x:Str×Pos // e=.Name x.1 x.2 }:=match e with
 | .Name x p=>some ⟨(x,p),rfl⟩
 | _=>Option.none
noncomputable def zd7(sc:Scope)(ρ:Loc)(v:PV)(x:Str):Option Loc:=match sc.names.lookup x with
 | some .local=>some (ρ.set x v)
 | some .cell=>some (ρ.set x v)
 | _=>Option.none
noncomputable def ze9(sc:Scope)(ρ:Loc)(v:PV)(t:Expr):Option Loc:=(nmOf t).bind fun x=>zd7 sc ρ v x.1.1
noncomputable def zbj(sc:Scope)(ρ:Loc):List Expr→List PV→Option Loc
 | [],vs=>match vs with
  | []=>some ρ
  | _::_=>Option.none
 | t::ts,vs=>match vs with
  | []=>Option.none
  | v::vs=>(ze9 sc ρ v t).bind fun ρ'=>zbj sc ρ' ts vs
noncomputable def zqc:PV→Option (List PV)
 | .tup vs=>some vs
 | _=>Option.none
noncomputable def zgC(sc:Scope)(ρ:Loc)(t:Expr)(v:PV):Option Loc:=
 match t with
 | .Tuple ts _ _=>(zqc v).bind (zbj sc ρ ts)
 | t=>ze9 sc ρ v t
noncomputable def zgE{α:Type}(sc:Scope):Loc→List Expr→List PV→(Loc→M α)→M α
 | ρ,[],vs,k=>match vs with
  | []=>k ρ
  | _::_=>M.fail
 | ρ,t::ts,vs,k=>match vs with
  | []=>M.fail
  | v::vs=>(M.lift (ze9 sc ρ v t)).bind fun ρ'=>zgE sc ρ' ts vs k
noncomputable def tupC{α:Type}(v:PV)(f:List PV→M α):M α:=match v with
 | .tup vs=>f vs
 | _=>M.fail
noncomputable def znK{α:Type}(sc:Scope)(ρ:Loc)(t:Expr)(v:PV)(k:Loc→M α):M α:=
 match t with
 | .Tuple ts _ _=>tupC v fun vs=>zgE sc ρ ts vs k
 | t=>(M.lift (ze9 sc ρ v t)).bind k
section
variable (E:Expr→M PV)
noncomputable def evs:List Expr→M (List PV)
 | []=>M.ret []
 | e::r=>(E e).bind fun v=>(evs r).bind fun vs=>M.ret (v::vs)
noncomputable def zfE(op:BoolOp):List Expr→M PV
 | []=>M.fail
 | [e]=>E e
 | e::r=>(E e).bind fun v=>(zan v).bind fun b=>match op,b with
  | .And,false=>M.ret v
  | .Or,true=>M.ret v
  | _,_=>zfE op r
noncomputable def zie(a:PV):List CmpOp→List Expr→M PV
 | [],_=>M.fail
 | op::ops,es=>match es with
  | []=>M.fail
  | e::es=>match ops with
   | []=>match es with
    | []=>(E e).bind fun b=>zac op a b
    | _::_=>M.fail
   | op₂::ops₂=>(E e).bind fun b=>(zac op a b).bind fun c=>(zan c).bind fun t=>M.cond t (zie b (op₂::ops₂) es) (M.ret c)
noncomputable def zbJ:Option Expr→M (Option Int)
 | Option.none=>M.ret Option.none
 | some e=>(E e).bind fun v=>M.lift (zk1 v)
end
noncomputable def zlZ:Const→Option PV
 | .none=>some .none
 | .bool b=>some (.bool b)
 | .int i=>some (.int i)
 | .str s=>some (.str s)
 | _=>Option.none
noncomputable def znI(e:Expr):Option { x:Const×Nat×Pos // e=.Constant x.1 x.2.1 x.2.2 }:=match e with
 | .Constant c k p=>some ⟨(c,k,p),rfl⟩
 | _=>Option.none
noncomputable def strK(c:Const):Option { s:Str // c=.str s }:=match c with
 | .str s=>some ⟨s,rfl⟩
 | _=>Option.none
noncomputable def zef:List (Option Expr)→List Expr→Option (List (Str×PV))
 | [],vs=>match vs with
  | []=>some []
  | _::_=>Option.none
 | k::ks,vs=>match vs with
  | []=>Option.none
  | v::vs=>k.bind fun k=>(znI k).bind fun k=>(strK k.1.1).bind fun k=>(znI v).bind fun c=>(zlZ c.1.1).bind fun x=>(zef ks vs).bind fun r=>some ((k.1,x)::r)
noncomputable def zaX(chk:M Unit)(f:PV→M (Option PV)):List PV→M (List PV)
 | []=>chk.bind fun _=>M.ret []
 | x::xs=>chk.bind fun _=>(f x).bind fun o=>(zaX chk f xs).bind fun ys=>M.ret (match o with | some y=>y::ys | Option.none=>ys)
noncomputable def inner(csc:Scope)(ρ:Loc):Loc:=fun y=>match csc.names.lookup y with
 | some .free=>ρ y
 | _=>Option.none
noncomputable def zl2(sc csc:Scope)(it:Expr):Bool:=
 decide (csc.kind=.function) &&
 (csc.names.all fun x=>match x.2 with
  | .local=>decide (csc.names.lookup x.1=some .local)&&decide (x.1≠"__debug__")
  | .free=>decide (sc.names.lookup x.1=some .cell)&&decide (csc.names.lookup x.1=some .free)
  | .globalImplicit=>decide (x.1≠"__debug__")
  | _=>false) &&
 decide ((csc.names.map (·.1)).Nodup) &&
 (zbZ it != 4)
noncomputable def isTg(e:Expr):Bool:=zbZ e==1 || zbZ e==2
noncomputable def zm6(cx:Cx)(sc:Scope)(ρ:Loc)(v:PV)(x:Str):M Bool:=(M.lift (tyOf cx sc ρ x)).bind fun t=>zbP cx.G t v
noncomputable def zjO(G:Gl)(v:PV):List Ty→M Bool
 | []=>M.ret false
 | t::r=>(zbP G t v).bind fun b=>M.cond b (M.ret true) (zjO G v r)
noncomputable def zi8(cx:Cx)(sc:Scope)(ρ:Loc):List Expr→Option (List Ty)
 | []=>some []
 | e::r=>(nmOf e).bind fun x=>(tyOf cx sc ρ x.1.1).bind fun t=>(zi8 cx sc ρ r).bind fun ts=>some (t::ts)
noncomputable def isTy(cx:Cx)(sc:Scope)(ρ:Loc)(v:PV)(es:List Expr):M Bool:=(M.lift (zi8 cx sc ρ es)).bind fun ts=>M.cond ts.isEmpty M.fail (zjO cx.G v ts)
noncomputable def zat(args:List Expr):Bool:=decide (args.length≤10)&&args.all fun e=>zbZ e != 3
noncomputable def zbq(k:Int):Bool:=decide (-1000000≤k)&&decide (k≤1000000)
noncomputable def zbv(vs:List PV):M Src:=match vs with
 | []=>M.fail
 | v::r=>onInt v fun k=>match r with
  | []=>M.cond (zbq k) (M.ret ⟨zbb 0 k.toNat,[]⟩) M.fail
  | v::r=>arg0 r (onInt v fun l=>M.cond (zbq k&&zbq l) (M.ret ⟨zbb k (l-k).toNat,[]⟩) M.fail)
noncomputable def zp6(e:Expr):Option { x:Expr×List Expr×Pos // e=.Call x.1 x.2.1 [] x.2.2 }:=match e with
 | .Call f args kws p=>match kws with
  | []=>some ⟨(f,args,p),rfl⟩
  | _::_=>Option.none
 | _=>Option.none
noncomputable def zqz(y:Str):Callee→Bool
 | .bi z=>decide (z=y)
 | _=>false
noncomputable def zcx(g:Str)(cx:Cx)(sc:Scope)(ρ:Loc)(e:Expr):Option (List Expr):=
 (zp6 e).bind fun c=>(nmOf c.1.1).bind fun f=>(zaW cx sc ρ f.1.1).bind fun y=>bif zqz g y then some c.1.2.1 else Option.none
noncomputable def lsrc:PV→M Src
 | .lst xs=>M.ret ⟨xs,[]⟩
 | .ref i=>(lget i).bind fun xs=>M.ret ⟨xs,[(i,xs)]⟩
 | _=>M.fail
noncomputable def zcE:Nat→List PV→List PV
 | _,[]=>[]
 | i,x::r=>.tup [.int i,x]::zcE (i+1) r
noncomputable def zdX(vs:List PV):M Src:=arg1 vs fun v=>(lsrc v).bind fun s=>M.ret ⟨zcE 0 s.xs,s.watch⟩
noncomputable def zdn(E:Expr→M PV)(args:List Expr)(F:List PV→M Src):M Src:=M.cond (zat args) ((evs E args).bind F) M.fail
noncomputable def zcD(cx:Cx)(sc:Scope)(ρ:Loc)(E:Expr→M PV)(t it:Expr):M Src:=
 match zcx "range" cx sc ρ it with
 | some args=>zdn E args zbv
 | Option.none=>match zcx "enumerate" cx sc ρ it with
  | some args=>M.cond (zbZ t==2) (zdn E args zdX) M.fail
  | Option.none=>
    (E it).bind zaz
noncomputable def zqD(cx:Cx)(sc:Scope)(ρ:Loc)(E:Expr→M PV)(x t:Expr):M PV:=match t with
 | .Tuple ts _ _=>M.cond (decide (ts.length≤10)) ((E x).bind fun v=>(isTy cx sc ρ v ts).bind fun b=>M.ret (.bool b)) M.fail
 | .Name t _=>(E x).bind fun v=>(zm6 cx sc ρ v t).bind fun b=>M.ret (.bool b)
 | _=>M.fail
noncomputable def evIs(cx:Cx)(sc:Scope)(ρ:Loc)(E:Expr→M PV)(es:List Expr):M PV:=match es with
 | [x,t]=>zqD cx sc ρ E x t
 | _=>M.fail
noncomputable def zlc(o:Expr)(ap p:Pos)(args:List Expr):Bool:=
 decide (ap.endLine=p.line)&&zat args&&(zbZ o==1 || zbZ o==5 || zbZ o==6)
section
variable (cx:Cx) (sc:Scope) (ρ:Loc) (E:Expr→M PV)
noncomputable def zlN(x:Str)(p:Pos):M PV:=match zaW cx sc ρ x with
 | some (.val v)=>M.cond (cx.G.fz.contains (p.line,p.col)) (zlK v) (M.ret v)
 | _=>M.fail
noncomputable def evUn(op:UnaryOp)(x:Expr):M PV:=match op with
 | .Not=>(E x).bind fun a=>(zan a).bind fun b=>M.ret (.bool !b)
 | .USub=>(E x).bind fun a=>onInt a fun i=>M.ret (.int (-i))
 | _=>M.fail
noncomputable def znb(v i:Expr)(p:Pos):M PV:=match i with
 | .Slice lo hi st _=>match st with
  | Option.none=>(E v).bind fun o=>(zbJ E lo).bind fun l=>(zbJ E hi).bind fun h=>cut cx p false o l h
  | some st=>match lo with
   | Option.none=>match hi with
    | Option.none=>(E v).bind fun o=>(zbJ E (some st)).bind fun k=>revL cx p o k
    | some _=>M.fail
   | some _=>M.fail
 | i=>(E v).bind fun o=>(E i).bind fun k=>index o k
noncomputable def evFn(f:Str)(args:List Expr)(p:Pos):M PV:=(M.lift (zaW cx sc ρ f)).bind fun c=>match c with
 | .fn a=>(evs E args).bind fun vs=>cx.call cx.md a vs
 | .bi y=>M.cond (decide (y="isinstance")) (evIs cx sc ρ E args) ((M.lift (biTab.lookup y)).bind fun b=>(evs E args).bind fun vs=>zgB cx p b vs)
 | _=>M.fail
noncomputable def zp4(f:Expr)(args:List Expr)(p:Pos):M PV:=match f with
 | .Attribute o m ap=>M.cond (zlc o ap p args) ((E o).bind fun ov=>(tnOf ov).bind fun T=>(M.lift (mtOf T m)).bind fun k=>(evs E args).bind fun vs=>zbM cx p k ov vs) M.fail
 | .Name f _=>M.cond (zat args) (evFn cx sc ρ E f args p) M.fail
 | _=>M.fail
noncomputable def zp5(csc:Scope)(E:Loc→Expr→M PV)(t elt:Expr)(ifs:List Expr)(x:PV):M (Option PV):=M.noErr <|
 znK csc (inner csc ρ) t x fun ρ'=>match ifs with
  | []=>(E ρ' elt).bind fun y=>M.ret (some y)
  | c::r=>match r with
   | []=>(E ρ' c).bind fun cv=>(zan cv).bind fun b=>M.cond b ((E ρ' elt).bind fun y=>M.ret (some y)) (M.ret Option.none)
   | _::_=>M.fail
noncomputable def ziS(csc:Scope)(Ei:Loc→Expr→M PV)(elt:Expr)(gens:List Comprehension)(p:Pos):M PV:=match gens with
 | []=>M.fail
 | g::r=>match r with
  | _::_=>M.fail
  | []=>M.cond (decide (g.is_async=0)&&(cx.md.lp&&zl2 sc csc g.iter&&isTg g.target))
   ((zcD cx sc ρ E g.target g.iter).bind fun src=>M.cond (decide (src.xs.length≤2 ^ 20)) ((zaX (chkW src.watch) (zp5 ρ csc Ei g.target elt g.ifs) src.xs).bind fun ys=>zaw cx p ys) M.fail) M.fail
end
noncomputable def ev(cx:Cx):Nat→Scope→Loc→Expr→M PV
 | 0,_,_,_=>M.fail
 | n+1,sc,ρ,e=>match e with
  | .Constant c _ _=>M.lift (zlZ c)
  | .Name x p=>zlN cx sc ρ x p
  | .BoolOp op vs _=>zfE (ev cx n sc ρ) op vs
  | .BinOp l op r p=>(ev cx n sc ρ l).bind fun a=>(ev cx n sc ρ r).bind fun b=>zng cx p op a b
  | .UnaryOp op x _=>evUn (ev cx n sc ρ) op x
  | .IfExp t a b _=>(ev cx n sc ρ t).bind fun v=>(zan v).bind fun c=>M.cond c (ev cx n sc ρ a) (ev cx n sc ρ b)
  | .Compare l ops cs _=>(ev cx n sc ρ l).bind fun a=>zie (ev cx n sc ρ) a ops cs
  | .Tuple es _ _=>M.cond (decide (es.length≤100)) ((evs (ev cx n sc ρ) es).bind fun vs=>M.ret (.tup vs)) M.fail
  | .List es p=>M.cond (decide (es.length≤100)) ((evs (ev cx n sc ρ) es).bind fun vs=>zaw cx p vs) M.fail
  | .Dict ks vs _=>(M.lift (zef ks vs)).bind fun l=>M.cond (decide (l.length≤15)) (cnew (.dict (za6 [] l))) M.fail
  | .Subscript v i p=>znb cx (ev cx n sc ρ) v i p
  | .ListComp elt gens csc p=>ziS cx sc ρ (ev cx n sc ρ) csc (fun ρ' e=>ev { cx with md:=⟨false,cx.md.lp⟩ } n csc ρ' e) elt gens p
  | .Call f args kws p=>match kws with
   | []=>zp4 cx sc ρ (ev cx n sc ρ) f args p
   | _::_=>M.fail
  | _=>M.fail
inductive Fl where
 | next (ρ:Loc)
 | ret (v:PV)
noncomputable def ziK(e:Expr):Bool:=zbZ e==8
noncomputable def zqb(md:Md)(t e:Expr):Bool:=
 match t with
 | .Name ..=>true
 | .Tuple ..=>md.lp&&zbZ e != 2
 | .Subscript _ i _=>zbZ i != 7&&zbZ i != 2
 | _=>false
noncomputable def setAt(o i v:PV):M Unit:=onRef o fun a=>match i with
 | .str k=>(dget a).bind fun kvs=>M.cond (decide (kvs.length<1000)) (cset a (.dict (dput k v kvs))) M.fail
 | .int k=>(lget a).bind fun xs=>M.cond (decide (0≤k)&&decide (k.toNat<xs.length)&&decide (xs.length<2 ^ 20)) (cset a (.list (xs.set k.toNat v))) M.fail
 | _=>M.fail
noncomputable def asg(E:Expr→M PV)(sc:Scope)(ρ:Loc)(t:Expr)(v:PV):M Loc:=
 match t with
 | .Subscript o i _=>(E o).bind fun ov=>(E i).bind fun iv=>(setAt ov iv v).bind fun _=>M.ret ρ
 | t=>M.lift (zgC sc ρ t v)
noncomputable def flK(k:Loc→M Fl):Fl→M Fl
 | .next ρ=>k ρ
 | .ret v=>M.ret (.ret v)
noncomputable def exs(X:Loc→Stmt→M Fl)(ρ:Loc):List Stmt→M Fl
 | []=>M.ret (.next ρ)
 | s::r=>(X ρ s).bind (flK fun ρ'=>exs X ρ' r)
noncomputable def forL(chk:M Unit)(sc:Scope)(t:Expr)(X:Loc→M Fl):List PV→Loc→M Fl
 | [],ρ=>chk.bind fun _=>M.ret (.next ρ)
 | x::xs,ρ=>chk.bind fun _=>(M.lift (zgC sc ρ t x)).bind fun ρ'=>(X ρ').bind (flK fun ρ''=>forL chk sc t X xs ρ'')
noncomputable def Loc.drop(ρ:Loc)(x:Str):Loc:=fun y=>if y=x then Option.none else ρ y
section
variable (cx:Cx) (sc:Scope) (ρ:Loc) (X:Loc→Stmt→M Fl) (Xh:Loc→Stmt→M Fl)
end
noncomputable def ex(cx:Cx):Nat→Scope→Loc→Stmt→M Fl
 | 0,_,_,_=>M.fail
 | n+1,sc,ρ,s=>match s with
  | .Return e _=>match e with
   | some e=>(ev cx n sc ρ e).bind fun v=>M.ret (.ret v)
   | Option.none=>M.fail
  | .Assign ts e _=>match ts with
   | []=>M.fail
   | t::r=>M.cond (r.isEmpty&&zqb cx.md t e) ((ev cx n sc ρ e).bind fun v=>(asg (ev cx n sc ρ) sc ρ t v).bind fun ρ'=>M.ret (.next ρ')) M.fail
  | .If t a b _=>(ev cx n sc ρ t).bind fun v=>(zan v).bind fun c=>M.cond c (exs (ex cx n sc) ρ a) (exs (ex cx n sc) ρ b)
  | .For t it b o _=>M.cond (o.isEmpty&&(cx.md.lp&&isTg t)) ((zcD cx sc ρ (ev cx n sc ρ) t it).bind fun src=>
    forL (chkW src.watch) sc t (fun ρ'=>exs (ex cx n sc) ρ' b) src.xs ρ) M.fail
  | .Expr e _=>M.cond (ziK e) M.fail ((ev cx n sc ρ e).bind fun _=>M.ret (.next ρ))
  | .Pass _=>M.ret (.next ρ)
  | _=>M.fail
noncomputable def nest:Nat:=60
noncomputable def params(ps:List Str)(vs:List PV):Loc:=fun y=>(ps.zip vs).lookup y
noncomputable def zaf(G:Gl):Nat→Md→Addr→List PV→M PV
 | 0,_,_,_=>M.fail
 | d+1,md,a,vs=>match G.fns.lookup a with
  | some f=>M.cond (decide (f.params.length=vs.length))
    ((exs (ex { G:=G,call:=zaf G d,md:=md } nest f.scope) (params f.params vs) f.body).bind fun r=>match r with
     | .ret v=>M.ret v
     | .next _=>M.ret .none) M.fail
  | Option.none=>M.fail
end
end Mine
namespace Mine
open PySem PySem.SeqAt PyProof.Rows
theorem M.bind_assoc{α β γ:Type}(x:M α)(f:α→M β)(g:β→M γ):(x.bind f).bind g=x.bind fun a=>(f a).bind g:=funext fun _=>zah x f g
theorem M.ret_bind{α β:Type}(a:α)(f:α→M β):(M.ret a).bind f=f a:=rfl
theorem M.cond_bind{α β:Type}(b:Bool)(x y:M α)(f:α→M β):(M.cond b x y).bind f=M.cond b (x.bind f) (y.bind f):=by cases b <;> rfl
structure EnvOk (env:Env) (sc:Scope):Prop where
 kind:env.scope.kind=.function
 globals:env.globals=mainGlobals
 builtins:env.builtins=builtinsNs
 loc:∀ x,sc.names.lookup x=some .local→env.kindOf x=some .local
 cel:∀ x,sc.names.lookup x=some .cell→env.kindOf x=some .cell
 glob:∀ x,sc.names.lookup x=some .globalImplicit→env.kindOf x=some .globalImplicit
 nodebug:env.kindOf "__debug__"=none
theorem EnvOk.dbg{env:Env}{sc:Scope}(H:EnvOk env sc){x:Str}{k:NameKind}(h:env.kindOf x=some k):(x==("__debug__":Str))=false:=by
 cases q:x==("__debug__":Str) with
 | false=>rfl
 | true=>rw [eq_of_beq q,H.nodebug] at h;cases h
noncomputable def bis:List (Str×Value):=[("len",.builtin "len"),("all",.builtin "all"),("any",.builtin "any"),("sum",.builtin "sum"),("isinstance",.builtin "isinstance"),("sorted",.builtin "sorted"),("min",.builtin "min"),
 ("list",.type "list"),("tuple",.type "tuple"),("int",.type "int"),("dict",.type "dict"),("str",.type "str"),("bool",.type "bool"),("range",.type "range"),("enumerate",.type "enumerate"),("zip",.type "zip"),
 ("set",.type "set"),("ValueError",.type "ValueError")]
structure GOk (hB:Heap) (G:Gl):Prop where
 ns:∃ mg mb,hB.Ns mainGlobals mg∧hB.Ns builtinsNs mb∧
  (∀ x a,G.names.lookup x=some (.fn a)→mg x=some (.ref a))∧(∀ x a,G.names.lookup x=some (.cls a)→mg x=some (.ref a))∧
  (∀ x v,G.names.lookup x=some (.val v)→∃ y,mg x=some y∧Rep hB Ad.nil [] v y)∧
  (∀ x v,G.names.lookup x=none→bis.lookup x=some v→mg x=none∧mb x=some v)
section
variable {prog:Program} {w:World} {hB:Heap} {A:Around} {s:Shared} {ι:Ad} {σ:zaa} {env:Env} {ρ:Loc} {fl:List Env} {sc:Scope}
theorem StoreOk.notBase(S:StoreOk prog w hB s.heap ι σ){a:Addr}{o:Obj}(e:hB.get? a=some o):¬ Live ι σ a:=by
 rintro (⟨i,c,hi,_⟩ | q)
 ·rw [S.base _ (List.mem_of_getElem? hi)] at e;cases e
 ·rw [S.hbase _ q] at e;cases e
theorem Rep.base(S:StoreOk prog w hB s.heap ι σ)(B:hB.StaysIn s.heap){x:PV}{v:Value}(r:Rep hB Ad.nil [] x v):Rep s.heap ι σ x v:=
 r.to ⟨fun e _=>⟨B _ _ e,S.notBase e⟩,fun e=>absurd e (by simp [Ad.nil]),fun e c d k _=>.exc (B _ _ e) c d k (S.notBase e)⟩
theorem zmF{x:Str}{pos:Pos}{v:PV}(H:EnvOk env sc)(I:Inv prog w hB env ρ fl s.heap ι σ)(hv:ρ x=some v)(Q:Value→Shared→Prop)(E:Value→Shared→Prop)
  (h:∀ y,Rep s.heap ι σ v y→Q y s):wpAny (model prog w) A (eval (.Name x pos) env) Q E s:=by
 rcases I.fr.kinds x v hv with k | k
 ·obtain ⟨m,hn,hm⟩:=I.fr.ns
  obtain ⟨y,hy,r⟩:=hm x v hv k
  exact wpAny_Name (wpAny_loadName_local H.kind k hn hy (h y r)) (H.dbg k)
 ·obtain ⟨c,y,hc,hy,r⟩:=I.fr.cel x v hv k
  exact wpAny_Name (wpAny_loadName_cell H.kind k hc hy (h y r)) (H.dbg k)
theorem zeE{x:Str}{pos:Pos}{mg:Str→Option Value}{v:Value}(H:EnvOk env sc)(hB':hB.StaysIn s.heap)(k:sc.names.lookup x=some .globalImplicit)(hg:hB.Ns mainGlobals mg)(hv:mg x=some v)(Q:Value→Shared→Prop)(E:Value→Shared→Prop)
  (h:Q v s):wpAny (model prog w) A (eval (.Name x pos) env) Q E s:=
 Calls.Name_function_global H.kind (H.glob x k) (Calls.loadGlobal_global (H.globals▸hg.keeps hB') hv h) (H.dbg (H.glob x k))
theorem zoo{x:Str}{pos:Pos}{mg mb:Str→Option Value}{v:Value}(H:EnvOk env sc)(hB':hB.StaysIn s.heap)(k:sc.names.lookup x=some .globalImplicit)(hg:hB.Ns mainGlobals mg)(hm:mg x=none)(hb:hB.Ns builtinsNs mb)(hv:mb x=some v)
  (Q:Value→Shared→Prop) (E:Value→Shared→Prop) (h:Q v s):wpAny (model prog w) A (eval (.Name x pos) env) Q E s:=
 Calls.Name_function_global H.kind (H.glob x k) (Calls.loadGlobal_builtin (H.globals▸hg.keeps hB') hm (H.builtins▸hb.keeps hB') hv h) (H.dbg (H.glob x k))
noncomputable def zhs:Callee→Value→Prop
 | .fn a,v=>v=.ref a
 | .cls a,v=>v=.ref a
 | .bi x,v=>bis.lookup x=some v
 | .val _,_=>False
theorem zbW{cx:Cx}{x:Str}{c:Callee}(hr:zaW cx sc ρ x=some c):(∃ v,c=.val v∧ρ x=some v)∨(ρ x=none∧sc.names.lookup x=some .globalImplicit∧
  ((∃ a,c=.fn a∧cx.G.names.lookup x=some (.fn a))∨(∃ a,c=.cls a∧cx.G.names.lookup x=some (.cls a))∨(∃ v,c=.val v∧cx.G.names.lookup x=some (.val v))∨(c=.bi x∧cx.G.names.lookup x=none))):=by
 unfold zaW at hr
 cases h1:ρ x with
 | some v=>rw [h1] at hr;cases hr;exact .inl ⟨v,rfl,rfl⟩
 | none=>
  rw [h1] at hr
  cases h2:sc.names.lookup x with
  | none=>rw [h2] at hr;cases hr
  | some k=>
   rw [h2] at hr
   cases k with
   | globalImplicit=>
    refine .inr ⟨rfl,rfl,?_⟩
    cases h3:cx.G.names.lookup x with
    | none=>rw [h3] at hr;cases hr;exact .inr (.inr (.inr ⟨rfl,rfl⟩))
    | some g=>
     rw [h3] at hr
     cases g with
     | fn a=>cases hr;exact .inl ⟨a,rfl,rfl⟩
     | cls a=>cases hr;exact .inr (.inl ⟨a,rfl,rfl⟩)
     | val v=>cases hr;exact .inr (.inr (.inl ⟨v,rfl,rfl⟩))
   | _=>cases hr
theorem zbh{cx:Cx}{x:Str}{pos:Pos}{c:Callee}(hG:GOk hB cx.G)(H:EnvOk env sc)(hB':hB.StaysIn s.heap)(hr:zaW cx sc ρ x=some c)(hc:∃ v,zhs c v)(Q:Value→Shared→Prop)(E:Value→Shared→Prop)
  (h:∀ v,zhs c v→Q v s):wpAny (model prog w) A (eval (.Name x pos) env) Q E s:=by
 obtain ⟨mg,mb,g1,g2,g3,g4,g5,g6⟩:=hG.ns
 rcases zbW hr with ⟨v,rfl,_⟩ | ⟨_,k,⟨a,rfl,e⟩ | ⟨a,rfl,e⟩ | ⟨v,rfl,e⟩ | ⟨rfl,e⟩⟩
 ·exact hc.elim fun v hv=>hv.elim
 ·exact zeE H hB' k g1 (g3 x a e) Q E (h _ rfl)
 ·exact zeE H hB' k g1 (g4 x a e) Q E (h _ rfl)
 ·exact hc.elim fun v hv=>hv.elim
 ·obtain ⟨v,hv⟩:=hc
  obtain ⟨m1,m2⟩:=g6 x v e hv
  exact zoo H hB' k g1 m1 g2 m2 Q E (h v hv)
theorem zmt{cx:Cx}{x:Str}{pos:Pos}(hG:GOk hB cx.G)(H:EnvOk env sc)(I:Inv prog w hB env ρ fl s.heap ι σ):SimV prog w hB A (eval (.Name x pos) env) (zlN cx sc ρ x pos) s ι σ:=by
 have fin:∀{v:PV},(∀ Q E,(∀ y,Rep s.heap ι σ v y→Q y s)→wpAny (model prog w) A (eval (.Name x pos) env) Q E s)→SimV prog w hB A (eval (.Name x pos) env) (M.cond (cx.G.fz.contains (pos.line,pos.col)) (zlK v) (M.ret v)) s ι σ:=
  fun h=>Sim.cond (fun _=>zhN I.store I.stays h) fun _=>Sim.val I.store I.stays rfl fun Q E hq=>h Q E fun y r=>hq y s.toks r
 unfold zlN
 cases hr:zaW cx sc ρ x with
 | none=>exact Sim.fail
 | some c=>
  rcases zbW hr with ⟨v,rfl,hρ⟩ | ⟨_,k,⟨a,rfl,e⟩ | ⟨a,rfl,e⟩ | ⟨v,rfl,e⟩ | ⟨rfl,e⟩⟩
  ·exact fin fun Q E h=>zmF H I hρ Q E h
  ·exact Sim.fail
  ·exact Sim.fail
  ·obtain ⟨mg,mb,g1,g2,g3,g4,g5,g6⟩:=hG.ns
   obtain ⟨y,hy,r⟩:=g5 x v e
   exact fin fun Q E h=>zeE H I.stays k g1 hy Q E (h y (r.base I.store I.stays))
  ·exact Sim.fail
end
noncomputable abbrev EvIH(prog:Program)(w:World)(hB:Heap)(A:Around)(env:Env)(ρ:Loc)(fl:List Env)(E:Expr→M PV):Prop:=
 ∀ e s ι σ,Inv prog w hB env ρ fl s.heap ι σ→SimV prog w hB A (eval e env) (E e) s ι σ
section
variable {prog:Program} {w:World} {hB:Heap} {A:Around} {s:Shared} {ι:Ad} {σ:zaa} {env:Env} {ρ:Loc} {fl:List Env} {sc:Scope} {E:Expr→M PV}
theorem Sim.map{α β γ δ:Type}{R:Heap→Ad→zaa→α→β→Prop}{R':Heap→Ad→zaa→γ→δ→Prop}{t:Sem β}{f:β→δ}{r:M α}{g:α→γ}(h:Sim prog w hB A R t r s ι σ)
  (hr:∀ h' ι' σ' a x,R h' ι' σ' a x→R' h' ι' σ' (g a) (f x)):Sim prog w hB A R' (t >>= fun x=>Pure.pure (f x)) (r.bind fun a=>M.ret (g a)) s ι σ:=by
 intro Q E hns hok herr
 have hne:r σ≠.stuck:=fun q=>hns (zae q)
 refine wpAny_bind (h _ _ hne (fun a σ₁ e₁ x h₁ tk₁ ι₁ X₁ r₁=>wpAny_pure ?_) (fun C σ₁ e₁ e h₁ tk₁ ι₁ X₁ F₁=>?_))
 ·exact hok _ σ₁ (zab e₁) _ h₁ tk₁ ι₁ X₁ (hr _ _ _ _ _ r₁)
 ·exact herr C σ₁ (zam e₁) e h₁ tk₁ ι₁ X₁ F₁
theorem zaO(e:Expr)(r:List Expr)(hne:∀ x p,e≠.Starred x p):starEach (e::r) env=(false,eval e env)::starEach r env:=by
 cases e with
 | Starred x p=>exact absurd rfl (hne x p)
 | _=>rfl
theorem zbU(IH:EvIH prog w hB A env ρ fl E)(hst:∀ e p,E (.Starred e p)=M.fail)(pos:Pos):∀(es:List Expr)(s:Shared)(ι:Ad)(σ:zaa),Inv prog w hB env ρ fl s.heap ι σ→
  Sim prog w hB A RepL (spliced (backTo pos (starEach es env))) (evs E es) s ι σ
 | [],s,ι,σ,I=>Sim.pure I.store I.stays .nil
 | e::r,s,ι,σ,I=>by
  by_cases q:∃ x p,e=.Starred x p
  ·obtain ⟨x,p,rfl⟩:=q
   exact Sim.bstuck (by rw [hst];rfl)
  ·rw [zaO e r fun x p q'=>q ⟨x,p,q'⟩]
   intro Q Er hns hok herr
   show wpAny _ _ (spliced ((false,eval e env)::backTo pos (starEach r env))) _ _ _
   refine Calls.spliced_cons ?_
   have hne:E e σ≠.stuck:=fun q=>hns (zae q)
   refine IH e s ι σ I _ _ hne (fun v σ₁ e₁ x h₁ tk₁ ι₁ X₁ r₁=>?_) (fun C σ₁ e₁ e h₁ tk₁ ι₁ X₁ F₁=>herr C σ₁ (zam e₁) e h₁ tk₁ ι₁ X₁ F₁)
   have I₁:=I.step X₁
   have hne₂:evs E r σ₁≠.stuck:=fun q=>hns ((zab e₁).trans (zae q))
   refine zbU IH hst pos r { s with heap:=h₁,toks:=tk₁ } ι₁ σ₁ I₁ _ _ hne₂ (fun vs σ₂ e₂ ys h₂ tk₂ ι₂ X₂ r₂=>?_) (fun C σ₂ e₂ e h₂ tk₂ ι₂ X₂ F₂=>?_)
   ·exact hok (v::vs) σ₂ ((zab e₁).trans (zab e₂)) (x::ys) h₂ tk₂ ι₂ (X₁.trans I.store.len X₂) (.cons (r₁.step I₁.store.len X₂) r₂)
   ·exact herr C σ₂ ((zab e₁).trans (zam e₂)) e h₂ tk₂ ι₂ (X₁.trans I.store.len X₂) (F₂.older X₁.evo.alive)
theorem zdp{α β:Type}{x:M α}{f:α→M β}{σ':zaa}{b:β}(h:x.bind f σ=.ok b σ'):∃ a σ₁,x σ=.ok a σ₁∧f a σ₁=.ok b σ':=by
 unfold M.bind at h
 cases q:x σ with
 | ok a σ₁=>rw [q] at h;exact ⟨a,σ₁,rfl,h⟩
 | err C σ₁=>rw [q] at h;cases h
 | stuck=>rw [q] at h;cases h
theorem zdG(E:Expr→M PV):∀(es:List Expr)(σ σ':zaa)(vs:List PV),evs E es σ=.ok vs σ'→vs.length=es.length
 | [],σ,σ',vs,h=>by cases h;rfl
 | e::r,σ,σ',vs,h=>by
  obtain ⟨a,σ₁,_,h2⟩:=zdp h
  obtain ⟨b,σ₂,h3,h4⟩:=zdp h2
  cases h4
  exact congrArg Nat.succ (zdG E r _ _ _ h3)
theorem zkI{cx:Cx}{n:Nat}{c:Const}{k:Nat}{pos:Pos}(I:Inv prog w hB env ρ fl s.heap ι σ):SimV prog w hB A (eval (.Constant c k pos) env) (ev cx (n+1) sc ρ (.Constant c k pos)) s ι σ:=by
 cases c with
 | none=>exact Sim.val I.store I.stays rfl fun Q E h=>Constant_none (h _ s.toks .none)
 | bool b=>exact Sim.val I.store I.stays rfl fun Q E h=>Constant_bool (h _ s.toks (.bool b))
 | int i=>exact Sim.val I.store I.stays rfl fun Q E h=>wpAny_mkInt (h _ _ (.int _ _))
 | str x=>exact Sim.val I.store I.stays rfl fun Q E h=>Calls.Constant_str (h _ _ (.str _ _))
 | _=>exact Sim.fail
theorem zfj(IH:EvIH prog w hB A env ρ fl E)(pos:Pos)(op:BoolOp):∀(es:List Expr)(s:Shared)(ι:Ad)(σ:zaa),Inv prog w hB env ρ fl s.heap ι σ→
  SimV prog w hB A (boolOp pos op (evalEach es env)) (zfE E op es) s ι σ
 | [],s,ι,σ,I=>Sim.fail
 | [e],s,ι,σ,I=>IH e s ι σ I
 | e::f₂::r,s,ι,σ,I=>by
  show SimV prog w hB A (eval e env >>= fun v=>standAt pos >>= fun _=>holding [v] (truthy v) >>= fun t=>_) _ s ι σ
  refine Sim.bind I.store.len (IH e s ι σ I) fun v σ₁ x h₁ tk₁ ι₁ e₁ X₁ r₁=>Sim.standAt pos ?_
  have I₁:=I.step X₁
  refine Sim.bind I₁.store.len ((zcc I₁.store I₁.stays r₁).holding [x]) fun b σ₂ t h₂ tk₂ ι₂ e₂ X₂ r₂=>?_
  have I₂:=I₁.step X₂
  have r₁':=r₁.step I₁.store.len X₂
  subst r₂
  have go:=zfj IH pos op (f₂::r) { s with heap:=h₂,toks:=tk₂ } ι₂ σ₂ I₂
  cases op <;> cases b
  ·exact Sim.pure I₂.store I₂.stays r₁'
  ·exact go
  ·exact go
  ·exact Sim.pure I₂.store I₂.stays r₁'
theorem zlf(op:CmpOp)(e:Expr)(t:Sem Value)(h:∀ a b c,e≠.Set a b c):markedBehindIn op e t=t:=by
 have:behindInMarks op e=false:=by
  cases e with
  | Set a b c=>exact absurd rfl (h a b c)
  | _=>rfl
 unfold markedBehindIn;rw [this]
theorem zjK(x:M PV)(f:PV→M PV)(g:PV→M PV):(x.bind fun b=>(f b).bind fun c=>(zan c).bind fun t=>M.cond t (g b) (M.ret c)).bind zan σ=(x.bind fun b=>(f b).bind fun c=>(zan c).bind fun t=>M.cond t ((g b).bind zan) (zan c)) σ:=by
 rw [M.bind_assoc]
 refine congrFun (congrArg (M.bind x) (funext fun b=>?_)) σ
 rw [M.bind_assoc]
 refine congrArg (M.bind _) (funext fun c=>?_)
 rw [M.bind_assoc]
 exact congrArg (M.bind _) (funext fun t=>M.cond_bind _ _ _ _)
theorem ziw{α β:Type}{R:Heap→Ad→zaa→α→β→Prop}{T:Value→Sem β}{U:Value→Sem β}{F:PV→M α}{G:PV→M α}{op:CmpOp}{e:Expr}{a:PV}{x:Value}(IH:EvIH prog w hB A env ρ fl E)(hu:A.units+600<cLine)(pos:Pos)(I:Inv prog w hB env ρ fl s.heap ι σ)(r:Rep s.heap ι σ a x)
  (hT:∀ b y h' tk ι' σ',Inv prog w hB env ρ fl h' ι' σ'→Rep h' ι' σ' b y→Sim prog w hB A R (T y) (F b) { s with heap:=h',toks:=tk } ι' σ')
  (hU:∀ z h' tk ι' σ',StoreOk prog w hB h' ι' σ'→hB.StaysIn h'→Rep h' ι' σ' (.bool false) z→Sim prog w hB A R (U z) (G (.bool false)) { s with heap:=h',toks:=tk } ι' σ') :
  Sim prog w hB A R (holding [x] (eval e env) >>= fun rv=>standAt pos >>= fun _=>holding [x,rv] (compareOp op x rv) >>= fun c=>release [x,rv] [c] >>= fun _=>holding [c,rv] (truthy c) >>= fun t=>if t then T rv else U c)
   ((E e).bind fun b=>(zac op a b).bind fun c=>(zan c).bind fun t=>M.cond t (F b) (G c)) s ι σ:=by
 refine Sim.bind I.store.len ((IH e s ι σ I).holding [x]) fun b σ₁ y h₁ tk₁ ι₁ e₁ X₁ r₁=>Sim.standAt pos ?_
 have I₁:=I.step X₁
 refine Sim.bind I₁.store.len (Sim.holding _ (zhP I₁.store I₁.stays (r.step I.store.len X₁) r₁ hu)) fun c σ₂ z h₂ tk₂ ι₂ e₂ X₂ r₂=>?_
 have I₂:=I₁.step X₂
 refine Sim.tree (t:=holding [z,y] (truthy z) >>= fun t=>if t then T y else U z) ?_ fun Q E k=>wpAny_bind (zdz _ _ k)
 refine Sim.bind I₂.store.len (Sim.holding _ (zcc I₂.store I₂.stays r₂)) fun t σ₃ u h₃ tk₃ ι₃ e₃ X₃ r₃=>?_
 subst r₃
 refine Sim.iff (fun _=>hT b y h₃ tk₃ ι₃ σ₃ (I₂.step X₃) ((r₁.step I₁.store.len X₂).step I₂.store.len X₃)) fun hu'=>?_
 cases c with
 | bool b'=>cases e₃;cases hu';exact hU z h₃ tk₃ ι₃ _ X₃.store X₃.stays (r₂.step I₂.store.len X₃)
 | _=>cases e₃
theorem zg0(IH:EvIH prog w hB A env ρ fl E)(hset:∀ a b c,E (.Set a b c)=M.fail)(hu:A.units+600<cLine)(pos:Pos):∀(ops:List CmpOp)(es:List Expr)(a:PV)(x:Value)(s:Shared)(ι:Ad)(σ:zaa),Inv prog w hB env ρ fl s.heap ι σ→Rep s.heap ι σ a x→
  SimV prog w hB A (compareChain pos x ops (markedEach ops es (evalEach es env))) (zie E a ops es) s ι σ∧
  Sim prog w hB A RB (testChain pos x ops (markedEach ops es (evalEach es env))) ((zie E a ops es).bind zan) s ι σ:=by
 intro ops
 induction ops with
 | nil=>intro es a x s ι σ I r;exact ⟨Sim.fail,Sim.bstuck rfl⟩
 | cons op ops ih=>
  intro es a x s ι σ I r
  cases es with
  | nil=>exact ⟨Sim.fail,Sim.bstuck rfl⟩
  | cons e es=>
   cases ops with
   | nil=>
    cases es with
    | cons _ _=>exact ⟨Sim.fail,Sim.bstuck rfl⟩
    | nil=>
     have go:markedEach [op] [e] (evalEach [e] env)=[eval e env]→SimV prog w hB A (compareChain pos x [op] (markedEach [op] [e] (evalEach [e] env))) (zie E a [op] [e]) s ι σ∧Sim prog w hB A RB (testChain pos x [op] (markedEach [op] [e] (evalEach [e] env))) ((zie E a [op] [e]).bind zan) s ι σ:=by
      intro hm
      rw [hm]
      refine ⟨?_,Sim.res ?_ (zah _ _ _)⟩
      ·exact Sim.bind I.store.len ((IH e s ι σ I).holding [x]) fun b σ₁ y h₁ tk₁ ι₁ e₁ X₁ r₁=>Sim.standAt pos (Sim.operate _ (zhP X₁.store X₁.stays (r.step I.store.len X₁) r₁ hu))
      ·exact Sim.bind I.store.len ((IH e s ι σ I).holding [x]) fun b σ₁ y h₁ tk₁ ι₁ e₁ X₁ r₁=>Sim.standAt pos
        (Sim.bind X₁.store.len (Sim.operate _ (zhP X₁.store X₁.stays (r.step I.store.len X₁) r₁ hu)) fun c σ₂ z h₂ tk₂ ι₂ e₂ X₂ r₂=>Sim.holding _ (zcc X₂.store X₂.stays r₂))
     by_cases q:zbZ e=4
     ·have hs:E e=M.fail:=by
       cases e with
       | Set b c d=>exact hset b c d
       | _=>cases q
      exact ⟨Sim.bstuck (by rw [hs];rfl),Sim.bstuck (zae (by rw [hs];rfl))⟩
     ·exact go (congrArg (·::[]) (zlf op e _ fun a b c q'=>q (by rw [q'];rfl)))
   | cons op₂ ops=>
    refine ⟨?_,Sim.res ?_ (zjK _ _ _)⟩
    ·exact ziw (T:=fun y=>compareChain pos y (op₂::ops) (markedEach (op₂::ops) es (evalEach es env))) (U:=Pure.pure) (G:=M.ret) IH hu pos I r (fun b y h' tk ι' σ' I' r'=>(ih es b y _ ι' σ' I' r').1) fun z h' tk ι' σ' S B r'=>Sim.pure S B r'
    ·exact ziw (T:=fun y=>testChain pos y (op₂::ops) (markedEach (op₂::ops) es (evalEach es env))) (U:=fun _=>Pure.pure false) (G:=zan) IH hu pos I r (fun b y h' tk ι' σ' I' r'=>(ih es b y _ ι' σ' I' r').2) fun z h' tk ι' σ' S B r'=>Sim.pure S B rfl
end
section
variable {prog:Program} {w:World} {hB:Heap} {A:Around} {s:Shared} {ι:Ad} {σ:zaa} {env:Env} {ρ:Loc} {fl:List Env} {sc:Scope} {E:Expr→M PV}
theorem M.bind_ret{α:Type}(x:M α)(σ:zaa):x σ=(x.bind fun a=>M.ret a) σ:=by
 unfold M.bind;cases x σ <;> rfl
theorem zku{e:Expr}{r:M PV}{t:Sem Value}(hl:ι.vis.length=σ.length)(h:SimV prog w hB A t r s ι σ):Sim prog w hB A RB (t >>= fun v=>standAt e.pos >>= fun _=>holding [v] (truthy v)) (r.bind zan) s ι σ:=
 Sim.bind hl h fun _ _ _ _ _ _ _ X₁ r₁=>Sim.standAt _ (Sim.holding _ (zcc X₁.store X₁.stays r₁))
noncomputable def zqk(op:BoolOp)(b:Bool):Bool:=match op with
 | .And=>!b
 | .Or=>b
theorem zmg(op:BoolOp)(x:M PV)(g:M PV):((x.bind fun v=>(zan v).bind fun b=>match op,b with | .And,false=>M.ret v | .Or,true=>M.ret v | _,_=>g).bind zan) σ=((x.bind zan).bind fun b=>M.cond (zqk op b) (M.ret b) (g.bind zan)) σ:=by
 rw [zah,zah]
 refine congrFun (congrArg (M.bind x) (funext fun v=>?_)) σ
 cases v with
 | bool b=>cases op <;> cases b <;> rfl
 | _=>rfl
theorem zew (T:∀ e s ι σ,Inv prog w hB env ρ fl s.heap ι σ→Sim prog w hB A RB (isTrue e env (eval e env)) ((E e).bind zan) s ι σ) (op:BoolOp):∀(es:List Expr)(s:Shared)(ι:Ad)(σ:zaa),Inv prog w hB env ρ fl s.heap ι σ→es≠[]→
  Sim prog w hB A RB (allTrue op es env) ((zfE E op es).bind zan) s ι σ
 | [],s,ι,σ,I,h=>absurd rfl h
 | [e],s,ι,σ,I,_=>by
  show Sim prog w hB A RB (isTrue e env (eval e env) >>= fun t=>match op,t with | .And,false=>Pure.pure false | .Or,true=>Pure.pure true | _,_=>allTrue op [] env) ((E e).bind zan) s ι σ
  have:(E e).bind zan=((E e).bind zan).bind fun b=>M.ret b:=by
   funext σ;exact M.bind_ret _ σ
  rw [this]
  refine Sim.bind I.store.len (T e s ι σ I) fun b σ₁ t h₁ tk₁ ι₁ e₁ X₁ r₁=>?_
  subst r₁
  cases op <;> cases b <;> exact Sim.pure X₁.store X₁.stays rfl
 | e::f::r,s,ι,σ,I,_=>by
  show Sim prog w hB A RB (isTrue e env (eval e env) >>= fun t=>match op,t with | .And,false=>Pure.pure false | .Or,true=>Pure.pure true | _,_=>allTrue op (f::r) env)
   (((E e).bind fun v=>(zan v).bind fun b=>match op,b with | .And,false=>M.ret v | .Or,true=>M.ret v | _,_=>zfE E op (f::r)).bind zan) s ι σ
  refine Sim.res ?_ (zmg op _ _)
  refine Sim.bind I.store.len (T e s ι σ I) fun b σ₁ t h₁ tk₁ ι₁ e₁ X₁ r₁=>?_
  subst r₁
  have go:=zew T op (f::r) { s with heap:=h₁,toks:=tk₁ } ι₁ σ₁ (I.step X₁) (by simp)
  cases op <;> cases b
  ·exact Sim.pure X₁.store X₁.stays rfl
  ·exact go
  ·exact go
  ·exact Sim.pure X₁.store X₁.stays rfl
theorem zk6(x:M PV):((x.bind fun a=>(zan a).bind fun b=>M.ret (PV.bool !b)).bind zan) σ=((x.bind zan).bind fun b=>M.ret (!b)) σ:=by
 rw [M.bind_assoc,M.bind_assoc]
 exact congrFun (congrArg (M.bind x) (funext fun a=>M.bind_assoc _ _ _)) σ
theorem zm7{α:Type}(x:M PV)(f:Bool→M α):(x.bind fun v=>(zan v).bind f) σ=((x.bind zan).bind f) σ:=(zah x zan f).symm
theorem zlF(x a b:M PV):((x.bind fun v=>(zan v).bind fun c=>M.cond c a b).bind zan) σ=((x.bind zan).bind fun c=>M.cond c (a.bind zan) (b.bind zan)) σ:=by
 rw [zah,zah]
 refine congrFun (congrArg (M.bind x) (funext fun v=>?_)) σ
 rw [M.bind_assoc]
 exact congrArg (M.bind _) (funext fun c=>M.cond_bind _ _ _ _)
theorem zdx{cx:Cx}(hu:A.units+600<cLine):∀(n:Nat),(∀ k,k≤n→EvIH prog w hB A env ρ fl (ev cx k sc ρ))→∀(e:Expr)(s:Shared)(ι:Ad)(σ:zaa),Inv prog w hB env ρ fl s.heap ι σ→
  Sim prog w hB A RB (isTrue e env (eval e env)) ((ev cx n sc ρ e).bind zan) s ι σ:=by
 intro n
 induction n with
 | zero=>intro _ e s ι σ I;exact Sim.stuck rfl
 | succ n ih=>
  intro IH e s ι σ I
  have T:=ih fun k hk=>IH k (Nat.le_succ_of_le hk)
  have IHn:=IH n (Nat.le_succ n)
  have W:∀ e',e'=e→Sim prog w hB A RB (eval e' env >>= fun v=>standAt e'.pos >>= fun _=>holding [v] (truthy v)) ((ev cx (n+1) sc ρ e').bind zan) s ι σ:=fun e' q=>zku I.store.len (IH (n+1) (Nat.le_refl _) e' s ι σ I)
  cases e with
  | UnaryOp op x p=>
   cases op with
   | Not=>
    show Sim prog w hB A RB (isTrue x env (eval x env) >>= fun b=>Pure.pure (!b)) _ s ι σ
    refine Sim.res ?_ (zk6 _)
    exact Sim.map (T x s ι σ I) fun _ _ _ a b q=>by rw [show a=b from q]
   | _=>exact W _ rfl
  | BoolOp op vs p=>
   show Sim prog w hB A RB (allTrue op vs env) ((zfE (ev cx n sc ρ) op vs).bind zan) s ι σ
   cases vs with
   | nil=>exact Sim.stuck rfl
   | cons v vs=>exact zew T op (v::vs) s ι σ I (by simp)
  | IfExp t a b p=>
   show Sim prog w hB A RB (isTrue t env (eval t env) >>= fun c=>if c then isTrue a env (eval a env) else isTrue b env (eval b env)) _ s ι σ
   refine Sim.res ?_ (zlF _ _ _)
   refine Sim.bind I.store.len (T t s ι σ I) fun c σ₁ x h₁ tk₁ ι₁ e₁ X₁ r₁=>?_
   subst r₁
   exact Sim.iff (fun _=>T a _ _ _ (I.step X₁)) fun _=>T b _ _ _ (I.step X₁)
  | Compare l ops cs p=>
   show Sim prog w hB A RB (eval l env >>= fun v=>testChain p v ops (markedEach ops cs (evalEach cs env))) _ s ι σ
   refine Sim.res ?_ (zah _ _ _)
   refine Sim.bind I.store.len (IHn l s ι σ I) fun a σ₁ x h₁ tk₁ ι₁ e₁ X₁ r₁=>?_
   exact (zg0 IHn (fun a b c=>by cases n <;> rfl) hu p ops cs a x _ ι₁ σ₁ (I.step X₁) r₁).2
  | _=>exact W _ rfl
theorem zkv{op:UnaryOp}{x:Expr}{p:Pos}{cx:Cx}{n:Nat}(IH:EvIH prog w hB A env ρ fl (ev cx n sc ρ))(I:Inv prog w hB env ρ fl s.heap ι σ) :
  SimV prog w hB A (eval (.UnaryOp op x p) env) (ev cx (n+1) sc ρ (.UnaryOp op x p)) s ι σ:=by
 cases op with
 | Not=>
  show SimV prog w hB A (eval x env >>= fun v=>standAt p >>= fun _=>holding [v] (unaryOp .Not v)) ((ev cx n sc ρ x).bind fun a=>(zan a).bind fun b=>M.ret (.bool !b)) s ι σ
  refine Sim.bind I.store.len (IH x s ι σ I) fun a σ₁ y h₁ tk₁ ι₁ e₁ X₁ r₁=>Sim.standAt p (Sim.holding _ ?_)
  refine Sim.tree (t:=truthy y >>= fun b=>Pure.pure (.bool (!b))) (Sim.map (f:=fun b=>Value.bool (!b)) (zcc X₁.store X₁.stays r₁) fun _ _ _ a b q=>by rw [show a=b from q];exact .bool _) fun Q E k=>?_
  unfold unaryOp
  exact wpAny_holding k
 | USub=>
  show SimV prog w hB A (eval x env >>= fun v=>standAt p >>= fun _=>holding [v] (unaryOp .USub v)) ((ev cx n sc ρ x).bind fun a=>onInt a fun i=>M.ret (.int (-i))) s ι σ
  refine Sim.bind I.store.len (IH x s ι σ I) fun a σ₁ y h₁ tk₁ ι₁ e₁ X₁ r₁=>Sim.standAt p (Sim.holding _ ?_)
  exact Sim.onInt r₁ fun i t=>Sim.val X₁.store X₁.stays rfl fun Q E h=>P.neg_int (h _ _ (.int _ _))
 | _=>exact Sim.stuck rfl
theorem zju{op:Operator}{l r:Expr}{p:Pos}{cx:Cx}{n:Nat}(IH:EvIH prog w hB A env ρ fl (ev cx n sc ρ))(I:Inv prog w hB env ρ fl s.heap ι σ) :
  SimV prog w hB A (eval (.BinOp l op r p) env) (ev cx (n+1) sc ρ (.BinOp l op r p)) s ι σ:=by
 show SimV prog w hB A (eval l env >>= fun a=>holding [a] (eval r env) >>= fun b=>standAt p >>= fun _=>operate [a,b] (binaryOp op a b)) ((ev cx n sc ρ l).bind fun a=>(ev cx n sc ρ r).bind fun b=>zng cx p op a b) s ι σ
 refine Sim.bind I.store.len (IH l s ι σ I) fun a σ₁ x h₁ tk₁ ι₁ e₁ X₁ r₁=>?_
 have I₁:=I.step X₁
 refine Sim.bind I₁.store.len (Sim.holding _ (IH r _ ι₁ σ₁ I₁)) fun b σ₂ y h₂ tk₂ ι₂ e₂ X₂ r₂=>Sim.standAt p (Sim.operate _ ?_)
 exact zkL X₂.store X₂.stays (r₁.step I₁.store.len X₂) r₂
theorem zkD{t a b:Expr}{p:Pos}{cx:Cx}{n:Nat}(hu:A.units+600<cLine)(IH:∀ k,k≤n→EvIH prog w hB A env ρ fl (ev cx k sc ρ))(I:Inv prog w hB env ρ fl s.heap ι σ) :
  SimV prog w hB A (eval (.IfExp t a b p) env) (ev cx (n+1) sc ρ (.IfExp t a b p)) s ι σ:=by
 show SimV prog w hB A (isTrue t env (eval t env) >>= fun c=>if c then eval a env else eval b env) _ s ι σ
 refine Sim.res ?_ (zm7 _ _)
 refine Sim.bind I.store.len (zdx hu n IH t s ι σ I) fun c σ₁ x h₁ tk₁ ι₁ e₁ X₁ r₁=>?_
 subst r₁
 exact Sim.iff (fun _=>IH n (Nat.le_refl _) a _ _ _ (I.step X₁)) fun _=>IH n (Nat.le_refl _) b _ _ _ (I.step X₁)
theorem zhO{l:Expr}{ops:List CmpOp}{cs:List Expr}{p:Pos}{cx:Cx}{n:Nat}(hu:A.units+600<cLine)(IH:EvIH prog w hB A env ρ fl (ev cx n sc ρ))(I:Inv prog w hB env ρ fl s.heap ι σ) :
  SimV prog w hB A (eval (.Compare l ops cs p) env) (ev cx (n+1) sc ρ (.Compare l ops cs p)) s ι σ:=by
 show SimV prog w hB A (eval l env >>= fun v=>compareChain p v ops (markedEach ops cs (evalEach cs env))) ((ev cx n sc ρ l).bind fun a=>zie (ev cx n sc ρ) a ops cs) s ι σ
 refine Sim.bind I.store.len (IH l s ι σ I) fun a σ₁ x h₁ tk₁ ι₁ e₁ X₁ r₁=>?_
 exact (zg0 IH (fun a b c=>by cases n <;> rfl) hu p ops cs a x _ ι₁ σ₁ (I.step X₁) r₁).1
theorem za0{cx:Cx}{n:Nat}(e:Expr)(p:Pos):ev cx n sc ρ (.Starred e p)=M.fail:=by cases n <;> rfl
theorem zjf{es:List Expr}{b:Nat}{p:Pos}{cx:Cx}{n:Nat}(IH:EvIH prog w hB A env ρ fl (ev cx n sc ρ))(I:Inv prog w hB env ρ fl s.heap ι σ) :
  SimV prog w hB A (eval (.Tuple es b p) env) (ev cx (n+1) sc ρ (.Tuple es b p)) s ι σ:=by
 show SimV prog w hB A (standAt p >>= fun _=>spliced (backTo p (starEach es env)) >>= fun vs=>newTuple vs) (M.cond (decide (es.length≤100)) ((evs (ev cx n sc ρ) es).bind fun vs=>M.ret (.tup vs)) M.fail) s ι σ
 refine Sim.standAt p (Sim.cond (fun hl=>?_) fun _=>Sim.fail)
 refine Sim.bind I.store.len (zbU IH za0 p es s ι σ I) fun vs σ₁ ys h₁ tk₁ ι₁ e₁ X₁ r₁=>zn1 X₁.store X₁.stays r₁ ?_
 rw [← r₁.length,zdG _ _ _ _ _ e₁]
 exact Nat.le_trans (of_decide_eq_true hl) (by decide)
theorem zkA{es:List Expr}{p:Pos}{cx:Cx}{n:Nat}(IH:EvIH prog w hB A env ρ fl (ev cx n sc ρ))(I:Inv prog w hB env ρ fl s.heap ι σ) :
  SimV prog w hB A (eval (.List es p) env) (ev cx (n+1) sc ρ (.List es p)) s ι σ:=by
 show SimV prog w hB A (standAt p >>= fun _=>spliced (backTo p (starEach es env)) >>= fun vs=>newList vs) (M.cond (decide (es.length≤100)) ((evs (ev cx n sc ρ) es).bind fun vs=>zaw cx p vs) M.fail) s ι σ
 refine Sim.standAt p (Sim.cond (fun hl=>?_) fun _=>Sim.fail)
 refine Sim.bind I.store.len (zbU IH za0 p es s ι σ I) fun vs σ₁ ys h₁ tk₁ ι₁ e₁ X₁ r₁=>zjm X₁.store X₁.stays r₁ ?_
 rw [← r₁.length,zdG _ _ _ _ _ e₁]
 exact Nat.le_trans (of_decide_eq_true hl) (by decide)
theorem zc1(IH:EvIH prog w hB A env ρ fl E)(I:Inv prog w hB env ρ fl s.heap ι σ)(o:Option Expr):Sim prog w hB A (fun _ _ _ a x=>IsPart x a) (valueOrNone (evalOpt o env)) (zbJ E o) s ι σ:=by
 cases o with
 | none=>exact Sim.pure I.store I.stays .none
 | some e=>
  show Sim prog w hB A _ (eval e env) ((E e).bind fun v=>M.lift (zk1 v)) s ι σ
  intro Q Er hns hok herr
  have hne:E e σ≠.stuck:=fun q=>hns (zae q)
  refine IH e s ι σ I Q Er hne (fun v σ₁ e₁ x h₁ tk₁ ι₁ X₁ r₁=>?_) (fun C σ₁ e₁ e h₁ tk₁ ι₁ X₁ F₁=>herr C σ₁ (zam e₁) e h₁ tk₁ ι₁ X₁ F₁)
  cases v with
  | none=>cases r₁.inv;exact hok _ σ₁ (zab e₁) _ h₁ tk₁ ι₁ X₁ .none
  | int i=>obtain ⟨t,rfl⟩:=r₁.inv;exact hok _ σ₁ (zab e₁) _ h₁ tk₁ ι₁ X₁ (.int i t)
  | _=>exact (hns (zab e₁)).elim
theorem zkx(IH:EvIH prog w hB A env ρ fl E)(I:Inv prog w hB env ρ fl s.heap ι σ)(lo hi:Option Expr):Sim prog w hB A (fun h _ _ (c:Option Int×Option Int) k=>∃ sl vl vu,k=.ref sl∧h.IsSliceOf sl vl vu .none∧IsPart vl c.1∧IsPart vu c.2)
  (valueOrNone (evalOpt lo env) >>= fun l=>holding [l] (valueOrNone (evalOpt hi env)) >>= fun u=>holding [l,u] (Pure.pure .none) >>= fun st=>newFields "slice" [l,u,st])
  ((zbJ E lo).bind fun l=>(zbJ E hi).bind fun h=>M.ret (l,h)) s ι σ:=by
 refine Sim.bind I.store.len (zc1 IH I lo) fun l σ₂ vl h₂ tk₂ ι₂ e₂ X₂ pl=>?_
 have I₂:=I.step X₂
 refine Sim.bind I₂.store.len (Sim.holding _ (zc1 IH I₂ hi)) fun u σ₃ vu h₃ tk₃ ι₃ e₃ X₃ pu=>?_
 refine Sim.tree (t:=newFields "slice" [vl,vu,.none]) ?_ fun Q E k=>wpAny_bind (wpAny_holding (wpAny_pure k))
 intro Q Er hns hok herr
 exact wpAny_newObj_type (hok _ σ₃ rfl _ _ tk₃ ι₃ (Step.push X₃.store X₃.stays _) ⟨_,vl,vu,rfl,Heap.IsSliceOf.new _ _ _ _,pl,pu⟩)
theorem zjh(IH:EvIH prog w hB A env ρ fl E)(I:Inv prog w hB env ρ fl s.heap ι σ)(st:Expr):Sim prog w hB A (fun h _ _ (c:Option Int) k=>∃ sl vl vu vk,k=.ref sl∧h.IsSliceOf sl vl vu vk∧IsPart vl none∧IsPart vu none∧IsPart vk c)
  (valueOrNone (evalOpt none env) >>= fun l=>holding [l] (valueOrNone (evalOpt none env)) >>= fun u=>holding [l,u] (valueOrNone (evalOpt (some st) env)) >>= fun st=>newFields "slice" [l,u,st])
  (zbJ E (some st)) s ι σ:=by
 refine Sim.res ?_ (show _=((zbJ E none).bind fun l=>(zbJ E none).bind fun h=>(zbJ E (some st)).bind fun k=>M.ret k) σ from M.bind_ret (zbJ E (some st)) σ)
 refine Sim.bind I.store.len (zc1 IH I none) fun l σ₂ vl h₂ tk₂ ι₂ e₂ X₂ pl=>?_
 have I₂:=I.step X₂
 refine Sim.bind I₂.store.len (Sim.holding _ (zc1 IH I₂ none)) fun u σ₃ vu h₃ tk₃ ι₃ e₃ X₃ pu=>?_
 have I₃:=I₂.step X₃
 refine Sim.bind I₃.store.len (Sim.holding _ (zc1 IH I₃ (some st))) fun k σ₄ vk h₄ tk₄ ι₄ e₄ X₄ pk=>?_
 have hl:l=none:=by injection e₂ with q;exact q.symm
 have hu:u=none:=by injection e₃ with q;exact q.symm
 subst hl;subst hu
 intro Q Er hns hok herr
 exact wpAny_newObj_type (hok _ σ₄ rfl _ _ tk₄ ι₄ (Step.push X₄.store X₄.stays _) ⟨_,vl,vu,vk,rfl,Heap.IsSliceOf.new _ _ _ _,pl,pu,pk⟩)
theorem zhK{α β γ:Type}(a:M α)(b:M β)(f:α→β→M γ):(a.bind fun l=>b.bind fun h=>f l h) σ=((a.bind fun l=>b.bind fun h=>M.ret (l,h)).bind fun c=>f c.1 c.2) σ:=by
 rw [zah]
 exact congrFun (congrArg (M.bind a) (funext fun l=>(M.bind_assoc b (fun h=>M.ret (l,h)) (fun c=>f c.1 c.2)).symm)) σ
theorem zms{v i:Expr}{p:Pos}{cx:Cx}(IH:EvIH prog w hB A env ρ fl E)(I:Inv prog w hB env ρ fl s.heap ι σ) :
  SimV prog w hB A (eval (.Subscript v i p) env) (znb cx E v i p) s ι σ:=by
 have plain:znb cx E v i p=((E v).bind fun o=>(E i).bind fun k=>index o k)→eval (.Subscript v i p) env=(eval v env >>= fun o=>holding [o] (eval i env) >>= fun k=>standAt p >>= fun _=>subscriptTail v i o k)→SimV prog w hB A (eval (.Subscript v i p) env) (znb cx E v i p) s ι σ:=by
  intro q q'
  rw [q,q']
  refine Sim.bind I.store.len (IH v s ι σ I) fun o σ₁ x h₁ tk₁ ι₁ e₁ X₁ r₁=>?_
  exact Sim.bind X₁.store.len (Sim.holding _ (IH i _ ι₁ σ₁ (I.step X₁))) fun k σ₂ y h₂ tk₂ ι₂ e₂ X₂ r₂=>Sim.standAt p (zkC X₂.store X₂.stays (r₁.step X₁.store.len X₂) r₂)
 cases i with
 | Slice lo hi st q=>
  cases st with
  | some st=>
   cases lo with
   | some _=>exact Sim.fail
   | none=>
    cases hi with
    | some _=>exact Sim.fail
    | none=>
     show SimV prog w hB A (eval v env >>= fun o=>holding [o] (valueOrNone (evalOpt none env) >>= fun l=>holding [l] (valueOrNone (evalOpt none env)) >>= fun u=>holding [l,u] (valueOrNone (evalOpt (some st) env)) >>= fun st=>newFields "slice" [l,u,st]) >>= fun k=>standAt p >>= fun _=>subscriptTail v (.Slice none none (some st) q) o k)
      ((E v).bind fun o=>(zbJ E (some st)).bind fun k=>revL cx p o k) s ι σ
     refine Sim.bind I.store.len (IH v s ι σ I) fun o σ₁ x h₁ tk₁ ι₁ e₁ X₁ r₁=>?_
     refine Sim.bind X₁.store.len (Sim.holding _ (zjh IH (I.step X₁) st)) fun c σ₂ k h₂ tk₂ ι₂ e₂ X₂ r₂=>Sim.standAt p ?_
     obtain ⟨sl,vl,vu,vk,rfl,hs,pl,pu,pk⟩:=r₂
     exact zn3 X₂.store X₂.stays (r₁.step X₁.store.len X₂) hs pl pu pk
  | none=>
   show SimV prog w hB A (eval v env >>= fun o=>holding [o] (valueOrNone (evalOpt lo env) >>= fun l=>holding [l] (valueOrNone (evalOpt hi env)) >>= fun u=>holding [l,u] (Pure.pure .none) >>= fun st=>newFields "slice" [l,u,st]) >>= fun k=>standAt p >>= fun _=>subscriptTail v (.Slice lo hi none q) o k)
    ((E v).bind fun o=>(zbJ E lo).bind fun l=>(zbJ E hi).bind fun h=>cut cx p false o l h) s ι σ
   refine Sim.bind I.store.len (IH v s ι σ I) fun o σ₁ x h₁ tk₁ ι₁ e₁ X₁ r₁=>?_
   refine Sim.res ?_ (zhK _ _ _)
   refine Sim.bind X₁.store.len (Sim.holding _ (zkx IH (I.step X₁) lo hi)) fun c σ₂ k h₂ tk₂ ι₂ e₂ X₂ r₂=>Sim.standAt p ?_
   obtain ⟨sl,vl,vu,rfl,hs,pl,pu⟩:=r₂
   exact zoa X₂.store X₂.stays (r₁.step X₁.store.len X₂) hs pl pu
 | _=>exact plain rfl rfl
end
end Mine
namespace Mine
open PySem PySem.SeqAt PyProof.Rows PySem.W
noncomputable def zhE:Tn→String
 | .none=>"NoneType" | .bool=>"bool" | .int=>"int" | .str=>"str" | .tuple=>"tuple" | .list=>"list" | .dict=>"dict"
noncomputable def zer:Ty→Value
 | .bi T=>.type (zhE T)
 | .valueError=>.type "ValueError"
 | .own C=>.ref C
structure ClsOk (K:Frag) (G:Gl):Prop where
section
variable {K:Frag}
theorem zpQ(T U:Tn):kitOne K (.type (zhE T)) (.type (zhE U))=some (subT T U):=by
 cases T <;> cases U <;> first | rfl | decide +kernel
variable {prog:Program} {w:World} {hB:Heap} {A:Around} {s:Shared} {ι:Ad} {σ:zaa} {env:Env} {ρ:Loc} {fl:List Env} {sc:Scope} {G:Gl}
theorem zih{i:Nat}{c:Cel}{σ':zaa}(h:cget i σ=.ok c σ'):σ'=σ∧σ[i]?=some c:=by
 unfold cget at h
 cases q:σ[i]? with
 | none=>rw [q] at h;cases h
 | some c=>rw [q] at h;cases h;exact ⟨rfl,rfl⟩
theorem zcy{i:Nat}{C:Addr}{σ':zaa}(h:cget i σ=.err C σ'):False:=by
 unfold cget at h
 cases q:σ[i]? with
 | none=>rw [q] at h;cases h
 | some c=>rw [q] at h;cases h
theorem zcn{T:Tn}{t:Ty}{b:Bool}{σ':zaa}(h:isBi T t σ=.ok b σ'):σ'=σ∧kitOne K (.type (zhE T)) (zer t)=some b:=by
 cases t with
 | bi U=>cases h;exact ⟨rfl,zpQ T U⟩
 | _=>cases h
theorem zlu{v:PV}{x:Value}{t₀:Ty}(C:ClsOk K G)(S:StoreOk prog w hB s.heap ι σ)(r:Rep s.heap ι σ v x)(hne:zbP G t₀ v σ≠.stuck) :
  ∃ tv H,KitX K x tv H∧H s.heap∧x≠.builtin "__main__.__loader__#opaque"∧∀ t b σ',zbP G t v σ=.ok b σ'→σ'=σ∧kitOne K tv (zer t)=some b:=by
 cases v with
 | none=>cases r.inv;exact ⟨_,_,kitx_none,trivial,(fun q=>nomatch q),fun t b σ' h=>zcn (T:=.none) h⟩
 | bool b=>cases r.inv;exact ⟨_,_,kitx_bool,trivial,(fun q=>nomatch q),fun t b σ' h=>zcn (T:=.bool) h⟩
 | int i=>obtain ⟨_,rfl⟩:=r.inv;exact ⟨_,_,kitx_int,trivial,(fun q=>nomatch q),fun t b σ' h=>zcn (T:=.int) h⟩
 | str i=>obtain ⟨_,rfl⟩:=r.inv;exact ⟨_,_,kitx_str,trivial,(fun q=>nomatch q),fun t b σ' h=>zcn (T:=.str) h⟩
 | tup xs=>obtain ⟨_,_,_,rfl,e,_⟩:=r.inv;exact ⟨_,_,kitx_tuple,⟨_,e,rfl⟩,(fun q=>nomatch q),fun t b σ' h=>zcn (T:=.tuple) h⟩
 | lst xs=>obtain ⟨_,_,_,rfl,e,_⟩:=r.inv;exact ⟨_,_,kitx_list,⟨_,e,rfl⟩,(fun q=>nomatch q),fun t b σ' h=>zcn (T:=.list) h⟩
 | ref i=>
  obtain ⟨a,rfl,hi⟩:=r.inv
  cases hc:cget i σ with
  | err=>exact (zcy hc).elim
  | stuck=>exact (hne (zae hc)).elim
  | ok c σ₁=>
   obtain ⟨rfl,hc'⟩:=zih hc
   cases c with
   | list xs=>
    obtain ⟨vs,⟨n,hp⟩,_⟩:=S.ok _ _ _ hi hc'
    exact ⟨_,_,kitx_list,⟨_,hp,rfl⟩,(fun q=>nomatch q),fun t b σ' h=>zcn (T:=.list) ((zab hc).symm.trans h)⟩
   | dict kvs=>
    obtain ⟨ys,hd,_⟩:=S.ok _ _ _ hi hc'
    exact ⟨_,_,kitx_dict,hd.typeIs (s:=s),(fun q=>nomatch q),fun t b σ' h=>zcn (T:=.dict) ((zab hc).symm.trans h)⟩
   | dead=>exact (hne (zab hc)).elim
 | exc D=>exact (hne rfl).elim
theorem zdf{β:Type}{x:Str}{v:β}:∀{l:List (Str×β)},l.lookup x=some v→(x,v)∈l
 | (y,w)::l,h=>by
  rw [List.lookup_cons] at h
  cases q:x==y with
  | true=>rw [q] at h;cases h;rw [eq_of_beq q];exact .head _
  | false=>rw [q] at h;exact .tail _ (zdf h)
theorem zkc:∀ e∈tyTab,bis.lookup e.1=some (zer e.2):=by decide +kernel
theorem ziu{cx:Cx}{x:Str}{pos:Pos}{t:Ty}(hG:GOk hB cx.G)(H:EnvOk env sc)(hB':hB.StaysIn s.heap)(ht:tyOf cx sc ρ x=some t)(Q:Value→Shared→Prop)(E:Value→Shared→Prop)(h:Q (zer t) s) :
  wpAny (model prog w) A (eval (.Name x pos) env) Q E s:=by
 unfold tyOf at ht
 cases hr:zaW cx sc ρ x with
 | none=>rw [hr] at ht;cases ht
 | some c=>
  rw [hr] at ht
  cases c with
  | cls a=>cases ht;exact zbh hG H hB' hr ⟨_,rfl⟩ Q E fun v hv=>by cases hv;exact h
  | bi y=>
   have hb:bis.lookup y=some (zer t):=zkc _ (zdf ht)
   exact zbh hG H hB' hr ⟨_,hb⟩ Q E fun v' hv=>by
    have hv':bis.lookup y=some v':=hv
    rw [hb] at hv';cases hv';exact h
  | _=>cases ht
end
section
variable {prog:Program} {w:World} {hB:Heap} {A:Around} {s:Shared} {ι:Ad} {σ:zaa} {env:Env} {ρ:Loc} {fl:List Env} {sc:Scope} {E:Expr→M PV} {K:Frag}
theorem Sim.nest{α β γ δ:Type}{R:Heap→Ad→zaa→α→β→Prop}{R':Heap→Ad→zaa→δ→γ→Prop}{t:Sem β}{k:β→Sem γ}{r:M α}{f:α→M δ}(hl:ι.vis.length=σ.length)
  (h1:Sim prog w hB A R t r s ι σ)
  (h2:∀ a σ' x h' tk ι',r σ=.ok a σ'→Step prog w hB s.heap ι σ h' ι' σ'→R h' ι' σ' a x→Sim prog w hB A R' (k x) (f a) { s with heap:=h',toks:=tk } ι' σ')
  (Q:γ→Shared→Prop) (E:Value→Shared→Prop) (hns:(r.bind f) σ≠.stuck)
  (hok:∀ a σ',(r.bind f) σ=.ok a σ'→∀ x h' tk ι',Step prog w hB s.heap ι σ h' ι' σ'→R' h' ι' σ' a x→Q x { s with heap:=h',toks:=tk })
  (herr:∀ C σ',(r.bind f) σ=.err C σ'→∀ e h' tk ι',Step prog w hB s.heap ι σ h' ι' σ'→Fly s.heap h' e C→E (.ref e) { s with heap:=h',toks:=tk }) :
  wpAny (model prog w) A t (fun x s₁=>wpAny (model prog w) A (k x) Q E s₁) E s:=by
 have hne:r σ≠.stuck:=fun q=>hns (zae q)
 refine h1 _ _ hne (fun a σ₁ e₁ x h₁ tk₁ ι₁ X₁ r₁=>?_) (fun C σ₁ e₁ e h₁ tk₁ ι₁ X₁ F₁=>?_)
 ·have hb:(r.bind f) σ=f a σ₁:=zab e₁
  refine h2 a σ₁ x h₁ tk₁ ι₁ e₁ X₁ r₁ Q E (by rw [← hb];exact hns) (fun b σ₂ e₂ y h₂ tk₂ ι₂ X₂ r₂=>?_) (fun C σ₂ e₂ e h₂ tk₂ ι₂ X₂ F₂=>?_)
  ·exact hok b σ₂ (hb.trans e₂) y h₂ tk₂ ι₂ (X₁.trans hl X₂) r₂
  ·exact herr C σ₂ (hb.trans e₂) e h₂ tk₂ ι₂ (X₁.trans hl X₂) (F₂.older X₁.evo.alive)
 ·exact herr C σ₁ (zam e₁) e h₁ tk₁ ι₁ X₁ F₁
theorem Sim.arg0{α β:Type}{R:Heap→Ad→zaa→α→β→Prop}{t:List Value→Sem β}{k:M α}{vs:List PV}{xs:List Value}(r:RepL s.heap ι σ vs xs)(h:Sim prog w hB A R (t []) k s ι σ):Sim prog w hB A R (t xs) (arg0 vs k) s ι σ:=by
 cases r with
 | nil=>exact h
 | cons=>exact Sim.fail
theorem Sim.arg1{α β:Type}{R:Heap→Ad→zaa→α→β→Prop}{t:List Value→Sem β}{k:PV→M α}{vs:List PV}{xs:List Value}(r:RepL s.heap ι σ vs xs)(h:∀ v x,Rep s.heap ι σ v x→Sim prog w hB A R (t [x]) (k v) s ι σ):Sim prog w hB A R (t xs) (arg1 vs k) s ι σ:=by
 cases r with
 | nil=>exact Sim.fail
 | cons r rs=>exact Sim.arg0 (t:=fun xs=>t (_::xs)) rs (h _ _ r)
theorem Sim.arg2{α β:Type}{R:Heap→Ad→zaa→α→β→Prop}{t:List Value→Sem β}{k:PV→PV→M α}{vs:List PV}{xs:List Value}(r:RepL s.heap ι σ vs xs)(h:∀ v x u y,Rep s.heap ι σ v x→Rep s.heap ι σ u y→Sim prog w hB A R (t [x,y]) (k v u) s ι σ):Sim prog w hB A R (t xs) (arg2 vs k) s ι σ:=by
 cases r with
 | nil=>exact Sim.fail
 | cons r rs=>exact Sim.arg1 (t:=fun xs=>t (_::xs)) rs fun u y r'=>h _ _ u y r r'
theorem zaU{e:Expr}{r:List Expr}(h:zat (e::r)=true):zat r=true∧∀ x p,e≠.Starred x p:=by
 unfold zat at h ⊢
 rw [Bool.and_eq_true,List.all_cons,Bool.and_eq_true] at h
 exact ⟨Bool.and_eq_true_iff.mpr ⟨decide_eq_true (Nat.le_of_succ_le (of_decide_eq_true h.1)),h.2.2⟩,fun x p q=>by have:=h.2.1;rw [q] at this;cases this⟩
theorem zaP(pos:Pos):∀{es:List Expr},zat es=true→(backTo pos (starEach es env)).any (·.1)=false
 | [],_=>rfl
 | e::r,h=>by
  obtain ⟨h1,h2⟩:=zaU h
  rw [zaO e r h2]
  show (false || (backTo pos (starEach r env)).any (·.1))=false
  rw [zaP pos h1];rfl
theorem zd8{f:Value}(IH:EvIH prog w hB A env ρ fl E)(hst:∀ e p,E (.Starred e p)=M.fail)(pos:Pos){es:List Expr}(hp:zat es=true)(I:Inv prog w hB env ρ fl s.heap ι σ) :
  Sim prog w hB A (fun h ι σ vs (a:Args)=>RepL h ι σ vs a.pos∧a.kw=[]) (evalArgs f true (backTo pos (starEach es env)) []) (evs E es) s ι σ:=by
 have X:=zbU IH hst pos es s ι σ I
 cases es with
 | nil=>exact Sim.val I.store I.stays rfl fun Q E h=>PySem.evalArgs_none (h _ s.toks ⟨.nil,rfl⟩)
 | cons e r=>
  rw [zaO e r (zaU hp).2] at X ⊢
  intro Q Er hns hok herr
  exact Calls.evalArgs_plain (X _ _ hns (fun a σ' q x h' tk ι' Y r=>hok a σ' q ⟨x,[]⟩ h' tk ι' Y ⟨r,rfl⟩) herr)
theorem zjt{cv:Value}{cx:Cx}{f y:Str}{fp p:Pos}{args:List Expr}{r:List PV→M PV}(hG:GOk hB cx.G)(H:EnvOk env sc)(IH:EvIH prog w hB A env ρ fl E)(hst:∀ e p,E (.Starred e p)=M.fail)(I:Inv prog w hB env ρ fl s.heap ι σ)
  (hp:zat args=true) (hr:zaW cx sc ρ f=some (.bi y)) (hb:bis.lookup y=some cv) (hcv:(∃ i,cv=.builtin i)∨∃ i,cv=.type i)
  (hc:∀ vs xs s' ι' σ',Inv prog w hB env ρ fl s'.heap ι' σ'→RepL s'.heap ι' σ' vs xs→SimV prog w hB A (call cv xs) (r vs) s' ι' σ') :
  SimV prog w hB A (eval (.Call (.Name f fp) args [] p) env) ((evs E args).bind r) s ι σ:=by
 intro Q Er hns hok herr
 refine Call_Name rfl (zbh hG H I.stays hr ⟨cv,hb⟩ _ _ fun v hv=>?_)
 have hv':bis.lookup y=some v:=hv
 rw [hb] at hv';cases hv'
 have Z:=Sim.nest (k:=fun(a:Args)=>call cv ([]++a.pos) a.kw) (f:=r) I.store.len (zd8 (f:=cv) IH hst p hp I) (fun vs σ₁ a h₁ tk₁ ι₁ e₁ X₁ r₁=>by
  obtain ⟨a,kw⟩:=a
  obtain ⟨r₁,q⟩:=r₁
  cases q
  exact hc vs a _ ι₁ σ₁ (I.step X₁) r₁) Q Er hns hok herr
 rcases hcv with ⟨i,rfl⟩ | ⟨i,rfl⟩
 ·exact Calls.callWith_builtin (zaP p hp) Z
 ·exact PyProof.Rows.callWith_type (zaP p hp) Z
theorem zm5{G:Gl}{v:PV}{tv:Value}(hk:∀ t b σ',zbP G t v σ=.ok b σ'→σ'=σ∧kitOne K tv (zer t)=some b)(hne:∀ t C σ',zbP G t v σ≠.err C σ')(ts:List Ty) :
  (∃ b,zjO G v ts σ=.ok b σ∧kitAny K tv (ts.map zer)=some b)∨zjO G v ts σ=.stuck:=by
 induction ts with
 | nil=>exact .inl ⟨false,rfl,rfl⟩
 | cons t r ih=>
  cases h:zbP G t v σ with
  | ok b σ'=>
   obtain ⟨rfl,hk'⟩:=hk t b σ' h
   cases b with
   | true=>exact .inl ⟨true,zab h,by rw [List.map_cons];unfold kitAny;rw [hk']⟩
   | false=>
    rcases ih with ⟨b,h1,h2⟩ | h1
    ·exact .inl ⟨b,(zab h).trans h1,by rw [List.map_cons];unfold kitAny;rw [hk',h2]⟩
    ·exact .inr ((zab h).trans h1)
  | err C σ'=>exact absurd h (hne t C σ')
  | stuck=>exact .inr (zae h)
theorem zdU{G:Gl}{v:PV}(t:Ty)(C:Addr)(σ':zaa):zbP G t v σ≠.err C σ':=by
 intro h
 have b:∀ T t,isBi T t σ≠.err C σ':=fun T t h=>by cases t <;> cases h
 cases v with
 | ref i=>
  cases hc:cget i σ with
  | stuck=>rw [show zbP G t (.ref i) σ=_ from zae hc] at h;cases h
  | err=>exact zcy hc
  | ok c σ₁=>
   obtain ⟨rfl,_⟩:=zih hc
   rw [show zbP G t (.ref i) σ₁=_ from zab hc] at h
   cases c with
   | list _=>exact b _ _ h
   | dict _=>exact b _ _ h
   | dead=>cases h
 | exc D=>exact nomatch (show (Rs.stuck:Rs Bool)=.err C σ' from h)
 | _=>exact b _ _ h
theorem zi7{cx:Cx}{e:Expr}{r:List Expr}{ts:List Ty}(h:zi8 cx sc ρ (e::r)=some ts):∃ x p t ts',e=.Name x p∧tyOf cx sc ρ x=some t∧zi8 cx sc ρ r=some ts'∧ts=t::ts':=by
 obtain ⟨x,h1,q⟩:=Option.bind_eq_some_iff.mp h
 obtain ⟨t,h2,q₂⟩:=Option.bind_eq_some_iff.mp q
 obtain ⟨ts',h3,q₃⟩:=Option.bind_eq_some_iff.mp q₂
 cases q₃
 exact ⟨_,_,t,ts',x.2,h2,h3,rfl⟩
theorem zcY{cx:Cx}{pos:Pos}(hG:GOk hB cx.G)(H:EnvOk env sc)(B:hB.StaysIn s.heap):∀{es:List Expr}{ts:List Ty},zi8 cx sc ρ es=some ts→ts.length=es.length∧∀(Q:List Value→Shared→Prop)(E:Value→Shared→Prop),Q (ts.map zer) s→
  wpAny (model prog w) A (spliced (backTo pos (starEach es env))) Q E s
 | [],ts,h=>by cases h;exact ⟨rfl,fun Q E q=>Calls.spliced_nil q⟩
 | e::r,ts,h=>by
  obtain ⟨x,p,t,ts',rfl,h1,h2,rfl⟩:=zi7 h
  have ih:=zcY (pos:=pos) hG H B h2
  exact ⟨congrArg Nat.succ ih.1,fun Q E q=>Calls.spliced_cons (ziu hG H B h1 _ _ (ih.2 _ _ q))⟩
theorem zcQ:bis.lookup ("isinstance":Str)=some (.builtin "isinstance"):=by decide +kernel
theorem zgZ{cx:Cx}{f:Str}{fp p:Pos}{x te:Expr}{g:PV→M Bool}(hG:GOk hB cx.G)(H:EnvOk env sc)(IH:EvIH prog w hB A env ρ fl E)(I:Inv prog w hB env ρ fl s.heap ι σ)
  (hp:zat [x,te]=true) (hr:zaW cx sc ρ f=some (.bi "isinstance"))
  (hg:∀ v xv s' ι' σ',Inv prog w hB env ρ fl s'.heap ι' σ'→Rep s'.heap ι' σ' v xv→g v σ'=.stuck∨∃ b,g v σ'=.ok b σ'∧∀(Q:Value→Shared→Prop)(E:Value→Shared→Prop),(∀ h' tk,(∀ a o,s'.heap.get? a=some o→h'.get? a=some o)→Q (.bool b) { s' with heap:=h',toks:=tk })→
    wpAny (model prog w) A (eval te env) (fun tv s₁=>wpAny (model prog w) A (call (.builtin "isinstance") [xv,tv]) Q E s₁) E s') :
  SimV prog w hB A (eval (.Call (.Name f fp) [x,te] [] p) env) ((E x).bind fun v=>(g v).bind fun b=>M.ret (.bool b)) s ι σ:=by
 intro Q Er hns hok herr
 refine Call_Name rfl (zbh hG H I.stays hr ⟨_,zcQ⟩ _ _ fun v hv=>?_)
 have hv':bis.lookup ("isinstance":Str)=some v:=hv
 rw [zcQ] at hv';cases hv'
 obtain ⟨h1,h2⟩:=zaU hp
 obtain ⟨_,h3⟩:=zaU h1
 refine Calls.callWith_builtin (zaP p hp) ?_
 rw [zaO x [te] h2,zaO te [] h3]
 refine Calls.evalArgs_plain (Calls.spliced_cons ?_)
 refine IH x s ι σ I _ _ (fun q=>hns (zae q)) (fun v σ₁ e₁ xv h₁ tk₁ ι₁ X₁ r₁=>?_) (fun C σ₁ e₁ e h₁ tk₁ ι₁ X₁ F₁=>herr C σ₁ (zam e₁) e h₁ tk₁ ι₁ X₁ F₁)
 rcases hg v xv { s with heap:=h₁,toks:=tk₁ } ι₁ σ₁ (I.step X₁) r₁ with q | ⟨b,e₂,k⟩
 ·exact (hns ((zab e₁).trans (zae q))).elim
 ·refine Calls.spliced_cons (wpAny_mono (k Q Er fun h₂ tk₂ hk=>?_) (fun tv s₁ h'=>Calls.spliced_nil h') fun _ _ e=>e)
  have X₂:=Step.keeps (prog:=prog) (w:=w) X₁.store X₁.stays hk
  exact hok _ σ₁ ((zab e₁).trans (zab e₂)) _ _ _ ι₁ (X₁.trans I.store.len X₂) (.bool b)
theorem zpV{cx:Cx}{t:Str}{q:Pos}{v:PV}{xv:Value}(C:ClsOk K cx.G)(hG:GOk hB cx.G)(hK:K.In hB)(H:EnvOk env sc)(S:StoreOk prog w hB s.heap ι σ)(B:hB.StaysIn s.heap)(r:Rep s.heap ι σ v xv) :
  zm6 cx sc ρ v t σ=.stuck∨∃ b,zm6 cx sc ρ v t σ=.ok b σ∧∀(Q:Value→Shared→Prop)(E:Value→Shared→Prop),(∀ h' tk,(∀ a o,s.heap.get? a=some o→h'.get? a=some o)→Q (.bool b) { s with heap:=h',toks:=tk })→
   wpAny (model prog w) A (eval (.Name t q) env) (fun tv s₁=>wpAny (model prog w) A (call (.builtin "isinstance") [xv,tv]) Q E s₁) E s:=by
 unfold zm6
 cases ht:tyOf cx sc ρ t with
 | none=>exact .inl rfl
 | some t'=>
  cases hi:zbP cx.G t' v σ with
  | stuck=>exact .inl hi
  | err D σ'=>exact absurd hi (zdU _ _ _)
  | ok b σ'=>
   obtain ⟨tv,Hh,Z,hH,hx,hk⟩:=zlu (K:=K) (t₀:=t') C S r (by rw [hi];exact fun q=>nomatch q)
   obtain ⟨rfl,hk'⟩:=hk t' b σ' hi
   exact .inr ⟨b,hi,fun Q E hq=>ziu hG H B ht _ _ (kia_one Z (hK.keeps B) hH hk' hx fun tk=>hq s.heap tk fun _ _ e=>e)⟩
theorem zoE{cx:Cx}{es:List Expr}{k:Nat}{q:Pos}{v:PV}{xv:Value}(hl:es.length≤10)(C:ClsOk K cx.G)(hG:GOk hB cx.G)(hK:K.In hB)(H:EnvOk env sc)(S:StoreOk prog w hB s.heap ι σ)(B:hB.StaysIn s.heap)(r:Rep s.heap ι σ v xv) :
  isTy cx sc ρ v es σ=.stuck∨∃ b,isTy cx sc ρ v es σ=.ok b σ∧∀(Q:Value→Shared→Prop)(E:Value→Shared→Prop),(∀ h' tk,(∀ a o,s.heap.get? a=some o→h'.get? a=some o)→Q (.bool b) { s with heap:=h',toks:=tk })→
   wpAny (model prog w) A (eval (.Tuple es k q) env) (fun tv s₁=>wpAny (model prog w) A (call (.builtin "isinstance") [xv,tv]) Q E s₁) E s:=by
 unfold isTy
 cases hts:zi8 cx sc ρ es with
 | none=>exact .inl rfl
 | some tys=>
  cases tys with
  | nil=>exact .inl rfl
  | cons t tys=>
   show zjO cx.G v (t::tys) σ=.stuck∨∃ b,zjO cx.G v (t::tys) σ=.ok b σ∧_
   by_cases hne:zbP cx.G t v σ=.stuck
   ·exact .inl (zae hne)
   ·have X:=Step.push (prog:=prog) (w:=w) S B { cls:=.type "tuple",data:=.seq ((t::tys).map zer).toArray }
    obtain ⟨tv,Hh,Z,hH,hx,hk⟩:=zlu (K:=K) (s:={ s with heap:=s.heap.push { cls:=.type "tuple",data:=.seq ((t::tys).map zer).toArray } }) C X.store (r.step S.len X) hne
    rcases zm5 (K:=K) hk (fun t C σ'=>zdU _ _ _) (t::tys) with ⟨b,h1,h2⟩ | h1
    ·have sp:=zcY (prog:=prog) (w:=w) (A:=A) (pos:=q) hG H B hts
     refine .inr ⟨b,h1,fun Q E hq=>wpAny_bind (wpAny_standAt (wpAny_bind (sp.2 _ _ (wpAny_newObj_type ?_ ?_))))⟩
     ·exact kia_tup Z (hK.keeps X.stays) hH (Heap.get?_push_size _ rfl) h2 hx fun tk=>hq _ tk fun _ _ e=>Heap.get?_push_of_some _ e
     ·show ((t::tys).map zer).toArray.size≤sizeLine
      rw [List.size_toArray,List.length_map,sp.1]
      exact Nat.le_trans hl (by decide)
    ·exact .inl h1
theorem zjo{cx:Cx}{f:Str}{fp p:Pos}{args:List Expr}(C:ClsOk K cx.G)(hG:GOk hB cx.G)(hK:K.In hB)(H:EnvOk env sc)(IH:EvIH prog w hB A env ρ fl E)(I:Inv prog w hB env ρ fl s.heap ι σ)
  (hp:zat args=true) (hr:zaW cx sc ρ f=some (.bi "isinstance")) :
  SimV prog w hB A (eval (.Call (.Name f fp) args [] p) env) (evIs cx sc ρ E args) s ι σ:=by
 match args,hp with
 | [],_=>exact Sim.fail
 | [x],_=>exact Sim.fail
 | x::y::z::r,_=>exact Sim.fail
 | [x,te],hp=>
  cases te with
  | Name t q=>exact zgZ hG H IH I hp hr fun v xv s' ι' σ' I' r'=>zpV C hG hK H I'.store I'.stays r'
  | Tuple es k q=>exact Sim.cond (fun hl=>zgZ hG H IH I hp hr fun v xv s' ι' σ' I' r'=>zoE (of_decide_eq_true hl) C hG hK H I'.store I'.stays r') fun _=>Sim.fail
  | _=>exact Sim.fail
end
section
variable {prog:Program} {w:World} {hB:Heap} {A:Around} {s:Shared} {ι:Ad} {σ:zaa} {h h':Heap} {env:Env} {ρ:Loc} {fl:List Env} {sc:Scope}
noncomputable def PR(h:Heap)(ι:Ad)(σ:zaa)(kvs:List (Str×PV))(ys:List (Str×Value)):Prop:=
 ys.map (·.1)=kvs.map (·.1)∧RepL h ι σ (kvs.map (·.2)) (ys.map (·.2))
theorem PR.nil:PR h ι σ [] []:=⟨rfl,.nil⟩
theorem PR.cons{k:Str}{v:PV}{x:Value}{kvs:List (Str×PV)}{ys:List (Str×Value)}(r:Rep h ι σ v x)(p:PR h ι σ kvs ys):PR h ι σ ((k,v)::kvs) ((k,x)::ys):=⟨by simp [p.1],.cons r p.2⟩
theorem PR.inv{kv:Str×PV}{kvs:List (Str×PV)}{ys:List (Str×Value)}(p:PR h ι σ (kv::kvs) ys):∃ x ys',ys=(kv.1,x)::ys'∧Rep h ι σ kv.2 x∧PR h ι σ kvs ys':=by
 obtain ⟨h1,h2⟩:=p
 cases ys with
 | nil=>simp at h1
 | cons y ys'=>
  obtain ⟨k,x⟩:=y
  simp only [List.map_cons,List.cons.injEq] at h1
  obtain ⟨rfl,h1⟩:=h1
  cases h2 with
  | cons r rs=>exact ⟨x,ys',rfl,r,h1,rs⟩
theorem PR.nil_inv{ys:List (Str×Value)}(p:PR h ι σ [] ys):ys=[]:=by
 have:=p.1;simpa using this
theorem PR.append{a b:List (Str×PV)}{xs ys:List (Str×Value)}(p:PR h ι σ a xs)(q:PR h ι σ b ys):PR h ι σ (a++b) (xs++ys):=⟨by simp [p.1,q.1],by simpa using p.2.append q.2⟩
theorem PR.length{kvs:List (Str×PV)}{ys:List (Str×Value)}(p:PR h ι σ kvs ys):ys.length=kvs.length:=by
 have:=congrArg List.length p.1;simpa using this
theorem PR.any(k:Str):∀{kvs:List (Str×PV)}{ys:List (Str×Value)},PR h ι σ kvs ys→(ys.any fun kv=>decide (kv.1=k))=kvs.any fun kv=>decide (kv.1=k)
 | [],_,p=>by rw [p.nil_inv];rfl
 | kv::kvs,_,p=>by
  obtain ⟨x,ys',rfl,_,q⟩:=p.inv
  simp only [List.any_cons,PR.any k q]
theorem PR.mapPut{k:Str}{v:PV}{x:Value}(r:Rep h ι σ v x):∀{kvs:List (Str×PV)}{ys:List (Str×Value)},PR h ι σ kvs ys→
  PR h ι σ (kvs.map fun kv=>if kv.1=k then (kv.1,v) else kv) (ys.map fun kv=>if kv.1=k then (kv.1,x) else kv)
 | [],_,p=>by rw [p.nil_inv];exact PR.nil
 | (k',v')::kvs,_,p=>by
  obtain ⟨y,ys',rfl,r',q⟩:=p.inv
  simp only [List.map_cons]
  by_cases hk:k'=k
  ·simp only [hk,if_true];exact PR.cons r (PR.mapPut r q)
  ·simp only [hk,if_false];exact PR.cons r' (PR.mapPut r q)
theorem PR.put{k:Str}{v:PV}{x:Value}{kvs:List (Str×PV)}{ys:List (Str×Value)}(p:PR h ι σ kvs ys)(r:Rep h ι σ v x):PR h ι σ (dput k v kvs) (stored ys k x):=by
 unfold dput stored
 rw [p.any k]
 split
 ·exact PR.mapPut r p
 ·exact p.append (PR.cons r PR.nil)
theorem PR.del(k:Str):∀{kvs:List (Str×PV)}{ys:List (Str×Value)},PR h ι σ kvs ys→PR h ι σ (ddel k kvs) (without ys k)
 | [],_,p=>by rw [p.nil_inv];exact PR.nil
 | (k',v')::kvs,_,p=>by
  obtain ⟨y,ys',rfl,r',q⟩:=p.inv
  have ih:=PR.del k q
  unfold ddel without at ih ⊢
  by_cases hk:k'=k
  ·simp only [List.filter_cons,hk,ne_eq,not_true,decide_false,Bool.false_eq_true,if_false];exact ih
  ·simp only [List.filter_cons,hk,ne_eq,not_false_eq_true,decide_true,if_true];exact PR.cons r' ih
theorem PR.merge:∀{b:List (Str×PV)}{ys:List (Str×Value)}{a:List (Str×PV)}{xs:List (Str×Value)},PR h ι σ a xs→PR h ι σ b ys→PR h ι σ (za6 a b) (merged xs ys)
 | [],_,_,_,p,q=>by rw [q.nil_inv];exact p
 | kv::b,_,a,xs,p,q=>by
  obtain ⟨y,ys',rfl,r',q'⟩:=q.inv
  show PR h ι σ (za6 (dput kv.1 kv.2 a) b) (merged (stored xs kv.1 y) ys')
  exact PR.merge (p.put r') q'
theorem PR.evo{ι':Ad}{σ':zaa}{kvs:List (Str×PV)}{ys:List (Str×Value)}(hl:ι.vis.length=σ.length)(X:Evo [] h ι σ h' ι' σ')(p:PR h ι σ kvs ys):PR h' ι' σ' kvs ys:=⟨p.1,p.2.evo hl X (NoSeq.nil _)⟩
theorem DictOf.there{K:Type} [DecidableEq K] {knd:PySem.KeyKind prog w K} {a:Addr} {ys:List (K×Value)} (d:h.DictOf knd a ys):∃ o,h.get? a=some o:=by
 obtain ⟨o,_,_,ho,_⟩:=d;exact ⟨o,ho⟩
theorem zc4{i:Nat}{a:Addr}{kvs kvs':List (Str×PV)}{ys':List (Str×Value)}(S:StoreOk prog w hB s.heap ι σ)(B:hB.StaysIn s.heap)(hi:ι.vis[i]?=some a)(hc:σ[i]?=some (.dict kvs))(hs:Heap.SameBut a s.heap h')
  (hp:h'.DictOf (PySem.strKind prog w) a ys') (r:PR s.heap ι σ kvs' ys'):Step prog w hB s.heap ι σ h' ι (σ.set i (.dict kvs')):=by
 have B':=zc0 B (S.base a (List.mem_of_getElem? hi)) hs
 have X:=zic (c:=.dict kvs') hi hc (by intro q;cases q) hs (DictOf.there hp)
 have r':=r.evo S.len X
 exact Step.set S B' hi hc (by intro q;cases q) hs ⟨ys',hp,r'.1,r'.2⟩ (DictOf.there hp)
theorem zf8{D:Addr}{kvs:List (Str×PV)}{ys:List (Str×Value)}(S:StoreOk prog w hB s.heap ι σ)(B:hB.StaysIn s.heap)(hk:∀ b o,s.heap.get? b=some o→h'.get? b=some o)(hD:s.heap.get? D=none)
  (hp:h'.DictOf (PySem.strKind prog w) D ys) (r:PR s.heap ι σ kvs ys):Step prog w hB s.heap ι σ h' (ι.add D) (σ++[.dict kvs]):=by
 have X:=ziR (ι:=ι) (σ:=σ) (.dict kvs) hk hD
 have r':=r.evo S.len X
 exact Step.newAt S B _ hk hD (DictOf.there hp) ⟨ys,hp,r'.1,r'.2⟩
theorem zjS(S:StoreOk prog w hB s.heap ι σ){i:Nat}{a:Addr}(hi:ι.vis[i]?=some a):(∃ kvs ys,dget i σ=.ok kvs σ∧σ[i]?=some (.dict kvs)∧s.heap.DictOf (PySem.strKind prog w) a ys∧PR s.heap ι σ kvs ys)∨dget i σ=.stuck:=by
 unfold dget M.bind cget
 cases hc:σ[i]? with
 | none=>exact .inr rfl
 | some c=>
  cases c with
  | list xs=>exact .inr rfl
  | dict kvs=>obtain ⟨ys,hd,h1,h2⟩:=S.ok _ _ _ hi hc;exact .inl ⟨kvs,ys,rfl,rfl,hd,h1,h2⟩
  | dead=>exact .inr rfl
theorem zcu{n:Nat}(h:n<1000):n≤sizeLine:=Nat.le_trans (Nat.le_of_lt h) (by decide)
theorem Sim.dget{α β:Type}{R:Heap→Ad→zaa→α→β→Prop}{t:Sem β}{f:List (Str×PV)→M α}{i:Nat}{a:Addr}(S:StoreOk prog w hB s.heap ι σ)(hi:ι.vis[i]?=some a)
  (k:∀ kvs ys,σ[i]?=some (.dict kvs)→s.heap.DictOf (PySem.strKind prog w) a ys→PR s.heap ι σ kvs ys→Sim prog w hB A R t (f kvs) s ι σ):Sim prog w hB A R t ((dget i).bind f) s ι σ:=by
 rcases zjS S hi with ⟨kvs,ys,h1,hc,hd,p⟩ | h1
 ·exact (k kvs ys hc hd p).res (zab h1)
 ·exact Sim.bstuck h1
theorem zkG{v:PV}{x:Value}(S:StoreOk prog w hB s.heap ι σ)(B:hB.StaysIn s.heap)(r:Rep s.heap ι σ v x):SimV prog w hB A (call (.type "dict") [x]) (zoX v) s ι σ:=by
 refine Sim.onRef (t:=fun x=>call (.type "dict") [x]) r fun i a hi=>Sim.dget S hi fun kvs ys hc hd p=>Sim.cond (fun hn=>?_) fun _=>Sim.fail
 intro Q Er _ hok _
 refine kt_call_dict (zdQ S (List.mem_of_getElem? hi)) hd (zcu (by rw [p.length];exact of_decide_eq_true hn)) fun h' hd' hs=>?_
 have hk:∀ b o,s.heap.get? b=some o→h'.get? b=some o:=fun b o e=>(hs.2 b (Nat.ne_of_lt (Heap.lt_size e))).trans (Heap.get?_push_of_some _ e)
 exact hok (.ref σ.length) (σ++[.dict kvs]) rfl _ h' s.toks _ (zf8 S B hk (zav _) hd' p) (.ref (zeJ S _))
theorem zgJ{c:Const}{kc:Nat}{cp:Pos}{v:PV}(hc:zlZ c=some v)(Q:Value→Shared→Prop)(E:Value→Shared→Prop) (hq:∀ x tk,(∀ h,Rep h ι σ v x)→Q x { s with toks:=tk }) :
  wpAny (model prog w) A (eval (.Constant c kc cp) env) Q E s:=by
 cases c with
 | none=>cases hc;exact Constant_none (hq _ s.toks fun _=>.none)
 | bool b=>cases hc;exact Constant_bool (hq _ s.toks fun _=>.bool _)
 | int i=>cases hc;exact wpAny_mkInt (hq _ _ fun _=>.int _ _)
 | str x=>cases hc;exact Calls.Constant_str (hq _ _ fun _=>.str _ _)
 | _=>cases hc
theorem zmQ{pos:Pos}:∀(ks:List (Option Expr))(vs:List Expr)(l:List (Str×PV)),zef ks vs=some l→ks.all (·.isSome)=true∧ks.length=vs.length∧ks.length=l.length∧
  ∀(s:Shared)(Q:List (Value×Value)→Shared→Prop)(E:Value→Shared→Prop),(∀ xs ys tk,Carries (PySem.strKind prog w) xs ys→(∀ h,PR h ι σ l ys)→Q xs { s with toks:=tk })→wpAny (model prog w) A (evalPairs (pairTrees ks vs env pos)) Q E s:=by
 intro ks
 induction ks with
 | nil=>
  intro vs l h
  cases vs with
  | nil=>cases h;exact ⟨rfl,rfl,rfl,fun s Q E hq=>pairTrees_nil_walk (hq [] [] s.toks trivial fun _=>PR.nil)⟩
  | cons _ _=>cases h
 | cons k ks ih=>
  intro vs l h
  cases vs with
  | nil=>cases h
  | cons v vs=>
   obtain ⟨k,rfl,q⟩:=Option.bind_eq_some_iff.mp h
   obtain ⟨c,h1,q₁⟩:=Option.bind_eq_some_iff.mp q
   obtain ⟨k',h2,q₂⟩:=Option.bind_eq_some_iff.mp q₁
   obtain ⟨cv,h3,q₃⟩:=Option.bind_eq_some_iff.mp q₂
   obtain ⟨x,h4,q₄⟩:=Option.bind_eq_some_iff.mp q₃
   obtain ⟨r,h5,q₅⟩:=Option.bind_eq_some_iff.mp q₄
   obtain ⟨⟨c,ck,cp⟩,rfl⟩:=c
   obtain ⟨k',hk⟩:=k'
   have hk':c=.str k':=hk
   subst hk'
   obtain ⟨⟨cv,vk,vp⟩,rfl⟩:=cv
   cases q₅
   obtain ⟨a1,a2,a3,a4⟩:=ih vs r h5
   refine ⟨a1,congrArg Nat.succ a2,congrArg Nat.succ a3,fun s Q E hq=>?_⟩
   refine pairTrees_cons_walk ?_
   refine zgJ (ι:=ι) (σ:=σ) (c:=.str k') rfl _ _ fun kx tk₁ rk=>?_
   refine zgJ (ι:=ι) (σ:=σ) (c:=cv) h4 _ _ fun vx tk₂ rv=>?_
   refine a4 _ _ _ fun xs ys tk hcar hpr=>?_
   obtain ⟨kt,rfl⟩:=(rk s.heap).inv
   exact hq ((.str k' kt,vx)::xs) ((k',vx)::ys) tk ⟨strKind_is _ _ _ _,rfl,hcar⟩ fun h=>PR.cons (rv h) (hpr h)
theorem zlw{o:Obj}{a:Addr}(ha:a=s.heap.objs.size)(hs:Heap.SameBut a (s.heap.push o) h'):∀ b o',s.heap.get? b=some o'→h'.get? b=some o':=fun b o' e=>
 (hs.2 b (by rw [ha];exact Nat.ne_of_lt (Heap.lt_size e))).trans (Heap.get?_push_of_some _ e)
theorem zkF{ks:List (Option Expr)}{vs:List Expr}{p:Pos}(I:Inv prog w hB env ρ fl s.heap ι σ) :
  SimV prog w hB A (eval (.Dict ks vs p) env) ((M.lift (zef ks vs)).bind fun l=>M.cond (decide (l.length≤15)) (cnew (.dict (za6 [] l))) M.fail) s ι σ:=by
  refine Sim.lift fun l hl=>Sim.cond (fun hn=>?_) fun _=>Sim.fail
  have hn:=of_decide_eq_true hn
  obtain ⟨a1,a2,a3,a4⟩:=zmQ (prog:=prog) (w:=w) (ι:=ι) (σ:=σ) (env:=env) (A:=A) (pos:=p) ks vs l hl
  intro Q Er _ hok _
  by_cases h0:ks=[]
  ·subst h0
   have:vs=[]:=List.length_eq_zero_iff.mp a2.symm
   subst this
   have:l=[]:=List.length_eq_zero_iff.mp a3.symm
   subst this
   refine wpAny_Dict_empty ?_
   exact hok (.ref σ.length) (σ++[.dict []]) rfl _ _ s.toks _ (zf8 I.store I.stays (fun b o e=>Heap.get?_push_of_some _ e) (zav _) (Heap.DictOf.new s.heap) PR.nil) (.ref (zeJ I.store _))
  ·refine wpAny_Dict_walk (knd:=PySem.strKind prog w) a1 a2 h0 (by rw [a3];exact hn) (a4 _ _ _ fun xs ys tk hcar hpr=>⟨ys,hcar,Heap.DictOf.new s.heap,fun h' hd hs=>?_⟩)
   exact hok (.ref σ.length) (σ++[.dict (za6 [] l)]) rfl _ h' _ _ (zf8 I.store I.stays (zlw rfl hs) (zav _) hd (PR.merge PR.nil (hpr _))) (.ref (zeJ I.store _))
end
theorem zll(a b:List Nat):a≤b∨b≤a:=by
 rcases Std.le_total (a:=a) (b:=b) with h | h
 ·exact .inl h
 ·exact .inr h
theorem zgV(a b:Str):zn0 a b=true↔a.cps.toList≤b.cps.toList:=by simp [zn0]
theorem zmp{a b:Str}(h:a.cps.toList=b.cps.toList):a=b:=by
 obtain ⟨x⟩:=a;obtain ⟨y⟩:=b;congr 1;exact Array.toList_inj.mp h
theorem zcU(x:Str):∀ l:List Str,(zeI x l).Perm (x::l)
 | []=>.refl _
 | y::r=>by
  simp only [zeI]
  split
  ·exact .refl _
  ·exact ((zcU x r).cons y).trans (.swap x y r)
theorem zaF:∀ l:List Str,(zak l).Perm l
 | []=>.refl _
 | x::r=>(zcU x (zak r)).trans ((zaF r).cons x)
noncomputable def SLe(a b:Str):Prop:=a.cps.toList≤b.cps.toList
theorem zdj(x:Str):∀ l:List Str,l.Pairwise SLe→(zeI x l).Pairwise SLe
 | [],_=>by simp [zeI]
 | y::r,h=>by
  simp only [zeI]
  obtain ⟨h1,h2⟩:=List.pairwise_cons.mp h
  split
  ·rename_i q
   rw [zgV] at q
   refine List.pairwise_cons.mpr ⟨fun z hz=>?_,h⟩
   rcases List.mem_cons.mp hz with rfl | hz
   ·exact q
   ·exact List.le_trans q (h1 z hz)
  ·rename_i q
   have hyx:y.cps.toList≤x.cps.toList:=by
    rcases zll x.cps.toList y.cps.toList with k | k
    ·exact (q ((zgV x y).mpr k)).elim
    ·exact k
   refine List.pairwise_cons.mpr ⟨fun z hz=>?_,zdj x r h2⟩
   rcases List.mem_cons.mp ((zcU x r).mem_iff.mp hz) with rfl | hz
   ·exact hyx
   ·exact h1 z hz
theorem zcH:∀ l:List Str,(zak l).Pairwise SLe
 | []=>.nil
 | x::r=>zdj x _ (zcH r)
theorem zg6:∀(l:List Str)(p:Str),risingS p l=true→(p::l).Pairwise SLe
 | [],p,_=>by simp
 | x::r,p,h=>by
  simp only [risingS,Bool.and_eq_true,Bool.not_eq_true',ltCps_eq,decide_eq_false_iff_not] at h
  have ih:=zg6 r x h.2
  have hpx:SLe p x:=List.not_lt.mp h.1
  refine List.pairwise_cons.mpr ⟨fun z hz=>?_,ih⟩
  rcases List.mem_cons.mp hz with rfl | hz
  ·exact hpx
  ·exact List.le_trans hpx ((List.pairwise_cons.mp ih).1 z hz)
theorem zgY{ss ss':List Str}(hp:ss'.Perm ss)(hs:sortedS ss'=true):ss'=zak ss:=by
 have h1:ss'.Pairwise SLe:=by
  cases ss' with
  | nil=>exact .nil
  | cons x r=>exact zg6 r x hs
 exact List.Perm.eq_of_pairwise (le:=SLe) (fun a b _ _ h1 h2=>zmp (List.le_antisymm h1 h2)) h1 (zcH ss) (hp.trans (zaF ss).symm)
section
variable {prog:Program} {w:World} {hB:Heap} {A:Around} {s:Shared} {ι:Ad} {σ:zaa} {h h':Heap} {env:Env} {ρ:Loc} {fl:List Env} {sc:Scope}
theorem zc7:∀{vs:List Value}{ss:List Str},StrsAre vs ss→RepL h ι σ (ss.map .str) vs
 | _,_,.nil=>.nil
 | _,_,.cons x t r=>.cons (.str x t) (zc7 r)
theorem zcb:∀{ys:List (Str×Value)}{vs:List Value},vs.length=ys.length→(∀(j:Nat)(v:Value),vs[j]?=some v→∃ k x,ys[j]?=some (k,x)∧(PySem.strKind prog w).is k v=true)→StrsAre vs (ys.map (·.1))
 | [],[],_,_=>.nil
 | (k,x)::ys,v::vs,hl,h=>by
  obtain ⟨k',x',h1,h2⟩:=h 0 v rfl
  simp at h1
  obtain ⟨rfl,rfl⟩:=h1
  obtain ⟨t,rfl⟩:∃ t,v=.str k t:=by
   cases v <;> simp [PySem.strKind,Value.isStrOf] at h2
   exact ⟨_,by rw [h2]⟩
  exact .cons k t (zcb (by simpa using hl) fun j u hu=>by simpa using h (j+1) u (by simpa using hu))
 | [],_::_,hl,_=>by simp at hl
 | _::_,[],hl,_=>by simp at hl
theorem ze0:∀(kvs:List (Str×PV)),zct (kvs.map fun kv=>PV.str kv.1)=some (kvs.map (·.1))
 | []=>rfl
 | kv::r=>congrArg (zhm kv.1) (ze0 r)
theorem ze4{a:Addr}{vs:List Value}{out:Array Value}{b:Addr}{o:Obj}(hb:b≠a)(e:h.get? b=some o):(sortedHeap h a vs out).get? b=some o:=by
 unfold sortedHeap
 rw [Heap.get?_update_other _ _ (Ne.symm hb)]
 refine Heap.get?_push_of_some _ (Heap.get?_push_of_some _ ?_)
 rw [Heap.get?_update_other _ _ (Ne.symm hb)];exact e
theorem zf0{a:Addr}{vs:List Value}{out:Array Value}{n:Nat}(ho:h.get? a=some (seqObj "list" vs.toArray n)):∃ e,(sortedHeap h a vs out).get? a=some (seqObj "list" out e):=by
 unfold sortedHeap
 have ha:=Heap.lt_size ho
 have h1:=get?_update_seq ho (fun _=>#[])
 exact ⟨_,get?_update_seq (Heap.get?_push_of_some _ (Heap.get?_push_of_some _ h1)) (fun _=>out)⟩
theorem zcR{t:Sem Value}{cx:Cx}{p:Pos}{xs:List PV}(S:StoreOk prog w hB s.heap ι σ)(B:hB.StaysIn s.heap)
  (mk:∀(Q:Value→Shared→Prop)(E:Value→Shared→Prop),(∀ D h' n tk (vs:List Value),RepL s.heap ι σ xs vs→s.heap.get? D=none→(∀ b o,s.heap.get? b=some o→h'.get? b=some o)→h'.get? D=some { cls:=.type "list",data:=.seq vs.toArray n }→Q (.ref D) { s with heap:=h',toks:=tk })→wpAny (model prog w) A t Q E s) :
  SimV prog w hB A t (zaw cx p xs) s ι σ:=by
 refine Sim.cond (fun _=>?_) (fun _=>?_)
 ·intro Q E _ hok _
  refine mk _ _ fun D h' n tk vs r hD hk hd=>hok (.ref σ.length) (σ++[.list xs]) rfl _ _ tk (ι.add D) ?_ (.ref (zeJ S D))
  have X:=ziR (ι:=ι) (σ:=σ) (.list xs) hk hD
  exact Step.newAt S B _ hk hD ⟨_,hd⟩ ⟨vs.toArray,⟨n,hd⟩,by simpa using r.evo S.len X (NoSeq.nil _)⟩
 ·intro Q E _ hok _
  refine mk _ _ fun D h' n tk vs r hD hk hd=>hok _ _ rfl _ _ tk ι (Step.keeps S B hk) ?_
  have X:=(Step.keeps (prog:=prog) (w:=w) S B hk).evo
  exact .lst hd (zdR S hD) (by simpa using r.evo S.len X (NoSeq.nil _))
theorem zm9(h:Heap){a:Addr}(ha:h.objs.size≤a):h.get? a=none:=by
 cases q:h.get? a with
 | none=>rfl
 | some o=>exact absurd (Heap.lt_size q) (Nat.not_lt.mpr ha)
theorem zfT{a:Addr}{ys:List (Str×Value)}{Q:Value→Shared→Prop}{E:Value→Shared→Prop}(hh:A.handled=none)(lo:(a==sysModules)=false)(hd:s.heap.DictOf (PySem.strKind prog w) a ys)(h64:ys.length<64)
  (hQ:∀ D h' n tk (vs:List Value),StrsAre vs (zak (ys.map (·.1)))→s.heap.get? D=none→(∀ b o,s.heap.get? b=some o→h'.get? b=some o)→h'.get? D=some { cls:=.type "list",data:=.seq vs.toArray n }→Q (.ref D) { s with heap:=h',toks:=tk }) :
  wpAny (model prog w) A (call (.builtin "sorted") [.ref a]) Q E s:=by
 obtain ⟨ep,hat⟩:=hd.dictAt
 refine Calls.call_function_entry kind_sorted plain_sorted entry_sorted (args_sorted1 _) ?_
 unfold Builtin.«sorted»
 refine wpAny_bind (m:=checkCount "sorted" 1 1 _) (wpAny_pure ?_)
 refine wpAny_bind (kdu_collect (A:=A.in1) (kdl_dict (knd:=PySem.strKind prog w) (kvs:=ys) (ep:=ep) lo) hh hat (Nat.le_trans (Nat.le_of_lt h64) (by decide)) fun h₁ tk acc hk hacc=>?_)
 have hl:acc.toList.length=ys.length:=by rw [Array.length_toList];exact hacc.1
 have hS:StrsAre acc.toList (ys.map (·.1)):=zcb (prog:=prog) (w:=w) hl fun j v e=>hacc.2 j v (by rw [← Array.getElem?_toList];exact e)
 refine wpAny_bind (wpAny_newList ?_ (by rw [hl];exact Nat.le_trans (Nat.le_of_lt h64) (by decide)))
 have hoL:(h₁.push (seqObj "list" acc.toList.toArray 0)).get? h₁.objs.size=some (seqObj "list" acc.toList.toArray 0):=Heap.get?_push_size _ rfl
 refine wpAny_bind (wpAny_holding (wpAny_call_entry slot_list_sort ⟨_,hoL,rfl⟩ entry_list_sort (list_sort_treeK strKind_oneLt hoL hS.keysOf (fun v₁ v₂ rest e=>keyKind_strs (by rw [← e];exact hS)) (by rw [hl];exact h64) fun st' a1 a2=>⟨_,rfl,?_⟩) (args_list_sort _)))
 obtain ⟨ss',b1,b2,b3⟩:=sorted_out_str hS a1 a2
 obtain ⟨e,he⟩:=zf0 (vs:=acc.toList) (out:=(arrOf st').map (·.2)) hoL
 refine wpAny_pure ⟨_,rfl,?_⟩
 refine hQ h₁.objs.size _ e tk ((arrOf st').map (·.2)).toList (by rw [← zgY b2 b3];exact b1) (za4 (fun b o e=>⟨o,hk b o e⟩) (zav h₁)) (fun b o eb=>ze4 (Nat.ne_of_lt (Heap.lt_size (hk b o eb))) (Heap.get?_push_of_some _ (hk b o eb))) ?_
 rw [Array.toArray_toList];exact he
theorem zeu{cx:Cx}{p:Pos}{l:Addr}{vs:Array Value}{n:Nat}{xs:List PV}(S:StoreOk prog w hB s.heap ι σ)(B:hB.StaysIn s.heap) (e:s.heap.get? l=some { cls:=.type "list",data:=.seq vs n }) (rl:RepL s.heap ι σ xs vs.toList) :
  SimV prog w hB A (call (.builtin "sorted") [.ref l]) ((M.lift (zct xs)).bind fun ss=>M.cond (decide (ss.length<64)) (zaw cx p ((zak ss).map .str)) M.fail) s ι σ:=by
 refine Sim.lift fun ss ha=>Sim.cond (fun hn=>?_) fun _=>Sim.fail
 have hS:=zfX rl ha
 refine zcR (cx:=cx) (p:=p) (xs:=(zak ss).map .str) S B fun Q E hq=>?_
 refine sorted_strs (vs:=vs.toList) ⟨_,e,rfl,n,rfl⟩ hS (by rw [StrsAre.length hS];exact of_decide_eq_true hn) fun out ss' b1 b2 b3=>?_
 obtain ⟨e',he⟩:=sortedAll_at s.heap vs.toList out
 exact hq _ _ e' s.toks out.toList (by rw [← zgY b2 b3];exact zc7 b1) (zm9 _ (Nat.le_succ _)) (fun _ _=>sortedAll_old) (by rw [Array.toArray_toList];exact he)
theorem zjg{cx:Cx}{p:Pos}{v:PV}{x:Value}(S:StoreOk prog w hB s.heap ι σ)(B:hB.StaysIn s.heap)(hh:A.handled=none)(r:Rep s.heap ι σ v x) :
  SimV prog w hB A (call (.builtin "sorted") [x]) ((zc6 v).bind fun xs=>(M.lift (zct xs)).bind fun ss=>M.cond (decide (ss.length<64)) (zaw cx p ((zak ss).map .str)) M.fail) s ι σ:=by
 cases v with
 | lst xs=>obtain ⟨l,vs,n,rfl,e,nl,rl⟩:=r.inv;exact zeu S B e rl
 | ref i=>
  obtain ⟨a,rfl,hi⟩:=r.inv
  refine Sim.res (Sim.cel S hi fun c hc ok=>?_) (zah _ _ _)
  cases c with
  | list xs=>obtain ⟨vs,⟨n,hp⟩,rl⟩:=ok;exact zeu S B hp rl
  | dict kvs=>
   obtain ⟨ys,hd,p1,p2⟩:=ok
   refine Sim.lift fun ss ha=>Sim.cond (fun hn=>?_) fun _=>Sim.fail
   rw [ze0] at ha;cases ha
   refine zcR (cx:=cx) (p:=p) (xs:=(zak (kvs.map (·.1))).map .str) S B fun Q E hq=>?_
   refine zfT hh (zdQ S (List.mem_of_getElem? hi)) hd (by rw [← List.length_map (f:=(·.1)),p1];exact of_decide_eq_true hn) fun D h' n tk vs b1 b2 b3 b4=>hq D h' n tk vs ?_ b2 b3 b4
   rw [p1] at b1;exact zc7 b1
  | dead=>exact Sim.fail
 | _=>exact Sim.fail
end
section
variable {prog:Program} {w:World} {hB:Heap} {A:Around} {s:Shared} {ι:Ad} {σ:zaa} {h h':Heap} {env:Env} {ρ:Loc} {fl:List Env} {sc:Scope} {cx:Cx} {p:Pos} {o:PV} {x:Value} {vs:List PV} {xs:List Value}
theorem zkB{v:PV}(hlp:cx.md.lp=true→A.handled=none)(S:StoreOk prog w hB s.heap ι σ)(B:hB.StaysIn s.heap)(r:Rep s.heap ι σ v x):SimV prog w hB A (call (.type "list") [x]) (zos cx p v) s ι σ:=by
 have seq:SimV prog w hB A (call (.type "list") [x]) ((items v).bind fun xs=>M.cond (decide (xs.length≤2 ^ 20)) (zaw cx p xs) M.fail) s ι σ:=
  Sim.items (t:=fun x=>call (.type "list") [x]) S r fun xs l vs n e rl=>Sim.cond (fun hn=>ziv S B e rl (of_decide_eq_true hn)) fun _=>Sim.fail
 cases v with
 | ref i=>
  obtain ⟨a,rfl,hi⟩:=r.inv
  refine Sim.cel S hi fun c hc ok=>?_
  cases c with
  | list xs=>obtain ⟨vs,⟨n,hp⟩,rl⟩:=ok;exact Sim.cond (fun hn=>ziv S B (.inl hp) rl (of_decide_eq_true hn)) fun _=>Sim.fail
  | dict kvs=>
   obtain ⟨ys,hd,p1,p2⟩:=ok
   refine Sim.cond (fun hn=>?_) fun _=>Sim.fail
   have hn':=Bool.and_eq_true_iff.mp hn
   have hlen:ys.length≤sizeLine:=by rw [← List.length_map (f:=(·.1)),p1,List.length_map];exact Nat.le_trans (of_decide_eq_true hn'.2) (by decide)
   refine zcR (cx:=cx) (p:=p) (xs:=kvs.map fun kv=>.str kv.1) S B fun Q E hq=>?_
   obtain ⟨ep,hat⟩:=hd.dictAt
   refine kdl_call (kdl_dict (knd:=PySem.strKind prog w) (kvs:=ys) (ep:=ep) (zdQ S (List.mem_of_getElem? hi))) (hlp hn'.1) hat hlen fun h' tk acc c' hk hD hacc=>?_
   have hS:StrsAre acc.toList (ys.map (·.1)):=zcb (prog:=prog) (w:=w) hacc.1 fun j v e=>hacc.2 j v ((Array.getElem?_toList ..).symm.trans e)
   rw [p1] at hS
   have r2:=zc7 (h:=s.heap) (ι:=ι) (σ:=σ) hS
   rw [List.map_map] at r2
   exact hq _ h' c' tk acc.toList r2 (zav _) hk (by rw [Array.toArray_toList];exact hD)
  | dead=>exact Sim.fail
 | _=>exact seq
theorem repD{kvs:List (Str×PV)}{ys:List (Str×Value)}(q:PR h ι σ kvs ys){k:Str}{d:PV}{y:Value}(r:Rep h ι σ d y):Rep h ι σ ((dat kvs k).getD d) ((valueAt ys k).getD y):=by
 cases hd:dat kvs k with
 | none=>rw [zej q.1 hd];exact r
 | some z=>obtain ⟨v,h1,h2⟩:=zcW q.1 q.2 hd;rw [h1];exact h2
theorem zmy(S:StoreOk prog w hB s.heap ι σ)(B:hB.StaysIn s.heap)(r:Rep s.heap ι σ o x)(rs:RepL s.heap ι σ vs xs) :
  SimV prog w hB A (call (.builtin "dict.get") (x::xs)) (zbM cx p .get o vs) s ι σ:=by
 refine Sim.onRef (t:=fun x=>call (.builtin "dict.get") (x::xs)) r fun i a hi=>Sim.dget S hi fun kvs ys hc hd q=>?_
 have lo:=zdQ S (List.mem_of_getElem? hi)
 cases rs with
 | nil=>exact Sim.fail
 | cons rk rs=>
  refine Sim.onStr (t:=fun y=>call (.builtin "dict.get") (.ref a::y::_)) rk fun k t=>?_
  cases rs with
  | nil=>exact Sim.val S B rfl fun Q E hq=>call_meetsIn F.slot_dict_get hd.typeIs F.entry_dict_get (F.args_dict_get_2 _ _) (meets_dict_get (PySem.strKind prog w) a (strKind_is _ _ k t) lo) ⟨_,hd.mapOf,hq _ _ (repD q .none)⟩
  | cons rd rs=>exact Sim.arg0 (t:=fun l=>call (.builtin "dict.get") (.ref a::.str k t::_::l)) rs (Sim.val S B rfl fun Q E hq=>call_meetsIn F.slot_dict_get hd.typeIs F.entry_dict_get (F.args_dict_get_3 _ _ _) (meets_dict_get_default (PySem.strKind prog w) a (strKind_is _ _ k t) lo _) ⟨_,hd.mapOf,hq _ _ (repD q rd)⟩)
theorem zmx(S:StoreOk prog w hB s.heap ι σ)(B:hB.StaysIn s.heap)(r:Rep s.heap ι σ o x)(rs:RepL s.heap ι σ vs xs) :
  SimV prog w hB A (call (.builtin "dict.pop") (x::xs)) (zbM cx p .pop o vs) s ι σ:=by
 refine Sim.onRef (t:=fun x=>call (.builtin "dict.pop") (x::xs)) r fun i a hi=>Sim.arg1 (t:=fun xs=>call (.builtin "dict.pop") (.ref a::xs)) rs fun v y rk=>Sim.onStr (t:=fun y=>call (.builtin "dict.pop") [.ref a,y]) rk fun k t=>Sim.dget S hi fun kvs ys hc hd q=>Sim.cond (fun hn=>?_) fun _=>Sim.fail
 unfold popM
 cases hk:dat kvs k with
 | none=>exact Sim.fail
 | some z=>
  obtain ⟨v,v1,v2⟩:=zcW q.1 q.2 hk
  intro Q Er _ hok _
  refine call_meetsIn F.slot_dict_pop hd.typeIs F.entry_dict_pop (F.args_dict_pop_2 _ _) (meets_dict_pop_there (PySem.strKind prog w) a (strKind_is _ _ k t) [] (.inl rfl) rfl) ⟨ys,v,hd,zcu (by rw [q.length];exact of_decide_eq_true hn),v1,fun h' hd' hs=>?_⟩
  have X:=zc4 S B hi hc hs hd' (q.del k)
  exact hok z (σ.set i (.dict (ddel k kvs))) rfl v h' _ ι X (v2.step S.len X)
theorem zjs(S:StoreOk prog w hB s.heap ι σ)(B:hB.StaysIn s.heap)(r:Rep s.heap ι σ o x)(rs:RepL s.heap ι σ vs xs) :
  SimV prog w hB A (call (.builtin "dict.clear") (x::xs)) (zbM cx p .dclear o vs) s ι σ:=by
 refine Sim.onRef (t:=fun x=>call (.builtin "dict.clear") (x::xs)) r fun i a hi=>Sim.arg0 (t:=fun xs=>call (.builtin "dict.clear") (.ref a::xs)) rs (Sim.dget S hi fun kvs ys hc hd q=>Sim.cond (fun hn=>?_) fun _=>Sim.fail)
 intro Q Er _ hok _
 refine call_meetsIn F.slot_dict_clear hd.typeIs F.entry_dict_clear (F.args_dict_clear_1 _) (meets_dict_clear (PySem.strKind prog w) a) ⟨ys,hd,zcu (by rw [q.length];exact of_decide_eq_true hn),fun h' hd' hs=>?_⟩
 exact hok .none (σ.set i (.dict [])) rfl _ h' _ ι (zc4 S B hi hc hs hd' PR.nil) .none
theorem zji(S:StoreOk prog w hB s.heap ι σ)(B:hB.StaysIn s.heap)(r:Rep s.heap ι σ o x)(rs:RepL s.heap ι σ vs xs) :
  SimV prog w hB A (call (.builtin "dict.setdefault") (x::xs)) (zbM cx p .setdefault o vs) s ι σ:=by
 refine Sim.onRef (t:=fun x=>call (.builtin "dict.setdefault") (x::xs)) r fun i a hi=>Sim.arg2 (t:=fun xs=>call (.builtin "dict.setdefault") (.ref a::xs)) rs fun v y d yd rk rd=>Sim.onStr (t:=fun y=>call (.builtin "dict.setdefault") [.ref a,y,yd]) rk fun k t=>Sim.dget S hi fun kvs ys hc hd q=>Sim.cond (fun hn=>?_) fun _=>Sim.fail
 intro Q Er _ hok _
 refine call_meetsIn F.slot_dict_setdefault hd.typeIs F.entry_dict_setdefault (F.args_dict_setdefault_3 _ _ _) (kt_meets_setdefault (PySem.strKind prog w) a (strKind_is _ _ k t) (zdQ S (List.mem_of_getElem? hi)) yd) ⟨ys,hd,zcu (by rw [q.length];exact of_decide_eq_true hn),fun v hv=>?_,fun hv h' hd' hs=>?_⟩
 ·cases hk:dat kvs k with
  | none=>rw [zej q.1 hk] at hv;cases hv
  | some z=>
   obtain ⟨v',v1,v2⟩:=zcW q.1 q.2 hk
   rw [hv] at v1;cases v1
   exact hok z σ (by unfold zhT;rw [hk];rfl) v s.heap _ ι (Step.refl S B) v2
 ·cases hk:dat kvs k with
  | some z=>obtain ⟨v',v1,v2⟩:=zcW q.1 q.2 hk;rw [hv] at v1;cases v1
  | none=>
   have X:=zc4 S B hi hc hs hd' (q.put rd)
   exact hok d (σ.set i (.dict (dput k d kvs))) (by unfold zhT;rw [hk];rfl) yd h' _ ι X (rd.step S.len X)
theorem zje(S:StoreOk prog w hB s.heap ι σ)(B:hB.StaysIn s.heap)(r:Rep s.heap ι σ o x)(rs:RepL s.heap ι σ vs xs) :
  SimV prog w hB A (call (.builtin "dict.update") (x::xs)) (zbM cx p .update o vs) s ι σ:=by
 refine Sim.onRef (t:=fun x=>call (.builtin "dict.update") (x::xs)) r fun i a hi=>Sim.arg1 (t:=fun xs=>call (.builtin "dict.update") (.ref a::xs)) rs fun v y rk=>Sim.onRef (t:=fun y=>call (.builtin "dict.update") [.ref a,y]) rk fun j b hj=>
  Sim.dget S hi fun kvs ys hc hd q=>Sim.dget S hj fun kvs' ys' hc' hd' q'=>Sim.cond (fun hn=>?_) fun _=>Sim.fail
 have hn':=Bool.and_eq_true_iff.mp hn
 intro Q Er _ hok _
 have hne:a≠b:=fun e=>of_decide_eq_true hn'.1 (zeB S.nodup hi (e▸hj))
 refine call_meetsIn F.slot_dict_update hd.typeIs F.entry_dict_update (F.args_dict_update_2 _ _) (meets_dict_update (PySem.strKind prog w) a b hne (zdQ S (List.mem_of_getElem? hj))) ⟨ys,ys',hd,hd',zcu (by rw [q.length,q'.length];exact of_decide_eq_true hn'.2),fun h' d1 d2 hs=>?_⟩
 exact hok .none (σ.set i (.dict (za6 kvs kvs'))) rfl _ h' _ ι (zc4 S B hi hc hs d1 (PR.merge q q')) .none
end
section
variable {prog:Program} {w:World} {hB:Heap} {A:Around} {s:Shared} {ι:Ad} {σ:zaa} {env:Env} {ρ:Loc} {fl:List Env} {sc:Scope} {E:Expr→M PV} {K:Frag}
theorem zlh{md:Md}{d:Nat}(H:Ar md d fl A)(h:md.lp=true):A.handled=none:=H.quiet (.inr h)
noncomputable def zni:Bi→Value
 | .len=>.builtin "len" | .all=>.builtin "all" | .any=>.builtin "any" | .sum=>.builtin "sum" | .list=>.type "list" | .tuple=>.type "tuple" | .int=>.type "int" | .min=>.builtin "min" | .dict=>.type "dict"
 | .sorted=>.builtin "sorted"
theorem zmf:∀ e∈biTab,bis.lookup e.1=some (zni e.2):=by decide +kernel
theorem zjY(b:Bi):(∃ i,zni b=.builtin i)∨∃ i,zni b=.type i:=by
 cases b <;> first | exact .inl ⟨_,rfl⟩ | exact .inr ⟨_,rfl⟩
theorem zhQ{d:Nat}{cx:Cx}{p:Pos}{b:Bi}{vs:List PV}{xs:List Value}(H:Ar cx.md d fl A)(S:StoreOk prog w hB s.heap ι σ)(B:hB.StaysIn s.heap)(r:RepL s.heap ι σ vs xs) :
  SimV prog w hB A (call (zni b) xs) (zgB cx p b vs) s ι σ:=by
 have lp:∀{t:Sem Value}{m:M PV},(A.handled=none→SimV prog w hB A t m s ι σ)→SimV prog w hB A t (M.cond cx.md.lp m M.fail) s ι σ:=fun h=>Sim.cond (fun q=>h (zlh H q)) fun _=>Sim.fail
 cases b with
 | len=>exact Sim.arg1 (t:=fun l=>call (.builtin "len") l) r fun v x r=>zn5 S B r
 | all=>exact Sim.arg1 (t:=fun l=>call (.builtin "all") l) r fun v x r=>lp fun hh=>(zkM S B hh r).1
 | any=>exact Sim.arg1 (t:=fun l=>call (.builtin "any") l) r fun v x r=>lp fun hh=>(zkM S B hh r).2
 | sum=>exact Sim.arg1 (t:=fun l=>call (.builtin "sum") l) r fun v x r=>lp fun hh=>zn2 S B hh r
 | list=>exact Sim.arg1 (t:=fun l=>call (.type "list") l) r fun v x r=>zkB (zlh H) S B r
 | tuple=>exact Sim.arg1 (t:=fun l=>call (.type "tuple") l) r fun v x r=>zkw S B r
 | int=>
  refine Sim.arg1 (t:=fun l=>call (.type "int") l) r fun v x r=>?_
  cases v with
  | bool b=>cases r.inv;exact Sim.val S B rfl fun Q E h=>call_int_bool (h _ _ (.int _ _))
  | _=>exact Sim.fail
 | min=>
  refine Sim.arg2 (t:=fun l=>call (.builtin "min") l) r fun v x v' x' ra rb=>Sim.onInt (t:=fun x=>call (.builtin "min") [x,x']) ra fun a t=>Sim.onInt (t:=fun x=>call (.builtin "min") [.int a t,x]) rb fun b u=>lp fun hh=>?_
  intro Q E hns hok _
  refine min_two_ints hh fun h' tk hk=>?_
  exact hok _ σ rfl (if b<a then .int b u else .int a t) h' tk ι (Step.keeps S B hk) (by split <;> exact .int _ _)
 | sorted=>exact Sim.arg1 (t:=fun l=>call (.builtin "sorted") l) r fun v x r=>lp fun hh=>zjg S B hh r
 | dict=>exact Sim.arg1 (t:=fun l=>call (.type "dict") l) r fun v x r=>zkG S B r
end
section
variable {prog:Program} {w:World} {hB:Heap} {A:Around} {s:Shared} {ι:Ad} {σ:zaa} {env:Env} {ρ:Loc} {fl:List Env} {sc:Scope} {E:Expr→M PV} {K:Frag}
noncomputable def mtId:Mt→String
 | .append=>"list.append" | .clear=>"list.clear" | .extend=>"list.extend" | .index=>"list.index" | .count=>"list.count" | .join=>"str.join"
 | .get=>"dict.get" | .pop=>"dict.pop" | .dclear=>"dict.clear" | .setdefault=>"dict.setdefault" | .update=>"dict.update"
noncomputable def ziG:Mt→Str
 | .append=>"append" | .clear=>"clear" | .extend=>"extend" | .index=>"index" | .count=>"count" | .join=>"join"
 | .get=>"get" | .pop=>"pop" | .dclear=>"clear" | .setdefault=>"setdefault" | .update=>"update"
noncomputable def mtTn:Mt→Tn
 | .join=>.str
 | .get=>.dict
 | .pop=>.dict
 | .dclear=>.dict
 | .setdefault=>.dict
 | .update=>.dict
 | _=>.list
theorem zmI(k:Mt):PlainAttrs (zhE (mtTn k))∧Slot (zhE (mtTn k)) (ziG k) (mtId k)∧typeOf (.builtin (mtId k))=pure (.type "method_descriptor"):=by
 cases k with
 | append=>exact ⟨F.plainAttrs_list,F.slot_list_append,F.type_list_append⟩
 | clear=>exact ⟨F.plainAttrs_list,F.slot_list_clear,F.type_list_clear⟩
 | extend=>exact ⟨F.plainAttrs_list,F.slot_list_extend,F.type_list_extend⟩
 | index=>exact ⟨F.plainAttrs_list,F.slot_list_index,F.type_list_index⟩
 | count=>exact ⟨F.plainAttrs_list,F.slot_list_count,F.type_list_count⟩
 | join=>exact ⟨F.plainAttrs_str,F.slot_str_join,F.type_str_join⟩
 | get=>exact ⟨F.plainAttrs_dict,F.slot_dict_get,F.type_dict_get⟩
 | pop=>exact ⟨F.plainAttrs_dict,F.slot_dict_pop,F.type_dict_pop⟩
 | dclear=>exact ⟨F.plainAttrs_dict,F.slot_dict_clear,F.type_dict_clear⟩
 | setdefault=>exact ⟨F.plainAttrs_dict,F.slot_dict_setdefault,F.type_dict_setdefault⟩
 | update=>exact ⟨F.plainAttrs_dict,F.slot_dict_update,F.type_dict_update⟩
theorem zpL{T:Tn}{m:Str}{k:Mt}(h:mtOf T m=some k):T=mtTn k∧m=ziG k:=by
 have go:∀ T,(∀ e∈zmJ T,T=mtTn e.2∧e.1=ziG e.2):=fun T=>by cases T <;> decide +kernel
 exact go T _ (zdf h)
theorem zkh{v:PV}{x:Value}{T:Tn}{σ':zaa}(S:StoreOk prog w hB s.heap ι σ)(r:Rep s.heap ι σ v x)(h:tnOf v σ=.ok T σ'):σ'=σ∧((zmJ T).isEmpty=false→s.TypeIs x (zhE T)∧∀ a,x=.ref a→∃ ob,s.heap.get? a=some ob∧ob.dict=none):=by
 cases v with
 | str y=>obtain ⟨t,rfl⟩:=r.inv;cases h;exact ⟨rfl,fun _=>⟨typeIs_str _ _ _,fun a q=>nomatch q⟩⟩
 | lst xs=>obtain ⟨l,vs,n,rfl,e,_⟩:=r.inv;cases h;exact ⟨rfl,fun _=>⟨⟨_,e,rfl⟩,fun a q=>by cases q;exact ⟨_,e,rfl⟩⟩⟩
 | ref i=>
  obtain ⟨a,rfl,hi⟩:=r.inv
  cases hc:cget i σ with
  | stuck=>rw [show tnOf (.ref i) σ=_ from zae hc] at h;cases h
  | err=>exact (zcy hc).elim
  | ok c σ₁=>
   obtain ⟨rfl,hc'⟩:=zih hc
   rw [show tnOf (.ref i) σ₁=_ from zab hc] at h
   cases c with
   | list xs=>
    cases h
    obtain ⟨vs,⟨n,hp⟩,_⟩:=S.ok _ _ _ hi hc'
    exact ⟨rfl,fun _=>⟨⟨_,hp,rfl⟩,fun a q=>by cases q;exact ⟨_,hp,rfl⟩⟩⟩
   | dict kvs=>
    cases h
    obtain ⟨ys,hd,_⟩:=S.ok _ _ _ hi hc'
    exact ⟨rfl,fun _=>⟨hd.typeIs,fun a q=>by cases q;obtain ⟨o,es,ep,ho,hdd,_⟩:=hd;exact ⟨_,ho,hdd.2.1⟩⟩⟩
   | dead=>cases h
 | exc=>cases h
 | none=>cases h;exact ⟨rfl,fun q=>nomatch q⟩
 | bool=>cases h;exact ⟨rfl,fun q=>nomatch q⟩
 | int=>cases h;exact ⟨rfl,fun q=>nomatch q⟩
 | tup=>cases h;exact ⟨rfl,fun q=>nomatch q⟩
theorem mt_T(k:Mt):(zmJ (mtTn k)).isEmpty=false:=by cases k <;> rfl
theorem zd9{i:Nat}{a:Addr}{xs ys:List PV}{us:Array Value}{m:Nat}{h':Heap}(S:StoreOk prog w hB s.heap ι σ)(B:hB.StaysIn s.heap)(hi:ι.vis[i]?=some a)(hc:σ[i]?=some (.list xs))(hs:Heap.SameBut a s.heap h')
  (hp:h'.get? a=some { cls:=.type "list",data:=.seq us m }) (r:RepL s.heap ι σ ys us.toList):Step prog w hB s.heap ι σ h' ι (σ.set i (.list ys)):=by
 have B':=zc0 B (S.base a (List.mem_of_getElem? hi)) hs
 have X:=zic (c:=.list ys) hi hc (by intro q;cases q) hs ⟨_,hp⟩
 exact Step.set S B' hi hc (by intro q;cases q) hs ⟨us,⟨m,hp⟩,r.evo S.len X (NoSeq.nil _)⟩ ⟨_,hp⟩
theorem zcP(x:PV):∀(zs:List PV)(i j:Nat),zbt x zs i=some j→∃ k,j=i+k∧∃ z,zs[k]?=some z∧eqv z x=true∧∀ m,m<k→∀ z',zs[m]?=some z'→eqv z' x=false
 | [],i,j,h=>by cases h
 | z::zs,i,j,h=>by
  unfold zbt at h
  cases q:eqv z x with
  | true=>rw [q] at h;cases h;exact ⟨0,rfl,z,rfl,q,fun m hm=>absurd hm (Nat.not_lt_zero _)⟩
  | false=>
   rw [q] at h
   obtain ⟨k,rfl,u,h1,h2,h3⟩:=zcP x zs (i+1) j h
   refine ⟨k+1,by omega,u,h1,h2,fun m hm z' hz=>?_⟩
   cases m with
   | zero=>cases hz;exact q
   | succ m=>exact h3 m (Nat.lt_of_succ_lt_succ hm) z' hz
theorem zh1{n:Nat}(h:n<2 ^ 20):n<sizeLine:=Nat.lt_of_lt_of_le h (by decide)
theorem zjv{i:Nat}{a:Addr}{v:PV}{y:Value}(S:StoreOk prog w hB s.heap ι σ)(B:hB.StaysIn s.heap)(hi:ι.vis[i]?=some a)(r:Rep s.heap ι σ v y) :
  SimV prog w hB A (call (.builtin "list.append") [.ref a,y]) ((lget i).bind fun xs=>M.cond (decide (xs.length<2 ^ 20)) ((cset i (.list (xs++[v]))).bind fun _=>M.ret .none) M.fail) s ι σ:=by
 refine Sim.lget S hi fun ys us n hc hp rl=>Sim.cond (fun hn=>?_) fun _=>Sim.fail
 intro Q Er hns hok _
 refine wpAny_list_append_plain ⟨n,hp⟩ (fun h' ⟨m,hp'⟩ hs=>?_) (Nat.le_of_lt (Nat.lt_of_le_of_lt (Nat.le_of_eq rl.length.symm) (zh1 (of_decide_eq_true hn))))
 refine hok .none (σ.set i (.list (ys++[v]))) rfl _ h' s.toks ι (zd9 S B hi hc hs hp' ?_) .none
 rw [Array.toList_push];exact rl.append (.cons r .nil)
theorem zkK{i:Nat}{a:Addr}(S:StoreOk prog w hB s.heap ι σ)(B:hB.StaysIn s.heap)(hi:ι.vis[i]?=some a) :
  SimV prog w hB A (call (.builtin "list.clear") [.ref a]) ((lget i).bind fun xs=>M.cond (decide (xs.length<2 ^ 20)) ((cset i (.list [])).bind fun _=>M.ret .none) M.fail) s ι σ:=by
 refine Sim.lget S hi fun ys us n hc hp rl=>Sim.cond (fun hn=>?_) fun _=>Sim.fail
 intro Q Er hns hok _
 refine call_meets F.slot_list_clear ⟨_,hp,rfl⟩ F.entry_list_clear (F.args_list_clear_1 _) (AutoSeq1.list_clear_list_0 a us n (Nat.le_of_lt (Nat.lt_of_le_of_lt (Nat.le_of_eq rl.length.symm) (zh1 (of_decide_eq_true hn))))) ⟨hp,?_⟩
 exact hok .none (σ.set i (.list [])) rfl _ _ s.toks ι (zd9 S B hi hc (Heap.SameBut.update ..) (IsL.update hp _) .nil) .none
theorem zjq{i:Nat}{a b:Addr}{ws:Array Value}{m:Nat}{zs:List PV}(S:StoreOk prog w hB s.heap ι σ)(B:hB.StaysIn s.heap)(hi:ι.vis[i]?=some a) (e:s.heap.get? b=some { cls:=.type "list",data:=.seq ws m }) (rb:RepL s.heap ι σ zs ws.toList) :
  SimV prog w hB A (call (.builtin "list.extend") [.ref a,.ref b]) ((lget i).bind fun xs=>M.cond (decide (xs.length+zs.length<2 ^ 20)) ((cset i (.list (xs++zs))).bind fun _=>M.ret .none) M.fail) s ι σ:=by
 refine Sim.lget S hi fun ys us n hc hp rl=>Sim.cond (fun hn=>?_) fun _=>Sim.fail
 intro Q Er hns hok _
 have hsz:us.size+ws.size<sizeLine:=Nat.lt_of_le_of_lt (Nat.le_of_eq (congr (congrArg _ rl.length.symm) rb.length.symm)) (zh1 (of_decide_eq_true hn))
 refine call_meets F.slot_list_extend ⟨_,hp,rfl⟩ F.entry_list_extend (F.args_list_extend_2 _ _) (AutoSeq1.list_extend_list_list_0 a us n b ws m ?_ (by omega) (by omega)) ⟨hp,e,?_⟩
 ·unfold Builtin.List.listTooLong
  rw [show decide (us.size+ws.size>sizeLine)=false from decide_eq_false (by omega),Bool.and_false]
  exact fun q=>nomatch q
 ·exact hok .none (σ.set i (.list (ys++zs))) rfl _ _ s.toks ι (zd9 S B hi hc (Heap.SameBut.update ..) (IsL.update hp _) (by rw [Array.toList_append];exact rl.append rb)) .none
theorem ziM(hu:A.units+600<cLine):A.in1.units+zai<cLine+1:=by rw [Around.in1_units];show A.units+1+500<cLine+1;omega
theorem zmv{l:Addr}{us:Array Value}{n:Nat}{ys:List PV}{v:PV}{y:Value}(hu:A.units+600<cLine)(S:StoreOk prog w hB s.heap ι σ)(B:hB.StaysIn s.heap) (hp:s.heap.get? l=some { cls:=.type "list",data:=.seq us n }) (rl:RepL s.heap ι σ ys us.toList) (rv:Rep s.heap ι σ v y) (hn:ys.length<2 ^ 20) :
  SimV prog w hB A (call (.builtin "list.index") [.ref l,y]) ((zgo v ys).bind fun n=>M.ret (.int n)) s ι σ:=by
 refine Sim.res ?_ (zah _ _ _)
 refine Sim.part (fun x'=>whole σ zai v=some x') (zbo v) fun x' h1=>?_
 refine Sim.res ?_ (zah _ _ _)
 refine Sim.part (fun zs=>zal (whole σ zai) ys=some zs) (zbS ys) fun zs k1=>Sim.lift fun j hf=>?_
 refine Sim.val S B rfl fun Q E hq=>?_
 obtain ⟨k,hk,z,g1,g2,g3⟩:=zcP x' zs 0 j hf
 rw [Nat.zero_add] at hk;subst hk
 have hh:=hits S (x':=x') rl k1
 have hlen:us.size=zs.length:=by have:=congrArg List.length hh;rwa [List.length_map,List.length_map] at this
 have at_:∀ m (hm:m<us.size) z',zs[m]?=some z'→hitE s.heap ι σ zai x' us[m]=eqv z' x':=fun m hm z' hz=>by
  have:=congrArg (fun l=>l[m]?) hh
  rw [List.getElem?_map,List.getElem?_map,hz,Array.getElem?_toList,Array.getElem?_eq_getElem hm] at this
  exact Option.some.inj this
 have hj:j<us.size:=hlen▸(List.getElem?_eq_some_iff.mp g1).1
 refine call_meets F.slot_list_index ⟨_,hp,rfl⟩ F.entry_list_index (F.args_list_index_2 _ _) (list_indexAt l us n none #[] y (hitE s.heap ι σ zai x') j hj ?_ ?_ ?_) ⟨hp,fun u hu'=>ziN S rv h1 (ziM hu) rl k1 u (Array.mem_def.mp hu'),hq _ _ (.int _ _)⟩
 ·have:us.size=ys.length:=rl.length.symm
  omega
 ·rw [at_ j hj z g1];exact g2
 ·intro m hm hmj
  have:m<zs.length:=hlen▸hm
  rw [at_ m hm _ (List.getElem?_eq_getElem this)]
  exact g3 m hmj _ (List.getElem?_eq_getElem this)
theorem zkH{l:Addr}{us:Array Value}{n:Nat}{ys:List PV}{v:PV}{y:Value}(hu:A.units+600<cLine)(S:StoreOk prog w hB s.heap ι σ)(B:hB.StaysIn s.heap) (hp:s.heap.get? l=some { cls:=.type "list",data:=.seq us n }) (rl:RepL s.heap ι σ ys us.toList) (rv:Rep s.heap ι σ v y) :
  SimV prog w hB A (call (.builtin "list.count") [.ref l,y]) ((zlY v ys).bind fun n=>M.ret (.int n)) s ι σ:=by
 refine Sim.res ?_ (zah _ _ _)
 refine Sim.part (fun x'=>whole σ zai v=some x') (zbo v) fun x' h1=>?_
 refine Sim.res ?_ (zah _ _ _)
 refine Sim.part (fun zs=>zal (whole σ zai) ys=some zs) (zbS ys) fun zs k1=>?_
 refine Sim.val S B rfl fun Q E hq=>?_
 have hc:us.toList.countP (hitE s.heap ι σ zai x')=zs.countP fun z=>eqv z x':=by
  have hh:=congrArg (List.countP id) (hits S (x':=x') rl k1)
  rwa [List.countP_map,List.countP_map] at hh
 refine call_meets F.slot_list_count ⟨_,hp,rfl⟩ F.entry_list_count (F.args_list_count_2 _ _) (list_countAt l us n none #[] y (hitE s.heap ι σ zai x')) ⟨hp,fun u hu'=>ziN S rv h1 (ziM hu) rl k1 u (Array.mem_def.mp hu'),?_⟩
 rw [hc];exact hq _ _ (.int _ _)
theorem zmu{z:Str}{t:Tok}{l:Addr}{us:Array Value}{n:Nat}{ys:List PV}(S:StoreOk prog w hB s.heap ι σ)(B:hB.StaysIn s.heap)(e:ziq s.heap ι σ l us n)(rl:RepL s.heap ι σ ys us.toList) :
  SimV prog w hB A (call (.builtin "str.join") [.str z t,.ref l]) ((M.lift (zct ys)).bind fun ss=>M.cond (decide ((ss.map (·.length)).sum+ss.length*z.length≤16777216)) (M.ret (.str (Str.join z ss))) M.fail) s ι σ:=by
 refine Sim.lift fun ss hb=>Sim.cond (fun hn=>?_) fun _=>Sim.fail
 refine Sim.val S B rfl fun Q E hq=>?_
 have hj:∀ t' k,Q (.str (Txt.join z ss) t') { s with toks:=k }:=fun t' k=>by
  show Q (.str (Builtin.Str.glued z ss) t') _
  rw [StrLaws.glued_eq_join];exact hq _ k (.str _ _)
 rcases e with e | ⟨e,_⟩
 ·exact join_list ⟨_,e,rfl,_,rfl⟩ (zfX rl hb) (of_decide_eq_true hn) hj
 ·exact join_tuple ⟨_,e,rfl,_,rfl⟩ (zfX rl hb) (of_decide_eq_true hn) hj
theorem zjn{cx:Cx}{p:Pos}{k:Mt}{o:PV}{x:Value}{vs:List PV}{xs:List Value}(hu:A.units+600<cLine)(S:StoreOk prog w hB s.heap ι σ)(B:hB.StaysIn s.heap)(r:Rep s.heap ι σ o x)(rs:RepL s.heap ι σ vs xs) :
  SimV prog w hB A (call (.builtin (mtId k)) (x::xs)) (zbM cx p k o vs) s ι σ:=by
 cases k with
 | get=>exact zmy S B r rs
 | pop=>exact zmx S B r rs
 | dclear=>exact zjs S B r rs
 | setdefault=>exact zji S B r rs
 | update=>exact zje S B r rs
 | append=>exact Sim.onRef (t:=fun x=>call (.builtin "list.append") (x::xs)) r fun i a hi=>Sim.arg1 (t:=fun xs=>call (.builtin "list.append") (.ref a::xs)) rs fun v y rv=>zjv S B hi rv
 | clear=>exact Sim.onRef (t:=fun x=>call (.builtin "list.clear") (x::xs)) r fun i a hi=>Sim.arg0 (t:=fun xs=>call (.builtin "list.clear") (.ref a::xs)) rs (zkK S B hi)
 | extend=>exact Sim.onRef (t:=fun x=>call (.builtin "list.extend") (x::xs)) r fun i a hi=>Sim.arg1 (t:=fun xs=>call (.builtin "list.extend") (.ref a::xs)) rs fun v y rv=>Sim.onLst (t:=fun y=>call (.builtin "list.extend") [.ref a,y]) rv fun zs b ws m e _ rb=>zjq S B hi e rb
 | index=>exact Sim.arg1 (t:=fun xs=>call (.builtin "list.index") (x::xs)) rs fun v y rv=>Sim.litems (t:=fun x=>call (.builtin "list.index") [x,y]) S r fun ys l us n hp rl=>Sim.cond (fun hn=>zmv hu S B hp rl rv (of_decide_eq_true hn)) fun _=>Sim.fail
 | count=>exact Sim.arg1 (t:=fun xs=>call (.builtin "list.count") (x::xs)) rs fun v y rv=>Sim.litems (t:=fun x=>call (.builtin "list.count") [x,y]) S r fun ys l us n hp rl=>zkH hu S B hp rl rv
 | join=>exact Sim.onStr (t:=fun x=>call (.builtin "str.join") (x::xs)) r fun z t=>Sim.arg1 (t:=fun xs=>call (.builtin "str.join") (.str z t::xs)) rs fun v y rv=>Sim.items (t:=fun y=>call (.builtin "str.join") [.str z t,y]) S rv fun ys l us n e rl=>zmu S B e rl
end
section
variable {prog:Program} {w:World} {hB:Heap} {A:Around} {s:Shared} {ι:Ad} {σ:zaa} {env:Env} {ρ:Loc} {fl:List Env} {sc:Scope} {E:Expr→M PV} {K:Frag}
theorem zc8(pos:Pos):∀{es:List Expr},zat es=true→(backTo pos (starEach es env)).all (fun x=>!x.1)=true
 | [],_=>rfl
 | e::r,h=>by
  obtain ⟨h1,h2⟩:=zaU h
  rw [zaO e r h2]
  show (true&&(backTo pos (starEach r env)).all (fun x=>!x.1))=true
  rw [zc8 pos h1];rfl
theorem zkz{cx:Cx}{o:Expr}{m:Str}{ap p:Pos}{args:List Expr}(hu:A.units+600<cLine)(IH:EvIH prog w hB A env ρ fl E)(hst:∀ e p,E (.Starred e p)=M.fail)(I:Inv prog w hB env ρ fl s.heap ι σ) :
  SimV prog w hB A (eval (.Call (.Attribute o m ap) args [] p) env) (M.cond (zlc o ap p args) ((E o).bind fun ov=>(tnOf ov).bind fun T=>(M.lift (mtOf T m)).bind fun k=>(evs E args).bind fun vs=>zbM cx p k ov vs) M.fail) s ι σ:=by
 refine Sim.cond (fun hm=>?_) fun _=>Sim.fail
 unfold zlc at hm
 rw [Bool.and_eq_true,Bool.and_eq_true] at hm
 obtain ⟨⟨hline,hp⟩,ho⟩:=hm
 have hbase:attributeBase o m env (eval o env)=eval o env:=by
  cases o with
  | _=>first | rfl | cases ho
 intro Q Er hns hok herr
 refine wpAny_Call_method_lateS hbase ?_ (beq_iff_eq.mpr (of_decide_eq_true hline)) ?_
 ·rw [zc8 p hp,Bool.true_and]
  have:=of_decide_eq_true (Bool.and_eq_true_iff.mp hp).1
  exact decide_eq_true (Nat.lt_of_le_of_lt this (by decide))
 ·have hne:E o σ≠.stuck:=fun q=>hns (zae q)
  refine IH o s ι σ I _ _ hne (fun ov σ₁ e₁ x h₁ tk₁ ι₁ X₁ r₁=>?_) (fun C σ₁ e₁ e h₁ tk₁ ι₁ X₁ F₁=>herr C σ₁ (zam e₁) e h₁ tk₁ ι₁ X₁ F₁)
  have I₁:=I.step X₁
  cases hT:tnOf ov σ₁ with
  | stuck=>exact (hns ((zab e₁).trans (zae hT))).elim
  | err C σ₂=>exact (noErr_tnOf hT).elim
  | ok T σ₂=>
   obtain ⟨rfl,hty⟩:=zkh (s:={ s with heap:=h₁,toks:=tk₁ }) I₁.store r₁ hT
   cases hk:mtOf T m with
   | none=>exact (hns ((zab e₁).trans ((zab hT).trans (by rw [hk];rfl)))).elim
   | some k=>
    obtain ⟨rfl,rfl⟩:=zpL hk
    obtain ⟨pa,sl,ty⟩:=zmI k
    obtain ⟨t1,t2⟩:=hty (mt_T k)
    refine ⟨_,_,pa,sl,ty,t1,t2,Calls.callWith_builtin (zaP p hp) ?_⟩
    have eq:((E o).bind fun ov=>(tnOf ov).bind fun T=>(M.lift (mtOf T (ziG k))).bind fun k=>(evs E args).bind fun vs=>zbM cx p k ov vs) σ=((evs E args).bind fun vs=>zbM cx p k ov vs) σ₂:=(zab e₁).trans ((zab hT).trans (by rw [hk];rfl))
    refine Sim.nest (R':=Rep) (s:={ s with heap:=h₁,toks:=tk₁ }) (k:=fun(a:Args)=>call (.builtin (mtId k)) ([x]++a.pos) a.kw) (f:=fun vs=>zbM cx p k ov vs) I₁.store.len (zd8 (f:=.builtin (mtId k)) IH hst p hp I₁) (fun vs σ₃ a h₃ tk₃ ι₃ e₃ X₃ r₃=>?_) Q Er (eq▸hns) (fun a σ' q y h' tk ι' X r=>?_) (fun C σ' q e h' tk ι' X F=>?_)
    ·obtain ⟨a,kw⟩:=a
     obtain ⟨r₃,q⟩:=r₃
     cases q
     exact zjn hu X₃.store X₃.stays (r₁.step I₁.store.len X₃) r₃
    ·exact hok a σ' (eq.trans q) y h' tk ι' (X₁.trans I.store.len X) r
    ·exact herr C σ' (eq.trans q) e h' tk ι' (X₁.trans I.store.len X) (F.older X₁.evo.alive)
where
 noErr_tnOf {ov:PV} {σ σ':zaa} {C:Addr} (h:tnOf ov σ=.err C σ'):False:=by
  cases ov with
  | ref i=>
   cases hc:cget i σ with
   | stuck=>rw [show tnOf (.ref i) σ=_ from zae hc] at h;cases h
   | err=>exact zcy hc
   | ok c σ₁=>rw [show tnOf (.ref i) σ=_ from zab hc] at h;cases c <;> cases h
  | _=>cases h
structure FnOk (hB:Heap) (a:Addr) (f:FnD):Prop where
 fd:∃ o fd,hB.get? a=some o∧o.data=.func fd∧fd.body=.stmts f.body∧fd.scope=f.scope∧fd.closure=[]∧fd.globals=mainGlobals∧fd.builtins=builtinsNs∧hB.CodeRec fd.code fd.qualname∧
  ∀ vals:List Value,f.params.length=vals.length→bindArgs fd ⟨vals,[]⟩=pure (f.params.zip vals)
 gen:f.scope.isGenerator=false
 cor:f.scope.isCoroutine=false
 kind:f.scope.kind=.function
 nodebug:f.scope.names.lookup ("__debug__":Str)=none
 nodup:f.params.Nodup
 nodupN:(f.scope.names.map (·.1)).Nodup
 pars:∀ x∈f.params,f.scope.names.lookup x=some .local∨f.scope.names.lookup x=some .cell
structure GlobOk (hB:Heap) (K:Frag) (G:Gl):Prop where
 g:GOk hB G
 cls:ClsOk K G
 inK:K.In hB
 nolimit:hB.NoLimit
 fnObj:∀ x a,G.names.lookup x=some (.fn a)→∃ o fd,hB.get? a=some o∧o.data=.func fd
 fns:∀ a f,G.fns.lookup a=some f→FnOk hB a f
noncomputable abbrev zir(prog:Program)(w:World)(hB:Heap)(d:Nat)(call:Md→Addr→List PV→M PV):Prop:=
 ∀(md:Md)(A:Around)(fl:List Env)(a:Addr)(vs:List PV)(xs:List Value)(s:Shared)(ι:Ad)(σ:zaa),Ar md d fl A→StoreOk prog w hB s.heap ι σ→hB.StaysIn s.heap→Stk hB fl s.heap ι σ→RepL s.heap ι σ vs xs→
  SimV prog w hB A (PySem.call (.ref a) xs) (call md a vs) s ι σ
theorem zjz{cx:Cx}{f:Str}{a:Addr}(hr:zaW cx sc ρ f=some (.fn a)):cx.G.names.lookup f=some (.fn a):=by
 rcases zbW hr with ⟨v,q,_⟩ | ⟨_,k,⟨a,q,e⟩ | ⟨a,q,e⟩ | ⟨v,q,e⟩ | ⟨q,e⟩⟩
 ·cases q
 ·cases q;exact e
 ·cases q
 ·cases q
 ·cases q
theorem zn7{cx:Cx}{d:Nat}{f:Str}{fp p:Pos}{args:List Expr}{a:Addr}(hG:GlobOk hB K cx.G)(hA:Ar cx.md d fl A)(hc:zir prog w hB d cx.call)(H:EnvOk env sc)(IH:EvIH prog w hB A env ρ fl E)(hst:∀ e p,E (.Starred e p)=M.fail)(I:Inv prog w hB env ρ fl s.heap ι σ)
  (hp:zat args=true) (hr:zaW cx sc ρ f=some (.fn a)) :
  SimV prog w hB A (eval (.Call (.Name f fp) args [] p) env) ((evs E args).bind fun vs=>cx.call cx.md a vs) s ι σ:=by
 intro Q Er hns hok herr
 refine Call_Name rfl (zbh hG.g H I.stays hr ⟨_,rfl⟩ _ _ fun v hv=>?_)
 cases hv
 obtain ⟨o,fd,ho,hd⟩:=hG.fnObj f a (zjz hr)
 refine Calls.callWith_function (o:=o) (fd:=fd) ?_
 have hne:evs E args σ≠.stuck:=fun q=>hns (zae q)
 refine zd8 (f:=.ref a) IH hst p hp I _ _ hne (fun vs σ₁ e₁ x h₁ tk₁ ι₁ X₁ r₁=>?_) (fun C σ₁ e₁ e h₁ tk₁ ι₁ X₁ F₁=>herr C σ₁ (zam e₁) e h₁ tk₁ ι₁ X₁ F₁)
 obtain ⟨x,kw⟩:=x
 obtain ⟨r₁,q⟩:=r₁
 cases q
 have I₁:=I.step X₁
 have eq:((evs E args).bind fun vs=>cx.call cx.md a vs) σ=cx.call cx.md a vs σ₁:=zab e₁
 refine ⟨⟨I₁.stays _ _ ho,hd⟩,hc cx.md A fl a vs x { s with heap:=h₁,toks:=tk₁ } ι₁ σ₁ hA I₁.store I₁.stays I₁.stk r₁ Q Er (eq▸hns) (fun b σ₂ e₂ y h₂ tk₂ ι₂ X₂ r₂=>?_) (fun C σ₂ e₂ e h₂ tk₂ ι₂ X₂ F₂=>?_)⟩
 ·exact hok b σ₂ (eq.trans e₂) y h₂ tk₂ ι₂ (X₁.trans I.store.len X₂) r₂
 ·exact herr C σ₂ (eq.trans e₂) e h₂ tk₂ ι₂ (X₁.trans I.store.len X₂) (F₂.older X₁.evo.alive)
end
structure Itr (prog:Program) (w:World) (hB:Heap) (A:Around) (t:Expr) (I:Addr) (fp own hd:List Addr) (src:Src) (St:Nat→Heap→Prop) (h₁:Heap) (ι₁:Ad) (σ₁:zaa):Prop where
 notLive:∀ b∈fp,¬ zcF ι₁ σ₁ b
 there:∀ i h,St i h→∀ b∈fp,∃ o,h.get? b=some o∧∀ es n,o.data≠.dict es n
 sub:∀ b∈own,b∈fp
 fresh:∀ b∈own,b∉ι₁.vis∧(b∈ι₁.hid→b∈hd)
 hdIn:∀ b∈hd,b∈ι₁.hid
 hdT:∀ i h,St i h→∀ b∈hd,∃ o,h.get? b=some o∧∀ vs,o.data≠.fields vs
 ownOk:∀ i h ι,St i h→(∀ b∈hd,b∈ι.hid)→Off ι own h
 frame:∀ i h h',St i h→(∀ b∈fp,∀ o,h.get? b=some o→h'.get? b=some o)→St i h'
 item:∀(D:List Addr)(i:Nat)(s:Shared)(ι:Ad)(σ:zaa)(x:PV),NoSeq D h₁→Evo (own++D) h₁ ι₁ σ₁ s.heap ι σ→StoreOk prog w hB s.heap ι σ→St i s.heap→chkW src.watch σ=.ok () σ→src.xs[i]?=some x→
  ∀(P:Option Value→Shared→Prop)(Q:Value→Shared→Prop)(E:Value→Shared→Prop),(∀ v s₁,wpAny (model prog w) A (letOwnedTupleGo t (.ref I) v) (fun _ s₂=>Q v s₂) E s₁→P (some v) s₁)→
   (∀ v h' tk,Rep h' ι σ x v→St (i+1) h'→(∀ b o,b∉own→s.heap.get? b=some o→h'.get? b=some o)→Q v { s with heap:=h',toks:=tk })→wpAny (model prog w) A (pyNext (.ref I)) P E s
 done:∀(D:List Addr)(s:Shared)(ι:Ad)(σ:zaa),NoSeq D h₁→Evo (own++D) h₁ ι₁ σ₁ s.heap ι σ→StoreOk prog w hB s.heap ι σ→St src.xs.length s.heap→chkW src.watch σ=.ok () σ→
  ∀(Q:Option Value→Shared→Prop)(E:Value→Shared→Prop),(∀ h' tk,(∀ b o,b∉own→s.heap.get? b=some o→h'.get? b=some o)→(∀ b∈hd,∃ o,h'.get? b=some o∧∀ vs,o.data≠.fields vs)→Q none { s with heap:=h',toks:=tk })→wpAny (model prog w) A (pyNext (.ref I)) Q E s
 self:∀(i:Nat)(s:Shared)(Q:Value→Shared→Prop)(E:Value→Shared→Prop),St i s.heap→Q (.ref I) s→wpAny (model prog w) A (pyIter (.ref I)) Q E s
section
variable {prog:Program} {w:World} {hB:Heap} {A:Around} {s:Shared} {ι:Ad} {σ:zaa} {t:Expr}
noncomputable def ownTs:List String:=["enumerate","zip","dict_itemiterator","dict_reverseitemiterator","odict_iterator","itertools.zip_longest","itertools.pairwise"]
noncomputable def zgG(h:Heap)(I:Addr):Prop:=∃ o T,h.get? I=some o∧o.cls=.type T∧ownTs.contains T=false
theorem zj4{I:Addr}{v:Value}{Q:Unit→Shared→Prop}{E:Value→Shared→Prop}(hI:zgG s.heap I)(hQ:Q () s):wpAny (model prog w) A (letOwnedTupleGo t (.ref I) v) Q E s:=by
 obtain ⟨o,T,ho,hc,hT⟩:=hI
 obtain ⟨c,d,dt,sl⟩:=o
 have hc:c=.type T:=hc
 subst hc
 have go:∀(a:Addr)(vs:Array Value)(m:Sem Unit),wpAny (model prog w) A (if (ownTs.contains T&&vs[0]?==some (rawInt a))=true then m else Pure.pure ()) Q E s:=fun a vs m=>by
  rw [hT,Bool.false_and,if_neg Bool.false_ne_true];exact wpAny_pure hQ
 unfold letOwnedTupleGo
 split
 ·cases v with
  | ref a=>
   refine wpAny_bind (wpAny_load ho ?_)
   cases dt with
   | fields vs=>exact go a vs _
   | _=>exact wpAny_pure hQ
  | _=>exact wpAny_pure hQ
 ·cases v with
  | ref a=>
   refine wpAny_bind (wpAny_load ho ?_)
   cases dt with
   | fields vs=>exact go a vs _
   | _=>exact wpAny_pure hQ
  | _=>exact wpAny_pure hQ
 ·exact wpAny_pure hQ
theorem zf5{h:Heap}{a:Addr}{T:String}{fs:Array Value}(p:∃ o,h.get? a=some o∧o.cls=.type T∧o.data=.fields fs)(hT:ownTs.contains T=false):zgG h a:=by
 obtain ⟨o,ho,hc,_⟩:=p;exact ⟨o,T,ho,hc,hT⟩
theorem Evo.but{own:List Addr}{h h':Heap}(hk:∀ b o,b∉own→h.get? b=some o→h'.get? b=some o)(ht:∀ b∈own,∃ o,h'.get? b=some o):Evo own h ι σ h' ι σ where
 pre:=fun _ _ e=>e
 fresh:=fun i a e e'=>by rw [e] at e';cases e'
 dead:=fun _ e=>e
 alive:=fun b o e=>by
  by_cases hb:b∈own
  ·exact ht b hb
  ·exact ⟨o,hk b o hb e⟩
 keep:=fun b o e _ hb=>⟨⟨o.slots,hk b o hb e⟩,fun _=>hk b o hb e⟩
 hid:=fun _ h=>h
 hfresh:=fun _ h=>.inl h
theorem NoSeq.append{D E:List Addr}{h:Heap}(a:NoSeq D h)(b:NoSeq E h):NoSeq (D++E) h:=fun c hc=>by
 rcases List.mem_append.mp hc with hc | hc
 ·exact a c hc
 ·exact b c hc
theorem zfC{h:Heap}(S:StoreOk prog w hB h ι σ):∀ b∈[h.objs.size],b∉ι.vis∧b∉ι.hid:=fun b hb=>by
 rw [List.mem_singleton.mp hb]
 exact ⟨fun q=>by obtain ⟨o,ho⟩:=S.there _ q;exact absurd (Heap.lt_size ho) (Nat.lt_irrefl _),fun q=>by obtain ⟨o,ho,_⟩:=S.hthere _ q;exact absurd (Heap.lt_size ho) (Nat.lt_irrefl _)⟩
theorem zeC{h:Heap}{a:Addr}{o:Obj}{T:String}(ho:h.get? a=some o)(hc:o.cls=.type T)(hd:∀ vs n,o.data≠.seq vs n):NoSeq [a] h:=by
 intro b hb o' ho'
 rw [List.mem_singleton.mp hb,ho] at ho'
 cases ho'
 exact ⟨hd,.inr fun C q=>(by rw [hc] at q;cases q)⟩
theorem Itr.ofWalks{I:Addr}{fp own:List Addr}{n:Nat}{P:Nat→Value→Prop}{St:Nat→Heap→Prop}{xs:List PV}{h₁:Heap}{ι₁:Ad}{σ₁:zaa}(W:Walks prog w A I fp own n P St)(hn:n=xs.length)(hl:ι₁.vis.length=σ₁.length)
  (hnl:∀ b∈fp,¬ Live ι₁ σ₁ b) (ht:∀ i h,St i h→∀ b∈fp,∃ o,h.get? b=some o∧∀ es n,o.data≠.dict es n) (ho:∀ i h,St i h→NoSeq own h) (h0:St 0 h₁) (hfr:∀ b∈own,b∉ι₁.vis∧b∉ι₁.hid) (hgo:∀ i h,St i h→zgG h I) (hP:∀ i v x,P i v→xs[i]?=some x→Rep h₁ ι₁ σ₁ x v) :
  Itr prog w hB A t I fp own [] ⟨xs,[]⟩ St h₁ ι₁ σ₁ where
 notLive:=fun b hb=>zaK (hnl b hb)
 there:=ht
 sub:=W.sub
 fresh:=fun b hb=>⟨(hfr b hb).1,fun q=>((hfr b hb).2 q).elim⟩
 hdIn:=fun _ hb=>nomatch hb
 hdT:=fun _ _ _ _ hb=>nomatch hb
 ownOk:=fun i h _ st _=>(ho i h st).off
 frame:=W.frame
 item:=fun D i s ι σ x hD X S st _ hx P Q E hp h=>by
  refine W.item i s P E (by rw [hn];exact (List.getElem?_eq_some_iff.mp hx).1) st fun v h' tk hv st' hk=>hp v _ (zj4 (hgo _ _ st') (h v h' tk ?_ st' hk))
  have Y:Evo own s.heap ι σ h' ι σ:=Evo.but hk fun b hb=>by obtain ⟨o,ho,_⟩:=ht _ _ st' b (W.sub b hb);exact ⟨o,ho⟩
  exact (hP i v x hv hx).evo hl (X.trans hl Y fun b hb o e=>List.mem_append_left _ hb) ((ho 0 _ h0).append hD)
 done:=fun D s ι σ hD X S st _ Q E h=>W.done s Q E (by rw [hn];exact st) fun h' tk hk=>h h' tk hk fun _ hb=>nomatch hb
 self:=W.self
theorem zgA{i:Nat}{xs:List PV}{σ':zaa}(h:chkW [(i,xs)] σ=.ok () σ'):σ[i]?=some (.list xs):=by
 unfold chkW at h
 by_cases q:σ[i]?=some (.list xs)
 ·exact q
 ·rw [if_neg q] at h;cases h
theorem Itr.live{I l:Addr}{j:Nat}{xs:List PV}{h₁:Heap}{ι₁:Ad}{σ₁:zaa}(hh:A.handled=none)(hj:ι₁.vis[j]?=some l)(hne:I≠l)(hnl:¬ Live ι₁ σ₁ I)(hit:h₁.IsListIter I l 0)(hfr:∀ b∈[I],b∉ι₁.vis∧b∉ι₁.hid) :
  Itr prog w hB A t I [I] [I] [] ⟨xs,[(j,xs)]⟩ (fun i h=>h.IsListIter I l i) h₁ ι₁ σ₁ where
 notLive:=fun b hb=>by rw [List.mem_singleton.mp hb];exact zaK hnl
 there:=fun i h st b hb=>by
  rw [List.mem_singleton.mp hb]
  obtain ⟨o,ho,_,hd⟩:=st
  exact ⟨o,ho,fun es n q=>by rw [hd] at q;cases q⟩
 sub:=fun _ hb=>hb
 fresh:=fun b hb=>⟨(hfr b hb).1,fun q=>((hfr b hb).2 q).elim⟩
 hdIn:=fun _ hb=>nomatch hb
 hdT:=fun _ _ _ _ hb=>nomatch hb
 ownOk:=fun i h _ st _=>by
  obtain ⟨o',ho',hc,hd⟩:=st
  exact (zeC ho' hc fun vs n q=>by rw [hd] at q;cases q).off
 frame:=fun i h h' st hk=>by obtain ⟨o,ho,r⟩:=st;exact ⟨o,hk I (.head _) o ho,r⟩
 item:=fun D i s ι σ x hD X S st hc hx P Q E hP h=>by
  have hcel:=zgA hc
  have hl:ι.vis[j]?=some l:=X.pre _ _ hj
  obtain ⟨vs,⟨n,hp⟩,rl⟩:=S.ok _ _ _ hl hcel
  obtain ⟨v,hv,r⟩:=rl.get hx
  refine wpAny_pyNext_list_item st ⟨_,hp,rfl,n,rfl⟩ (x:=v) (by rw [← Array.getElem?_toList];exact hv) fun h' hit' hs=>hP v _ (zj4 (zf5 hit' (by decide +kernel)) (h v h' s.toks ?_ hit' fun b o hb e=>(hs.2 b (fun q=>hb (by rw [q];exact .head _))).trans e))
  have Y:Evo [I] s.heap ι σ h' ι σ:=Evo.but (fun b o hb e=>(hs.2 b (fun q=>hb (by rw [q];exact .head _))).trans e) fun b hb=>by rw [List.mem_singleton.mp hb];obtain ⟨o,ho,_⟩:=hit';exact ⟨o,ho⟩
  refine r.evo S.len Y fun b hb o ho=>?_
  rw [List.mem_singleton.mp hb] at ho
  obtain ⟨o',ho',hc',hd'⟩:=st
  rw [ho] at ho';cases ho'
  exact ⟨fun vs n q=>(by rw [hd'] at q;cases q),.inr fun C q=>(by rw [hc'] at q;cases q)⟩
 done:=fun D s ι σ hD X S st hc Q E h=>by
  have hcel:=zgA hc
  have hl:ι.vis[j]?=some l:=X.pre _ _ hj
  obtain ⟨vs,⟨n,hp⟩,rl⟩:=S.ok _ _ _ hl hcel
  refine wpAny_pyNext_list_end hh st ⟨_,hp,rfl,n,rfl⟩ ?_ fun h' he=>h h' s.toks (fun b o hb e=>he b o (fun q=>hb (by rw [q];exact .head _)) e) fun _ hb=>nomatch hb
  rw [← Array.getElem?_toList]
  exact List.getElem?_eq_none (by rw [rl.length];exact Nat.le_refl _)
 self:=fun _ _ _ _ st hq=>wpAny_pyIter_listiter st hq
theorem zl6(x:List Nat)(i:Nat):(zd6 x)[i]?=(x[i]?).map fun c=>PV.str ⟨#[c]⟩:=by
 induction x generalizing i with
 | nil=>simp [zd6]
 | cons c r ih=>cases i with
  | zero=>simp [zd6]
  | succ i=>simp [zd6,ih]
theorem zl5(x:List Nat):(zd6 x).length=x.length:=by
 induction x with
 | nil=>rfl
 | cons c r ih=>simp [zd6,ih]
theorem zi6(a:Int)(n i:Nat)(h:i<n):(zbb a n)[i]?=some (PV.int (a+i)):=by
 induction n generalizing a i with
 | zero=>omega
 | succ n ih=>cases i with
  | zero=>simp [zbb]
  | succ i=>simp only [zbb,List.getElem?_cons_succ];rw [ih (a+1) i (by omega)];congr 2;push_cast;omega
theorem zfh(a:Int)(n:Nat):(zbb a n).length=n:=by
 induction n generalizing a with
 | zero=>rfl
 | succ n ih=>simp [zbb,ih]
noncomputable def Made(prog:Program)(w:World)(hB:Heap)(A:Around)(t:Expr)(D:List Addr)(h₀:Heap)(src:Src)(h₁:Heap)(ι₁:Ad)(σ₁:zaa)(it:Value):Prop:=
 ∃ I fp own hd St,it=.ref I∧Itr prog w hB A t I fp own hd src St h₁ ι₁ σ₁∧St 0 h₁∧(∀ b∈own,h₀.get? b=none)∧∀ b∈D,b∉fp
theorem zee{D:List Addr}{o₁:Obj}{n:Nat}{P:Nat→Value→Prop}{St:Nat→Heap→Prop}{xs:List PV}{fp:List Addr}(hDt:∀ b∈D,∃ o,s.heap.get? b=some o)(S:StoreOk prog w hB s.heap ι σ)
  (W:Walks prog w A s.heap.objs.size (s.heap.objs.size::fp) [s.heap.objs.size] n P St) (hn:n=xs.length) (hfp:∀ b∈fp,¬ Live ι σ b∧b∉D) (ht:∀ i h,St i h→∀ b∈s.heap.objs.size::fp,∃ o,h.get? b=some o∧∀ es n,o.data≠.dict es n)
  (ho:∀ i h,St i h→NoSeq [s.heap.objs.size] h) (hgo:∀ i h,St i h→zgG h s.heap.objs.size) (h0:St 0 (s.heap.push o₁)) (hP:∀ i v x,P i v→xs[i]?=some x→Rep s.heap ι σ x v):Made prog w hB A t D s.heap ⟨xs,[]⟩ (s.heap.push o₁) ι σ (.ref s.heap.objs.size):=by
 refine ⟨_,_,_,_,St,rfl,Itr.ofWalks W hn S.len (fun b hb=>?_) ht ho h0 (zfC S) hgo (fun i v x hv hx=>(hP i v x hv hx).push _),h0,fun b hb=>?_,fun b hb hm=>?_⟩
 ·rcases List.mem_cons.mp hb with rfl | hb
  ·exact zbG S
  ·exact (hfp b hb).1
 ·rw [List.mem_singleton.mp hb];exact zav _
 ·rcases List.mem_cons.mp hm with q | hm
  ·obtain ⟨o,ho⟩:=hDt b hb;rw [q,zav] at ho;cases ho
  ·exact (hfp b hm).2 hb
theorem zgQ{h:Heap}{a b:Addr}{T U:String}{x y:Value}{vs:Array Value}{n:Nat}(p:∃ o,h.get? a=some o∧o.cls=.type T∧o.data=.fields #[x,y])(q:∃ o,h.get? b=some o∧o.cls=.type U∧∃ n,o.data=.seq vs n):∀ c∈[a,b],∃ o,h.get? c=some o∧∀ es n,o.data≠.dict es n:=by
 obtain ⟨o,ho,_,hd⟩:=p
 obtain ⟨o',ho',_,n',hd'⟩:=q
 intro c hc
 rcases List.mem_cons.mp hc with rfl | hc
 ·exact ⟨o,ho,fun es n q=>by rw [hd] at q;cases q⟩
 ·rw [List.mem_singleton.mp hc];exact ⟨o',ho',fun es n q=>by rw [hd'] at q;cases q⟩
theorem zaM{h:Heap}{a:Addr}{T:String}{fs:Array Value}(p:∃ o,h.get? a=some o∧o.cls=.type T∧o.data=.fields fs):NoSeq [a] h:=by
 obtain ⟨o,ho,hc,hd⟩:=p
 exact zeC ho hc fun vs n q=>by rw [hd] at q;cases q
theorem ziA{h:Heap}{xs:List PV}{vs:Array Value}(rl:RepL h ι σ xs vs.toList)(i:Nat)(v:Value)(x:PV)(hv:vs[i]?=some v)(hx:xs[i]?=some x):Rep h ι σ x v:=by
 obtain ⟨v',hv',r'⟩:=rl.get hx
 rw [← Array.getElem?_toList,hv'] at hv;cases hv
 exact r'
theorem zmk{D:List Addr}{v:PV}{x:Value}(hh:A.handled=none)(hD:NoSeq D s.heap)(hDt:∀ b∈D,∃ o,s.heap.get? b=some o)(S:StoreOk prog w hB s.heap ι σ)(B:hB.StaysIn s.heap)(r:Rep s.heap ι σ v x)(Q:Value→Shared→Prop)(E:Value→Shared→Prop)
  (hns:zaz v σ≠.stuck) (h:∀ src it h₁,zaz v σ=.ok src σ→Step prog w hB s.heap ι σ h₁ ι σ→Made prog w hB A t D s.heap src h₁ ι σ it→Q it { s with heap:=h₁ }) :
  wpAny (model prog w) A (pyIter x) Q E s:=by
 have fresh:∀ b∈D,b≠s.heap.objs.size:=fun b hb q=>by obtain ⟨o,ho⟩:=hDt b hb;rw [q,zav] at ho;cases ho
 cases v with
 | tup xs=>
  obtain ⟨a,vs,n,rfl,e,nl,rl⟩:=r.inv
  exact wpAny_pyIter_tuple ⟨_,e,rfl,_,rfl⟩ (h ⟨xs,[]⟩ _ _ rfl (Step.push S B _) (zee hDt S (Walks.tuple hh _ a (Nat.ne_of_lt (Heap.lt_size e)) vs) rl.length.symm (fun b hb=>by rw [List.mem_singleton.mp hb];exact ⟨nl,fun q=>(hD a q _ e).1 _ _ rfl⟩)
   (fun i h st=>zgQ (n:=0) st.1 st.2) (fun i h st=>zaM st.1) (fun i h st=>zf5 st.1 (by decide +kernel)) ⟨⟨_,Heap.get?_push_size _ rfl,rfl,rfl⟩,⟨_,Heap.get?_push_of_some _ e,rfl,_,rfl⟩⟩ (ziA rl)))
 | lst xs=>
  obtain ⟨a,vs,n,rfl,e,nl,rl⟩:=r.inv
  exact wpAny_pyIter_list ⟨_,e,rfl,_,rfl⟩ (h ⟨xs,[]⟩ _ _ rfl (Step.push S B _) (zee hDt S (Walks.list hh _ a (Nat.ne_of_lt (Heap.lt_size e)) vs) rl.length.symm (fun b hb=>by rw [List.mem_singleton.mp hb];exact ⟨nl,fun q=>(hD a q _ e).1 _ _ rfl⟩)
   (fun i h st=>zgQ (n:=0) st.1 st.2) (fun i h st=>zaM st.1) (fun i h st=>zf5 st.1 (by decide +kernel)) ⟨⟨_,Heap.get?_push_size _ rfl,rfl,rfl⟩,⟨_,Heap.get?_push_of_some _ e,rfl,_,rfl⟩⟩ (ziA rl)))
 | str y=>
  obtain ⟨u,rfl⟩:=r.inv
  have key:∀{T:String}(_:ownTs.contains T=false)(_:Walks prog w A s.heap.objs.size [s.heap.objs.size] [s.heap.objs.size] y.cps.size (SignAt y) (fun i h=>h.IsStrIter s.heap.objs.size T y u i)),
    Q (.ref s.heap.objs.size) { s with heap:=s.heap.push { cls:=.type T,data:=.fields #[.str y u,.int 0 0] } }:=fun hT Ws=>
   h ⟨zd6 y.cps.toList,[]⟩ _ _ rfl (Step.push S B _) (zee hDt S Ws ((zl5 _).symm▸rfl) (fun b hb=>nomatch hb)
    (fun i h st b hb=>by obtain ⟨o,ho,_,hd⟩:=st;rw [List.mem_singleton.mp hb];exact ⟨o,ho,fun es n q=>(by rw [hd] at q;cases q)⟩) (fun i h st=>zaM st) (fun i h st=>zf5 st hT) ⟨_,Heap.get?_push_size _ rfl,rfl,rfl⟩
    (fun i v x hv hx=>by
     obtain ⟨c,u',hc,rfl⟩:=hv
     rw [zl6,Array.getElem?_toList,hc] at hx
     cases hx
     exact .str _ _))
  cases ha:y.cps.all (·<128) with
  | false=>exact wpAny_pyIter_wide ha (key (by decide +kernel) (Walks.strWide hh _ y u))
  | true=>exact wpAny_pyIter_ascii ha (key (by decide +kernel) (Walks.strAscii hh _ y u))
 | ref j=>
  obtain ⟨a,rfl,hi⟩:=r.inv
  rcases zbN S hi with ⟨xs,vs,n,h1,hc,hp,rl⟩ | h1
  ·have hne:s.heap.objs.size≠a:=(Nat.ne_of_lt (Heap.lt_size hp)).symm
   have hit:(s.heap.push { cls:=.type "list_iterator",data:=.fields #[.ref a,.int 0 0] }).IsListIter s.heap.objs.size a 0:=⟨_,Heap.get?_push_size _ rfl,rfl,rfl⟩
   exact wpAny_pyIter_list ⟨_,hp,rfl,_,rfl⟩ (h ⟨xs,[(j,xs)]⟩ _ _ (zab h1) (Step.push S B _) ⟨_,_,_,_,_,rfl,Itr.live hh hi hne (zbG S) hit (zfC S),hit,fun b hb=>by rw [List.mem_singleton.mp hb];exact zav _,fun b hb hm=>fresh b hb (List.mem_singleton.mp hm)⟩)
  ·exact (hns (zae h1)).elim
 | _=>exact (hns rfl).elim
theorem ziQ{h h':Heap}{a:Addr}(hk:∀ b o,h.get? b=some o→h'.get? b=some o)(ha:h.get? a=none):Evo [] h ι σ h' (ι.hide a) σ where
 pre:=fun _ _ e=>e
 fresh:=fun i b e e'=>by simp only [Ad.hide] at e;rw [e] at e';cases e'
 dead:=fun _ e=>e
 alive:=fun b o e=>⟨o,hk b o e⟩
 keep:=fun b o e _ _=>⟨⟨o.slots,hk b o e⟩,fun _=>hk b o e⟩
 hid:=fun _ h=>.tail _ h
 hfresh:=fun b hb=>by
  rcases List.mem_cons.mp hb with rfl | hb
  ·exact .inr ha
  ·exact .inl hb
theorem StoreOk.hide{h h':Heap}{a:Addr}(S:StoreOk prog w hB h ι σ)(hk:∀ b o,h.get? b=some o→h'.get? b=some o)(ha:h.get? a=none)(ht:∃ o,h'.get? a=some o∧∀ vs,o.data≠.fields vs)(hb:hB.get? a=none):StoreOk prog w hB h' (ι.hide a) σ:=by
 have X:=ziQ (ι:=ι) (σ:=σ) hk ha
 refine ⟨S.len,S.nodup,fun b hb=>?_,fun b hb=>?_,fun b hb=>?_,S.base,fun b hb'=>?_,S.sys,fun i b c e e'=>(S.ok i b c e e').evo S.len X fun o ho=>hk _ _ ho⟩
 ·obtain ⟨o,ho⟩:=S.there b hb;exact ⟨o,hk _ _ ho⟩
 ·rcases List.mem_cons.mp hb with rfl | hb
  ·exact ht
  ·obtain ⟨o,ho,f⟩:=S.hthere b hb;exact ⟨o,hk _ _ ho,f⟩
 ·intro q
  rcases List.mem_cons.mp q with rfl | q
  ·obtain ⟨o,ho⟩:=S.there _ hb;rw [ha] at ho;cases ho
  ·exact S.apart b hb q
 ·rcases List.mem_cons.mp hb' with rfl | hb'
  ·exact hb
  ·exact S.hbase b hb'
theorem zbf{h:Heap}(B:hB.StaysIn h){a:Addr}(ha:h.get? a=none):hB.get? a=none:=za4 (fun b o e=>⟨o,B b o e⟩) ha
end
section
variable {prog:Program} {w:World} {hB:Heap} {A:Around} {s:Shared} {ι:Ad} {σ:zaa} {env:Env} {ρ:Loc} {fl:List Env} {sc:Scope} {E:Expr→M PV} {K:Frag} {t:Expr}
theorem zgl{g:Str}{cx:Cx}{it:Expr}{args:List Expr}(h:zcx g cx sc ρ it=some args):∃ f fp p,it=.Call (.Name f fp) args [] p∧zaW cx sc ρ f=some (.bi g):=by
 obtain ⟨c,h1,q₁⟩:=Option.bind_eq_some_iff.mp h
 obtain ⟨f,h2,q₂⟩:=Option.bind_eq_some_iff.mp q₁
 obtain ⟨y,h3,q₃⟩:=Option.bind_eq_some_iff.mp q₂
 obtain ⟨⟨g,as,p⟩,rfl⟩:=c
 obtain ⟨⟨f,fp⟩,hf⟩:=f
 have hf':g=.Name f fp:=hf
 subst hf'
 cases y with
 | bi z=>
  have q₃:(bif decide (z=g) then some as else none)=some args:=q₃
  cases q:decide (z=g) with
  | true=>rw [q] at q₃;cases q₃;rw [of_decide_eq_true q] at h3;exact ⟨f,fp,p,rfl,h3⟩
  | false=>rw [q] at q₃;cases q₃
 | _=>cases q₃
theorem Made.older{D:List Addr}{src:Src}{h₀ h₁ h₂:Heap}{v:Value}(X:Made prog w hB A t D h₁ src h₂ ι σ v)(hal:∀ b o,h₀.get? b=some o→∃ o',h₁.get? b=some o'):Made prog w hB A t D h₀ src h₂ ι σ v:=by
 obtain ⟨I,fp,own,hh,St,e,X,st,hn,hd⟩:=X
 exact ⟨I,fp,own,hh,St,e,X,st,fun b hb=>za4 hal (hn b hb),hd⟩
theorem zft{D:List Addr}{a b:Int}{t' u v:Tok}{tk:Nat}(hh:A.handled=none)(hDt:∀ b∈D,∃ o,s.heap.get? b=some o)(S:StoreOk prog w hB s.heap ι σ)(B:hB.StaysIn s.heap)(Q:Value→Shared→Prop)(E:Value→Shared→Prop)(ha:zbq a=true)(hb:zbq b=true)
  (h:∀ it h₁,Step prog w hB s.heap ι σ h₁ ι σ→Made prog w hB A t D s.heap ⟨zbb a (b-a).toNat,[]⟩ h₁ ι σ it→Q it { s with heap:=h₁,toks:=tk }) :
  wpAny (model prog w) A (pyIter (.ref s.heap.objs.size)) Q E { s with heap:=s.heap.push { cls:=.type "range",data:=.fields #[.int a t',.int b u,.int 1 v] },toks:=tk }:=by
 unfold zbq at ha hb
 rw [Bool.and_eq_true,decide_eq_true_eq,decide_eq_true_eq] at ha hb
 have X₁:Step prog w hB s.heap ι σ (s.heap.push { cls:=.type "range",data:=.fields #[.int a t',.int b u,.int 1 v] }) ι σ:=Step.push S B _
 have hd:∀ c∈D,∃ o,(s.heap.push { cls:=.type "range",data:=.fields #[.int a t',.int b u,.int 1 v] }).get? c=some o:=fun c hc=>by obtain ⟨o,ho⟩:=hDt c hc;exact ⟨o,Heap.get?_push_of_some _ ho⟩
 have hrs:=rangeSize_one a b
 have hsize:Builtin.Range.rangeSize a b 1=(((b-a).toNat:Nat):Int):=by rw [hrs];split <;> omega
 refine wpAny_pyIter_range (IsRange.new s.heap a b 1 t' u v) (small_one (by omega) (by omega) (by omega) (by omega)) ?_
 generalize hH:s.heap.push { cls:=.type "range",data:=.fields #[.int a t',.int b u,.int 1 v] }=H at X₁ hd
 refine h _ _ (X₁.trans S.len (Step.push X₁.store X₁.stays _)) ?_
 have M:=zee (s:={ s with heap:=H }) (A:=A) (t:=t) (D:=D) (xs:=zbb a (b-a).toNat) hd X₁.store (Walks.range hh H.objs.size a 1 (b-a).toNat) (zfh _ _).symm (fun b hb=>nomatch hb)
  (fun i h st b hb=>by rw [List.mem_singleton.mp hb];exact ⟨_,st,fun es n q=>nomatch q⟩) (fun i h st=>zeC st rfl fun vs n q=>nomatch q) (fun i h st=>⟨_,_,st,rfl,by decide +kernel⟩) (o₁:={ cls:=.type "range_iterator",data:=.fields #[.int a 0,.int (((b-a).toNat:Nat):Int) 0,.int 1 0] })
  (by
   show IsRangeIter _ _ _ _ _
   rw [Int.ofNat_zero,Int.zero_mul,Int.add_zero,Int.sub_zero]
   exact Heap.get?_push_size _ rfl)
  (fun i v x hv hx=>by
   obtain ⟨t',rfl⟩:=hv
   have hi:i<(b-a).toNat:=by have:=(List.getElem?_eq_some_iff.mp hx).1;rwa [zfh] at this
   rw [zi6 a _ i hi] at hx;cases hx
   rw [Int.mul_one];exact .int _ _)
 rw [hsize]
 exact M.older fun b o e=>⟨o,by rw [← hH];exact Heap.get?_push_of_some _ e⟩
theorem zmj{D:List Addr}{vs:List PV}{xs:List Value}(hh:A.handled=none)(hDt:∀ b∈D,∃ o,s.heap.get? b=some o)(S:StoreOk prog w hB s.heap ι σ)(B:hB.StaysIn s.heap)(r:RepL s.heap ι σ vs xs)(Q:Value→Shared→Prop)(E:Value→Shared→Prop)
  (hns:zbv vs σ≠.stuck) (h:∀ src it h₁ tk,zbv vs σ=.ok src σ→Step prog w hB s.heap ι σ h₁ ι σ→Made prog w hB A t D s.heap src h₁ ι σ it→Q it { s with heap:=h₁,toks:=tk }) :
  wpAny (model prog w) A (call (.type "range") xs) (fun x s₁=>wpAny (model prog w) A (pyIter x) Q E s₁) E s:=by
 cases r with
 | nil=>exact (hns rfl).elim
 | cons r rs=>
  rename_i v xv vs xs
  cases v with
  | int k=>
   obtain ⟨t,rfl⟩:=r.inv
   cases rs with
   | nil=>
    have hns:M.cond (zbq k) (M.ret (Src.mk (zbb 0 k.toNat) [])) M.fail σ≠.stuck:=hns
    cases hk:zbq k with
    | false=>rw [hk] at hns;exact (hns rfl).elim
    | true=>
     refine call_range_1 (zft hh hDt S B Q E (by decide) hk fun it h₁ X Md=>h _ it h₁ _ ?_ X Md)
     rw [Int.sub_zero]
     show M.cond (zbq k) (M.ret (Src.mk (zbb 0 k.toNat) [])) M.fail σ=_
     rw [hk];rfl
   | cons r rs=>
    cases rs with
    | cons _ _=>exact (hns rfl).elim
    | nil=>
     rename_i v₂ xv₂
     cases v₂ with
     | int l=>
      obtain ⟨u,rfl⟩:=r.inv
      have hns:M.cond (zbq k&&zbq l) (M.ret (Src.mk (zbb k (l-k).toNat) [])) M.fail σ≠.stuck:=hns
      cases hk:zbq k&&zbq l with
      | false=>rw [hk] at hns;exact (hns rfl).elim
      | true=>
       refine call_range_2 (zft hh hDt S B Q E (Bool.and_eq_true_iff.mp hk).1 (Bool.and_eq_true_iff.mp hk).2 fun it h₁ X Md=>h _ it h₁ _ ?_ X Md)
       show M.cond (zbq k&&zbq l) (M.ret (Src.mk (zbb k (l-k).toNat) [])) M.fail σ=_
       rw [hk];rfl
     | _=>exact (hns rfl).elim
  | _=>exact (hns rfl).elim
theorem zhl:∀(xs:List PV)(a i:Nat),(zcE a xs)[i]?=(xs[i]?).map fun x=>.tup [.int ((a+i:Nat):Int),x]
 | [],_,_=>rfl
 | x::r,a,0=>rfl
 | x::r,a,i+1=>(zhl r (a+1) i).trans (by rw [Nat.add_right_comm];rfl)
theorem zhk:∀(xs:List PV)(a:Nat),(zcE a xs).length=xs.length
 | [],_=>rfl
 | _::r,a=>congrArg Nat.succ (zhk r (a+1))
theorem zjN{e:Expr}(h:zbZ e=2):∃ a b c,e=.Tuple a b c:=by
 cases e with
 | Tuple a b c=>exact ⟨a,b,c,rfl⟩
 | _=>cases h
theorem zdh{h:Heap}{e it:Addr}{i:Int}{old:Value}(he:IsEnum h e it i old):∃ o,h.get? e=some o∧o.cls=.type "enumerate"∧o.data=.fields #[.none,.bool false,.ref it,rawInt i,.none,old]:=⟨_,he,rfl,rfl⟩
theorem Itr.enum{e it l:Addr}{xs:List PV}{wt:List (Nat×List PV)}{fp:List Addr}{Pl:Heap→Prop}{h₁:Heap}{ι₁:Ad}{σ₁:zaa}(hh:A.handled=none)(ht:zbZ t=2)(hne:e≠it)(hnl:∀ b∈e::it::fp,¬ Live ι₁ σ₁ b)(hth:∀ h,Pl h→∀ b∈fp,∃ o,h.get? b=some o∧∀ es n,o.data≠.dict es n)
  (hfr:∀ b∈[e,it],b∉ι₁.vis∧b∉ι₁.hid) (hPl:∀ h h',Pl h→(∀ b∈fp,∀ o,h.get? b=some o→h'.get? b=some o)→Pl h') (hfp:∀ b∈fp,b∉[e,it])
  (get:∀(D:List Addr)(s:Shared)(ι:Ad)(σ:zaa),NoSeq D h₁→Evo ([e,it]++D) h₁ ι₁ σ₁ s.heap ι σ→StoreOk prog w hB s.heap ι σ→NoSeq [e,it] s.heap→Pl s.heap→chkW wt σ=.ok () σ→∃ items,s.heap.IsList l items∧RepL s.heap ι σ xs items.toList) :
  Itr prog w hB A t e (e::it::fp) [e,it] [] ⟨zcE 0 xs,wt⟩ (fun i h=>(∃ old,IsEnum h e it (i:Nat) old)∧h.IsListIter it l i∧Pl h) h₁ ι₁ σ₁:=by
 have own:∀{b:Addr},b∉[e,it]→b≠e∧b≠it:=fun hb=>⟨fun q=>hb (q▸.head _),fun q=>hb (q▸.tail _ (.head _))⟩
 have ok:∀(i:Nat)(h:Heap),((∃ old,IsEnum h e it (i:Nat) old)∧h.IsListIter it l i∧Pl h)→NoSeq [e,it] h:=fun i h st=>by
  obtain ⟨⟨old,he⟩,hit,_⟩:=st
  exact NoSeq.append (D:=[e]) (zaM (zdh he)) (zaM hit)
 have th:∀(i:Nat)(h:Heap),((∃ old,IsEnum h e it (i:Nat) old)∧h.IsListIter it l i∧Pl h)→∀ b∈e::it::fp,∃ o,h.get? b=some o∧∀ es n,o.data≠.dict es n:=fun i h st b hb=>by
  obtain ⟨⟨old,he⟩,⟨o,ho,_,hd⟩,hp⟩:=st
  rcases List.mem_cons.mp hb with rfl | hb
  ·exact ⟨_,he,fun es n q=>nomatch q⟩
  ·rcases List.mem_cons.mp hb with rfl | hb
   ·exact ⟨o,ho,fun es n q=>by rw [hd] at q;cases q⟩
   ·exact hth h hp b hb
 have sub:∀ b∈[e,it],b∈e::it::fp:=fun b hb=>by
  rcases List.mem_cons.mp hb with rfl | hb
  ·exact .head _
  ·rw [List.mem_singleton.mp hb];exact .tail _ (.head _)
 refine ⟨fun b hb=>zaK (hnl b hb),th,sub,fun b hb=>⟨(hfr b hb).1,fun q=>((hfr b hb).2 q).elim⟩,fun _ hb=>(nomatch hb),fun _ _ _ _ hb=>(nomatch hb),fun i h _ st _=>(ok i h st).off,fun i h h' st hk=>?_,fun D i s ι σ x hD X S st hc hx P Q E hP h=>?_,fun D s ι σ hD X S st hc Q E h=>?_,fun i s Q E st hq=>?_⟩
 ·obtain ⟨⟨old,he⟩,hit,hp⟩:=st
  exact ⟨⟨old,hk e (.head _) _ he⟩,hit.at fun o e=>hk it (.tail _ (.head _)) o e,hPl h h' hp fun b hb=>hk b (.tail _ (.tail _ hb))⟩
 ·obtain ⟨items,hl,rl⟩:=get D s ι σ hD X S (ok _ _ st) st.2.2 hc
  have hx:(zcE 0 xs)[i]?=some x:=hx
  rw [zhl] at hx
  obtain ⟨y,hy,rfl⟩:=Option.map_eq_some_iff.mp hx
  obtain ⟨v,hv,r⟩:=rl.get hy
  obtain ⟨⟨old,he⟩,hit,hp⟩:=id st
  obtain ⟨ta,tb,tc,rfl⟩:=zjN ht
  refine wpAny_pyNext_enum_item he hit hl (x:=v) (by rw [← Array.getElem?_toList];exact hv) hne fun h' ho hit' hT hsz hk=>hP _ _ (wpAny_letOwnedTupleGo_enum ho fun h'' he'' hs=>?_)
  have keep:∀ b o,b∉[e,it]→s.heap.get? b=some o→h''.get? b=some o:=fun b o hb q=>(hs.2 b (own hb).1).trans (hk b o (own hb).1 (own hb).2 q)
  have st':(∃ old,IsEnum h'' e it ((i+1:Nat):Int) old)∧h''.IsListIter it l (i+1)∧Pl h'':=⟨⟨v,he''⟩,hit'.at fun o q=>(hs.2 it hne.symm).trans q,hPl _ _ hp fun b hb o q=>keep b o (hfp b hb) q⟩
  have Y:Evo [e,it] s.heap ι σ h'' ι σ:=Evo.but keep fun b hb=>by obtain ⟨o,ho,_⟩:=th _ _ st' b (sub b hb);exact ⟨o,ho⟩
  have hTe:s.heap.objs.size≠e:=fun q=>by have:=Heap.lt_size he;rw [q] at this;exact Nat.lt_irrefl _ this
  refine h (.ref s.heap.objs.size) h'' _ (.tup ((hs.2 _ hTe).trans hT) (zbG S) (.cons ?_ (.cons (r.evo S.len Y (ok _ _ st)) .nil))) st' keep
  rw [Nat.zero_add];exact .int _ _
 ·obtain ⟨items,hl,rl⟩:=get D s ι σ hD X S (ok _ _ st) st.2.2 hc
  obtain ⟨⟨old,he⟩,hit,hp⟩:=st
  refine wpAny_pyNext_enum_end hh he hit hl ?_ fun h' hx=>h h' s.toks (fun b o hb q=>hx b o (own hb).2 q) fun _ hb=>nomatch hb
  rw [← Array.getElem?_toList]
  exact List.getElem?_eq_none (by rw [← rl.length];exact Nat.le_of_eq (zhk xs 0).symm)
 ·obtain ⟨⟨old,he⟩,_⟩:=st
  exact wpAny_pyIter_enum he hq
theorem znR{h:Heap}(S:StoreOk prog w hB h ι σ):(∀ b∈[h.objs.size+1,h.objs.size],b∉ι.vis∧b∉ι.hid)∧(∀ b∈[h.objs.size+1,h.objs.size],h.get? b=none):=by
 have n:∀ b∈[h.objs.size+1,h.objs.size],∀ o,h.get? b≠some o:=fun b hb o q=>by
  have:=Heap.lt_size q
  rcases List.mem_cons.mp hb with rfl | hb
  ·exact absurd this (Nat.not_lt.mpr (Nat.le_succ _))
  ·rw [List.mem_singleton.mp hb] at this;exact Nat.lt_irrefl _ this
 exact ⟨fun b hb=>⟨fun q=>by obtain ⟨o,ho⟩:=S.there _ q;exact n b hb o ho,fun q=>by obtain ⟨o,ho,_⟩:=S.hthere _ q;exact n b hb o ho⟩,fun b hb=>by
  cases q:h.get? b with
  | none=>rfl
  | some o=>exact (n b hb o q).elim⟩
theorem znQ{D:List Addr}{vs:List PV}{xs:List Value}(hh:A.handled=none)(ht:zbZ t=2)(hD:NoSeq D s.heap)(hDt:∀ b∈D,∃ o,s.heap.get? b=some o)(S:StoreOk prog w hB s.heap ι σ)(B:hB.StaysIn s.heap)(r:RepL s.heap ι σ vs xs)(Q:Value→Shared→Prop)(E:Value→Shared→Prop)
  (hns:zdX vs σ≠.stuck) (h:∀ src it h₁ tk,zdX vs σ=.ok src σ→Step prog w hB s.heap ι σ h₁ ι σ→Made prog w hB A t D s.heap src h₁ ι σ it→Q it { s with heap:=h₁,toks:=tk }) :
  wpAny (model prog w) A (call (.type "enumerate") xs) (fun x s₁=>wpAny (model prog w) A (pyIter x) Q E s₁) E s:=by
 obtain ⟨fr,nw⟩:=znR S
 have nl2:∀ b∈[s.heap.objs.size+1,s.heap.objs.size],¬ Live ι σ b:=fun b hb q=>q.elim (fun ⟨i,c,hi,_⟩=>(fr b hb).1 (List.mem_of_getElem? hi)) (fr b hb).2
 have hDf:∀ b∈D,b∉[s.heap.objs.size+1,s.heap.objs.size]:=fun b hb q=>by obtain ⟨o,ho⟩:=hDt b hb;rw [nw b q] at ho;cases ho
 cases r with
 | nil=>exact (hns rfl).elim
 | cons r rs=>
  cases rs with
  | cons _ _=>exact (hns rfl).elim
  | nil=>
   rename_i v xv
   cases v with
   | lst ys=>
    obtain ⟨a,as,n,rfl,e,nl,rl⟩:=r.inv
    refine call_enumerate_list ⟨_,e,rfl,_,rfl⟩ fun h' he hit hsz hk=>wpAny_pyIter_enum he ?_
    have X:=Step.keeps S B hk
    have ha:a∉[s.heap.objs.size+1,s.heap.objs.size]:=fun q=>by rw [nw a q] at e;cases e
    refine h ⟨zcE 0 ys,[]⟩ _ h' s.toks rfl X ⟨_,_,_,_,_,rfl,Itr.enum (l:=a) (fp:=[a]) (Pl:=fun h=>h.get? a=some { cls:=.type "list",data:=.seq as n }) hh ht (Nat.succ_ne_self _) (fun b hb=>?_) (fun h hp b hb=>by rw [List.mem_singleton.mp hb];exact ⟨_,hp,fun es n q=>nomatch q⟩) fr
     (fun h h' hp hk=>hk a (.head _) _ hp) (fun b hb=>by rw [List.mem_singleton.mp hb];exact ha) (fun D s' ι' σ' hD X' S' ho hp _=>⟨as,⟨_,hp,rfl,_,rfl⟩,(rl.step S.len X).evo S.len X' (NoSeq.append (fun b hb o q=>?_) hD)⟩),⟨⟨.none,he⟩,hit,hk _ _ e⟩,nw,fun b hb q=>?_⟩
    ·rcases List.mem_cons.mp hb with rfl | hb
     ·exact nl2 _ (.head _)
     ·rcases List.mem_cons.mp hb with rfl | hb
      ·exact nl2 _ (.tail _ (.head _))
      ·rw [List.mem_singleton.mp hb];exact nl
    ·exact (NoSeq.append (D:=[s.heap.objs.size+1]) (zaM (zdh he)) (zaM hit)) b hb o q
    ·rcases List.mem_cons.mp q with rfl | q
     ·exact hDf _ hb (.head _)
     ·rcases List.mem_cons.mp q with rfl | q
      ·exact hDf _ hb (.tail _ (.head _))
      ·rw [List.mem_singleton.mp q] at hb;exact (hD a hb _ e).1 _ _ rfl
   | ref j=>
    obtain ⟨a,rfl,hi⟩:=r.inv
    rcases zbN S hi with ⟨ys,as,n,h1,hc,e,rl⟩ | h1
    ·refine call_enumerate_list ⟨_,e,rfl,_,rfl⟩ fun h' he hit hsz hk=>wpAny_pyIter_enum he ?_
     have X:=Step.keeps S B hk
     refine h ⟨zcE 0 ys,[(j,ys)]⟩ _ h' s.toks (show (lsrc (.ref j)).bind (fun s=>M.ret (Src.mk (zcE 0 s.xs) s.watch)) σ=_ from zab (show lsrc (.ref j) σ=.ok ⟨ys,[(j,ys)]⟩ σ from zab h1)) X ⟨_,_,_,_,_,rfl,Itr.enum (l:=a) (fp:=[]) (Pl:=fun _=>True) hh ht (Nat.succ_ne_self _) nl2 (fun h hp b hb=>nomatch hb) fr
      (fun h h' hp hk=>trivial) (fun b hb=>nomatch hb) (fun D s' ι' σ' hD X' S' ho hp hc'=>?_),⟨⟨.none,he⟩,hit,trivial⟩,nw,hDf⟩
     obtain ⟨vs,⟨n,hp⟩,rl⟩:=S'.ok _ _ _ (X'.pre _ _ hi) (zgA hc')
     exact ⟨vs,⟨_,hp,rfl,n,rfl⟩,rl⟩
    ·exact (hns (show (lsrc (.ref j)).bind (fun s=>M.ret (Src.mk (zcE 0 s.xs) s.watch)) σ=_ from zae (show lsrc (.ref j) σ=.stuck from zae h1))).elim
   | _=>exact (hns rfl).elim
theorem FrOk.dynT{h':Heap}{ι':Ad}{σ':zaa}(F:FrOk hB env ρ h' ι' σ'):∀ b∈dyn env,∃ o,h'.get? b=some o:=fun b hb=>by
 rcases List.mem_cons.mp hb with rfl | hb
 ·obtain ⟨m,⟨o,_,_,ho,_⟩,_⟩:=F.ns;exact ⟨o,ho⟩
 ·obtain ⟨y,o,ho,_⟩:=F.cellsAt b hb;exact ⟨o,ho⟩
theorem zfa{cx:Cx}{g:Str}{T:String}{it:Expr}{args:List Expr}{F:List PV→M Src}(hg:bis.lookup g=some (.type T))(hc:zcx g cx sc ρ it=some args)
  (hF:∀(s:Shared)(ι:Ad)(vs:List PV)(xs:List Value)(σ:zaa),NoSeq (dyn env) s.heap→(∀ b∈dyn env,∃ o,s.heap.get? b=some o)→StoreOk prog w hB s.heap ι σ→hB.StaysIn s.heap→RepL s.heap ι σ vs xs→∀(Q:Value→Shared→Prop)(E:Value→Shared→Prop),F vs σ≠.stuck→
   (∀ src it h₁ tk ι₁,F vs σ=.ok src σ→Step prog w hB s.heap ι σ h₁ ι₁ σ→Made prog w hB A t (dyn env) s.heap src h₁ ι₁ σ it→Q it { s with heap:=h₁,toks:=tk })→wpAny (model prog w) A (call (.type T) xs) (fun x s₁=>wpAny (model prog w) A (pyIter x) Q E s₁) E s)
  (hG:GlobOk hB K cx.G) (H:EnvOk env sc) (IH:EvIH prog w hB A env ρ fl E) (hst:∀ e p,E (.Starred e p)=M.fail) (I:Inv prog w hB env ρ fl s.heap ι σ) (Q:Value→Shared→Prop) (Er:Value→Shared→Prop)
  (hns:zdn E args F σ≠.stuck)
  (hok:∀ src σ₁,zdn E args F σ=.ok src σ₁→∀ itv h₁ tk ι₁,Step prog w hB s.heap ι σ h₁ ι₁ σ₁→Made prog w hB A t (dyn env) s.heap src h₁ ι₁ σ₁ itv→Q itv { s with heap:=h₁,toks:=tk })
  (herr:∀ C σ',zdn E args F σ=.err C σ'→∀ e h' tk ι',Step prog w hB s.heap ι σ h' ι' σ'→Fly s.heap h' e C→Er (.ref e) { s with heap:=h',toks:=tk }) :
  wpAny (model prog w) A (eval it env) (fun x s₁=>wpAny (model prog w) A (pyIter x) Q Er s₁) Er s:=by
 obtain ⟨f,fp,p,rfl,hres⟩:=zgl hc
 have hns:M.cond (zat args) ((evs E args).bind F) M.fail σ≠.stuck:=hns
 cases hp:zat args with
 | false=>rw [hp] at hns;exact (hns rfl).elim
 | true=>
  have eq:zdn E args F σ=((evs E args).bind F) σ:=by unfold zdn;rw [hp];rfl
  have hns:((evs E args).bind F) σ≠.stuck:=by rw [hp] at hns;exact hns
  refine Call_Name rfl (zbh hG.g H I.stays hres ⟨_,hg⟩ _ _ fun v hv=>?_)
  have hv':bis.lookup g=some v:=hv
  rw [hg] at hv';cases hv'
  refine PyProof.Rows.callWith_type (zaP p hp) ?_
  refine zd8 (f:=.type T) IH hst p hp I _ _ (fun q=>hns (zae q)) (fun vs σ₁ e₁ x h₁ tk₁ ι₁ X₁ r₁=>?_) (fun C σ₁ e₁ e h₁ tk₁ ι₁ X₁ F₁=>herr C σ₁ (eq.trans (zam e₁)) e h₁ tk₁ ι₁ X₁ F₁)
  obtain ⟨x,kw⟩:=x
  obtain ⟨r₁,q⟩:=r₁
  cases q
  have I₁:=I.step X₁
  refine hF { s with heap:=h₁,toks:=tk₁ } ι₁ vs _ σ₁ I₁.fr.noSeq I₁.fr.dynT I₁.store I₁.stays r₁ Q Er (fun q=>hns ((zab e₁).trans q)) fun src itv h₂ tk₂ ι₂ e₂ X₂ Md=>?_
  exact hok src σ₁ (eq.trans ((zab e₁).trans e₂)) itv h₂ tk₂ ι₂ (X₁.trans I.store.len X₂) (Md.older X₁.evo.alive)
theorem znk{cx:Cx}{it:Expr}(hG:GlobOk hB K cx.G)(hh:A.handled=none)(H:EnvOk env sc)(IH:EvIH prog w hB A env ρ fl E)(hst:∀ e p,E (.Starred e p)=M.fail)(I:Inv prog w hB env ρ fl s.heap ι σ)(Q:Value→Shared→Prop)(Er:Value→Shared→Prop)
  (hns:zcD cx sc ρ E t it σ≠.stuck)
  (hok:∀ src σ₁,zcD cx sc ρ E t it σ=.ok src σ₁→∀ itv h₁ tk ι₁,Step prog w hB s.heap ι σ h₁ ι₁ σ₁→Made prog w hB A t (dyn env) s.heap src h₁ ι₁ σ₁ itv→Q itv { s with heap:=h₁,toks:=tk })
  (herr:∀ C σ',zcD cx sc ρ E t it σ=.err C σ'→∀ e h' tk ι',Step prog w hB s.heap ι σ h' ι' σ'→Fly s.heap h' e C→Er (.ref e) { s with heap:=h',toks:=tk }) :
  wpAny (model prog w) A (eval it env) (fun x s₁=>wpAny (model prog w) A (pyIter x) Q Er s₁) Er s:=by
 cases hr:zcx "range" cx sc ρ it with
 | some args=>
  have e:zcD cx sc ρ E t it=zdn E args zbv:=by unfold zcD;rw [hr]
  rw [e] at hns hok herr
  exact zfa (by decide +kernel) hr (fun s ι vs xs σ hD hDt S B r Q E hns h=>zmj hh hDt S B r Q E hns fun src it h₁ tk=>h src it h₁ tk ι) hG H IH hst I Q Er hns hok herr
 | none=>
  cases he:zcx "enumerate" cx sc ρ it with
  | some args=>
   have e:zcD cx sc ρ E t it=M.cond (zbZ t==2) (zdn E args zdX) M.fail:=by unfold zcD;rw [hr];dsimp only;rw [he]
   rw [e] at hns hok herr
   cases ht:zbZ t==2 with
   | false=>rw [ht] at hns;exact (hns rfl).elim
   | true=>
    rw [ht] at hns hok herr
    exact zfa (by decide +kernel) he (fun s ι vs xs σ hD hDt S B r Q E hns h=>znQ hh (eq_of_beq ht) hD hDt S B r Q E hns fun src it h₁ tk=>h src it h₁ tk ι) hG H IH hst I Q Er hns hok herr
  | none=>
   have e:zcD cx sc ρ E t it=(E it).bind zaz:=by
    unfold zcD;rw [hr];dsimp only;rw [he]
   rw [e] at hns hok herr
   refine IH it s ι σ I _ _ (fun q=>hns (zae q)) (fun v σ₁ e₁ x h₁ tk₁ ι₁ X₁ r₁=>?_) (fun C σ₁ e₁ e h₁ tk₁ ι₁ X₁ F₁=>herr C σ₁ (zam e₁) e h₁ tk₁ ι₁ X₁ F₁)
   have I₁:=I.step X₁
   refine zmk (t:=t) (s:={ s with heap:=h₁,toks:=tk₁ }) hh I₁.fr.noSeq I₁.fr.dynT I₁.store I₁.stays r₁ Q Er (fun q=>hns ((zab e₁).trans q)) fun src itv h₂ e₂ X₂ Md=>?_
   exact hok src σ₁ ((zab e₁).trans e₂) itv h₂ tk₁ ι₁ (X₁.trans I.store.len X₂) (Md.older X₁.evo.alive)
end
section
variable {prog:Program} {w:World} {hB:Heap} {A:Around} {s:Shared} {ι:Ad} {σ:zaa} {env:Env} {ρ:Loc} {fl:List Env} {sc:Scope} {h h':Heap}
theorem StoreOk.but{D:List Addr}(S:StoreOk prog w hB h ι σ)(hk:∀ b o,b∉D→h.get? b=some o→h'.get? b=some o)(ht:∀ b∈D,∃ o,h'.get? b=some o)(hO:Off ι D h)(hn:∀ b∈D,¬ zcF ι σ b)(hh:∀ b∈D,b∈ι.hid→∃ o,h'.get? b=some o∧∀ vs,o.data≠.fields vs):StoreOk prog w hB h' ι σ:=by
 have X:Evo D h ι σ h' ι σ:=Evo.but hk ht
 refine ⟨S.len,S.nodup,fun a ha=>?_,fun a ha=>?_,S.apart,S.base,S.hbase,S.sys,fun i a c e e'=>?_⟩
 ·obtain ⟨o,ho⟩:=S.there a ha;exact X.alive a o ho
 ·by_cases hD:a∈D
  ·exact hh a hD ha
  ·obtain ⟨o,ho,f⟩:=S.hthere a ha;exact ⟨o,hk a o hD ho,f⟩
 ·have x:=S.ok i a c e e'
  cases c with
  | dead=>trivial
  | list xs=>
   have ha:a∉D:=fun q=>hn a q ⟨i,_,e,e',by intro q;cases q⟩
   obtain ⟨vs,⟨n,hp⟩,r⟩:=x
   exact ⟨vs,⟨n,hk a _ ha hp⟩,r.evo' S.len X hO⟩
  | dict kvs=>
   have ha:a∉D:=fun q=>hn a q ⟨i,_,e,e',by intro q;cases q⟩
   obtain ⟨ys,⟨o,es,ep,ho,k⟩,k2,r⟩:=x
   exact ⟨ys,⟨o,es,ep,hk a _ ha ho,k⟩,k2,r.evo' S.len X hO⟩
theorem Inv.but{D:List Addr}(I:Inv prog w hB env ρ fl h ι σ)(hk:∀ b o,b∉D→h.get? b=some o→h'.get? b=some o)(ht:∀ b∈D,∃ o,h'.get? b=some o)(hb:∀ b∈D,hB.get? b=none)(hO:Off ι D h)(hn:∀ b∈D,¬ zcF ι σ b)(hh:∀ b∈D,b∈ι.hid→∃ o,h'.get? b=some o∧∀ vs,o.data≠.fields vs)
  (hnd:∀ b∈D,∀ o,h.get? b=some o→∀ es n,o.data≠.dict es n) (hD:∀ b∈dyn env,b∉D):Inv prog w hB env ρ fl h' ι σ:=by
 have X:Evo D h ι σ h' ι σ:=Evo.but hk ht
 refine ⟨fun b o e=>hk b o (fun q=>by rw [hb b q] at e;cases e) (I.stays b o e),I.store.but hk ht hO hn hh,I.fr.evo I.store.len X hO hD,I.stk.evo I.store.len X fun b hbD hf=>?_⟩
 obtain ⟨o,es,n,ho,hd⟩:=I.stk.dicts b hf
 exact (hnd b hbD o ho es n hd).elim
theorem EvoW.but{D:List Addr}(hk:∀ b o,b∉D→h.get? b=some o→h'.get? b=some o):EvoW D h ι σ h' ι σ:=
 ⟨fun _ _ e=>e,fun i a e e'=>(by rw [e] at e';cases e'),fun _ e=>e,fun b o e _ hb=>⟨⟨o.slots,hk b o hb e⟩,fun _=>hk b o hb e⟩,fun _ h=>.inl h⟩
theorem Evo.lost{D own:List Addr}{h₀:Heap}{ι₀:Ad}{σ₀:zaa}(X:Evo D h₀ ι₀ σ₀ h ι σ)(hk:∀ b o,b∉own→h.get? b=some o→h'.get? b=some o)(hf:∀ b∈own,h₀.get? b=none):Evo D h₀ ι₀ σ₀ h' ι σ where
 pre:=X.pre
 fresh:=X.fresh
 dead:=X.dead
 alive:=fun b o e=>by
  obtain ⟨o',e'⟩:=X.alive b o e
  exact ⟨o',hk b o' (fun q=>by rw [hf b q] at e;cases e) e'⟩
 keep:=fun b o e hn hD=>by
  have hb:b∉own:=fun q=>by rw [hf b q] at e;cases e
  obtain ⟨⟨sl,e₂⟩,k⟩:=X.keep b o e hn hD
  exact ⟨⟨sl,hk b _ hb e₂⟩,fun q=>hk b _ hb (k q)⟩
 hid:=X.hid
 hfresh:=X.hfresh
theorem StoreOk.lost{D:List Addr}(S:StoreOk prog w hB h ι σ)(hk:∀ b o,b∉D→h.get? b=some o→h'.get? b=some o)(hO:Off ι D h)(hv:∀ b∈D,b∉ι.vis∧(b∈ι.hid→∃ o,h'.get? b=some o∧∀ vs,o.data≠.fields vs)):StoreOk prog w hB h' ι σ:=by
 have X:EvoW D h ι σ h' ι σ:=EvoW.but hk
 refine ⟨S.len,S.nodup,fun a ha=>?_,fun a ha=>?_,S.apart,S.base,S.hbase,S.sys,fun i a c e e'=>?_⟩
 ·obtain ⟨o,ho⟩:=S.there a ha;exact ⟨o,hk a o (fun q=>(hv a q).1 ha) ho⟩
 ·by_cases hD:a∈D
  ·exact (hv a hD).2 ha
  ·obtain ⟨o,ho,f⟩:=S.hthere a ha;exact ⟨o,hk a o hD ho,f⟩
 ·have x:=S.ok i a c e e'
  have ha:a∉D:=fun q=>(hv a q).1 (List.mem_of_getElem? e)
  cases c with
  | dead=>trivial
  | list xs=>obtain ⟨vs,⟨n,hp⟩,r⟩:=x;exact ⟨vs,⟨n,hk a _ ha hp⟩,r.evoW S.len X hO⟩
  | dict kvs=>obtain ⟨ys,⟨o,es,ep,ho,k⟩,k2,r⟩:=x;exact ⟨ys,⟨o,es,ep,hk a _ ha ho,k⟩,k2,r.evoW S.len X hO⟩
theorem Inv.lost{D:List Addr}(I:Inv prog w hB env ρ fl h ι σ)(hk:∀ b o,b∉D→h.get? b=some o→h'.get? b=some o)(hb:∀ b∈D,hB.get? b=none)(hO:Off ι D h)(hv:∀ b∈D,b∉ι.vis∧(b∈ι.hid→∃ o,h'.get? b=some o∧∀ vs,o.data≠.fields vs))
  (hnd:∀ b∈D,∀ o,h.get? b=some o→∀ es n,o.data≠.dict es n) (hD:∀ b∈dyn env,b∉D):Inv prog w hB env ρ fl h' ι σ:=by
 have X:EvoW D h ι σ h' ι σ:=EvoW.but hk
 refine ⟨fun b o e=>hk b o (fun q=>by rw [hb b q] at e;cases e) (I.stays b o e),I.store.lost hk hO hv,I.fr.evoW I.store.len X hO hD,I.stk.evoW I.store.len X fun b hbD hf=>?_⟩
 obtain ⟨o,es,n,ho,hd⟩:=I.stk.dicts b hf
 exact (hnd b hbD o ho es n hd).elim
theorem Inv.lost'{D:List Addr}(I:Inv prog w hB env ρ fl h ι σ)(hk:∀ b o,b∉D→h.get? b=some o→h'.get? b=some o)(hb:∀ b∈D,hB.get? b=none)(hO:Off ι D h)(hv:∀ b∈D,b∉ι.vis∧(b∈ι.hid→∃ o,h'.get? b=some o∧∀ vs,o.data≠.fields vs))
  (hnf:∀ b∈D,b∉fl.filterMap (·.frame)) (hD:∀ b∈dyn env,b∉D):Inv prog w hB env ρ fl h' ι σ:=by
 have X:EvoW D h ι σ h' ι σ:=EvoW.but hk
 exact ⟨fun b o e=>hk b o (fun q=>by rw [hb b q] at e;cases e) (I.stays b o e),I.store.lost hk hO hv,I.fr.evoW I.store.len X hO hD,I.stk.evoW I.store.len X fun b hbD hf=>(hnf b hbD hf).elim⟩
theorem Itr.freshAt{t:Expr}{I:Addr}{fp own hd:List Addr}{src:Src}{St:Nat→Heap→Prop}{h₁:Heap}{ι₁:Ad}{σ₁:zaa}{D:List Addr}(Z:Itr prog w hB A t I fp own hd src St h₁ ι₁ σ₁)(st₀:St 0 h₁)(X:Evo D h₁ ι₁ σ₁ h ι σ)(hh:∀ b∈hd,∃ o,h'.get? b=some o∧∀ vs,o.data≠.fields vs):∀ b∈own,b∉ι.vis∧(b∈ι.hid→∃ o,h'.get? b=some o∧∀ vs,o.data≠.fields vs):=fun b hb=>by
 obtain ⟨o,ho,_⟩:=Z.there 0 h₁ st₀ b (Z.sub b hb)
 refine ⟨fun q=>?_,fun q=>hh b ((Z.fresh b hb).2 ((X.hfresh b q).resolve_right fun e=>by rw [ho] at e;cases e))⟩
 obtain ⟨i,hi⟩:=List.getElem?_of_mem q
 cases q':ι₁.vis[i]? with
 | none=>have:=X.fresh i b hi q';rw [ho] at this;cases this
 | some a=>have:=X.pre i a q';rw [hi] at this;cases this;exact (Z.fresh b hb).1 (List.mem_of_getElem? q')
theorem Itr.okAt{t:Expr}{I:Addr}{fp own hd:List Addr}{src:Src}{St:Nat→Heap→Prop}{h₁:Heap}{ι₁:Ad}{σ₁:zaa}{D:List Addr}{i:Nat}(Z:Itr prog w hB A t I fp own hd src St h₁ ι₁ σ₁)(X:Evo D h₁ ι₁ σ₁ h ι σ)(st:St i h):Off ι own h:=Z.ownOk _ _ ι st fun b hb=>X.hid b (Z.hdIn b hb)
theorem zfP{a c:Addr}{m:Str→Option Value}{y:Option Value}(hn:h.Ns a m)(hc:h.IsCell c y):a≠c:=by
 rintro rfl
 obtain ⟨o,es,ep,ho,hd,_⟩:=hn
 obtain ⟨o',ho',hd'⟩:=hc
 rw [ho] at ho';cases ho'
 rw [hd] at hd';cases hd'
theorem IsCell.sameBut{a c:Addr}{y:Option Value}(hc:h.IsCell c y)(hs:Heap.SameBut a h h')(hne:c≠a):h'.IsCell c y:=by
 obtain ⟨o,ho,hd⟩:=hc;exact ⟨o,(hs.2 c hne).trans ho,hd⟩
theorem zbH{x z:Str}{c d:Addr}:∀{l:List (Str×Addr)},(l.Pairwise fun x y=>x.2≠y.2)→l.lookup x=some c→l.lookup z=some d→z≠x→d≠c
 | [],_,h,_,_=>by simp at h
 | (n,e)::r,hp,hx,hz,hne=>by
  rw [List.pairwise_cons] at hp
  rw [List.lookup_cons] at hx hz
  cases qx:x==n with
  | true=>
   rw [qx] at hx;cases hx
   have:(z==n)=false:=by
    cases qz:z==n with
    | false=>rfl
    | true=>exact (hne ((eq_of_beq qz).trans (eq_of_beq qx).symm)).elim
   rw [this] at hz
   exact fun q=>hp.1 (z,d) (mem_of_lookup hz) q.symm
  | false=>
   rw [qx] at hx
   cases qz:z==n with
   | true=>rw [qz] at hz;cases hz;exact hp.1 (x,c) (mem_of_lookup hx)
   | false=>rw [qz] at hz;exact zbH hp.2 hx hz hne
theorem Inv.setLocal{x:Str}{v:PV}{y:Value}{m:Str→Option Value}(I:Inv prog w hB env ρ fl h ι σ)(hx:env.kindOf x=some .local)(hm:h.Ns env.locals m)(hv:∀ x v,ρ x=some v→env.kindOf x=some .local→∃ y,m x=some y∧Rep h ι σ v y)
  (hn:h'.Ns env.locals (fun z=>if z=x then some y else m z)) (hs:Heap.SameBut env.locals h h') (r:Rep h ι σ v y):Inv prog w hB env (ρ.set x v) fl h' ι σ:=by
 have F:=I.fr
 have hk:∀ b o,b∉[env.locals]→h.get? b=some o→h'.get? b=some o:=fun b o hb e=>(hs.2 b (fun q=>hb (by rw [q];exact .head _))).trans e
 have ht:∀ b∈[env.locals],∃ o,h'.get? b=some o:=fun b hb=>by rw [List.mem_singleton.mp hb];obtain ⟨o,_,_,ho,_⟩:=hn;exact ⟨o,ho⟩
 have X:Evo [env.locals] h ι σ h' ι σ:=Evo.but hk ht
 have hO:Off ι [env.locals] h:=fun b hb=>.inr (F.noSeq b (by rw [List.mem_singleton.mp hb];exact .head _))
 have hnl:∀ b∈[env.locals],¬ zcF ι σ b:=fun b hb=>by rw [List.mem_singleton.mp hb];exact zaK (F.own _ (.head _)).1
 have cne:∀ c y,h.IsCell c y→c≠env.locals:=fun c y hc=>(zfP hm hc).symm
 have up:∀ {c y},h.IsCell c y→h'.IsCell c y:=fun hc=>IsCell.sameBut hc hs (cne _ _ hc)
 refine ⟨fun b o e=>hk b o (fun q=>by rw [List.mem_singleton.mp q,(F.own _ (.head _)).2] at e;cases e) (I.stays b o e),I.store.but hk ht hO hnl (fun b hb q=>by rw [List.mem_singleton.mp hb] at q;exact ((F.off _ (.head _)).2 q).elim),?_,I.stk.evo I.store.len X fun b hb _=>?_⟩
 ·refine ⟨⟨_,hn,fun z u e k=>?_⟩,fun z u e k=>?_,fun z u e=>?_,fun z k=>?_,F.apart,F.own,fun b hb=>?_,F.off⟩
  ·by_cases hz:z=x
   ·subst hz
    simp only [Loc.set,if_true] at e;cases e
    exact ⟨y,by simp,r.evo' I.store.len X hO⟩
   ·simp only [Loc.set,hz,if_false] at e
    obtain ⟨y',hy,r'⟩:=hv z u e k
    exact ⟨y',by simp only [hz,if_false];exact hy,r'.evo' I.store.len X hO⟩
  ·have hz:z≠x:=fun q=>by rw [q,hx] at k;cases k
   simp only [Loc.set,hz,if_false] at e
   obtain ⟨c,y',hc,hy,r'⟩:=F.cel z u e k
   exact ⟨c,y',hc,up hy,r'.evo' I.store.len X hO⟩
  ·by_cases hz:z=x
   ·subst hz;exact .inl hx
   ·simp only [Loc.set,hz,if_false] at e;exact F.kinds z u e
  ·obtain ⟨c,y',hc,hy⟩:=F.cells z k;exact ⟨c,y',hc,up hy⟩
  ·obtain ⟨y',hy⟩:=F.cellsAt b hb;exact ⟨y',up hy⟩
 ·rw [List.mem_singleton.mp hb];obtain ⟨o,es,ep,ho,hd,_⟩:=hn;exact ⟨o,es,ep,ho,hd⟩
theorem Inv.setCell{x:Str}{v:PV}{y:Value}{c:Addr}{y₀:Option Value}(I:Inv prog w hB env ρ fl h ι σ)(hx:env.kindOf x=some .cell)(hc:env.cells.lookup x=some c)(hc₀:h.IsCell c y₀)
  (hn:h'.IsCell c (some y)) (hs:Heap.SameBut c h h') (r:Rep h ι σ v y):Inv prog w hB env (ρ.set x v) fl h' ι σ:=by
 have F:=I.fr
 have hmem:c∈dyn env:=.tail _ (List.mem_map_of_mem (f:=Prod.snd) (mem_of_lookup hc))
 have hk:∀ b o,b∉[c]→h.get? b=some o→h'.get? b=some o:=fun b o hb e=>(hs.2 b (fun q=>hb (by rw [q];exact .head _))).trans e
 have ht:∀ b∈[c],∃ o,h'.get? b=some o:=fun b hb=>by rw [List.mem_singleton.mp hb];obtain ⟨o,ho,_⟩:=hn;exact ⟨o,ho⟩
 have X:Evo [c] h ι σ h' ι σ:=Evo.but hk ht
 have hO:Off ι [c] h:=fun b hb=>.inr (F.noSeq b (by rw [List.mem_singleton.mp hb];exact hmem))
 have hnl:∀ b∈[c],¬ zcF ι σ b:=fun b hb=>by rw [List.mem_singleton.mp hb];exact zaK (F.own _ hmem).1
 refine ⟨fun b o e=>hk b o (fun q=>by rw [List.mem_singleton.mp q,(F.own _ hmem).2] at e;cases e) (I.stays b o e),I.store.but hk ht hO hnl (fun b hb q=>by rw [List.mem_singleton.mp hb] at q;exact ((F.off _ hmem).2 q).elim),?_,I.stk.evo I.store.len X fun b hb hf=>?_⟩
 ·refine ⟨?_,fun z u e k=>?_,fun z u e=>?_,fun z k=>?_,F.apart,F.own,fun b hb=>?_,F.off⟩
  ·obtain ⟨m,hm,hv⟩:=F.ns
   refine ⟨m,hm.sameBut hs (zfP hm hc₀),fun z u e k=>?_⟩
   have hz:z≠x:=fun q=>by rw [q,hx] at k;cases k
   simp only [Loc.set,hz,if_false] at e
   obtain ⟨y',hy,r'⟩:=hv z u e k
   exact ⟨y',hy,r'.evo' I.store.len X hO⟩
  ·by_cases hz:z=x
   ·subst hz
    simp only [Loc.set,if_true] at e;cases e
    exact ⟨c,y,hc,hn,r.evo' I.store.len X hO⟩
   ·simp only [Loc.set,hz,if_false] at e
    obtain ⟨c',y',hc',hy,r'⟩:=F.cel z u e k
    exact ⟨c',y',hc',IsCell.sameBut hy hs (zbH F.apart hc hc' hz),r'.evo' I.store.len X hO⟩
  ·by_cases hz:z=x
   ·subst hz;exact .inr hx
   ·simp only [Loc.set,hz,if_false] at e;exact F.kinds z u e
  ·by_cases hz:z=x
   ·subst hz;exact ⟨c,_,hc,hn⟩
   ·obtain ⟨c',y',hc',hy⟩:=F.cells z k;exact ⟨c',y',hc',IsCell.sameBut hy hs (zbH F.apart hc hc' hz)⟩
  ·by_cases hbc:b=c
   ·subst hbc;exact ⟨_,hn⟩
   ·obtain ⟨y',hy⟩:=F.cellsAt b hb;exact ⟨y',IsCell.sameBut hy hs hbc⟩
 ·rw [List.mem_singleton.mp hb] at hf
  obtain ⟨o,es,n,ho,hd⟩:=I.stk.dicts c hf
  obtain ⟨o',ho',hd'⟩:=hc₀
  rw [ho] at ho';cases ho'
  rw [hd] at hd';cases hd'
theorem zkn(H:EnvOk env sc):(env.scope.kind==.class || (env.scope.kind==.module&&env.locals != env.globals))=false:=by rw [H.kind];rfl
theorem zb9{x:Str}{v:PV}{y:Value}(H:EnvOk env sc)(I:Inv prog w hB env ρ fl s.heap ι σ)(hx:env.kindOf x=some .local∨env.kindOf x=some .cell)(r:Rep s.heap ι σ v y)(Q:Unit→Shared→Prop)(E:Value→Shared→Prop)
  (hQ:∀ h' tk,(∀ b o,b∉dyn env→s.heap.get? b=some o→h'.get? b=some o)→Inv prog w hB env (ρ.set x v) fl h' ι σ→Q () { s with heap:=h',toks:=tk }) :
  wpAny (model prog w) A (storeName env x y) Q E s:=by
 rcases hx with hx | hx
 ·obtain ⟨m,hm,hv⟩:=I.fr.ns
  exact wpAny_storeName_local hx hm (fun h' hn hs=>hQ h' _ (fun b o hb e=>(hs.2 b (fun q=>hb (by rw [q];exact .head _))).trans e) (I.setLocal hx hm hv hn hs r)) (zkn H)
 ·obtain ⟨c,y₀,hc,hy⟩:=I.fr.cells x hx
  have hmem:c∈dyn env:=.tail _ (List.mem_map_of_mem (f:=Prod.snd) (mem_of_lookup hc))
  exact wpAny_storeName_cell H.kind hx hc hy fun h' hn hs=>hQ h' s.toks (fun b o hb e=>(hs.2 b (fun q=>hb (by rw [q];exact hmem))).trans e) (I.setCell hx hc hy hn hs r)
theorem zfS{x:Str}{v:PV}{y:Value}(H:EnvOk env sc)(I:Inv prog w hB env ρ fl s.heap ι σ)(hx:env.kindOf x=some .local)(r:Rep s.heap ι σ v y)(Q:Unit→Shared→Prop)(E:Value→Shared→Prop)
  (hQ:∀ h' tk,Heap.SameBut env.locals s.heap h'→Inv prog w hB env (ρ.set x v) fl h' ι σ→Q () { s with heap:=h',toks:=tk }) :
  wpAny (model prog w) A (storeName env x y) Q E s:=by
 obtain ⟨m,hm,hv⟩:=I.fr.ns
 exact wpAny_storeName_local hx hm (fun h' hn hs=>hQ h' _ hs (I.setLocal hx hm hv hn hs r)) (zkn H)
theorem FrOk.sub{ρ':Loc}(F:FrOk hB env ρ h ι σ)(hs:∀ x v,ρ' x=some v→ρ x=some v):FrOk hB env ρ' h ι σ:=by
 refine ⟨?_,fun x v e=>F.cel x v (hs x v e),fun x v e=>F.kinds x v (hs x v e),F.cells,F.apart,F.own,F.cellsAt,F.off⟩
 obtain ⟨m,hn,hv⟩:=F.ns
 exact ⟨m,hn,fun x v e=>hv x v (hs x v e)⟩
theorem Inv.sub{ρ':Loc}(I:Inv prog w hB env ρ fl h ι σ)(hs:∀ x v,ρ' x=some v→ρ x=some v):Inv prog w hB env ρ' fl h ι σ:=⟨I.stays,I.store,I.fr.sub hs,I.stk⟩
theorem zcq(F:FrOk hB env ρ h ι σ):∀ b∈dyn env,∃ o,h.get? b=some o:=fun b hb=>by
 rcases List.mem_cons.mp hb with rfl | hb
 ·obtain ⟨m,⟨o,_,_,ho,_⟩,_⟩:=F.ns;exact ⟨o,ho⟩
 ·obtain ⟨y,o,ho,_⟩:=F.cellsAt b hb;exact ⟨o,ho⟩
end
noncomputable def clOf(env:Env):List (Str×NameKind)→List (Str×Addr)→List (Str×Addr)
 | [],acc=>acc
 | (x,k)::r,acc=>if (k==NameKind.free)=true then clOf env r ((x,(env.cells.lookup x).getD 0)::acc) else clOf env r acc
theorem zeT{scope:Scope}{env:Env}(hfree:∀ x∈scope.names,x.2=.free→∃ c,env.cells.lookup x.1=some c):closureFor scope env=pure (clOf env scope.names []):=by
 simp only [closureFor]
 generalize ([]:List (Str×Addr))=acc
 revert hfree
 generalize scope.names=l
 intro hfree
 induction l generalizing acc with
 | nil=>simp [clOf]
 | cons x r ih=>
  obtain ⟨n,k⟩:=x
  simp only [List.forIn_cons]
  cases hk:k==NameKind.free with
  | true=>
   obtain ⟨c,hc⟩:=hfree (n,k) (.head _) (eq_of_beq hk)
   have:cellOf env n=pure c:=by unfold cellOf;rw [hc]
   simp only [hk,if_true,this,pure_bind,clOf,hc,Option.getD_some]
   exact ih _ fun x hx=>hfree x (.tail _ hx)
  | false=>
   simp only [hk,Bool.false_eq_true,if_false,pure_bind,clOf]
   exact ih _ fun x hx=>hfree x (.tail _ hx)
theorem zel{env:Env}{c:Str×Addr}:∀{l:List (Str×NameKind)}{acc:List (Str×Addr)},(∀ x∈l,x.2=.free→∃ c,env.cells.lookup x.1=some c)→c∈clOf env l acc→c∈acc∨((c.1,NameKind.free)∈l∧env.cells.lookup c.1=some c.2)
 | [],_,_,h=>.inl h
 | (x,k)::r,acc,hf,h=>by
  unfold clOf at h
  split at h
  ·rename_i hk
   have hk:=eq_of_beq hk;subst hk
   obtain ⟨d,hd⟩:=hf (x,.free) (.head _) rfl
   rcases zel (fun y hy=>hf y (.tail _ hy)) h with h | ⟨h1,h2⟩
   ·rcases List.mem_cons.mp h with rfl | h
    ·exact .inr ⟨.head _,by simp only [hd,Option.getD_some]⟩
    ·exact .inl h
   ·exact .inr ⟨.tail _ h1,h2⟩
  ·rcases zel (fun y hy=>hf y (.tail _ hy)) h with h | ⟨h1,h2⟩
   ·exact .inl h
   ·exact .inr ⟨.tail _ h1,h2⟩
theorem zgz{env:Env}{x:Str}{c:Addr}:∀{l:List (Str×NameKind)}{acc:List (Str×Addr)},(x,NameKind.free)∈l→env.cells.lookup x=some c→(x,c)∈clOf env l acc
 | (y,k)::r,acc,hm,hc=>by
  have sub:∀{l:List (Str×NameKind)}{acc:List (Str×Addr)},(x,c)∈acc→(x,c)∈clOf env l acc:=by
   intro l
   induction l with
   | nil=>intro acc h;exact h
   | cons z r ih=>intro acc h;obtain ⟨z,kz⟩:=z;unfold clOf;split;exact ih (.tail _ h);exact ih h
  unfold clOf
  rcases List.mem_cons.mp hm with q | hm
  ·cases q
   simp only [beq_self_eq_true,if_true]
   exact sub (by rw [hc];exact .head _)
  ·split
   ·exact zgz hm hc
   ·exact zgz hm hc
theorem zdJ{env:Env}:∀{l:List (Str×NameKind)}{acc:List (Str×Addr)},(l.map (·.1)).Nodup→(acc.map (·.1)).Nodup→(∀ x∈l,x.1∉acc.map (·.1))→((clOf env l acc).map (·.1)).Nodup
 | [],_,_,h,_=>h
 | (x,k)::r,acc,hl,ha,hd=>by
  rw [List.map_cons,List.nodup_cons] at hl
  unfold clOf
  split
  ·refine zdJ hl.2 ?_ fun y hy=>?_
   ·rw [List.map_cons,List.nodup_cons];exact ⟨hd (x,k) (.head _),ha⟩
   ·rw [List.map_cons,List.mem_cons]
    rintro (q | q)
    ·exact hl.1 (q▸List.mem_map_of_mem (f:=Prod.fst) hy)
    ·exact hd y (.tail _ hy) q
  ·exact zdJ hl.2 ha fun y hy=>hd y (.tail _ hy)
theorem zaQ{β:Type}{x:Str}{c:β}:∀{l:List (Str×β)},(l.map (·.1)).Nodup→(x,c)∈l→l.lookup x=some c
 | (y,d)::r,hn,hm=>by
  rw [List.map_cons,List.nodup_cons] at hn
  rw [List.lookup_cons]
  rcases List.mem_cons.mp hm with q | hm'
  ·cases q;simp
  ·have:(x==y)=false:=by
    cases q:x==y with
    | false=>rfl
    | true=>
     have e:=eq_of_beq q
     subst e
     exact (hn.1 (List.mem_map.mpr ⟨_,hm',rfl⟩)).elim
   rw [this];exact zaQ hn.2 hm'
theorem zfn{env:Env}(ha:env.cells.Pairwise fun x y=>x.2≠y.2):∀{l:List (Str×Addr)},(l.map (·.1)).Nodup→(∀ x∈l,env.cells.lookup x.1=some x.2)→l.Pairwise fun x y=>x.2≠y.2
 | [],_,_=>.nil
 | x::r,hn,hc=>by
  rw [List.map_cons,List.nodup_cons] at hn
  refine List.pairwise_cons.mpr ⟨fun y hy=>?_,zfn ha hn.2 fun z hz=>hc z (.tail _ hz)⟩
  exact zbH ha (hc y (.tail _ hy)) (hc x (.head _)) fun q=>hn.1 (q▸List.mem_map_of_mem (f:=Prod.fst) hy)
structure CompOk (sc csc:Scope) (it:Expr):Prop where
 kind:csc.kind=.function
 loc:∀ x,(x,NameKind.local)∈csc.names→csc.names.lookup x=some .local∧x≠"__debug__"
 free:∀ x,(x,NameKind.free)∈csc.names→sc.names.lookup x=some .cell∧csc.names.lookup x=some .free
 glob:∀ x,(x,NameKind.globalImplicit)∈csc.names→x≠"__debug__"
 kinds:∀ x k,(x,k)∈csc.names→k=.local∨k=.free∨k=.globalImplicit
 nodup:(csc.names.map (·.1)).Nodup
 it:∀(env:Env)(x:Value),foldedSetIterable it env x=pure x
theorem zeR{sc csc:Scope}{it:Expr}(h:zl2 sc csc it=true):CompOk sc csc it:=by
 simp only [zl2,Bool.and_eq_true,decide_eq_true_eq,List.all_eq_true] at h
 obtain ⟨⟨⟨hk,hn⟩,hd⟩,hi⟩:=h
 refine ⟨hk,fun x hx=>?_,fun x hx=>?_,fun x hx=>?_,fun x k hx=>?_,hd,fun env x=>?_⟩
 ·have:=hn _ hx;simpa using this
 ·have:=hn _ hx;simpa using this
 ·have:=hn _ hx;simpa using this
 ·have:=hn _ hx
  cases k <;> simp at this ⊢
 ·cases it <;> first | rfl | cases hi
section
variable {prog:Program} {w:World} {hB:Heap} {A:Around} {s:Shared} {ι:Ad} {σ:zaa} {env:Env} {ρ:Loc} {fl:List Env} {sc csc:Scope} {K:Frag}
theorem zcM{env:Env}{x:Str}:∀{names:List (Str×NameKind)},
  (names.map fun (n,k)=>if (k==NameKind.free&&env.scope.kind==.function&&env.kindOf n==some .cell) then (n,NameKind.cell) else (n,k)).lookup x =
   (names.lookup x).map fun k=>if (k==NameKind.free&&env.scope.kind==.function&&env.kindOf x==some .cell) then NameKind.cell else k
 | []=>rfl
 | (n,k)::r=>by
  have ih:=@zcM env x r
  show List.lookup x ((if (k==NameKind.free&&env.scope.kind==.function&&env.kindOf n==some .cell)=true then (n,NameKind.cell) else (n,k))::_)=_
  cases hx:x==n with
  | true=>
   have:=eq_of_beq hx;subst this
   by_cases hc:(k==NameKind.free&&env.scope.kind==.function&&env.kindOf x==some .cell)=true
   ·rw [if_pos hc];simp only [List.lookup_cons,hx,Option.map_some,hc,if_true]
   ·rw [if_neg hc];simp only [List.lookup_cons,hx,Option.map_some,hc]
    rfl
  | false=>
   by_cases hc:(k==NameKind.free&&env.scope.kind==.function&&env.kindOf n==some .cell)=true
   ·rw [if_pos hc];simp only [List.lookup_cons,hx];exact ih
   ·rw [if_neg hc];simp only [List.lookup_cons,hx];exact ih
theorem zaN{cl:List (Str×Addr)}{C:Addr}(x:Str):(compEnvC csc cl C env).kindOf x=(csc.names.lookup x).map fun k=>if (k==NameKind.free&&env.scope.kind==.function&&env.kindOf x==some .cell) then NameKind.cell else k:=
 zcM
theorem CompOk.envOk{it:Expr}(O:CompOk sc csc it)(H:EnvOk env sc)(cl:List (Str×Addr))(C:Addr):EnvOk (compEnvC csc cl C env) csc where
 kind:=O.kind
 globals:=H.globals
 builtins:=H.builtins
 loc:=fun x hx=>by rw [zaN,hx];rfl
 cel:=fun x hx=>by rw [zaN,hx];rfl
 glob:=fun x hx=>by rw [zaN,hx];rfl
 nodebug:=by
  rw [zaN]
  cases hx:csc.names.lookup ("__debug__":Str) with
  | none=>rfl
  | some k=>
   have hm:=mem_of_lookup hx
   rcases O.kinds _ _ hm with rfl | rfl | rfl
   ·exact ((O.loc _ hm).2 rfl).elim
   ·have:=H.cel _ (O.free _ hm).1;rw [H.nodebug] at this;cases this
   ·exact (O.glob _ hm rfl).elim
theorem CompOk.frame{it:Expr}{h':Heap}{ι':Ad}{C:Addr}{m:Str→Option Value}(O:CompOk sc csc it)(H:EnvOk env sc)(F:FrOk hB env ρ h' ι' σ)(hn:h'.Ns C m)(hnl:C∉ι'.vis∧C∉ι'.hid)(hb:hB.get? C=none) :
  FrOk hB (compEnvC csc (clOf env csc.names []) C env) (inner csc ρ) h' ι' σ:=by
 have hfree:∀ x∈csc.names,x.2=.free→∃ c,env.cells.lookup x.1=some c:=fun x hx hk=>by
  obtain ⟨x,k⟩:=x
  dsimp only at hk;subst hk
  obtain ⟨c,_,hc,_⟩:=F.cells x (H.cel _ (O.free x hx).1)
  exact ⟨c,hc⟩
 have hmem:∀ c∈clOf env csc.names [],(c.1,NameKind.free)∈csc.names∧env.cells.lookup c.1=some c.2:=fun c hc=>(zel hfree hc).elim (fun q=>nomatch q) id
 have hnd:((clOf env csc.names []).map (·.1)).Nodup:=zdJ O.nodup .nil fun _ _=>List.not_mem_nil
 have isFree:∀ x v,inner csc ρ x=some v→csc.names.lookup x=some .free∧ρ x=some v:=fun x v e=>by
  unfold inner at e
  split at e
  ·rename_i q;exact ⟨q,e⟩
  ·cases e
 have kCell:∀ x,(compEnvC csc (clOf env csc.names []) C env).kindOf x=some .cell→(x,NameKind.free)∈csc.names:=fun x hx=>by
  rw [zaN] at hx
  cases q:csc.names.lookup x with
  | none=>rw [q] at hx;cases hx
  | some k=>
   have hm:=mem_of_lookup q
   rw [q] at hx
   rcases O.kinds _ _ hm with rfl | rfl | rfl
   ·cases hx
   ·exact hm
   ·cases hx
 have look:∀ x c,(x,NameKind.free)∈csc.names→env.cells.lookup x=some c→(clOf env csc.names []).lookup x=some c:=fun x c hx hc=>zaQ hnd (zgz hx hc)
 refine ⟨⟨m,hn,fun x v e k=>?_⟩,fun x v e k=>?_,fun x v e=>?_,fun x k=>?_,?_,fun b hb'=>?_,fun b hb'=>?_,fun b hb'=>?_⟩
 ·obtain ⟨q,_⟩:=isFree x v e
  rw [zaN,q] at k
  have:=H.cel _ (O.free x (mem_of_lookup q)).1
  simp [this,H.kind] at k
 ·obtain ⟨q,e'⟩:=isFree x v e
  obtain ⟨c,y,hc,hy,r⟩:=F.cel x v e' (H.cel _ (O.free x (mem_of_lookup q)).1)
  exact ⟨c,y,look x c (mem_of_lookup q) hc,hy,r⟩
 ·obtain ⟨q,_⟩:=isFree x v e
  have:=H.cel _ (O.free x (mem_of_lookup q)).1
  right;rw [zaN,q];simp [this,H.kind]
 ·have hx:=kCell x k
  obtain ⟨c,y,hc,hy⟩:=F.cells x (H.cel _ (O.free x hx).1)
  exact ⟨c,y,look x c hx hc,hy⟩
 ·exact zfn F.apart hnd fun x hx=>(hmem x hx).2
 ·rcases List.mem_cons.mp hb' with rfl | hb'
  ·exact ⟨fun q=>q.elim (fun ⟨i,c,hi,_⟩=>hnl.1 (List.mem_of_getElem? hi)) hnl.2,hb⟩
  ·obtain ⟨c,hc,rfl⟩:=List.mem_map.mp hb'
   exact F.own _ (.tail _ (List.mem_map_of_mem (f:=Prod.snd) (mem_of_lookup (hmem c hc).2)))
 ·obtain ⟨c,hc,rfl⟩:=List.mem_map.mp hb'
  exact F.cellsAt _ (List.mem_map_of_mem (f:=Prod.snd) (mem_of_lookup (hmem c hc).2))
 ·rcases List.mem_cons.mp hb' with rfl | hb'
  ·exact hnl
  ·obtain ⟨c,hc,rfl⟩:=List.mem_map.mp hb'
   exact F.off _ (.tail _ (List.mem_map_of_mem (f:=Prod.snd) (mem_of_lookup (hmem c hc).2)))
theorem CompOk.dyn{it:Expr}{h':Heap}{ι':Ad}{C:Addr}(O:CompOk sc csc it)(H:EnvOk env sc)(F:FrOk hB env ρ h' ι' σ):∀ b∈dyn (compEnvC csc (clOf env csc.names []) C env),b=C∨b∈Mine.dyn env:=by
 have hfree:∀ x∈csc.names,x.2=.free→∃ c,env.cells.lookup x.1=some c:=fun x hx hk=>by
  obtain ⟨x,k⟩:=x
  dsimp only at hk;subst hk
  obtain ⟨c,_,hc,_⟩:=F.cells x (H.cel _ (O.free x hx).1)
  exact ⟨c,hc⟩
 intro b hb
 rcases List.mem_cons.mp hb with rfl | hb
 ·exact .inl rfl
 ·obtain ⟨c,hc,rfl⟩:=List.mem_map.mp hb
  rcases zel hfree hc with q | ⟨_,q⟩
  ·exact nomatch q
  ·exact .inr (.tail _ (List.mem_map_of_mem (f:=Prod.snd) (mem_of_lookup q)))
structure CompEnd (prog:Program) (w:World) (hB:Heap) (h₁:Heap) (ι₁:Ad) (σ₁:zaa) (D C:Addr) (H:Heap) (ι':Ad) (σ':zaa) (ys:List PV):Prop where
 evo:Evo [] h₁ ι₁ σ₁ H ι' σ'
 store:StoreOk prog w hB H ι' σ'
 stays:hB.StaysIn H
 hid:D∈ι'.hid
 newD:h₁.get? D=none
 newC:h₁.get? C=none
 ne:D≠C
 ns:∃ m,H.Ns C m
 offC:C∉ι'.vis∧C∉ι'.hid
 baseC:hB.get? C=none
 lst:∃ vs,H.PlainList D vs∧RepL H ι' σ' ys vs.toList
noncomputable abbrev zdY(cx:Cx)(n:Nat)(csc:Scope)(ρ:Loc)(t elt:Expr)(ifs:List Expr):PV→M (Option PV):=zp5 ρ csc (fun ρ' e=>ev { cx with md:=⟨false,cx.md.lp⟩ } n csc ρ' e) t elt ifs
end
section
variable {prog:Program} {w:World} {hB:Heap} {A:Around} {s:Shared} {ι:Ad} {σ:zaa} {env:Env} {ρ:Loc} {fl:List Env} {sc:Scope} {D:List Addr}
theorem zdK{ρ':Loc}{v:PV}{t:Expr}(hb:ze9 sc ρ v t=some ρ'):∃ x p,t=.Name x p∧(sc.names.lookup x=some .local∨sc.names.lookup x=some .cell)∧ρ'=ρ.set x v:=by
 obtain ⟨x,_,hb⟩:=Option.bind_eq_some_iff.mp hb
 unfold zd7 at hb
 refine ⟨x.1.1,x.1.2,x.2,?_⟩
 cases q:sc.names.lookup x.1.1 with
 | none=>rw [q] at hb;cases hb
 | some k=>
  rw [q] at hb
  cases k with
  | «local»=>cases hb;exact ⟨.inl rfl,rfl⟩
  | cell=>cases hb;exact ⟨.inr rfl,rfl⟩
  | _=>cases hb
theorem zlv(H:EnvOk env sc){x:Str}(h:sc.names.lookup x=some .local∨sc.names.lookup x=some .cell):env.kindOf x=some .local∨env.kindOf x=some .cell:=h.imp (H.loc x) (H.cel x)
theorem zd1{t:Expr}{ts:List Expr}{vs:List PV}{ρ':Loc}(hb:zbj sc ρ (t::ts) vs=some ρ'):∃ v vs' y py,vs=v::vs'∧t=.Name y py∧(sc.names.lookup y=some .local∨sc.names.lookup y=some .cell)∧zbj sc (ρ.set y v) ts vs'=some ρ':=by
 cases vs with
 | nil=>cases hb
 | cons v vs=>
  obtain ⟨ρ₁,h1,h2⟩:=Option.bind_eq_some_iff.mp hb
  obtain ⟨y,py,e,hk,rfl⟩:=zdK h1
  exact ⟨v,vs,y,py,rfl,e,hk,h2⟩
noncomputable def zi4(prog:Program)(w:World)(hB:Heap)(A:Around)(ι:Ad)(σ:zaa)(env:Env)(fl:List Env)(sc:Scope)(D:List Addr):Prop:=
 ∀(y:Str)(v:PV)(yv:Value)(ρ:Loc)(s:Shared),(sc.names.lookup y=some .local∨sc.names.lookup y=some .cell)→Inv prog w hB env ρ fl s.heap ι σ→Rep s.heap ι σ v yv→∀(Q:Unit→Shared→Prop)(E:Value→Shared→Prop),
  (∀ h' tk,(∀ b o,b∉D→s.heap.get? b=some o→h'.get? b=some o)→Inv prog w hB env (ρ.set y v) fl h' ι σ→Q () { s with heap:=h',toks:=tk })→wpAny (model prog w) A (storeName env y yv) Q E s
theorem zgW(H:EnvOk env sc):zi4 prog w hB A ι σ env fl sc (dyn env):=fun y v yv ρ s hk I r Q E hQ=>zb9 H I (zlv H hk) r Q E hQ
theorem zkm(H:EnvOk env sc)(hc:∀ y,sc.names.lookup y≠some .cell):zi4 prog w hB A ι σ env fl sc [env.locals]:=fun y v yv ρ s hk I r Q E hQ=>
 zfS H I (H.loc y (hk.resolve_right (hc y))) r Q E fun h' tk hs I'=>hQ h' tk (fun b o hb e=>(hs.2 b fun q=>hb (by rw [q];exact .head _)).trans e) I'
theorem zfb(hD:∀ b∈D,b∈dyn env)(hS:zi4 prog w hB A ι σ env fl sc D){ρ':Loc}(Q:Unit→Shared→Prop)(E:Value→Shared→Prop)(ts:List Expr):∀(vs:List PV)(xs:List Value)(ρ:Loc)(s:Shared),zbj sc ρ ts vs=some ρ'→Inv prog w hB env ρ fl s.heap ι σ→RepL s.heap ι σ vs xs→
  (∀ h' tk,(∀ b o,b∉D→s.heap.get? b=some o→h'.get? b=some o)→Inv prog w hB env ρ' fl h' ι σ→Q () { s with heap:=h',toks:=tk })→
  wpAny (model prog w) A (assignInOrder ((assignEach ts env).map (·.2)) xs) Q E s:=by
 induction ts with
 | nil=>
  intro vs xs ρ s hb I r hQ
  cases vs with
  | nil=>cases hb;cases r;exact wpAny_pure (hQ s.heap s.toks (fun _ _ _ e=>e) I)
  | cons _ _=>cases hb
 | cons t ts ih=>
  intro vs xs ρ s hb I r hQ
  obtain ⟨v,vs,y,py,rfl,rfl,hk,hb₂⟩:=zd1 hb
  cases r with
  | cons r rs=>
   refine wpAny_bind (wpAny_holding (wpAny_assign_Name (hS y v _ ρ s hk I r _ _ fun h₁ tk₁ hk₁ I₁=>?_)))
   have X₁:Evo D s.heap ι σ h₁ ι σ:=Evo.but hk₁ fun b hb=>zcq I₁.fr b (hD b hb)
   exact ih vs _ _ { s with heap:=h₁,toks:=tk₁ } hb₂ I₁ (rs.evo I.store.len X₁ fun b hb=>I.fr.noSeq b (hD b hb)) fun h₂ tk₂ hk₂ I₂=>hQ h₂ tk₂ (fun b o hb e=>hk₂ b o hb (hk₁ b o hb e)) I₂
theorem zdq{ρ':Loc}(ts:List Expr):∀{vs:List PV}{ρ:Loc},zbj sc ρ ts vs=some ρ'→ts.length=vs.length∧(assignEach ts env).length=ts.length∧(assignEach ts env).findIdx? (·.1)=none:=by
 induction ts with
 | nil=>
  intro vs ρ hb
  cases vs with
  | nil=>exact ⟨rfl,rfl,rfl⟩
  | cons _ _=>cases hb
 | cons t ts ih=>
  intro vs ρ hb
  obtain ⟨v,vs,y,py,rfl,rfl,hk,hb₂⟩:=zd1 hb
  obtain ⟨h1,h2,h3⟩:=ih hb₂
  refine ⟨congrArg Nat.succ h1,congrArg Nat.succ h2,?_⟩
  show List.findIdx? _ ((false,assign (.Name y py) env)::assignEach ts env)=_
  rw [List.findIdx?_cons,h3];rfl
theorem zis{t:Expr}{v:PV}{y:Value}{ρ':Loc}(hh:A.handled=none)(hD:∀ b∈D,b∈dyn env)(hS:zi4 prog w hB A ι σ env fl sc D)(hb:zgC sc ρ t v=some ρ')(I:Inv prog w hB env ρ fl s.heap ι σ)(r:Rep s.heap ι σ v y)(Q:Unit→Shared→Prop)(E:Value→Shared→Prop)
  (hQ:∀ h' tk,(∀ b o,b∉D→s.heap.get? b=some o→h'.get? b=some o)→Inv prog w hB env ρ' fl h' ι σ→Q () { s with heap:=h',toks:=tk }):wpAny (model prog w) A (assign t env y) Q E s:=by
 have one:ze9 sc ρ v t=some ρ'→wpAny (model prog w) A (assign t env y) Q E s:=fun hb=>by
  obtain ⟨x,p,rfl,hk,rfl⟩:=zdK hb
  exact wpAny_assign_Name (hS x v y ρ s hk I r Q E hQ)
 cases t with
 | Tuple ts k p=>
  obtain ⟨xs,hv,hb⟩:=Option.bind_eq_some_iff.mp hb
  cases v with
  | tup ys=>
   cases hv
   obtain ⟨a,vs,m,rfl,hp,nl,rl⟩:=r.inv
   obtain ⟨b1,b2,b3⟩:=zdq (env:=env) ts hb
   refine wpAny_assign_Tuple hh ⟨_,hp,rfl,_,rfl⟩ ((b2.trans b1).trans rl.length) b3 fun h₂ hx=>?_
   have hk:∀ b o,s.heap.get? b=some o→h₂.get? b=some o:=fun b o e=>hx b o (Nat.ne_of_lt (Heap.lt_size e)) e
   have X₂:Step prog w hB s.heap ι σ h₂ ι σ:=Step.keeps I.store I.stays hk
   exact zfb hD hS Q E ts xs vs.toList ρ { s with heap:=h₂ } hb (I.step X₂) (rl.step I.store.len X₂) fun h₃ tk₃ hk₃ I₃=>hQ h₃ tk₃ (fun b o hb e=>hk₃ b o hb (hk b o e)) I₃
  | _=>cases hv
 | _=>exact one hb
theorem zfM{t:Expr}{v:PV}{ρ':Loc}(hb:ze9 sc ρ v t=some ρ'){z:Str}(hz:sc.names.lookup z≠some .local∧sc.names.lookup z≠some .cell):ρ' z=ρ z:=by
 obtain ⟨x,p,rfl,hk,rfl⟩:=zdK hb
 have:z≠x:=fun q=>by rw [q] at hz;exact hk.elim hz.1 hz.2
 unfold Loc.set;rw [if_neg this]
theorem zd0{z:Str}(hz:sc.names.lookup z≠some .local∧sc.names.lookup z≠some .cell):∀(ts:List Expr){vs:List PV}{ρ ρ':Loc},zbj sc ρ ts vs=some ρ'→ρ' z=ρ z
 | [],vs,ρ,ρ',hb=>by
  cases vs with
  | nil=>cases hb;rfl
  | cons _ _=>cases hb
 | t::ts,vs,ρ,ρ',hb=>by
  cases vs with
  | nil=>cases hb
  | cons v vs=>
   obtain ⟨ρ₁,h1,h2⟩:=Option.bind_eq_some_iff.mp hb
   exact (zd0 hz ts h2).trans (zfM h1 hz)
theorem zjX{t:Expr}{v:PV}{ρ':Loc}(hb:zgC sc ρ t v=some ρ'){z:Str}(hz:sc.names.lookup z≠some .local∧sc.names.lookup z≠some .cell):ρ' z=ρ z:=by
 have one:ze9 sc ρ v t=some ρ'→ρ' z=ρ z:=fun hb=>zfM hb hz
 cases t with
 | Tuple ts k p=>
  obtain ⟨xs,_,hb⟩:=Option.bind_eq_some_iff.mp hb
  exact zd0 hz ts hb
 | _=>exact one hb
end
noncomputable def zqF(E:Expr→M PV)(elt:Expr)(ifs:List Expr):M (Option PV):=
 match ifs with
 | []=>(E elt).bind fun y=>M.ret (some y)
 | c::r=>match r with
  | []=>(E c).bind fun cv=>(zan cv).bind fun b=>M.cond b ((E elt).bind fun y=>M.ret (some y)) (M.ret Option.none)
  | _::_=>M.fail
theorem zot{α β γ:Type}(o:Option β)(f:β→Option γ)(g:γ→M α):(M.lift (o.bind f)).bind g=(M.lift o).bind fun a=>(M.lift (f a)).bind g:=by cases o <;> rfl
theorem zeZ{α:Type}(sc:Scope)(k:Loc→M α):∀(ts:List Expr)(vs:List PV)(ρ:Loc),zgE sc ρ ts vs k=(M.lift (zbj sc ρ ts vs)).bind k
 | [],vs,ρ=>by cases vs <;> rfl
 | t::ts,vs,ρ=>by
  cases vs with
  | nil=>rfl
  | cons v vs=>exact Eq.trans (congrArg (M.bind (M.lift (ze9 sc ρ v t))) (funext fun ρ'=>zeZ sc k ts vs ρ')) (zot _ _ _).symm
theorem zl9{α:Type}(sc:Scope)(ρ:Loc)(t:Expr)(v:PV)(k:Loc→M α):znK sc ρ t v k=(M.lift (zgC sc ρ t v)).bind k:=by
 cases t with
 | Tuple ts a p=>cases v with
  | tup vs=>exact zeZ sc k ts vs ρ
  | _=>rfl
 | _=>rfl
theorem zk7{α:Type}{x:M α}{σ:zaa}(h:M.noErr x σ≠.stuck):∃ a σ',x σ=.ok a σ'∧M.noErr x σ=.ok a σ':=by
 unfold M.noErr at h ⊢
 cases q:x σ with
 | ok a σ'=>exact ⟨a,σ',rfl,rfl⟩
 | err=>rw [q] at h;exact (h rfl).elim
 | stuck=>rw [q] at h;exact (h rfl).elim
theorem zfK(l:List (Nat×List PV))(σ:zaa):chkW l σ=.ok () σ∨chkW l σ=.stuck:=by
 induction l with
 | nil=>exact .inl rfl
 | cons p r ih=>
  obtain ⟨i,xs⟩:=p
  unfold chkW
  by_cases q:σ[i]?=some (.list xs)
  ·rw [if_pos q];exact ih
  ·rw [if_neg q];exact .inr rfl
section
variable {prog:Program} {w:World} {hB:Heap} {A:Around} {s:Shared} {ι:Ad} {σ:zaa} {env cenv:Env} {ρ:Loc} {fl:List Env} {sc csc:Scope} {K:Frag}
theorem znl{E:Expr→M PV}{elt:Expr}{ρ':Loc}{o:Option PV}{σ₂:zaa}(IH:EvIH prog w hB A cenv ρ' fl E)(I:Inv prog w hB cenv ρ' fl s.heap ι σ) (hr:((E elt).bind fun y=>M.ret (some y)) σ=.ok o σ₂) (Qs:Value→Shared→Prop) (Er:Value→Shared→Prop)
  (hs:∀ y x h' tk ι',o=some y→Step prog w hB s.heap ι σ h' ι' σ₂→Rep h' ι' σ₂ y x→Qs x { s with heap:=h',toks:=tk }):wpAny (model prog w) A (eval elt cenv) Qs Er s:=by
 obtain ⟨y,σ',e,e'⟩:=zdp hr
 cases e'
 refine IH elt s ι σ I _ _ (fun q=>?_) (fun y' σ'' q x h' tk ι' X r=>?_) (fun C σ' q _ _ _ _ _ _=>?_)
 ·rw [e] at q;cases q
 ·rw [e] at q;cases q;exact hs y x h' tk ι' rfl X r
 ·rw [e] at q;cases q
theorem zhB{cx:Cx}{n:Nat}{elt:Expr}{ifs:List Expr}{ρ':Loc}(hu:A.units+600<cLine)(IH:∀ k,k≤n→EvIH prog w hB A cenv ρ' fl (ev cx k csc ρ'))(I:Inv prog w hB cenv ρ' fl s.heap ι σ)
  {o:Option PV} {σ₂:zaa} (hr:zqF (ev cx n csc ρ') elt ifs σ=.ok o σ₂) (Qs:Value→Shared→Prop) (Qn:Shared→Prop) (E:Value→Shared→Prop)
  (hs:∀ y x h' tk ι',o=some y→Step prog w hB s.heap ι σ h' ι' σ₂→Rep h' ι' σ₂ y x→Qs x { s with heap:=h',toks:=tk })
  (hn:∀ h' tk ι',o=none→Step prog w hB s.heap ι σ h' ι' σ₂→Qn { s with heap:=h',toks:=tk }) :
  wpAny (model prog w) A (forIn ifs true fun c r=>if r=true then do let ok ← isTrue c cenv (eval c cenv);pure (ForInStep.yield ok) else pure (ForInStep.yield r)) (fun ok s₃=>
   if ok=true then wpAny (model prog w) A (eval elt cenv) Qs E s₃ else Qn s₃) E s:=by
 cases ifs with
 | nil=>exact wpAny_tests_nil (by rw [if_pos rfl];exact znl (IH n (Nat.le_refl _)) I hr Qs E hs)
 | cons c r=>
  cases r with
  | cons _ _=>cases hr
  | nil=>
   refine wpAny_tests_one ?_
   have hr:(((ev cx n csc ρ' c).bind zan).bind fun b=>M.cond b ((ev cx n csc ρ' elt).bind fun y=>M.ret (some y)) (M.ret Option.none)) σ=.ok o σ₂:=(zah _ _ _).trans hr
   obtain ⟨b,σ',e,hr'⟩:=zdp hr
   refine zdx (A:=A) (prog:=prog) (w:=w) (hB:=hB) (env:=cenv) (fl:=fl) (sc:=csc) hu n IH c s ι σ I _ _ (fun q=>?_) (fun b' τ q x h' tk ι' X r=>?_) (fun C τ q _ _ _ _ _ _=>?_)
   ·rw [e] at q;cases q
   ·rw [e] at q;cases q;cases r
    cases b with
    | true=>rw [if_pos rfl];exact znl (s:={ s with heap:=h',toks:=tk }) (IH n (Nat.le_refl _)) (I.step X) hr' Qs E fun y x' h'' tk' ι'' ho X' r'=>hs y x' h'' tk' ι'' ho (X.trans I.store.len X') r'
    | false=>rw [if_neg Bool.false_ne_true];cases hr';exact hn h' tk ι' rfl X
   ·rw [e] at q;cases q
structure CompFix (prog:Program) (w:World) (hB:Heap) (A:Around) (t:Expr) (cenv:Env) (I D C:Addr) (fp own hd:List Addr) (src:Src) (St:Nat→Heap→Prop) (h₁:Heap) (ι₁:Ad) (σ₁:zaa):Prop where
 loc:cenv.locals=C
 len:ι₁.vis.length=σ₁.length
 Z:Itr prog w hB A t I fp own hd src St h₁ ι₁ σ₁
 st₀:St 0 h₁
 own:∀ b∈own,hB.get? b=none
 dyn:∀ b∈dyn cenv,b∉fp
 newD:h₁.get? D=none
 newC:h₁.get? C=none
 ne:D≠C
 notDyn:D∉Mine.dyn cenv
 baseD:hB.get? D=none
structure CompAt (prog:Program) (w:World) (hB:Heap) (cenv:Env) (ρi:Loc) (fl:List Env) (own:List Addr) (St:Nat→Heap→Prop) (h₁:Heap) (ι₁:Ad) (σ₁:zaa) (D:Addr) (H:Heap) (ι':Ad) (σ':zaa) (ys:List PV) (vs:Array Value) (j:Nat):Prop where
 inv:Inv prog w hB cenv ρi fl H ι' σ'
 evo:Evo own h₁ ι₁ σ₁ H ι' σ'
 hid:D∈ι'.hid
 lst:H.PlainList D vs
 rep:RepL H ι' σ' ys vs.toList
 st:St j H
section
variable {t:Expr} {I D C:Addr} {fp own hd:List Addr} {src:Src} {St:Nat→Heap→Prop} {h₁ H h':Heap} {ι₁ ι' ι'':Ad} {σ₁ σ' σ'':zaa} {ρi:Loc} {ys:List PV} {vs:Array Value} {j:Nat}
theorem CompFix.fpT(F:CompFix prog w hB A t cenv I D C fp own hd src St h₁ ι₁ σ₁):∀ b∈fp,∃ o,h₁.get? b=some o:=fun b hb=>by obtain ⟨o,ho,_⟩:=F.Z.there 0 h₁ F.st₀ b hb;exact ⟨o,ho⟩
theorem CompFix.D_fp(F:CompFix prog w hB A t cenv I D C fp own hd src St h₁ ι₁ σ₁):D∉fp:=fun q=>by obtain ⟨o,ho⟩:=F.fpT D q;rw [F.newD] at ho;cases ho
theorem CompFix.C_fp(F:CompFix prog w hB A t cenv I D C fp own hd src St h₁ ι₁ σ₁):C∉fp:=fun q=>by obtain ⟨o,ho⟩:=F.fpT C q;rw [F.newC] at ho;cases ho
theorem CompAt.notL(F:CompFix prog w hB A t cenv I D C fp own hd src St h₁ ι₁ σ₁)(V:CompAt prog w hB cenv ρi fl own St h₁ ι₁ σ₁ D H ι' σ' ys vs j):∀ b∈fp,¬ zcF ι' σ' b:=fun b hb=>by obtain ⟨o,ho⟩:=F.fpT b hb;exact V.evo.weak.notLiveV F.len ho (F.Z.notLive b hb)
theorem CompAt.noDict(F:CompFix prog w hB A t cenv I D C fp own hd src St h₁ ι₁ σ₁)(V:CompAt prog w hB cenv ρi fl own St h₁ ι₁ σ₁ D H ι' σ' ys vs j):∀ b∈fp,∀ o,H.get? b=some o→∀ es n,o.data≠.dict es n:=fun b hb o ho=>by
 obtain ⟨o',ho',hd⟩:=F.Z.there _ _ V.st b hb;rw [ho] at ho';cases ho';exact hd
theorem CompAt.vnotD(V:CompAt prog w hB cenv ρi fl own St h₁ ι₁ σ₁ D H ι' σ' ys vs j):¬ zcF ι' σ' D:=by
 rintro ⟨i,c,hi,_⟩;exact V.inv.store.apart D (List.mem_of_getElem? hi) V.hid
theorem CompAt.item(F:CompFix prog w hB A t cenv I D C fp own hd src St h₁ ι₁ σ₁)(V:CompAt prog w hB cenv ρi fl own St h₁ ι₁ σ₁ D H ι' σ' ys vs j)(hk:∀ b o,b∉own→H.get? b=some o→h'.get? b=some o)(st:St (j+1) h'):CompAt prog w hB cenv ρi fl own St h₁ ι₁ σ₁ D h' ι' σ' ys vs (j+1):=by
 have ht:∀ b∈own,∃ o,h'.get? b=some o:=fun b hb=>by obtain ⟨o,ho,_⟩:=F.Z.there _ _ st b (F.Z.sub b hb);exact ⟨o,ho⟩
 have Y:Evo own H ι' σ' h' ι' σ':=Evo.but hk ht
 have hO:=F.Z.okAt V.evo V.st
 have hfr:=F.Z.freshAt F.st₀ V.evo (F.Z.hdT _ _ st)
 refine ⟨V.inv.but hk ht F.own hO (fun b hb=>V.notL F b (F.Z.sub b hb)) (fun b hb q=>(hfr b hb).2 q) (fun b hb=>V.noDict F b (F.Z.sub b hb)) (fun b hb q=>F.dyn b hb (F.Z.sub b q)),V.evo.trans F.len Y fun b hb _ _=>hb,V.hid,?_,V.rep.evo' V.inv.store.len Y hO,st⟩
 obtain ⟨n,hp⟩:=V.lst
 exact ⟨n,hk D _ (fun q=>F.D_fp (F.Z.sub D q)) hp⟩
theorem CompAt.bound{ρj:Loc}(F:CompFix prog w hB A t cenv I D C fp own hd src St h₁ ι₁ σ₁)(V:CompAt prog w hB cenv ρi fl own St h₁ ι₁ σ₁ D H ι' σ' ys vs j)(hk:∀ b o,b∉[C]→H.get? b=some o→h'.get? b=some o)(I₃:Inv prog w hB cenv ρj fl h' ι' σ'):CompAt prog w hB cenv ρj fl own St h₁ ι₁ σ₁ D h' ι' σ' ys vs j:=by
 have hCd:C∈dyn cenv:=F.loc▸.head _
 have Y:Evo [C] H ι' σ' h' ι' σ':=Evo.but hk fun b hb=>by rw [List.mem_singleton.mp hb];exact I₃.fr.dynT C hCd
 have hO:NoSeq [C] H:=fun b hb=>V.inv.fr.noSeq b (by rw [List.mem_singleton.mp hb];exact hCd)
 refine ⟨I₃,V.evo.trans F.len Y (fun b hb o e=>by rw [List.mem_singleton.mp hb,F.newC] at e;cases e),V.hid,?_,V.rep.evo V.inv.store.len Y hO,F.Z.frame _ _ _ V.st fun b hb o e=>hk b o (fun q=>F.C_fp (by rw [← List.mem_singleton.mp q];exact hb)) e⟩
 obtain ⟨n,hp⟩:=V.lst
 exact ⟨n,hk D _ (fun q=>F.ne (List.mem_singleton.mp q)) hp⟩
theorem CompAt.step{ρj:Loc}(F:CompFix prog w hB A t cenv I D C fp own hd src St h₁ ι₁ σ₁)(V:CompAt prog w hB cenv ρi fl own St h₁ ι₁ σ₁ D H ι' σ' ys vs j)(Y:Step prog w hB H ι' σ' h' ι'' σ'')(hρ:∀ z u,ρj z=some u→ρi z=some u):CompAt prog w hB cenv ρj fl own St h₁ ι₁ σ₁ D h' ι'' σ'' ys vs j:=by
 refine ⟨(V.inv.step Y).sub hρ,V.evo.trans F.len Y.evo (fun b hb=>nomatch hb),Y.evo.hid D V.hid,?_,V.rep.step V.inv.store.len Y,F.Z.frame _ _ _ V.st fun b hb o e=>(Y.evo.keep b o e (V.notL F b hb) List.not_mem_nil).2 (V.noDict F b hb o e)⟩
 obtain ⟨n,hp⟩:=V.lst
 exact ⟨n,(Y.evo.keep D _ hp V.vnotD List.not_mem_nil).2 fun _ _ q=>nomatch q⟩
theorem CompAt.put{z:PV}{zx:Value}(F:CompFix prog w hB A t cenv I D C fp own hd src St h₁ ι₁ σ₁)(V:CompAt prog w hB cenv ρi fl own St h₁ ι₁ σ₁ D H ι' σ' ys vs j)(r:Rep H ι' σ' z zx)(hp:h'.PlainList D (vs.push zx))(hs:Heap.SameBut D H h'):CompAt prog w hB cenv ρi fl own St h₁ ι₁ σ₁ D h' ι' σ' (ys++[z]) (vs.push zx) j:=by
 have hk:∀ b o,b∉[D]→H.get? b=some o→h'.get? b=some o:=fun b o hb e=>(hs.2 b (fun q=>hb (by rw [q];exact .head _))).trans e
 have one:∀{P:Addr→Prop},P D→∀ b∈[D],P b:=fun p b hb=>by rw [List.mem_singleton.mp hb];exact p
 have ht:∃ o,h'.get? D=some o∧∀ vs,o.data≠.fields vs:=by obtain ⟨n,hp⟩:=hp;exact ⟨_,hp,fun _ q=>nomatch q⟩
 have ht':∀ b∈[D],∃ o,h'.get? b=some o:=one ⟨_,ht.choose_spec.1⟩
 have Y:Evo [D] H ι' σ' h' ι' σ':=Evo.but hk ht'
 have hO:Off ι' [D] H:=Off.hid V.hid
 refine ⟨V.inv.but hk ht' (one F.baseD) hO (one V.vnotD) (one fun _=>ht) (one fun o ho=>?_) (fun b hb q=>F.notDyn (by rw [← List.mem_singleton.mp q];exact hb)),V.evo.trans F.len Y (fun b hb o e=>by rw [List.mem_singleton.mp hb,F.newD] at e;cases e),V.hid,hp,?_,F.Z.frame _ _ _ V.st fun b hb o e=>hk b o (fun q=>F.D_fp (by rw [← List.mem_singleton.mp q];exact hb)) e⟩
 ·obtain ⟨n,hp⟩:=V.lst;rw [hp] at ho;cases ho;exact fun _ _ q=>nomatch q
 ·rw [Array.toList_push];exact (V.rep.append (.cons r .nil)).evo' V.inv.store.len Y hO
end
theorem zjU{chk:M Unit}{f:PV→M (Option PV)}{v:PV}{r:List PV}{ys:List PV}{o:Option PV}{σ₂:zaa}(hchk:chk σ=.ok () σ)(hf:f v σ=.ok o σ₂):((zaX chk f (v::r)).bind fun r=>M.ret (ys++r)) σ=((zaX chk f r).bind fun r=>M.ret ((ys++o.toList)++r)) σ₂:=by
 refine Eq.trans (zah _ _ _) ((zab hchk).trans ((zah _ _ _).trans ((zab hf).trans ((zah _ _ _).trans ?_))))
 refine congrFun (congrArg (M.bind _) (funext fun a=>?_)) σ₂
 cases o with
 | none=>rw [Option.toList_none,List.append_nil];rfl
 | some y=>rw [Option.toList_some,List.append_assoc];rfl
theorem CompAt.done{t:Expr}{I D C:Addr}{fp own hd:List Addr}{src:Src}{St:Nat→Heap→Prop}{h₀ h₁ H h':Heap}{ι₀ ι₁ ι':Ad}{σ₀ σ₁ σ':zaa}{ρi:Loc}{ys:List PV}{vs:Array Value}{j:Nat}(F:CompFix prog w hB A t cenv I D C fp own hd src St h₁ ι₁ σ₁)(V:CompAt prog w hB cenv ρi fl own St h₁ ι₁ σ₁ D H ι' σ' ys vs j)
  (hl₀:ι₀.vis.length=σ₀.length) (XX:Evo [] h₀ ι₀ σ₀ h₁ ι₁ σ₁) (hown₀:∀ b∈own,h₀.get? b=none) (hk:∀ b o,b∉own→H.get? b=some o→h'.get? b=some o) (hh:∀ b∈hd,∃ o,h'.get? b=some o∧∀ vs,o.data≠.fields vs):CompEnd prog w hB h₀ ι₀ σ₀ D C h' ι' σ' ys:=by
 have hO:=F.Z.okAt V.evo V.st
 have I₂:=V.inv.lost hk F.own hO (F.Z.freshAt F.st₀ V.evo hh) (fun b hb=>V.noDict F b (F.Z.sub b hb)) (fun b hb q=>F.dyn b hb (F.Z.sub b q))
 obtain ⟨n',hp'⟩:=V.lst
 obtain ⟨m,hm,_⟩:=I₂.fr.ns
 exact ⟨(XX.trans hl₀ V.evo fun b hb o e=>by rw [hown₀ b hb] at e;cases e).lost hk hown₀,I₂.store,I₂.stays,V.hid,za4 XX.alive F.newD,za4 XX.alive F.newC,F.ne,⟨m,F.loc▸hm⟩,F.loc▸I₂.fr.off _ (.head _),F.loc▸(I₂.fr.own _ (.head _)).2,vs,⟨n',hk D _ (fun q=>F.D_fp (F.Z.sub D q)) hp'⟩,V.rep.evoW V.inv.store.len (EvoW.but hk) hO⟩
inductive CompI (P:Heap→Ad→zaa→List PV→Array Value→Nat→Prop) (chk:M Unit) (f:PV→M (Option PV)) (xs:List PV) (r:Rs (List PV)) (s:Shared):Nat→Shared→Prop
 | mk (H:Heap) (tk:Nat) (ι':Ad) (σ':zaa) (ys:List PV) (vs:Array Value) (j:Nat):P H ι' σ' ys vs j→j≤xs.length→ys.length≤j→r=((zaX chk f (xs.drop j)).bind fun r=>M.ret (ys++r)) σ'→CompI P chk f xs r s (xs.length+1-j) { s with heap:=H,toks:=tk }
theorem zne{chk:M Unit}{f:PV→M (Option PV)}{xs:List PV}{k:List PV→M (List PV)}(hc:chk σ=.ok () σ∨chk σ=.stuck) (hns:((zaX chk f xs).bind k) σ≠.stuck):chk σ=.ok () σ:=by
 rcases hc with q | q
 ·exact q
 ·refine (hns (zae ?_)).elim
  cases xs <;> exact zae q
theorem zmR{α:Type}{o:Option α}{a:α}{τ:zaa}(h:M.lift o σ=.ok a τ):o=some a∧τ=σ:=by
 cases o with
 | none=>cases h
 | some b=>cases h;exact ⟨rfl,rfl⟩
theorem zlR{α:Type}{xs:List α}{j:Nat}{v:α}(hx:xs[j]?=some v):xs.drop j=v::xs.drop (j+1):=by
 have hj:=(List.getElem?_eq_some_iff.mp hx).1
 rw [List.drop_eq_getElem_cons hj,(List.getElem?_eq_some_iff.mp hx).2]
theorem zfB{t:Expr}{v:PV}{ρ':Loc}(hb:zgC csc (inner csc ρ) t v=some ρ'):∀ z u,inner csc ρ z=some u→ρ' z=some u:=fun z u e=>by
 have hz:csc.names.lookup z=some .free:=by
  unfold inner at e
  cases q:csc.names.lookup z with
  | none=>rw [q] at e;cases e
  | some k=>rw [q] at e;cases k with
   | free=>rfl
   | _=>cases e
 exact (zjX hb ⟨fun q=>(by rw [hz] at q;cases q),fun q=>(by rw [hz] at q;cases q)⟩).trans e
theorem zhp{elt target iter:Expr}{ifs:List Expr}{scope:Scope}{pos:Pos}{it acc:Value}{R:Result→Shared→Prop}(I:Nat→Shared→Prop)
  (turn:∀ n s,I n s→wpAny (model prog w) A (pyNext it) (fun r s₁=>match r with
   | none=>R (.ok .next) s₁
   | some v=>wpAny (model prog w) A (letOwnedTupleGo target it v) (fun _ s₀=>wpAny (model prog w) A (assign target env v) (fun _ s₂=>
     wpAny (model prog w) A (forIn ifs true fun c r=>if r=true then do let ok ← isTrue c env (eval c env);pure (ForInStep.yield ok) else pure (ForInStep.yield r)) (fun ok s₃=>
      if ok=true then wpAny (model prog w) A (eval elt env) (fun x s₄=>
       wpAny (model prog w) A (call (.builtin "list.append") [acc,x]) (fun _ s₅=>∃ m,m<n∧I m s₅) (notedBy (model prog w) A env fun e s'=>R (.error e) s') s₄) (notedBy (model prog w) A env fun e s'=>R (.error e) s') s₃
      else ∃ m,m<n∧I m s₃) (notedBy (model prog w) A env fun e s'=>R (.error e) s') s₂) (notedBy (model prog w) A env fun e s'=>R (.error e) s') s₀) (notedBy (model prog w) A env fun e s'=>R (.error e) s') s₁) (notedBy (model prog w) A env fun e s'=>R (.error e) s') s)
  (n:Nat) (h:I n s):codeAny (model prog w) A (.compLoop (.ListComp elt [⟨target,iter,ifs,0⟩] scope pos) 0 it acc env) R s:=by
 have id':∀{X:Value→Shared→Prop},∀ e s,X e s→X e s:=fun _ _ h=>h
 refine codeAny_loop rfl I (fun n s hI=>?_) n h
 show wpAny _ A ((compTurn (.ListComp elt [⟨target,iter,ifs,0⟩] scope pos) 0 it acc env).onRaise (fun x=>do noteFrame x env;theTreesLotGoes x)) _ _ s
 refine wpAny_noted ?_
 rw [compTurn_list]
 refine wpAny_bind (wpAny_standAt (wpAny_bind (wpAny_mono (turn n s hI) (fun r s₁ h₁=>?_) id')))
 cases r with
 | none=>exact wpAny_pure h₁
 | some v=>
  refine wpAny_bind (wpAny_mono h₁ (fun _ s₀ h₀=>wpAny_bind (wpAny_mono h₀ (fun _ s₂ h₂=>wpAny_bind (wpAny_mono h₂ (fun ok s₃ h₃=>?_) id')) id')) id')
  cases ok with
  | false=>exact wpAny_pure ⟨rfl,h₃⟩
  | true=>exact wpAny_bind (wpAny_bind (wpAny_mono h₃ (fun x s₄ h₄=>wpAny_bind (wpAny_mono h₄ (fun _ s₅ h₅=>wpAny_pure (wpAny_pure ⟨rfl,h₅⟩)) id')) id'))
theorem zhA{cx:Cx}{n:Nat}{pos:Pos}{t elt it:Expr}{ifs:List Expr}{I D C:Addr}{fp own hd:List Addr}{src:Src}{St:Nat→Heap→Prop}{h₀ h₁:Heap}{ι₀ ι₁:Ad}{σ₀ σ₁:zaa}{R:Result→Shared→Prop}
  (hh:A.handled=none) (hu:A.units+600<cLine) (O:CompOk sc csc it) (H:EnvOk cenv csc) (F:CompFix prog w hB A t cenv I D C fp own hd src St h₁ ι₁ σ₁)
  (IH:∀ k,k≤n→∀ ρ',EvIH prog w hB A cenv ρ' fl (ev { cx with md:=⟨false,cx.md.lp⟩ } k csc ρ'))
  (hl₀:ι₀.vis.length=σ₀.length) (XX:Evo [] h₀ ι₀ σ₀ h₁ ι₁ σ₁) (hown₀:∀ b∈own,h₀.get? b=none) (hsz:src.xs.length≤2 ^ 20)
  (hns:zaX (chkW src.watch) (zdY cx n csc ρ t elt ifs) src.xs σ₁≠.stuck)
  (hR:∀ H tk ι' σ' ys,zaX (chkW src.watch) (zdY cx n csc ρ t elt ifs) src.xs σ₁=.ok ys σ'→CompEnd prog w hB h₀ ι₀ σ₀ D C H ι' σ' ys→R (.ok .next) { s with heap:=H,toks:=tk })
  (V₀:CompAt prog w hB cenv (inner csc ρ) fl own St h₁ ι₁ σ₁ D s.heap (ι₁.hide D) σ₁ [] #[] 0) :
  codeAny (model prog w) A (.compLoop (.ListComp elt [⟨t,it,ifs,0⟩] csc pos) 0 (.ref I) (.ref D) cenv) R s:=by
 refine zhp (CompI (CompAt prog w hB cenv (inner csc ρ) fl own St h₁ ι₁ σ₁ D) (chkW src.watch) (zdY cx n csc ρ t elt ifs) src.xs (zaX (chkW src.watch) (zdY cx n csc ρ t elt ifs) src.xs σ₁) s) ?_ (src.xs.length+1)
  (.mk s.heap s.toks (ι₁.hide D) σ₁ [] #[] 0 V₀ (Nat.zero_le _) (Nat.zero_le _) (M.bind_ret _ _))
 intro k s' L
 cases L with
 | mk H' tk ι' σ' ys vs j V hj hlen eq=>
  rw [eq] at hns hR
  have hchk:=zne (zfK src.watch σ') hns
  have X':Evo (own++[]) h₁ ι₁ σ₁ H' ι' σ':=(List.append_nil own).symm▸V.evo
  cases hx:src.xs[j]? with
  | none=>
   have hje:src.xs.length≤j:=List.getElem?_eq_none_iff.mp hx
   rw [List.drop_eq_nil_of_le hje] at hR
   have hst:St src.xs.length H':=Nat.le_antisymm hj hje▸V.st
   exact F.Z.done [] _ ι' σ' (NoSeq.nil _) X' V.inv.store hst hchk _ _ fun h₂ tk₂ hk hd₂=>hR h₂ tk₂ ι' σ' ys (((zah _ _ _).trans (zab hchk)).trans (congrArg (Rs.ok · σ') (List.append_nil ys))) (V.done F hl₀ XX hown₀ hk hd₂)
  | some v=>
   rw [zlR hx] at eq hns
   obtain ⟨o,σ₂,hg,hfo⟩:=zk7 fun q=>hns (zae ((zab hchk).trans (zae q)))
   rw [zjU hchk hfo] at eq
   obtain ⟨ρ',τ,hb,hg₂⟩:=zdp ((congrFun (zl9 csc (inner csc ρ) t v _) _).symm.trans hg)
   obtain ⟨hb₂,rfl⟩:=zmR hb
   have hcl:∀ y,csc.names.lookup y≠some .cell:=fun y q=>by rcases O.kinds _ _ (mem_of_lookup q) with q | q | q <;> cases q
   have hjl:j<src.xs.length:=(List.getElem?_eq_some_iff.mp hx).1
   refine F.Z.item [] j _ ι' τ v (NoSeq.nil _) X' V.inv.store V.st hchk hx _ _ _ (fun _ _ h=>h) fun y h₂ tk₂ r₂ st₂ hk₂=>?_
   have V₂:=V.item F hk₂ st₂
   refine zis (s:={ s with heap:=h₂,toks:=tk₂ }) hh (fun b hb=>by rw [List.mem_singleton.mp hb];exact .head _) (zkm H hcl) hb₂ V₂.inv r₂ _ _ fun h₃ tk₃ hk₃ I₃=>?_
   have V₃:=V₂.bound F (F.loc▸hk₃) I₃
   refine zhB (s:={ s with heap:=h₃,toks:=tk₃ }) hu (fun k hk=>IH k hk _) I₃ hg₂ _ _ _ (fun z zx h₄ tk₄ ι₄ ho Y₄ r₄=>?_) (fun h₄ tk₄ ι₄ ho Y₄=>?_)
   ·subst ho
    have V₄:=V₃.step F Y₄ (zfB hb₂)
    refine wpAny_list_append_plain (s:={ s with heap:=h₄,toks:=tk₄ }) V₄.lst (fun h₅ hp₅ hs₅=>⟨_,Nat.sub_lt_sub_left (Nat.lt_succ_of_lt hjl) (Nat.lt_succ_self j),.mk h₅ _ ι₄ σ₂ _ _ (j+1) (V₄.put F r₄ hp₅ hs₅) hjl ?_ eq⟩) ?_
    ·rw [List.length_append];exact Nat.succ_le_succ hlen
    ·rw [show vs.size=ys.length from V₄.rep.length.symm]
     exact Nat.le_trans hlen (Nat.le_trans (Nat.le_of_lt hjl) (Nat.le_trans hsz (by decide)))
   ·subst ho
    exact ⟨_,Nat.sub_lt_sub_left (Nat.lt_succ_of_lt hjl) (Nat.lt_succ_self j),.mk h₄ _ ι₄ σ₂ ys vs (j+1) (V₃.step F Y₄ (zfB hb₂)) hjl (Nat.le_succ_of_le hlen) (by rw [eq,Option.toList_none,List.append_nil])⟩
end
section
variable {prog:Program} {w:World} {hB:Heap} {A:Around} {s:Shared} {ι:Ad} {σ:zaa} {env cenv:Env} {ρ:Loc} {fl:List Env} {sc csc:Scope} {K:Frag}
noncomputable def zeQ(cx:Cx)(n:Nat)(sc csc:Scope)(ρ:Loc)(t elt it:Expr)(ifs:List Expr):M (List PV):=
 (zcD cx sc ρ (ev cx n sc ρ) t it).bind fun src=>M.cond (decide (src.xs.length≤2 ^ 20)) (zaX (chkW src.watch) (zdY cx n csc ρ t elt ifs) src.xs) M.fail
theorem zj5{cx:Cx}{n:Nat}{pos pos':Pos}{t elt it:Expr}{ifs:List Expr}{use:Option (Value→Sem Unit)}(hG:GlobOk hB K cx.G)(hh:A.handled=none)(hu:A.units+600<cLine)(O:CompOk sc csc it)(H:EnvOk env sc)
  (IHo:EvIH prog w hB A env ρ fl (ev cx n sc ρ)) (IHi:∀ cenv,EnvOk cenv csc→∀ k,k≤n→∀ ρ',EvIH prog w hB A cenv ρ' fl (ev { cx with md:=⟨false,cx.md.lp⟩ } k csc ρ')) (I:Inv prog w hB env ρ fl s.heap ι σ)
  (Q:Value→Shared→Prop) (Er:Value→Shared→Prop) (hns:zeQ cx n sc csc ρ t elt it ifs σ≠.stuck)
  (hok:∀ ys σ',zeQ cx n sc csc ρ t elt it ifs σ=.ok ys σ'→∀ D C H tk ι',CompEnd prog w hB s.heap ι σ D C H ι' σ' ys→compPost (model prog w) A Er use Q (.ref D) C (.ok .next) { s with heap:=H,toks:=tk })
  (herr:∀ C σ',zeQ cx n sc csc ρ t elt it ifs σ=.err C σ'→∀ e h' tk ι',Step prog w hB s.heap ι σ h' ι' σ'→Fly s.heap h' e C→Er (.ref e) { s with heap:=h',toks:=tk }) :
  wpAny (model prog w) A (comprehension (.ListComp elt [⟨t,it,ifs,0⟩] csc pos) csc env pos' (newList []) false (eval it env) use) Q Er s:=by
 have hfree:∀ x∈csc.names,x.2=.free→∃ c,env.cells.lookup x.1=some c:=fun x hx hk=>by
  obtain ⟨x,k⟩:=x
  dsimp only at hk;subst hk
  obtain ⟨c,_,hc,_⟩:=I.fr.cells x (H.cel _ (O.free x hx).1)
  exact ⟨c,hc⟩
 have hcell:∀ y∈csc.names,y.2≠.cell:=fun y hy q=>by
  obtain ⟨y,k⟩:=y
  dsimp only at q;subst q
  rcases O.kinds _ _ hy with q | q | q <;> cases q
 refine wpAny_comprehension_free (cl:=clOf env csc.names []) rfl (fun x=>O.it env x) (zeT hfree) O.kind (fun y hy hk=>by obtain ⟨y,k⟩:=y;dsimp only at hk;subst hk;exact (O.loc y hy).1) ?_
 refine znk hG hh H IHo za0 I _ _ (fun q=>hns (zae q)) (fun src σ₁ e₁ itv h₁ tk₁ ι₁ X₁ Md=>?_) (fun C σ' e e' h' tk ι' X F=>herr C σ' (zam e) e' h' tk ι' X F)
 obtain ⟨Ia,fp,own,hd,St,rfl,Z,st,hown₀,hdyn⟩:=Md
 have I₁:=I.step X₁
 have eqc:zeQ cx n sc csc ρ t elt it ifs σ=(M.cond (decide (src.xs.length≤2 ^ 20)) (zaX (chkW src.watch) (zdY cx n csc ρ t elt ifs) src.xs) M.fail) σ₁:=zab e₁
 have hsz:src.xs.length≤2 ^ 20:=by
  by_cases q:src.xs.length≤2 ^ 20
  ·exact q
  ·exact (hns (by rw [eqc,decide_eq_false q];rfl)).elim
 rw [decide_eq_true hsz] at eqc
 refine wpAny_newObj_type (wpAny_newFunctionEnv hcell (by intro y hy;simp at hy) (fun h₃ hns₃ hsb₃=>?_) O.kind)
 dsimp only at hns₃ hsb₃ ⊢
 generalize hH2:h₁.push { cls:=.type "list",dict:=none,data:=.seq ([]:List Value).toArray }=H2 at hns₃ hsb₃ ⊢
 have hC:H2.objs.size=h₁.objs.size+1:=by rw [← hH2,Heap.size_push]
 have hDC:h₁.objs.size≠H2.objs.size:=by rw [hC];exact Nat.ne_of_lt (Nat.lt_succ_self _)
 have below:∀ b,b<h₁.objs.size→b≠H2.objs.size:=fun b hb=>by rw [hC];exact Nat.ne_of_lt (Nat.lt_succ_of_lt hb)
 have old:∀ b o,h₁.get? b=some o→h₃.get? b=some o:=fun b o e=>hsb₃.extBut b o (below b (Heap.lt_size e)) (Heap.get?_push_of_some _ (hH2▸Heap.get?_push_of_some _ e))
 have hacc:h₃.PlainList h₁.objs.size #[]:=⟨_,hsb₃.extBut _ _ hDC (Heap.get?_push_of_some _ (hH2▸Heap.get?_push_size _ rfl))⟩
 have hC₁:h₁.get? H2.objs.size=none:=by
  cases q:h₁.get? H2.objs.size with
  | none=>rfl
  | some o=>exact (below _ (Heap.lt_size q) rfl).elim
 have hB₁:=I₁.stays
 have S₃:=I₁.store.hide old (zav h₁) (by obtain ⟨n,hp⟩:=hacc;exact ⟨_,hp,fun _ q=>nomatch q⟩) (zbf hB₁ (zav h₁))
 have XH:=ziQ (ι:=ι₁) (σ:=σ₁) old (zav h₁)
 have F₃:=I₁.fr.step I₁.store.len XH
 have offC:H2.objs.size∉(ι₁.hide h₁.objs.size).vis∧H2.objs.size∉(ι₁.hide h₁.objs.size).hid:=by
  refine ⟨fun q=>?_,fun q=>?_⟩
  ·obtain ⟨o,ho⟩:=I₁.store.there _ q;rw [hC₁] at ho;cases ho
  ·rcases List.mem_cons.mp q with q | q
   ·exact hDC q.symm
   ·obtain ⟨o,ho,_⟩:=I₁.store.hthere _ q;rw [hC₁] at ho;cases ho
 have I₃:Inv prog w hB (compEnvC csc (clOf env csc.names []) H2.objs.size env) (inner csc ρ) fl h₃ (ι₁.hide h₁.objs.size) σ₁:=
  ⟨fun b o e=>old b o (hB₁ b o e),S₃,O.frame H F₃ hns₃ offC (zbf hB₁ hC₁),I₁.stk.step I₁.store.len XH⟩
 have st₃:St 0 h₃:=Z.frame _ _ _ st fun b _ o e=>old b o e
 have hdc:=O.dyn (C:=H2.objs.size) H F₃
 have loop:∀ s₃:Shared,s₃={ s with heap:=h₃,toks:=tk₁+([]:List (Str×Value)).length }→
   codeAny (model prog w) A (.compLoop (.ListComp elt [⟨t,it,ifs,0⟩] csc pos) 0 (.ref Ia) (.ref h₁.objs.size) (compEnvC csc (clOf env csc.names []) H2.objs.size env))
    (compPost (model prog w) A Er use Q (.ref h₁.objs.size) H2.objs.size) s₃:=by
  rintro s₃ rfl
  refine zhA (s:={ s with heap:=h₃,toks:=tk₁+([]:List (Str×Value)).length }) (ρ:=ρ) (C:=H2.objs.size) (fp:=fp) hh hu O (O.envOk H _ _) ⟨rfl,I₁.store.len,Z,st,fun b hb=>zbf I.stays (hown₀ b hb),fun b hb q=>?_,zav h₁,hC₁,hDC,fun q=>?_,zbf hB₁ (zav h₁)⟩ (IHi _ (O.envOk H _ _)) I.store.len X₁.evo hown₀ hsz
   (fun q=>hns (eqc.trans q)) (fun H tk ι' σ' ys e X=>hok ys σ' (eqc.trans e) _ _ H tk ι' X) ⟨I₃,XH.wide (fun _ hb=>nomatch hb),.head _,hacc,.nil,st₃⟩
  ·rcases hdc b hb with rfl | hb
   ·obtain ⟨o,ho,_⟩:=Z.there 0 h₁ st _ q;rw [hC₁] at ho;cases ho
   ·exact hdyn b hb q
  ·rcases hdc _ q with q | q
   ·exact hDC q
   ·obtain ⟨o,ho⟩:=zcq I₁.fr _ q;rw [zav] at ho;cases ho
 exact codeAny_compStart_list (loop _ rfl) (Z.self 0 _ _ _ st₃ (loop _ rfl))
theorem zda{c:Cel}{D a:Addr}{l:List Addr}(hl:ι.vis.length=σ.length)(hD:D∈ι.hid)(hs:∀ a∈l,a∈ι.hid)(h:¬ Live ι σ a):¬ Live ⟨ι.vis++[D],l⟩ (σ++[c]) a:=by
 intro q
 rcases Live.append (ι:=⟨ι.vis,l⟩) hl q with q | q
 ·exact zbl hs h q
 ·exact h (.inr (q▸hD))
theorem RepL.adopt{h:Heap}{c:Cel}{D:Addr}{l:List Addr}(hl:ι.vis.length=σ.length)(hD:D∈ι.hid)(hs:∀ a∈l,a∈ι.hid){xs:List PV}{vs:List Value}(r:RepL h ι σ xs vs):RepL h ⟨ι.vis++[D],l⟩ (σ++[c]) xs vs:=
 r.to ⟨fun e nl=>⟨e,zda hl hD hs nl⟩,fun e=>(List.getElem?_append_left (List.getElem?_eq_some_iff.mp e).1).trans e,fun e c d k nl=>.exc e c d k (zda hl hD hs nl)⟩
theorem CompEnd.go{h₀ H h':Heap}{ι₀ ι':Ad}{σ₀ σ':zaa}{D C:Addr}{ys:List PV}(X:CompEnd prog w hB h₀ ι₀ σ₀ D C H ι' σ' ys)(hs:Heap.SameBut C H h') :
  Evo [] h₀ ι₀ σ₀ h' ι' σ'∧StoreOk prog w hB h' ι' σ'∧hB.StaysIn h'∧∃ vs,h'.PlainList D vs∧RepL h' ι' σ' ys vs.toList:=by
 have hk:∀ b o,b∉[C]→H.get? b=some o→h'.get? b=some o:=fun b o hb e=>(hs.2 b (fun q=>hb (by rw [q];exact .head _))).trans e
 have hO:Off ι' [C] H:=fun b hb=>by
  rw [List.mem_singleton.mp hb]
  obtain ⟨m,o,es,ep,ho,hd,_⟩:=X.ns
  refine .inr fun o' ho'=>?_
  rw [ho] at ho';cases ho'
  exact ⟨fun vs n q=>(by rw [hd] at q;cases q),.inl fun vs q=>(by rw [hd] at q;cases q)⟩
 obtain ⟨vs,⟨n,hp⟩,rl⟩:=X.lst
 refine ⟨X.evo.lost hk fun b hb=>by rw [List.mem_singleton.mp hb];exact X.newC,X.store.lost hk hO fun b hb=>by rw [List.mem_singleton.mp hb];exact ⟨X.offC.1,fun q=>(X.offC.2 q).elim⟩,fun b o e=>hk b o (fun q=>?_) (X.stays b o e),vs,⟨n,hk D _ (by simpa using X.ne) hp⟩,rl.evoW X.store.len (EvoW.but hk) hO⟩
 rw [List.mem_singleton.mp q,X.baseC] at e;cases e
theorem zfJ{h₀ H h':Heap}{ι₀ ι':Ad}{σ₀ σ':zaa}{D C:Addr}{ys:List PV}{cx:Cx}{p:Pos}(S₀:StoreOk prog w hB h₀ ι₀ σ₀)(X:CompEnd prog w hB h₀ ι₀ σ₀ D C H ι' σ' ys)(hs:Heap.SameBut C H h') :
  ∃ v ι'' σ'',zaw cx p ys σ'=.ok v σ''∧Step prog w hB h₀ ι₀ σ₀ h' ι'' σ''∧Rep h' ι'' σ'' v (.ref D)∧(C∉ι''.vis∧C∉ι''.hid):=by
 obtain ⟨Y,S,B,vs,⟨n,hp⟩,rl⟩:=X.go hs
 have hsub:∀ a∈ι₀.hid,a∈ι'.hid:=Y.hid
 have hD₀:D∉ι₀.hid:=fun q=>by obtain ⟨o,ho,_⟩:=S₀.hthere D q;rw [X.newD] at ho;cases ho
 have hDv:D∉ι'.vis:=fun q=>S.apart D q X.hid
 cases hm:cx.G.mu.contains (p.line,p.col) with
 | true=>
  refine ⟨.ref σ'.length,⟨ι'.vis++[D],ι₀.hid⟩,σ'++[.list ys],by unfold zaw;rw [hm];rfl,⟨⟨fun i a e=>?_,fun i a e e'=>?_,fun i e=>?_,Y.alive,Y.keep,fun _ h=>h,fun _ h=>.inl h⟩,⟨?_,?_,fun a ha=>?_,fun a ha=>S.hthere a (hsub a ha),fun a ha q=>?_,fun a ha=>?_,fun a ha=>S.hbase a (hsub a ha),S.sys,fun i a c e e'=>?_⟩,B⟩,.ref ?_,fun q=>?_,fun q=>X.offC.2 (hsub C q)⟩
  ·show (ι'.vis++[D])[i]?=_
   have:=Y.pre i a e
   rw [List.getElem?_append_left (List.getElem?_eq_some_iff.mp this).1];exact this
  ·change (ι'.vis++[D])[i]?=_ at e
   by_cases q:i<ι'.vis.length
   ·rw [List.getElem?_append_left q] at e;exact Y.fresh i a e e'
   ·rw [List.getElem?_append_right (Nat.le_of_not_lt q)] at e
    have:i-ι'.vis.length=0:=by
     have:=(List.getElem?_eq_some_iff.mp e).1
     simp at this;omega
    rw [this] at e;simp at e;rw [← e];exact X.newD
  ·have:=Y.dead i e
   rw [List.getElem?_append_left (List.getElem?_eq_some_iff.mp this).1];exact this
  ·show (ι'.vis++[D]).length=_
   simp [S.len]
  ·show (ι'.vis++[D]).Nodup
   rw [List.nodup_append]
   exact ⟨S.nodup,by simp,fun x hx b hb q=>hDv (by rw [List.mem_singleton] at hb;rw [← hb,← q];exact hx)⟩
  ·rcases List.mem_append.mp ha with ha | ha
   ·exact S.there a ha
   ·rw [List.mem_singleton.mp ha];exact ⟨_,hp⟩
  ·rcases List.mem_append.mp ha with ha | ha
   ·exact S.apart a ha (hsub a q)
   ·rw [List.mem_singleton.mp ha] at q;exact hD₀ q
  ·rcases List.mem_append.mp ha with ha | ha
   ·exact S.base a ha
   ·rw [List.mem_singleton.mp ha];exact S.hbase D X.hid
  ·change (ι'.vis++[D])[i]?=_ at e
   by_cases q:i<ι'.vis.length
   ·rw [List.getElem?_append_left q] at e
    rw [List.getElem?_append_left (S.len▸q)] at e'
    have x:=S.ok i a c e e'
    cases c with
    | dead=>trivial
    | list xs=>obtain ⟨vs,hp,r⟩:=x;exact ⟨vs,hp,r.adopt S.len X.hid hsub⟩
    | dict kvs=>obtain ⟨zs,d,k2,r⟩:=x;exact ⟨zs,d,k2,r.adopt S.len X.hid hsub⟩
   ·rw [List.getElem?_append_right (Nat.le_of_not_lt q)] at e
    rw [List.getElem?_append_right (by rw [← S.len];exact Nat.le_of_not_lt q)] at e'
    have h0:i-ι'.vis.length=0:=by
     have:=(List.getElem?_eq_some_iff.mp e).1
     simp at this;omega
    rw [h0] at e;rw [← S.len,h0] at e'
    simp at e e'
    subst e;subst e';exact ⟨vs,⟨n,hp⟩,rl.adopt S.len X.hid hsub⟩
  ·show (ι'.vis++[D])[σ'.length]?=_
   rw [List.getElem?_append_right (by rw [S.len];exact Nat.le_refl _)];simp [S.len]
  ·rcases List.mem_append.mp q with q | q
   ·exact X.offC.1 q
   ·exact X.ne (List.mem_singleton.mp q).symm
 | false=>
  refine ⟨.lst ys,⟨ι'.vis,ι₀.hid⟩,σ',by unfold zaw;rw [hm];rfl,⟨Y.unhide,S.unhide hsub,B⟩,.lst hp ?_ (rl.unhide hsub),X.offC.1,fun q=>X.offC.2 (hsub C q)⟩
  rintro (⟨i,c,hi,_⟩ | q)
  ·exact hDv (List.mem_of_getElem? hi)
  ·exact hD₀ q
theorem zeP{cx:Cx}{n:Nat}{t elt it:Expr}{ifs:List Expr}{p:Pos}:((zcD cx sc ρ (ev cx n sc ρ) t it).bind fun src=>M.cond (decide (src.xs.length≤2 ^ 20)) ((zaX (chkW src.watch) (zdY cx n csc ρ t elt ifs) src.xs).bind fun ys=>zaw cx p ys) M.fail) σ=((zeQ cx n sc csc ρ t elt it ifs).bind fun ys=>zaw cx p ys) σ:=
 (congrFun (congrArg (M.bind _) (funext fun(src:Src)=>(M.cond_bind (decide (src.xs.length≤2 ^ 20)) (zaX (chkW src.watch) (zdY cx n csc ρ t elt ifs) src.xs) M.fail fun ys=>zaw cx p ys).symm)) σ).trans (zah _ _ _).symm
theorem zkJ{cx:Cx}{n:Nat}{p:Pos}{t elt it:Expr}{ifs:List Expr}(hG:GlobOk hB K cx.G)(hh:A.handled=none)(hu:A.units+600<cLine)(O:CompOk sc csc it)(H:EnvOk env sc)
  (IHo:EvIH prog w hB A env ρ fl (ev cx n sc ρ)) (IHi:∀ cenv,EnvOk cenv csc→∀ k,k≤n→∀ ρ',EvIH prog w hB A cenv ρ' fl (ev { cx with md:=⟨false,cx.md.lp⟩ } k csc ρ')) (I:Inv prog w hB env ρ fl s.heap ι σ) :
  SimV prog w hB A (eval (.ListComp elt [⟨t,it,ifs,0⟩] csc p) env) ((zeQ cx n sc csc ρ t elt it ifs).bind fun ys=>zaw cx p ys) s ι σ:=by
 intro Q Er hns hok herr
 rw [eval_ListComp]
 refine zj5 hG hh hu O H IHo IHi I Q Er (fun q=>hns (zae q)) (fun ys σ' e D C H' tk ι' X=>?_) (fun C σ' e e' h' tk ι' X F=>herr C σ' (zam e) e' h' tk ι' X F)
 refine ⟨X.ns.choose,X.ns.choose_spec,fun h' hs=>?_⟩
 obtain ⟨v,ι'',σ'',hm,Y,r,_⟩:=zfJ (cx:=cx) (p:=p) I.store X hs
 exact hok v σ'' ((zab e).trans hm) _ h' tk ι'' Y r
end
section
variable {prog:Program} {w:World} {hB:Heap} {A:Around} {fl:List Env} {K:Frag}
theorem Ar.units600{md:Md}{d:Nat}(H:Ar md d fl A):A.units+600<cLine:=by have:=H.units;omega
theorem Ar.inner{md:Md}{d:Nat}(H:Ar md d fl A):Ar ⟨false,md.lp⟩ d fl A:=⟨H.frames,H.depth,H.units,fun q=>H.quiet (q.elim (fun q=>nomatch q) .inr)⟩
theorem zjr{cx:Cx}{env:Env}{sc csc:Scope}{ρ:Loc}{n:Nat}{elt:Expr}{gens:List Comprehension}{p:Pos}{s:Shared}{ι:Ad}{σ:zaa}(hG:GlobOk hB K cx.G)(hq:cx.md.lp=true→A.handled=none)(hu:A.units+600<cLine)(H:EnvOk env sc)
  (IHo:EvIH prog w hB A env ρ fl (ev cx n sc ρ)) (IHi:∀ cenv,EnvOk cenv csc→∀ k,k≤n→∀ ρ',EvIH prog w hB A cenv ρ' fl (ev { cx with md:=⟨false,cx.md.lp⟩ } k csc ρ')) (I:Inv prog w hB env ρ fl s.heap ι σ) :
  SimV prog w hB A (eval (.ListComp elt gens csc p) env) (ziS cx sc ρ (ev cx n sc ρ) csc (fun ρ' e=>ev { cx with md:=⟨false,cx.md.lp⟩ } n csc ρ' e) elt gens p) s ι σ:=by
 cases gens with
 | nil=>exact Sim.fail
 | cons g r=>
  cases r with
  | cons _ _=>exact Sim.fail
  | nil=>
   obtain ⟨t,it,ifs,a⟩:=g
   refine Sim.cond (fun q=>?_) fun _=>Sim.fail
   rw [Bool.and_eq_true,Bool.and_eq_true,Bool.and_eq_true] at q
   obtain ⟨ha,⟨hlp,hco⟩,hnm⟩:=q
   have ha₂:a=0:=of_decide_eq_true ha
   subst ha₂
   exact (zkJ hG (hq hlp) hu (zeR hco) H IHo IHi I).res zeP
theorem zmw{cx:Cx}{d:Nat}{E:Expr→M PV}{env:Env}{sc:Scope}{ρ:Loc}{f:Str}{fp p:Pos}{args:List Expr}{s:Shared}{ι:Ad}{σ:zaa}(hG:GlobOk hB K cx.G)(hA:Ar cx.md d fl A)(hc:zir prog w hB d cx.call)(H:EnvOk env sc)(IH:EvIH prog w hB A env ρ fl E)(hst:∀ e p,E (.Starred e p)=M.fail)(I:Inv prog w hB env ρ fl s.heap ι σ)(hp:zat args=true) :
  SimV prog w hB A (eval (.Call (.Name f fp) args [] p) env) (evFn cx sc ρ E f args p) s ι σ:=by
 refine Sim.lift fun c hr=>?_
 cases c with
 | fn a=>exact zn7 hG hA hc H IH hst I hp hr
 | bi y=>
  refine Sim.cond (fun q=>?_) fun _=>?_
  ·have q:=of_decide_eq_true q
   subst q
   exact zjo hG.cls hG.g hG.inK H IH I hp hr
  ·refine Sim.lift fun b hb=>?_
   exact zjt hG.g H IH hst I hp hr (zmf _ (zdf hb)) (zjY b) fun vs xs s' ι' σ' I' r'=>zhQ hA I'.store I'.stays r'
 | _=>exact Sim.fail
theorem zix{cx:Cx}{d:Nat}(hG:GlobOk hB K cx.G)(hc:zir prog w hB d cx.call):∀(n:Nat)(md:Md)(_:Ar md d fl A)(env:Env)(sc:Scope)(_:EnvOk env sc)(ρ:Loc),EvIH prog w hB A env ρ fl (ev { cx with md:=md } n sc ρ):=by
 intro n
 induction n using Nat.strongRecOn with
 | _ n ih=>
  intro md hA env sc H ρ e s ι σ I
  cases n with
  | zero=>exact Sim.fail
  | succ n=>
   have IHk:∀ k,k≤n→EvIH prog w hB A env ρ fl (ev { cx with md:=md } k sc ρ):=fun k hk=>ih k (Nat.lt_succ_of_le hk) md hA env sc H ρ
   have IH:=IHk n (Nat.le_refl _)
   have hu:=hA.units600
   cases e with
   | Constant c k p=>exact zkI I
   | Name x p=>exact zmt hG.g H I
   | BoolOp op vs p=>exact zfj IH p op vs s ι σ I
   | BinOp l op r p=>exact zju IH I
   | UnaryOp op x p=>exact zkv IH I
   | IfExp t a b p=>exact zkD hu IHk I
   | Compare l ops cs p=>exact zhO hu IH I
   | Tuple es k p=>exact zjf IH I
   | List es p=>exact zkA IH I
   | Dict ks vs p=>exact zkF I
   | Subscript v i p=>exact zms IH I
   | ListComp elt gens csc p=>exact zjr (cx:={ cx with md:=md }) hG (fun q=>hA.quiet (.inr q)) hu H IH (fun cenv Hc k hk ρ'=>ih k (Nat.lt_succ_of_le hk) _ hA.inner cenv csc Hc ρ') I
   | Call f args kws p=>
    cases kws with
    | cons k ks=>exact Sim.fail
    | nil=>
     cases f with
     | Attribute o m ap=>exact zkz hu IH za0 I
     | Name f fp=>exact Sim.cond (fun hp=>zmw (cx:={ cx with md:=md }) hG hA hc H IH za0 I hp) fun _=>Sim.fail
     | _=>exact Sim.fail
   | _=>exact Sim.fail
end
structure Soft (h₀:Heap) (fr:List Addr) (h h':Heap):Prop where
 soft:∀ b o,h.get? b=some o→∃ o',h'.get? b=some o'∧o'.cls=o.cls∧o'.dict=o.dict∧((∀ vs,o.data≠.fields vs)→o'.data=o.data∧(b∉fr→o'=o))∧(∀ vs,o.data=.fields vs→∃ vs',o'.data=.fields vs')
 hard:∀ b o,h.get? b=some o→h₀.get? b≠none→(∃ sl,h'.get? b=some { o with slots:=sl })∧(b∉fr→h'.get? b=some o)
theorem Soft.refl(h₀:Heap)(fr:List Addr)(h:Heap):Soft h₀ fr h h:=
 ⟨fun _ o e=>⟨o,e,rfl,rfl,fun _=>⟨rfl,fun _=>rfl⟩,fun vs q=>⟨vs,q⟩⟩,fun _ o e _=>⟨⟨o.slots,e⟩,fun _=>e⟩⟩
theorem Soft.trans{h₀ h₁ h₂ h₃:Heap}{fr:List Addr}(X:Soft h₀ fr h₁ h₂)(Y:Soft h₀ fr h₂ h₃):Soft h₀ fr h₁ h₃ where
 soft:=fun b o e=>by
  obtain ⟨o₂,e₂,a₂,b₂,c₂,d₂⟩:=X.soft b o e
  obtain ⟨o₃,e₃,a₃,b₃,c₃,d₃⟩:=Y.soft b o₂ e₂
  refine ⟨o₃,e₃,a₃.trans a₂,b₃.trans b₂,fun q=>?_,fun vs q=>?_⟩
  ·have hc:=c₂ q
   have hq:∀ vs,o₂.data≠.fields vs:=fun vs=>by rw [hc.1];exact q vs
   have hc':=c₃ hq
   exact ⟨hc'.1.trans hc.1,fun hb=>(hc'.2 hb).trans (hc.2 hb)⟩
  ·obtain ⟨vs',q'⟩:=d₂ vs q
   exact d₃ vs' q'
 hard:=fun b o e hn=>by
  obtain ⟨⟨sl,e₂⟩,k₂⟩:=X.hard b o e hn
  obtain ⟨⟨sl',e₃⟩,_⟩:=Y.hard b _ e₂ hn
  exact ⟨⟨sl',e₃⟩,fun hb=>(Y.hard b o (k₂ hb) hn).2 hb⟩
theorem Soft.slots{h₀ h h':Heap}{fr:List Addr}(X:Heap.SlotsOnly fr h h'):Soft h₀ fr h h' where
 soft:=fun b o e=>by
  obtain ⟨sl,e'⟩:=X.2.2 b o e
  refine ⟨_,e',rfl,rfl,fun _=>⟨rfl,fun hb=>?_⟩,fun vs q=>⟨vs,q⟩⟩
  have:=(X.2.1 b hb).trans e
  rw [e'] at this;exact Option.some.inj this
 hard:=fun b o e _=>⟨X.2.2 b o e,fun hb=>(X.2.1 b hb).trans e⟩
theorem Soft.push(h₀ h:Heap)(fr:List Addr)(o:Obj):Soft h₀ fr h (h.push o):=
 ⟨fun _ o' e=>⟨o',Heap.get?_push_of_some _ e,rfl,rfl,fun _=>⟨rfl,fun _=>rfl⟩,fun vs q=>⟨vs,q⟩⟩,fun _ o' e _=>⟨⟨o'.slots,Heap.get?_push_of_some _ e⟩,fun _=>Heap.get?_push_of_some _ e⟩⟩
theorem Obj.dict_mapFields(f:Array Value→Array Value)(o:Obj):(Obj.mapFields f o).dict=o.dict:=by
 obtain ⟨c,d,dt,sl⟩:=o;cases dt <;> rfl
theorem Soft.upd{h₀ h:Heap}{fr:List Addr}{a:Addr}{o:Obj}{vs:Array Value}(f:Array Value→Array Value)(ho:h.get? a=some o)(hd:o.data=.fields vs)(hn:h₀.get? a=none):Soft h₀ fr h (h.update a (Obj.mapFields f)) where
 soft:=fun b o' e=>by
  by_cases hb:b=a
  ·subst hb
   rw [ho] at e;cases e
   have hd':=Obj.data_mapFields hd f
   exact ⟨_,Heap.get?_update_self _ ho (Obj.isFreed_of_fields hd'),Obj.cls_mapFields _ _,Obj.dict_mapFields _ _,fun q=>(q _ hd).elim,fun _ _=>⟨_,hd'⟩⟩
  ·exact ⟨o',(Heap.get?_update_other _ _ (Ne.symm hb)).trans e,rfl,rfl,fun _=>⟨rfl,fun _=>rfl⟩,fun vs q=>⟨vs,q⟩⟩
 hard:=fun b o' e hb0=>by
  have hb:b≠a:=fun q=>hb0 (q▸hn)
  have:=(Heap.get?_update_other (h:=h) (Obj.mapFields f) (Ne.symm hb)).trans e
  exact ⟨⟨o'.slots,this⟩,fun _=>this⟩
section
variable {prog:Program} {w:World} {hB:Heap} {A:Around} {s:Shared} {ι:Ad} {σ:zaa} {env:Env} {ρ:Loc} {fl:List Env} {sc:Scope} {h₀ h h':Heap} {fr:List Addr}
theorem zkf(X:Soft h₀ fr h h')(hd:∀ b∈fr,∃ o es n,h.get? b=some o∧o.data=.dict es n):RepTo h ι σ h' ι σ where
 seq:=fun e nl=>by
  obtain ⟨o',e',_,_,c,_⟩:=X.soft _ _ e
  have hb:_∉fr:=fun q=>by obtain ⟨o,es,n,ho,hd⟩:=hd _ q;rw [e] at ho;cases ho;cases hd
  have:=(c fun _ q=>nomatch q).2 hb
  subst this
  exact ⟨e',nl⟩
 vis:=fun e=>e
 exc:=fun e c d k nl=>by
  obtain ⟨o',e',a,b,_,f⟩:=X.soft _ _ e
  obtain ⟨vs',q⟩:=f _ d
  exact .exc e' (a.trans c) q (b.trans k) nl
theorem Rep.soft(X:Soft h₀ fr h h')(hd:∀ b∈fr,∃ o es n,h.get? b=some o∧o.data=.dict es n){x:PV}{v:Value}(r:Rep h ι σ x v):Rep h' ι σ x v:=r.to (zkf X hd)
theorem RepL.soft(X:Soft h₀ fr h h')(hd:∀ b∈fr,∃ o es n,h.get? b=some o∧o.data=.dict es n){xs:List PV}{vs:List Value}(r:RepL h ι σ xs vs):RepL h' ι σ xs vs:=r.to (zkf X hd)
theorem Ns.soft{a:Addr}{m:Str→Option Value}(X:Soft h₀ fr h h')(hn:h.Ns a m):h'.Ns a m:=by
 obtain ⟨o,es,ep,ho,hd,r⟩:=hn
 obtain ⟨o',e',_,_,c,_⟩:=X.soft a o ho
 exact ⟨o',es,ep,e',(c fun vs q=>by rw [hd] at q;cases q).1.trans hd,r⟩
theorem IsCell.soft{a:Addr}{y:Option Value}(X:Soft h₀ fr h h')(hn:h.IsCell a y):h'.IsCell a y:=by
 obtain ⟨o,ho,hd⟩:=hn
 obtain ⟨o',e',_,_,c,_⟩:=X.soft a o ho
 exact ⟨o',e',(c fun vs q=>by rw [hd] at q;cases q).1.trans hd⟩
theorem StoreOk.soft(S:StoreOk prog w hB h ι σ)(X:Soft h₀ fr h h')(hd:∀ b∈fr,∃ o es n,h.get? b=some o∧o.data=.dict es n)(hnl:∀ b∈fr,¬ Live ι σ b):StoreOk prog w hB h' ι σ:=by
 refine ⟨S.len,S.nodup,fun a ha=>?_,fun a ha=>?_,S.apart,S.base,S.hbase,S.sys,fun i a c e e'=>?_⟩
 ·obtain ⟨o,ho⟩:=S.there a ha;obtain ⟨o',e,_⟩:=X.soft a o ho;exact ⟨o',e⟩
 ·obtain ⟨o,ho,f⟩:=S.hthere a ha;obtain ⟨o',e,_,_,c,_⟩:=X.soft a o ho;exact ⟨o',e,fun vs=>by rw [(c f).1];exact f vs⟩
 ·have x:=S.ok i a c e e'
  cases c with
  | dead=>trivial
  | list xs=>
   have hb:a∉fr:=fun q=>hnl a q (.inl ⟨i,_,e,e',by intro q;cases q⟩)
   obtain ⟨vs,⟨n,hp⟩,r⟩:=x
   obtain ⟨o',e',_,_,c,_⟩:=X.soft _ _ hp
   have:=(c fun _ q=>nomatch q).2 hb
   subst this
   exact ⟨vs,⟨n,e'⟩,r.soft X hd⟩
  | dict kvs=>
   have hb:a∉fr:=fun q=>hnl a q (.inl ⟨i,_,e,e',by intro q;cases q⟩)
   obtain ⟨ys,⟨o,es,ep,ho,hx,hdt,k⟩,k2,r⟩:=x
   obtain ⟨o',e',_,_,c,_⟩:=X.soft _ _ ho
   have:=(c fun vs q=>by rw [hdt] at q;cases q).2 hb
   subst this
   exact ⟨ys,⟨o',es,ep,e',hx,hdt,k⟩,k2,r.soft X hd⟩
theorem FrOk.soft(F:FrOk hB env ρ h ι σ)(X:Soft h₀ fr h h')(hd:∀ b∈fr,∃ o es n,h.get? b=some o∧o.data=.dict es n):FrOk hB env ρ h' ι σ:=by
 refine ⟨?_,fun x v e k=>?_,F.kinds,fun x k=>?_,F.apart,F.own,fun b hb=>?_,F.off⟩
 ·obtain ⟨m,hn,hv⟩:=F.ns
  refine ⟨m,Ns.soft X hn,fun x v e k=>?_⟩
  obtain ⟨y,hy,r⟩:=hv x v e k
  exact ⟨y,hy,r.soft X hd⟩
 ·obtain ⟨c,y,hc,hy,r⟩:=F.cel x v e k
  exact ⟨c,y,hc,IsCell.soft X hy,r.soft X hd⟩
 ·obtain ⟨c,y,hc,hy⟩:=F.cells x k
  exact ⟨c,y,hc,IsCell.soft X hy⟩
 ·obtain ⟨y,hy⟩:=F.cellsAt b hb
  exact ⟨y,IsCell.soft X hy⟩
theorem Stk.soft(S:Stk hB fl h ι σ)(X:Soft h₀ fr h h'):Stk hB fl h' ι σ:=by
 refine ⟨FunFrames.map S.fun_ fun b hb o ho hd=>?_,S.notLive,fun b hb=>?_⟩
 ·obtain ⟨o',e',_,_,c,_⟩:=X.soft b o ho
  exact ⟨o',e',fun vs=>by rw [(c hd).1];exact hd vs⟩
 ·obtain ⟨o,es,n,ho,hd⟩:=S.dicts b hb
  obtain ⟨o',e',_,_,c,_⟩:=X.soft b o ho
  exact ⟨o',es,n,e',(c fun vs q=>by rw [hd] at q;cases q).1.trans hd⟩
theorem Evo.soft{D:List Addr}{ι₀:Ad}{σ₀:zaa}(Y:Evo D h₀ ι₀ σ₀ h ι σ)(X:Soft h₀ fr h h')(hd:∀ b∈fr,∃ o es n,h.get? b=some o∧o.data=.dict es n):Evo D h₀ ι₀ σ₀ h' ι σ where
 pre:=Y.pre
 fresh:=Y.fresh
 dead:=Y.dead
 alive:=fun b o e=>by obtain ⟨o₁,e₁⟩:=Y.alive b o e;obtain ⟨o₂,e₂,_⟩:=X.soft b o₁ e₁;exact ⟨o₂,e₂⟩
 keep:=fun b o e hn hD=>by
  obtain ⟨⟨sl,e₁⟩,k⟩:=Y.keep b o e hn hD
  have hne:h₀.get? b≠none:=by rw [e];intro q;cases q
  obtain ⟨⟨sl',e₂⟩,_⟩:=X.hard b _ e₁ hne
  refine ⟨⟨sl',e₂⟩,fun q=>(X.hard b o (k q) hne).2 fun hb=>?_⟩
  obtain ⟨o',es,n,ho,hd'⟩:=hd b hb
  rw [k q] at ho;cases ho
  exact q es n hd'
 hid:=Y.hid
 hfresh:=Y.hfresh
theorem zjd(B:hB.StaysIn h)(X:Soft h₀ fr h h')(hb:∀ b o,hB.get? b=some o→h₀.get? b≠none)(hf:∀ b∈fr,hB.get? b=none):hB.StaysIn h':=fun b o e=>
 (X.hard b o (B b o e) (hb b o e)).2 fun q=>by rw [hf b q] at e;cases e
noncomputable def Fly'(h h':Heap)(e C:Addr):Prop:=h.get? e=Option.none∧∃ oe vs T oT ts,h'.get? e=some oe∧(oe.cls=.ref C∧oe.dict=Option.none)∧oe.data=.fields vs∧1<vs.size∧
  (vs[1]?=some (.ref T)∧T≠e∧h.get? T=Option.none∧h'.get? T=some oT∧oT.data=.fields ts∧3<ts.size)
theorem zdN{outer:List Env}{L e C:Addr}{head:Value}{hadNext:Bool}{Q:Unit→Shared→Prop}{E:Value→Shared→Prop}{oe:Obj}{vs:Array Value}(hfr:A.frames=some (env::outer))(S:Stk hB (env::outer) s.heap ι σ)(hf:env.frame=some L)
  (hn:h₀.get? e=none) (hn0:∀ b o,h₀.get? b=some o→∃ o',s.heap.get? b=some o') (he:s.heap.get? e=some oe) (hc:oe.cls=.ref C∧oe.dict=none) (hd:oe.data=.fields vs) (hsz:1<vs.size)
  (h:∀ h',Soft h₀ ((env::outer).filterMap (·.frame)) s.heap h'→Fly' h₀ h' e C→Q () { s with heap:=h' }) :
  wpAny (model prog w) A (do let a ← frameOf env;let pl ← entryPlaceOf L hadNext;let b ← EntryCells.newEntry head a .none (rawInt L) .none pl;setField (.ref e) 1 b) Q E s:=by
 have hene:e∉(env::outer).filterMap (·.frame):=fun hm=>by
  obtain ⟨_,o,ho,hnf⟩:=S.fun_.mem hm
  rw [he] at ho;cases ho;exact hnf vs hd
 refine wpAny_bind (wpAny_frameOf_fun hfr S.fun_ hf fun h₁ hs₁=>?_)
 refine wpAny_bind (wpAny_entryPlaceOf fun pl hpl=>?_)
 unfold EntryCells.newEntry newFields
 refine wpAny_bind (wpAny_newObj_type ?_ (hpl.sizeOk5 _ _ _ _ _))
 generalize hT:({ cls:=.type "traceback",dict:=none,data:=.fields ([head,.ref L,.none,rawInt L,.none]++(if pl.isEmpty then List.replicate 6 Value.none else pl)).toArray }:Obj)=oT
 have he₁:h₁.get? e=some oe:=(hs₁.2.1 e hene).trans he
 have he₂:=Heap.get?_push_of_some (h:=h₁) oT he₁
 have hX:Soft h₀ ((env::outer).filterMap (·.frame)) s.heap ((h₁.push oT).update e (Obj.mapFields (·.setIfInBounds 1 (Value.ref h₁.objs.size)))):=
  ((Soft.slots hs₁).trans (Soft.push _ _ _ oT)).trans (Soft.upd _ he₂ hd hn)
 have hTe:h₁.objs.size≠e:=Nat.ne_of_gt (Heap.lt_size he₁)
 have hfree:oT.isFreed=false:=by rw [← hT];rfl
 have hd₃:=Obj.data_mapFields hd (·.setIfInBounds 1 (Value.ref h₁.objs.size))
 refine wpAny_setField he₂ hd hsz (h _ hX ⟨hn,_,_,h₁.objs.size,oT,_,Heap.get?_update_self _ he₂ (Obj.isFreed_of_fields hd₃),⟨(Obj.cls_mapFields _ _).trans hc.1,(Obj.dict_mapFields _ _).trans hc.2⟩,hd₃,by simpa using hsz,⟨by simp [hsz],hTe,?_,(Heap.get?_update_other _ _ (Ne.symm hTe)).trans (Heap.get?_push_size h₁ hfree),by rw [← hT],?_⟩⟩)
 ·refine za4 (h₂:=h₁) (fun b o eb=>?_) (zav h₁)
  obtain ⟨o',e'⟩:=hn0 b o eb
  obtain ⟨sl,e''⟩:=hs₁.2.2 b o' e'
  exact ⟨_,e''⟩
 ·simp only [List.size_toArray,List.length_append,List.length_cons,List.length_nil];omega
theorem zdM{outer:List Env}{L e C:Addr}{Q:Unit→Shared→Prop}{E:Value→Shared→Prop}(hfr:A.frames=some (env::outer))(S:Stk hB (env::outer) s.heap ι σ)(hf:env.frame=some L)
  (F:Fly h₀ s.heap e C) (hn0:∀ b o,h₀.get? b=some o→∃ o',s.heap.get? b=some o')
  (h:∀ h' oe vs T,Soft h₀ ((env::outer).filterMap (·.frame)) s.heap h'→Fly h₀ h' e C→h'.get? e=some oe→oe.data=.fields vs→vs[1]?=some (.ref T)→Q () { s with heap:=h' }) :
  wpAny (model prog w) A (noteFrame (.ref e) env) Q E s:=by
 have key:∀{h':Heap},Soft h₀ ((env::outer).filterMap (·.frame)) s.heap h'→Fly h₀ h' e C→(∃ oe vs T,h'.get? e=some oe∧oe.data=.fields vs∧vs[1]?=some (.ref T))→Q () { s with heap:=h' }:=by
  rintro h' X F' ⟨oe,vs,T,a,b,c⟩;exact h h' oe vs T X F' a b c
 obtain ⟨hn,oe,vs,he,hc,hd,hsz,ht⟩:=F
 have tb:∀{h':Heap},Soft h₀ ((env::outer).filterMap (·.frame)) s.heap h'→Fly' h₀ h' e C→Q () { s with heap:=h' }:=by
  rintro h' X ⟨hn,oe,vs,T,oT,ts,h1,h2,h3,h4,h5⟩
  exact key X ⟨hn,oe,vs,h1,h2,h3,h4,.inr ⟨T,oT,ts,h5⟩⟩ ⟨oe,vs,T,h1,h3,h5.1⟩
 unfold noteFrame
 simp only [hf]
 rcases ht with h1 | ⟨T,oT,ts,h1,hTe,hTn,hT,hdT,h3⟩
 ·refine wpAny_bind (wpAny_field he hd h1 ?_)
  rw [if_neg (by decide)]
  exact zdN hfr S hf hn hn0 he hc hd hsz fun h' X F'=>tb X F'
 ·refine wpAny_bind (wpAny_field he hd h1 ?_)
  rw [if_pos (show (Value.ref T != Value.none)=true from by simp)]
  obtain ⟨x,hx⟩:∃ x,ts[3]?=some x:=⟨_,Array.getElem?_eq_getElem h3⟩
  refine wpAny_bind (wpAny_field hT hdT hx ?_)
  cases q:x==rawInt L with
  | true=>exact wpAny_pure (tb (Soft.refl _ _ _) ⟨hn,oe,vs,T,oT,ts,he,hc,hd,hsz,h1,hTe,hTn,hT,hdT,h3⟩)
  | false=>
   refine wpAny_bind (wpAny_setField hT hdT h3 ?_)
   have X₁:Soft h₀ ((env::outer).filterMap (·.frame)) s.heap (s.heap.update T (Obj.mapFields (·.setIfInBounds 3 Value.none))):=Soft.upd _ hT hdT hTn
   refine zdN (s:={ s with heap:=s.heap.update T (Obj.mapFields (·.setIfInBounds 3 Value.none)) }) hfr (S.soft X₁) hf hn (fun b o eb=>?_) ((Heap.get?_update_other _ _ hTe).trans he) hc hd hsz fun h' X F'=>tb (X₁.trans X) F'
   obtain ⟨o',e'⟩:=hn0 b o eb
   obtain ⟨o'',e'',_⟩:=X₁.soft b o' e'
   exact ⟨o'',e''⟩
theorem zdL{e C:Addr}{L:Option Addr}{Q:Unit→Shared→Prop}{E:Value→Shared→Prop}(F:Fly h₀ s.heap e C) (h:∀ h',Soft h₀ fr s.heap h'→Fly h₀ h' e C→Q () { s with heap:=h' }):wpAny (model prog w) A (setFlight (.ref e) L) Q E s:=by
 obtain ⟨hn,oe,vs,he,hc,hd,hsz,ht⟩:=F
 unfold setFlight
 rcases ht with h1 | ⟨T,oT,ts,h1,hTe,hTn,hT,hdT,h3⟩
 ·refine wpAny_bind (wpAny_field he hd h1 ?_)
  rw [if_neg (by decide)]
  exact wpAny_pure (h s.heap (Soft.refl _ _ _) ⟨hn,oe,vs,he,hc,hd,hsz,.inl h1⟩)
 ·refine wpAny_bind (wpAny_field he hd h1 ?_)
  rw [if_pos (show (Value.ref T != Value.none)=true from by simp)]
  have hdT':=Obj.data_mapFields hdT (·.setIfInBounds 3 (L.elim Value.none fun f=>rawInt f))
  refine wpAny_setField hT hdT h3 (h _ (Soft.upd _ hT hdT hTn) ⟨hn,oe,vs,(Heap.get?_update_other _ _ hTe).trans he,hc,hd,hsz,.inr ⟨T,_,_,h1,hTe,hTn,Heap.get?_update_self _ hT (Obj.isFreed_of_fields hdT'),hdT',by simpa using h3⟩⟩)
theorem zi5{outer:List Env}{L e C:Addr}{Q:Unit→Shared→Prop}{E:Value→Shared→Prop}(hfr:A.frames=some (env::outer))(S:Stk hB (env::outer) s.heap ι σ)(hf:env.frame=some L)
  (F:Fly h₀ s.heap e C) (hn0:∀ b o,h₀.get? b=some o→∃ o',s.heap.get? b=some o')
  (h:∀ h',Soft h₀ ((env::outer).filterMap (·.frame)) s.heap h'→Fly h₀ h' e C→Q () { s with heap:=h' }) :
  wpAny (model prog w) A (leaving env (.ref e)) Q E s:=by
 unfold leaving
 refine wpAny_bind (zdM hfr S hf F hn0 fun h₁ oe vs T X₁ F₁ _ _ _=>?_)
 exact zdL (s:={ s with heap:=h₁ }) (fr:=(env::outer).filterMap (·.frame)) F₁ fun h₂ X₂ F₂=>h h₂ (X₁.trans X₂) F₂
end
noncomputable def zjF:Loc:=fun _=>Option.none
noncomputable def FlR(prog:Program)(w:World)(hB:Heap)(env:Env)(fl:List Env)(h':Heap)(ι':Ad)(σ':zaa)(f:Fl)(x:Flow):Prop:=
 match f with
 | .next ρ'=>x=.next∧Inv prog w hB env ρ' fl h' ι' σ'
 | .ret v=>∃ y,x=.ret y∧Rep h' ι' σ' v y∧Inv prog w hB env zjF fl h' ι' σ'
noncomputable def SimX(prog:Program)(w:World)(hB:Heap)(A:Around)(env:Env)(fl:List Env)(t:Sem Flow)(r:M Fl)(s:Shared)(ι:Ad)(σ:zaa):Prop:=
 ∀(Q:Flow→Shared→Prop)(E:Value→Shared→Prop),r σ≠.stuck→
  (∀ f σ',r σ=.ok f σ'→∀ x h' tk ι',Evo (dyn env) s.heap ι σ h' ι' σ'→FlR prog w hB env fl h' ι' σ' f x→Q x { s with heap:=h',toks:=tk })→
  (∀ C σ',r σ=.err C σ'→∀ e h' tk ι',Evo (dyn env) s.heap ι σ h' ι' σ'→Inv prog w hB env zjF fl h' ι' σ'→Fly s.heap h' e C→E (.ref e) { s with heap:=h',toks:=tk })→
  wpAny (model prog w) A t Q E s
section
variable {prog:Program} {w:World} {hB:Heap} {A:Around} {s:Shared} {ι:Ad} {σ:zaa} {env:Env} {ρ:Loc} {fl:List Env} {sc:Scope} {K:Frag}
theorem SimX.fail{t:Sem Flow}:SimX prog w hB A env fl t M.fail s ι σ:=fun _ _ h _ _=>(h rfl).elim
theorem SimX.cond{t:Sem Flow}{b:Bool}{x y:M Fl}(hx:b=true→SimX prog w hB A env fl t x s ι σ)(hy:b=false→SimX prog w hB A env fl t y s ι σ):SimX prog w hB A env fl t (M.cond b x y) s ι σ:=by
 cases b
 ·exact hy rfl
 ·exact hx rfl
theorem SimX.res{t:Sem Flow}{r r':M Fl}(h:SimX prog w hB A env fl t r s ι σ)(e:r' σ=r σ):SimX prog w hB A env fl t r' s ι σ:=
 fun Q E hns hok herr=>h Q E (e▸hns) (fun a σ' q=>hok a σ' (e.trans q)) (fun C σ' q=>herr C σ' (e.trans q))
theorem Inv.noRho'{h:Heap}(I:Inv prog w hB env ρ fl h ι σ):Inv prog w hB env zjF fl h ι σ:=I.sub fun _ _ e=>nomatch e
theorem SimX.after{α β:Type}{R:Heap→Ad→zaa→α→β→Prop}{t:Sem β}{r:M α}{f:α→M Fl}{k:β→Sem Flow}(I:Inv prog w hB env ρ fl s.heap ι σ)(h1:Sim prog w hB A R t r s ι σ)
  (h2:∀ a σ' x h' tk ι',r σ=.ok a σ'→Step prog w hB s.heap ι σ h' ι' σ'→R h' ι' σ' a x→SimX prog w hB A env fl (k x) (f a) { s with heap:=h',toks:=tk } ι' σ') :
  SimX prog w hB A env fl (t >>= k) (r.bind f) s ι σ:=by
 intro Q E hns hok herr
 have hl:=I.store.len
 have hne:r σ≠.stuck:=fun q=>hns (zae q)
 refine wpAny_bind (h1 _ _ hne (fun a σ₁ e₁ x h₁ tk₁ ι₁ X₁ r₁=>?_) (fun C σ₁ e₁ e h₁ tk₁ ι₁ X₁ F₁=>?_))
 ·have hb:(r.bind f) σ=f a σ₁:=by simp only [M.bind,e₁]
  refine h2 a σ₁ x h₁ tk₁ ι₁ e₁ X₁ r₁ Q E (by rw [← hb];exact hns) (fun b σ₂ e₂ y h₂ tk₂ ι₂ X₂ r₂=>?_) (fun C σ₂ e₂ e h₂ tk₂ ι₂ X₂ I₂ F₂=>?_)
  ·exact hok b σ₂ (hb.trans e₂) y h₂ tk₂ ι₂ ((X₁.evo.wide fun _ q=>nomatch q).trans hl X₂ fun b hb _ _=>hb) r₂
  ·exact herr C σ₂ (hb.trans e₂) e h₂ tk₂ ι₂ ((X₁.evo.wide fun _ q=>nomatch q).trans hl X₂ fun b hb _ _=>hb) I₂ (F₂.older X₁.evo.alive)
 ·exact herr C σ₁ (zam e₁) e h₁ tk₁ ι₁ (X₁.evo.wide fun _ q=>nomatch q) (I.step X₁).noRho' F₁
theorem SimX.standAt{t:Sem Flow}{r:M Fl}(p:Pos)(h:SimX prog w hB A env fl t r s ι σ):SimX prog w hB A env fl (do standAt p;t) r s ι σ:=fun Q E hns hok herr=>wpAny_bind (wpAny_standAt (h Q E hns hok herr))
theorem SimX.pure{f:Fl}{x:Flow}(h:FlR prog w hB env fl s.heap ι σ f x):SimX prog w hB A env fl (pure x) (M.ret f) s ι σ:=by
 intro Q E _ hok _
 exact wpAny_pure (hok f σ rfl x s.heap s.toks ι ((Evo.refl _ _ _).wide fun _ q=>nomatch q) h)
noncomputable abbrev ExIH(prog:Program)(w:World)(hB:Heap)(A:Around)(env:Env)(fl:List Env)(X:Loc→Stmt→M Fl):Prop:=
 ∀ st ρ s ι σ,Inv prog w hB env ρ fl s.heap ι σ→SimX prog w hB A env fl (exec st env) (X ρ st) s ι σ
theorem zj1{X:Loc→Stmt→M Fl}(IH:ExIH prog w hB A env fl X):∀(l:List Stmt)(ρ:Loc)(s:Shared)(ι:Ad)(σ:zaa),Inv prog w hB env ρ fl s.heap ι σ→SimX prog w hB A env fl (execs l env) (exs X ρ l) s ι σ
 | [],ρ,s,ι,σ,I=>fun Q E _ hok _=>wpAny_execs_nil (hok _ σ rfl _ s.heap s.toks ι ((Evo.refl _ _ _).wide fun _ q=>nomatch q) ⟨rfl,I⟩)
 | st::rest,ρ,s,ι,σ,I=>by
  intro Q E hns hok herr
  have hne:X ρ st σ≠.stuck:=fun q=>hns (zae q)
  refine wpAny_execs_cons (IH st ρ s ι σ I _ _ hne (fun f σ₁ e₁ x h₁ tk₁ ι₁ X₁ r₁=>?_) (fun C σ₁ e₁ e h₁ tk₁ ι₁ X₁ I₁ F₁=>herr C σ₁ (zam e₁) e h₁ tk₁ ι₁ X₁ I₁ F₁))
  cases f with
  | next ρ'=>
   obtain ⟨rfl,I₁⟩:=r₁
   have hb:exs X ρ (st::rest) σ=exs X ρ' rest σ₁:=zab e₁
   refine zj1 IH rest ρ' { s with heap:=h₁,toks:=tk₁ } ι₁ σ₁ I₁ Q E (by rw [← hb];exact hns) (fun b σ₂ e₂ y h₂ tk₂ ι₂ X₂ r₂=>?_) (fun C σ₂ e₂ e h₂ tk₂ ι₂ X₂ I₂ F₂=>?_)
   ·exact hok b σ₂ (hb.trans e₂) y h₂ tk₂ ι₂ (X₁.trans I.store.len X₂ fun b hb _ _=>hb) r₂
   ·exact herr C σ₂ (hb.trans e₂) e h₂ tk₂ ι₂ (X₁.trans I.store.len X₂ fun b hb _ _=>hb) I₂ (F₂.older X₁.alive)
  | ret v=>
   obtain ⟨y,rfl,r₁,I₁⟩:=r₁
   exact hok (.ret v) σ₁ (zab e₁) _ h₁ tk₁ ι₁ X₁ ⟨y,rfl,r₁,I₁⟩
theorem zmi{E:Expr→M PV}{e:Expr}{p:Pos}(IH:EvIH prog w hB A env ρ fl E)(I:Inv prog w hB env ρ fl s.heap ι σ):SimX prog w hB A env fl (exec (.Return (some e) p) env) ((E e).bind fun v=>M.ret (.ret v)) s ι σ:=by
 rw [exec_Return_some]
 refine SimX.standAt p (SimX.after I (IH e s ι σ I) fun v σ₁ x h₁ tk₁ ι₁ e₁ X₁ r₁=>SimX.pure ⟨x,rfl,r₁,(I.step X₁).noRho'⟩)
theorem x_if{cx:Cx}{n:Nat}{t:Expr}{a b:List Stmt}{p:Pos}{X:Loc→Stmt→M Fl}(hu:A.units+600<cLine)(IHe:∀ k,k≤n→EvIH prog w hB A env ρ fl (ev cx k sc ρ))(IH:ExIH prog w hB A env fl X)(I:Inv prog w hB env ρ fl s.heap ι σ) :
  SimX prog w hB A env fl (exec (.If t a b p) env) ((ev cx n sc ρ t).bind fun v=>(zan v).bind fun c=>M.cond c (exs X ρ a) (exs X ρ b)) s ι σ:=by
 rw [exec_If,← M.bind_assoc]
 refine SimX.standAt p (SimX.after I (zdx hu n IHe t s ι σ I) fun c σ₁ x h₁ tk₁ ι₁ e₁ X₁ r₁=>?_)
 cases r₁
 cases c
 ·exact zj1 IH b ρ _ ι₁ σ₁ (I.step X₁)
 ·exact zj1 IH a ρ _ ι₁ σ₁ (I.step X₁)
theorem zpj{E:Expr→M PV}{e:Expr}{p:Pos}(H:EnvOk env sc)(hc:ziK e=false)(hE:∀ elt g s p,E (.SetComp elt g s p)=M.fail)(hE':∀ k v g s p,E (.DictComp k v g s p)=M.fail)(IH:EvIH prog w hB A env ρ fl E)(I:Inv prog w hB env ρ fl s.heap ι σ) :
  SimX prog w hB A env fl (exec (.Expr e p) env) ((E e).bind fun _=>M.ret (.next ρ)) s ι σ:=by
 have hi:interactive env=false:=by simp [interactive,H.kind]
 have go:swapsWith e none p.line env=Pure.pure false→SimX prog w hB A env fl (exec (.Expr e p) env) ((E e).bind fun _=>M.ret (.next ρ)) s ι σ:=by
  intro hs Q Er hns hok herr
  have hne:E e σ≠.stuck:=fun q=>hns (zae q)
  refine wpAny_Expr_any (IH e s ι σ I _ _ hne (fun v σ₁ e₁ x h₁ tk₁ ι₁ X₁ r₁=>?_) (fun C σ₁ e₁ e h₁ tk₁ ι₁ X₁ F₁=>?_)) hi hs
  ·exact hok (.next ρ) σ₁ (zab e₁) _ h₁ tk₁ ι₁ (X₁.evo.wide fun _ q=>nomatch q) ⟨rfl,I.step X₁⟩
  ·exact herr C σ₁ (zam e₁) e h₁ tk₁ ι₁ (X₁.evo.wide fun _ q=>nomatch q) (I.step X₁).noRho' F₁
 cases e with
 | ListComp=>cases hc
 | SetComp=>rw [hE];exact SimX.fail
 | DictComp=>rw [hE'];exact SimX.fail
 | _=>exact go rfl
theorem zid{h':Heap}{ρ':Loc}(F':FrOk hB env ρ' h' ι σ)(hk:∀ b o,b∉dyn env→s.heap.get? b=some o→h'.get? b=some o):Evo (dyn env) s.heap ι σ h' ι σ:=Evo.but hk (zcq F')
theorem zgI{cx:Cx}{n:Nat}{y:Str}{py p sp:Pos}{t elt it:Expr}{ifs:List Expr}{csc:Scope} (hsw:swapsWith (.ListComp elt [⟨t,it,ifs,0⟩] csc p) (some (.Name y py)) sp.line env=Pure.pure true)
  (hG:GlobOk hB K cx.G) (hh:A.handled=none) (hu:A.units+600<cLine) (O:CompOk sc csc it) (H:EnvOk env sc) (hy:env.kindOf y=some .local∨env.kindOf y=some .cell)
  (IHo:EvIH prog w hB A env ρ fl (ev cx n sc ρ)) (IHi:∀ cenv,EnvOk cenv csc→∀ k,k≤n→∀ ρ',EvIH prog w hB A cenv ρ' fl (ev { cx with md:=⟨false,cx.md.lp⟩ } k csc ρ')) (I:Inv prog w hB env ρ fl s.heap ι σ) :
  SimX prog w hB A env fl (exec (.Assign [.Name y py] (.ListComp elt [⟨t,it,ifs,0⟩] csc p) sp) env) (((zeQ cx n sc csc ρ t elt it ifs).bind fun ys=>zaw cx p ys).bind fun v=>M.ret (.next (ρ.set y v))) s ι σ:=by
 rw [exec_Assign_Name_used _ _ _ _ hsw]
 refine SimX.standAt sp ?_
 intro Q Er hns hok herr
 refine wpAny_bind ?_
 show wpAny _ A (comprehension (.ListComp elt [⟨t,it,ifs,0⟩] csc p) csc env _ (newList []) false (eval it env) (some (assign (.Name y py) env)) >>= fun _=>Pure.pure ()) _ _ _
 refine wpAny_bind (zj5 hG hh hu O H IHo IHi I _ Er (fun q=>hns (zae (zae q))) (fun ys σ' e D C H' tk ι' X=>?_) (fun C σ' e e' h' tk ι' X F=>herr C σ' (zam (zam e)) e' h' tk ι' (X.evo.wide fun _ q=>nomatch q) (I.step X).noRho' F))
 obtain ⟨v,ι'',σ'',hm,Y,r,offC⟩:=zfJ (cx:=cx) (p:=p) I.store X (Heap.SameBut.refl C H')
 show wpAny _ A (assign (.Name y py) env (.ref D)) _ _ _
 have I₁:=I.step Y
 have hCf:C∉fl.filterMap (·.frame):=fun q=>by obtain ⟨o,ho⟩:=I.stk.there q;rw [X.newC] at ho;cases ho
 have hCd:C∉dyn env:=fun q=>by obtain ⟨o,ho⟩:=zcq I.fr C q;rw [X.newC] at ho;cases ho
 refine wpAny_assign_Name (zb9 (s:={ s with heap:=H',toks:=tk }) H I₁ hy r _ _ fun h₂ tk₂ hk₂ I₂=>?_)
 obtain ⟨m,hmC⟩:=X.ns
 have hm₂:h₂.Ns C m:=by obtain ⟨o,es,ep,ho,q⟩:=hmC;exact ⟨o,es,ep,hk₂ C o hCd ho,q⟩
 refine ⟨m,hm₂,fun h₃ hs₃=>wpAny_pure (wpAny_pure ?_)⟩
 have hk₃:∀ b o,b∉[C]→h₂.get? b=some o→h₃.get? b=some o:=fun b o hb e=>(hs₃.2 b (fun q=>hb (by rw [q];exact .head _))).trans e
 have hO:Off ι'' [C] h₂:=fun b hb=>by
  rw [List.mem_singleton.mp hb]
  obtain ⟨o,es,ep,ho,hd,_⟩:=hm₂
  refine .inr fun o' ho'=>?_
  rw [ho] at ho';cases ho'
  exact ⟨fun vs n q=>(by rw [hd] at q;cases q),.inl fun vs q=>(by rw [hd] at q;cases q)⟩
 have I₃:=I₂.lost' hk₃ (fun b hb=>by rw [List.mem_singleton.mp hb];exact X.baseC) hO (fun b hb=>by rw [List.mem_singleton.mp hb];exact ⟨offC.1,fun q=>(offC.2 q).elim⟩) (fun b hb=>by rw [List.mem_singleton.mp hb];exact hCf) (fun b hb q=>hCd (by rw [← List.mem_singleton.mp q];exact hb))
 have X₂:Evo (dyn env) s.heap ι σ h₂ ι'' σ'':=(Y.evo.wide fun _ q=>nomatch q).trans I.store.len (zid (s:={ s with heap:=H',toks:=tk }) I₂.fr hk₂) fun b hb _ _=>hb
 refine hok (.next (ρ.set y v)) σ'' (zab ((zab e).trans hm)) _ h₃ tk₂ ι'' (X₂.lost hk₃ fun b hb=>by rw [List.mem_singleton.mp hb];exact X.newC) ⟨rfl,I₃⟩
end
section
variable {prog:Program} {w:World} {hB:Heap} {A:Around} {s:Shared} {ι:Ad} {σ:zaa} {env:Env} {ρ:Loc} {fl:List Env} {sc:Scope} {K:Frag}
theorem RepL.setAt{h:Heap}{v:PV}{y:Value}(r:Rep h ι σ v y):∀{xs:List PV}{vs:List Value}(k:Nat),RepL h ι σ xs vs→RepL h ι σ (xs.set k v) (vs.set k y)
 | _,_,_,.nil=>.nil
 | _,_,0,.cons _ rs=>.cons r rs
 | _,_,k+1,.cons r' rs=>.cons r' (RepL.setAt r k rs)
theorem zky{o i v:PV}{x y z:Value}(S:StoreOk prog w hB s.heap ι σ)(B:hB.StaysIn s.heap)(ro:Rep s.heap ι σ o x)(ri:Rep s.heap ι σ i y)(rv:Rep s.heap ι σ v z) :
  Sim prog w hB A (fun _ _ _ (_:Unit) (_:Unit)=>True) (setItem x y z) (setAt o i v) s ι σ:=by
 refine Sim.onRef (t:=fun x=>setItem x y z) ro fun j a hi=>?_
 cases i with
 | str k=>
  obtain ⟨t,rfl⟩:=ri.inv
  refine Sim.dget S hi fun kvs ys hc hd q=>Sim.cond (fun hn=>?_) fun _=>Sim.fail
  intro Q Er _ hok _
  refine wpAny_setItem_pairs (hsz:=zcu (by rw [q.length];exact of_decide_eq_true hn)) (strKind_is _ _ k t) hd fun h' hd' hs=>?_
  exact hok () (σ.set j (.dict (dput k v kvs))) rfl _ h' _ ι (zc4 S B hi hc hs hd' (q.put rv)) trivial
 | int k=>
  obtain ⟨t,rfl⟩:=ri.inv
  refine Sim.lget S hi fun ys us n hc hp rl=>Sim.cond (fun hn=>?_) fun _=>Sim.fail
  rw [Bool.and_eq_true,Bool.and_eq_true] at hn
  have n1:=of_decide_eq_true hn.1.1
  have n2:=of_decide_eq_true hn.1.2
  have n3:=of_decide_eq_true hn.2
  have e1:ys.length=us.size:=rl.length
  intro Q Er _ hok _
  refine ki_setAt (n:=n) hp n1 (by omega) (by omega) ?_
  refine hok () (σ.set j (.list (ys.set k.toNat v))) rfl _ _ s.toks ι (zd9 S B hi hc (Heap.SameBut.update ..) (IsL.update hp _) ?_) trivial
  rw [Array.toList_setIfInBounds];exact RepL.setAt rv _ rl
 | _=>exact Sim.fail
theorem zhz{E:Expr→M PV}{o i e:Expr}{tp sp:Pos}(IH:EvIH prog w hB A env ρ fl E)(I:Inv prog w hB env ρ fl s.heap ι σ) :
  SimX prog w hB A env fl (exec (.Assign [.Subscript o i tp] e sp) env) ((E e).bind fun v=>(asg E sc ρ (.Subscript o i tp) v).bind fun ρ'=>M.ret (.next ρ')) s ι σ:=by
 intro Q Er hns hok herr
 have as:((E e).bind fun v=>(asg E sc ρ (.Subscript o i tp) v).bind fun ρ'=>M.ret (Fl.next ρ'))=(E e).bind fun v=>(E o).bind fun ov=>(E i).bind fun iv=>(setAt ov iv v).bind fun _=>M.ret (.next ρ):=by
  refine congrArg (M.bind _) (funext fun v=>(M.bind_assoc _ _ _).trans (congrArg (M.bind _) (funext fun ov=>(M.bind_assoc _ _ _).trans (congrArg (M.bind _) (funext fun iv=>M.bind_assoc _ _ _)))))
 rw [as] at hns hok herr
 refine wpAny_Assign_Subscript (IH e s ι σ I _ _ (fun q=>hns (zae q)) (fun v σ₁ e₁ x h₁ tk₁ ι₁ X₁ r₁=>?_) (fun C σ₁ e₁ e h₁ tk₁ ι₁ X₁ F₁=>herr C σ₁ (zam e₁) e h₁ tk₁ ι₁ (X₁.evo.wide fun _ q=>nomatch q) (I.step X₁).noRho' F₁)) (by cases e <;> rfl)
 rw [zab e₁] at hns hok herr
 have I₁:=I.step X₁
 refine IH o { s with heap:=h₁,toks:=tk₁ } ι₁ σ₁ I₁ _ _ (fun q=>hns (zae q)) (fun ov σ₂ e₂ y h₂ tk₂ ι₂ X₂ r₂=>?_) (fun C σ₂ e₂ e h₂ tk₂ ι₂ X₂ F₂=>herr C σ₂ (zam e₂) e h₂ tk₂ ι₂ ((X₁.trans I.store.len X₂).evo.wide fun _ q=>nomatch q) (I₁.step X₂).noRho' (F₂.older X₁.evo.alive))
 rw [zab e₂] at hns hok herr
 have I₂:=I₁.step X₂
 have Y₂:=X₁.trans I.store.len X₂
 refine IH i { s with heap:=h₂,toks:=tk₂ } ι₂ σ₂ I₂ _ _ (fun q=>hns (zae q)) (fun iv σ₃ e₃ z h₃ tk₃ ι₃ X₃ r₃=>?_) (fun C σ₃ e₃ e h₃ tk₃ ι₃ X₃ F₃=>herr C σ₃ (zam e₃) e h₃ tk₃ ι₃ ((Y₂.trans I.store.len X₃).evo.wide fun _ q=>nomatch q) (I₂.step X₃).noRho' (F₃.older Y₂.evo.alive))
 rw [zab e₃] at hns hok herr
 have I₃:=I₂.step X₃
 have Y₃:=Y₂.trans I.store.len X₃
 refine zky (s:={ s with heap:=h₃,toks:=tk₃ }) I₃.store I₃.stays ((r₂.step I₂.store.len X₃)) r₃ ((r₁.step I₁.store.len X₂).step I₂.store.len X₃) _ _ (fun q=>hns (zae q)) (fun u σ₄ e₄ _ h₄ tk₄ ι₄ X₄ _=>?_) (fun C σ₄ e₄ e h₄ tk₄ ι₄ X₄ F₄=>herr C σ₄ (zam e₄) e h₄ tk₄ ι₄ ((Y₃.trans I.store.len X₄).evo.wide fun _ q=>nomatch q) (I₃.step X₄).noRho' (F₄.older Y₃.evo.alive))
 exact hok (.next ρ) σ₄ (zab e₄) _ h₄ tk₄ ι₄ ((Y₃.trans I.store.len X₄).evo.wide fun _ q=>nomatch q) ⟨rfl,I₃.step X₄⟩
end
section
variable {prog:Program} {w:World} {hB:Heap} {A:Around} {s:Shared} {ι:Ad} {σ:zaa} {env:Env} {ρ:Loc} {fl:List Env} {sc:Scope} {K:Frag}
theorem SimX.res'{t:Sem Flow}{r r':M Fl}(h:SimX prog w hB A env fl t r s ι σ)(e:r' σ≠.stuck→r' σ=r σ):SimX prog w hB A env fl t r' s ι σ:=
 fun Q E hns hok herr=>h Q E (e hns▸hns) (fun a σ' q=>hok a σ' ((e hns).trans q)) (fun C σ' q=>herr C σ' ((e hns).trans q))
theorem znP{y:Str}{v:PV}{x:Value}{py:Pos}(H:EnvOk env sc)(I:Inv prog w hB env ρ fl s.heap ι σ)(hy:env.kindOf y=some .local∨env.kindOf y=some .cell)(r:Rep s.heap ι σ v x) :
  SimX prog w hB A env fl (do standAt py;bindName env y x;Pure.pure .next) (M.ret (.next (ρ.set y v))) s ι σ:=by
 intro Q E _ hok _
 refine wpAny_bind (wpAny_standAt (wpAny_bind (wpAny_bindName (zb9 H I hy r _ _ fun h' tk hk I'=>wpAny_pure ?_))))
 exact hok (.next (ρ.set y v)) σ rfl _ h' tk ι (zid I'.fr hk) ⟨rfl,I'⟩
theorem zeW(sc:Scope)(ρ:Loc)(y:Str):((sc.names.lookup y=some .local∨sc.names.lookup y=some .cell)∧∀ v,zd7 sc ρ v y=some (ρ.set y v))∨∀ v,zd7 sc ρ v y=none:=by
 unfold zd7
 cases sc.names.lookup y with
 | none=>exact .inr fun _=>rfl
 | some k=>
  cases k with
  | «local»=>exact .inl ⟨.inl rfl,fun _=>rfl⟩
  | cell=>exact .inl ⟨.inr rfl,fun _=>rfl⟩
  | _=>exact .inr fun _=>rfl
theorem zqa{r:M PV}{y:Str} (h:(r.bind fun v=>(M.lift (zd7 sc ρ v y)).bind fun ρ'=>M.ret (Fl.next ρ')) σ≠.stuck):(r.bind fun v=>(M.lift (zd7 sc ρ v y)).bind fun ρ'=>M.ret (Fl.next ρ')) σ=(r.bind fun v=>M.ret (.next (ρ.set y v))) σ:=by
 cases hr:r σ with
 | stuck=>exact (zae hr).trans (zae hr).symm
 | err C σ'=>exact (zam hr).trans (zam hr).symm
 | ok v σ'=>
  rw [zab hr] at h ⊢
  rw [zab hr]
  rcases zeW sc ρ y with ⟨_,hb⟩ | hb
  ·rw [hb];rfl
  ·rw [hb] at h;exact (h rfl).elim
theorem zfR{E:Expr→M PV}{y:Str}{py sp:Pos}{e:Expr} (hs:swapsWith e (some (.Name y py)) sp.line env=Pure.pure false) (IH:EvIH prog w hB A env ρ fl E) (H:EnvOk env sc) (I:Inv prog w hB env ρ fl s.heap ι σ) :
  SimX prog w hB A env fl (exec (.Assign [.Name y py] e sp) env) ((E e).bind fun v=>(M.lift (zd7 sc ρ v y)).bind fun ρ'=>M.ret (.next ρ')) s ι σ:=by
 rw [exec_Assign_Name env y py e sp hs]
 refine SimX.standAt sp (SimX.after I (IH e s ι σ I) fun v σ₁ x h₁ tk₁ ι₁ e₁ X₁ r₁=>?_)
 rcases zeW sc ρ y with ⟨hk,hb⟩ | hb
 ·rw [hb];exact znP (s:={ s with heap:=h₁,toks:=tk₁ }) H (I.step X₁) (zlv H hk) r₁
 ·rw [hb];exact SimX.fail
theorem zj3{cx:Cx}{d n:Nat}{md:Md}{y:Str}{py sp p:Pos}{elt:Expr}{gens:List Comprehension}{csc:Scope} (hsw:swapsWith (.ListComp elt gens csc p) (some (.Name y py)) sp.line env=Pure.pure true) (hy:env.kindOf y=some .local) (hG:GlobOk hB K cx.G) (hc:zir prog w hB d cx.call) (hA:Ar md d fl A) (H:EnvOk env sc) (I:Inv prog w hB env ρ fl s.heap ι σ) :
  SimX prog w hB A env fl (exec (.Assign [.Name y py] (.ListComp elt gens csc p) sp) env) ((ziS { cx with md:=md } sc ρ (ev { cx with md:=md } n sc ρ) csc (fun ρ' e=>ev { cx with md:=⟨false,md.lp⟩ } n csc ρ' e) elt gens p).bind fun v=>(M.lift (zd7 sc ρ v y)).bind fun ρ'=>M.ret (.next ρ')) s ι σ:=by
 cases gens with
 | nil=>exact SimX.fail
 | cons g r=>
  cases r with
  | cons _ _=>exact SimX.fail
  | nil=>
   obtain ⟨t,it,ifs,a⟩:=g
   unfold ziS
   rw [M.cond_bind]
   refine SimX.cond (fun q=>?_) fun _=>SimX.fail
   rw [Bool.and_eq_true,Bool.and_eq_true,Bool.and_eq_true] at q
   obtain ⟨ha,⟨hlp,hco⟩,hnm⟩:=q
   have ha₂:a=0:=of_decide_eq_true ha
   subst ha₂
   refine (zgI (cx:={ cx with md:=md }) (n:=n) (t:=t) (ifs:=ifs) hsw hG (hA.quiet (.inr hlp)) hA.units600 (zeR hco) H (.inl hy) (zix (A:=A) (fl:=fl) hG hc n md hA env sc H ρ)
    (fun cenv Hc k hk ρ'=>zix hG hc k _ hA.inner cenv csc Hc ρ') I).res' fun hns=>(zqa hns).trans ?_
   exact congrFun (congrArg (fun m=>M.bind m _) (funext fun τ=>zeP)) σ
theorem zgH{cx:Cx}{d n:Nat}{md:Md}{y:Str}{py sp:Pos}{e:Expr}(hG:GlobOk hB K cx.G)(hc:zir prog w hB d cx.call)(hA:Ar md d fl A)(H:EnvOk env sc)(I:Inv prog w hB env ρ fl s.heap ι σ) :
  SimX prog w hB A env fl (exec (.Assign [.Name y py] e sp) env) ((ev { cx with md:=md } n sc ρ e).bind fun v=>(asg (ev { cx with md:=md } n sc ρ) sc ρ (.Name y py) v).bind fun ρ'=>M.ret (.next ρ')) s ι σ:=by
 have plain:swapsWith e (some (.Name y py)) sp.line env=Pure.pure false→SimX prog w hB A env fl (exec (.Assign [.Name y py] e sp) env) ((ev { cx with md:=md } n sc ρ e).bind fun v=>(asg (ev { cx with md:=md } n sc ρ) sc ρ (.Name y py) v).bind fun ρ'=>M.ret (.next ρ')) s ι σ:=
  fun hs=>zfR hs (zix (A:=A) (fl:=fl) hG hc n md hA env sc H ρ) H I
 cases e with
 | SetComp=>cases n <;> exact SimX.fail
 | DictComp=>cases n <;> exact SimX.fail
 | ListComp elt gens csc p=>
  generalize hb:(env.blockKind==.function&&env.kindOf y==some .local&&py.line==p.line&&!(csc.names.any fun (m,k)=>m==y&&(k==.local || k==.cell)))=b
  have hsw:swapsWith (.ListComp elt gens csc p) (some (.Name y py)) sp.line env=Pure.pure b:=hb▸rfl
  cases b with
  | false=>exact plain hsw
  | true=>
   cases n with
   | zero=>exact SimX.fail
   | succ n=>
    rw [Bool.and_eq_true,Bool.and_eq_true,Bool.and_eq_true] at hb
    exact zj3 hsw (eq_of_beq hb.1.1.2) hG hc hA H I
 | _=>exact plain rfl
theorem zfQ{E:Expr→M PV}{ts:List Expr}{k:Nat}{tp sp:Pos}{e:Expr}(hh:A.handled=none)(H:EnvOk env sc)(he:zbZ e≠2)(IH:EvIH prog w hB A env ρ fl E)(I:Inv prog w hB env ρ fl s.heap ι σ) :
  SimX prog w hB A env fl (exec (.Assign [.Tuple ts k tp] e sp) env) ((E e).bind fun v=>(asg E sc ρ (.Tuple ts k tp) v).bind fun ρ'=>M.ret (.next ρ')) s ι σ:=by
 intro Q Er hns hok herr
 refine Assign_Tuple (IH e s ι σ I _ _ (fun q=>hns (zae q)) (fun v σ₁ e₁ x h₁ tk₁ ι₁ X₁ r₁=>?_) (fun C σ₁ e₁ e h₁ tk₁ ι₁ X₁ F₁=>herr C σ₁ (zam e₁) e h₁ tk₁ ι₁ (X₁.evo.wide fun _ q=>nomatch q) (I.step X₁).noRho' F₁)) (by cases e <;> rfl) (by cases e <;> first | rfl | exact (he rfl).elim)
 rw [zab e₁] at hns hok
 have I₁:=I.step X₁
 cases v with
 | tup xs=>
  obtain ⟨a,vs,m,rfl,hp,nl,rl⟩:=r₁.inv
  have hns:(M.lift (zbj sc ρ ts xs)).bind (fun ρ'=>M.ret (Fl.next ρ')) σ₁≠.stuck:=hns
  cases hb:zbj sc ρ ts xs with
  | none=>rw [hb] at hns;exact (hns rfl).elim
  | some ρ'=>
   obtain ⟨b1,b2,b3⟩:=zdq (env:=env) ts hb
   have hsz:(assignEach ts env).length=vs.size:=(b2.trans b1).trans rl.length
   refine wpAny_assign_Tuple (s:={ s with heap:=h₁,toks:=tk₁ }) hh ⟨_,hp,rfl,_,rfl⟩ hsz b3 fun h₂ hx=>?_
   have hk:∀ b o,h₁.get? b=some o→h₂.get? b=some o:=fun b o e=>hx b o (Nat.ne_of_lt (Heap.lt_size e)) e
   have X₂:Step prog w hB h₁ ι₁ σ₁ h₂ ι₁ σ₁:=Step.keeps I₁.store I₁.stays hk
   refine zfb (fun _ h=>h) (zgW H) _ _ ts xs vs.toList ρ { s with heap:=h₂,toks:=tk₁ } hb (I₁.step X₂) (rl.step I₁.store.len X₂) fun h₃ tk₃ hk₃ I₃=>?_
   exact hok (.next ρ') σ₁ (by show (M.lift (zbj sc ρ ts xs)).bind (fun ρ'=>M.ret (Fl.next ρ')) σ₁=_;rw [hb];rfl) _ h₃ tk₃ ι₁ (((X₁.trans I.store.len X₂).evo.wide fun _ q=>nomatch q).trans I.store.len (zid (s:={ s with heap:=h₂,toks:=tk₁ }) I₃.fr hk₃) fun b hb _ _=>hb) ⟨rfl,I₃⟩
 | _=>exact (hns rfl).elim
end
section
variable {prog:Program} {w:World} {hB:Heap} {A:Around} {s:Shared} {ι:Ad} {σ:zaa} {env:Env} {ρ:Loc} {fl outer:List Env} {sc:Scope} {K:Frag}
theorem Inv.soft{h₀ h h':Heap}(I:Inv prog w hB env ρ fl h ι σ) (X:Soft h₀ (fl.filterMap (·.frame)) h h') (B₀:∀ b o,hB.get? b=some o→h₀.get? b≠none):Inv prog w hB env ρ fl h' ι σ:=
 ⟨zjd I.stays X B₀ fun b hb=>(I.stk.fun_.mem hb).1,I.store.soft X I.stk.dicts I.stk.notLive,I.fr.soft X I.stk.dicts,I.stk.soft X⟩
theorem zit{h:Heap}(B:hB.StaysIn h):∀ b o,hB.get? b=some o→h.get? b≠Option.none:=fun b o e q=>by rw [B b o e] at q;cases q
theorem zhC{L e C:Addr}{h₀:Heap}{ι₀:Ad}{σ₀:zaa}{E:Value→Shared→Prop}(hfr:A.frames=some (env::outer))(hf:env.frame=some L)(I:Inv prog w hB env zjF (env::outer) s.heap ι σ)(X:Evo (dyn env) h₀ ι₀ σ₀ s.heap ι σ)(F:Fly h₀ s.heap e C)(B₀:hB.StaysIn h₀)
  (hE:∀ h',Evo (dyn env) h₀ ι₀ σ₀ h' ι σ→Inv prog w hB env zjF (env::outer) h' ι σ→Fly h₀ h' e C→E (.ref e) { s with heap:=h' }) :
  notedBy (model prog w) A env (fun e s'=>cameBackBy (model prog w) A env E e s') (.ref e) s:=by
 refine zdM hfr I.stk hf F X.alive fun h₁ oe vs T X₁ F₁ he hd h1=>?_
 refine wpAny_bind (wpAny_field (s:={ s with heap:=h₁ }) he hd h1 ?_)
 rw [if_neg (by simp)]
 refine zdL (s:={ s with heap:=h₁ }) (fr:=(env::outer).filterMap (·.frame)) F₁ fun h₂ X₂ F₂=>?_
 have XX:=X₁.trans X₂
 exact hE h₂ (X.soft XX I.stk.dicts) (I.soft XX (zit B₀)) F₂
structure ForFix (prog:Program) (w:World) (hB:Heap) (A:Around) (t:Expr) (env:Env) (I:Addr) (fp own hd:List Addr) (src:Src) (St:Nat→Heap→Prop) (h₀:Heap) (ι₀:Ad) (σ₀:zaa) (h₁:Heap) (ι₁:Ad) (σ₁:zaa):Prop where
 len₀:ι₀.vis.length=σ₀.length
 X:Evo [] h₀ ι₀ σ₀ h₁ ι₁ σ₁
 len:ι₁.vis.length=σ₁.length
 Z:Itr prog w hB A t I fp own hd src St h₁ ι₁ σ₁
 st₀:St 0 h₁
 own₀:∀ b∈own,h₀.get? b=none
 own:∀ b∈own,hB.get? b=none
 dyn:∀ b∈dyn env,b∉fp
structure ForAt (prog:Program) (w:World) (hB:Heap) (env:Env) (fl:List Env) (own:List Addr) (St:Nat→Heap→Prop) (h₁:Heap) (ι₁:Ad) (σ₁:zaa) (ρ':Loc) (H:Heap) (ι':Ad) (σ':zaa) (j:Nat):Prop where
 inv:Inv prog w hB env ρ' fl H ι' σ'
 evo:Evo (own++dyn env) h₁ ι₁ σ₁ H ι' σ'
 st:St j H
section
variable {t:Expr} {I:Addr} {fp own hd:List Addr} {src:Src} {St:Nat→Heap→Prop} {h₀ h₁ H h':Heap} {ι₀ ι₁ ι' ι'':Ad} {σ₀ σ₁ σ' σ'':zaa} {ρi ρj:Loc} {j:Nat}
theorem ForFix.base(F:ForFix prog w hB A t env I fp own hd src St h₀ ι₀ σ₀ h₁ ι₁ σ₁)(X:Evo (own++Mine.dyn env) h₁ ι₁ σ₁ h' ι' σ'):Evo (Mine.dyn env) h₀ ι₀ σ₀ h' ι' σ':=
 (F.X.wide fun _ q=>nomatch q).trans F.len₀ X fun b hb o e=>by
  rcases List.mem_append.mp hb with hb | hb
  ·rw [F.own₀ b hb] at e;cases e
  ·exact hb
theorem ForAt.notL(F:ForFix prog w hB A t env I fp own hd src St h₀ ι₀ σ₀ h₁ ι₁ σ₁)(V:ForAt prog w hB env fl own St h₁ ι₁ σ₁ ρi H ι' σ' j):∀ b∈fp,¬ zcF ι' σ' b:=fun b hb=>by
 obtain ⟨o,ho,_⟩:=F.Z.there 0 h₁ F.st₀ b hb
 exact V.evo.weak.notLiveV F.len ho (F.Z.notLive b hb)
theorem ForAt.noDict(F:ForFix prog w hB A t env I fp own hd src St h₀ ι₀ σ₀ h₁ ι₁ σ₁)(V:ForAt prog w hB env fl own St h₁ ι₁ σ₁ ρi H ι' σ' j):∀ b∈fp,∀ o,H.get? b=some o→∀ es n,o.data≠.dict es n:=fun b hb o ho=>by
 obtain ⟨o',ho',hd⟩:=F.Z.there _ _ V.st b hb;rw [ho] at ho';cases ho';exact hd
theorem ForAt.item(F:ForFix prog w hB A t env I fp own hd src St h₀ ι₀ σ₀ h₁ ι₁ σ₁)(V:ForAt prog w hB env fl own St h₁ ι₁ σ₁ ρi H ι' σ' j)(hk:∀ b o,b∉own→H.get? b=some o→h'.get? b=some o)(st:St (j+1) h'):ForAt prog w hB env fl own St h₁ ι₁ σ₁ ρi h' ι' σ' (j+1):=by
 have ht:∀ b∈own,∃ o,h'.get? b=some o:=fun b hb=>by obtain ⟨o,ho,_⟩:=F.Z.there _ _ st b (F.Z.sub b hb);exact ⟨o,ho⟩
 have hfr:=F.Z.freshAt F.st₀ V.evo (F.Z.hdT _ _ st)
 exact ⟨V.inv.but hk ht F.own (F.Z.okAt V.evo V.st) (fun b hb=>V.notL F b (F.Z.sub b hb)) (fun b hb q=>(hfr b hb).2 q) (fun b hb=>V.noDict F b (F.Z.sub b hb)) (fun b hb q=>F.dyn b hb (F.Z.sub b q)),V.evo.trans F.len (Evo.but hk ht) fun b hb _ _=>List.mem_append_left _ hb,st⟩
theorem ForAt.bound(F:ForFix prog w hB A t env I fp own hd src St h₀ ι₀ σ₀ h₁ ι₁ σ₁)(V:ForAt prog w hB env fl own St h₁ ι₁ σ₁ ρi H ι' σ' j)(hk:∀ b o,b∉Mine.dyn env→H.get? b=some o→h'.get? b=some o)(I₃:Inv prog w hB env ρj fl h' ι' σ'):ForAt prog w hB env fl own St h₁ ι₁ σ₁ ρj h' ι' σ' j:=
 ⟨I₃,V.evo.trans F.len (Evo.but hk (zcq I₃.fr)) fun b hb _ _=>List.mem_append_right _ hb,F.Z.frame _ _ _ V.st fun b hb o e=>hk b o (fun q=>F.dyn b q hb) e⟩
theorem ForAt.step(F:ForFix prog w hB A t env I fp own hd src St h₀ ι₀ σ₀ h₁ ι₁ σ₁)(V:ForAt prog w hB env fl own St h₁ ι₁ σ₁ ρi H ι' σ' j)(X:Evo (Mine.dyn env) H ι' σ' h' ι'' σ'')(I₃:Inv prog w hB env ρj fl h' ι'' σ''):ForAt prog w hB env fl own St h₁ ι₁ σ₁ ρj h' ι'' σ'' j:=
 ⟨I₃,V.evo.trans F.len X fun b hb _ _=>List.mem_append_right _ hb,F.Z.frame _ _ _ V.st fun b hb o e=>(X.keep b o e (V.notL F b hb) fun q=>F.dyn b q hb).2 (V.noDict F b hb o e)⟩
end
inductive ForI (P:Loc→Heap→Ad→zaa→Nat→Prop) (k:List PV→Loc→M Fl) (xs:List PV) (r:Rs Fl) (s:Shared):Nat→Shared→Prop
 | mk (H:Heap) (tk:Nat) (ρ':Loc) (ι':Ad) (σ':zaa) (j:Nat):P ρ' H ι' σ' j→j≤xs.length→r=k (xs.drop j) ρ' σ'→ForI P k xs r s (xs.length+1-j) { s with heap:=H,toks:=tk }
theorem zoM{chk:M Unit}{t:Expr}{X:Loc→M Fl}{xs:List PV}(hc:chk σ=.ok () σ∨chk σ=.stuck)(hns:forL chk sc t X xs ρ σ≠.stuck):chk σ=.ok () σ:=by
 rcases hc with q | q
 ·exact q
 ·refine (hns ?_).elim
  cases xs <;> exact zae q
theorem zj2{X:Loc→M Fl}{L Ia:Addr}{t:Expr}{b:List Stmt}{fp own hd:List Addr}{src:Src}{St:Nat→Heap→Prop}{h₀:Heap}{ι₀:Ad}{σ₀:zaa}{R:Result→Shared→Prop}{Q:Flow→Shared→Prop}{E:Value→Shared→Prop}(F:ForFix prog w hB A t env Ia fp own hd src St h₀ ι₀ σ₀ s.heap ι σ)(B₀:hB.StaysIn h₀)(hh:A.handled=none)(H:EnvOk env sc)(hfr:A.frames=some (env::outer))(hf:env.frame=some L)
  (hR:∀ f s',Q f s'→R (.ok f) s') (hRe:∀ e s',cameBackBy (model prog w) A env E e s'→R (.error e) s')
  (hX:∀ ρ s ι σ,Inv prog w hB env ρ (env::outer) s.heap ι σ→SimX prog w hB A env (env::outer) (execs b env) (X ρ) s ι σ) (I:Inv prog w hB env ρ (env::outer) s.heap ι σ)
  (hns:forL (chkW src.watch) sc t X src.xs ρ σ≠.stuck)
  (hok:∀ a σ',forL (chkW src.watch) sc t X src.xs ρ σ=.ok a σ'→∀ x h' tk ι',Evo (dyn env) h₀ ι₀ σ₀ h' ι' σ'→FlR prog w hB env (env::outer) h' ι' σ' a x→Q x { s with heap:=h',toks:=tk })
  (herr:∀ C σ',forL (chkW src.watch) sc t X src.xs ρ σ=.err C σ'→∀ e h' tk ι',Evo (dyn env) h₀ ι₀ σ₀ h' ι' σ'→Inv prog w hB env zjF (env::outer) h' ι' σ'→Fly h₀ h' e C→E (.ref e) { s with heap:=h',toks:=tk }) :
  codeAny (model prog w) A (.forLoop t (.ref Ia) b [] env) R s:=by
 have hD:NoSeq (dyn env) s.heap:=I.fr.noSeq
 refine codeAny_forLoop_any (ForI (ForAt prog w hB env (env::outer) own St s.heap ι σ) (forL (chkW src.watch) sc t X) src.xs (forL (chkW src.watch) sc t X src.xs ρ σ) s) ?_ (src.xs.length+1)
  (.mk s.heap s.toks ρ ι σ 0 ⟨I,(Evo.refl _ _ _).wide (fun _ q=>nomatch q),F.st₀⟩ (Nat.zero_le _) rfl)
 intro k s' V
 cases V with
 | mk H' tk ρ' ι' σ' j V hj eq=>
  rw [eq] at hns hok herr
  have hchk:=zoM (zfK src.watch σ') hns
  cases hx:src.xs[j]? with
  | none=>
   have hje:src.xs.length≤j:=List.getElem?_eq_none_iff.mp hx
   rw [List.drop_eq_nil_of_le hje] at hok
   have hst:St src.xs.length H':=Nat.le_antisymm hj hje▸V.st
   refine F.Z.done (dyn env) { s with heap:=H',toks:=tk } ι' σ' hD V.evo V.inv.store hst hchk _ _ fun h₂ tk₂ hk hd₂=>?_
   have I₂:=V.inv.lost hk F.own (F.Z.okAt V.evo V.st) (F.Z.freshAt F.st₀ V.evo hd₂) (fun b hb=>V.noDict F b (F.Z.sub b hb)) (fun b hb q=>F.dyn b hb (F.Z.sub b q))
   exact wpAny_execs_nil (hR _ _ (hok (.next ρ') σ' (zab hchk) _ h₂ tk₂ ι' ((F.base V.evo).lost hk F.own₀) ⟨rfl,I₂⟩))
  | some v=>
   rw [zlR hx] at eq hns hok herr
   have e1:forL (chkW src.watch) sc t X (v::src.xs.drop (j+1)) ρ' σ'=((M.lift (zgC sc ρ' t v)).bind fun ρ₂=>(X ρ₂).bind (flK fun ρ''=>forL (chkW src.watch) sc t X (src.xs.drop (j+1)) ρ'')) σ':=zab hchk
   cases hb:zgC sc ρ' t v with
   | none=>exact (hns (e1.trans (by rw [hb];rfl))).elim
   | some ρ₂=>
    have e2:forL (chkW src.watch) sc t X (v::src.xs.drop (j+1)) ρ' σ'=(X ρ₂).bind (flK fun ρ''=>forL (chkW src.watch) sc t X (src.xs.drop (j+1)) ρ'') σ':=e1.trans (by rw [hb];rfl)
    rw [e2] at eq hns hok herr
    have hjl:j<src.xs.length:=(List.getElem?_eq_some_iff.mp hx).1
    refine F.Z.item (dyn env) j { s with heap:=H',toks:=tk } ι' σ' v hD V.evo V.inv.store V.st hchk hx _ _ _ (fun _ _ h=>h) fun y h₂ tk₂ r₂ st₂ hk₂=>?_
    have V₂:=V.item F hk₂ st₂
    refine zis (s:={ s with heap:=h₂,toks:=tk₂ }) hh (fun _ h=>h) (zgW H) hb V₂.inv r₂ _ _ fun h₃ tk₃ hk₃ I₃=>?_
    have V₃:=V₂.bound F hk₃ I₃
    refine hX ρ₂ { s with heap:=h₃,toks:=tk₃ } ι' σ' I₃ _ _ (fun q=>hns (zae q)) (fun f σ₂ e₂ z h₄ tk₄ ι₄ X₄ r₄=>?_) (fun C σ₂ e₂ e h₄ tk₄ ι₄ X₄ I₄ F₄=>?_)
    ·cases f with
     | next ρ''=>obtain ⟨rfl,I₄⟩:=r₄;exact ⟨_,Nat.sub_lt_sub_left (Nat.lt_succ_of_lt hjl) (Nat.lt_succ_self j),.mk h₄ tk₄ ρ'' ι₄ σ₂ (j+1) (V₃.step F X₄ I₄) hjl (eq.trans (zab e₂))⟩
     | ret u=>
      obtain ⟨z,rfl,r₄,I₄⟩:=r₄
      exact hR _ _ (hok (.ret u) σ₂ (zab e₂) _ h₄ tk₄ ι₄ (F.base (V₃.step F X₄ I₄).evo) ⟨z,rfl,r₄,I₄⟩)
    ·have V₄:=V₃.step F X₄ I₄
     have cb:=zhC (s:={ s with heap:=h₄,toks:=tk₄ }) hfr hf I₄ (F.base V₄.evo) (F₄.older (F.base V₃.evo).alive) B₀ fun h' X₅ I₅ F₅=>herr C σ₂ (zam e₂) e h' tk₄ ι₄ X₅ I₅ F₅
     exact wpAny_mono cb (fun _ _ h=>hRe _ _ h) fun _ _ h=>hRe _ _ h
theorem zod{cx:Cx}{E:Expr→M PV}{t it:Expr}(hE:∀ a b c,E (.Set a b c)=M.fail)(hns:zcD cx sc ρ E t it σ≠.stuck)(v:Value):foldedSetIterable it env v=Pure.pure v:=by
 cases it with
 | Set a b c=>exact (hns (zae (by rw [hE];rfl))).elim
 | _=>rfl
theorem zqf{cx:Cx}{E:Expr→M PV}{X:Loc→M Fl}{L:Addr}{p:Pos}{t it:Expr}{b:List Stmt}(hG:GlobOk hB K cx.G)(hh:A.handled=none)(H:EnvOk env sc)(hfr:A.frames=some (env::outer))(hf:env.frame=some L)
  (IHe:EvIH prog w hB A env ρ (env::outer) E) (hst:∀ e p,E (.Starred e p)=M.fail) (hE:∀ a b c,E (.Set a b c)=M.fail)
  (hX:∀ ρ s ι σ,Inv prog w hB env ρ (env::outer) s.heap ι σ→SimX prog w hB A env (env::outer) (execs b env) (X ρ) s ι σ)
  (I:Inv prog w hB env ρ (env::outer) s.heap ι σ) :
  SimX prog w hB A env (env::outer) (exec (.For t it b [] p) env) ((zcD cx sc ρ E t it).bind fun src=>forL (chkW src.watch) sc t X src.xs ρ) s ι σ:=by
 intro Q Er hns hok herr
 refine wpAny_For (znk hG hh H IHe hst I _ _ (fun q=>hns (zae q)) (fun src σ₁ e₁ itv h₁ tk₁ ι₁ X₁ Md=>?_) (fun C σ' e e' h' tk ι' X F=>herr C σ' (zam e) e' h' tk ι' (X.evo.wide fun _ q=>nomatch q) (I.step X).noRho' F)) (zod hE fun q=>hns (zae q))
 obtain ⟨Ia,fp,own,hd,St,rfl,Z,st₀,hown₀,hdyn⟩:=Md
 rw [zab e₁] at hns hok herr
 have I₁:=I.step X₁
 exact zj2 (s:={ s with heap:=h₁,toks:=tk₁ }) ⟨I.store.len,X₁.evo,I₁.store.len,Z,st₀,hown₀,fun b hb=>zbf I.stays (hown₀ b hb),hdyn⟩ I.stays hh H hfr hf (fun _ _ h=>h) (fun _ _ h=>h) hX I₁ hns hok herr
end
noncomputable def zmh(_:Heap)(_:Frag)(_:Gl):Prop:=True
section
variable {prog:Program} {w:World} {hB:Heap} {A:Around} {s:Shared} {ι:Ad} {σ:zaa} {env:Env} {ρ:Loc} {fl outer:List Env} {sc:Scope} {K:Frag} {h h':Heap}
theorem SimX.lift{γ:Type}{t:Sem Flow}{o:Option γ}{f:γ→M Fl}(k:∀ a,o=some a→SimX prog w hB A env fl t (f a) s ι σ):SimX prog w hB A env fl t ((M.lift o).bind f) s ι σ:=by
 cases o with
 | none=>exact SimX.fail
 | some a=>exact k a rfl
theorem zpv{cx:Cx}{d:Nat}{L:Addr}(hG:GlobOk hB K cx.G)(hX:zmh hB K cx.G)(hc:zir prog w hB d cx.call)(H:EnvOk env sc)(hf:env.frame=some L):∀(n:Nat)(md:Md)(A:Around),Ar md d (env::outer) A→
  ExIH prog w hB A env (env::outer) (ex { cx with md:=md } n sc):=by
 intro n
 induction n with
 | zero=>intro md A hA st ρ s ι σ I;exact SimX.fail
 | succ n ih=>
  intro md A hA st ρ s ι σ I
  have IH:=ih md A hA
  have EV:∀ ρ k,EvIH prog w hB A env ρ (env::outer) (ev { cx with md:=md } k sc ρ):=fun ρ k=>zix hG hc k md hA env sc H ρ
  have hu:=hA.units600
  cases st with
  | Return v p=>
   cases v with
   | none=>exact SimX.fail
   | some e=>exact zmi (EV ρ n) I
  | Assign ts e p=>
   cases ts with
   | nil=>exact SimX.fail
   | cons t r=>
    refine SimX.cond (fun q=>?_) fun _=>SimX.fail
    rw [Bool.and_eq_true] at q
    obtain ⟨hr,q⟩:=q
    cases r with
    | cons _ _=>cases hr
    | nil=>
    cases t with
    | Name y py=>exact zgH hG hc hA H I
    | Tuple ts k tp=>
     have q:=Bool.and_eq_true_iff.mp q
     exact zfQ (hA.quiet (.inr q.1)) H (fun h=>by have:=q.2;rw [h] at this;cases this) (EV ρ n) I
    | Subscript o i tp=>exact zhz (EV ρ n) I
    | _=>cases q
  | If t a b p=>exact x_if hu (fun k _=>EV ρ k) IH I
  | For t it b orelse p=>
   refine SimX.cond (fun q=>?_) fun _=>SimX.fail
   rw [Bool.and_eq_true,Bool.and_eq_true] at q
   obtain ⟨ho,hlp,hnm⟩:=q
   cases orelse with
   | cons _ _=>cases ho
   | nil=>exact zqf (cx:={ cx with md:=md }) hG (hA.quiet (.inr hlp)) H hA.frames hf (EV ρ n) za0 (fun a b c=>by cases n <;> rfl) (fun ρ s ι σ I=>zj1 IH b ρ s ι σ I) I
  | Expr e p=>
   show SimX prog w hB A env (env::outer) _ (M.cond (ziK e) M.fail ((ev { cx with md:=md } n sc ρ e).bind fun _=>M.ret (.next ρ))) s ι σ
   refine SimX.cond (fun _=>SimX.fail) fun q=>?_
   exact zpj H q (fun _ _ _ _=>by cases n <;> rfl) (fun _ _ _ _ _=>by cases n <;> rfl) (EV ρ n) I
  | Pass p=>exact fun Q E _ hok _=>wpAny_Pass (hok (.next ρ) σ rfl _ s.heap s.toks ι ((Evo.refl _ _ _).wide (fun _ q=>nomatch q)) ⟨rfl,I⟩)
  | _=>exact SimX.fail
end
theorem zb3:∀{names:List (Str×NameKind)}{n:Nat}{acc:List (Str×Addr)}{p:Str×Addr},p∈acc→p∈cellsFrom n names acc
 | [],_,_,_,h=>h
 | (x,k)::r,n,acc,p,h=>by
  unfold cellsFrom
  split
  ·exact zb3 (.tail _ h)
  ·exact zb3 h
theorem za9{x:Str}:∀{names:List (Str×NameKind)}{n:Nat}{acc:List (Str×Addr)},(x,NameKind.cell)∈names→∃ c,(x,c)∈cellsFrom n names acc
 | (y,k)::r,n,acc,h=>by
  unfold cellsFrom
  rcases List.mem_cons.mp h with q | h
  ·cases q
   simp only [beq_self_eq_true,if_true]
   exact ⟨n,zb3 (.head _)⟩
  ·split
   ·exact za9 h
   ·exact za9 h
theorem za8:∀{names:List (Str×NameKind)}{n:Nat}{acc:List (Str×Addr)},(names.map (·.1)).Nodup→(acc.map (·.1)).Nodup→(∀ x∈names,x.1∉acc.map (·.1))→((cellsFrom n names acc).map (·.1)).Nodup
 | [],_,_,_,h,_=>h
 | (x,k)::r,n,acc,hl,ha,hd=>by
  rw [List.map_cons,List.nodup_cons] at hl
  unfold cellsFrom
  split
  ·refine za8 hl.2 ?_ fun y hy=>?_
   ·rw [List.map_cons,List.nodup_cons];exact ⟨hd (x,k) (.head _),ha⟩
   ·rw [List.map_cons,List.mem_cons]
    rintro (q | q)
    ·exact hl.1 (q▸List.mem_map_of_mem (f:=Prod.fst) hy)
    ·exact hd y (.tail _ hy) q
  ·exact za8 hl.2 ha fun y hy=>hd y (.tail _ hy)
theorem zeX{kd:Str→Option NameKind}{x:Str}:∀{ps:List Str}{xs:List Value}{m:Str→Option Value},x∉ps→bindL kd (ps.zip xs) m x=m x
 | [],_,_,_=>rfl
 | _::_,[],_,_=>rfl
 | p::ps,y::xs,m,h=>by
  show bindL kd (ps.zip xs) _ x=_
  rw [zeX fun q=>h (.tail _ q)]
  split
  ·have:x≠p:=fun q=>h (q▸.head _)
   simp only [this,if_false]
  ·rfl
theorem zeY{kd:Str→Option NameKind}{x:Str}:∀{ps:List Str}{xs:List Value}{m:Str→Option Value},x∉ps→bindC kd (ps.zip xs) m x=m x
 | [],_,_,_=>rfl
 | _::_,[],_,_=>rfl
 | p::ps,y::xs,m,h=>by
  show bindC kd (ps.zip xs) _ x=_
  rw [zeY fun q=>h (.tail _ q)]
  split
  ·rfl
  ·have:x≠p:=fun q=>h (q▸.head _)
   simp only [this,if_false]
section
variable {prog:Program} {w:World} {hB:Heap} {A:Around} {s:Shared} {ι:Ad} {σ:zaa} {env:Env} {ρ:Loc} {fl outer:List Env} {sc:Scope} {K:Frag} {h h':Heap}
theorem zhw{kd:Str→Option NameKind}{x:Str}{v:PV}(hk:kd x=some .local):∀{ps:List Str}{vs:List PV}{xs:List Value}{m:Str→Option Value},ps.Nodup→RepL h ι σ vs xs→(ps.zip vs).lookup x=some v→∃ y,bindL kd (ps.zip xs) m x=some y∧Rep h ι σ v y
 | [],_,_,_,_,_,e=>by simp at e
 | _::_,_,_,_,_,.nil,e=>by simp at e
 | p::ps,_,_,m,hn,.cons (v:=y) (xs:=vs) (vs:=xs) r rs,e=>by
  rw [List.nodup_cons] at hn
  rw [List.zip_cons_cons,List.lookup_cons] at e
  cases q:x==p with
  | true=>
   rw [q] at e
   cases e
   have:=eq_of_beq q;subst this
   refine ⟨y,?_,r⟩
   show bindL kd (ps.zip xs) _ x=_
   rw [zeX hn.1,if_pos hk];simp
  | false=>
   rw [q] at e
   show ∃ z,bindL kd (ps.zip xs) _ x=some z∧_
   exact zhw (ps:=ps) (xs:=xs) hk hn.2 rs e
theorem zhx{kd:Str→Option NameKind}{x:Str}{v:PV}(hk:kd x=some .cell):∀{ps:List Str}{vs:List PV}{xs:List Value}{m:Str→Option Value},ps.Nodup→RepL h ι σ vs xs→(ps.zip vs).lookup x=some v→∃ y,bindC kd (ps.zip xs) m x=some y∧Rep h ι σ v y
 | [],_,_,_,_,_,e=>by simp at e
 | _::_,_,_,_,_,.nil,e=>by simp at e
 | p::ps,_,_,m,hn,.cons (v:=y) (xs:=vs) (vs:=xs) r rs,e=>by
  rw [List.nodup_cons] at hn
  rw [List.zip_cons_cons,List.lookup_cons] at e
  cases q:x==p with
  | true=>
   rw [q] at e
   cases e
   have:=eq_of_beq q;subst this
   refine ⟨y,?_,r⟩
   show bindC kd (ps.zip xs) _ x=_
   rw [zeY hn.1,if_neg (by rw [hk];decide)];simp
  | false=>
   rw [q] at e
   show ∃ z,bindC kd (ps.zip xs) _ x=some z∧_
   exact zhx (ps:=ps) (xs:=xs) hk hn.2 rs e
theorem zcL{x:Str}{v:PV}:∀{ps:List Str}{vs:List PV},(ps.zip vs).lookup x=some v→x∈ps
 | [],_,e=>by simp at e
 | _::_,[],e=>by simp at e
 | p::ps,_::vs,e=>by
  rw [List.zip_cons_cons,List.lookup_cons] at e
  cases q:x==p with
  | true=>rw [eq_of_beq q];exact .head _
  | false=>rw [q] at e;exact .tail _ (zcL e)
theorem zjV{a:Addr}{f:FnD}{fd:FuncData}{vs:List PV}{xs:List Value}{s₁:Shared}(O:FnOk hB a f)(hs:fd.scope=f.scope)(S:StoreOk prog w hB s.heap ι σ)(B:hB.StaysIn s.heap)(T:Stk hB fl s.heap ι σ)(r:RepL s.heap ι σ vs xs)
  (x:InCallC s (callEnvC fd s.heap.objs.size a).locals (bindL (callEnvC fd s.heap.objs.size a).kindOf (f.params.zip xs) fun _=>none) (callEnvC fd s.heap.objs.size a).cells
    (bindC (callEnvC fd s.heap.objs.size a).kindOf (f.params.zip xs) fun _=>none) s₁) :
  Inv prog w hB (callEnvC fd s.heap.objs.size a) (params f.params vs) (callEnvC fd s.heap.objs.size a::fl) s₁.heap ι σ:=by
 have hk:=x.toInCall.keep
 have X:Step prog w hB s.heap ι σ s₁.heap ι σ:=Step.keeps S B hk
 have r₁:=r.step S.len X
 have kind:∀ y,(callEnvC fd s.heap.objs.size a).kindOf y=f.scope.names.lookup y:=fun y=>by rw [← hs];rfl
 have hcs:(callEnvC fd s.heap.objs.size a).cells=cellsFrom (s.heap.objs.size+1) f.scope.names []:=by rw [← hs];rfl
 have hnd:((callEnvC fd s.heap.objs.size a).cells.map (·.1)).Nodup:=by rw [hcs];exact za8 O.nodupN .nil fun _ _=>List.not_mem_nil
 have new:∀ b,s.heap.objs.size≤b→s.heap.get? b=none:=fun b hb=>by
  cases q:s.heap.get? b with
  | none=>rfl
  | some o=>exact absurd (Heap.lt_size q) (Nat.not_lt.mpr hb)
 have newD:∀ b∈dyn (callEnvC fd s.heap.objs.size a),s.heap.get? b=none:=fun b hb=>by
  rcases List.mem_cons.mp hb with rfl | hb
  ·exact new _ (Nat.le_refl _)
  ·obtain ⟨c,hc,rfl⟩:=List.mem_map.mp hb
   exact new _ (Nat.le_of_lt (x.above c.1 c.2 hc))
 have offD:∀ b∈dyn (callEnvC fd s.heap.objs.size a),b∉ι.vis∧b∉ι.hid:=fun b hb=>by
  refine ⟨fun q=>?_,fun q=>?_⟩
  ·obtain ⟨o,ho⟩:=S.there b q;rw [newD b hb] at ho;cases ho
  ·obtain ⟨o,ho,_⟩:=S.hthere b q;rw [newD b hb] at ho;cases ho
 have zdZ:∀ y c,(y,c)∈(callEnvC fd s.heap.objs.size a).cells→∃ z,s₁.heap.IsCell c z:=fun y c hc=>⟨_,x.cell y c (zaQ hnd hc)⟩
 have lt:Inv prog w hB (callEnvC fd s.heap.objs.size a) (params f.params vs) fl s₁.heap ι σ:=by
  refine ⟨X.stays,X.store,⟨⟨_,x.toInCall.ns,fun y v e k=>?_⟩,fun y v e k=>?_,fun y v e=>?_,fun y k=>?_,x.apart,fun b hb=>⟨?_,zbf B (newD b hb)⟩,fun b hb=>?_,offD⟩,T.step S.len X.evo⟩
  ·exact zhw k O.nodup r₁ e
  ·obtain ⟨z,hz,rz⟩:=zhx (m:=fun _=>none) k O.nodup r₁ e
   have hm:(y,NameKind.cell)∈f.scope.names:=mem_of_lookup (by rw [← kind];exact k)
   obtain ⟨c,hc⟩:=za9 (n:=s.heap.objs.size+1) (acc:=[]) hm
   rw [← hcs] at hc
   have hl:=zaQ hnd hc
   exact ⟨c,z,hl,by rw [← hz];exact x.cell y c hl,rz⟩
  ·rw [kind];exact O.pars y (zcL e)
  ·have hm:(y,NameKind.cell)∈f.scope.names:=mem_of_lookup (by rw [← kind];exact k)
   obtain ⟨c,hc⟩:=za9 (n:=s.heap.objs.size+1) (acc:=[]) hm
   rw [← hcs] at hc
   have hl:=zaQ hnd hc
   exact ⟨c,_,hl,x.cell y c hl⟩
  ·rintro (⟨i,c,hi,_⟩ | q)
   ·exact (offD b hb).1 (List.mem_of_getElem? hi)
   ·exact (offD b hb).2 q
  ·obtain ⟨c,hc,rfl⟩:=List.mem_map.mp hb
   exact zdZ c.1 c.2 hc
 obtain ⟨o,es,ep,ho,hd,_⟩:=x.toInCall.ns
 have hL:(callEnvC fd s.heap.objs.size a).frame=some (callEnvC fd s.heap.objs.size a).locals:=rfl
 refine ⟨lt.stays,lt.store,lt.fr,⟨⟨?_,⟨_,o,hL,zbf B (newD _ (.head _)),ho,fun us q=>by rw [hd] at q;cases q⟩,lt.stk.fun_⟩,fun b hb=>?_,fun b hb=>?_⟩⟩
 ·show fd.scope.kind≠.module
  rw [hs,O.kind];decide
 ·rw [List.filterMap_cons,hL] at hb
  rcases List.mem_cons.mp hb with rfl | hb
  ·exact (lt.fr.own _ (.head _)).1
  ·exact lt.stk.notLive b hb
 ·rw [List.filterMap_cons,hL] at hb
  rcases List.mem_cons.mp hb with rfl | hb
  ·exact ⟨o,es,ep,ho,hd⟩
  ·exact lt.stk.dicts b hb
theorem ziy{G:Gl}(hG:GlobOk hB K G)(hX:zmh hB K G):∀ d,zir prog w hB d (zaf G d)
 | 0=>fun _ _ _ _ _ _ _ _ _ _ _ _ _ _=>Sim.fail
 | d+1=>by
  intro md A fl a vs xs s ι σ hA S B T r
  have IH:=ziy hG hX d
  cases hf:G.fns.lookup a with
  | none=>simp only [zaf,hf];exact Sim.fail
  | some f=>
   simp only [zaf,hf]
   refine Sim.cond (fun hlen=>?_) fun _=>Sim.fail
   have hlen:f.params.length=vs.length:=of_decide_eq_true hlen
   intro Q E hns hok herr
   have O:=hG.fns a f hf
   obtain ⟨o,fd,ho,hd,hbody,hs,hclo,hgl,hbi,hcr,hba⟩:=O.fd
   have hxl:f.params.length=xs.length:=hlen.trans r.length
   have hfr:(A.deeper (callEnvC fd s.heap.objs.size a)).frames=some (callEnvC fd s.heap.objs.size a::fl):=by simp [Around.deeper,hA.frames]
   have hA':Ar md d (callEnvC fd s.heap.objs.size a::fl) (A.deeper (callEnvC fd s.heap.objs.size a)):=
    ⟨hfr,by have:=hA.depth;show A.depth+1+d<_;omega,by have:=hA.units;show A.units+3+8*d+2000<_;omega,hA.quiet⟩
   have H:EnvOk (callEnvC fd s.heap.objs.size a) f.scope:=⟨by show fd.scope.kind=_;rw [hs];exact O.kind,hgl,hbi,fun y hy=>by show fd.scope.names.lookup y=_;rw [hs];exact hy,
    fun y hy=>by show fd.scope.names.lookup y=_;rw [hs];exact hy,fun y hy=>by show fd.scope.names.lookup y=_;rw [hs];exact hy,by show fd.scope.names.lookup _=_;rw [hs];exact O.nodebug⟩
   refine wpAny_call (codeAny_call_cells (binds:=f.params.zip xs) (by have:=hA.depth;omega) (B _ _ ho) hd (hG.nolimit.keeps B) (hcr.keeps B) hbody (hba xs hxl) hclo (fun y hy=>?_) (fun s₁ x=>?_) (by rw [hs];exact O.cor) (by rw [hs];exact O.gen) (by rw [hs];exact O.kind))
   ·have hm:y.1∈f.params:=(List.of_mem_zip (a:=y.1) (b:=y.2) hy).1
    rw [hs]
    rcases O.pars y.1 hm with q | q
    ·exact .inl q
    ·refine .inr ⟨q,?_⟩
     obtain ⟨c,hc⟩:=za9 (n:=s.heap.objs.size+1) (acc:=[]) (mem_of_lookup q)
     rw [zaQ (za8 (acc:=[]) O.nodupN .nil fun _ _=>List.not_mem_nil) hc];rfl
   ·have I:=zjV O hs S B T r x
    obtain ⟨h₁,tk₁,rfl⟩:=x.toInCall.same
    have hk:=x.toInCall.keep
    have newD:∀ b∈dyn (callEnvC fd s.heap.objs.size a),s.heap.get? b=none:=fun b hb=>by
     have new:∀ b,s.heap.objs.size≤b→s.heap.get? b=none:=fun b hb=>by
      cases q:s.heap.get? b with
      | none=>rfl
      | some o=>exact absurd (Heap.lt_size q) (Nat.not_lt.mpr hb)
     rcases List.mem_cons.mp hb with rfl | hb
     ·exact new _ (Nat.le_refl _)
     ·obtain ⟨c,hc,rfl⟩:=List.mem_map.mp hb
      exact new _ (Nat.le_of_lt (x.above c.1 c.2 hc))
    have X₁:Step prog w hB s.heap ι σ h₁ ι σ:=Step.keeps S B hk
    have base:∀ {h₂ ι₂ σ₂},Evo (dyn (callEnvC fd s.heap.objs.size a)) h₁ ι σ h₂ ι₂ σ₂→Evo [] s.heap ι σ h₂ ι₂ σ₂:=fun X=>X₁.evo.trans S.len X fun b hb o e=>by rw [newD b hb] at e;cases e
    have EX:=zj1 (zpv (cx:={ G:=G,call:=zaf G d,md:=md }) hG hX IH H rfl nest md _ hA') f.body (params f.params vs) { s with heap:=h₁,toks:=tk₁ } ι σ I
    refine EX _ _ (fun q=>hns (by simp only [M.bind,q])) (fun fl' σ₂ e₂ z h₂ tk₂ ι₂ X₂ r₂=>?_) (fun C σ₂ e₂ e h₂ tk₂ ι₂ X₂ I₂ F₂=>?_)
    ·cases fl' with
     | next ρ'=>
      obtain ⟨rfl,I₂⟩:=r₂
      exact hok .none σ₂ (by simp only [M.bind,e₂,M.ret]) _ h₂ tk₂ ι₂ ⟨base X₂,I₂.store,I₂.stays⟩ .none
     | ret v=>
      obtain ⟨y,rfl,ry,I₂⟩:=r₂
      exact hok v σ₂ (by simp only [M.bind,e₂,M.ret]) _ h₂ tk₂ ι₂ ⟨base X₂,I₂.store,I₂.stays⟩ ry
    ·have F:=F₂.older X₁.evo.alive
     refine zi5 (s:={ s with heap:=h₂,toks:=tk₂ }) hfr I₂.stk rfl F (base X₂).alive fun h₃ Y F₃=>?_
     have I₃:=I₂.soft Y (zit B)
     exact herr C σ₂ (by simp only [M.bind,e₂]) e h₃ tk₂ ι₂ ⟨(base X₂).soft Y I₂.stk.dicts,I₃.store,I₃.stays⟩ F₃
end
theorem zb8{α:Type}{n:Str}:∀{ps:List Str}{vs:List α},ps.length=vs.length→n∈ps→∃ v,(ps.zip vs).lookup n=some v
 | p::ps,v::vs,hl,hm=>by
  rw [List.zip_cons_cons,List.lookup_cons]
  cases q:n==p with
  | true=>exact ⟨v,rfl⟩
  | false=>
   rcases List.mem_cons.mp hm with rfl | hm
   ·simp at q
   ·exact zb8 (by simpa using hl) hm
theorem ziO{α β:Type}{f g:α→Option β}:∀{l:List α},(∀ x∈l,f x=g x)→l.filterMap f=l.filterMap g
 | [],_=>rfl
 | x::r,h=>by
  rw [List.filterMap_cons,List.filterMap_cons,h x (.head _),ziO fun y hy=>h y (.tail _ hy)]
theorem zdm{α:Type}:∀{ps:List Str}{vs:List α},ps.Nodup→ps.length=vs.length→ps.filterMap (fun n=>((ps.zip vs).lookup n).map (n,·))=ps.zip vs
 | [],[],_,_=>rfl
 | p::ps,v::vs,hn,hl=>by
  rw [List.nodup_cons] at hn
  rw [List.filterMap_cons,List.zip_cons_cons]
  simp only [List.lookup_cons,beq_self_eq_true,Option.map_some]
  congr 1
  refine Eq.trans (ziO fun n hm=>?_) (zdm hn.2 (by simpa using hl))
  have:(n==p)=false:=by
   cases q:n==p with
   | false=>rfl
   | true=>exact (hn.1 (eq_of_beq q▸hm)).elim
  rw [this]
theorem zjW{fd:FuncData}{ps:List Arg}(hp:fd.params=⟨[],ps,none,[],[],none,[]⟩)(hdf:fd.defaults=.none) (hn:(ps.map (·.arg)).Nodup) (vals:List Value) (hl:(ps.map (·.arg)).length=vals.length) :
  bindArgs fd ⟨vals,[]⟩=pure ((ps.map (·.arg)).zip vals):=by
 have hsq:(seqItems? .none:Sem _)=pure none:=rfl
 have hmiss:((ps.map (·.arg)).filter fun n=>(((ps.map (·.arg)).zip vals).lookup n).isNone)=[]:=by
  rw [List.filter_eq_nil_iff]
  intro n hm
  obtain ⟨v,hv⟩:=zb8 hl hm
  rw [hv];simp
 unfold bindArgs
 simp only [hp,hdf,hsq,List.map_nil,List.nil_append,List.append_nil,List.forIn_nil,pure_bind,Option.getD_none,List.drop_nil,List.length_nil,Nat.sub_zero,Nat.zero_sub]
 rw [← hl,List.take_length,List.drop_length]
 have hz:=zdm hn hl
 rw [List.filterMap_map] at hz
 simp [hmiss,hz]
noncomputable def fnOf(d:DefRec):FnD:=⟨d.params.args.map (·.arg),d.scope,d.body⟩
noncomputable def zkY(p:Arguments):Bool:=p.posonlyargs.isEmpty&&p.vararg.isNone&&p.kwonlyargs.isEmpty&&p.kw_defaults.isEmpty&&p.kwarg.isNone&&p.defaults.isEmpty
theorem zkX{p:Arguments}(h:zkY p=true):p=⟨[],p.args,none,[],[],none,[]⟩:=by
 obtain ⟨a,b,c,d,e,f,g⟩:=p
 simp only [zkY,Bool.and_eq_true,List.isEmpty_iff,Option.isNone_iff_eq_none] at h
 obtain ⟨⟨⟨⟨⟨rfl,rfl⟩,rfl⟩,rfl⟩,rfl⟩,rfl⟩:=h
 rfl
noncomputable def zoP(d:DefRec):Bool:=zkY d.params&&!d.scope.isGenerator&&!d.scope.isCoroutine&&decide (d.scope.kind=.function)&&decide (d.scope.names.lookup ("__debug__":Str)=none)&&decide ((d.params.args.map (·.arg)).Nodup) &&
 decide ((d.scope.names.map (·.1)).Nodup)&&(d.params.args.map (·.arg)).all fun x=>decide (d.scope.names.lookup x=some .local) || decide (d.scope.names.lookup x=some .cell)
theorem zoO{p:Program}{loose:List Str}{mean:ExcName→Option Value}{mg mb:Str→Option Value}{h:Heap}(T:Top p loose mean mg mb h){d:DefRec}(hd:d∈recsOf p)(hc:zoP d=true){a:Addr}(ha:mg d.name=some (.ref a)):FnOk h a (fnOf d):=by
 simp only [zoP,Bool.and_eq_true,Bool.not_eq_true',decide_eq_true_eq,List.all_eq_true,Bool.or_eq_true] at hc
 obtain ⟨⟨⟨⟨⟨⟨⟨hp,hg⟩,hco⟩,hk⟩,hdb⟩,hn⟩,hnn⟩,hpar⟩:=hc
 obtain ⟨a',o,pm,code,doc,hm,ho,hdt,hcr⟩:=T.fn d hd
 rw [ha] at hm;cases hm
 exact ⟨⟨o,_,ho,hdt,rfl,rfl,rfl,rfl,rfl,hcr,fun vals hl=>zjW (zkX hp) rfl hn vals hl⟩,hg,hco,hk,hdb,hn,hnn,fun x hx=>hpar x hx⟩
noncomputable def zkd(K:Frag)(a:Addr):Option (List Value):=match K.lookup a with
 | some o=>match o.data with
  | .seq vs _=>if (o.cls==.type "tuple"&&o.dict.isNone&&o.slots.size==0)=true then some vs.toList else none
  | _=>none
 | none=>none
theorem zmn{K:Frag}{a:Addr}{vs:List Value}(h:zkd K a=some vs):∃ ar n,K.lookup a=some { cls:=.type "tuple",data:=.seq ar n }∧ar.toList=vs:=by
 unfold zkd at h
 split at h
 ·rename_i o ho
  split at h
  ·rename_i ar n hd
   split at h
   ·rename_i q
    simp only [Bool.and_eq_true,beq_iff_eq,Option.isNone_iff_eq_none] at q
    obtain ⟨⟨q1,q2⟩,q3⟩:=q
    cases h
    obtain ⟨c,d,dt,sl⟩:=o
    dsimp only at q1 q2 q3 hd
    subst q1 q2 hd
    have:sl=#[]:=Array.eq_empty_of_size_eq_zero q3
    subst this
    exact ⟨ar,n,ho,rfl⟩
   ·cases h
  ·cases h
 ·cases h
noncomputable def zpX(i:Int):Value→Bool
 | .int j _=>i==j
 | _=>false
noncomputable def zpW(x:Str):Value→Bool
 | .str y _=>x==y
 | _=>false
noncomputable def zib(x:PV)(v:Value):Bool:=match x with
 | .int i=>zpX i v
 | .str s=>zpW s v
 | _=>false
noncomputable def zei:List PV→List Value→Bool
 | [],vs=>vs.isEmpty
 | x::xs,vs=>match vs with
  | []=>false
  | v::vs=>zib x v&&zei xs vs
noncomputable def refV:Value→Option Addr
 | .ref a=>some a
 | _=>none
noncomputable def zpr(K:Frag)(xs:List PV)(v:Value):Bool:=match (refV v).bind (zkd K) with
 | some vs=>zei xs vs
 | none=>false
noncomputable def znt(K:Frag)(x:PV)(v:Value):Bool:=match x with
 | .tup xs=>zpr K xs v
 | x=>zib x v
theorem zez{a:Addr}:¬ Live Ad.nil [] a:=by
 rintro (⟨i,c,hi,_⟩ | q)
 ·simp [Ad.nil] at hi
 ·exact nomatch q
theorem zfD{h:Heap}{x:PV}{v:Value}(e:zib x v=true):Rep h Ad.nil [] x v:=by
 cases x with
 | int i=>cases v with
  | int j t=>rw [show i=j from eq_of_beq e];exact .int _ _
  | _=>cases e
 | str s=>cases v with
  | str u t=>rw [show s=u from eq_of_beq e];exact .str _ _
  | _=>cases e
 | _=>cases e
theorem zeK{h:Heap}:∀(xs:List PV)(vs:List Value),zei xs vs=true→RepL h Ad.nil [] xs vs
 | [],vs,e=>by
  cases vs with
  | nil=>exact .nil
  | cons _ _=>cases e
 | x::xs,vs,e=>by
  cases vs with
  | nil=>cases e
  | cons v vs=>exact .cons (zfD (Bool.and_eq_true_iff.mp e).1) (zeK xs vs (Bool.and_eq_true_iff.mp e).2)
theorem zof{v:Value}{a:Addr}(h:refV v=some a):v=.ref a:=by
 cases v with
 | ref b=>cases h;rfl
 | _=>cases h
theorem zkP{K:Frag}{h:Heap}(X:K.In h){x:PV}{v:Value}(e:znt K x v=true):Rep h Ad.nil [] x v:=by
 cases x with
 | tup xs=>
  have e:(match (refV v).bind (zkd K) with | some vs=>zei xs vs | none=>false)=true:=e
  cases q:(refV v).bind (zkd K) with
  | none=>rw [q] at e;cases e
  | some vs=>
   rw [q] at e
   obtain ⟨a,h1,h2⟩:=Option.bind_eq_some_iff.mp q
   obtain ⟨ar,n,hk,rfl⟩:=zmn h2
   rw [zof h1]
   exact .tup (X _ _ hk) zez (zeK xs ar.toList e)
 | _=>exact zfD e
noncomputable def zjG(K:Frag)(fns:List (Addr×FnD))(q:Str×GV):Bool:=match q.2 with
 | .fn a=>(nsIn K mainGlobals q.1==some (some (.ref a)))&&(fns.lookup a).isSome
 | .cls C=>(nsIn K mainGlobals q.1==some (some (.ref C)))&&excIn K C [.type "ValueError",.type "Exception",.type "BaseException",.type "object"] "ValueError.__new__"
 | .val v=>match nsIn K mainGlobals q.1 with
  | some (some y)=>znt K v y
  | _=>false
noncomputable def zpb(K:Frag)(names:List (Str×GV))(q:Str×Value):Bool:=(names.lookup q.1).isSome || ((nsIn K mainGlobals q.1==some none)&&(bootBuiltins q.1==some q.2)&&decide (q.1≠"__name__"))
noncomputable def znJ(K:Frag)(D:Addr):Bool:=(findIn K (.ref D) "__getattribute__"==some (some (.builtin "BaseException.__getattribute__")))&&(findIn K (.ref D) "__getattr__"==some none)&&(mroIn K D (.type "BaseException")==some true)&&hasDictIn K D&&(findIn K (.ref D) "__class__"==some (some (.builtin "object.__class__"))) &&
 (specialIn K (.builtin "object.__class__") "__get__"==some (some (.builtin "getset_descriptor.__get__")))&&(takesIn K (.builtin "object.__class__")==some true)&&(mroIn K D (.type "object")==some true)
noncomputable def znn(K:Frag)(G:Gl):Bool:=(G.clss.all fun C=>(G.clss.all fun D=>kitOne K (.ref C) (.ref D)==some (G.sub.contains (C,D)))&&(kitOne K (.ref C) (.type "ValueError")==some true)) &&
 G.sub.all fun q=>exmOne K (.ref q.1) (.ref q.2)==some true
noncomputable def znu(K:Frag)(AL:List Addr)(rs:List DefRec):Bool:=(AL.zip rs).all fun q=>zoP q.2&&(nsIn K mainGlobals q.2.name==some (some (.ref q.1)))
noncomputable def zoN(AL:List Addr)(rs:List DefRec):List (Addr×FnD):=(AL.zip rs).map fun q=>(q.1,fnOf q.2)
section
variable {p:Program} {loose:List Str} {mean:ExcName→Option Value} {mg mb:Str→Option Value} {h:Heap} {K:Frag} {G:Gl} {AL:List Addr}
theorem zfv{β:Type}{f:Str×β→Bool}{l:List (Str×β)}(h:l.all f=true){x:Str}{b:β}(e:l.lookup x=some b):f (x,b)=true:=List.all_eq_true.mp h _ (mem_of_lookup e)
theorem zcK{β:Type}:∀{l:List (Addr×β)}{n:Addr}{c:β},l.lookup n=some c→(n,c)∈l
 | (k,v)::r,n,c,h=>by
  rw [List.lookup_cons] at h
  cases hb:n==k with
  | true=>rw [hb] at h;cases h;rw [beq_iff_eq.mp hb];exact List.mem_cons_self
  | false=>rw [hb] at h;exact List.mem_cons_of_mem _ (zcK h)
theorem zlI(T:Top p loose mean mg mb h)(X:K.In h)(hf:G.fns=zoN AL (recsOf p))(c1:G.names.all (zjG K G.fns)=true)(c2:bis.all (zpb K G.names)=true)(c3:G.clss.all (znJ K)=true)(c4:znn K G=true)(c5:znu K AL (recsOf p)=true) :
  GlobOk h K G∧zmh h K G:=by
 have fns:∀ a f,G.fns.lookup a=some f→FnOk h a f:=fun a f e=>by
  have hm:=zcK e
  rw [hf,zoN] at hm
  obtain ⟨q,hq,he⟩:=List.mem_map.mp hm
  cases he
  have:=List.all_eq_true.mp c5 q hq
  rw [Bool.and_eq_true,beq_iff_eq] at this
  exact zoO T (List.of_mem_zip (a:=q.1) (b:=q.2) hq).2 this.1 (mg_of X T.g this.2)
 have nm:=fun {x b} (e:G.names.lookup x=some b)=>zfv c1 e
 refine ⟨⟨⟨mg,mb,T.g,T.b,fun x a e=>?_,fun x a e=>?_,fun x v e=>?_,fun x v e e'=>?_⟩,?_,X,T.nolimit,fun x a e=>?_,fns⟩,?_⟩
 ·have:=nm e;simp only [zjG,Bool.and_eq_true,beq_iff_eq] at this;exact mg_of X T.g this.1
 ·have:=nm e;simp only [zjG,Bool.and_eq_true,beq_iff_eq] at this;exact mg_of X T.g this.1
 ·have:=nm e
  simp only [zjG] at this
  split at this
  ·rename_i y hy;exact ⟨y,mg_of X T.g hy,zkP X this⟩
  ·cases this
 ·have:=zfv c2 e'
  simp only [zpb,e,Option.isSome_none,Bool.false_or,Bool.and_eq_true,beq_iff_eq,decide_eq_true_eq] at this
  exact ⟨mg_none_of X T.g this.1.1,(T.builtins x this.2).trans this.1.2⟩
 ·exact ⟨⟩
 ·have:=nm e
  simp only [zjG,Bool.and_eq_true] at this
  obtain ⟨f,hff⟩:=Option.isSome_iff_exists.mp this.2
  obtain ⟨o,fd,ho,hd,_⟩:=(fns a f hff).fd
  exact ⟨o,fd,ho,hd⟩
 ·exact trivial
theorem zgM{P:Params}:∀{vs:List Value}{xs:List WData},WellAll P h vs xs→(∀ x∈xs,∃ i,x=.int i)→∃ is:List Int,xs=is.map .int∧RepL h Ad.nil [] (is.map .int) vs
 | _,_,.nil,_=>⟨[],rfl,.nil⟩
 | _,_,.cons a b,hx=>by
  obtain ⟨i,hi⟩:=hx _ (.head _)
  subst hi
  obtain ⟨is,rfl,r⟩:=zgM b fun x hx'=>hx x (.tail _ hx')
  cases a with
  | int _ t=>exact ⟨i::is,rfl,.cons (.int i t) r⟩
theorem zpO{prog:Program}{w:World}{s:Shared}{a:Addr}{is:List Int}{xs:List Value}{D:Nat}{σ':zaa}(hG:GlobOk s.heap K G)(hX:zmh s.heap K G)(hsys:∃ o,s.heap.get? sysModules=some o)(hD:D≤600)(r:RepL s.heap Ad.nil [] [.lst (is.map .int)] xs)
  (hL:zaf G D ⟨true,true⟩ a [.lst (is.map .int)] []=.ok (.bool true) σ') (Q:Value→Shared→Prop) (E:Value→Shared→Prop) (hQ:∀ h' tk,(∀ b o,s.heap.get? b=some o→h'.get? b=some o)→Q (.bool true) { s with heap:=h',toks:=tk }) :
  wpAny (model prog w) callerA (PySem.call (.ref a) xs) Q E s:=by
 have S:StoreOk prog w s.heap s.heap Ad.nil []:=⟨rfl,.nil,(fun _ q=>nomatch q),(fun _ q=>nomatch q),(fun _ q=>nomatch q),(fun _ q=>nomatch q),(fun _ q=>nomatch q),hsys,fun i a c e=>by simp [Ad.nil] at e⟩
 refine ziy (prog:=prog) (w:=w) hG hX D ⟨true,true⟩ callerA [] a _ xs s Ad.nil [] ⟨rfl,(by show 301+D<1000;omega),(by show 4+8*D+2000<9900;omega),fun _=>rfl⟩ S (fun _ _ e=>e) ⟨trivial,(fun _ q=>nomatch q),(fun _ q=>nomatch q)⟩ r Q E (by rw [hL];intro q;cases q) (fun v σ₁ e₁ x h₁ tk₁ ι₁ X₁ r₁=>?_) (fun C σ₁ e₁=>by rw [hL] at e₁;cases e₁)
 rw [hL] at e₁;cases e₁
 cases r₁
 exact hQ h₁ tk₁ X₁.stays
theorem zdk{R:WRecords}:∀{xs:List WData},WShape.hasItems R xs .int=true→∀ x∈xs,∃ i,x=.int i
 | [],_,_,hx=>nomatch hx
 | a::r,h,x,hx=>by
  simp only [WShape.hasItems,Bool.and_eq_true] at h
  rcases List.mem_cons.mp hx with rfl | hx
  ·exact hasW_int h.1
  ·exact zdk h.2 x hx
theorem zmU{l:OpenLaw}(hm:l.most=some 63){args:List WData}(hpre:l.row.toRowW.claim.pre args=true):∃ xs,args=[.list xs]∧(∀ x∈xs,∃ i,x=.int i)∧xs.length≤63:=by
 obtain ⟨h1,h2⟩:=pre_splitW hpre
 obtain ⟨d,r,rfl,hd,hr⟩:=hasAllW_cons h1
 obtain rfl:=hasAllW_nil hr
 obtain ⟨xs,rfl,hx⟩:=hasW_list hd
 refine ⟨xs,rfl,zdk hx,?_⟩
 have h3:l.pre.holds [] { args:=[WData.list xs] }=true:=h2
 unfold OpenLaw.pre at h3
 rw [hm] at h3
 by_cases q:xs.length≤63
 ·exact q
 ·exfalso
  revert h3
  simp only [WTm.holds,WTm.value,List.getElem?_cons_zero]
  have:(63:Int)<(xs.length:Int):=by omega
  have hl:less? (WData.int 63) (WData.int (xs.length:Int))=some true:=by
   show (Num.less? (WData.int 63) (WData.int (xs.length:Int)))=some true
   simp [Num.less?,this]
  simp [hl]
theorem zmT{l:OpenLaw}{args:List WData}:l.row.toRowW.claim.post args (.bool true) args=true:=by
 show (WShape.has [] (.bool true) .bool&&WTm.holds [] (.eq .res (.lit (.bool true))) { args:=args,res:=some (.bool true),after:=args })=true
 have h1:WShape.has [] (.bool true) .bool=true:=by simp [WShape.has,WShape.arms]
 rw [h1,Bool.true_and]
 have h2:W.same (WData.bool true) (WData.bool true)=true:=by first | decide +kernel | kernel_rfl | simp [W.same]
 simp [WTm.holds,WTm.value,h2]
theorem zoy{l:OpenLaw}(hm:l.most=some 63){D:Nat}{A₀:Addr}(hD:D≤600)(hL:∀ is:List Int,is.length≤63→∃ σ',zaf G D ⟨true,true⟩ A₀ [.lst (is.map .int)] []=.ok (.bool true) σ')
  {prog:Program} {w:World} {s:Shared} {cl:Str→Option Addr} {mn:ExcName→Option Value} (hG:GlobOk s.heap K G) (hX:zmh s.heap K G) (hsys:∃ o,s.heap.get? sysModules=some o) (hgens:s.gens=#[]) {args:List WData} {vals:List Value}
  (hpre:l.row.toRowW.claim.pre args=true) (wl:WellAll w.params s.heap vals args) :
  wpAny (model prog w) callerA (PySem.call (.ref A₀) vals) (fun v s'=>GoodWG l.row.toRowW.claim cl mn args s (.ok (.ret v)) s') (fun e s'=>GoodWG l.row.toRowW.claim cl mn args s (.error e) s') s:=by
 obtain ⟨xs,rfl,hi,hlen⟩:=zmU hm hpre
 cases wl with
 | cons a b=>
  cases b
  cases a with
  | list ho hw=>
   obtain ⟨is,rfl,r⟩:=zgM hw hi
   obtain ⟨σ',hc⟩:=hL is (by simpa using hlen)
   refine zpO hG hX hsys hD (.cons (.lst ho zez (by simpa using r)) .nil) hc _ _ fun h' tk hk=>GoodW.toG ⟨.inl ⟨.bool true,.bool true,[],rfl,fun _=>rfl,.bool true,zmT,fun _=>⟨.nil,fun _ q=>nomatch q⟩⟩,hk,rfl,hgens⟩
end
end Mine
namespace Mine
open PySem
noncomputable section
noncomputable def fnAt(p:Program)(k:Nat):FnD:=
 match p.main.body[k]? with
 | some (.FunctionDef _ a b _ _ _ sc _ _ _)=>⟨a.args.map (·.arg),sc,b⟩
 | _=>⟨[],⟨.function,[],false,false,[]⟩,[]⟩
theorem zaT{α β γ:Type}(x:M α)(f:α→M β)(g:β→M γ):(x.bind f).bind g=x.bind fun a=>(f a).bind g:=M.bind_assoc x f g
theorem ziY{α β:Type}(b:Bool)(x y:M α)(f:α→M β):(M.cond b x y).bind f=M.cond b (x.bind f) (y.bind f):=M.cond_bind b x y f
theorem zqJ{α:Type}(x:M α):x.bind M.ret=x:=by
 funext σ;unfold M.bind;cases x σ <;> rfl
theorem zaY{α β:Type}{x:M α}{f g:α→M β}(h:∀ a,f a=g a):x.bind f=x.bind g:=congrArg (M.bind x) (funext h)
theorem zeU{α:Type}{b:Bool}{x y x' y':M α}(h:x=x')(h':y=y'):M.cond b x y=M.cond b x' y':=by rw [h,h']
noncomputable abbrev LL:=List (Str×Option PV)
noncomputable def locN(l:LL):Loc:=fun y=>match l.lookup y with
 | some o=>o
 | Option.none=>Option.none
noncomputable def LL.put(x:Str)(v:PV):LL→LL
 | []=>[(x,some v)]
 | (y,o)::r=>match x==y with
  | true=>(y,some v)::r
  | false=>(y,o)::LL.put x v r
noncomputable def LL.drop(x:Str):LL→LL
 | []=>[]
 | (y,o)::r=>(y,match y==x with | true=>Option.none | false=>o)::LL.drop x r
theorem zdg(z:Str)(o:Option PV)(r:LL)(y:Str):locN ((z,o)::r) y=bif y==z then o else locN r y:=by
 unfold locN
 rw [List.lookup_cons]
 cases y==z <;> rfl
theorem znr(ρ:Loc)(x:Str)(v:PV)(y:Str):ρ.set x v y=bif y==x then some v else ρ y:=by
 unfold Loc.set
 cases h:y==x with
 | true=>rw [if_pos (eq_of_beq h)];rfl
 | false=>rw [if_neg fun q=>by rw [beq_iff_eq.mpr q] at h;cases h];rfl
theorem zmP(x:Str)(v:PV)(l:LL):locN (l.put x v)=(locN l).set x v:=by
 induction l with
 | nil=>funext y;rw [znr];exact zdg x (some v) [] y
 | cons p r ih=>
  obtain ⟨z,o⟩:=p
  funext y
  have ihy:=congrFun ih y
  rw [znr] at ihy ⊢
  unfold LL.put
  rw [zdg]
  cases hx:x==z with
  | true=>
   have hxz:=eq_of_beq hx
   subst hxz
   show locN ((x,some v)::r) y=_
   rw [zdg]
   cases y==x <;> rfl
  | false=>
   show locN ((z,o)::LL.put x v r) y=_
   rw [zdg,ihy]
   cases hz:y==z with
   | true=>
    rw [eq_of_beq hz]
    cases hq:z==x with
    | true=>rw [beq_iff_eq.mpr (eq_of_beq hq).symm] at hx;cases hx
    | false=>rfl
   | false=>cases y==x <;> rfl
section
variable {α:Type}
noncomputable def zmc(sc:Scope)(l:LL)(v:PV)(x:Str)(k:LL→M α):M α:=match sc.names.lookup x with
 | some .local=>k (l.put x v)
 | some .cell=>k (l.put x v)
 | _=>M.fail
noncomputable def zma(sc:Scope)(l:LL)(v:PV)(t:Expr)(k:LL→M α):M α:=(M.lift (nmOf t)).bind fun x=>zmc sc l v x.1.1 k
noncomputable def nilL(vs:List PV)(m:M α):M α:=match vs with
 | []=>m
 | _::_=>M.fail
noncomputable def zjT(vs:List PV)(f:PV→List PV→M α):M α:=match vs with
 | []=>M.fail
 | v::vs=>f v vs
noncomputable def tupL(v:PV)(f:List PV→M α):M α:=match v with
 | .tup vs=>f vs
 | _=>M.fail
noncomputable def zgD(sc:Scope):LL→List Expr→List PV→(LL→M α)→M α
 | l,[],vs,k=>nilL vs (k l)
 | l,t::ts,vs,k=>zjT vs fun v vs=>zma sc l v t fun l'=>zgD sc l' ts vs k
noncomputable def zl8(sc:Scope)(l:LL)(t:Expr)(v:PV)(k:LL→M α):M α:=
 match t with
 | .Tuple ts _ _=>tupL v fun vs=>zgD sc l ts vs k
 | t=>zma sc l v t k
noncomputable def asgL(E:Expr→M PV)(sc:Scope)(l:LL)(t:Expr)(v:PV)(k:LL→M α):M α:=
 match t with
 | .Subscript o i _=>(E o).bind fun ov=>(E i).bind fun iv=>(setAt ov iv v).bind fun _=>k l
 | t=>zl8 sc l t v k
noncomputable def exsL(X:Stmt→LL→(LL→M α)→M α):List Stmt→LL→(LL→M α)→M α
 | [],l,k=>k l
 | s::r,l,k=>X s l fun l'=>exsL X r l' k
noncomputable def zao(chk:M Unit)(sc:Scope)(t:Expr)(X:LL→(LL→M α)→M α):List PV→LL→(LL→M α)→M α
 | [],l,k=>chk.bind fun _=>k l
 | x::xs,l,k=>chk.bind fun _=>zl8 sc l t x fun l'=>X l' fun l''=>zao chk sc t X xs l'' k
end
noncomputable def exL(cx:Cx){α:Type}(r:M PV→M α):Nat→Scope→Stmt→LL→(LL→M α)→M α
 | 0,_,_,_,_=>M.fail
 | n+1,sc,s,l,k=>match s with
  | .Return e _=>match e with
   | some e=>r (ev cx n sc (locN l) e)
   | Option.none=>M.fail
  | .Assign ts e _=>match ts with
   | []=>M.fail
   | t::rs=>M.cond (rs.isEmpty&&zqb cx.md t e) ((ev cx n sc (locN l) e).bind fun v=>asgL (ev cx n sc (locN l)) sc l t v k) M.fail
  | .If t a b _=>(ev cx n sc (locN l) t).bind fun v=>(zan v).bind fun c=>M.cond c (exsL (exL cx r n sc) a l k) (exsL (exL cx r n sc) b l k)
  | .For t it b o _=>M.cond (o.isEmpty&&(cx.md.lp&&isTg t)) ((zcD cx sc (locN l) (ev cx n sc (locN l)) t it).bind fun src=>zao (chkW src.watch) sc t (exsL (exL cx r n sc) b) src.xs l k) M.fail
  | .Expr e _=>M.cond (ziK e) M.fail ((ev cx n sc (locN l) e).bind fun _=>k l)
  | .Pass _=>k l
  | _=>M.fail
section
variable {α:Type}
noncomputable def zgg(r0:PV→M α)(k:Loc→M α):Fl→M α
 | .next ρ=>k ρ
 | .ret v=>r0 v
theorem ziP(r0:PV→M α)(k:Loc→M α)(g:Loc→M Fl)(f:Fl):(flK g f).bind (zgg r0 k)=zgg r0 (fun ρ=>(g ρ).bind (zgg r0 k)) f:=by cases f <;> rfl
theorem zmb{k:LL→M α}{k':Loc→M α}(hk:∀ l,k l=k' (locN l))(sc:Scope)(l:LL)(v:PV)(x:Str):zmc sc l v x k=(M.lift (zd7 sc (locN l) v x)).bind k':=by
 have h:k (l.put x v)=k' ((locN l).set x v):=(hk _).trans (congrArg k' (zmP x v l))
 unfold zmc zd7
 cases sc.names.lookup x with
 | none=>rfl
 | some q=>
  cases q with
  | «local»=>exact h
  | cell=>exact h
  | _=>rfl
theorem zhc{β γ:Type}(o:Option β)(f:β→Option γ)(g:γ→M α):(M.lift (o.bind f)).bind g=(M.lift o).bind fun a=>(M.lift (f a)).bind g:=by cases o <;> rfl
theorem zhv{k:LL→M α}{k':Loc→M α}(hk:∀ l,k l=k' (locN l))(sc:Scope)(l:LL)(v:PV)(t:Expr):zma sc l v t k=(M.lift (ze9 sc (locN l) v t)).bind k':=
 (zaY (x:=M.lift (nmOf t)) fun x=>zmb hk sc l v x.1.1).trans (zhc (nmOf t) (fun x=>zd7 sc (locN l) v x.1.1) k').symm
theorem zii{k:LL→M α}{k':Loc→M α}(hk:∀ l,k l=k' (locN l))(sc:Scope)(ts:List Expr):∀(vs:List PV)(l:LL),zgD sc l ts vs k=(M.lift (zbj sc (locN l) ts vs)).bind k':=by
 induction ts with
 | nil=>
  intro vs l
  cases vs with
  | nil=>exact hk l
  | cons _ _=>rfl
 | cons t ts ih=>
  intro vs l
  cases vs with
  | nil=>rfl
  | cons v vs=>exact (zhv (k':=fun ρ=>(M.lift (zbj sc ρ ts vs)).bind k') (fun l'=>ih vs l') sc l v t).trans (zhc _ _ _).symm
theorem znS(v:PV)(f:List PV→Option Loc)(g:List PV→M α)(k':Loc→M α) (h:∀ vs,g vs=(M.lift (f vs)).bind k'):tupL v g=(M.lift ((zqc v).bind f)).bind k':=by
 cases v with
 | tup vs=>exact h vs
 | _=>rfl
theorem zhu{k:LL→M α}{k':Loc→M α}(hk:∀ l,k l=k' (locN l))(sc:Scope)(l:LL)(t:Expr)(v:PV):zl8 sc l t v k=(M.lift (zgC sc (locN l) t v)).bind k':=by
 have o:=zhv hk sc l v t
 cases t with
 | Tuple ts a p=>exact znS v _ _ k' fun vs=>zii hk sc ts vs l
 | _=>exact o
theorem zpe{k:LL→M α}{k':Loc→M α}(hk:∀ l,k l=k' (locN l))(E:Expr→M PV)(sc:Scope)(l:LL)(t:Expr)(v:PV):asgL E sc l t v k=(asg E sc (locN l) t v).bind k':=by
 have o:=zhu hk sc l t v
 cases t with
 | Subscript o i p=>exact Eq.symm ((zaT _ _ _).trans (zaY fun a=>(zaT _ _ _).trans (zaY fun b=>(zaT _ _ _).trans (zaY fun _=>(hk l).symm))))
 | _=>exact o
theorem zgp{X:Stmt→LL→(LL→M α)→M α}{Y:Loc→Stmt→M Fl}{r0:PV→M α} (h:∀ s l k k',(∀ l,k l=k' (locN l))→X s l k=(Y (locN l) s).bind (zgg r0 k')) (b:List Stmt) :
  ∀(l:LL)(k:LL→M α)(k':Loc→M α),(∀ l,k l=k' (locN l))→exsL X b l k=(exs Y (locN l) b).bind (zgg r0 k'):=by
 induction b with
 | nil=>exact fun l k k' hk=>hk l
 | cons s b ih=>exact fun l k k' hk=>(h s l _ (fun ρ=>(exs Y ρ b).bind (zgg r0 k')) fun l'=>ih l' k k' hk).trans (Eq.symm ((zaT _ _ _).trans (zaY fun f=>ziP _ _ _ f)))
theorem zna{chk:M Unit}{sc:Scope}{t:Expr}{X:LL→(LL→M α)→M α}{Y:Loc→M Fl}{r0:PV→M α} (h:∀ l k k',(∀ l,k l=k' (locN l))→X l k=(Y (locN l)).bind (zgg r0 k')) (xs:List PV) :
  ∀(l:LL)(k:LL→M α)(k':Loc→M α),(∀ l,k l=k' (locN l))→zao chk sc t X xs l k=(forL chk sc t Y xs (locN l)).bind (zgg r0 k'):=by
 induction xs with
 | nil=>exact fun l k k' hk=>Eq.symm ((zaT _ _ _).trans (zaY fun _=>(hk l).symm))
 | cons x xs ih=>
  intro l k k' hk
  refine Eq.symm ((zaT _ _ _).trans (zaY fun _=>((zaT _ _ _).trans ?_)))
  refine Eq.trans (zaY fun ρ=>(zaT _ _ _).trans (zaY fun f=>ziP _ _ _ f)) (Eq.symm (zhu (fun l'=>h l' _ _ fun l''=>ih l'' k k' hk) sc l t x))
end
theorem zp3(cx:Cx)(n:Nat):∀(md:Md){α:Type}(r:M PV→M α)(r0:PV→M α)(_:∀ m,r m=m.bind r0)(sc:Scope)(s:Stmt)(l:LL)(k:LL→M α)(k':Loc→M α),(∀ l,k l=k' (locN l))→
  exL { cx with md:=md } r n sc s l k=(ex { cx with md:=md } n sc (locN l) s).bind (zgg r0 k'):=by
 induction n with
 | zero=>exact fun _ _ _ _ _ _ _ _ _ _ _=>rfl
 | succ n ihn=>
  intro md α r r0 hr sc s l k k' hk
  have ih:=fun s l k k' hk=>ihn md r r0 hr sc s l k k' hk
  cases s with
  | Return e p=>
   cases e with
   | none=>rfl
   | some e=>exact (hr _).trans (Eq.symm (zaT _ _ _))
  | Assign ts e p=>
   cases ts with
   | nil=>rfl
   | cons t rs=>exact Eq.symm ((ziY _ _ _ _).trans (zeU ((zaT _ _ _).trans (zaY fun v=>(zaT _ _ _).trans (zpe hk _ sc l t v).symm)) rfl))
  | If t a b p=>exact Eq.symm ((zaT _ _ _).trans (zaY fun v=>(zaT _ _ _).trans (zaY fun c=>(ziY _ _ _ _).trans (zeU (zgp ih a l k k' hk).symm (zgp ih b l k k' hk).symm))))
  | For t it b o p=>exact Eq.symm ((ziY _ _ _ _).trans (zeU ((zaT _ _ _).trans (zaY fun src=>(zna (Y:=fun ρ'=>exs (ex { cx with md:=md } n sc) ρ' b) (fun l k k' hk=>zgp ih b l k k' hk) src.xs l k k' hk).symm)) rfl))
  | Expr e p=>exact Eq.symm ((ziY _ _ _ _).trans (zeU rfl ((zaT _ _ _).trans (zaY fun _=>(hk l).symm))))
  | Pass p=>exact hk l
  | _=>rfl
noncomputable def zoF(ps:List Str)(vs:List PV)(names:List (Str×NameKind)):LL:=
 (ps.zip vs).map (fun p=>(p.1,some p.2))++(names.filter fun n=>!ps.contains n.1&&(n.2==.local || n.2==.cell)).map fun n=>(n.1,Option.none)
theorem zfw:∀(l r:LL),(∀ p∈r,p.2=Option.none)→locN (l++r)=locN l
 | [],r,h=>by
  funext y
  simp only [List.nil_append,locN,List.lookup_nil]
  induction r with
  | nil=>rfl
  | cons p r ih=>
   obtain ⟨n,o⟩:=p
   have:=h _ (.head _)
   dsimp only at this;subst this
   rw [List.lookup_cons]
   cases y==n with
   | true=>rfl
   | false=>exact ih fun p hp=>h p (.tail _ hp)
 | (n,o)::l,r,h=>by
  have ih:=zfw l r h
  funext y
  have ihy:=congrFun ih y
  simp only [List.cons_append,locN,List.lookup_cons] at ihy ⊢
  cases y==n with
  | true=>rfl
  | false=>exact ihy
theorem zli(ps:List Str)(vs:List PV)(names:List (Str×NameKind)):locN (zoF ps vs names)=params ps vs:=by
 unfold zoF
 rw [zfw _ _ (fun p hp=>by obtain ⟨n,_,rfl⟩:=List.mem_map.mp hp;rfl)]
 funext y
 unfold params locN
 generalize ps.zip vs=l
 induction l with
 | nil=>rfl
 | cons p r ih=>
  obtain ⟨n,o⟩:=p
  simp only [List.map_cons,List.lookup_cons]
  cases y==n with
  | true=>rfl
  | false=>exact ih
noncomputable def zaj(G:Gl)(C:Md→Addr→List PV→M PV)(md:Md)(a:Addr)(vs:List PV):M PV:=
 match G.fns.lookup a with
 | some f=>M.cond (decide (f.params.length=vs.length)) (exsL (exL { G:=G,call:=C,md:=md } (fun m=>m) nest f.scope) f.body (zoF f.params vs f.scope.names) fun _=>M.ret .none) M.fail
 | Option.none=>M.fail
theorem zfL(G:Gl)(d:Nat)(md:Md)(a:Addr)(vs:List PV):zaf G (d+1) md a vs=zaj G (zaf G d) md a vs:=by
 unfold zaj
 show (match G.fns.lookup a with
  | some f=>M.cond (decide (f.params.length=vs.length)) ((exs (ex { G:=G,call:=zaf G d,md:=md } nest f.scope) (params f.params vs) f.body).bind fun r=>match r with
   | .ret v=>M.ret v
   | .next _=>M.ret .none) M.fail
  | Option.none=>M.fail)=_
 cases G.fns.lookup a with
 | none=>rfl
 | some f=>
  refine zeU ?_ rfl
  rw [zgp (r0:=M.ret) (Y:=ex { G:=G,call:=zaf G d,md:=md } nest f.scope) (fun s l k k' hk=>zp3 { G:=G,call:=zaf G d,md:=md } nest md _ M.ret (fun m=>(zqJ m).symm) f.scope s l k k' hk) _ _ _ (fun _=>M.ret .none) (fun _=>rfl),zli]
  exact zaY fun r=>by cases r <;> rfl
noncomputable abbrev zad:=Md→Addr→List PV→M PV
set_option genInjectivity false in
set_option genSizeOf false in
structure Adr where
 (is_name:Addr:=0) (is_within:Addr:=0) (is_saying:Addr:=0) (need_saying:Addr:=0) (halves:Addr:=0) (size_in:Addr:=0) (gather_names:Addr:=0) (names_in:Addr:=0) (l_cell_at:Addr:=0) (l_names:Addr:=0) (l_saying:Addr:=0) (l_size:Addr:=0) (l_met:Addr:=0) (law:Addr:=0) (l_true:Addr:=0) (need_row:Addr:=0) (begun:Addr:=0) (parts:Addr:=0) (l_comes:Addr:=0) (l_begun:Addr:=0) (is_whole:Addr:=0) (same_claim:Addr:=0) (without:Addr:=0) (clashes:Addr:=0) (stands_for:Addr:=0) (stands:Addr:=0) (l_without:Addr:=0) (l_is_open:Addr:=0) (l_stands:Addr:=0) (ended:Addr:=0) (next_claim:Addr:=0) (setting_of:Addr:=0) (worked:Addr:=0) (shut:Addr:=0) (joined:Addr:=0) (neatly:Addr:=0) (need_tree:Addr:=0) (of_clash:Addr:=0) (of_tree:Addr:=0) (middle:Addr:=0) (leads:Addr:=0) (l_pair:Addr:=0) (put_in:Addr:=0) (need_both:Addr:=0) (without_others:Addr:=0) (strongest:Addr:=0) (weakest:Addr:=0) (l_fits:Addr:=0) (l_shown:Addr:=0) (l_leads:Addr:=0) (SayError:Addr:=0) (BadSaying:Addr:=0) (BadRow:Addr:=0) (BadTree:Addr:=0) (BadCut:Addr:=0) (BadNames:Addr:=0)
noncomputable def Md.inn(md:Md):Md:=⟨false,md.lp⟩
noncomputable def p0:Pos:=⟨0,0,0,0⟩
noncomputable def G0(mu:Bool):Gl:={ names:=[],fns:=[],sub:=[],clss:=[],mu:=match mu with | true=>[(0,0)] | false=>[],fz:=[] }
noncomputable def cxM(md:Md)(mu:Bool):Cx:={ G:=G0 mu,call:=fun _ _ _=>M.fail,md:=md }
noncomputable def mkL(mu:Bool)(xs:List PV):M PV:=M.cond mu (cnew (.list xs)) (M.ret (.lst xs))
noncomputable def opM(mu:Bool)(op:Operator)(a b:PV):M PV:=zng (cxM ⟨false,false⟩ mu) p0 op a b
noncomputable def cutM(mu:Bool)(v:PV)(lo hi:Option Int):M PV:=cut (cxM ⟨false,false⟩ mu) p0 false v lo hi
noncomputable def biM(md:Md)(mu:Bool)(f:Str)(vs:List PV):M PV:=builtin (cxM md mu) p0 f vs
noncomputable def zcj(md:Md)(mu:Bool)(m:Str)(o:PV)(args:M (List PV)):M PV:=(tnOf o).bind fun T=>(M.lift (mtOf T m)).bind fun k=>args.bind fun vs=>zbM (cxM md mu) p0 k o vs
noncomputable def zcA(x:M PV):M (Option Int):=x.bind fun v=>M.lift (zk1 v)
noncomputable def isM(G:Gl)(t:Ty)(v:PV):M PV:=(zbP G t v).bind fun b=>M.ret (.bool b)
noncomputable def za2(md:Md)(mu:Bool)(src:M Src)(f:PV→M (Option PV)):M PV:=
 M.cond (md.lp&&true&&true) (src.bind fun s=>M.cond (decide (s.xs.length≤2 ^ 20)) ((zaX (chkW s.watch) (fun x=>M.noErr (f x)) s.xs).bind fun ys=>mkL mu ys) M.fail) M.fail
noncomputable def boM(op:BoolOp)(x y:M PV):M PV:=x.bind fun v=>(zan v).bind fun b=>match op,b with
 | .And,false=>M.ret v
 | .Or,true=>M.ret v
 | _,_=>y
noncomputable def orM(x y:M PV):M PV:=boM .Or x y
noncomputable def andM(x y:M PV):M PV:=boM .And x y
noncomputable def notM(x:M PV):M PV:=x.bind fun a=>(zan a).bind fun b=>M.ret (.bool !b)
noncomputable def seqM:List (M PV)→M (List PV)
 | []=>M.ret []
 | x::r=>x.bind fun v=>(seqM r).bind fun vs=>M.ret (v::vs)
noncomputable def ifM{α:Type}(x:M PV)(a b:M α):M α:=x.bind fun v=>(zan v).bind fun c=>M.cond c a b
noncomputable def tup2{α:Type}(v:PV)(f:PV→PV→M α):M α:=tupL v fun vs=>zjT vs fun a vs=>zjT vs fun b vs=>nilL vs (f a b)
noncomputable def tup3{α:Type}(v:PV)(f:PV→PV→PV→M α):M α:=tupL v fun vs=>zjT vs fun a vs=>zjT vs fun b vs=>zjT vs fun c vs=>nilL vs (f a b c)
noncomputable def stAt(b:List Stmt)(i:Nat):Stmt:=match b[i]? with
 | some s=>s
 | Option.none=>.Pass p0
noncomputable def forT:Stmt→Expr
 | .For t _ _ _ _=>t
 | _=>.Name "" p0
noncomputable def forB:Stmt→List Stmt
 | .For _ _ b _ _=>b
 | .While _ b _ _=>b
 | _=>[]
theorem ret_bind{α β:Type}(a:α)(f:α→M β):(M.ret a).bind f=f a:=rfl
noncomputable def PP:Program:=PySem.Challenge.pw_uf010027_13
noncomputable def GG:Gl where
 names:=([("is_whole",.fn 95),("is_name",.fn 100),("is_within",.fn 107),("is_saying",.fn 114),("need_saying",.fn 121),("halves",.fn 128),("size_in",.fn 133),("gather_names",.fn 140),("names_in",.fn 147),("need_row",.fn 152),("begun",.fn 157),("parts",.fn 164),("same_claim",.fn 171),("without",.fn 178),("clashes",.fn 185),("stands_for",.fn 192),("stands",.fn 199),("ended",.fn 206),("next_claim",.fn 211),("setting_of",.fn 218)]:List (Str×GV))++([("worked",.fn 225),("shut",.fn 232),("need_tree",.fn 239),("of_clash",.fn 246),("of_tree",.fn 253),("middle",.fn 260),("joined",.fn 267),("neatly",.fn 274),("leads",.fn 281),("put_in",.fn 286),("need_both",.fn 291),("without_others",.fn 298),("strongest",.fn 305),("weakest",.fn 312),("_law_cell_at",.fn 319),("_law_names",.fn 324),("_law_saying",.fn 331),("_law_size",.fn 336),("_law_met",.fn 341),("_law_true",.fn 348)]:List (Str×GV))++([("_law_comes",.fn 355),("_law_is_open",.fn 362),("_law_stands",.fn 369),("_law_without",.fn 376),("_law_begun",.fn 381),("_law_pair",.fn 388),("_law_fits",.fn 395),("_law_shown",.fn 402),("_law_leads",.fn 409),("law",.fn 414),("SayError",.cls 24),("BadSaying",.cls 37),("BadRow",.cls 49),("BadTree",.cls 61),("BadCut",.cls 73),("BadNames",.cls 85),("LETTERS",.val (.str "abcdefghijklmnopqrstuvwxyz")),("TOLD",.val (.tup [.str "yes",.str "no",.str "not",.str "and",.str "or"])),("MOST_LETTERS",.val (.int 6)),("MOST_DEEP",.val (.int 100))]:List (Str×GV))++([("MOST_SAYINGS",.val (.int 6)),("MOST_SIZE_claims",.val (.int 60)),("MOST_TOGETHER",.val (.int 59)),("MOST_SIZE_leading",.val (.int 60))]:List (Str×GV))
 fns:=[(95,fnAt PP 12),(100,fnAt PP 13),(107,fnAt PP 14),(114,fnAt PP 15),(121,fnAt PP 16),(128,fnAt PP 17),(133,fnAt PP 18),(140,fnAt PP 19),(147,fnAt PP 20),(152,fnAt PP 24),(157,fnAt PP 25),(164,fnAt PP 26),(171,fnAt PP 28),(178,fnAt PP 29),(185,fnAt PP 30),(192,fnAt PP 31),(199,fnAt PP 32),(206,fnAt PP 33),(211,fnAt PP 34),(218,fnAt PP 35),(225,fnAt PP 36),(232,fnAt PP 37),(239,fnAt PP 39),(246,fnAt PP 40),(253,fnAt PP 41),(260,fnAt PP 42),(267,fnAt PP 46),(274,fnAt PP 47),(281,fnAt PP 48),(286,fnAt PP 49),(291,fnAt PP 50),(298,fnAt PP 51),(305,fnAt PP 52),(312,fnAt PP 53),(319,fnAt PP 55),(324,fnAt PP 56),(331,fnAt PP 57),(336,fnAt PP 58),(341,fnAt PP 59),(348,fnAt PP 60),(355,fnAt PP 61),(362,fnAt PP 62),(369,fnAt PP 63),(376,fnAt PP 64),(381,fnAt PP 65),(388,fnAt PP 66),(395,fnAt PP 67),(402,fnAt PP 68),(409,fnAt PP 69),(414,fnAt PP 70)]
 sub:=[(24,24),(37,37),(49,49),(61,61),(73,73),(85,85),(37,24),(49,24),(61,24),(73,24),(85,24)]
 clss:=[24,37,49,61,73,85]
 mu:=[]
 fz:=[]
noncomputable def ALL:List Addr:=[95,100,107,114,121,128,133,140,147,152,157,164,171,178,185,192,199,206,211,218,225,232,239,246,253,260,267,274,281,286,291,298,305,312,319,324,331,336,341,348,355,362,369,376,381,388,395,402,409,414]
noncomputable def AA:Adr:={ is_whole:=95,is_name:=100,is_within:=107,is_saying:=114,need_saying:=121,halves:=128,size_in:=133,gather_names:=140,names_in:=147,need_row:=152,begun:=157,parts:=164,same_claim:=171,without:=178,clashes:=185,stands_for:=192,stands:=199,ended:=206,next_claim:=211,setting_of:=218,worked:=225,shut:=232,need_tree:=239,of_clash:=246,of_tree:=253,middle:=260,joined:=267,neatly:=274,leads:=281,put_in:=286,need_both:=291,without_others:=298,strongest:=305,weakest:=312,l_cell_at:=319,l_names:=324,l_saying:=331,l_size:=336,l_met:=341,l_true:=348,l_comes:=355,l_is_open:=362,l_stands:=369,l_without:=376,l_begun:=381,l_pair:=388,l_fits:=395,l_shown:=402,l_leads:=409,law:=414,SayError:=24,BadSaying:=37,BadRow:=49,BadTree:=61,BadCut:=73,BadNames:=85 }
noncomputable def FN(k:Nat):FnD:=fnAt PP k
noncomputable def XX(C:zad)(md:Md)(n k:Nat):Stmt→LL→(LL→M PV)→M PV:=exL { G:=GG,call:=C,md:=md } (fun m=>m) n (FN k).scope
noncomputable def XK(C:zad)(md:Md)(n k i:Nat):LL→M PV:=fun l=>exsL (XX C md n k) (List.drop i (FN k).body) l (fun _=>M.ret PV.none)
noncomputable def zlC(A:Adr)(G:Gl)(C:zad)(md:Md)(v1:PV):M PV:=
 (ifM (orM (notM (isM G (.bi .str) v1)) (orM (notM ((biM md false "len" [v1]).bind fun v2=>((zac .LtE (.int 1) v2).bind fun v3=>(zan v3).bind fun v4=>M.cond v4 (zac .LtE v2 (.int 6)) (M.ret v3)))) (zac .In v1 (.tup [.str "yes",.str "no",.str "not",.str "and",.str "or"]))))
 (M.ret (.bool false))
 ((seqM [(za2 md false (zaz v1) fun v5=>(zac .In v5 (.str "abcdefghijklmnopqrstuvwxyz")).bind fun v6=>M.ret (some v6))]).bind fun v7=>(biM md false "all" v7)))
theorem zlB(C:zad)(md:Md)(v1:PV):zaj GG C md AA.is_name [v1]=zlC AA GG C md v1:=by kernel_rfl
noncomputable def zh9(A:Adr)(G:Gl)(C:zad)(md:Md)(v1:PV):M PV:=
 (C md A.is_within [v1,(.int 100)])
theorem zeH(C:zad)(md:Md)(v1:PV):zaj GG C md AA.is_saying [v1]=zh9 AA GG C md v1:=by kernel_rfl
noncomputable def zga(A:Adr)(G:Gl)(C:zad)(md:Md)(v1:PV):M PV:=
 (ifM (notM (C md A.is_saying [v1]))
 M.fail
 (M.ret PV.none))
theorem zf9(C:zad)(md:Md)(v1:PV):zaj GG C md AA.need_saying [v1]=zga AA GG C md v1:=by kernel_rfl
noncomputable def zkt(A:Adr)(G:Gl)(C:zad)(md:Md)(v1:PV):M PV:=
 (((seqM [(za2 md false ((C md A.halves [v1]).bind zaz) fun v2=>(C md.inn A.size_in [v2]).bind fun v3=>M.ret (some v3))]).bind fun v4=>(biM md false "sum" v4)).bind fun v5=>(opM false .Add (.int 1) v5))
theorem zks(C:zad)(md:Md)(v1:PV):zaj GG C md AA.size_in [v1]=zkt AA GG C md v1:=by kernel_rfl
noncomputable def zco(A:Adr)(G:Gl)(C:zad)(md:Md)(kk:PV→PV→Option PV→M PV)(v1:PV)(v2:PV)(v3:Option PV)(v4:PV):M PV:=
 ((C md A.gather_names [v4,v2]).bind fun _=>
 (kk v1 v2 (some v4)))
noncomputable def zbC(A:Adr)(G:Gl)(C:zad)(md:Md)  (v1:PV) (v2:PV) (v3:Option PV):M PV:=
 (M.ret PV.none)
noncomputable def zas(A:Adr)(G:Gl)(C:zad)(md:Md)(chk:M Unit):List PV→PV→PV→Option PV→M PV
 | [],v1,v2,v3=>chk.bind fun _=>zbC A G C md v1 v2 v3
 | x::xs,v1,v2,v3=>chk.bind fun _=>zco A G C md (zas A G C md chk xs) v1 v2 v3 x
noncomputable def zcO(A:Adr)(G:Gl)(C:zad)(md:Md)(F1:M Unit→List PV→PV→PV→Option PV→M PV)(v1 v2:PV):M PV:=
 (ifM ((index v1 (.int 0)).bind fun v3=>(zac .Eq v3 (.str "name")))
 ((index v1 (.int 1)).bind fun v4=>((setAt v2 v4 (.bool true)).bind fun _=>
 (M.cond (md.lp&&true) (((C md A.halves [v1]).bind zaz).bind fun v5=>F1 (chkW v5.watch) v5.xs v1 v2 Option.none) M.fail)))
 (M.cond (md.lp&&true) (((C md A.halves [v1]).bind zaz).bind fun v6=>F1 (chkW v6.watch) v6.xs v1 v2 Option.none) M.fail))
noncomputable def ze7(A:Adr)(G:Gl)(C:zad)(md:Md)(v1 v2:PV):M PV:=zcO A G C md (zas A G C md) v1 v2
noncomputable def zax(v1 v2 v3:Option PV):LL:=[("saying",v1),("found",v2),("part",v3)]
theorem zcC(C:zad)(md:Md)(chk:M Unit):∀(xs:List PV)(v1:PV)(v2:PV)(v3:Option PV),zao chk (FN 19).scope (forT (stAt (FN 19).body 1)) (exsL (XX C md 59 19) (forB (stAt (FN 19).body 1))) xs (zax (some v1) (some v2) v3) (XK C md 60 19 2)=zas AA GG C md  chk xs v1 v2 v3:=by
 intro xs
 induction xs with
 | nil=>
  intro v1 v2 v3
  have e:(XK C md 60 19 2) (zax (some v1) (some v2) v3)=zbC AA GG C md  v1 v2 v3:=by kernel_rfl
  show (chk.bind fun _=>(XK C md 60 19 2) (zax (some v1) (some v2) v3))=chk.bind fun _=>zbC AA GG C md  v1 v2 v3
  rw [e]
 | cons x xs ih=>
  intro v1 v2 v3
  have k:(fun v1' v2' v3'=>zao chk (FN 19).scope (forT (stAt (FN 19).body 1)) (exsL (XX C md 59 19) (forB (stAt (FN 19).body 1))) xs (zax (some v1') (some v2') v3') (XK C md 60 19 2))=zas AA GG C md  chk xs:=by funext s0 s1 s2;exact ih s0 s1 s2
  have e:zao chk (FN 19).scope (forT (stAt (FN 19).body 1)) (exsL (XX C md 59 19) (forB (stAt (FN 19).body 1))) (x::xs) (zax (some v1) (some v2) v3) (XK C md 60 19 2)=chk.bind fun _=>zco AA GG C md (fun v1' v2' v3'=>zao chk (FN 19).scope (forT (stAt (FN 19).body 1)) (exsL (XX C md 59 19) (forB (stAt (FN 19).body 1))) xs (zax (some v1') (some v2') v3') (XK C md 60 19 2)) v1 v2 v3 x:=by kernel_rfl
  rw [k] at e
  exact e
theorem zcN(C:zad)(md:Md)(v1 v2:PV):zaj GG C md AA.gather_names [v1,v2]=ze7 AA GG C md v1 v2:=by
 have r1:(fun chk' xs' v1' v2' v3'=>zao chk' (FN 19).scope (forT (stAt (FN 19).body 1)) (exsL (XX C md 59 19) (forB (stAt (FN 19).body 1))) xs' (zax (some v1') (some v2') v3') (XK C md 60 19 2))=zas AA GG C md:=by funext s0 s1 s2 s3 s4;exact zcC C md s0 s1 s2 s3 s4
 have e:zaj GG C md AA.gather_names [v1,v2]=zcO AA GG C md (fun chk' xs' v1' v2' v3'=>zao chk' (FN 19).scope (forT (stAt (FN 19).body 1)) (exsL (XX C md 59 19) (forB (stAt (FN 19).body 1))) xs' (zax (some v1') (some v2') v3') (XK C md 60 19 2)) v1 v2:=by kernel_rfl
 rw [r1] at e
 exact e
noncomputable def zeD(A:Adr)(G:Gl)(C:zad)(md:Md)(kk:PV→PV→Option PV→M PV)(v1:PV)(v2:PV)(v3:Option PV)(v4:PV):M PV:=
 ((C md A.gather_names [v4,v2]).bind fun _=>
 (kk v1 v2 (some v4)))
noncomputable def zcS(A:Adr)(G:Gl)(C:zad)(md:Md)  (v1:PV) (v2:PV) (v3:Option PV):M PV:=
 (biM md false "sorted" [v2])
noncomputable def zbg(A:Adr)(G:Gl)(C:zad)(md:Md)(chk:M Unit):List PV→PV→PV→Option PV→M PV
 | [],v1,v2,v3=>chk.bind fun _=>zcS A G C md v1 v2 v3
 | x::xs,v1,v2,v3=>chk.bind fun _=>zeD A G C md (zbg A G C md chk xs) v1 v2 v3 x
noncomputable def zdB(A:Adr)(G:Gl)(C:zad)(md:Md)(F1:M Unit→List PV→PV→PV→Option PV→M PV)(v1:PV):M PV:=
 ((cnew (.dict [])).bind fun v2=>
 (M.cond (md.lp&&true) ((zaz v1).bind fun v3=>F1 (chkW v3.watch) v3.xs v1 v2 Option.none) M.fail))
noncomputable def zfr(A:Adr)(G:Gl)(C:zad)(md:Md)(v1:PV):M PV:=zdB A G C md (zbg A G C md) v1
noncomputable def za1(v1 v2 v3:Option PV):LL:=[("sayings",v1),("found",v2),("saying",v3)]
theorem zd5(C:zad)(md:Md)(chk:M Unit):∀(xs:List PV)(v1:PV)(v2:PV)(v3:Option PV),zao chk (FN 20).scope (forT (stAt (FN 20).body 1)) (exsL (XX C md 59 20) (forB (stAt (FN 20).body 1))) xs (za1 (some v1) (some v2) v3) (XK C md 60 20 2)=zbg AA GG C md  chk xs v1 v2 v3:=by
 intro xs
 induction xs with
 | nil=>
  intro v1 v2 v3
  have e:(XK C md 60 20 2) (za1 (some v1) (some v2) v3)=zcS AA GG C md  v1 v2 v3:=by kernel_rfl
  show (chk.bind fun _=>(XK C md 60 20 2) (za1 (some v1) (some v2) v3))=chk.bind fun _=>zcS AA GG C md  v1 v2 v3
  rw [e]
 | cons x xs ih=>
  intro v1 v2 v3
  have k:(fun v1' v2' v3'=>zao chk (FN 20).scope (forT (stAt (FN 20).body 1)) (exsL (XX C md 59 20) (forB (stAt (FN 20).body 1))) xs (za1 (some v1') (some v2') v3') (XK C md 60 20 2))=zbg AA GG C md  chk xs:=by funext s0 s1 s2;exact ih s0 s1 s2
  have e:zao chk (FN 20).scope (forT (stAt (FN 20).body 1)) (exsL (XX C md 59 20) (forB (stAt (FN 20).body 1))) (x::xs) (za1 (some v1) (some v2) v3) (XK C md 60 20 2)=chk.bind fun _=>zeD AA GG C md (fun v1' v2' v3'=>zao chk (FN 20).scope (forT (stAt (FN 20).body 1)) (exsL (XX C md 59 20) (forB (stAt (FN 20).body 1))) xs (za1 (some v1') (some v2') v3') (XK C md 60 20 2)) v1 v2 v3 x:=by kernel_rfl
  rw [k] at e
  exact e
theorem zjJ(C:zad)(md:Md)(v1:PV):zaj GG C md AA.names_in [v1]=zfr AA GG C md v1:=by
 have r1:(fun chk' xs' v1' v2' v3'=>zao chk' (FN 20).scope (forT (stAt (FN 20).body 1)) (exsL (XX C md 59 20) (forB (stAt (FN 20).body 1))) xs' (za1 (some v1') (some v2') v3') (XK C md 60 20 2))=zbg AA GG C md:=by funext s0 s1 s2 s3 s4;exact zd5 C md s0 s1 s2 s3 s4
 have e:zaj GG C md AA.names_in [v1]=zdB AA GG C md (fun chk' xs' v1' v2' v3'=>zao chk' (FN 20).scope (forT (stAt (FN 20).body 1)) (exsL (XX C md 59 20) (forB (stAt (FN 20).body 1))) xs' (za1 (some v1') (some v2') v3') (XK C md 60 20 2)) v1:=by kernel_rfl
 rw [r1] at e
 exact e
noncomputable def zjI(A:Adr)(G:Gl)(C:zad)(md:Md)(v1:PV):M PV:=
 (ifM (orM (notM (isM G (.bi .list) v1)) (notM ((biM md false "len" [v1]).bind fun v2=>((zac .LtE (.int 1) v2).bind fun v3=>(zan v3).bind fun v4=>M.cond v4 (zac .LtE v2 (.int 6)) (M.ret v3)))))
 M.fail
 (ifM (notM ((seqM [(za2 md false (zaz v1) fun v5=>(C md.inn A.is_saying [v5]).bind fun v6=>M.ret (some v6))]).bind fun v7=>(biM md false "all" v7)))
 M.fail
 (ifM (((seqM [(za2 md false (zaz v1) fun v8=>(C md.inn A.size_in [v8]).bind fun v9=>M.ret (some v9))]).bind fun v10=>(biM md false "sum" v10)).bind fun v11=>(zac .Gt v11 (.int 60)))
 M.fail
 (M.ret PV.none))))
theorem zjH(C:zad)(md:Md)(v1:PV):zaj GG C md AA.need_row [v1]=zjI AA GG C md v1:=by kernel_rfl
noncomputable def zpd(A:Adr)(G:Gl)(C:zad)(md:Md)(v1:PV):M PV:=
 ((C md A.need_row [v1]).bind fun _=>
 (za2 md false (zdX [v1]) fun v2=>tup2 v2 fun v3 v4=>M.ret (some (.tup [v3,(.bool true),v4]))))
theorem zpc(C:zad)(md:Md)(v1:PV):zaj GG C md AA.begun [v1]=zpd AA GG C md v1:=by kernel_rfl
noncomputable def zg5(A:Adr)(G:Gl)(C:zad)(md:Md)(v1 v2:PV):M PV:=
 (ifM (orM (notM (isM G (.bi .tuple) v1)) (orM ((biM md false "len" [v1]).bind fun v3=>(zac .NotEq v3 (.int 3))) (orM (notM ((seqM [(index v1 (.int 0))]).bind fun v4=>(C md A.is_whole v4))) (notM ((index v1 (.int 1)).bind fun v5=>(isM G (.bi .bool) v5))))))
 (M.ret (.bool false))
 (zac .Eq v1 v2))
theorem zg4(C:zad)(md:Md)(v1 v2:PV):zaj GG C md AA.same_claim [v1,v2]=zg5 AA GG C md v1 v2:=by kernel_rfl
noncomputable def zfc(A:Adr)(G:Gl)(C:zad)(md:Md)(kk:PV→PV→Option PV→Option PV→M PV)(v1:PV)(v2:PV)(v3:Option PV)(v4:Option PV)(v5:PV):M PV:=
 (tup2 v5 fun v6 v7=>
 (ifM (C md A.same_claim [v2,v7])
 (((zcA (M.ret v6)).bind fun v8=>(cutM false v1 Option.none v8)).bind fun v9=>(((zcA (opM false .Add v6 (.int 1))).bind fun v10=>(cutM false v1 v10 Option.none)).bind fun v11=>(opM false .Add v9 v11)))
 (kk v1 v2 (some v6) (some v7))))
noncomputable def zdt(A:Adr)(G:Gl)(C:zad)(md:Md)  (v1:PV) (v2:PV) (v3:Option PV) (v4:Option PV):M PV:=
 (M.ret PV.none)
noncomputable def zbe(A:Adr)(G:Gl)(C:zad)(md:Md)(chk:M Unit):List PV→PV→PV→Option PV→Option PV→M PV
 | [],v1,v2,v3,v4=>chk.bind fun _=>zdt A G C md v1 v2 v3 v4
 | x::xs,v1,v2,v3,v4=>chk.bind fun _=>zfc A G C md (zbe A G C md chk xs) v1 v2 v3 v4 x
noncomputable def zeo(A:Adr)(G:Gl)(C:zad)(md:Md)(F1:M Unit→List PV→PV→PV→Option PV→Option PV→M PV)(v1 v2:PV):M PV:=
 (M.cond (md.lp&&true) ((zdX [v1]).bind fun v3=>F1 (chkW v3.watch) v3.xs v1 v2 Option.none Option.none) M.fail)
noncomputable def zgK(A:Adr)(G:Gl)(C:zad)(md:Md)(v1 v2:PV):M PV:=zeo A G C md (zbe A G C md) v1 v2
noncomputable def zbm(v1 v2 v3 v4:Option PV):LL:=[("claims",v1),("claim",v2),("place",v3),("other",v4)]
theorem zen(C:zad)(md:Md)(chk:M Unit):∀(xs:List PV)(v1:PV)(v2:PV)(v3:Option PV)(v4:Option PV),zao chk (FN 29).scope (forT (stAt (FN 29).body 0)) (exsL (XX C md 59 29) (forB (stAt (FN 29).body 0))) xs (zbm (some v1) (some v2) v3 v4) (XK C md 60 29 1)=zbe AA GG C md  chk xs v1 v2 v3 v4:=by
 intro xs
 induction xs with
 | nil=>
  intro v1 v2 v3 v4
  have e:(XK C md 60 29 1) (zbm (some v1) (some v2) v3 v4)=zdt AA GG C md  v1 v2 v3 v4:=by kernel_rfl
  show (chk.bind fun _=>(XK C md 60 29 1) (zbm (some v1) (some v2) v3 v4))=chk.bind fun _=>zdt AA GG C md  v1 v2 v3 v4
  rw [e]
 | cons x xs ih=>
  intro v1 v2 v3 v4
  have k:(fun v1' v2' v3' v4'=>zao chk (FN 29).scope (forT (stAt (FN 29).body 0)) (exsL (XX C md 59 29) (forB (stAt (FN 29).body 0))) xs (zbm (some v1') (some v2') v3' v4') (XK C md 60 29 1))=zbe AA GG C md  chk xs:=by funext s0 s1 s2 s3;exact ih s0 s1 s2 s3
  have e:zao chk (FN 29).scope (forT (stAt (FN 29).body 0)) (exsL (XX C md 59 29) (forB (stAt (FN 29).body 0))) (x::xs) (zbm (some v1) (some v2) v3 v4) (XK C md 60 29 1)=chk.bind fun _=>zfc AA GG C md (fun v1' v2' v3' v4'=>zao chk (FN 29).scope (forT (stAt (FN 29).body 0)) (exsL (XX C md 59 29) (forB (stAt (FN 29).body 0))) xs (zbm (some v1') (some v2') v3' v4') (XK C md 60 29 1)) v1 v2 v3 v4 x:=by kernel_rfl
  rw [k] at e
  exact e
theorem zj6(C:zad)(md:Md)(v1 v2:PV):zaj GG C md AA.without [v1,v2]=zgK AA GG C md v1 v2:=by
 have r1:(fun chk' xs' v1' v2' v3' v4'=>zao chk' (FN 29).scope (forT (stAt (FN 29).body 0)) (exsL (XX C md 59 29) (forB (stAt (FN 29).body 0))) xs' (zbm (some v1') (some v2') v3' v4') (XK C md 60 29 1))=zbe AA GG C md:=by funext s0 s1 s2 s3 s4 s5;exact zen C md s0 s1 s2 s3 s4 s5
 have e:zaj GG C md AA.without [v1,v2]=zeo AA GG C md (fun chk' xs' v1' v2' v3' v4'=>zao chk' (FN 29).scope (forT (stAt (FN 29).body 0)) (exsL (XX C md 59 29) (forB (stAt (FN 29).body 0))) xs' (zbm (some v1') (some v2') v3' v4') (XK C md 60 29 1)) v1 v2:=by kernel_rfl
 rw [r1] at e
 exact e
noncomputable def zl4(A:Adr)(G:Gl)(C:zad)(md:Md)(v1 v2:PV):M PV:=
 (andM (((index v1 (.int 2)).bind fun v3=>(index v3 (.int 0))).bind fun v4=>(zac .Eq v4 (.str "name"))) (andM (index v1 (.int 1)) (andM (notM (index v2 (.int 1))) ((index v1 (.int 2)).bind fun v5=>((index v2 (.int 2)).bind fun v6=>(zac .Eq v5 v6))))))
theorem zl3(C:zad)(md:Md)(v1 v2:PV):zaj GG C md AA.clashes [v1,v2]=zl4 AA GG C md v1 v2:=by kernel_rfl
noncomputable def zgX(A:Adr)(G:Gl)(C:zad)(md:Md)(v1 v2:PV):M PV:=
 (ifM (orM (notM (isM G (.bi .tuple) v2)) (orM ((biM md false "len" [v2]).bind fun v3=>(zac .Lt v3 (.int 2))) (notM ((index v2 (.int 0)).bind fun v4=>(isM G (.bi .str) v4)))))
 (M.ret (.bool false))
 (((seqM [(M.ret v1),(index v2 (.int 1))]).bind fun v5=>(C md A.without v5)).bind fun v6=>
 (ifM (zac .Is v6 PV.none)
 (M.ret (.bool false))
 (M.cond (md.lp&&true) (((seqM [(index v2 (.int 1))]).bind fun v7=>(C md A.parts v7)).bind fun v8=>(tup2 v8 fun v9 v10=>
 (ifM ((index v2 (.int 0)).bind fun v11=>(zac .Eq v11 (.str "shut")))
 (andM ((biM md false "len" [v2]).bind fun v12=>(zac .Eq v12 (.int 2))) (zac .Eq v9 (.str "shut")))
 (ifM ((index v2 (.int 0)).bind fun v13=>(zac .Eq v13 (.str "clash")))
 (andM ((biM md false "len" [v2]).bind fun v14=>(zac .Eq v14 (.int 3))) (andM (((seqM [(M.ret v1),(index v2 (.int 2))]).bind fun v15=>(C md A.without v15)).bind fun v16=>(zac .IsNot v16 PV.none)) ((seqM [(index v2 (.int 1)),(index v2 (.int 2))]).bind fun v17=>(C md A.clashes v17))))
 (ifM ((index v2 (.int 0)).bind fun v18=>(zac .Eq v18 (.str "apart")))
 (andM ((biM md false "len" [v2]).bind fun v19=>(zac .Eq v19 (.int 3))) (andM (zac .Eq v9 (.str "apart")) ((seqM [(opM false .Add v6 v10),(index v2 (.int 2))]).bind fun v20=>(C md A.stands_for v20))))
 (ifM (orM ((index v2 (.int 0)).bind fun v21=>(zac .NotEq v21 (.str "fork"))) (orM ((biM md false "len" [v2]).bind fun v22=>(zac .NotEq v22 (.int 4))) (zac .NotEq v9 (.str "fork"))))
 (M.ret (.bool false))
 (andM ((seqM [((cutM false v10 Option.none (some 1)).bind fun v23=>(opM false .Add v6 v23)),(index v2 (.int 2))]).bind fun v24=>(C md A.stands_for v24)) ((seqM [((cutM false v10 (some 1) Option.none).bind fun v25=>(opM false .Add v6 v25)),(index v2 (.int 3))]).bind fun v26=>(C md A.stands_for v26))))))))) M.fail))))
theorem zbF(C:zad)(md:Md)(v1 v2:PV):zaj GG C md AA.stands_for [v1,v2]=zgX AA GG C md v1 v2:=by kernel_rfl
noncomputable def zmr(A:Adr)(G:Gl)(C:zad)(md:Md)(v1 v2:PV):M PV:=
 ((seqM [(C md A.begun [v1]),(M.ret v2)]).bind fun v3=>(C md A.stands_for v3))
theorem zmq(C:zad)(md:Md)(v1 v2:PV):zaj GG C md AA.stands [v1,v2]=zmr AA GG C md v1 v2:=by kernel_rfl
noncomputable def ziT(A:Adr)(G:Gl)(C:zad)(md:Md)(kk:PV→PV→Option PV→M PV)(v1:PV)(v2:PV)(v3:Option PV)(v4:PV):M PV:=
 (ifM (C md A.clashes [v2,v4])
 (M.ret (.tup [(.str "clash"),v2,v4]))
 (kk v1 v2 (some v4)))
noncomputable def zgv(A:Adr)(G:Gl)(C:zad)(md:Md)  (kk:PV→Option PV→Option PV→M PV) (v1:PV) (v2:PV) (v3:Option PV):M PV:=
 (kk v1 (some v2) v3)
noncomputable def za5(A:Adr)(G:Gl)(C:zad)(md:Md)(kk:PV→Option PV→Option PV→M PV)(chk:M Unit):List PV→PV→PV→Option PV→M PV
 | [],v1,v2,v3=>chk.bind fun _=>zgv A G C md kk v1 v2 v3
 | x::xs,v1,v2,v3=>chk.bind fun _=>ziT A G C md (za5 A G C md kk chk xs) v1 v2 v3 x
noncomputable def zgu(A:Adr)(G:Gl)(C:zad)(md:Md)(F2:M Unit→List PV→PV→PV→Option PV→M PV)(kk:PV→Option PV→Option PV→M PV)(v1:PV)(v2:Option PV)(v3:Option PV)(v4:PV):M PV:=
 (ifM (((C md A.parts [v4]).bind fun v5=>(index v5 (.int 0))).bind fun v6=>(zac .Eq v6 (.str "shut")))
 (M.ret (.tup [(.str "shut"),v4]))
 (M.cond (md.lp&&true) ((zaz v1).bind fun v7=>F2 (chkW v7.watch) v7.xs v1 v4 v3) M.fail))
noncomputable def zgw(A:Adr)(G:Gl)(C:zad)(md:Md)  (v1:PV) (v2:Option PV) (v3:Option PV):M PV:=
 (M.ret PV.none)
noncomputable def zaJ(A:Adr)(G:Gl)(C:zad)(md:Md)(chk:M Unit):List PV→PV→Option PV→Option PV→M PV
 | [],v1,v2,v3=>chk.bind fun _=>zgw A G C md v1 v2 v3
 | x::xs,v1,v2,v3=>chk.bind fun _=>zgu A G C md (za5 A G C md (zaJ A G C md chk xs)) (zaJ A G C md chk xs) v1 v2 v3 x
noncomputable def zlQ(A:Adr)(G:Gl)(C:zad)(md:Md)(F1:M Unit→List PV→PV→Option PV→Option PV→M PV)(v1:PV):M PV:=
 (M.cond (md.lp&&true) ((zaz v1).bind fun v2=>F1 (chkW v2.watch) v2.xs v1 Option.none Option.none) M.fail)
noncomputable def zoS(A:Adr)(G:Gl)(C:zad)(md:Md)(v1:PV):M PV:=zlQ A G C md (zaJ A G C md) v1
noncomputable def zaE(v1 v2 v3:Option PV):LL:=[("claims",v1),("claim",v2),("other",v3)]
theorem zgs(C:zad)(md:Md)(kl:LL→M PV)(chk:M Unit):∀(xs:List PV)(v1:PV)(v2:PV)(v3:Option PV),zao chk (FN 33).scope (forT (stAt (forB (stAt (FN 33).body 0)) 1)) (exsL (XX C md 58 33) (forB (stAt (forB (stAt (FN 33).body 0)) 1))) xs (zaE (some v1) (some v2) v3) (fun l=>exsL (XX C md 59 33) (List.drop 2 (forB (stAt (FN 33).body 0))) l kl)=za5 AA GG C md (fun v1' v2' v3'=>kl (zaE (some v1') v2' v3')) chk xs v1 v2 v3:=by
 intro xs
 induction xs with
 | nil=>
  intro v1 v2 v3
  have e:(fun l=>exsL (XX C md 59 33) (List.drop 2 (forB (stAt (FN 33).body 0))) l kl) (zaE (some v1) (some v2) v3)=zgv AA GG C md (fun v1' v2' v3'=>kl (zaE (some v1') v2' v3')) v1 v2 v3:=by kernel_rfl
  show (chk.bind fun _=>(fun l=>exsL (XX C md 59 33) (List.drop 2 (forB (stAt (FN 33).body 0))) l kl) (zaE (some v1) (some v2) v3))=chk.bind fun _=>zgv AA GG C md (fun v1' v2' v3'=>kl (zaE (some v1') v2' v3')) v1 v2 v3
  rw [e]
 | cons x xs ih=>
  intro v1 v2 v3
  have k:(fun v1' v2' v3'=>zao chk (FN 33).scope (forT (stAt (forB (stAt (FN 33).body 0)) 1)) (exsL (XX C md 58 33) (forB (stAt (forB (stAt (FN 33).body 0)) 1))) xs (zaE (some v1') (some v2') v3') (fun l=>exsL (XX C md 59 33) (List.drop 2 (forB (stAt (FN 33).body 0))) l kl))=za5 AA GG C md (fun v1' v2' v3'=>kl (zaE (some v1') v2' v3')) chk xs:=by funext s0 s1 s2;exact ih s0 s1 s2
  have e:zao chk (FN 33).scope (forT (stAt (forB (stAt (FN 33).body 0)) 1)) (exsL (XX C md 58 33) (forB (stAt (forB (stAt (FN 33).body 0)) 1))) (x::xs) (zaE (some v1) (some v2) v3) (fun l=>exsL (XX C md 59 33) (List.drop 2 (forB (stAt (FN 33).body 0))) l kl)=chk.bind fun _=>ziT AA GG C md (fun v1' v2' v3'=>zao chk (FN 33).scope (forT (stAt (forB (stAt (FN 33).body 0)) 1)) (exsL (XX C md 58 33) (forB (stAt (forB (stAt (FN 33).body 0)) 1))) xs (zaE (some v1') (some v2') v3') (fun l=>exsL (XX C md 59 33) (List.drop 2 (forB (stAt (FN 33).body 0))) l kl)) v1 v2 v3 x:=by kernel_rfl
  rw [k] at e
  exact e
theorem zgt(C:zad)(md:Md)(chk:M Unit):∀(xs:List PV)(v1:PV)(v2:Option PV)(v3:Option PV),zao chk (FN 33).scope (forT (stAt (FN 33).body 0)) (exsL (XX C md 59 33) (forB (stAt (FN 33).body 0))) xs (zaE (some v1) v2 v3) (XK C md 60 33 1)=zaJ AA GG C md  chk xs v1 v2 v3:=by
 intro xs
 induction xs with
 | nil=>
  intro v1 v2 v3
  have e:(XK C md 60 33 1) (zaE (some v1) v2 v3)=zgw AA GG C md  v1 v2 v3:=by kernel_rfl
  show (chk.bind fun _=>(XK C md 60 33 1) (zaE (some v1) v2 v3))=chk.bind fun _=>zgw AA GG C md  v1 v2 v3
  rw [e]
 | cons x xs ih=>
  intro v1 v2 v3
  have k:(fun v1' v2' v3'=>zao chk (FN 33).scope (forT (stAt (FN 33).body 0)) (exsL (XX C md 59 33) (forB (stAt (FN 33).body 0))) xs (zaE (some v1') v2' v3') (XK C md 60 33 1))=zaJ AA GG C md  chk xs:=by funext s0 s1 s2;exact ih s0 s1 s2
  have q2:(fun chk' xs' v1' v2' v3'=>zao chk' (FN 33).scope (forT (stAt (forB (stAt (FN 33).body 0)) 1)) (exsL (XX C md 58 33) (forB (stAt (forB (stAt (FN 33).body 0)) 1))) xs' (zaE (some v1') (some v2') v3') (fun l=>exsL (XX C md 59 33) (List.drop 2 (forB (stAt (FN 33).body 0))) l (fun l=>zao chk (FN 33).scope (forT (stAt (FN 33).body 0)) (exsL (XX C md 59 33) (forB (stAt (FN 33).body 0))) xs l (XK C md 60 33 1))))=za5 AA GG C md (zaJ AA GG C md  chk xs):=by rw [← k];funext s0 s1 s2 s3 s4;exact zgs C md (fun l=>zao chk (FN 33).scope (forT (stAt (FN 33).body 0)) (exsL (XX C md 59 33) (forB (stAt (FN 33).body 0))) xs l (XK C md 60 33 1)) s0 s1 s2 s3 s4
  have e:zao chk (FN 33).scope (forT (stAt (FN 33).body 0)) (exsL (XX C md 59 33) (forB (stAt (FN 33).body 0))) (x::xs) (zaE (some v1) v2 v3) (XK C md 60 33 1)=chk.bind fun _=>zgu AA GG C md (fun chk' xs' v1' v2' v3'=>zao chk' (FN 33).scope (forT (stAt (forB (stAt (FN 33).body 0)) 1)) (exsL (XX C md 58 33) (forB (stAt (forB (stAt (FN 33).body 0)) 1))) xs' (zaE (some v1') (some v2') v3') (fun l=>exsL (XX C md 59 33) (List.drop 2 (forB (stAt (FN 33).body 0))) l (fun l=>zao chk (FN 33).scope (forT (stAt (FN 33).body 0)) (exsL (XX C md 59 33) (forB (stAt (FN 33).body 0))) xs l (XK C md 60 33 1)))) (fun v1' v2' v3'=>zao chk (FN 33).scope (forT (stAt (FN 33).body 0)) (exsL (XX C md 59 33) (forB (stAt (FN 33).body 0))) xs (zaE (some v1') v2' v3') (XK C md 60 33 1)) v1 v2 v3 x:=by kernel_rfl
  rw [k,q2] at e
  exact e
theorem zoR(C:zad)(md:Md)(v1:PV):zaj GG C md AA.ended [v1]=zoS AA GG C md v1:=by
 have r1:(fun chk' xs' v1' v2' v3'=>zao chk' (FN 33).scope (forT (stAt (FN 33).body 0)) (exsL (XX C md 59 33) (forB (stAt (FN 33).body 0))) xs' (zaE (some v1') v2' v3') (XK C md 60 33 1))=zaJ AA GG C md:=by funext s0 s1 s2 s3 s4;exact zgt C md s0 s1 s2 s3 s4
 have e:zaj GG C md AA.ended [v1]=zlQ AA GG C md (fun chk' xs' v1' v2' v3'=>zao chk' (FN 33).scope (forT (stAt (FN 33).body 0)) (exsL (XX C md 59 33) (forB (stAt (FN 33).body 0))) xs' (zaE (some v1') v2' v3') (XK C md 60 33 1)) v1:=by kernel_rfl
 rw [r1] at e
 exact e
noncomputable def zbx(A:Adr)(G:Gl)(C:zad)(md:Md)(kk:PV→PV→PV→Option PV→Option PV→Option PV→Option PV→M PV)(v1:PV)(v2:PV)(v3:PV)(v4:Option PV)(v5:Option PV)(v6:Option PV)(v7:Option PV)(v8:PV):M PV:=
 (M.cond (md.lp&&true) ((C md A.parts [v8]).bind fun v9=>(tup2 v9 fun v10 v11=>
 (ifM (zac .Eq v10 (.str "apart"))
 (M.ret v8)
 (ifM (zac .Eq v10 (.str "fork"))
 (((seqM [(za2 md false (zaz v11) fun v12=>(((seqM [(opM false .Add v1 (.lst [v12]))]).bind fun v13=>(C md.inn A.ended v13)).bind fun v14=>(zac .Is v14 PV.none)).bind fun v15=>(zan v15).bind fun v16=>M.cond v16 (M.ret (some v12)) (M.ret Option.none))]).bind fun v17=>(biM md false "len" v17)).bind fun v18=>
 (ifM (zac .Lt v18 v3)
 (kk v1 v8 v18 (some v8) (some v10) (some v11) (some v18))
 (kk v1 v2 v3 (some v8) (some v10) (some v11) (some v18))))
 (kk v1 v2 v3 (some v8) (some v10) (some v11) v7))))) M.fail)
noncomputable def zbY(A:Adr)(G:Gl)(C:zad)(md:Md)  (v1:PV) (v2:PV) (v3:PV) (v4:Option PV) (v5:Option PV) (v6:Option PV) (v7:Option PV):M PV:=
 (M.ret v2)
noncomputable def zaB(A:Adr)(G:Gl)(C:zad)(md:Md)(chk:M Unit):List PV→PV→PV→PV→Option PV→Option PV→Option PV→Option PV→M PV
 | [],v1,v2,v3,v4,v5,v6,v7=>chk.bind fun _=>zbY A G C md v1 v2 v3 v4 v5 v6 v7
 | x::xs,v1,v2,v3,v4,v5,v6,v7=>chk.bind fun _=>zbx A G C md (zaB A G C md chk xs) v1 v2 v3 v4 v5 v6 v7 x
noncomputable def zch(A:Adr)(G:Gl)(C:zad)(md:Md)(F1:M Unit→List PV→PV→PV→PV→Option PV→Option PV→Option PV→Option PV→M PV)(v1:PV):M PV:=
 (M.cond (md.lp&&true) ((zaz v1).bind fun v2=>F1 (chkW v2.watch) v2.xs v1 PV.none (.int 3) Option.none Option.none Option.none Option.none) M.fail)
noncomputable def zdS(A:Adr)(G:Gl)(C:zad)(md:Md)(v1:PV):M PV:=zch A G C md (zaB A G C md) v1
noncomputable def zaH(v1 v2 v3 v4 v5 v6 v7:Option PV):LL:=[("claims",v1),("best",v2),("least",v3),("claim",v4),("kind",v5),("some",v6),("ways",v7)]
theorem zdc(C:zad)(md:Md)(chk:M Unit):∀(xs:List PV)(v1:PV)(v2:PV)(v3:PV)(v4:Option PV)(v5:Option PV)(v6:Option PV)(v7:Option PV),zao chk (FN 34).scope (forT (stAt (FN 34).body 2)) (exsL (XX C md 59 34) (forB (stAt (FN 34).body 2))) xs (zaH (some v1) (some v2) (some v3) v4 v5 v6 v7) (XK C md 60 34 3)=zaB AA GG C md  chk xs v1 v2 v3 v4 v5 v6 v7:=by
 intro xs
 induction xs with
 | nil=>
  intro v1 v2 v3 v4 v5 v6 v7
  have e:(XK C md 60 34 3) (zaH (some v1) (some v2) (some v3) v4 v5 v6 v7)=zbY AA GG C md  v1 v2 v3 v4 v5 v6 v7:=by kernel_rfl
  show (chk.bind fun _=>(XK C md 60 34 3) (zaH (some v1) (some v2) (some v3) v4 v5 v6 v7))=chk.bind fun _=>zbY AA GG C md  v1 v2 v3 v4 v5 v6 v7
  rw [e]
 | cons x xs ih=>
  intro v1 v2 v3 v4 v5 v6 v7
  have k:(fun v1' v2' v3' v4' v5' v6' v7'=>zao chk (FN 34).scope (forT (stAt (FN 34).body 2)) (exsL (XX C md 59 34) (forB (stAt (FN 34).body 2))) xs (zaH (some v1') (some v2') (some v3') v4' v5' v6' v7') (XK C md 60 34 3))=zaB AA GG C md  chk xs:=by funext s0 s1 s2 s3 s4 s5 s6;exact ih s0 s1 s2 s3 s4 s5 s6
  have e:zao chk (FN 34).scope (forT (stAt (FN 34).body 2)) (exsL (XX C md 59 34) (forB (stAt (FN 34).body 2))) (x::xs) (zaH (some v1) (some v2) (some v3) v4 v5 v6 v7) (XK C md 60 34 3)=chk.bind fun _=>zbx AA GG C md (fun v1' v2' v3' v4' v5' v6' v7'=>zao chk (FN 34).scope (forT (stAt (FN 34).body 2)) (exsL (XX C md 59 34) (forB (stAt (FN 34).body 2))) xs (zaH (some v1') (some v2') (some v3') v4' v5' v6' v7') (XK C md 60 34 3)) v1 v2 v3 v4 v5 v6 v7 x:=by kernel_rfl
  rw [k] at e
  exact e
theorem zg9(C:zad)(md:Md)(v1:PV):zaj GG C md AA.next_claim [v1]=zdS AA GG C md v1:=by
 have r1:(fun chk' xs' v1' v2' v3' v4' v5' v6' v7'=>zao chk' (FN 34).scope (forT (stAt (FN 34).body 2)) (exsL (XX C md 59 34) (forB (stAt (FN 34).body 2))) xs' (zaH (some v1') (some v2') (some v3') v4' v5' v6' v7') (XK C md 60 34 3))=zaB AA GG C md:=by funext s0 s1 s2 s3 s4 s5 s6 s7 s8;exact zdc C md s0 s1 s2 s3 s4 s5 s6 s7 s8
 have e:zaj GG C md AA.next_claim [v1]=zch AA GG C md (fun chk' xs' v1' v2' v3' v4' v5' v6' v7'=>zao chk' (FN 34).scope (forT (stAt (FN 34).body 2)) (exsL (XX C md 59 34) (forB (stAt (FN 34).body 2))) xs' (zaH (some v1') (some v2') (some v3') v4' v5' v6' v7') (XK C md 60 34 3)) v1:=by kernel_rfl
 rw [r1] at e
 exact e
noncomputable def zc3(A:Adr)(G:Gl)(C:zad)(md:Md)(kk:PV→PV→Option PV→Option PV→Option PV→M PV)(v1:PV)(v2:PV)(v3:Option PV)(v4:Option PV)(v5:Option PV)(v6:PV):M PV:=
 (tup3 v6 fun v7 v8 v9=>
 (ifM ((index v9 (.int 0)).bind fun v10=>(zac .Eq v10 (.str "name")))
 ((index v9 (.int 1)).bind fun v11=>((setAt v2 v11 v8).bind fun _=>
 (kk v1 v2 (some v7) (some v8) (some v9))))
 (kk v1 v2 (some v7) (some v8) (some v9))))
noncomputable def zbV(A:Adr)(G:Gl)(C:zad)(md:Md)  (v1:PV) (v2:PV) (v3:Option PV) (v4:Option PV) (v5:Option PV):M PV:=
 (M.ret v2)
noncomputable def zaA(A:Adr)(G:Gl)(C:zad)(md:Md)(chk:M Unit):List PV→PV→PV→Option PV→Option PV→Option PV→M PV
 | [],v1,v2,v3,v4,v5=>chk.bind fun _=>zbV A G C md v1 v2 v3 v4 v5
 | x::xs,v1,v2,v3,v4,v5=>chk.bind fun _=>zc3 A G C md (zaA A G C md chk xs) v1 v2 v3 v4 v5 x
noncomputable def zce(A:Adr)(G:Gl)(C:zad)(md:Md)(F1:M Unit→List PV→PV→PV→Option PV→Option PV→Option PV→M PV)(v1:PV):M PV:=
 ((cnew (.dict [])).bind fun v2=>
 (M.cond (md.lp&&true) ((zaz v1).bind fun v3=>F1 (chkW v3.watch) v3.xs v1 v2 Option.none Option.none Option.none) M.fail))
noncomputable def zdP(A:Adr)(G:Gl)(C:zad)(md:Md)(v1:PV):M PV:=zce A G C md (zaA A G C md) v1
noncomputable def zaG(v1 v2 v3 v4 v5:Option PV):LL:=[("claims",v1),("found",v2),("number",v3),("truth",v4),("saying",v5)]
theorem zc2(C:zad)(md:Md)(chk:M Unit):∀(xs:List PV)(v1:PV)(v2:PV)(v3:Option PV)(v4:Option PV)(v5:Option PV),zao chk (FN 35).scope (forT (stAt (FN 35).body 1)) (exsL (XX C md 59 35) (forB (stAt (FN 35).body 1))) xs (zaG (some v1) (some v2) v3 v4 v5) (XK C md 60 35 2)=zaA AA GG C md  chk xs v1 v2 v3 v4 v5:=by
 intro xs
 induction xs with
 | nil=>
  intro v1 v2 v3 v4 v5
  have e:(XK C md 60 35 2) (zaG (some v1) (some v2) v3 v4 v5)=zbV AA GG C md  v1 v2 v3 v4 v5:=by kernel_rfl
  show (chk.bind fun _=>(XK C md 60 35 2) (zaG (some v1) (some v2) v3 v4 v5))=chk.bind fun _=>zbV AA GG C md  v1 v2 v3 v4 v5
  rw [e]
 | cons x xs ih=>
  intro v1 v2 v3 v4 v5
  have k:(fun v1' v2' v3' v4' v5'=>zao chk (FN 35).scope (forT (stAt (FN 35).body 1)) (exsL (XX C md 59 35) (forB (stAt (FN 35).body 1))) xs (zaG (some v1') (some v2') v3' v4' v5') (XK C md 60 35 2))=zaA AA GG C md  chk xs:=by funext s0 s1 s2 s3 s4;exact ih s0 s1 s2 s3 s4
  have e:zao chk (FN 35).scope (forT (stAt (FN 35).body 1)) (exsL (XX C md 59 35) (forB (stAt (FN 35).body 1))) (x::xs) (zaG (some v1) (some v2) v3 v4 v5) (XK C md 60 35 2)=chk.bind fun _=>zc3 AA GG C md (fun v1' v2' v3' v4' v5'=>zao chk (FN 35).scope (forT (stAt (FN 35).body 1)) (exsL (XX C md 59 35) (forB (stAt (FN 35).body 1))) xs (zaG (some v1') (some v2') v3' v4' v5') (XK C md 60 35 2)) v1 v2 v3 v4 v5 x:=by kernel_rfl
  rw [k] at e
  exact e
theorem zg3(C:zad)(md:Md)(v1:PV):zaj GG C md AA.setting_of [v1]=zdP AA GG C md v1:=by
 have r1:(fun chk' xs' v1' v2' v3' v4' v5'=>zao chk' (FN 35).scope (forT (stAt (FN 35).body 1)) (exsL (XX C md 59 35) (forB (stAt (FN 35).body 1))) xs' (zaG (some v1') (some v2') v3' v4' v5') (XK C md 60 35 2))=zaA AA GG C md:=by funext s0 s1 s2 s3 s4 s5 s6;exact zc2 C md s0 s1 s2 s3 s4 s5 s6
 have e:zaj GG C md AA.setting_of [v1]=zce AA GG C md (fun chk' xs' v1' v2' v3' v4' v5'=>zao chk' (FN 35).scope (forT (stAt (FN 35).body 1)) (exsL (XX C md 59 35) (forB (stAt (FN 35).body 1))) xs' (zaG (some v1') (some v2') v3' v4' v5') (XK C md 60 35 2)) v1:=by kernel_rfl
 rw [r1] at e
 exact e
noncomputable def zml(A:Adr)(G:Gl)(C:zad)(md:Md)(v1:PV):M PV:=
 ((C md A.ended [v1]).bind fun v2=>
 (ifM (zac .IsNot v2 PV.none)
 (M.ret (.tup [v2,PV.none]))
 ((C md A.next_claim [v1]).bind fun v3=>
 (ifM (zac .Is v3 PV.none)
 ((seqM [(M.ret PV.none),(C md A.setting_of [v1])]).bind fun v4=>(M.ret (.tup v4)))
 (M.cond (md.lp&&true) ((C md A.parts [v3]).bind fun v5=>(tup2 v5 fun v6 v7=>
 ((C md A.without [v1,v3]).bind fun v8=>
 (ifM (zac .Eq v6 (.str "apart"))
 (M.cond (md.lp&&true) (((seqM [(opM false .Add v8 v7)]).bind fun v9=>(C md A.worked v9)).bind fun v10=>(tup2 v10 fun v11 v12=>
 (ifM (zac .Is v11 PV.none)
 (M.ret (.tup [PV.none,v12]))
 (M.ret (.tup [(.tup [(.str "apart"),v3,v11]),PV.none]))))) M.fail)
 (M.cond (md.lp&&true) (((seqM [((cutM false v7 Option.none (some 1)).bind fun v13=>(opM false .Add v8 v13))]).bind fun v14=>(C md A.worked v14)).bind fun v15=>(tup2 v15 fun v16 v17=>
 (ifM (zac .Is v16 PV.none)
 (M.ret (.tup [PV.none,v17]))
 (M.cond (md.lp&&true) (((seqM [((cutM false v7 (some 1) Option.none).bind fun v18=>(opM false .Add v8 v18))]).bind fun v19=>(C md A.worked v19)).bind fun v20=>(tup2 v20 fun v21 v22=>
 (ifM (zac .Is v21 PV.none)
 (M.ret (.tup [PV.none,v22]))
 (M.ret (.tup [(.tup [(.str "fork"),v3,v16,v21]),PV.none]))))) M.fail)))) M.fail))))) M.fail)))))
theorem zcX(C:zad)(md:Md)(v1:PV):zaj GG C md AA.worked [v1]=zml AA GG C md v1:=by kernel_rfl
noncomputable def zhR(A:Adr)(G:Gl)(C:zad)(md:Md)(kk:PV→PV→PV→PV→Option PV→M PV)(v1:PV)(v2:PV)(v3:PV)(v4:PV)(v5:Option PV)(v6:PV):M PV:=
 ((zcj md false "get" v3 (M.ret [v6,(.bool false)])).bind fun v7=>((setAt v4 v6 v7).bind fun _=>
 (kk v1 v2 v3 v4 (some v6))))
noncomputable def zhS(A:Adr)(G:Gl)(C:zad)(md:Md)  (v1:PV) (v2:PV) (v3:PV) (v4:PV) (v5:Option PV):M PV:=
 (M.ret (.tup [(.str "setting"),v4]))
noncomputable def zcd(A:Adr)(G:Gl)(C:zad)(md:Md)(chk:M Unit):List PV→PV→PV→PV→PV→Option PV→M PV
 | [],v1,v2,v3,v4,v5=>chk.bind fun _=>zhS A G C md v1 v2 v3 v4 v5
 | x::xs,v1,v2,v3,v4,v5=>chk.bind fun _=>zhR A G C md (zcd A G C md chk xs) v1 v2 v3 v4 v5 x
noncomputable def zkN(A:Adr)(G:Gl)(C:zad)(md:Md)(F1:M Unit→List PV→PV→PV→PV→PV→Option PV→M PV)(v1:PV):M PV:=
 (M.cond (md.lp&&true) (((seqM [(C md A.begun [v1])]).bind fun v2=>(C md A.worked v2)).bind fun v3=>(tup2 v3 fun v4 v5=>
 (ifM (zac .IsNot v4 PV.none)
 (M.ret (.tup [(.str "tree"),v4]))
 ((cnew (.dict [])).bind fun v6=>
 (M.cond (md.lp&&true) (((C md A.names_in [v1]).bind zaz).bind fun v7=>F1 (chkW v7.watch) v7.xs v1 v4 v5 v6 Option.none) M.fail))))) M.fail)
noncomputable def znp(A:Adr)(G:Gl)(C:zad)(md:Md)(v1:PV):M PV:=zkN A G C md (zcd A G C md) v1
noncomputable def zdO(v1 v2 v3 v4 v5:Option PV):LL:=[("row",v1),("tree",v2),("setting",v3),("found",v4),("name",v5)]
theorem zg2(C:zad)(md:Md)(chk:M Unit):∀(xs:List PV)(v1:PV)(v2:PV)(v3:PV)(v4:PV)(v5:Option PV),zao chk (FN 37).scope (forT (stAt (FN 37).body 3)) (exsL (XX C md 59 37) (forB (stAt (FN 37).body 3))) xs (zdO (some v1) (some v2) (some v3) (some v4) v5) (XK C md 60 37 4)=zcd AA GG C md  chk xs v1 v2 v3 v4 v5:=by
 intro xs
 induction xs with
 | nil=>
  intro v1 v2 v3 v4 v5
  have e:(XK C md 60 37 4) (zdO (some v1) (some v2) (some v3) (some v4) v5)=zhS AA GG C md  v1 v2 v3 v4 v5:=by kernel_rfl
  show (chk.bind fun _=>(XK C md 60 37 4) (zdO (some v1) (some v2) (some v3) (some v4) v5))=chk.bind fun _=>zhS AA GG C md  v1 v2 v3 v4 v5
  rw [e]
 | cons x xs ih=>
  intro v1 v2 v3 v4 v5
  have k:(fun v1' v2' v3' v4' v5'=>zao chk (FN 37).scope (forT (stAt (FN 37).body 3)) (exsL (XX C md 59 37) (forB (stAt (FN 37).body 3))) xs (zdO (some v1') (some v2') (some v3') (some v4') v5') (XK C md 60 37 4))=zcd AA GG C md  chk xs:=by funext s0 s1 s2 s3 s4;exact ih s0 s1 s2 s3 s4
  have e:zao chk (FN 37).scope (forT (stAt (FN 37).body 3)) (exsL (XX C md 59 37) (forB (stAt (FN 37).body 3))) (x::xs) (zdO (some v1) (some v2) (some v3) (some v4) v5) (XK C md 60 37 4)=chk.bind fun _=>zhR AA GG C md (fun v1' v2' v3' v4' v5'=>zao chk (FN 37).scope (forT (stAt (FN 37).body 3)) (exsL (XX C md 59 37) (forB (stAt (FN 37).body 3))) xs (zdO (some v1') (some v2') (some v3') (some v4') v5') (XK C md 60 37 4)) v1 v2 v3 v4 v5 x:=by kernel_rfl
  rw [k] at e
  exact e
theorem zpw(C:zad)(md:Md)(v1:PV):zaj GG C md AA.shut [v1]=znp AA GG C md v1:=by
 have r1:(fun chk' xs' v1' v2' v3' v4' v5'=>zao chk' (FN 37).scope (forT (stAt (FN 37).body 3)) (exsL (XX C md 59 37) (forB (stAt (FN 37).body 3))) xs' (zdO (some v1') (some v2') (some v3') (some v4') v5') (XK C md 60 37 4))=zcd AA GG C md:=by funext s0 s1 s2 s3 s4 s5 s6;exact zg2 C md s0 s1 s2 s3 s4 s5 s6
 have e:zaj GG C md AA.shut [v1]=zkN AA GG C md (fun chk' xs' v1' v2' v3' v4' v5'=>zao chk' (FN 37).scope (forT (stAt (FN 37).body 3)) (exsL (XX C md 59 37) (forB (stAt (FN 37).body 3))) xs' (zdO (some v1') (some v2') (some v3') (some v4') v5') (XK C md 60 37 4)) v1:=by kernel_rfl
 rw [r1] at e
 exact e
noncomputable def zhX(A:Adr)(G:Gl)(C:zad)(md:Md)(v1 v2:PV):M PV:=
 ((C md A.need_row [v1]).bind fun _=>
 (ifM (notM (C md A.stands [v1,v2]))
 M.fail
 (M.ret PV.none)))
theorem zhW(C:zad)(md:Md)(v1 v2:PV):zaj GG C md AA.need_tree [v1,v2]=zhX AA GG C md v1 v2:=by kernel_rfl
noncomputable def zjE(A:Adr)(G:Gl)(C:zad)(md:Md)(v1 v2:PV):M PV:=
 ((((index v1 (.int 1)).bind fun v3=>(index v3 (.int 0))).bind fun v4=>(zac .Lt v4 v2)).bind fun v5=>
 (ifM ((((index v1 (.int 2)).bind fun v6=>(index v6 (.int 0))).bind fun v7=>(zac .Lt v7 v2)).bind fun v8=>(zac .Eq v5 v8))
 (ifM (M.ret v5) (M.ret (.tup [(.str "no")])) (M.ret (.tup [(.str "yes")])))
 (ifM (M.ret v5)
 ((index v1 (.int 1)).bind fun v9=>(index v9 (.int 2)))
 ((seqM [(M.ret (.str "not")),((index v1 (.int 1)).bind fun v10=>(index v10 (.int 2)))]).bind fun v11=>(M.ret (.tup v11))))))
theorem zjD(C:zad)(md:Md)(v1 v2:PV):zaj GG C md AA.of_clash [v1,v2]=zjE AA GG C md v1 v2:=by kernel_rfl
noncomputable def zk3(A:Adr)(G:Gl)(C:zad)(md:Md)(v1 v2:PV):M PV:=
 (ifM ((index v1 (.int 0)).bind fun v3=>(zac .Eq v3 (.str "clash")))
 (C md A.of_clash [v1,v2])
 ((((index v1 (.int 1)).bind fun v4=>(index v4 (.int 0))).bind fun v5=>(zac .Lt v5 v2)).bind fun v6=>
 (ifM ((index v1 (.int 0)).bind fun v7=>(zac .Eq v7 (.str "shut")))
 (ifM (M.ret v6) (M.ret (.tup [(.str "no")])) (M.ret (.tup [(.str "yes")])))
 (ifM ((index v1 (.int 0)).bind fun v8=>(zac .Eq v8 (.str "apart")))
 ((seqM [(index v1 (.int 2)),(M.ret v2)]).bind fun v9=>(C md A.of_tree v9))
 ((ifM (M.ret v6) (M.ret (.str "or")) (M.ret (.str "and"))).bind fun v10=>
 ((seqM [(M.ret v10),((seqM [(index v1 (.int 2)),(M.ret v2)]).bind fun v11=>(C md A.of_tree v11)),((seqM [(index v1 (.int 3)),(M.ret v2)]).bind fun v12=>(C md A.of_tree v12))]).bind fun v13=>(M.ret (.tup v13))))))))
theorem zc9(C:zad)(md:Md)(v1 v2:PV):zaj GG C md AA.of_tree [v1,v2]=zk3 AA GG C md v1 v2:=by kernel_rfl
noncomputable def zmL(A:Adr)(G:Gl)(C:zad)(md:Md)(v1 v2 v3:PV):M PV:=
 ((C md A.need_tree [v1,v2]).bind fun _=>
 (ifM (orM (notM (C md A.is_whole [v3])) (notM ((zac .LtE (.int 0) v3).bind fun v4=>(zan v4).bind fun v5=>M.cond v5 ((biM md false "len" [v1]).bind fun v6=>(zac .LtE v3 v6)) (M.ret v4))))
 M.fail
 (C md A.of_tree [v2,v3])))
theorem zmK(C:zad)(md:Md)(v1 v2 v3:PV):zaj GG C md AA.middle [v1,v2,v3]=zmL AA GG C md v1 v2 v3:=by kernel_rfl
noncomputable def zm2(A:Adr)(G:Gl)(C:zad)(md:Md)(v1 v2 v3:PV):M PV:=
 (ifM (zac .Eq v1 (.str "or"))
 (ifM (orM ((index (.tup [(.tup [(.str "yes")]),(.tup [(.str "no")])]) (.int 0)).bind fun v4=>(zac .Eq v2 v4)) ((index (.tup [(.tup [(.str "yes")]),(.tup [(.str "no")])]) (.int 0)).bind fun v5=>(zac .Eq v3 v5)))
 (index (.tup [(.tup [(.str "yes")]),(.tup [(.str "no")])]) (.int 0))
 (ifM (orM ((index (.tup [(.tup [(.str "yes")]),(.tup [(.str "no")])]) (.int 1)).bind fun v6=>(zac .Eq v2 v6)) (zac .Eq v2 v3))
 (M.ret v3)
 (ifM ((index (.tup [(.tup [(.str "yes")]),(.tup [(.str "no")])]) (.int 1)).bind fun v7=>(zac .Eq v3 v7))
 (M.ret v2)
 (M.ret (.tup [v1,v2,v3])))))
 (ifM (orM ((index (.tup [(.tup [(.str "no")]),(.tup [(.str "yes")])]) (.int 0)).bind fun v8=>(zac .Eq v2 v8)) ((index (.tup [(.tup [(.str "no")]),(.tup [(.str "yes")])]) (.int 0)).bind fun v9=>(zac .Eq v3 v9)))
 (index (.tup [(.tup [(.str "no")]),(.tup [(.str "yes")])]) (.int 0))
 (ifM (orM ((index (.tup [(.tup [(.str "no")]),(.tup [(.str "yes")])]) (.int 1)).bind fun v10=>(zac .Eq v2 v10)) (zac .Eq v2 v3))
 (M.ret v3)
 (ifM ((index (.tup [(.tup [(.str "no")]),(.tup [(.str "yes")])]) (.int 1)).bind fun v11=>(zac .Eq v3 v11))
 (M.ret v2)
 (M.ret (.tup [v1,v2,v3]))))))
theorem zm1(C:zad)(md:Md)(v1 v2 v3:PV):zaj GG C md AA.joined [v1,v2,v3]=zm2 AA GG C md v1 v2 v3:=by kernel_rfl
noncomputable def zmE(A:Adr)(G:Gl)(C:zad)(md:Md)(v1:PV):M PV:=
 ((index v1 (.int 0)).bind fun v2=>
 (ifM (zac .In v2 (.tup [(.str "and"),(.str "or")]))
 ((seqM [(M.ret v2),((seqM [(index v1 (.int 1))]).bind fun v3=>(C md A.neatly v3)),((seqM [(index v1 (.int 2))]).bind fun v4=>(C md A.neatly v4))]).bind fun v5=>(C md A.joined v5))
 (ifM (zac .NotEq v2 (.str "not"))
 (M.ret v1)
 (((seqM [(index v1 (.int 1))]).bind fun v6=>(C md A.neatly v6)).bind fun v7=>
 (ifM ((index v7 (.int 0)).bind fun v8=>(zac .Eq v8 (.str "not")))
 (index v7 (.int 1))
 (ifM (zac .Eq v7 (.tup [(.str "yes")]))
 (M.ret (.tup [(.str "no")]))
 (ifM (zac .Eq v7 (.tup [(.str "no")]))
 (M.ret (.tup [(.str "yes")]))
 (M.ret (.tup [(.str "not"),v7])))))))))
theorem zdd(C:zad)(md:Md)(v1:PV):zaj GG C md AA.neatly [v1]=zmE AA GG C md v1:=by kernel_rfl
noncomputable def zow(A:Adr)(G:Gl)(C:zad)(md:Md)(v1 v2:PV):M PV:=
 ((C md A.need_saying [v1]).bind fun _=>
 ((C md A.need_saying [v2]).bind fun _=>
 (ifM (((C md A.size_in [v1]).bind fun v3=>((C md A.size_in [v2]).bind fun v4=>(opM false .Add v3 v4))).bind fun v5=>(zac .Gt v5 (.int 59)))
 M.fail
 (M.cond (md.lp&&true) ((C md A.shut [(.lst [v1,(.tup [(.str "not"),v2])])]).bind fun v6=>(tup2 v6 fun v7 v8=>
 (ifM (zac .Eq v7 (.str "setting"))
 (M.ret (.tup [v7,v8]))
 ((seqM [(M.ret (.str "between")),((seqM [(C md A.middle [(.lst [v1,(.tup [(.str "not"),v2])]),v8,(.int 1)])]).bind fun v9=>(C md A.neatly v9))]).bind fun v10=>(M.ret (.tup v10)))))) M.fail))))
theorem zov(C:zad)(md:Md)(v1 v2:PV):zaj GG C md AA.leads [v1,v2]=zow AA GG C md v1 v2:=by kernel_rfl
noncomputable def zmD(A:Adr)(G:Gl)(C:zad)(md:Md)(v1 v2 v3:PV):M PV:=
 ((index v1 (.int 0)).bind fun v4=>
 (ifM (zac .Eq v4 (.str "name"))
 (ifM ((index v1 (.int 1)).bind fun v5=>(zac .NotEq v5 v2))
 (M.ret v1)
 (ifM (M.ret v3) (M.ret (.tup [(.str "yes")])) (M.ret (.tup [(.str "no")]))))
 (ifM (zac .In v4 (.tup [(.str "yes"),(.str "no")]))
 (M.ret v1)
 (((seqM [(za2 md false ((cutM false v1 (some 1) Option.none).bind zaz) fun v6=>(C md.inn A.put_in [v6,v2,v3]).bind fun v7=>M.ret (some v7))]).bind fun v8=>(biM md false "tuple" v8)).bind fun v9=>(opM false .Add (.tup [v4]) v9)))))
theorem zeb(C:zad)(md:Md)(v1 v2 v3:PV):zaj GG C md AA.put_in [v1,v2,v3]=zmD AA GG C md v1 v2 v3:=by kernel_rfl
noncomputable def zhZ(A:Adr)(G:Gl)(C:zad)(md:Md)(v1 v2:PV):M PV:=
 ((C md A.need_saying [v1]).bind fun _=>
 (ifM ((C md A.size_in [v1]).bind fun v3=>(zac .Gt v3 (.int 60)))
 M.fail
 (ifM (orM (notM (isM G (.bi .list) v2)) (notM ((seqM [(za2 md false (zaz v2) fun v4=>(C md.inn A.is_name [v4]).bind fun v5=>M.ret (some v5))]).bind fun v6=>(biM md false "all" v6))))
 M.fail
 (M.ret PV.none))))
theorem zhY(C:zad)(md:Md)(v1 v2:PV):zaj GG C md AA.need_both [v1,v2]=zhZ AA GG C md v1 v2:=by kernel_rfl
noncomputable def zbc(A:Adr)(G:Gl)(C:zad)(md:Md)(kk:PV→PV→PV→PV→Option PV→M PV)(v1:PV)(v2:PV)(v3:PV)(v4:PV)(v5:Option PV)(v6:PV):M PV:=
 (ifM (zac .NotIn v6 v2)
 (((seqM [((seqM [(M.ret v3),(C md A.put_in [v4,v6,(.bool true)]),(C md A.put_in [v4,v6,(.bool false)])]).bind fun v7=>(M.ret (.tup v7)))]).bind fun v8=>(C md A.neatly v8)).bind fun v9=>
 (kk v1 v2 v3 v9 (some v6)))
 (kk v1 v2 v3 v4 (some v6)))
noncomputable def zbd(A:Adr)(G:Gl)(C:zad)(md:Md)  (v1:PV) (v2:PV) (v3:PV) (v4:PV) (v5:Option PV):M PV:=
 (M.ret v4)
noncomputable def zar(A:Adr)(G:Gl)(C:zad)(md:Md)(chk:M Unit):List PV→PV→PV→PV→PV→Option PV→M PV
 | [],v1,v2,v3,v4,v5=>chk.bind fun _=>zbd A G C md v1 v2 v3 v4 v5
 | x::xs,v1,v2,v3,v4,v5=>chk.bind fun _=>zbc A G C md (zar A G C md chk xs) v1 v2 v3 v4 v5 x
noncomputable def zbu(A:Adr)(G:Gl)(C:zad)(md:Md)(F1:M Unit→List PV→PV→PV→PV→PV→Option PV→M PV)(v1 v2 v3:PV):M PV:=
 ((C md A.neatly [v1]).bind fun v4=>
 (M.cond (md.lp&&true) (((C md A.names_in [(.lst [v1])]).bind zaz).bind fun v5=>F1 (chkW v5.watch) v5.xs v1 v2 v3 v4 Option.none) M.fail))
noncomputable def zb5(A:Adr)(G:Gl)(C:zad)(md:Md)(v1 v2 v3:PV):M PV:=zbu A G C md (zar A G C md) v1 v2 v3
noncomputable def zaq(v1 v2 v3 v4 v5:Option PV):LL:=[("saying",v1),("names",v2),("word",v3),("found",v4),("name",v5)]
theorem zb7(C:zad)(md:Md)(chk:M Unit):∀(xs:List PV)(v1:PV)(v2:PV)(v3:PV)(v4:PV)(v5:Option PV),zao chk (FN 51).scope (forT (stAt (FN 51).body 1)) (exsL (XX C md 59 51) (forB (stAt (FN 51).body 1))) xs (zaq (some v1) (some v2) (some v3) (some v4) v5) (XK C md 60 51 2)=zar AA GG C md  chk xs v1 v2 v3 v4 v5:=by
 intro xs
 induction xs with
 | nil=>
  intro v1 v2 v3 v4 v5
  have e:(XK C md 60 51 2) (zaq (some v1) (some v2) (some v3) (some v4) v5)=zbd AA GG C md  v1 v2 v3 v4 v5:=by kernel_rfl
  show (chk.bind fun _=>(XK C md 60 51 2) (zaq (some v1) (some v2) (some v3) (some v4) v5))=chk.bind fun _=>zbd AA GG C md  v1 v2 v3 v4 v5
  rw [e]
 | cons x xs ih=>
  intro v1 v2 v3 v4 v5
  have k:(fun v1' v2' v3' v4' v5'=>zao chk (FN 51).scope (forT (stAt (FN 51).body 1)) (exsL (XX C md 59 51) (forB (stAt (FN 51).body 1))) xs (zaq (some v1') (some v2') (some v3') (some v4') v5') (XK C md 60 51 2))=zar AA GG C md  chk xs:=by funext s0 s1 s2 s3 s4;exact ih s0 s1 s2 s3 s4
  have e:zao chk (FN 51).scope (forT (stAt (FN 51).body 1)) (exsL (XX C md 59 51) (forB (stAt (FN 51).body 1))) (x::xs) (zaq (some v1) (some v2) (some v3) (some v4) v5) (XK C md 60 51 2)=chk.bind fun _=>zbc AA GG C md (fun v1' v2' v3' v4' v5'=>zao chk (FN 51).scope (forT (stAt (FN 51).body 1)) (exsL (XX C md 59 51) (forB (stAt (FN 51).body 1))) xs (zaq (some v1') (some v2') (some v3') (some v4') v5') (XK C md 60 51 2)) v1 v2 v3 v4 v5 x:=by kernel_rfl
  rw [k] at e
  exact e
theorem zd3(C:zad)(md:Md)(v1 v2 v3:PV):zaj GG C md AA.without_others [v1,v2,v3]=zb5 AA GG C md v1 v2 v3:=by
 have r1:(fun chk' xs' v1' v2' v3' v4' v5'=>zao chk' (FN 51).scope (forT (stAt (FN 51).body 1)) (exsL (XX C md 59 51) (forB (stAt (FN 51).body 1))) xs' (zaq (some v1') (some v2') (some v3') (some v4') v5') (XK C md 60 51 2))=zar AA GG C md:=by funext s0 s1 s2 s3 s4 s5 s6;exact zb7 C md s0 s1 s2 s3 s4 s5 s6
 have e:zaj GG C md AA.without_others [v1,v2,v3]=zbu AA GG C md (fun chk' xs' v1' v2' v3' v4' v5'=>zao chk' (FN 51).scope (forT (stAt (FN 51).body 1)) (exsL (XX C md 59 51) (forB (stAt (FN 51).body 1))) xs' (zaq (some v1') (some v2') (some v3') (some v4') v5') (XK C md 60 51 2)) v1 v2 v3:=by kernel_rfl
 rw [r1] at e
 exact e
noncomputable def zhH(A:Adr)(G:Gl)(C:zad)(md:Md)(v1 v2:PV):M PV:=
 ((C md A.need_both [v1,v2]).bind fun _=>
 (C md A.without_others [v1,v2,(.str "or")]))
theorem zhG(C:zad)(md:Md)(v1 v2:PV):zaj GG C md AA.strongest [v1,v2]=zhH AA GG C md v1 v2:=by kernel_rfl
noncomputable def zj9(A:Adr)(G:Gl)(C:zad)(md:Md)(v1 v2:PV):M PV:=
 ((C md A.need_both [v1,v2]).bind fun _=>
 (C md A.without_others [v1,v2,(.str "and")]))
theorem zj8(C:zad)(md:Md)(v1 v2:PV):zaj GG C md AA.weakest [v1,v2]=zj9 AA GG C md v1 v2:=by kernel_rfl
noncomputable def zh7(A:Adr)(G:Gl)(C:zad)(md:Md)(v1 v2:PV):M PV:=
 (ifM ((biM md false "len" [v1]).bind fun v3=>(zac .Lt v2 v3))
 (index v1 v2)
 (M.ret (.int 0)))
theorem zh6(C:zad)(md:Md)(v1 v2:PV):zaj GG C md AA.l_cell_at [v1,v2]=zh7 AA GG C md v1 v2:=by kernel_rfl
noncomputable def zlo(A:Adr)(G:Gl)(C:zad)(md:Md)(v1 v2:PV):M PV:=
 ((opM false .FloorDiv v1 (.int 5)).bind fun v3=>
 (ifM ((opM false .Mod v1 (.int 5)).bind fun v4=>(zac .Eq v4 (.int 0)))
 ((zcj md false "join" (.str "") (seqM [(za2 md false (zbv [(.int 6)]) fun v5=>((((opM false .Mult (.int 5) v5).bind fun v6=>(opM false .Add v3 v6)).bind fun v7=>(opM false .Mod v7 (.int 26))).bind fun v8=>(index (.str "abcdefghijklmnopqrstuvwxyz") v8)).bind fun v9=>M.ret (some v9))])).bind fun v10=>
 (za2 md false (zbv [v2]) fun v11=>((zcA (opM false .Add v11 (.int 1))).bind fun v12=>(cutM false v10 Option.none v12)).bind fun v13=>M.ret (some v13)))
 (ifM ((opM false .Mod v1 (.int 5)).bind fun v14=>(zac .Eq v14 (.int 1)))
 (((opM false .Mod v3 (.int 5)).bind fun v15=>(index (.lst [(.str "yes"),(.str "no"),(.str "not"),(.str "and"),(.str "or")]) v15)).bind fun v16=>
 ((za2 md false (zbv [v2]) fun v17=>((((opM false .FloorDiv v3 (.int 5)).bind fun v18=>(opM false .Add v18 v17)).bind fun v19=>(opM false .Mod v19 (.int 26))).bind fun v20=>(index (.str "abcdefghijklmnopqrstuvwxyz") v20)).bind fun v21=>M.ret (some v21)).bind fun v22=>
 ((za2 md false (zaz v22) fun v23=>(((seqM [(opM false .Add v16 v23),(opM false .Add v23 v16),((opM false .Add v16 v23).bind fun v24=>(opM false .Add v24 v23))]).bind fun v25=>(M.ret (.lst v25))).bind fun v26=>(((opM false .FloorDiv v3 (.int 130)).bind fun v27=>(opM false .Mod v27 (.int 3))).bind fun v28=>(index v26 v28))).bind fun v29=>M.ret (some v29)).bind fun v30=>
 (za2 md false (zaz v30) fun v31=>(ifM (zac .Eq v31 (.str "not")) (M.ret (.str "notx")) (M.ret v31)).bind fun v32=>M.ret (some v32)))))
 ((opM false .Mod v3 (.int 6)).bind fun v33=>
 (((opM false .FloorDiv v3 (.int 6)).bind fun v34=>((opM false .Add v33 (.int 1)).bind fun v35=>(opM false .Mod v34 v35))).bind fun v36=>
 (((((opM false .FloorDiv v3 (.int 36)).bind fun v37=>(opM false .Mod v37 (.int 26))).bind fun v38=>(index (.str "abcdefghijklmnopqrstuvwxyz") v38)).bind fun v39=>(opM false .Mult v39 v33)).bind fun v40=>
 ((za2 md false (zbv [v2]) fun v41=>((((zcA (M.ret v36)).bind fun v42=>(cutM false v40 Option.none v42)).bind fun v43=>(((((opM false .FloorDiv v3 (.int 936)).bind fun v44=>(opM false .Add v44 v41)).bind fun v45=>(opM false .Mod v45 (.int 26))).bind fun v46=>(index (.str "abcdefghijklmnopqrstuvwxyz") v46)).bind fun v47=>(opM false .Add v43 v47))).bind fun v48=>(((zcA (M.ret v36)).bind fun v49=>(cutM false v40 v49 Option.none)).bind fun v50=>(opM false .Add v48 v50))).bind fun v51=>M.ret (some v51)).bind fun v52=>
 (za2 md false (zaz v52) fun v53=>(ifM (zac .In v53 (.tup [(.str "no"),(.str "or")])) (opM false .Add v53 v53) (M.ret v53)).bind fun v54=>M.ret (some v54)))))))))
theorem zeF(C:zad)(md:Md)(v1 v2:PV):zaj GG C md AA.l_names [v1,v2]=zlo AA GG C md v1 v2:=by kernel_rfl
noncomputable def zjM(A:Adr)(G:Gl)(C:zad)(md:Md)(v1 v2 v3:PV):M PV:=
 ((((opM false .Mult v1 (.int 48271)).bind fun v4=>(opM false .Add v4 (.int 11))).bind fun v5=>(opM false .Mod v5 (.int 2147483647))).bind fun v6=>
 (ifM (zac .Eq v2 (.int 1))
 (((opM false .FloorDiv v6 (.int 7)).bind fun v7=>((((biM md false "len" [v3]).bind fun v8=>(opM false .Mult (.int 3) v8)).bind fun v9=>(opM false .Add v9 (.int 2))).bind fun v10=>(opM false .Mod v7 v10))).bind fun v11=>
 (ifM (((biM md false "len" [v3]).bind fun v12=>(opM false .Mult (.int 3) v12)).bind fun v13=>(zac .Lt v11 v13))
 ((seqM [(M.ret (.str "name")),(((biM md false "len" [v3]).bind fun v14=>(opM false .Mod v11 v14)).bind fun v15=>(index v3 v15))]).bind fun v16=>(M.ret (.tup v16)))
 ((opM false .Mod v11 (.int 2)).bind fun v17=>(index (.lst [(.tup [(.str "yes")]),(.tup [(.str "no")])]) v17))))
 ((opM false .Mod v6 (.int 8)).bind fun v18=>
 (ifM (orM (zac .Eq v2 (.int 2)) (zac .Lt v18 (.int 2)))
 ((seqM [(M.ret (.str "not")),((seqM [(opM false .FloorDiv v6 (.int 8)),(opM false .Sub v2 (.int 1)),(M.ret v3)]).bind fun v19=>(C md A.l_saying v19))]).bind fun v20=>(M.ret (.tup v20)))
 ((((opM false .FloorDiv v6 (.int 8)).bind fun v21=>((opM false .Sub v2 (.int 2)).bind fun v22=>(opM false .Mod v21 v22))).bind fun v23=>(opM false .Add (.int 1) v23)).bind fun v24=>
 (((seqM [((opM false .FloorDiv v6 (.int 64)).bind fun v25=>(opM false .Add v25 (.int 7919))),(M.ret v24),(M.ret v3)]).bind fun v26=>(C md A.l_saying v26)).bind fun v27=>
 (((seqM [(((opM false .FloorDiv v6 (.int 64)).bind fun v28=>(opM false .Mult v28 (.int 3))).bind fun v29=>((opM false .Mult (.int 104729) v2).bind fun v30=>(opM false .Add v29 v30))),((opM false .Sub v2 (.int 1)).bind fun v31=>(opM false .Sub v31 v24)),(M.ret v3)]).bind fun v32=>(C md A.l_saying v32)).bind fun v33=>
 ((seqM [((opM false .Mod v18 (.int 2)).bind fun v34=>(index (.lst [(.str "and"),(.str "or")]) v34)),(M.ret v27),(M.ret v33)]).bind fun v35=>(M.ret (.tup v35))))))))))
theorem zfy(C:zad)(md:Md)(v1 v2 v3:PV):zaj GG C md AA.l_saying [v1,v2,v3]=zjM AA GG C md v1 v2 v3:=by kernel_rfl
noncomputable def zmW(A:Adr)(G:Gl)(C:zad)(md:Md)(v1:PV):M PV:=
 (((seqM [(za2 md false ((cutM false v1 (some 1) Option.none).bind zaz) fun v2=>(isM G (.bi .tuple) v2).bind fun v4=>(zan v4).bind fun v5=>M.cond v5 ((C md.inn A.l_size [v2]).bind fun v3=>M.ret (some v3)) (M.ret Option.none))]).bind fun v6=>(biM md false "sum" v6)).bind fun v7=>(opM false .Add (.int 1) v7))
theorem zmV(C:zad)(md:Md)(v1:PV):zaj GG C md AA.l_size [v1]=zmW AA GG C md v1:=by kernel_rfl
noncomputable def zge(A:Adr)(G:Gl)(C:zad)(md:Md)(kk:PV→PV→Option PV→M PV)(v1:PV)(v2:PV)(v3:Option PV)(v4:PV):M PV:=
 (((za2 md false ((C md A.l_met [v4]).bind zaz) fun v5=>(zac .NotIn v5 v2).bind fun v6=>(zan v6).bind fun v7=>M.cond v7 (M.ret (some v5)) (M.ret Option.none)).bind fun v8=>(opM false .Add v2 v8)).bind fun v9=>
 (kk v1 v9 (some v4)))
noncomputable def zgf(A:Adr)(G:Gl)(C:zad)(md:Md)  (v1:PV) (v2:PV) (v3:Option PV):M PV:=
 (M.ret v2)
noncomputable def zbI(A:Adr)(G:Gl)(C:zad)(md:Md)(chk:M Unit):List PV→PV→PV→Option PV→M PV
 | [],v1,v2,v3=>chk.bind fun _=>zgf A G C md v1 v2 v3
 | x::xs,v1,v2,v3=>chk.bind fun _=>zge A G C md (zbI A G C md chk xs) v1 v2 v3 x
noncomputable def zlq(A:Adr)(G:Gl)(C:zad)(md:Md)(F1:M Unit→List PV→PV→PV→Option PV→M PV)(v1:PV):M PV:=
 (ifM ((index v1 (.int 0)).bind fun v2=>(zac .Eq v2 (.str "name")))
 ((seqM [(index v1 (.int 1))]).bind fun v3=>(M.ret (.lst v3)))
 (M.cond (md.lp&&true) (((cutM false v1 (some 1) Option.none).bind zaz).bind fun v4=>F1 (chkW v4.watch) v4.xs v1 (.lst []) Option.none) M.fail))
noncomputable def zoA(A:Adr)(G:Gl)(C:zad)(md:Md)(v1:PV):M PV:=zlq A G C md (zbI A G C md) v1
noncomputable def zcm(v1 v2 v3:Option PV):LL:=[("_law_saying_here",v1),("_law_found",v2),("_law_part",v3)]
theorem zgd(C:zad)(md:Md)(chk:M Unit):∀(xs:List PV)(v1:PV)(v2:PV)(v3:Option PV),zao chk (FN 59).scope (forT (stAt (FN 59).body 2)) (exsL (XX C md 59 59) (forB (stAt (FN 59).body 2))) xs (zcm (some v1) (some v2) v3) (XK C md 60 59 3)=zbI AA GG C md  chk xs v1 v2 v3:=by
 intro xs
 induction xs with
 | nil=>
  intro v1 v2 v3
  have e:(XK C md 60 59 3) (zcm (some v1) (some v2) v3)=zgf AA GG C md  v1 v2 v3:=by kernel_rfl
  show (chk.bind fun _=>(XK C md 60 59 3) (zcm (some v1) (some v2) v3))=chk.bind fun _=>zgf AA GG C md  v1 v2 v3
  rw [e]
 | cons x xs ih=>
  intro v1 v2 v3
  have k:(fun v1' v2' v3'=>zao chk (FN 59).scope (forT (stAt (FN 59).body 2)) (exsL (XX C md 59 59) (forB (stAt (FN 59).body 2))) xs (zcm (some v1') (some v2') v3') (XK C md 60 59 3))=zbI AA GG C md  chk xs:=by funext s0 s1 s2;exact ih s0 s1 s2
  have e:zao chk (FN 59).scope (forT (stAt (FN 59).body 2)) (exsL (XX C md 59 59) (forB (stAt (FN 59).body 2))) (x::xs) (zcm (some v1) (some v2) v3) (XK C md 60 59 3)=chk.bind fun _=>zge AA GG C md (fun v1' v2' v3'=>zao chk (FN 59).scope (forT (stAt (FN 59).body 2)) (exsL (XX C md 59 59) (forB (stAt (FN 59).body 2))) xs (zcm (some v1') (some v2') v3') (XK C md 60 59 3)) v1 v2 v3 x:=by kernel_rfl
  rw [k] at e
  exact e
theorem zlp(C:zad)(md:Md)(v1:PV):zaj GG C md AA.l_met [v1]=zoA AA GG C md v1:=by
 have r1:(fun chk' xs' v1' v2' v3'=>zao chk' (FN 59).scope (forT (stAt (FN 59).body 2)) (exsL (XX C md 59 59) (forB (stAt (FN 59).body 2))) xs' (zcm (some v1') (some v2') v3') (XK C md 60 59 3))=zbI AA GG C md:=by funext s0 s1 s2 s3 s4;exact zgd C md s0 s1 s2 s3 s4
 have e:zaj GG C md AA.l_met [v1]=zlq AA GG C md (fun chk' xs' v1' v2' v3'=>zao chk' (FN 59).scope (forT (stAt (FN 59).body 2)) (exsL (XX C md 59 59) (forB (stAt (FN 59).body 2))) xs' (zcm (some v1') (some v2') v3') (XK C md 60 59 3)) v1:=by kernel_rfl
 rw [r1] at e
 exact e
noncomputable def zh5(A:Adr)(G:Gl)(C:zad)(md:Md)(v1 v2:PV):M PV:=
 (ifM (orM (notM (isM G (.bi .tuple) v2)) (orM ((biM md false "len" [v2]).bind fun v3=>(zac .NotEq v3 (.int 3))) (orM ((index v2 (.int 0)).bind fun v4=>(isM G (.bi .bool) v4)) (notM ((index v2 (.int 1)).bind fun v5=>(isM G (.bi .bool) v5))))))
 (M.ret (.bool false))
 (zac .In v2 v1))
theorem zh4(C:zad)(md:Md)(v1 v2:PV):zaj GG C md AA.l_is_open [v1,v2]=zh5 AA GG C md v1 v2:=by kernel_rfl
noncomputable def zjL(A:Adr)(G:Gl)(C:zad)(md:Md)(v1 v2:PV):M PV:=
 ((cnew (.dict [("shut",(.int 2)),("clash",(.int 3)),("apart",(.int 3)),("fork",(.int 4))])).bind fun v3=>
 (ifM (orM (notM (isM G (.bi .tuple) v2)) (orM ((biM md false "len" [v2]).bind fun v4=>(zac .Eq v4 (.int 0))) (notM ((index v2 (.int 0)).bind fun v5=>(isM G (.bi .str) v5)))))
 (M.ret (.bool false))
 (ifM (orM ((zcj md false "get" v3 (seqM [(index v2 (.int 0)),(M.ret (.int 0))])).bind fun v6=>((biM md false "len" [v2]).bind fun v7=>(zac .NotEq v6 v7))) (notM ((seqM [(M.ret v1),(index v2 (.int 1))]).bind fun v8=>(C md A.l_is_open v8))))
 (M.ret (.bool false))
 (M.cond (md.lp&&true) (((seqM [(index v2 (.int 1))]).bind fun v9=>(C md A.l_comes v9)).bind fun v10=>(tup2 v10 fun v11 v12=>
 (ifM ((index v2 (.int 0)).bind fun v13=>(zac .Eq v13 (.str "clash")))
 (ifM (orM (notM ((seqM [(M.ret v1),(index v2 (.int 2))]).bind fun v14=>(C md A.l_is_open v14))) (orM (zac .NotEq v11 (.str "name")) (((index v2 (.int 2)).bind fun v15=>(index v15 (.int 2))).bind fun v16=>(((index v2 (.int 1)).bind fun v17=>(index v17 (.int 2))).bind fun v18=>(zac .NotEq v16 v18)))))
 (M.ret (.bool false))
 (andM ((index v2 (.int 1)).bind fun v19=>(index v19 (.int 1))) (notM ((index v2 (.int 2)).bind fun v20=>(index v20 (.int 1))))))
 (ifM ((index v2 (.int 0)).bind fun v21=>(zac .NotEq v21 v11))
 (M.ret (.bool false))
 (ifM (zac .Eq v11 (.str "shut"))
 (M.ret (.bool true))
 (((seqM [(M.ret v1),(index v2 (.int 1))]).bind fun v22=>(C md A.l_without v22)).bind fun v23=>
 (ifM (zac .Eq v11 (.str "apart"))
 ((seqM [(opM false .Add v23 v12),(index v2 (.int 2))]).bind fun v24=>(C md A.l_stands v24))
 (andM ((seqM [((cutM false v12 Option.none (some 1)).bind fun v25=>(opM false .Add v23 v25)),(index v2 (.int 2))]).bind fun v26=>(C md A.l_stands v26)) ((seqM [((cutM false v12 (some 1) Option.none).bind fun v27=>(opM false .Add v23 v27)),(index v2 (.int 3))]).bind fun v28=>(C md A.l_stands v28)))))))))) M.fail))))
theorem zcw(C:zad)(md:Md)(v1 v2:PV):zaj GG C md AA.l_stands [v1,v2]=zjL AA GG C md v1 v2:=by kernel_rfl
noncomputable def zh3(A:Adr)(G:Gl)(C:zad)(md:Md)(v1 v2:PV):M PV:=
 ((zcj md false "index" v1 (M.ret [v2])).bind fun v3=>
 (((zcA (M.ret v3)).bind fun v4=>(cutM false v1 Option.none v4)).bind fun v5=>(((zcA (opM false .Add v3 (.int 1))).bind fun v6=>(cutM false v1 v6 Option.none)).bind fun v7=>(opM false .Add v5 v7))))
theorem zh2(C:zad)(md:Md)(v1 v2:PV):zaj GG C md AA.l_without [v1,v2]=zh3 AA GG C md v1 v2:=by kernel_rfl
noncomputable def zlt(A:Adr)(G:Gl)(C:zad)(md:Md)(v1:PV):M PV:=
 (za2 md false ((seqM [(biM md false "len" [v1])]).bind zbv) fun v2=>((seqM [(M.ret v2),(M.ret (.bool true)),(index v1 v2)]).bind fun v3=>(M.ret (.tup v3))).bind fun v4=>M.ret (some v4))
theorem zls(C:zad)(md:Md)(v1:PV):zaj GG C md AA.l_begun [v1]=zlt AA GG C md v1:=by kernel_rfl
noncomputable def zmY(A:Adr)(G:Gl)(C:zad)(md:Md)(v1 v2:PV):M PV:=
 ((opM false .Mod v1 (.int 6)).bind fun v3=>
 ((opM false .FloorDiv v1 (.int 6)).bind fun v4=>
 (((zcA ((biM md false "len" [v2]).bind fun v5=>(opM false .Sub v5 (.int 1)))).bind fun v6=>(cutM false v2 (some 1) v6)).bind fun v7=>
 (((seqM [(M.ret v4),((opM false .Mod v4 (.int 6)).bind fun v8=>(opM false .Add (.int 1) v8)),(M.ret v7)]).bind fun v9=>(C md A.l_saying v9)).bind fun v10=>
 (((seqM [((opM false .FloorDiv v4 (.int 6)).bind fun v11=>(opM false .Add v11 (.int 5))),(((opM false .FloorDiv v4 (.int 6)).bind fun v12=>(opM false .Mod v12 (.int 5))).bind fun v13=>(opM false .Add (.int 1) v13)),(cutM false v2 Option.none (some (-1)))]).bind fun v14=>(C md A.l_saying v14)).bind fun v15=>
 (((seqM [((opM false .FloorDiv v4 (.int 30)).bind fun v16=>(opM false .Add v16 (.int 9))),(((opM false .FloorDiv v4 (.int 30)).bind fun v17=>(opM false .Mod v17 (.int 5))).bind fun v18=>(opM false .Add (.int 1) v18)),(cutM false v2 (some 1) Option.none)]).bind fun v19=>(C md A.l_saying v19)).bind fun v20=>
 (ifM (zac .Eq v3 (.int 0))
 (M.ret (.tup [(.tup [(.str "and"),v10,v15]),(.tup [(.str "or"),v20,v10])]))
 (ifM (zac .Eq v3 (.int 1))
 (M.ret (.tup [(.tup [(.str "and"),v15,(.tup [(.str "not"),v10])]),(.tup [(.str "not"),(.tup [(.str "and"),v10,v20])])]))
 (ifM (zac .Eq v3 (.int 2))
 (((seqM [((opM false .FloorDiv v4 (.int 7)).bind fun v21=>(opM false .Add v21 (.int 3))),(((opM false .FloorDiv v4 (.int 7)).bind fun v22=>(opM false .Mod v22 (.int 4))).bind fun v23=>(opM false .Add (.int 1) v23)),(M.ret v7)]).bind fun v24=>(C md A.l_saying v24)).bind fun v25=>
 (M.ret (.tup [(.tup [(.str "and"),v15,(.tup [(.str "or"),v10,v25])]),(.tup [(.str "or"),(.tup [(.str "or"),v25,v10]),v20])])))
 (ifM (zac .Eq v3 (.int 3))
 (M.ret (.tup [(.tup [(.str "and"),(.tup [(.str "or"),v15,v10]),(.tup [(.str "not"),v15])]),(.tup [(.str "or"),(.tup [(.str "and"),v10,v20]),(.tup [(.str "and"),v10,(.tup [(.str "not"),v20])])])]))
 ((seqM [((seqM [(M.ret v4),((opM false .Mod v4 (.int 14)).bind fun v26=>(opM false .Add (.int 1) v26)),(cutM false v2 Option.none (some (-1)))]).bind fun v27=>(C md A.l_saying v27)),((seqM [((opM false .FloorDiv v4 (.int 14)).bind fun v28=>(opM false .Add v28 (.int 1))),(((opM false .FloorDiv v4 (.int 14)).bind fun v29=>(opM false .Mod v29 (.int 14))).bind fun v30=>(opM false .Add (.int 1) v30)),(cutM false v2 (some 1) Option.none)]).bind fun v31=>(C md A.l_saying v31))]).bind fun v32=>(M.ret (.tup v32)))))))))))))
theorem zmX(C:zad)(md:Md)(v1 v2:PV):zaj GG C md AA.l_pair [v1,v2]=zmY AA GG C md v1 v2:=by kernel_rfl
noncomputable def zm0(A:Adr)(G:Gl)(C:zad)(md:Md)(v1 v2:PV):M PV:=
 (((C md A.l_size [v1]).bind fun v3=>((C md A.l_size [v2]).bind fun v4=>(opM false .Add v3 v4))).bind fun v5=>(zac .LtE v5 (.int 34)))
theorem zmZ(C:zad)(md:Md)(v1 v2:PV):zaj GG C md AA.l_fits [v1,v2]=zm0 AA GG C md v1 v2:=by kernel_rfl
noncomputable def zlm(A:Adr)(G:Gl)(C:zad)(md:Md)(v1 v2:PV):M PV:=
 (ifM (notM (C md A.l_fits [v1,v2]))
 (M.ret (.bool true))
 (((seqM [(biM md false "list" [(.lst [v1,(.tup [(.str "not"),v2])])])]).bind fun v3=>(C md A.shut v3)).bind fun v4=>
 (ifM (orM ((index v4 (.int 0)).bind fun v5=>(zac .NotEq v5 (.str "tree"))) (notM ((seqM [(C md A.l_begun [(.lst [v1,(.tup [(.str "not"),v2])])]),(index v4 (.int 1))]).bind fun v6=>(C md A.l_stands v6))))
 (M.ret (.bool false))
 (((seqM [(biM md false "list" [(.lst [v1,(.tup [(.str "not"),v2])])]),(index v4 (.int 1))]).bind fun v7=>(C md A.stands v7)).bind fun v8=>(zac .Is v8 (.bool true))))))
theorem zhe(C:zad)(md:Md)(v1 v2:PV):zaj GG C md AA.l_shown [v1,v2]=zlm AA GG C md v1 v2:=by kernel_rfl
noncomputable def zlr(A:Adr)(G:Gl)(C:zad)(md:Md)(v1 v2:PV):M PV:=
 (orM (notM (C md A.l_fits [v1,v2])) (((C md A.leads [v1,v2]).bind fun v3=>(index v3 (.int 0))).bind fun v4=>(zac .Eq v4 (.str "between"))))
theorem zhf(C:zad)(md:Md)(v1 v2:PV):zaj GG C md AA.l_leads [v1,v2]=zlr AA GG C md v1 v2:=by kernel_rfl
noncomputable def zpP(A:Adr)(G:Gl)(C:zad)(md:Md)(v1:PV):M PV:=
 (((seqM [(C md A.l_cell_at [v1,(.int 1)]),(((C md A.l_cell_at [v1,(.int 0)]).bind fun v2=>(opM false .Mod v2 (.int 3))).bind fun v3=>(opM false .Add (.int 3) v3))]).bind fun v4=>(C md A.l_names v4)).bind fun v5=>
 (M.cond (md.lp&&true) (((seqM [(C md A.l_cell_at [v1,(.int 2)]),(M.ret v5)]).bind fun v6=>(C md A.l_pair v6)).bind fun v7=>(tup2 v7 fun v8 v9=>
 ((za2 md false ((C md A.l_met [v8]).bind zaz) fun v10=>((C md.inn A.l_met [v9]).bind fun v11=>(zac .In v10 v11)).bind fun v12=>(zan v12).bind fun v13=>M.cond v13 (M.ret (some v10)) (M.ret Option.none)).bind fun v14=>
 (((seqM [(M.ret v8),(biM md false "list" [v14])]).bind fun v15=>(C md A.strongest v15)).bind fun v16=>
 (((seqM [(M.ret v9),(biM md false "list" [v14])]).bind fun v17=>(C md A.weakest v17)).bind fun v18=>
 ((C md A.leads [v8,v9]).bind fun v19=>
 (ifM ((index v19 (.int 0)).bind fun v20=>(zac .Eq v20 (.str "between")))
 (ifM (orM (notM ((seqM [(M.ret v8),(index v19 (.int 1))]).bind fun v21=>(C md A.l_shown v21))) (notM ((seqM [(index v19 (.int 1)),(M.ret v9)]).bind fun v22=>(C md A.l_shown v22))))
 (M.ret (.bool false))
 (andM ((seqM [(M.ret v16),(index v19 (.int 1))]).bind fun v23=>(C md A.l_shown v23)) (andM ((seqM [(index v19 (.int 1)),(M.ret v18)]).bind fun v24=>(C md A.l_shown v24)) (C md A.l_leads [v16,v18]))))
 (ifM (notM (C md A.l_fits [v16,v18]))
 (M.ret (.bool true))
 ((C md A.leads [v16,v18]).bind fun v25=>
 (ifM ((index v25 (.int 0)).bind fun v26=>(zac .NotEq v26 (.str "setting")))
 (M.ret (.bool false))
 (((seqM [(index v19 (.int 1))]).bind fun v27=>(biM md false "dict" v27)).bind fun v28=>
 ((zcj md false "update" v28 (seqM [(index v25 (.int 1))])).bind fun _=>
 (andM (C md A.l_true [v16,v28]) (notM (C md A.l_true [v18,v28]))))))))))))))) M.fail))
theorem zqt(C:zad)(md:Md)(v1:PV):zaj GG C md AA.law [v1]=zpP AA GG C md v1:=by kernel_rfl
theorem zp7{α:Type}(x y:M α):M.cond true x y=x:=rfl
theorem zo8{α:Type}(x y:M α):M.cond false x y=y:=rfl
theorem c_t{α:Type}{b:Bool}{x y:M α}(h:b=true):M.cond b x y=x:=by rw [h];rfl
theorem c_f{α:Type}{b:Bool}{x y:M α}(h:b=false):M.cond b x y=y:=by rw [h];rfl
theorem tr_b(b:Bool):zan (.bool b)=M.ret b:=rfl
theorem bd{α β:Type}{x:M α}{a:α}{f:α→M β}(h:x=M.ret a):x.bind f=f a:=by rw [h];rfl
theorem if_t{α:Type}{x:M PV}{a b:M α}(h:x=M.ret (.bool true)):ifM x a b=a:=by rw [h];rfl
theorem if_f{α:Type}{x:M PV}{a b:M α}(h:x=M.ret (.bool false)):ifM x a b=b:=by rw [h];rfl
theorem if_b{α:Type}{x:M PV}{a b:M α}{c:Bool}(h:x=M.ret (.bool c)):ifM x a b=M.cond c a b:=by rw [h];rfl
theorem or_t{x y:M PV}(h:x=M.ret (.bool true)):orM x y=M.ret (.bool true):=by rw [h];rfl
theorem or_f{x y:M PV}(h:x=M.ret (.bool false)):orM x y=y:=by rw [h];rfl
theorem zim{x y:M PV}(h:x=M.ret (.bool true)):andM x y=y:=by rw [h];rfl
theorem zqd{x y:M PV}(h:x=M.ret (.bool false)):andM x y=M.ret (.bool false):=by rw [h];rfl
theorem or_b{x y:M PV}{b c:Bool}(h:x=M.ret (.bool b))(h':y=M.ret (.bool c)):orM x y=M.ret (.bool (b || c)):=by
 cases b with
 | true=>exact or_t h
 | false=>exact (or_f h).trans h'
theorem zj0{x y:M PV}{b c:Bool}(h:x=M.ret (.bool b))(h':y=M.ret (.bool c)):andM x y=M.ret (.bool (b&&c)):=by
 cases b with
 | true=>exact (zim h).trans h'
 | false=>exact zqd h
theorem zbw{x:M PV}{b:Bool}(h:x=M.ret (.bool b)):notM x=M.ret (.bool !b):=by rw [h];rfl
theorem sq1{x:M PV}{a:PV}(h:x=M.ret a):seqM [x]=M.ret [a]:=by rw [h];rfl
theorem sq2{x y:M PV}{a b:PV}(h:x=M.ret a)(h':y=M.ret b):seqM [x,y]=M.ret [a,b]:=by rw [h,h'];rfl
theorem sq3{x y z:M PV}{a b c:PV}(h:x=M.ret a)(h':y=M.ret b)(h'':z=M.ret c):seqM [x,y,z]=M.ret [a,b,c]:=by rw [h,h',h''];rfl
theorem zag{d:Nat}{md:Md}{a:Addr}{vs:List PV}{x:M PV}(h:zaj GG (zaf GG d) md a vs=x):zaf GG (d+1) md a vs=x:=(zfL GG d md a vs).trans h
theorem c_lt(a b:Int):zac .Lt (.int a) (.int b)=M.ret (.bool (decide (a<b))):=rfl
theorem c_le(a b:Int):zac .LtE (.int a) (.int b)=M.ret (.bool (decide (a≤b))):=rfl
theorem znD(a b:Int):zac .Eq (.int a) (.int b)=M.ret (.bool (a==b)):=rfl
theorem zpK(a b:Int):zac .NotEq (.int a) (.int b)=M.ret (.bool !(a==b)):=rfl
theorem zcp(a b:Str):zac .Eq (.str a) (.str b)=M.ret (.bool (a==b)):=rfl
theorem zpI(a b:Str):zac .NotEq (.str a) (.str b)=M.ret (.bool !(a==b)):=rfl
theorem sub_int(mu:Bool)(a b:Int):opM mu .Sub (.int a) (.int b)=M.ret (.int (a-b)):=rfl
theorem add_int(mu:Bool)(a b:Int):opM mu .Add (.int a) (.int b)=M.ret (.int (a+b)):=rfl
theorem za3{i:Int}(h:-1000000≤i)(h':i≤1000000):zba i=true:=by
 unfold zba
 rw [Bool.and_eq_true,decide_eq_true_eq,decide_eq_true_eq]
 omega
theorem zhb(mu:Bool)(a b:Int)(h:-1000000≤b)(h':b≤1000000):opM mu .Mult (.int a) (.int b)=M.ret (.int (a*b)):=c_t (by rw [za3 h h',Bool.or_true])
theorem zlb(mu:Bool)(a b:Int)(h:-1000000≤a)(h':a≤1000000):opM mu .Mult (.int a) (.int b)=M.ret (.int (a*b)):=c_t (by rw [za3 h h',Bool.true_or])
theorem zci(mu:Bool)(a b:Int)(h:0<b):opM mu .Mod (.int a) (.int b)=M.ret (.int (a.fmod b)):=c_t (decide_eq_true h)
theorem za7(mu:Bool)(a b:Int)(h:0<b)(h':b<1000000):opM mu .FloorDiv (.int a) (.int b)=M.ret (.int (a.fdiv b)):=c_t (by rw [decide_eq_true h,decide_eq_true (show b<1073741824 by omega)];rfl)
theorem zay(a:Int){b:Nat}(h:0<b):∃ k:Nat,a.fmod b=k∧k<b:=by
 have h1:0≤a.fmod b:=Int.fmod_nonneg_of_pos a (by exact Int.ofNat_lt.mpr ‹_›)
 have h2:a.fmod b<b:=Int.fmod_lt_of_pos a (by exact Int.ofNat_lt.mpr ‹_›)
 exact ⟨(a.fmod b).toNat,by omega,by omega⟩
theorem zij{α:Type}{xs:List α}{k:Nat}{x:α}(h:xs[k]?=some x)(hk:k≤1000000):atI xs (k:Int)=some x:=by
 unfold atI
 rw [za3 (by omega) (by omega)]
 have hlt:=(List.getElem?_eq_some_iff.mp h).1
 have h1:¬ ((k:Int)<0):=by omega
 have h2:(k:Int)<xs.length:=by exact Int.ofNat_lt.mpr ‹_›
 simp [seqIndex?,h1,h2,h]
theorem zeG{xs:List PV}{k:Nat}{x:PV}(h:xs[k]?=some x)(hk:k≤1000000):index (.lst xs) (.int k)=M.ret x:=congrArg M.lift (zij h hk)
theorem zfz{xs:List PV}{k:Nat}{x:PV}(h:xs[k]?=some x)(hk:k≤1000000):index (.tup xs) (.int k)=M.ret x:=congrArg M.lift (zij h hk)
theorem ix_0(x:PV)(r:List PV):index (.tup (x::r)) (.int 0)=M.ret x:=zfz (k:=0) rfl (by decide)
theorem ix_1(x y:PV)(r:List PV):index (.tup (x::y::r)) (.int 1)=M.ret y:=zfz (k:=1) rfl (by decide)
theorem ix_2(x y z:PV)(r:List PV):index (.tup (x::y::z::r)) (.int 2)=M.ret z:=zfz (k:=2) rfl (by decide)
theorem zpU{s:Str}{k:Nat}{c:Nat}(h:s.cps.toList[k]?=some c)(hk:k≤1000000):index (.str s) (.int k)=M.ret (.str ⟨#[c]⟩):=bd (congrArg M.lift (zij h hk))
theorem zme(md:Md)(mu:Bool)(v:PV):biM md mu "len" [v]=(zou v).bind fun n=>M.ret (.int n):=by kernel_rfl
theorem zp9(md:Md)(mu:Bool)(v:PV):biM md mu "all" [v]=M.cond md.lp ((items v).bind fun xs=>(M.lift (zbE xs)).bind fun bs=>M.ret (.bool (bs.all id))) M.fail:=by kernel_rfl
theorem zp8(md:Md)(mu:Bool)(v:PV):biM md mu "sum" [v]=M.cond md.lp ((items v).bind fun xs=>(M.lift (zd2 xs)).bind fun ns=>M.cond (zd4 0 ns) (M.ret (.int ns.sum)) M.fail) M.fail:=by kernel_rfl
theorem znh(md:Md)(mu:Bool)(v:PV):biM md mu "tuple" [v]=(items v).bind fun xs=>M.cond (decide (xs.length≤2 ^ 20)) (M.ret (.tup xs)) M.fail:=by kernel_rfl
theorem zgc{n:Nat}(h:n≤1000000):zhd n=M.ret (n:Int):=c_t (decide_eq_true (by exact Nat.le_trans ‹_› (by decide)))
theorem zcT{md:Md}{mu:Bool}{xs:List PV}(h:xs.length≤1000000):biM md mu "len" [.lst xs]=M.ret (.int xs.length):=(zme md mu _).trans (bd (zgc h))
theorem zdC{md:Md}{mu:Bool}{xs:List PV}(h:xs.length≤1000000):biM md mu "len" [.tup xs]=M.ret (.int xs.length):=(zme md mu _).trans (bd (zgc h))
theorem len_str{md:Md}{mu:Bool}{s:Str}(h:s.length≤1000000):biM md mu "len" [.str s]=M.ret (.int s.length):=(zme md mu _).trans (bd (zgc h))
theorem zb4{α:Type}(g:α→Bool):∀(l:List α),zbE (l.map fun x=>PV.bool (g x))=some (l.map g)
 | []=>rfl
 | x::r=>congrArg (zhm (g x)) (zb4 g r)
theorem zin{md:Md}{mu:Bool}{xs:List PV}{bs:List Bool}(hb:zbE xs=some bs)(hl:md.lp=true):biM md mu "all" [.lst xs]=M.ret (.bool (bs.all id)):=
 (zp9 md mu _).trans ((c_t hl).trans (bd (congrArg M.lift hb)))
theorem zhF{md:Md}{mu:Bool}{xs:List PV}{ns:List Int}(hb:zd2 xs=some ns)(hs:zd4 0 ns=true)(hl:md.lp=true):biM md mu "sum" [.lst xs]=M.ret (.int ns.sum):=
 (zp8 md mu _).trans ((c_t hl).trans ((bd (congrArg M.lift hb)).trans (c_t hs)))
noncomputable def zdZ(is:List Int)(k:Nat):Int:=is[k]?.getD 0
theorem zo7(C:zad)(md:Md)(is:List Int)(k:Nat)(hl:is.length≤63)(hk:k≤100):zaj GG C md AA.l_cell_at [.lst (is.map .int),.int k]=M.ret (.int (zdZ is k)):=by
 refine (zh6 C md _ _).trans ((if_b ((bd (zcT (by rw [List.length_map];exact Nat.le_trans ‹_› (by decide)))).trans (c_lt _ _))).trans ?_)
 rw [List.length_map]
 unfold zdZ
 by_cases h:k<is.length
 ·rw [decide_eq_true (by exact Int.ofNat_lt.mpr ‹_›),zp7,zeG (x:=.int is[k]) (by rw [List.getElem?_map,List.getElem?_eq_getElem h];rfl) (by exact Nat.le_trans ‹_› (by decide)),List.getElem?_eq_getElem h];rfl
 ·rw [decide_eq_false (by omega),zo8,List.getElem?_eq_none (Nat.le_of_not_lt h)];rfl
inductive Say where
 | yes | no
 | name (s:Str)
 | not (a:Say)
 | and (a b:Say)
 | or (a b:Say)
noncomputable def Say.pv:Say→PV
 | .yes=>.tup [.str "yes"]
 | .no=>.tup [.str "no"]
 | .name s=>.tup [.str "name",.str s]
 | .not a=>.tup [.str "not",a.pv]
 | .and a b=>.tup [.str "and",a.pv,b.pv]
 | .or a b=>.tup [.str "or",a.pv,b.pv]
noncomputable def Say.dep:Say→Nat
 | .yes=>1 | .no=>1 | .name _=>1
 | .not a=>a.dep+1
 | .and a b=>max a.dep b.dep+1
 | .or a b=>max a.dep b.dep+1
noncomputable def Say.sz:Say→Nat
 | .yes=>1 | .no=>1 | .name _=>1
 | .not a=>a.sz+1
 | .and a b=>a.sz+b.sz+1
 | .or a b=>a.sz+b.sz+1
noncomputable def letters:Str:="abcdefghijklmnopqrstuvwxyz"
structure NmOk (s:Str):Prop where
 lo:1≤s.length
 hi:s.length≤6
 let_:∀ c∈s.cps.toList,97≤c∧c≤122
 told:s≠"yes"∧s≠"no"∧s≠"not"∧s≠"and"∧s≠"or"
noncomputable def Say.Ok:Say→Prop
 | .yes=>True | .no=>True | .name s=>NmOk s
 | .not a=>a.Ok
 | .and a b=>a.Ok∧b.Ok
 | .or a b=>a.Ok∧b.Ok
theorem zoY(s:Say):0<s.dep:=by cases s <;> exact Nat.succ_pos _
theorem zcI{a b:Str}(h:a≠b):(a==b)=false:=by
 cases q:a==b with
 | false=>rfl
 | true=>exact (h (eq_of_beq q)).elim
theorem zlk{c:Nat}(h1:97≤c)(h2:c≤122):zjc ⟨#[c]⟩ letters=true:=by
 have key:∀ i:Fin 26,zjc ⟨#[97+i.val]⟩ letters=true:=by decide +kernel
 have:=key ⟨c-97,by omega⟩
 rwa [show 97+(c-97)=c from by omega] at this
theorem zhq{f:PV→M (Option PV)}{g:PV→PV}:∀(xs:List PV),(∀ x∈xs,f x=M.ret (some (g x)))→zaX (M.ret ()) f xs=M.ret (xs.map g)
 | [],_=>rfl
 | x::xs,h=>(bd (h x (.head _))).trans (bd (zhq xs fun y hy=>h y (.tail _ hy)))
theorem in_5(a x y z u v:Str):zac .In (.str a) (.tup [.str x,.str y,.str z,.str u,.str v])=M.ret (.bool ((x==a) || ((y==a) || ((z==a) || ((u==a) || ((v==a) || false)))))):=rfl
theorem zhr(l:List Nat):zd6 l=l.map fun c=>PV.str ⟨#[c]⟩:=by
 induction l with
 | nil=>rfl
 | cons c r ih=>exact congrArg _ ih
theorem zbi{md:Md}{src:M Src}{xs:List PV}{f:PV→M (Option PV)}{ys:List PV}(hl:md.lp=true)(hs:src=M.ret ⟨xs,[]⟩)(hx:xs.length≤1000000) (h:zaX (M.ret ()) (fun x=>M.noErr (f x)) xs=M.ret ys):za2 md false src f=M.ret (.lst ys):=by
 unfold za2
 rw [hl,hs]
 exact (c_t (decide_eq_true (by show xs.length≤2 ^ 20;exact Nat.le_trans ‹_› (by decide)))).trans (bd h)
theorem zfA(C:zad)(md:Md)(hl:md.lp=true){s:Str}(h:NmOk s):zaj GG C md AA.is_name [.str s]=M.ret (.bool true):=by
 obtain ⟨t1,t2,t3,t4,t5⟩:=h.told
 have hlo:=h.lo
 have hhi:=h.hi
 have e1:(isM GG (.bi .str) (.str s))=M.ret (.bool true):=rfl
 have e2:((biM md false "len" [.str s]).bind fun b2=>((zac .LtE (.int 1) b2).bind fun c3=>(zan c3).bind fun t4=>M.cond t4 (zac .LtE b2 (.int 6)) (M.ret c3)))=M.ret (.bool true):=by
  refine (bd (len_str (by exact Nat.le_trans ‹_› (by decide)))).trans ((bd (c_le _ _)).trans ?_)
  rw [decide_eq_true (show (1:Int)≤s.length by exact Int.ofNat_lt.mpr ‹_›)]
  exact (c_le _ _).trans (by rw [decide_eq_true (show (s.length:Int)≤6 by omega)])
 refine (zlB C md _).trans ((if_f ((or_f (zbw e1)).trans ((or_f (zbw e2)).trans ((in_5 _ _ _ _ _ _).trans ?_)))).trans ?_)
 ·rw [zcI t1.symm,zcI t2.symm,zcI t3.symm,zcI t4.symm,zcI t5.symm];rfl
 ·have hc:zaX (M.ret ()) (fun x=>M.noErr ((zac .In x (.str letters)).bind fun y6=>M.ret (some y6))) (zd6 s.cps.toList)=M.ret ((zd6 s.cps.toList).map fun _=>PV.bool true):=zhq (g:=fun _=>PV.bool true) _ fun x hx=>by
   rw [zhr] at hx
   obtain ⟨c,hc,rfl⟩:=List.mem_map.mp hx
   obtain ⟨h1,h2⟩:=h.let_ c hc
   show M.noErr (M.ret (some (PV.bool (zjc ⟨#[c]⟩ letters))))=_
   rw [zlk h1 h2];rfl
  refine (bd (sq1 (zbi hl rfl (by rw [zhr,List.length_map];have:s.cps.toList.length≤6:=hhi;exact Nat.le_trans ‹_› (by decide)) hc))).trans ((zin (zb4 (fun _=>true) _) hl).trans ?_)
  rw [List.all_map];exact congrArg (fun b=>M.ret (PV.bool b)) (List.all_eq_true.mpr fun _ _=>rfl)
theorem zcg(n:Nat):((n+1:Nat):Int)-1=(n:Int):=by omega
theorem znz(a b n:Nat):(decide (a≤n)&&decide (b≤n))=decide (max a b+1≤n+1):=by
 rw [← Bool.decide_and];exact decide_eq_decide.mpr (by omega)
theorem w_0(C:zad)(md:Md)(v:PV):zaj GG C md AA.is_within [v,.int 0]=M.ret (.bool false):=by kernel_rfl
theorem zqg(C:zad)(md:Md)(n:Nat):zaj GG C md AA.is_within [.tup [.str "yes"],.int ((n+1:Nat):Int)]=M.ret (.bool true):=by kernel_rfl
theorem w_no(C:zad)(md:Md)(n:Nat):zaj GG C md AA.is_within [.tup [.str "no"],.int ((n+1:Nat):Int)]=M.ret (.bool true):=by kernel_rfl
theorem znm(C:zad)(md:Md)(n:Nat)(v:PV):zaj GG C md AA.is_within [.tup [.str "name",v],.int ((n+1:Nat):Int)]=C md AA.is_name [v]:=by kernel_rfl
theorem zpm(C:zad)(md:Md)(n:Nat)(v:PV):zaj GG C md AA.is_within [.tup [.str "not",v],.int ((n+1:Nat):Int)]=C md AA.is_within [v,.int (((n+1:Nat):Int)-1)]:=by kernel_rfl
theorem zpo(C:zad)(md:Md)(n:Nat)(v u:PV):zaj GG C md AA.is_within [.tup [.str "and",v,u],.int ((n+1:Nat):Int)]=andM (C md AA.is_within [v,.int (((n+1:Nat):Int)-1)]) (C md AA.is_within [u,.int (((n+1:Nat):Int)-1)]):=by kernel_rfl
theorem w_or(C:zad)(md:Md)(n:Nat)(v u:PV):zaj GG C md AA.is_within [.tup [.str "or",v,u],.int ((n+1:Nat):Int)]=andM (C md AA.is_within [v,.int (((n+1:Nat):Int)-1)]) (C md AA.is_within [u,.int (((n+1:Nat):Int)-1)]):=by kernel_rfl
theorem zaC(md:Md)(hl:md.lp=true):∀(s:Say)(n d:Nat),s.Ok→s.dep+1<d→zaf GG d md AA.is_within [s.pv,.int n]=M.ret (.bool (decide (s.dep≤n)))
 | s,0,d+1,_,_=>by rw [decide_eq_false (Nat.not_le_of_gt (zoY s))];exact zag (w_0 _ md _)
 | .yes,n+1,d+1,_,_=>(zag (zqg _ md n)).trans (congrArg (fun b=>M.ret (PV.bool b)) (decide_eq_true (show Say.yes.dep≤n+1 from Nat.succ_le_succ (Nat.zero_le n))).symm)
 | .no,n+1,d+1,_,_=>(zag (w_no _ md n)).trans (congrArg (fun b=>M.ret (PV.bool b)) (decide_eq_true (show Say.no.dep≤n+1 from Nat.succ_le_succ (Nat.zero_le n))).symm)
 | .name s,n+1,d+2,ok,hd=>(zag (znm _ md n _)).trans ((zag (zfA _ md hl ok)).trans (congrArg (fun b=>M.ret (PV.bool b)) (decide_eq_true (show (Say.name s).dep≤n+1 from Nat.succ_le_succ (Nat.zero_le n))).symm))
 | .not a,n+1,d+1,ok,hd=>by
  refine (zag (zpm _ md n _)).trans ?_
  rw [zcg,zaC md hl a n d ok (Nat.lt_of_succ_lt_succ hd)]
  exact congrArg (fun b=>M.ret (PV.bool b)) (decide_eq_decide.mpr (Nat.succ_le_succ_iff).symm)
 | .and a b,n+1,d+1,ok,hd=>by
  have h1:a.dep+1<d:=by have:max a.dep b.dep+1+1<d+1:=hd;omega
  have h2:b.dep+1<d:=by have:max a.dep b.dep+1+1<d+1:=hd;omega
  refine (zag (zpo _ md n _ _)).trans ?_
  rw [zcg]
  exact (zj0 (zaC md hl a n d ok.1 h1) (zaC md hl b n d ok.2 h2)).trans (congrArg (fun b=>M.ret (PV.bool b)) (znz _ _ _))
 | .or a b,n+1,d+1,ok,hd=>by
  have h1:a.dep+1<d:=by have:max a.dep b.dep+1+1<d+1:=hd;omega
  have h2:b.dep+1<d:=by have:max a.dep b.dep+1+1<d+1:=hd;omega
  refine (zag (w_or _ md n _ _)).trans ?_
  rw [zcg]
  exact (zj0 (zaC md hl a n d ok.1 h1) (zaC md hl b n d ok.2 h2)).trans (congrArg (fun b=>M.ret (PV.bool b)) (znz _ _ _))
noncomputable def Rf(v:PV):Prop:=∀(md:Md)(n d:Nat),md.lp=true→n+110<d→zaf GG d md AA.is_within [v,.int n]=M.ret (.bool false)
theorem Rf.go{v:PV} (h:∀(md:Md)(n d:Nat),md.lp=true→n+110<d→zaj GG (zaf GG d) md AA.is_within [v,.int ((n+1:Nat):Int)]=M.ret (.bool false)):Rf v:=by
 intro md n d hl hd
 cases d with
 | zero=>exact absurd hd (Nat.not_lt_zero _)
 | succ d=>
  cases n with
  | zero=>exact zag (w_0 _ md v)
  | succ n=>exact zag (h md n d hl (by omega))
theorem Rf.of{v:PV} (h:∀(C:zad)(md:Md)(n:Nat),zaj GG C md AA.is_within [v,.int ((n+1:Nat):Int)]=M.ret (.bool false)):Rf v:=Rf.go fun md n d _ _=>h _ md n
theorem Rf.none:Rf .none:=Rf.of fun _ _ _=>by kernel_rfl
theorem Rf.str(s:Str):Rf (.str s):=Rf.of fun _ _ _=>by kernel_rfl
theorem Rf.bool(b:Bool):Rf (.bool b):=Rf.of fun _ _ _=>by kernel_rfl
theorem Rf.not{x:PV}(h:Rf x):Rf (.tup [.str "not",x]):=Rf.go fun md n d hl hd=>(zpm _ md n x).trans (by rw [zcg];exact h md n d hl hd)
theorem zpn(C:zad)(md:Md)(n:Nat){w:Str}(hw:w="and"∨w="or")(v u:PV):zaj GG C md AA.is_within [.tup [.str w,v,u],.int ((n+1:Nat):Int)]=andM (C md AA.is_within [v,.int n]) (C md AA.is_within [u,.int n]):=by
 rw [← zcg n]
 rcases hw with rfl | rfl
 ·exact zpo C md n v u
 ·exact w_or C md n v u
theorem Rf.left{x y:PV}{w:Str}(hw:w="and"∨w="or")(h:Rf x):Rf (.tup [.str w,x,y]):=Rf.go fun md n d hl hd=>(zpn _ md n hw x y).trans (zqd (h md n d hl hd))
theorem Rf.right{s:Say}{y:PV}{w:Str}(hw:w="and"∨w="or")(ok:s.Ok)(hs:s.dep≤100)(h:Rf y):Rf (.tup [.str w,s.pv,y]):=Rf.go fun md n d hl hd=>
 (zpn _ md n hw s.pv y).trans ((zj0 (zaC md hl s n d ok (by omega)) (h md n d hl hd)).trans (by rw [Bool.and_false]))
theorem Rf.name{x:PV}(h:∀(C:zad)(md:Md),md.lp=true→zaj GG C md AA.is_name [x]=M.ret (.bool false)):Rf (.tup [.str "name",x]):=Rf.go fun md n d hl hd=>by
 cases d with
 | zero=>exact absurd hd (Nat.not_lt_zero _)
 | succ d=>exact (znm _ md n x).trans (zag (h _ md hl))
theorem zpM{P:Md→Prop}(h:∀ r,P ⟨r,true⟩):∀ md:Md,md.lp=true→P md:=fun md hl=>by
 obtain ⟨r,l⟩:=md
 cases hl
 exact h r
theorem zap{α:Type}{P:α→Prop}:∀{l:List α},(l.foldr (fun x r=>P x∧r) True)→∀ x∈l,P x
 | _::_,h,_,.head _=>h.1
 | _::_,h,x,.tail _ hx=>zap h.2 x hx
theorem zoj(md:Md)(v:PV)(d:Nat)(h:zaf GG d md AA.is_within [v,.int 100]=M.ret (.bool true)):zaf GG (d+2) md AA.need_saying [v]=M.ret .none:=
 zag ((zf9 _ md v).trans (if_f (zbw (zag ((zeH _ md v).trans h)))))
theorem ziV{mu:Bool}{h:PV}{xs:List PV}(hx:xs.length≤1000):cutM mu (.tup (h::xs)) (some 1) Option.none=M.ret (.tup xs):=
 c_t (by rw [decide_eq_true (show (1:Int)≤1 by decide),decide_eq_true (show (1:Int)≤(h::xs).length by rw [List.length_cons];omega),decide_eq_true (show (h::xs).length≤2 ^ 20 by rw [List.length_cons];exact Nat.lt_of_le_of_lt ‹_› (by decide))];rfl)
noncomputable def Say.parts:Say→List Say
 | .not a=>[a]
 | .and a b=>[a,b]
 | .or a b=>[a,b]
 | _=>[]
noncomputable def Say.word:Say→Str
 | .yes=>"yes" | .no=>"no" | .name _=>"name" | .not _=>"not" | .and _ _=>"and" | .or _ _=>"or"
theorem zlz(s:Say):isM GG (.bi .tuple) s.pv=M.ret (.bool true):=by cases s <;> rfl
theorem zcz:∀ l:List Int,zd2 (l.map PV.int)=some l
 | []=>rfl
 | x::r=>congrArg (zhm x) (zcz r)
theorem zbL{i:Int}(h:-4000000000000≤i)(h':i≤4000000000000):zba i=true:=by
 unfold zba
 rw [decide_eq_true (show -(2 ^ 62)≤i by omega),decide_eq_true (show i≤2 ^ 62 by omega)];rfl
theorem zet{C:zad}{r:Bool}{w:Str}{ps:List Say}(hp:ps.length≤2)(hz:∀ p∈ps,p.sz≤1000000000000)(h:∀ p∈ps,C ⟨false,true⟩ AA.l_size [p.pv]=M.ret (.int p.sz)) :
  zaj GG C ⟨r,true⟩ AA.l_size [.tup (.str w::ps.map Say.pv)]=M.ret (.int (1+(ps.map fun p=>(p.sz:Int)).sum)):=by
 have hc:zaX (M.ret ()) (fun x=>M.noErr ((isM GG (.bi .tuple) x).bind fun cv4=>(zan cv4).bind fun b5=>M.cond b5 ((C (⟨r,true⟩:Md).inn AA.l_size [x]).bind fun y3=>M.ret (some y3)) (M.ret Option.none))) (ps.map Say.pv)=M.ret ((ps.map fun p=>(p.sz:Int)).map PV.int):=by
  clear hp hz
  induction ps with
  | nil=>rfl
  | cons p ps ih=>
   refine (bd (a:=some (.int p.sz)) ?_).trans (bd (ih fun q hq=>h q (.tail _ hq)))
   refine congrArg M.noErr (a₂:=M.ret _) ?_
   exact (bd (zlz p)).trans (bd (h p (.head _)))
 have hs:zd4 0 (ps.map fun p=>(p.sz:Int))=true:=by
  match ps,hp,hz with
  | [],_,_=>rfl
  | [p],_,hz=>
   have:=hz p (.head _)
   show (zba (p.sz:Int)&&zba (0+(p.sz:Int))&&true)=true
   rw [zbL (by omega) (by omega),zbL (by omega) (by omega)];rfl
  | [p,q],_,hz=>
   have:=hz p (.head _)
   have:=hz q (.tail _ (.head _))
   show (zba (p.sz:Int)&&zba (0+(p.sz:Int))&&(zba (q.sz:Int)&&zba (0+(p.sz:Int)+(q.sz:Int))&&true))=true
   rw [zbL (by omega) (by omega),zbL (by omega) (by omega),zbL (by omega) (by omega),zbL (by omega) (by omega)];rfl
 have hm:(ps.map Say.pv).length≤1000:=by rw [List.length_map];exact Nat.le_trans ‹_› (by decide)
 refine (zmV C _ _).trans ((bd ((bd (sq1 (zbi (md:=⟨r,true⟩) rfl (show (cutM false (.tup (.str w::ps.map Say.pv)) (some 1) Option.none).bind zaz=M.ret ⟨ps.map Say.pv,[]⟩ from bd (ziV hm)) (by exact Nat.le_trans ‹_› (by decide)) hc))).trans (zhF (zcz _) hs rfl))).trans (add_int _ _ _))
theorem zcl:∀(s:Say)(md:Md)(d:Nat),md.lp=true→s.dep<d→s.sz≤1000000000000→zaf GG d md AA.l_size [s.pv]=M.ret (.int s.sz)
 | .yes,⟨r,true⟩,d+1,_,_,_=>zag (by kernel_rfl)
 | .no,⟨r,true⟩,d+1,_,_,_=>zag (by kernel_rfl)
 | .name s,⟨r,true⟩,d+1,_,_,_=>zag (by kernel_rfl)
 | .not a,⟨r,true⟩,d+1,_,hd,hz=>by
  have hz:a.sz+1≤1000000000000:=hz
  refine (zag (zet (w:="not") (ps:=[a]) (show 1≤2 by decide) (fun p hp=>?_) fun p hp=>?_)).trans (congrArg (fun i=>M.ret (PV.int i)) ?_)
  ·rw [List.mem_singleton.mp hp];exact Nat.le_of_lt ‹_›
  ·rw [List.mem_singleton.mp hp];exact zcl a ⟨false,true⟩ d rfl (Nat.lt_of_succ_lt_succ hd) (by exact Nat.le_of_lt ‹_›)
  ·show 1+((a.sz:Int)+0)=((a.sz+1:Nat):Int);omega
 | .and a b,⟨r,true⟩,d+1,_,hd,hz=>by
  have hz:a.sz+b.sz+1≤1000000000000:=hz
  have hd:max a.dep b.dep+1<d+1:=hd
  refine (zag (zet (w:="and") (ps:=[a,b]) (Nat.le_refl 2) (fun p hp=>?_) fun p hp=>?_)).trans (congrArg (fun i=>M.ret (PV.int i)) ?_)
  ·rcases List.mem_cons.mp hp with rfl | hp
   ·omega
   ·rw [List.mem_singleton.mp hp];omega
  ·rcases List.mem_cons.mp hp with rfl | hp
   ·exact zcl p ⟨false,true⟩ d rfl (by omega) (by omega)
   ·rw [List.mem_singleton.mp hp];exact zcl b ⟨false,true⟩ d rfl (by omega) (by omega)
  ·show 1+((a.sz:Int)+((b.sz:Int)+0))=((a.sz+b.sz+1:Nat):Int);omega
 | .or a b,⟨r,true⟩,d+1,_,hd,hz=>by
  have hz:a.sz+b.sz+1≤1000000000000:=hz
  have hd:max a.dep b.dep+1<d+1:=hd
  refine (zag (zet (w:="or") (ps:=[a,b]) (Nat.le_refl 2) (fun p hp=>?_) fun p hp=>?_)).trans (congrArg (fun i=>M.ret (PV.int i)) ?_)
  ·rcases List.mem_cons.mp hp with rfl | hp
   ·omega
   ·rw [List.mem_singleton.mp hp];omega
  ·rcases List.mem_cons.mp hp with rfl | hp
   ·exact zcl p ⟨false,true⟩ d rfl (by omega) (by omega)
   ·rw [List.mem_singleton.mp hp];exact zcl b ⟨false,true⟩ d rfl (by omega) (by omega)
  ·show 1+((a.sz:Int)+((b.sz:Int)+0))=((a.sz+b.sz+1:Nat):Int);omega
theorem l_size(s:Say)(md:Md)(d:Nat)(hl:md.lp=true)(hd:s.dep<d)(hz:s.sz≤1000):zaf GG d md AA.l_size [s.pv]=M.ret (.int s.sz):=zcl s md d hl hd (Nat.le_trans hz (by decide))
end
end Mine
namespace Mine
noncomputable section
open PySem
theorem zc5{σ:zaa}{c c':Cel}:(σ++[c]).set σ.length c'=σ++[c']:=by rw [List.set_append_right _ _ (Nat.le_refl _),Nat.sub_self];rfl
theorem zaV{σ:zaa}{c:Cel}:(σ++[c])[σ.length]?=some c:=by rw [List.getElem?_append_right (Nat.le_refl _),Nat.sub_self];rfl
theorem zoH{α:Type}{x:M PV}{a b:M α}{c:Bool}{σ σ':zaa}(h:x σ=.ok (.bool c) σ'):ifM x a b σ=M.cond c a b σ':=(zab h).trans (zab (a:=c) rfl)
theorem ziC(m:Nat)(hm:m≤1000):zbv [.int (m:Int)]=M.ret ⟨zbb 0 m,[]⟩:=
 c_t (show zbq (m:Int)=true by unfold zbq;rw [decide_eq_true (by omega),decide_eq_true (by omega)];rfl)
noncomputable def Say.nms:Say→List Str
 | .yes=>[] | .no=>[] | .name s=>[s]
 | .not a=>a.nms
 | .and a b=>a.nms++b.nms
 | .or a b=>a.nms++b.nms
end
end Mine
namespace Mine
noncomputable section
open PySem
universe u
theorem tr{α:Sort u}{a b c:α}(h:a=b)(h':b=c):a=c:=h.trans h'
theorem at_{α:Type}{x y:M α}{σ:zaa}{r:Rs α}(h:x=y)(h':y σ=r):x σ=r:=(congrFun h σ).trans h'
theorem zkZ{x y:M PV}{r:Rs PV}{σ σ':zaa}(h:x σ=.ok (.bool false) σ')(h':y σ'=r):orM x y σ=r:=(zab h).trans ((zab (a:=false) rfl).trans h')
theorem zi3{x y:M PV}{r:Rs PV}{σ σ':zaa}(h:x σ=.ok (.bool true) σ')(h':y σ'=r):andM x y σ=r:=(zab h).trans ((zab (a:=true) rfl).trans h')
structure MadeS (ns:List Str) (n:Nat) (s:Say):Prop where
 ok:s.Ok
 dep:s.dep≤n
 sz:s.sz=n
 nm:∀ x∈s.nms,x∈ns
noncomputable def zcB(c:Int):Int:=(c*48271+11).fmod 2147483647
theorem zpB(c:Int):(((opM false .Mult (.int c) (.int 48271)).bind fun a4=>(opM false .Add a4 (.int 11))).bind fun a5=>(opM false .Mod a5 (.int 2147483647)))=M.ret (.int (zcB c)):=tr (bd (tr (bd (zhb false c 48271 (by decide) (by decide))) (add_int _ _ _))) (zci _ _ _ (by decide))
theorem zqq(C:zad)(md:Md)(c:Int)(xs:List PV)(h:xs.length≤1000):zaj GG C md AA.l_saying [.int c,.int ((1:Nat):Int),.lst xs] =
  (opM false .Mod (.int ((zcB c).fdiv 7)) (.int (3*(xs.length:Int)+2))).bind fun pick=>ifM (zac .Lt pick (.int (3*(xs.length:Int))))
   ((seqM [M.ret (.str "name"),(opM false .Mod pick (.int xs.length)).bind fun k=>index (.lst xs) k]).bind fun vs=>M.ret (.tup vs))
   ((opM false .Mod pick (.int 2)).bind fun k=>index (.lst [Say.yes.pv,Say.no.pv]) k):=by
 refine (zfy C md _ _ _).trans ((bd (zpB c)).trans ?_)
 rw [zcT (md:=md) (mu:=false) (xs:=xs) (by exact Nat.le_trans ‹_› (by decide))]
 kernel_rfl
theorem zqm(C:zad)(md:Md)(c:Int)(n:Nat)(v:PV):zaj GG C md AA.l_saying [.int c,.int ((n+2:Nat):Int),v] =
  ifM (orM (zac .Eq (.int ((n+2:Nat):Int)) (.int 2)) (zac .Lt (.int ((zcB c).fmod 8)) (.int 2)))
   ((seqM [M.ret (.str "not"),C md AA.l_saying [.int ((zcB c).fdiv 8),.int (((n+2:Nat):Int)-1),v]]).bind fun vs=>M.ret (.tup vs))
   (((opM false .Mod (.int ((zcB c).fdiv 8)) (.int (((n+2:Nat):Int)-2))).bind fun b=>opM false .Add (.int 1) b).bind fun left=>
    (C md AA.l_saying [.int ((zcB c).fdiv 64+7919),left,v]).bind fun one=>
    ((seqM [(opM false .Mult (.int ((zcB c).fdiv 64)) (.int 3)).bind fun a=>opM false .Add a (.int (104729*((n+2:Nat):Int))),opM false .Sub (.int (((n+2:Nat):Int)-1)) left,M.ret v]).bind fun vs=>C md AA.l_saying vs).bind fun other=>
    ((seqM [(opM false .Mod (.int ((zcB c).fmod 8)) (.int 2)).bind fun k=>index (.lst [.str "and",.str "or"]) k,M.ret one,M.ret other]).bind fun vs=>M.ret (.tup vs))):=(zfy C md _ _ _).trans ((bd (zpB c)).trans (by kernel_rfl))
theorem b_eq{b c:Bool}(h:b=c):M.ret (PV.bool b)=M.ret (PV.bool c):=congrArg (fun b=>M.ret (PV.bool b)) h
theorem i_eq{b c:Int}(h:b=c):M.ret (PV.int b)=M.ret (PV.int c):=congrArg (fun b=>M.ret (PV.int b)) h
theorem zbr(mu:Bool)(a:Int){b k:Int}(h:0<b)(e:a.fmod b=k):opM mu .Mod (.int a) (.int b)=M.ret (.int k):=(zci mu a b h).trans (i_eq e)
theorem zm8{a b:Int}(h:a=b):zac .Eq (.int a) (.int b)=M.ret (.bool true):=(znD a b).trans (b_eq (beq_iff_eq.mpr h))
theorem zjQ{a b:Int}(h:a≠b):zac .Eq (.int a) (.int b)=M.ret (.bool false):=(znD a b).trans (b_eq (beq_eq_false_iff_ne.mpr h))
theorem zpY{a b:Int}(h:a<b):zac .Lt (.int a) (.int b)=M.ret (.bool true):=(c_lt a b).trans (b_eq (decide_eq_true h))
theorem zpZ{a b:Int}(h:¬ a<b):zac .Lt (.int a) (.int b)=M.ret (.bool false):=(c_lt a b).trans (b_eq (decide_eq_false h))
theorem zgy(c:Int)(a:Int){b:Nat}(ha:0<a)(ha':a<1000000)(hb:0<b):∃ k:Nat,(((opM false .FloorDiv (.int c) (.int a)).bind fun x=>opM false .Mod x (.int (b:Int)))=M.ret (.int (k:Int)))∧k<b:=by
 obtain ⟨k,hk,hkl⟩:=zay (c.fdiv a) hb
 exact ⟨k,tr (bd (za7 _ c a ha ha')) (zbr _ _ (by exact Int.ofNat_lt.mpr ‹_›) hk),hkl⟩
theorem zqp{l n e:Nat}(hl:l<n)(h:n+2≤100)(hd:n+2<e+1):(1+l<n+2∧1≤1+l∧1+l≤100∧1+l<e)∧n-l<n+2∧1≤n-l∧n-l≤100∧n-l<e:=by omega
theorem zpA{a b l n:Nat}(h1:a≤1+l)(h2:b≤n-l)(hl:l<n):max a b+1≤n+2:=by omega
theorem zpy{a b l n:Nat}(h1:a=1+l)(h2:b=n-l)(hl:l<n):a+b+1=n+2:=by omega
theorem zpz(n:Nat):((n+2:Nat):Int)-2=(n:Int):=by omega
theorem zql(n l:Nat)(hl:l<n):(((n+2:Nat):Int)-1)-((1+l:Nat):Int)=((n-l:Nat):Int):=by omega
theorem zqo(n:Nat):((n+2:Nat):Int)-1=((n+1:Nat):Int):=by omega
theorem zpC{n:Nat}(h:n≠0):((n+2:Nat):Int)≠2:=by omega
theorem zqn(l:Nat):(1:Int)+(l:Int)=((1+l:Nat):Int):=by omega
theorem zln(md:Md)(ns:List Str)(hns:∀ n∈ns,NmOk n)(hlo:1≤ns.length)(hhi:ns.length≤6):∀(n:Nat)(c:Int)(d:Nat),1≤n→n≤100→n<d→
  ∃ s,zaf GG d md AA.l_saying [.int c,.int (n:Nat),.lst (ns.map .str)]=M.ret s.pv∧MadeS ns n s:=by
 intro n
 induction n using Nat.strongRecOn with
 | _ n ih=>
  intro c d h1 h60 hd
  obtain ⟨e,rfl⟩:∃ e,d=e+1:=⟨d-1,by omega⟩
  have hlen:(ns.map PV.str).length=ns.length:=List.length_map _
  match n,h1,ih,h60,hd with
  | 1,_,_,_,_=>
   obtain ⟨k,hk,hkl⟩:=zay ((zcB c).fdiv 7) (b:=3*ns.length+2) (by omega)
   have st:=zag (d:=e) ((zqq (zaf GG e) md c (ns.map PV.str) (by omega)).trans ((bd (zbr false _ (by omega) (k:=k) (by rw [hlen];exact hk))).trans rfl))
   rw [hlen] at st
   by_cases hp:k<3*ns.length
   ·obtain ⟨j,hj,hjl⟩:=zay (k:Int) (b:=ns.length) (by assumption)
    have hget:(ns.map PV.str)[j]?=some (.str ns[j]):=by rw [List.getElem?_map,List.getElem?_eq_getElem hjl];rfl
    exact ⟨.name ns[j],st.trans ((if_t (zpY (by exact Int.ofNat_lt.mpr ‹_›))).trans (bd (sq2 rfl ((bd (zbr _ _ (by exact Int.ofNat_lt.mpr ‹_›) hj)).trans (zeG hget (by omega)))))),hns _ (List.getElem_mem hjl),Nat.le_refl _,rfl,zap ⟨List.getElem_mem hjl,trivial⟩⟩
   ·obtain ⟨j,hj,hjl⟩:=zay (k:Int) (b:=2) (by decide)
    have g:=fun(s:Say)(hs:[Say.yes.pv,Say.no.pv][j]?=some s.pv)=>st.trans ((if_f (zpZ (by omega))).trans ((bd (zbr _ _ (by decide) hj)).trans (zeG hs (by exact Nat.le_trans (Nat.le_of_lt ‹_›) (by decide)))))
    match j,hjl,g with
    | 0,_,g=>exact ⟨.yes,g .yes rfl,trivial,Nat.le_refl _,rfl,fun x hx=>absurd hx List.not_mem_nil⟩
    | 1,_,g=>exact ⟨.no,g .no rfl,trivial,Nat.le_refl _,rfl,fun x hx=>absurd hx List.not_mem_nil⟩
  | n+2,_,ih,h60,hd=>
   have st:=zag (d:=e) (zqm (zaf GG e) md c n (.lst (ns.map PV.str)))
   obtain ⟨y,hy,hyl⟩:=zay (zcB c) (b:=8) (by decide)
   have hy:(zcB c).fmod 8=(y:Int):=hy
   rw [hy] at st
   by_cases hnot:n=0∨y<2
   ·have hc:orM (zac .Eq (.int ((n+2:Nat):Int)) (.int 2)) (zac .Lt (.int y) (.int 2))=M.ret (.bool true):=by
     by_cases h0:n=0
     ·exact or_t (zm8 (by rw [h0];rfl))
     ·exact (or_f (zjQ (zpC h0))).trans (zpY (Int.ofNat_lt.mpr (hnot.resolve_left h0)))
    obtain ⟨s,hs,M1⟩:=ih (n+1) (by exact Nat.le_refl _) ((zcB c).fdiv 8) e (Nat.succ_le_succ (Nat.zero_le _)) (Nat.le_of_lt h60) (Nat.lt_of_succ_lt_succ hd)
    rw [zqo] at st
    exact ⟨.not s,st.trans ((if_t hc).trans (bd (sq2 rfl hs))),M1.ok,Nat.succ_le_succ M1.dep,congrArg Nat.succ M1.sz,M1.nm⟩
   ·have hn:=not_or.mp hnot
    have hc:orM (zac .Eq (.int ((n+2:Nat):Int)) (.int 2)) (zac .Lt (.int y) (.int 2))=M.ret (.bool false):=(or_f (zjQ (zpC hn.1))).trans (zpZ fun z=>hn.2 (Int.ofNat_lt.mp z))
    obtain ⟨l,hl,hll⟩:=zay ((zcB c).fdiv 8) (b:=n) (Nat.pos_of_ne_zero hn.1)
    obtain ⟨q,hq,hql⟩:=zay (y:Int) (b:=2) (by decide)
    have B:=zqp hll h60 hd
    obtain ⟨s,hs,M1⟩:=ih (1+l) B.1.1 ((zcB c).fdiv 64+7919) e B.1.2.1 B.1.2.2.1 B.1.2.2.2
    obtain ⟨t,ht,M2⟩:=ih (n-l) B.2.1 ((zcB c).fdiv 64*3+104729*((n+2:Nat):Int)) e B.2.2.1 B.2.2.2.1 B.2.2.2.2
    have h1:(opM false .Mod (.int ((zcB c).fdiv 8)) (.int (((n+2:Nat):Int)-2))).bind (fun b=>opM false .Add (.int 1) b)=M.ret (.int ((1+l:Nat):Int)):=(bd (zbr _ _ (by rw [zpz];exact Int.ofNat_lt.mpr (Nat.lt_of_le_of_lt (Nat.zero_le _) hll)) (k:=l) (by rw [zpz];exact hl))).trans ((add_int _ _ _).trans (i_eq (zqn l)))
    have h2:opM false .Sub (.int (((n+2:Nat):Int)-1)) (.int ((1+l:Nat):Int))=M.ret (.int ((n-l:Nat):Int)):=(sub_int _ _ _).trans (i_eq (zql n l hll))
    have g:=fun(w:Str)(hw:[PV.str "and",.str "or"][q]?=some (.str w))=>tr st (tr (if_f hc) (tr (bd h1) (tr (bd hs) (tr (bd (tr (bd (sq3 (tr (bd (zhb false _ 3 (by decide) (by decide))) (add_int _ _ _)) h2 rfl)) ht)) (bd (sq3 (tr (bd (zbr _ _ (by decide) hq)) (zeG hw (by exact Nat.le_trans (Nat.le_of_lt ‹_›) (by decide)))) rfl rfl))))))
    match q,hql,g with
    | 0,_,g=>exact ⟨.and s t,g "and" rfl,⟨M1.ok,M2.ok⟩,zpA M1.dep M2.dep hll,zpy M1.sz M2.sz hll,fun x hx=>(List.mem_append.mp hx).elim (M1.nm x) (M2.nm x)⟩
    | 1,_,g=>exact ⟨.or s t,g "or" rfl,⟨M1.ok,M2.ok⟩,zpA M1.dep M2.dep hll,zpy M1.sz M2.sz hll,fun x hx=>(List.mem_append.mp hx).elim (M1.nm x) (M2.nm x)⟩
theorem l_saying(md:Md)(ns:List Str)(hns:∀ n∈ns,NmOk n)(hlo:1≤ns.length)(hhi:ns.length≤6):∀(n:Nat)(c:Int)(d:Nat),1≤n→n≤60→n<d→
  ∃ s,zaf GG d md AA.l_saying [.int c,.int (n:Nat),.lst (ns.map .str)]=M.ret s.pv∧MadeS ns n s:=fun n c d h1 h2 h3=>zln md ns hns hlo hhi n c d h1 (by exact Nat.le_trans ‹_› (by decide)) h3
noncomputable def ls(s:Str):List Nat:=s.cps.toList
noncomputable def sL(l:List Nat):Str:=⟨l.toArray⟩
theorem zpD(s:Str):sL (ls s)=s:=rfl
theorem zns(l:List Nat):(sL l).length=l.length:=rfl
theorem zpN(a b:Str):ls (a++b)=ls a++ls b:=Array.toList_append
theorem zpE(a b:List Nat):sL a++sL b=sL (a++b):=by
 rw [← zpD (sL a++sL b),zpN];rfl
theorem zqr{l m:List Nat}(h:l≠m):sL l≠sL m:=fun q=>h (congrArg ls q)
theorem add_str{mu:Bool}{a b:Str}(h:a.length+b.length≤1000000):opM mu .Add (.str a) (.str b)=M.ret (.str (a++b)):=c_t (decide_eq_true (by exact Nat.le_trans ‹_› (by decide)))
theorem zfO{mu:Bool}{a b:List Nat}(h:a.length+b.length≤1000000):opM mu .Add (.str (sL a)) (.str (sL b))=M.ret (.str (sL (a++b))):=(add_str (a:=sL a) (b:=sL b) h).trans (congrArg (fun s=>M.ret (PV.str s)) (zpE a b))
theorem zek(n i:Nat):clip n (i:Int)=min i n:=by
 unfold clip
 rw [if_neg (by omega)]
 omega
theorem zkr{α:Type}(l:List α)(n:Nat):slc Option.none (some (n:Int)) l=l.take n:=by
 show (l.drop 0).take (clip l.length n-0)=_
 rw [zek,List.drop_zero,Nat.sub_zero,Nat.min_def]
 split
 ·rfl
 ·rw [List.take_of_length_le (Nat.le_refl _),List.take_of_length_le (by omega)]
theorem zkq{α:Type}(l:List α)(n:Nat):slc (some (n:Int)) Option.none l=l.drop n:=by
 show (l.drop (clip l.length n)).take (l.length-clip l.length n)=_
 rw [List.take_of_length_le (by rw [List.length_drop];exact Nat.le_refl _),zek,Nat.min_def]
 split
 ·rfl
 ·rw [List.drop_of_length_le (Nat.le_refl _),List.drop_of_length_le (by omega)]
theorem zlW{mu:Bool}{l:List Nat}{n:Nat}(hl:l.length≤1000):cutM mu (.str (sL l)) Option.none (some (n:Int))=M.ret (.str (sL (l.take n))):=
 (c_t (decide_eq_true (show (sL l).length≤2 ^ 20 by rw [zns];exact Nat.le_trans ‹_› (by decide)))).trans (congrArg (fun m=>M.ret (PV.str (sL m))) (zkr l n))
theorem zo0{mu:Bool}{l:List Nat}{n:Nat}(hl:l.length≤1000):cutM mu (.str (sL l)) (some (n:Int)) Option.none=M.ret (.str (sL (l.drop n))):=
 (c_t (decide_eq_true (show (sL l).length≤2 ^ 20 by rw [zns];exact Nat.le_trans ‹_› (by decide)))).trans (congrArg (fun m=>M.ret (PV.str (sL m))) (zkq l n))
theorem ziD(i:Int):zcA (M.ret (.int i))=M.ret (some i):=rfl
theorem zkb:∀(n:Nat)(a:Int),(zbb a n).length=n
 | 0,_=>rfl
 | n+1,a=>congrArg Nat.succ (zkb n (a+1))
theorem zbD{f:PV→M (Option PV)}{x y:PV}{xs ys:List PV}(h:f x=M.ret (some y)) (h':zaX (M.ret ()) (fun x=>M.noErr (f x)) xs=M.ret ys):zaX (M.ret ()) (fun x=>M.noErr (f x)) (x::xs)=M.ret (y::ys):=
 (bd (show M.noErr (f x)=M.ret (some y) from congrArg M.noErr h)).trans (bd h')
theorem zl1{f:PV→M (Option PV)}{x:PV}{xs ys:List PV}(h:f x=M.ret Option.none) (h':zaX (M.ret ()) (fun x=>M.noErr (f x)) xs=M.ret ys):zaX (M.ret ()) (fun x=>M.noErr (f x)) (x::xs)=M.ret ys:=
 (bd (show M.noErr (f x)=M.ret Option.none from congrArg M.noErr h)).trans (bd h')
theorem zl0{f:PV→M (Option PV)}{g:Nat→PV}:∀(m x:Nat),(∀ k,k<x+m→f (.int (k:Nat))=M.ret (some (g k)))→zaX (M.ret ()) (fun x=>M.noErr (f x)) (zbb (x:Nat) m)=M.ret ((List.range m).map fun k=>g (x+k))
 | 0,_,_=>rfl
 | m+1,x,h=>by
  have ih:=zl0 (f:=f) (g:=g) m (x+1) fun k h2=>h k (by omega)
  rw [List.range_succ_eq_map,List.map_cons,List.map_map]
  refine tr (zbD (h x (by omega)) ih) (congrArg (fun l=>M.ret (g x::l)) (List.map_congr_left fun k _=>congrArg g ?_))
  show x+1+k=x+(k+1);omega
theorem ziW{md:Md}(hl:md.lp=true){m:Nat}(hm:m≤1000){f:PV→M (Option PV)}(g:Nat→PV) (h:∀ k,k<m→f (.int (k:Nat))=M.ret (some (g k))):za2 md false (zbv [.int (m:Int)]) f=M.ret (.lst ((List.range m).map g)):=
 zbi hl (ziC m hm) (by rw [zkb];exact Nat.le_trans ‹_› (by decide)) ((zl0 (f:=f) (g:=g) m 0 fun k hk=>h k (by omega)).trans (congrArg (fun l=>M.ret (List.map l (List.range m))) (funext fun k=>congrArg g (Nat.zero_add k))))
theorem zeN{md:Md}(hl:md.lp=true){ss:List Str}(hs:ss.length≤1000){f:PV→M (Option PV)}(h:Str→Str) (hf:∀ s∈ss,f (.str s)=M.ret (some (.str (h s)))):za2 md false (zaz (.lst (ss.map .str))) f=M.ret (.lst ((ss.map h).map .str)):=by
 refine zbi hl rfl (by rw [List.length_map];exact Nat.le_trans ‹_› (by decide)) ?_
 clear hs
 induction ss with
 | nil=>rfl
 | cons s r ih=>exact zbD (hf s (.head _)) (ih fun x hx=>hf x (.tail _ hx))
noncomputable def ltr(i:Int):Nat:=97+(i.fmod 26).toNat
theorem zlg(i:Int):97≤ltr i∧ltr i≤122:=by
 obtain ⟨k,hk,hl⟩:=zay i (b:=26) (by omega)
 have:i.fmod 26=(k:Int):=hk
 unfold ltr;rw [this];omega
theorem zgn(i:Int):index (.str "abcdefghijklmnopqrstuvwxyz") (.int (i.fmod 26))=M.ret (.str (sL [ltr i])):=by
 obtain ⟨k,hk,hl⟩:=zay i (b:=26) (by omega)
 have hk':i.fmod 26=(k:Int):=hk
 have key:∀ j:Fin 26,letters.cps.toList[j.val]?=some (97+j.val):=by decide
 have hg:=key ⟨k,hl⟩
 unfold ltr
 rw [hk']
 exact zpU hg (by exact Nat.le_trans (Nat.le_of_lt ‹_›) (by decide))
noncomputable def nmB(l:List Nat):Bool:=decide (1≤l.length)&&decide (l.length≤6)&&l.all (fun c=>decide (97≤c)&&decide (c≤122))&&!(l==[121,101,115])&&!(l==[110,111])&&!(l==[110,111,116])&&!(l==[97,110,100])&&!(l==[111,114])
theorem zht{l m:List Nat} (h:(!(l==m))=true):sL l≠sL m:=zqr fun q=>by rw [q,beq_self_eq_true] at h;cases h
theorem ziF{l:List Nat}(h:nmB l=true):NmOk (sL l):=by
 unfold nmB at h
 have h8:=Bool.and_eq_true_iff.mp h
 have h7:=Bool.and_eq_true_iff.mp h8.1
 have h6:=Bool.and_eq_true_iff.mp h7.1
 have h5:=Bool.and_eq_true_iff.mp h6.1
 have h4:=Bool.and_eq_true_iff.mp h5.1
 have h3:=Bool.and_eq_true_iff.mp h4.1
 have h2:=Bool.and_eq_true_iff.mp h3.1
 refine ⟨of_decide_eq_true h2.1,of_decide_eq_true h2.2,fun c hc=>?_,zht h4.2,zht h5.2,zht h6.2,zht h7.2,zht h8.2⟩
 have:=Bool.and_eq_true_iff.mp (List.all_eq_true.mp h3.2 c hc)
 exact ⟨of_decide_eq_true this.1,of_decide_eq_true this.2⟩
theorem in_2(a x y:Str):zac .In (.str a) (.tup [.str x,.str y])=M.ret (.bool ((x==a) || ((y==a) || false))):=rfl
theorem zeO{md:Md}(hl:md.lp=true){m:Nat}(hm:m≤1000){f:PV→M (Option PV)}(g:Nat→Str) (h:∀ k,k<m→f (.int (k:Nat))=M.ret (some (.str (g k)))):za2 md false (zbv [.int (m:Int)]) f=M.ret (.lst (((List.range m).map g).map .str)):=
 (ziW hl hm (fun k=>.str (g k)) h).trans (by rw [List.map_map];rfl)
theorem zqu(md:Md)(a b c d e f:Nat)(x:M (List PV))(h:x=M.ret [.lst [.str (sL [a]),.str (sL [b]),.str (sL [c]),.str (sL [d]),.str (sL [e]),.str (sL [f])]]):zcj md false "join" (.str "") x=M.ret (.str (sL [a,b,c,d,e,f])):=by
 rw [h];kernel_rfl
theorem zhi(a:Int)(b:Nat):a.fmod b=a % b:=Int.fmod_eq_emod_of_nonneg a (by omega)
theorem zor(q:Int)(b:Nat):ltr (q+b)=97+((q.fmod 26).toNat+b) % 26:=by
 unfold ltr
 have h1:(q+b).fmod 26=(q+b) % 26:=zhi _ 26
 have h2:q.fmod 26=q % 26:=zhi _ 26
 rw [h1,h2];omega
noncomputable def bl(r:Nat):List Nat:=[97+(r+0) % 26,97+(r+5) % 26,97+(r+10) % 26,97+(r+15) % 26,97+(r+20) % 26,97+(r+25) % 26]
theorem zqH(r:Nat)(hr:r<26)(k:Nat)(hk:k<6):nmB ((bl r).take (k+1))=true:=by
 have key:∀ r:Fin 26,∀ k:Fin 6,nmB ((bl r.val).take (k.val+1))=true:=by decide +kernel
 exact key ⟨r,hr⟩ ⟨k,hk⟩
noncomputable def NmL(m:Nat)(x:M PV):Prop:=∃ ns:List Str,x=M.ret (.lst (ns.map .str))∧ns.length=m∧∀ n∈ns,NmOk n
theorem NmL.rng{m:Nat}{x:M PV}(g:Nat→Str) (e:x=M.ret (.lst (((List.range m).map g).map .str))) (h:∀ k,k<m→NmOk (g k)):NmL m x:=⟨_,e,by rw [List.length_map,List.length_range],fun n hn=>by
 obtain ⟨k,hk,rfl⟩:=List.mem_map.mp hn
 exact h k (List.mem_range.mp hk)⟩
theorem zhU{m:Nat}(h6:m≤6)(g:Nat→Str):((List.range m).map g).length≤1000:=by rw [List.length_map,List.length_range];exact Nat.le_trans ‹_› (by decide)
theorem zom(C:zad)(md:Md)(hl:md.lp=true)(c:Int)(hc:c.fmod 5=0)(m:Nat)(h6:m≤6):NmL m (zaj GG C md AA.l_names [.int c,.int (m:Nat)]):=by
 obtain ⟨r,hr,hrl⟩:=zay (c.fdiv 5) (b:=26) (by decide)
 have hr:(c.fdiv 5).fmod 26=(r:Int):=hr
 refine NmL.rng (fun k=>sL ((bl r).take (k+1))) ?_ fun k hk=>ziF (zqH _ hrl k (by exact Nat.le_trans ‹_› ‹_›))
 have ht:∀ b:Nat,ltr (c.fdiv 5+(b:Int))=97+(r+b) % 26:=fun b=>by rw [zor,hr];rfl
 refine tr (zeF C md _ _) (tr (bd (za7 _ c 5 (by decide) (by decide))) (tr (if_t (tr (bd (zbr _ c (by decide) hc)) rfl)) (tr (bd (zqu md _ _ _ _ _ _ _ (sq1 (ziW (m:=6) hl (by decide) (fun k=>.str (sL [97+(r+5*k) % 26])) fun k hk=>?_)))) ?_)))
 ·refine bd (tr (bd (tr (bd (tr (bd (zlb false 5 k (by decide) (by decide))) (add_int _ _ _))) (zci _ _ _ (by decide)))) (tr (zgn _) ?_))
  rw [show (5:Int)*(k:Int)=((5*k:Nat):Int) by omega,ht]
 ·refine zeO hl (by exact Nat.le_trans ‹_› (by decide)) _ fun k hk=>bd (tr (bd (show zcA (opM false .Add (.int k) (.int 1))=M.ret (some ((k+1:Nat):Int)) from rfl)) (zlW (l:=bl r) (show 6≤1000 by decide)))
noncomputable def fixB(l:List Nat):List Nat:=if l=[110,111,116] then [110,111,116,120] else l
noncomputable def zdv(j:Nat):List Nat:=match j with | 0=>[121,101,115] | 1=>[110,111] | 2=>[110,111,116] | 3=>[97,110,100] | _=>[111,114]
noncomputable def zla(w:List Nat)(i c:Nat):List Nat:=match i with | 0=>w++[c] | 1=>[c]++w | _=>w++[c]++[c]
theorem zmH(j i c:Nat)(hj:j<5)(hi:i<3)(h:97≤c∧c≤122):nmB (fixB (zla (zdv j) i c))=true:=by
 have key:∀ j:Fin 5,∀ i:Fin 3,∀ c:Fin 26,nmB (fixB (zla (zdv j.val) i.val (97+c.val)))=true:=by decide +kernel
 have:=key ⟨j,hj⟩ ⟨i,hi⟩ ⟨c-97,by omega⟩
 rwa [show 97+(c-97)=c from by omega] at this
theorem zol(C:zad)(md:Md)(hl:md.lp=true)(c:Int)(hc:c.fmod 5=1)(m:Nat)(h6:m≤6):NmL m (zaj GG C md AA.l_names [.int c,.int (m:Nat)]):=by
 obtain ⟨j,hj,hjl⟩:=zay (c.fdiv 5) (b:=5) (by decide)
 obtain ⟨i,hi,hil⟩:=zay ((c.fdiv 5).fdiv 130) (b:=3) (by decide)
 have hword:([PV.str "yes",.str "no",.str "not",.str "and",.str "or"])[j]?=some (.str (sL (zdv j))):=by
  match j,hjl with
  | 0,_=>rfl
  | 1,_=>rfl
  | 2,_=>rfl
  | 3,_=>rfl
  | 4,_=>rfl
 have hwl:(zdv j).length≤3:=by
  match j,hjl with
  | 0,_=>decide
  | 1,_=>decide
  | 2,_=>decide
  | 3,_=>decide
  | 4,_=>decide
 let sg:Nat→Nat:=fun k=>ltr ((c.fdiv 5).fdiv 5+(k:Int))
 refine NmL.rng (fun k=>sL (fixB (zla (zdv j) i (sg k)))) ?_ fun k _=>ziF (zmH j i _ hjl hil (zlg _))
 refine tr (zeF C md _ _) (tr (bd (za7 _ c 5 (by decide) (by decide))) (tr (if_f (tr (bd (zbr _ c (by decide) hc)) rfl)) (tr (if_t (tr (bd (zbr _ c (by decide) hc)) rfl)) (tr (bd (tr (bd (zbr _ _ (by decide) hj)) (zeG hword (by exact Nat.le_trans (Nat.le_of_lt ‹_›) (by decide))))) ?_))))
 refine tr (bd (zeO hl (by exact Nat.le_trans ‹_› (by decide)) (fun k=>sL [sg k]) fun k hk=>bd (tr (bd (tr (bd (tr (bd (za7 _ _ 5 (by decide) (by decide))) (add_int _ _ _))) (zci _ _ _ (by decide)))) (zgn _)))) ?_
 refine tr (bd (zeN hl (zhU h6 _) (fun s=>sL (zla (zdv j) i ((ls s).headD 0))) fun s hs=>?_)) ?_
 ·obtain ⟨k,hk,rfl⟩:=List.mem_map.mp hs
  have hx:[PV.str (sL (zdv j++[sg k])),.str (sL ([sg k]++zdv j)),.str (sL (zdv j++[sg k]++[sg k]))][i]?=some (.str (sL (zla (zdv j) i (sg k)))):=by
   match i,hil with
   | 0,_=>rfl
   | 1,_=>rfl
   | 2,_=>rfl
  have a1:=zfO (mu:=false) (a:=zdv j) (b:=[sg k]) (show _+1≤_ by exact Nat.lt_of_le_of_lt ‹_› (by decide))
  refine bd (tr (bd (bd (sq3 a1 (zfO (a:=[sg k]) (b:=zdv j) (show 1+_≤_ by omega)) (tr (bd a1) (zfO (a:=zdv j++[sg k]) (b:=[sg k]) (by rw [List.length_append];show _+1+1≤_;omega)))))) (tr (bd (tr (bd (za7 _ _ 130 (by decide) (by decide))) (zbr _ _ (by decide) hi))) (zeG hx (by exact Nat.le_trans (Nat.le_of_lt ‹_›) (by decide)))))
 ·refine tr (zeN hl (by rw [List.length_map];exact zhU h6 _) (fun s=>sL (fixB (ls s))) fun s _=>bd ?_) ?_
  ·refine tr (if_b (zcp s "not")) ?_
   by_cases hq:s="not"
   ·subst hq;kernel_rfl
   ·rw [zcI hq]
    have:ls s≠[110,111,116]:=fun q=>hq (by rw [← zpD s,q];rfl)
    unfold fixB
    rw [if_neg this];rfl
  ·exact congrArg (fun l=>M.ret (PV.lst (List.map PV.str l))) (by rw [List.map_map,List.map_map];rfl)
noncomputable def zde(z a f c:Nat):List Nat:=List.replicate a f++([c]++List.replicate (z-a) f)
noncomputable def fixC(l:List Nat):List Nat:=if l=[110,111]∨l=[111,114] then l++l else l
theorem zha{z a f c:Nat}(ha:a≤z):(zde z a f c).length=z+1:=by
 unfold zde;rw [List.length_append,List.length_append,List.length_replicate,List.length_replicate,List.length_singleton];omega
theorem zeV{l m:List Nat}(h:l≠m):(!(l==m))=true:=by rw [beq_eq_false_iff_ne.mpr h];rfl
theorem zmG(z a f c:Nat)(hz:z<6)(ha:a≤z)(hf:97≤f∧f≤122)(hc:97≤c∧c≤122):NmOk (sL (fixC (zde z a f c))):=by
 have hlen:=zha (f:=f) (c:=c) ha
 have hall:∀ x∈zde z a f c,97≤x∧x≤122:=fun x hx=>by
  rcases List.mem_append.mp hx with h | h
  ·rw [(List.mem_replicate.mp h).2];exact hf
  ·rcases List.mem_append.mp h with h | h
   ·rw [List.mem_singleton.mp h];exact hc
   ·rw [(List.mem_replicate.mp h).2];exact hf
 unfold fixC
 by_cases h:zde z a f c=[110,111]∨zde z a f c=[111,114]
 ·rw [if_pos h]
  rcases h with h | h <;> (rw [h];exact ziF (by decide))
 ·rw [if_neg h]
  have h3:∀ x y w:Nat,x≠y→y≠w→x≠w→zde z a f c≠[x,y,w]:=fun x y w n1 n2 n3 q=>by
   have hz2:z=2:=by rw [q] at hlen;exact Nat.succ.inj hlen.symm
   subst hz2
   have t:∀{p1 p2 p3:Nat},[p1,p2,p3]=[x,y,w]→p1=x∧p2=y∧p3=w:=fun q=>⟨(List.cons.inj q).1,(List.cons.inj (List.cons.inj q).2).1,(List.cons.inj (List.cons.inj (List.cons.inj q).2).2).1⟩
   match a,ha,q with
   | 0,_,q=>have:=t (p1:=c) (p2:=f) (p3:=f) q;omega
   | 1,_,q=>have:=t (p1:=f) (p2:=c) (p3:=f) q;omega
   | 2,_,q=>have:=t (p1:=f) (p2:=f) (p3:=c) q;omega
  refine ziF ?_
  unfold nmB
  rw [hlen,decide_eq_true (show 1≤z+1 by omega),decide_eq_true (show z+1≤6 by assumption),zeV fun q=>h (.inl q),zeV fun q=>h (.inr q),zeV (h3 121 101 115 (by decide) (by decide) (by decide)),zeV (h3 110 111 116 (by decide) (by decide) (by decide)),zeV (h3 97 110 100 (by decide) (by decide) (by decide)),List.all_eq_true.mpr fun x hx=>by rw [decide_eq_true (hall x hx).1,decide_eq_true (hall x hx).2];rfl]
  rfl
theorem zkl(f z:Nat):zcZ (sL [f]) z=sL (List.replicate z f):=by
 show sL (List.replicate z [f]).flatten=_
 refine congrArg sL ?_
 induction z with
 | zero=>rfl
 | succ z ih=>rw [List.replicate_succ,List.replicate_succ,List.flatten_cons,ih];rfl
theorem zop(f z:Nat)(hz:z≤1000):opM false .Mult (.str (sL [f])) (.int (z:Int))=M.ret (.str (sL (List.replicate z f))):=
 tr (c_t (by rw [decide_eq_true (show (0:Int)≤z by omega),decide_eq_true (show (z:Int)≤1000 by omega)];rfl)) (congrArg (fun s=>M.ret (PV.str s)) (zkl f z))
theorem zok(C:zad)(md:Md)(hl:md.lp=true)(c:Int)(hc0:c.fmod 5≠0)(hc1:c.fmod 5≠1)(m:Nat)(h6:m≤6):NmL m (zaj GG C md AA.l_names [.int c,.int (m:Nat)]):=by
 obtain ⟨z,hz,hzl⟩:=zay (c.fdiv 5) (b:=6) (by decide)
 obtain ⟨a,ha,hal⟩:=zay ((c.fdiv 5).fdiv 6) (b:=z+1) (by omega)
 let f:Nat:=ltr ((c.fdiv 5).fdiv 36)
 let sg:Nat→Nat:=fun k=>ltr ((c.fdiv 5).fdiv 936+(k:Int))
 refine NmL.rng (fun k=>sL (fixC (zde z a f (sg k)))) ?_ fun k _=>zmG z a f _ hzl (by omega) (zlg _) (zlg _)
 refine tr (zeF C md _ _) (tr (bd (za7 _ c 5 (by decide) (by decide))) (tr (if_f (tr (bd (zci _ c 5 (by decide))) (zjQ hc0))) (tr (if_f (tr (bd (zci _ c 5 (by decide))) (zjQ hc1))) ?_)))
 refine tr (bd (zbr _ _ (by decide) hz)) (tr (bd (tr (bd (za7 _ _ 6 (by decide) (by decide))) (tr (bd (add_int _ _ _)) (zbr _ _ (by omega) ha)))) (tr (bd (tr (bd (tr (bd (tr (bd (za7 _ _ 36 (by decide) (by decide))) (zci _ _ _ (by decide)))) (zgn _))) (zop f z (by exact Nat.le_trans (Nat.le_of_lt ‹_›) (by decide))))) ?_))
 have l1:(List.replicate z f).length≤1000:=by rw [List.length_replicate];exact Nat.le_trans (Nat.le_of_lt ‹_›) (by decide)
 refine tr (bd (zeO hl (by exact Nat.le_trans ‹_› (by decide)) (fun k=>sL (zde z a f (sg k))) fun k hk=>bd ?_)) ?_
 ·refine tr (bd (tr (bd (tr (bd (ziD a)) (zlW l1))) (tr (bd (tr (bd (tr (bd (tr (bd (za7 _ _ 936 (by decide) (by decide))) (add_int _ _ _))) (zci _ _ _ (by decide)))) (zgn _))) (zfO (by rw [List.length_take];show _+1≤_;omega))))) (tr (bd (tr (bd (ziD a)) (zo0 l1))) (tr (zfO ?_) ?_))
  ·rw [List.length_append,List.length_take,List.length_drop];show _+1+_≤_;omega
  ·rw [List.take_replicate,List.drop_replicate,Nat.min_eq_left (by omega),List.append_assoc];rfl
 ·refine tr (zeN hl (zhU h6 _) (fun s=>sL (fixC (ls s))) fun s hs=>bd ?_) ?_
  ·obtain ⟨k,hk,rfl⟩:=List.mem_map.mp hs
   refine tr (if_b (in_2 _ _ _)) ?_
   have hlen:=zha (f:=f) (c:=sg k) (show a≤z by omega)
   show _=M.ret (PV.str (sL (fixC (zde z a f (sg k)))))
   unfold fixC
   by_cases hq:zde z a f (sg k)=[110,111]∨zde z a f (sg k)=[111,114]
   ·rw [if_pos hq]
    refine tr (c_t ?_) (zfO (by omega))
    rcases hq with q | q <;> (rw [q];decide)
   ·rw [if_neg hq,zcI (show ("no":Str)≠sL (zde z a f (sg k)) from fun q=>hq (.inl (congrArg ls q).symm)),zcI (show ("or":Str)≠sL (zde z a f (sg k)) from fun q=>hq (.inr (congrArg ls q).symm))];rfl
  ·exact congrArg (fun l=>M.ret (PV.lst (List.map PV.str l))) (by rw [List.map_map];rfl)
theorem l_names(C:zad)(md:Md)(hl:md.lp=true)(c:Int)(m:Nat)(h6:m≤6):NmL m (zaj GG C md AA.l_names [.int c,.int (m:Nat)]):=by
 by_cases h0:c.fmod 5=0
 ·exact zom C md hl c h0 m h6
 ·by_cases h1:c.fmod 5=1
  ·exact zol C md hl c h1 m h6
  ·exact zok C md hl c h0 h1 m h6
theorem zdb:∀ s:Say,s.nms.length≤s.sz
 | .yes=>Nat.zero_le _
 | .no=>Nat.zero_le _
 | .name _=>Nat.le_refl 1
 | .not a=>Nat.le_succ_of_le (zdb a)
 | .and a b=>by show (a.nms++b.nms).length≤a.sz+b.sz+1;have:=zdb a;have:=zdb b;rw [List.length_append];omega
 | .or a b=>by show (a.nms++b.nms).length≤a.sz+b.sz+1;have:=zdb a;have:=zdb b;rw [List.length_append];omega
noncomputable def uni(K L:List Str):List Str:=K++L.filter fun x=>!(K.any fun y=>y==x)
theorem zfU(L:List Str):uni [] L=L:=List.filter_eq_self.mpr fun _ _=>rfl
theorem zdu(K L:List Str):(uni K L).length≤K.length+L.length:=by
 unfold uni;rw [List.length_append];have:=List.length_filter_le (fun x=>!(K.any fun y=>y==x)) L;omega
theorem ze2(K:List Str)(x:Str):(K.any fun y=>y==x)=decide (x∈K):=by
 rw [Bool.eq_iff_iff,decide_eq_true_eq,List.any_eq_true]
 exact ⟨fun ⟨y,h,e⟩=>(eq_of_beq e)▸h,fun h=>⟨x,h,beq_self_eq_true x⟩⟩
theorem zgP(K A B:List Str):uni (uni K A) B=uni K (uni A B):=by
 have e:∀ x,(!(decide (x∈uni K A)))=(!(decide (x∈K))&&!(decide (x∈A))):=fun x=>by
  have h:x∈uni K A↔x∈K∨x∈A:=by
   unfold uni
   rw [List.mem_append,List.mem_filter,ze2]
   constructor
   ·rintro (h | h)
    ·exact .inl h
    ·exact .inr h.1
   ·rintro (h | h)
    ·exact .inl h
    ·by_cases q:x∈K
     ·exact .inl q
     ·exact .inr ⟨h,by rw [decide_eq_false q];rfl⟩
  rw [← Bool.not_or,← Bool.decide_or,decide_eq_decide.mpr h]
 have f:∀ M:List Str,(fun x=>!(M.any fun y=>y==x))=fun x=>!(decide (x∈M)):=fun M=>funext fun x=>congrArg Bool.not (ze2 M x)
 show uni K A++B.filter _=K++(A++B.filter _).filter _
 rw [f,f,f,List.filter_append,List.filter_filter,← List.append_assoc,funext e]
 exact congrArg (fun M=>(M++List.filter (fun x=>!(decide (x∈K))&&!(decide (x∈A))) B)) (show K++A.filter _=_ by rw [f])
noncomputable def Say.met:Say→List Str
 | .yes=>[] | .no=>[] | .name s=>[s]
 | .not a=>a.met
 | .and a b=>uni a.met b.met
 | .or a b=>uni a.met b.met
theorem zcJ:∀ s:Say,s.met.length≤s.nms.length
 | .yes=>Nat.zero_le _
 | .no=>Nat.zero_le _
 | .name _=>Nat.le_refl 1
 | .not a=>zcJ a
 | .and a b=>by show (uni a.met b.met).length≤(a.nms++b.nms).length;have:=zcJ a;have:=zcJ b;have:=zdu a.met b.met;rw [List.length_append];omega
 | .or a b=>by show (uni a.met b.met).length≤(a.nms++b.nms).length;have:=zcJ a;have:=zcJ b;have:=zdu a.met b.met;rw [List.length_append];omega
theorem halves(C:zad)(md:Md)(s:Say):zaj GG C md AA.halves [s.pv]=M.ret (.lst (s.parts.map Say.pv)):=by
 cases s <;> kernel_rfl
theorem zcv(s:Say):s.parts.length≤2∧∀ p∈s.parts,p.dep<s.dep∧p.sz<s.sz:=by
 cases s with
 | not a=>exact ⟨Nat.le_succ 1,zap ⟨⟨Nat.lt_succ_self _,Nat.lt_succ_self _⟩,trivial⟩⟩
 | and a b=>exact ⟨Nat.le_refl 2,zap ⟨⟨Nat.lt_succ_of_le (Nat.le_max_left _ _),by show _<a.sz+b.sz+1;omega⟩,⟨Nat.lt_succ_of_le (Nat.le_max_right _ _),by show _<a.sz+b.sz+1;omega⟩,trivial⟩⟩
 | or a b=>exact ⟨Nat.le_refl 2,zap ⟨⟨Nat.lt_succ_of_le (Nat.le_max_left _ _),by show _<a.sz+b.sz+1;omega⟩,⟨Nat.lt_succ_of_le (Nat.le_max_right _ _),by show _<a.sz+b.sz+1;omega⟩,trivial⟩⟩
 | _=>exact ⟨Nat.zero_le _,fun p hp=>absurd hp List.not_mem_nil⟩
theorem zmo(s:Say):1+(s.parts.map fun p=>(p.sz:Int)).sum=(s.sz:Int):=by
 cases s with
 | not a=>show 1+((a.sz:Int)+0)=((a.sz+1:Nat):Int);omega
 | and a b=>show 1+((a.sz:Int)+((b.sz:Int)+0))=((a.sz+b.sz+1:Nat):Int);omega
 | or a b=>show 1+((a.sz:Int)+((b.sz:Int)+0))=((a.sz+b.sz+1:Nat):Int);omega
 | _=>rfl
theorem zcf{P:Say→Prop}(h:∀ s,(∀ p∈s.parts,P p)→P s):∀ s,P s
 | .yes=>h _ fun p hp=>absurd hp List.not_mem_nil
 | .no=>h _ fun p hp=>absurd hp List.not_mem_nil
 | .name _=>h _ fun p hp=>absurd hp List.not_mem_nil
 | .not a=>h _ (zap ⟨zcf h a,trivial⟩)
 | .and a b=>h _ (zap ⟨zcf h a,zcf h b,trivial⟩)
 | .or a b=>h _ (zap ⟨zcf h a,zcf h b,trivial⟩)
theorem zkj{s:Say}(hz:s.sz≤1000):zd4 0 (s.parts.map fun p=>(p.sz:Int))=true:=by
 have hp:=(zcv s).2
 have hl:=(zcv s).1
 match s.parts,hl,hp with
 | [],_,_=>rfl
 | [p],_,hp=>
  have:=hp p (.head _)
  show (zba (p.sz:Int)&&zba (0+(p.sz:Int))&&true)=true
  rw [za3 (by omega) (by omega),za3 (by omega) (by omega)];rfl
 | [p,q],_,hp=>
  have:=hp p (.head _)
  have:=hp q (.tail _ (.head _))
  show (zba (p.sz:Int)&&zba (0+(p.sz:Int))&&(zba (q.sz:Int)&&zba (0+(p.sz:Int)+(q.sz:Int))&&true))=true
  rw [za3 (by omega) (by omega),za3 (by omega) (by omega),za3 (by omega) (by omega),za3 (by omega) (by omega)];rfl
theorem zcs{f:PV→M (Option PV)}{g:Say→PV}:∀{ps:List Say},(∀ p∈ps,f p.pv=M.ret (some (g p)))→zaX (M.ret ()) (fun x=>M.noErr (f x)) (ps.map Say.pv)=M.ret (ps.map g)
 | [],_=>rfl
 | p::_,h=>zbD (h p (.head _)) (zcs fun q hq=>h q (.tail _ hq))
theorem size_in:∀(s:Say)(md:Md)(d:Nat),md.lp=true→s.dep+1<d→s.sz≤1000→zaf GG d md AA.size_in [s.pv]=M.ret (.int s.sz):=by
 refine zcf fun s ih md d hl hd hz=>?_
 obtain ⟨e,rfl⟩:∃ e,d=e+2:=⟨d-2,by omega⟩
 have hp:=(zcv s).2
 have hl2:=(zcv s).1
 have hc:zaX (M.ret ()) (fun x=>M.noErr ((zaf GG (e+1) md.inn AA.size_in [x]).bind fun y3=>M.ret (some y3))) (s.parts.map Say.pv)=M.ret (s.parts.map fun p=>PV.int (p.sz:Int)):=zcs (f:=fun x=>(zaf GG (e+1) md.inn AA.size_in [x]).bind fun y3=>M.ret (some y3)) fun p q=>by
  have:=hp p q
  exact bd (ih p q md.inn (e+1) hl (by omega) (by omega))
 have hm:(s.parts.map fun p=>PV.int (p.sz:Int))=(s.parts.map fun p=>(p.sz:Int)).map PV.int:=by rw [List.map_map];rfl
 rw [hm] at hc
 refine zag (tr (zks _ md _) (tr (bd (tr (bd (sq1 (zbi hl (bd (zag (halves _ md s))) (by rw [List.length_map];exact Nat.le_trans ‹_› (by decide)) hc))) (zhF (zcz _) (zkj hz) hl))) (tr (add_int _ _ _) (i_eq (zmo s)))))
noncomputable def dK(K:List Str):List (Str×PV):=K.map fun k=>(k,.bool true)
theorem zoT(K:List Str)(n:Str):dput n (.bool true) (dK K)=dK (uni K [n]):=by
 unfold dput
 have e:((dK K).any fun kv=>decide (kv.1=n))=K.any fun y=>y==n:=by
  unfold dK
  rw [List.any_map]
  refine congrArg (fun f=>List.any K f) (funext fun y=>?_)
  show decide (y=n)=(y==n)
  by_cases q:y=n
  ·rw [decide_eq_true q,q,beq_self_eq_true]
  ·rw [decide_eq_false q,zcI q]
 rw [e]
 show _=dK (K++(bif !(K.any fun y=>y==n) then [n] else []))
 cases K.any fun y=>y==n with
 | true=>
  rw [if_pos rfl]
  show _=dK (K++[])
  unfold dK
  rw [List.append_nil,List.map_map]
  refine List.map_congr_left fun k _=>?_
  show (if k=n then (k,PV.bool true) else (k,PV.bool true))=_
  exact ite_self _
 | false=>
  rw [if_neg Bool.false_ne_true]
  show _=dK (K++[n])
  unfold dK
  rw [List.map_append];rfl
theorem zdH{σ:zaa}{j:Nat}{kvs:List (Str×PV)}(h:σ[j]?=some (.dict kvs)):dget j σ=.ok kvs σ:=zab (show cget j σ=.ok (.dict kvs) σ by unfold cget;rw [h])
theorem zf3{σ:zaa}{j:Nat}{kvs:List (Str×PV)}{n:Str}{v:PV}(h:σ[j]?=some (.dict kvs))(hl:kvs.length<1000):setAt (.ref j) (.str n) v σ=.ok () (σ.set j (.dict (dput n v kvs))):=
 (zab (zdH h)).trans (congrFun (c_t (decide_eq_true hl)) σ)
noncomputable def Say.isName:Say→Bool
 | .name _=>true
 | _=>false
theorem zf2{σ:zaa}{j:Nat}{c:Cel}(h:σ[j]?=some c):σ.set j c=σ:=by
 obtain ⟨h1,h2⟩:=List.getElem?_eq_some_iff.mp h
 rw [← h2,List.set_getElem_self]
theorem zoJ(C:zad)(r:Bool)(n:Str)(f:PV):zaj GG C ⟨r,true⟩ AA.gather_names [.tup [.str "name",.str n],f]=(setAt f (.str n) (.bool true)).bind fun _=>(((C ⟨r,true⟩ AA.halves [.tup [.str "name",.str n]]).bind zaz).bind fun src=>zas AA GG C ⟨r,true⟩ (chkW src.watch) src.xs (.tup [.str "name",.str n]) f Option.none):=
 (zcN C _ _ _).trans (by kernel_rfl)
theorem zoK(C:zad)(r:Bool)(s:Say)(f:PV)(h:s.isName=false):zaj GG C ⟨r,true⟩ AA.gather_names [s.pv,f]=(((C ⟨r,true⟩ AA.halves [s.pv]).bind zaz).bind fun src=>zas AA GG C ⟨r,true⟩ (chkW src.watch) src.xs s.pv f Option.none):=by
 refine (zcN C _ _ _).trans ?_
 cases s with
 | name n=>cases h
 | _=>kernel_rfl
theorem zlH{C:zad}{md:Md}{sv:PV}{j:Nat}:∀(ps:List Say)(K:List Str)(σ:zaa)(o:Option PV),σ[j]?=some (.dict (dK K))→K.length+(ps.map fun p=>p.nms.length).sum<1000→
  (∀ p∈ps,∀ K σ,σ[j]?=some (.dict (dK K))→K.length+p.nms.length<1000→C md AA.gather_names [p.pv,.ref j] σ=.ok .none (σ.set j (.dict (dK (uni K p.met)))))→
  zas AA GG C md (M.ret ()) (ps.map Say.pv) sv (.ref j) o σ=.ok .none (σ.set j (.dict (dK (ps.foldl (fun K p=>uni K p.met) K))))
 | [],K,σ,o,h,_,_=>by
  show Rs.ok PV.none σ=_
  rw [List.foldl_nil,zf2 h]
 | p::ps,K,σ,o,h,hl,ih=>by
  have hl:K.length+(p.nms.length+(ps.map fun p=>p.nms.length).sum)<1000:=hl
  have h1:=ih p (.head _) K σ h (by omega)
  have hlt:=(List.getElem?_eq_some_iff.mp h).1
  have h2:=zlH (C:=C) (md:=md) (sv:=sv) ps (uni K p.met) (σ.set j (.dict (dK (uni K p.met)))) (some p.pv) (by rw [List.getElem?_set_self hlt]) (by have:=zdu K p.met;have:=zcJ p;omega) fun q hq=>ih q (.tail _ hq)
  refine (zab h1).trans (h2.trans ?_)
  rw [List.set_set];rfl
theorem zp2:∀(s:Say)(md:Md)(d j:Nat)(K:List Str)(σ:zaa),md.lp=true→s.dep+1<d→σ[j]?=some (.dict (dK K))→K.length+s.nms.length<1000→zaf GG d md AA.gather_names [s.pv,.ref j] σ=.ok .none (σ.set j (.dict (dK (uni K s.met)))):=by
 refine zcf fun s ih md d j K σ hl hd h hz=>?_
 obtain ⟨e,rfl⟩:∃ e,d=e+2:=⟨d-2,by omega⟩
 revert md
 refine zpM fun r=>?_
 rw [zfL]
 have hs:((zaf GG (e+1) ⟨r,true⟩ AA.halves [s.pv]).bind zaz)=M.ret ⟨s.parts.map Say.pv,[]⟩:=bd (zag (halves _ _ s))
 by_cases hn:s.isName=true
 ·cases s with
  | name n=>
   refine (congrFun (zoJ _ r n (.ref j)) σ).trans ((zab (zf3 h (by unfold dK;rw [List.length_map];exact Nat.le_of_lt ‹_›))).trans ((congrFun (bd hs) _).trans ?_))
   rw [zoT];rfl
  | _=>cases hn
 ·refine (congrFun (zoK _ r s (.ref j) ((Bool.not_eq_true _).mp hn)) σ).trans ((congrFun (bd hs) σ).trans ?_)
  have hps:=(zcv s).2
  have hsum:(s.parts.map fun p=>p.nms.length).sum=s.nms.length:=by
   cases s with
   | name n=>exact absurd rfl hn
   | not a=>rfl
   | and a b=>show a.nms.length+(b.nms.length+0)=(a.nms++b.nms).length;rw [List.length_append];rfl
   | or a b=>show a.nms.length+(b.nms.length+0)=(a.nms++b.nms).length;rw [List.length_append];rfl
   | _=>rfl
  refine (zlH s.parts K σ Option.none h (by omega) fun p hp K' σ' h' hz'=>ih p hp ⟨r,true⟩ (e+1) j K' σ' rfl (by have:=hps p hp;omega) h' hz').trans ?_
  refine congrArg (fun L=>Rs.ok PV.none (σ.set j (.dict (dK L)))) ?_
  cases s with
  | name n=>exact absurd rfl hn
  | not a=>rfl
  | and a b=>exact zgP K a.met b.met
  | or a b=>exact zgP K a.met b.met
  | _=>exact (List.append_nil K).symm
theorem zfN:∀ l:List Str,zct (l.map PV.str)=some l
 | []=>rfl
 | x::r=>congrArg (zhm x) (zfN r)
theorem zmd(md:Md)(mu:Bool)(v:PV):biM md mu "sorted" [v]=M.cond md.lp ((zc6 v).bind fun xs=>(M.lift (zct xs)).bind fun ss=>M.cond (decide (ss.length<64)) (mkL mu ((zak ss).map .str)) M.fail) M.fail:=by
 cases mu <;> kernel_rfl
theorem zbB{α β:Type}{f:α→Option β}{x:α}{y:β}{xs:List α}{ys:List β}(h:f x=some y)(h':zal f xs=some ys):zal f (x::xs)=some (y::ys):=by
 unfold zal;rw [h,h']
theorem ziE(σ:zaa)(n:Nat):∀ F:List Str,zal (whole σ (n+1)) (F.map .str)=some (F.map .str)
 | []=>rfl
 | x::F=>zbB rfl (ziE σ n F)
theorem zep{σ:zaa}{a x:PV}(h:whole σ zai a=some x):wholeM a σ=.ok x σ:=by unfold wholeM;rw [h]
theorem zfe{σ:zaa}{a x:List PV}(h:zal (whole σ zai) a=some x):zbT a σ=.ok x σ:=by unfold zbT;rw [h]
theorem zi2(x:Str)(F:List Str):zil (.str x) (F.map .str)=M.ret (F.any fun y=>y==x):=by
 refine tr (bd (show wholeM (.str x)=M.ret (.str x) from rfl)) (tr (bd (funext fun σ=>zfe (ziE σ 499 F))) (congrArg M.ret ?_))
 rw [List.any_map];rfl
theorem zoG(x:Str)(F:List Str):zac .In (.str x) (.lst (F.map .str))=M.ret (.bool (F.any fun y=>y==x)):=bd (show inOp (.str x) (.lst (F.map .str))=_ from zi2 x F)
theorem zfp(x:Str)(F:List Str):zac .NotIn (.str x) (.lst (F.map .str))=M.ret (.bool !(F.any fun y=>y==x)):=bd (show inOp (.str x) (.lst (F.map .str))=_ from zi2 x F)
theorem zho{md:Md}(hl:md.lp=true){src:M Src}{ss:List Str}(hsrc:src=M.ret ⟨ss.map .str,[]⟩)(hs:ss.length≤1000000){f:PV→M (Option PV)}{b:Str→Bool} (hf:∀ s,f (.str s)=M.cond (b s) (M.ret (some (.str s))) (M.ret Option.none)):za2 md false src f=M.ret (.lst ((ss.filter b).map .str)):=by
 refine zbi hl hsrc (by rw [List.length_map];assumption) ?_
 clear hsrc hs
 induction ss with
 | nil=>rfl
 | cons s r ih=>
  rw [List.filter_cons]
  have:=hf s
  cases q:b s with
  | true=>rw [q] at this;exact zbD this ih
  | false=>rw [q] at this;exact zl1 this ih
theorem zmM(C:zad)(r:Bool)(n:Str):zaj GG C ⟨r,true⟩ AA.l_met [.tup [.str "name",.str n]]=M.ret (.lst [.str n]):=(zlp C _ _).trans (by kernel_rfl)
theorem zmN(C:zad)(r:Bool)(s:Say)(h:s.isName=false):zaj GG C ⟨r,true⟩ AA.l_met [s.pv]=zbI AA GG C ⟨r,true⟩ (M.ret ()) (s.parts.map Say.pv) s.pv (.lst []) Option.none:=by
 refine (zlp C _ _).trans ?_
 cases s with
 | name n=>cases h
 | _=>kernel_rfl
theorem ziH{C:zad}{md:Md}{sv:PV}(hl:md.lp=true):∀(ps:List Say)(F:List Str)(o:Option PV),F.length+(ps.map fun p=>p.nms.length).sum≤100000→(∀ p∈ps,C md AA.l_met [p.pv]=M.ret (.lst (p.met.map .str)))→
  zbI AA GG C md (M.ret ()) (ps.map Say.pv) sv (.lst (F.map .str)) o=M.ret (.lst ((ps.foldl (fun K p=>uni K p.met) F).map .str))
 | [],F,o,_,_=>rfl
 | p::ps,F,o,hz,ih=>by
  have hz:F.length+(p.nms.length+(ps.map fun p=>p.nms.length).sum)≤100000:=hz
  have hm:=zcJ p
  have hu:=zdu F p.met
  have hsrc:(C md AA.l_met [p.pv]).bind zaz=M.ret ⟨p.met.map .str,[]⟩:=bd (ih p (.head _))
  have h1:za2 md false ((C md AA.l_met [p.pv]).bind zaz) (fun name5=>(zac .NotIn name5 (.lst (F.map .str))).bind fun cv6=>(zan cv6).bind fun b7=>M.cond b7 (M.ret (some name5)) (M.ret Option.none))=M.ret (.lst ((p.met.filter fun x=>!(F.any fun y=>y==x)).map .str)):=
   zho (ss:=p.met) hl hsrc (by omega) fun s=>bd (zfp s F)
  refine tr (show _=zge AA GG C md (zbI AA GG C md (M.ret ()) (ps.map Say.pv)) sv (.lst (F.map .str)) o p.pv from rfl) (tr (bd (tr (bd h1) (tr (c_t (decide_eq_true ?_)) (congrArg (fun l=>M.ret (PV.lst l)) (List.map_append (f:=PV.str)).symm)))) ?_)
  ·rw [List.length_map,List.length_map];have:=List.length_filter_le (fun x=>!(F.any fun y=>y==x)) p.met;omega
  ·exact ziH hl ps (uni F p.met) (some p.pv) (by omega) fun q hq=>ih q (.tail _ hq)
theorem l_met:∀(s:Say)(md:Md)(d:Nat),md.lp=true→s.dep<d→s.nms.length≤100000→zaf GG d md AA.l_met [s.pv]=M.ret (.lst (s.met.map .str)):=by
 refine zcf fun s ih md d hl hd hz=>?_
 obtain ⟨e,rfl⟩:∃ e,d=e+1:=⟨d-1,by omega⟩
 revert md
 refine zpM fun r=>?_
 by_cases hn:s.isName=true
 ·cases s with
  | name n=>exact zag (zmM _ r n)
  | _=>cases hn
 ·have hn:=(Bool.not_eq_true _).mp hn
  have hps:=(zcv s).2
  have key:(s.parts.map fun p=>p.nms.length).sum=s.nms.length∧s.parts.foldl (fun K p=>uni K p.met) []=s.met:=by
   cases s with
   | name n=>cases hn
   | not a=>exact ⟨rfl,zfU _⟩
   | and a b=>exact ⟨by show a.nms.length+(b.nms.length+0)=(a.nms++b.nms).length;rw [List.length_append];rfl,by show uni (uni [] a.met) b.met=_;rw [zfU];rfl⟩
   | or a b=>exact ⟨by show a.nms.length+(b.nms.length+0)=(a.nms++b.nms).length;rw [List.length_append];rfl,by show uni (uni [] a.met) b.met=_;rw [zfU];rfl⟩
   | _=>exact ⟨rfl,rfl⟩
  have hk:∀ p∈s.parts,p.nms.length≤s.nms.length:=by
   cases s with
   | name n=>cases hn
   | not a=>exact zap ⟨Nat.le_refl _,trivial⟩
   | and a b=>exact zap ⟨by show _≤(a.nms++b.nms).length;rw [List.length_append];omega,by show _≤(a.nms++b.nms).length;rw [List.length_append];omega,trivial⟩
   | or a b=>exact zap ⟨by show _≤(a.nms++b.nms).length;rw [List.length_append];omega,by show _≤(a.nms++b.nms).length;rw [List.length_append];omega,trivial⟩
   | _=>exact fun p hp=>absurd hp List.not_mem_nil
  refine zag (tr (zmN _ r s hn) (tr (ziH rfl s.parts [] Option.none (by rw [key.1];show 0+_≤_;omega) fun p hp=>ih p hp ⟨r,true⟩ e rfl (by have:=hps p hp;omega) (by have:=hk p hp;exact Nat.le_trans ‹_› ‹_›)) ?_))
  rw [key.2]
theorem zfq{x:M PV}{b:Bool}{σ σ':zaa}(h:x σ=.ok (.bool b) σ'):notM x σ=.ok (.bool !b) σ':=(zab h).trans (zab (a:=b) rfl)
theorem zl7{σ:zaa}{j:Nat}{c:Cel}(h:σ[j]?=some c):cget j σ=.ok c σ:=by unfold cget;rw [h]
end
end Mine
namespace Mine
noncomputable section
open PySem
noncomputable def RfAt(σ:zaa)(v:PV):Prop:=∀(md:Md)(d:Nat),md.lp=true→210<d→zaf GG d md AA.is_within [v,.int 100] σ=.ok (.bool false) σ
theorem Rf.at_{v:PV}(h:Rf v)(σ:zaa):RfAt σ v:=fun md d hl hd=>congrFun (h md 100 d hl hd) σ
theorem zaR(k:Str)(v:PV)(r:List (Str×PV))(x:Str):dat ((k,v)::r) x=bif decide (k=x) then some v else dat r x:=by
 unfold dat
 rw [List.find?_cons]
 cases decide (k=x) <;> rfl
theorem zlU(a b:List (Str×PV))(x:Str) (h:(a.any fun kv=>decide (kv.1=x))=false):dat (a++b) x=dat b x:=by
 induction a with
 | nil=>rfl
 | cons p r ih=>
  obtain ⟨k,v⟩:=p
  rw [List.any_cons,Bool.or_eq_false_iff] at h
  rw [List.cons_append,zaR,h.1]
  exact ih h.2
theorem znd(a b:List (Str×PV))(x:Str)(v:PV)(h:dat a x=some v):dat (a++b) x=some v:=by
 induction a with
 | nil=>cases h
 | cons p r ih=>
  obtain ⟨k,w⟩:=p
  rw [zaR] at h
  rw [List.cons_append,zaR]
  cases q:decide (k=x) with
  | true=>rw [q] at h;exact h
  | false=>rw [q] at h;exact ih h
theorem zoZ(kvs:List (Str×PV))(n:Str)(v:PV)(x:Str):dat (kvs.map fun kv=>if kv.1=n then (kv.1,v) else kv) x=if x=n then (dat kvs x).map (fun _=>v) else dat kvs x:=by
 induction kvs with
 | nil=>split <;> rfl
 | cons p r ih=>
  obtain ⟨k,w⟩:=p
  rw [List.map_cons]
  by_cases hk:k=n
  ·rw [if_pos hk,zaR,zaR,ih]
   by_cases hx:k=x
   ·rw [decide_eq_true hx]
    show some v=_
    rw [if_pos (hx.symm.trans hk)];rfl
   ·rw [decide_eq_false hx];rfl
  ·rw [if_neg hk,zaR,zaR,ih]
   by_cases hx:k=x
   ·rw [decide_eq_true hx]
    show some w=_
    rw [if_neg (fun q=>hk (hx.trans q))];rfl
   ·rw [decide_eq_false hx];rfl
theorem zby(kvs:List (Str×PV))(n:Str)(v:PV)(x:Str):dat (dput n v kvs) x=if x=n then some v else dat kvs x:=by
 unfold dput
 cases q:kvs.any fun kv=>decide (kv.1=n) with
 | true=>
  rw [if_pos rfl,zoZ]
  by_cases hx:x=n
  ·rw [if_pos hx,if_pos hx,hx]
   have:∃ w,dat kvs n=some w:=by
    induction kvs with
    | nil=>cases q
    | cons p r ih=>
     obtain ⟨k,w⟩:=p
     rw [zaR]
     rw [List.any_cons] at q
     cases q':decide (k=n) with
     | true=>exact ⟨w,rfl⟩
     | false=>rw [show decide ((k,w).1=n)=false from q',Bool.false_or] at q;exact ih q
   obtain ⟨w,hw⟩:=this
   rw [hw];rfl
  ·rw [if_neg hx,if_neg hx]
 | false=>
  rw [if_neg Bool.false_ne_true]
  by_cases hx:x=n
  ·rw [if_pos hx,hx,zlU _ _ _ q,zaR,decide_eq_true rfl];rfl
  ·rw [if_neg hx]
   cases h:dat kvs x with
   | some w=>exact znd _ _ _ _ h
   | none=>
    have:(kvs.any fun kv=>decide (kv.1=x))=false:=by
     clear q
     induction kvs with
     | nil=>rfl
     | cons p r ih=>
      obtain ⟨k,w⟩:=p
      rw [zaR] at h
      rw [List.any_cons]
      cases q':decide (k=x) with
      | true=>rw [q'] at h;cases h
      | false=>rw [q'] at h;exact ih h
    rw [zlU _ _ _ this,zaR,decide_eq_false (fun e=>hx e.symm)];rfl
theorem ziU(kvs:List (Str×PV))(n:Str)(v:PV):(dput n v kvs).length≤kvs.length+1:=by
 unfold dput
 split
 ·rw [List.length_map];omega
 ·rw [List.length_append];exact Nat.le_refl _
structure DOk (kvs:List (Str×PV)):Prop where
 one:∀ kv∈kvs,dat kvs kv.1=some kv.2
 flat:∀ kv∈kvs,ze8 kv.2=true
theorem DOk.put{kvs:List (Str×PV)}(h:DOk kvs)(n:Str){v:PV}(hv:ze8 v=true):DOk (dput n v kvs):=by
 have key:∀ kv∈dput n v kvs,(kv.1=n∧kv.2=v)∨(kv.1≠n∧kv∈kvs):=fun kv hkv=>by
  unfold dput at hkv
  split at hkv
  ·obtain ⟨p,hp,rfl⟩:=List.mem_map.mp hkv
   by_cases q:p.1=n
   ·rw [if_pos q];exact .inl ⟨q,rfl⟩
   ·rw [if_neg q];exact .inr ⟨q,hp⟩
  ·rename_i hn
   rcases List.mem_append.mp hkv with h1 | h1
   ·refine .inr ⟨fun q=>hn (List.any_eq_true.mpr ⟨kv,h1,decide_eq_true q⟩),h1⟩
   ·rw [List.mem_singleton.mp h1];exact .inl ⟨rfl,rfl⟩
 refine ⟨fun kv hkv=>?_,fun kv hkv=>?_⟩
 ·rw [zby]
  rcases key kv hkv with ⟨h1,h2⟩ | ⟨h1,h2⟩
  ·rw [if_pos h1,h2]
  ·rw [if_neg h1];exact h.one kv h2
 ·rcases key kv hkv with ⟨h1,h2⟩ | ⟨h1,h2⟩
  ·rw [h2];exact hv
  ·exact h.flat kv h2
theorem zpT{σ:zaa}{j:Nat}{kvs:List (Str×PV)}{n:Str}{v:PV}(h:σ[j]?=some (.dict kvs))(hv:dat kvs n=some v):index (.ref j) (.str n) σ=.ok v σ:=
 (zab (zdH h)).trans (by rw [hv];rfl)
theorem zpa(md:Md)(mu:Bool)(v:PV):biM md mu "dict" [v]=zoX v:=by kernel_rfl
theorem zoW{md:Md}{mu:Bool}{σ:zaa}{j:Nat}{kvs:List (Str×PV)}(h:σ[j]?=some (.dict kvs))(hl:kvs.length<1000):biM md mu "dict" [.ref j] σ=.ok (.ref σ.length) (σ++[.dict kvs]):=
 at_ (zpa md mu _) (tr (zab (zdH h)) (congrFun (c_t (decide_eq_true hl)) σ))
theorem zo9(r mu:Bool)(v:PV):biM ⟨r,true⟩ mu "list" [v]=zos (cxM ⟨r,true⟩ mu) p0 v:=by kernel_rfl
noncomputable def Say.tv(f:Str→Bool):Say→Bool
 | .yes=>true | .no=>false | .name s=>f s
 | .not a=>!a.tv f
 | .and a b=>a.tv f&&b.tv f
 | .or a b=>a.tv f || b.tv f
noncomputable def fOf(kvs:List (Str×PV))(x:Str):Bool:=match dat kvs x with
 | some (.bool b)=>b
 | _=>false
noncomputable def Bl(kvs:List (Str×PV))(x:Str):Prop:=∃ b,dat kvs x=some (.bool b)
theorem Bl.f{kvs:List (Str×PV)}{x:Str}(h:Bl kvs x):dat kvs x=some (.bool (fOf kvs x)):=by
 obtain ⟨b,h⟩:=h
 unfold fOf;rw [h]
theorem zpg{x y:M PV}{b c:Bool}{σ:zaa}(h:x σ=.ok (.bool b) σ)(h':y σ=.ok (.bool c) σ):andM x y σ=.ok (.bool (b&&c)) σ:=by
 refine (zab h).trans ((zab (a:=b) rfl).trans ?_)
 cases b with
 | true=>exact h'
 | false=>rfl
theorem zpF{x y:M PV}{b c:Bool}{σ:zaa}(h:x σ=.ok (.bool b) σ)(h':y σ=.ok (.bool c) σ):orM x y σ=.ok (.bool (b || c)) σ:=by
 refine (zab h).trans ((zab (a:=b) rfl).trans ?_)
 cases b with
 | true=>rfl
 | false=>exact h'
structure TvF (a:Addr):Prop where
 yes:∀ C md v,zaj GG C md a [.tup [.str "yes"],v]=M.ret (.bool true)
 no:∀ C md v,zaj GG C md a [.tup [.str "no"],v]=M.ret (.bool false)
 name:∀ C md n v,zaj GG C md a [.tup [.str "name",.str n],v]=index v (.str n)
 not:∀ C md x v,zaj GG C md a [.tup [.str "not",x],v]=notM (C md a [x,v])
 and:∀ C md x y v,zaj GG C md a [.tup [.str "and",x,y],v]=andM (C md a [x,v]) (C md a [y,v])
 or:∀ C md x y v,zaj GG C md a [.tup [.str "or",x,y],v]=orM (C md a [x,v]) (C md a [y,v])
theorem TvF.at_{a:Addr}(F:TvF a){σ:zaa}{j:Nat}{kvs:List (Str×PV)}(h:σ[j]?=some (.dict kvs))(md:Md):∀(s:Say)(d:Nat),s.dep<d→(∀ x∈s.nms,Bl kvs x)→zaf GG d md a [s.pv,.ref j] σ=.ok (.bool (s.tv (fOf kvs))) σ
 | .yes,d+1,_,_=>congrFun (zag (F.yes _ md _)) σ
 | .no,d+1,_,_=>congrFun (zag (F.no _ md _)) σ
 | .name n,d+1,_,hb=>Mine.at_ (zag (F.name _ md n _)) (zpT h (hb n (.head _)).f)
 | .not x,d+1,hd,hb=>Mine.at_ (zag (F.not _ md _ _)) (zfq (F.at_ h md x d (Nat.lt_of_succ_lt_succ hd) hb))
 | .and x y,d+1,hd,hb=>by
  have hd:max x.dep y.dep+1<d+1:=hd
  exact Mine.at_ (zag (F.and _ md _ _ _)) (zpg (F.at_ h md x d (by omega) fun z hz=>hb z (List.mem_append_left _ hz)) (F.at_ h md y d (by omega) fun z hz=>hb z (List.mem_append_right _ hz)))
 | .or x y,d+1,hd,hb=>by
  have hd:max x.dep y.dep+1<d+1:=hd
  exact Mine.at_ (zag (F.or _ md _ _ _)) (zpF (F.at_ h md x d (by omega) fun z hz=>hb z (List.mem_append_left _ hz)) (F.at_ h md y d (by omega) fun z hz=>hb z (List.mem_append_right _ hz)))
theorem tv_true:TvF AA.l_true:=⟨fun _ _ _=>by kernel_rfl,fun _ _ _=>by kernel_rfl,fun _ _ _ _=>by kernel_rfl,fun _ _ _ _=>by kernel_rfl,fun _ _ _ _ _=>by kernel_rfl,fun _ _ _ _ _=>by kernel_rfl⟩
theorem zld(x:Str)(K A:List Str):x∈uni K A→x∈K∨x∈A:=fun h=>(List.mem_append.mp h).elim .inl fun h=>.inr (List.mem_filter.mp h).1
theorem zck:∀(s:Say)(x:Str),x∈s.met→x∈s.nms
 | .yes,_,h=>h
 | .no,_,h=>h
 | .name _,_,h=>h
 | .not a,x,h=>zck a x h
 | .and a b,x,h=>List.mem_append.mpr ((zld x _ _ h).imp (zck a x) (zck b x))
 | .or a b,x,h=>List.mem_append.mpr ((zld x _ _ h).imp (zck a x) (zck b x))
theorem zdE{σ τ:zaa}{j:Nat}{c:Cel}(h:σ[j]?=some c):(σ++τ)[j]?=some c:=by
 rw [List.getElem?_append_left (List.getElem?_eq_some_iff.mp h).1];exact h
theorem Bl.put{kvs:List (Str×PV)}{x:Str}(n:Str)(b:Bool)(h:x=n∨Bl kvs x):Bl (dput n (.bool b) kvs) x:=by
 by_cases q:x=n
 ·exact ⟨b,by rw [zby,if_pos q]⟩
 ·obtain ⟨c,hc⟩:=h.resolve_left q
  exact ⟨c,by rw [zby,if_neg q];exact hc⟩
theorem zoQ(b c:Bool):zac .Eq (.bool b) (.bool c)=M.ret (.bool (b==c)):=by kernel_rfl
theorem opt2{f:PV→Option PV}{w x:PV}(hw:f w=some w)(hx:f x=some x):zal f [w,x]=some [w,x]:=zbB hw (zbB hx rfl)
theorem opt3{f:PV→Option PV}{w x y:PV}(hw:f w=some w)(hx:f x=some x)(hy:f y=some y):zal f [w,x,y]=some [w,x,y]:=zbB hw (zbB hx (zbB hy rfl))
theorem zbn(σ:zaa):∀(s:Say)(n:Nat),s.dep<n→whole σ n s.pv=some s.pv
 | .yes,n+2,_=>rfl
 | .no,n+2,_=>rfl
 | .name _,n+2,_=>rfl
 | .not a,n+2,h=>congrArg (Option.map PV.tup) (opt2 (f:=whole σ (n+1)) (w:=.str "not") rfl (zbn σ a (n+1) (Nat.lt_of_succ_lt_succ h)))
 | .and a b,n+2,h=>by
  have h:max a.dep b.dep+1<n+2:=h
  exact congrArg (Option.map PV.tup) (opt3 (f:=whole σ (n+1)) (w:=.str "and") rfl (zbn σ a (n+1) (by omega)) (zbn σ b (n+1) (by omega)))
 | .or a b,n+2,h=>by
  have h:max a.dep b.dep+1<n+2:=h
  exact congrArg (Option.map PV.tup) (opt3 (f:=whole σ (n+1)) (w:=.str "or") rfl (zbn σ a (n+1) (by omega)) (zbn σ b (n+1) (by omega)))
theorem zb1:∀ s:Say,eqv s.pv s.pv=true
 | .yes=>by decide
 | .no=>by decide
 | .name n=>by show ((("name":Str)=="name")&&((n==n)&&true))=true;rw [beq_self_eq_true n];decide
 | .not a=>by show ((("not":Str)=="not")&&(eqv a.pv a.pv&&true))=true;rw [zb1 a];decide
 | .and a b=>by show ((("and":Str)=="and")&&(eqv a.pv a.pv&&(eqv b.pv b.pv&&true)))=true;rw [zb1 a,zb1 b];decide
 | .or a b=>by show ((("or":Str)=="or")&&(eqv a.pv a.pv&&(eqv b.pv b.pv&&true)))=true;rw [zb1 a,zb1 b];decide
theorem zpJ(s:Say)(hd:s.dep<400):zac .NotEq s.pv s.pv=M.ret (.bool false):=by
 refine bd (a:=true) (funext fun σ=>?_)
 have hw:wholeM s.pv σ=.ok s.pv σ:=zep (zbn σ s zai (by unfold zai;exact Nat.le_trans ‹_› (by decide)))
 have e:eqX s.pv s.pv σ=eqM s.pv s.pv σ:=by cases s <;> rfl
 exact e.trans ((zab hw).trans ((zab hw).trans (congrArg (fun b=>Rs.ok b σ) (zb1 s))))
noncomputable def Say.beq(a b:Say):Bool:=eqv a.pv b.pv
theorem ff{b:Bool}{P:Prop}(h:b=true)(e:b=false):P:=by rw [e] at h;cases h
theorem zdr:∀ a b:Say,a.beq b=true→a=b
 | .yes,.yes,_=>rfl
 | .no,.no,_=>rfl
 | .name n,.name m,h=>by
  have h:((("name":Str)=="name")&&((n==m)&&true))=true:=h
  rw [eq_of_beq (Bool.and_eq_true_iff.mp (Bool.and_eq_true_iff.mp h).2).1]
 | .not a,.not b,h=>by
  have h:((("not":Str)=="not")&&(a.beq b&&true))=true:=h
  rw [zdr a b (Bool.and_eq_true_iff.mp (Bool.and_eq_true_iff.mp h).2).1]
 | .and a c,.and b d,h=>by
  have h:((("and":Str)=="and")&&(a.beq b&&(c.beq d&&true)))=true:=h
  have h:=Bool.and_eq_true_iff.mp (Bool.and_eq_true_iff.mp h).2
  rw [zdr a b h.1,zdr c d (Bool.and_eq_true_iff.mp h.2).1]
 | .or a c,.or b d,h=>by
  have h:((("or":Str)=="or")&&(a.beq b&&(c.beq d&&true)))=true:=h
  have h:=Bool.and_eq_true_iff.mp (Bool.and_eq_true_iff.mp h).2
  rw [zdr a b h.1,zdr c d (Bool.and_eq_true_iff.mp h.2).1]
 | .yes,.no,h=>ff h (by kernel_rfl)
 | .yes,.name _,h=>ff h (by kernel_rfl)
 | .yes,.not _,h=>ff h (by kernel_rfl)
 | .yes,.and _ _,h=>ff h (by kernel_rfl)
 | .yes,.or _ _,h=>ff h (by kernel_rfl)
 | .no,.yes,h=>ff h (by kernel_rfl)
 | .no,.name _,h=>ff h (by kernel_rfl)
 | .no,.not _,h=>ff h (by kernel_rfl)
 | .no,.and _ _,h=>ff h (by kernel_rfl)
 | .no,.or _ _,h=>ff h (by kernel_rfl)
 | .name _,.yes,h=>ff h (by kernel_rfl)
 | .name _,.no,h=>ff h (by kernel_rfl)
 | .name _,.not _,h=>ff h (by kernel_rfl)
 | .name _,.and _ _,h=>ff h (by kernel_rfl)
 | .name _,.or _ _,h=>ff h (by kernel_rfl)
 | .not _,.yes,h=>ff h (by kernel_rfl)
 | .not _,.no,h=>ff h (by kernel_rfl)
 | .not _,.name _,h=>ff h (by kernel_rfl)
 | .not _,.and _ _,h=>ff h (by kernel_rfl)
 | .not _,.or _ _,h=>ff h (by kernel_rfl)
 | .and _ _,.yes,h=>ff h (by kernel_rfl)
 | .and _ _,.no,h=>ff h (by kernel_rfl)
 | .and _ _,.name _,h=>ff h (by kernel_rfl)
 | .and _ _,.not _,h=>ff h (by kernel_rfl)
 | .and _ _,.or _ _,h=>ff h (by kernel_rfl)
 | .or _ _,.yes,h=>ff h (by kernel_rfl)
 | .or _ _,.no,h=>ff h (by kernel_rfl)
 | .or _ _,.name _,h=>ff h (by kernel_rfl)
 | .or _ _,.not _,h=>ff h (by kernel_rfl)
 | .or _ _,.and _ _,h=>ff h (by kernel_rfl)
theorem zj7(s:Say)(hd:s.dep<400):wholeM s.pv=M.ret s.pv:=funext fun σ=>zep (zbn σ s zai (by unfold zai;exact Nat.le_trans ‹_› (by decide)))
theorem zlO(a b:Say)(ha:a.dep<400)(hb:b.dep<400):zac .Eq a.pv b.pv=M.ret (.bool (a.beq b)):=by
 refine bd (funext fun σ=>?_)
 have e:eqX a.pv b.pv σ=eqM a.pv b.pv σ:=by cases a <;> rfl
 exact e.trans (congrFun (tr (bd (zj7 a ha)) (bd (zj7 b hb))) σ)
noncomputable def Say.isB(v:Bool):Say→Bool
 | .yes=>v
 | .no=>!v
 | _=>false
noncomputable def cB(v:Bool):Say:=bif v then .yes else .no
noncomputable def bin(o:Bool)(a b:Say):Say:=bif o then .or a b else .and a b
noncomputable def jn(o:Bool)(a b:Say):Say:=bif a.isB o || b.isB o then cB o else bif a.isB (!o) || a.beq b then b else bif b.isB (!o) then a else bin o a b
noncomputable def nNot:Say→Say
 | .not x=>x
 | .yes=>.no
 | .no=>.yes
 | s=>.not s
noncomputable def nt:Say→Say
 | .and a b=>jn false (nt a) (nt b)
 | .or a b=>jn true (nt a) (nt b)
 | .not a=>nNot (nt a)
 | s=>s
theorem ziL{a:Say}{v:Bool}(h:a.isB v=true):a=cB v:=by
 cases a with
 | yes=>cases v with
  | true=>rfl
  | false=>cases h
 | no=>cases v with
  | true=>cases h
  | false=>rfl
 | _=>cases h
theorem zm3{P:Say→Prop}(o:Bool)(a b:Say)(h1:P (cB o))(h2:a.isB (!o) || a.beq b→P b)(h3:b.isB (!o)=true→P a)(h4:a.isB o=false→b.isB o=false→a.isB (!o)=false→b.isB (!o)=false→a.beq b=false→P (bin o a b)):P (jn o a b):=by
 unfold jn
 cases q1:a.isB o || b.isB o with
 | true=>exact h1
 | false=>
  cases q2:a.isB (!o) || a.beq b with
  | true=>exact h2 q2
  | false=>
   cases q3:b.isB (!o) with
   | true=>exact h3 q3
   | false=>exact h4 (Bool.or_eq_false_iff.mp q1).1 (Bool.or_eq_false_iff.mp q1).2 (Bool.or_eq_false_iff.mp q2).1 q3 (Bool.or_eq_false_iff.mp q2).2
structure Gd (ns:List Str) (D Z:Nat) (s:Say):Prop where
 ok:s.Ok
 dep:s.dep≤D
 sz:s.sz≤Z
 nm:∀ x∈s.nms,x∈ns
theorem Gd.mono{ns:List Str}{D D' Z Z':Nat}{s:Say}(h:Gd ns D Z s)(hD:D≤D')(hZ:Z≤Z'):Gd ns D' Z' s:=⟨h.ok,Nat.le_trans h.dep hD,Nat.le_trans h.sz hZ,h.nm⟩
theorem Gd.self(s:Say)(ok:s.Ok):Gd s.nms s.dep s.sz s:=⟨ok,Nat.le_refl _,Nat.le_refl _,fun _ h=>h⟩
theorem Gd.sub{ns ms:List Str}{D Z:Nat}{s:Say}(h:Gd ns D Z s)(hs:∀ x∈ns,x∈ms):Gd ms D Z s:=⟨h.ok,h.dep,h.sz,fun x hx=>hs x (h.nm x hx)⟩
theorem Gd.const(ns:List Str){D Z:Nat}(v:Bool)(hD:1≤D)(hZ:1≤Z):Gd ns D Z (cB v):=by
 cases v <;> exact ⟨trivial,hD,hZ,fun x hx=>absurd hx List.not_mem_nil⟩
theorem Gd.bin{ns:List Str}{D Z Y:Nat}{a b:Say}(o:Bool)(ha:Gd ns D Z a)(hb:Gd ns D Y b):Gd ns (D+1) (Z+Y+1) (bin o a b):=by
 have h1:=ha.dep;have h2:=hb.dep;have h3:=ha.sz;have h4:=hb.sz
 cases o <;> exact ⟨⟨ha.ok,hb.ok⟩,by show max a.dep b.dep+1≤_;omega,by show a.sz+b.sz+1≤_;omega,fun x hx=>(List.mem_append.mp hx).elim (ha.nm x) (hb.nm x)⟩
theorem Gd.not{ns:List Str}{D Z:Nat}{a:Say}(ha:Gd ns D Z a):Gd ns (D+1) (Z+1) (.not a):=⟨ha.ok,Nat.succ_le_succ ha.dep,Nat.succ_le_succ ha.sz,ha.nm⟩
theorem Gd.jn{ns:List Str}{D Z Y:Nat}{a b:Say}(o:Bool)(ha:Gd ns D Z a)(hb:Gd ns D Y b):Gd ns (D+1) (Z+Y+1) (jn o a b):=
 zm3 (P:=Gd ns (D+1) (Z+Y+1)) o a b (Gd.const ns o (by omega) (by omega)) (fun _=>hb.mono (by omega) (by omega)) (fun _=>ha.mono (by omega) (by omega)) fun _ _ _ _ _=>ha.bin o hb
theorem Gd.nNot{ns:List Str}{D Z:Nat}{a:Say}(ha:Gd ns D Z a):Gd ns (D+1) (Z+1) (nNot a):=by
 cases a with
 | not x=>exact ⟨ha.ok,Nat.le_trans (Nat.le_succ _) (Nat.le_trans ha.dep (Nat.le_succ _)),Nat.le_trans (Nat.le_succ _) (Nat.le_trans ha.sz (Nat.le_succ _)),ha.nm⟩
 | yes=>exact Gd.const ns false (by omega) (by omega)
 | no=>exact Gd.const ns true (by omega) (by omega)
 | name n=>exact ha.not
 | and x y=>exact ha.not
 | or x y=>exact ha.not
theorem zcV:∀ s:Say,s.Ok→Gd s.nms s.dep s.sz (nt s)
 | .yes,ok=>Gd.self _ ok
 | .no,ok=>Gd.self _ ok
 | .name _,ok=>Gd.self _ ok
 | .not a,ok=>(zcV a ok).nNot
 | .and a b,ok=>(((zcV a ok.1).sub fun x hx=>List.mem_append_left _ hx).mono (Nat.le_max_left _ _) (Nat.le_refl _)).jn false (((zcV b ok.2).sub fun x hx=>List.mem_append_right _ hx).mono (Nat.le_max_right _ _) (Nat.le_refl _))
 | .or a b,ok=>(((zcV a ok.1).sub fun x hx=>List.mem_append_left _ hx).mono (Nat.le_max_left _ _) (Nat.le_refl _)).jn true (((zcV b ok.2).sub fun x hx=>List.mem_append_right _ hx).mono (Nat.le_max_right _ _) (Nat.le_refl _))
noncomputable def opB(o a b:Bool):Bool:=bif o then a || b else a&&b
theorem zi9(f:Str→Bool)(v:Bool):(cB v).tv f=v:=by cases v <;> rfl
theorem zpq(f:Str→Bool)(o:Bool)(a b:Say):(jn o a b).tv f=opB o (a.tv f) (b.tv f):=by
 unfold jn
 cases q1:a.isB o || b.isB o with
 | true=>
  show (cB o).tv f=_
  rw [zi9]
  rcases Bool.or_eq_true_iff.mp q1 with h | h
  ·rw [ziL h,zi9];cases o <;> rfl
  ·rw [ziL h,zi9];cases o <;> cases a.tv f <;> rfl
 | false=>
  cases q2:a.isB (!o) || a.beq b with
  | true=>
   show b.tv f=_
   rcases Bool.or_eq_true_iff.mp q2 with h | h
   ·rw [ziL h,zi9];cases o <;> rfl
   ·rw [zdr a b h];cases o <;> cases b.tv f <;> rfl
  | false=>
   cases q3:b.isB (!o) with
   | true=>show a.tv f=_;rw [ziL q3,zi9];cases o <;> cases a.tv f <;> rfl
   | false=>cases o <;> rfl
theorem ze3(f:Str→Bool):∀ s:Say,(nt s).tv f=s.tv f
 | .yes=>rfl
 | .no=>rfl
 | .name _=>rfl
 | .not a=>by
  show (nNot (nt a)).tv f=!(a.tv f)
  rw [← ze3 f a]
  cases nt a with
  | not x=>show x.tv f=!(!(x.tv f));rw [Bool.not_not]
  | _=>rfl
 | .and a b=>by show (jn false (nt a) (nt b)).tv f=_;rw [zpq,ze3 f a,ze3 f b];rfl
 | .or a b=>by show (jn true (nt a) (nt b)).tv f=_;rw [zpq,ze3 f a,ze3 f b];rfl
noncomputable def Say.isNot:Say→Bool
 | .not _=>true
 | _=>false
noncomputable def Nt:Say→Prop
 | .name _=>True
 | .not a=>a.isNot=false∧Nt a
 | .and a b=>a.beq b=false∧Nt a∧Nt b
 | .or a b=>a.beq b=false∧Nt a∧Nt b
 | _=>False
noncomputable def NtW(s:Say):Prop:=s=.yes∨s=.no∨Nt s
theorem NtW.nt{s:Say}(h:NtW s)(v:Bool)(h1:s.isB v=false)(h2:s.isB (!v)=false):Nt s:=by
 rcases h with rfl | rfl | h
 ·cases v with
  | true=>cases h1
  | false=>cases h2
 ·cases v with
  | true=>cases h2
  | false=>cases h1
 ·exact h
theorem eq_B(a:Say)(v:Bool)(ha:a.dep<400):zac .Eq a.pv (cB v).pv=M.ret (.bool (a.isB v)):=by
 refine tr (zlO a (cB v) ha (by cases v <;> exact Nat.lt_of_lt_of_le (by decide) (show 2≤400 by decide))) (b_eq ?_)
 cases v <;> cases a <;> kernel_rfl
theorem zpS{a b:Say}{o:Bool}{w:Str}(ha:a.dep<400)(hb:b.dep<400)(hw:(bin o a b).pv=.tup [.str w,a.pv,b.pv]) :
  (ifM (orM ((index (.tup [(cB o).pv,(cB !o).pv]) (.int 0)).bind fun v4=>(zac .Eq a.pv v4)) ((index (.tup [(cB o).pv,(cB !o).pv]) (.int 0)).bind fun v5=>(zac .Eq b.pv v5)))
  (index (.tup [(cB o).pv,(cB !o).pv]) (.int 0))
  (ifM (orM ((index (.tup [(cB o).pv,(cB !o).pv]) (.int 1)).bind fun v6=>(zac .Eq a.pv v6)) (zac .Eq a.pv b.pv))
  (M.ret b.pv)
  (ifM ((index (.tup [(cB o).pv,(cB !o).pv]) (.int 1)).bind fun v7=>(zac .Eq b.pv v7))
  (M.ret a.pv)
  (M.ret (.tup [.str w,a.pv,b.pv])))))=M.ret (jn o a b).pv:=by
 have i0:index (.tup [(cB o).pv,(cB !o).pv]) (.int 0)=M.ret (cB o).pv:=ix_0 _ _
 have i1:index (.tup [(cB o).pv,(cB !o).pv]) (.int 1)=M.ret (cB !o).pv:=ix_1 _ _ _
 refine tr (if_b (or_b (tr (bd i0) (eq_B a o ha)) (tr (bd i0) (eq_B b o hb)))) ?_
 unfold jn
 cases a.isB o || b.isB o with
 | true=>exact i0
 | false=>
  refine tr (c_f rfl) (tr (if_b (or_b (tr (bd i1) (eq_B a (!o) ha)) (zlO a b ha hb))) ?_)
  cases a.isB (!o) || a.beq b with
  | true=>rfl
  | false=>
   refine tr (c_f rfl) (tr (if_b (tr (bd i1) (eq_B b (!o) hb))) ?_)
   cases b.isB (!o) with
   | true=>rfl
   | false=>exact congrArg M.ret hw.symm
theorem joined(C:zad)(md:Md)(o:Bool)(a b:Say)(ha:a.dep<400)(hb:b.dep<400):zaj GG C md AA.joined [.str (bif o then "or" else "and"),a.pv,b.pv]=M.ret (jn o a b).pv:=by
 refine tr (zm1 C md _ _ _) ?_
 cases o with
 | true=>exact tr (if_t rfl) (zpS (o:=true) ha hb rfl)
 | false=>exact tr (if_f rfl) (zpS (o:=false) ha hb rfl)
theorem znw(C:zad)(md:Md)(o:Bool)(x y:PV):zaj GG C md AA.neatly [.tup [.str (bif o then "or" else "and"),x,y]]=(seqM [M.ret (.str (bif o then "or" else "and")),C md AA.neatly [x],C md AA.neatly [y]]).bind fun v5=>C md AA.joined v5:=by
 cases o <;> exact (zdd C md _).trans (by kernel_rfl)
theorem zpG(C:zad)(md:Md)(x:PV):zaj GG C md AA.neatly [.tup [.str "not",x]]=(C md AA.neatly [x]).bind fun v7=>ifM ((index v7 (.int 0)).bind fun v8=>(zac .Eq v8 (.str "not"))) (index v7 (.int 1)) (ifM (zac .Eq v7 (.tup [(.str "yes")])) (M.ret (.tup [(.str "no")])) (ifM (zac .Eq v7 (.tup [(.str "no")])) (M.ret (.tup [(.str "yes")])) (M.ret (.tup [(.str "not"),v7])))):=(zdd C md _).trans (by kernel_rfl)
theorem zqs{t:Say}(ht:t.dep<400):ifM ((index t.pv (.int 0)).bind fun v8=>(zac .Eq v8 (.str "not"))) (index t.pv (.int 1)) (ifM (zac .Eq t.pv (.tup [(.str "yes")])) (M.ret (.tup [(.str "no")])) (ifM (zac .Eq t.pv (.tup [(.str "no")])) (M.ret (.tup [(.str "yes")])) (M.ret (.tup [(.str "not"),t.pv]))))=M.ret (nNot t).pv:=by
 have e1:=eq_B t true ht
 have e2:=eq_B t false ht
 cases t with
 | not x=>exact tr (if_t (tr (bd (ix_0 _ _)) rfl)) (ix_1 _ _ _)
 | yes=>exact tr (if_f (tr (bd (ix_0 _ _)) rfl)) (if_t e1)
 | no=>exact tr (if_f (tr (bd (ix_0 _ _)) rfl)) (tr (if_f e1) (if_t e2))
 | name n=>exact tr (if_f (tr (bd (ix_0 _ _)) rfl)) (tr (if_f e1) (if_f e2))
 | and x y=>exact tr (if_f (tr (bd (ix_0 _ _)) rfl)) (tr (if_f e1) (if_f e2))
 | or x y=>exact tr (if_f (tr (bd (ix_0 _ _)) rfl)) (tr (if_f e1) (if_f e2))
theorem neatly:∀(s:Say)(md:Md)(d:Nat),s.Ok→s.dep<300→s.dep+1<d→zaf GG d md AA.neatly [s.pv]=M.ret (nt s).pv
 | .yes,md,d+1,_,_,_=>zag ((zdd _ md _).trans (by kernel_rfl))
 | .no,md,d+1,_,_,_=>zag ((zdd _ md _).trans (by kernel_rfl))
 | .name n,md,d+1,_,_,_=>zag ((zdd _ md _).trans (by kernel_rfl))
 | .not a,md,d+1,ok,hz,hd=>by
  have hd:a.dep+1+1<d+1:=hd
  have hz:a.dep+1<300:=hz
  have:=(zcV a ok).dep
  exact zag (tr (zpG _ md _) (tr (bd (neatly a md d ok (by exact Nat.le_of_lt ‹_›) (by omega))) (zqs (by omega))))
 | .and a b,md,d+2,ok,hz,hd=>by
  have hd:max a.dep b.dep+1+1<d+2:=hd
  have hz:max a.dep b.dep+1<300:=hz
  have h1:=(zcV a ok.1).dep
  have h2:=(zcV b ok.2).dep
  exact zag (tr (znw _ md false _ _) (tr (bd (sq3 rfl (neatly a md (d+1) ok.1 (by omega) (by omega)) (neatly b md (d+1) ok.2 (by omega) (by omega)))) (zag (joined _ md false _ _ (by omega) (by omega)))))
 | .or a b,md,d+2,ok,hz,hd=>by
  have hd:max a.dep b.dep+1+1<d+2:=hd
  have hz:max a.dep b.dep+1<300:=hz
  have h1:=(zcV a ok.1).dep
  have h2:=(zcV b ok.2).dep
  exact zag (tr (znw _ md true _ _) (tr (bd (sq3 rfl (neatly a md (d+1) ok.1 (by omega) (by omega)) (neatly b md (d+1) ok.2 (by omega) (by omega)))) (zag (joined _ md true _ _ (by omega) (by omega)))))
structure Cl where
 n:Nat
 b:Bool
 s:Say
noncomputable def Cl.pv(c:Cl):PV:=.tup [.int (c.n:Int),.bool c.b,c.s.pv]
noncomputable def Cl.beq(a c:Cl):Bool:=((a.n:Int)==(c.n:Int))&&((a.b==c.b)&&(a.s.beq c.s&&true))
theorem Cl.beq_pv(a c:Cl):eqv a.pv c.pv=a.beq c:=by kernel_rfl
theorem Cl.eq_of{a c:Cl}(h:a.beq c=true):a=c:=by
 obtain ⟨n,b,s⟩:=a
 obtain ⟨m,d,t⟩:=c
 have h:=Bool.and_eq_true_iff.mp h
 have h2:=Bool.and_eq_true_iff.mp h.2
 have e1:n=m:=by have:=eq_of_beq h.1;exact Int.ofNat.inj this
 have e2:b=d:=eq_of_beq h2.1
 have e3:s=t:=zdr s t (Bool.and_eq_true_iff.mp h2.2).1
 rw [e1,e2,e3]
theorem Cl.beq_self(a:Cl):a.beq a=true:=by
 unfold Cl.beq
 rw [beq_self_eq_true,beq_self_eq_true,show a.s.beq a.s=true from zb1 a.s];rfl
theorem Cl.whole(σ:zaa)(c:Cl)(n:Nat)(h:c.s.dep<n):Mine.whole σ (n+1) c.pv=some c.pv:=congrArg (Option.map PV.tup) (opt3 (f:=Mine.whole σ n) (by cases n with | zero=>exact absurd h (Nat.not_lt_zero _) | succ n=>rfl) (by cases n with | zero=>exact absurd h (Nat.not_lt_zero _) | succ n=>rfl) (zbn σ c.s n h))
theorem Cl.wholeM(c:Cl)(h:c.s.dep<400):Mine.wholeM c.pv=M.ret c.pv:=funext fun σ=>zep (Cl.whole σ c 499 (by omega))
theorem Cl.eq(a c:Cl)(ha:a.s.dep<400)(hc:c.s.dep<400):zac .Eq a.pv c.pv=M.ret (.bool (a.beq c)):=by
 refine bd (a:=a.beq c) (funext fun σ=>?_)
 have e:eqX a.pv c.pv σ=eqM a.pv c.pv σ:=rfl
 exact e.trans ((zab (congrFun (Cl.wholeM a ha) σ)).trans ((zab (congrFun (Cl.wholeM c hc) σ)).trans (congrArg (fun b=>Rs.ok b σ) (Cl.beq_pv a c))))
theorem zgL(C:zad)(md:Md)(n:Int):zaj GG C md AA.is_whole [.int n]=M.ret (.bool true):=by kernel_rfl
theorem same_claim{a c:Cl}{md:Md}{d:Nat}(ha:a.s.dep<400)(hc:c.s.dep<400)(hd:1<d):zaf GG d md AA.same_claim [a.pv,c.pv]=M.ret (.bool (a.beq c)):=by
 obtain ⟨e,rfl⟩:∃ e,d=e+2:=⟨d-2,by omega⟩
 exact zag (tr (zg4 _ _ _ _) (tr (if_f (tr (or_f rfl) (tr (or_f rfl) (tr (or_f (zbw (b:=true) (tr (bd (sq1 (ix_0 _ _))) (zag (zgL _ _ _))))) (zbw (b:=true) (tr (bd (ix_1 _ _ _)) rfl)))))) (Cl.eq a c ha hc)))
noncomputable def ers(c:Cl):List Cl→List Cl
 | []=>[]
 | x::r=>bif c.beq x then r else x::ers c r
noncomputable def cps(cs:List Cl):PV:=.lst (cs.map Cl.pv)
theorem znH{xs:List PV}{n:Nat}(hl:xs.length≤1000):cutM false (.lst xs) Option.none (some (n:Int))=M.ret (.lst (xs.take n)):=tr (c_t (decide_eq_true (show xs.length≤2 ^ 20 by omega))) (by rw [zkr];rfl)
theorem znG{xs:List PV}{n:Nat}(hl:xs.length≤1000):cutM false (.lst xs) (some (n:Int)) Option.none=M.ret (.lst (xs.drop n)):=tr (c_t (decide_eq_true (show xs.length≤2 ^ 20 by omega))) (by rw [zkq];rfl)
theorem zio{xs ys:List PV}(h:xs.length+ys.length≤1000):opM false .Add (.lst xs) (.lst ys)=M.ret (.lst (xs++ys)):=tr (c_t (decide_eq_true (show xs.length+ys.length≤2 ^ 20 by omega))) rfl
theorem zlV{pre suf:List Cl}{x:Cl}(hl:(pre++x::suf).length≤400):(((zcA (M.ret (.int (pre.length:Int)))).bind fun v8=>(cutM false (cps (pre++x::suf)) Option.none v8)).bind fun v9=>(((zcA (opM false .Add (.int (pre.length:Int)) (.int 1))).bind fun v10=>(cutM false (cps (pre++x::suf)) v10 Option.none)).bind fun v11=>(opM false .Add v9 v11)))=M.ret (cps (pre++suf)):=by
 have hm:((pre++x::suf).map Cl.pv).length≤1000:=by rw [List.length_map];omega
 have e1:((pre++x::suf).map Cl.pv).take pre.length=pre.map Cl.pv:=by
  rw [List.map_append,List.take_left' (by rw [List.length_map])]
 have e2:((pre++x::suf).map Cl.pv).drop (pre.length+1)=suf.map Cl.pv:=by
  rw [List.map_append,List.map_cons,show pre.map Cl.pv++x.pv::suf.map Cl.pv=(pre.map Cl.pv++[x.pv])++suf.map Cl.pv by rw [List.append_assoc];rfl,List.drop_left' (by rw [List.length_append,List.length_map];rfl)]
 have hs:pre.length+suf.length≤400:=by rw [List.length_append] at hl;have hl:pre.length+(suf.length+1)≤400:=hl;omega
 refine tr (bd (tr (bd (show zcA (M.ret (.int (pre.length:Int)))=M.ret (some (pre.length:Int)) from rfl)) (tr (znH hm) (by rw [e1])))) (tr (bd (tr (bd (show zcA (opM false .Add (.int (pre.length:Int)) (.int 1))=M.ret (some ((pre.length+1:Nat):Int)) from rfl)) (tr (znG hm) (by rw [e2])))) (tr (zio (by rw [List.length_map,List.length_map];omega)) ?_))
 unfold cps
 rw [List.map_append]
theorem zpl{d:Nat}{c:Cl}{md:Md}(hd:1<d)(hc:c.s.dep<400):∀(suf pre:List Cl)(v3 v4:Option PV),(∀ x∈suf,x.s.dep<400)→(pre++suf).length≤400→c∈suf→
  zbe AA GG (zaf GG d) md (M.ret ()) (zcE pre.length (suf.map Cl.pv)) (cps (pre++suf)) c.pv v3 v4=M.ret (cps (pre++ers c suf))
 | [],pre,v3,v4,_,_,h=>nomatch h
 | x::suf,pre,v3,v4,hx,hl,h=>by
  refine tr (show _=ifM (zaf GG d md AA.same_claim [c.pv,x.pv]) _ (zbe AA GG (zaf GG d) md (M.ret ()) (zcE (pre.length+1) (suf.map Cl.pv)) (cps (pre++x::suf)) c.pv (some (.int (pre.length:Int))) (some x.pv)) from rfl) (tr (if_b (same_claim hc (hx x (.head _)) hd)) ?_)
  show _=M.ret (cps (pre++bif c.beq x then suf else x::ers c suf))
  cases q:c.beq x with
  | true=>exact zlV hl
  | false=>
   have hm:c∈suf:=(List.mem_cons.mp h).resolve_left fun e=>by rw [e,Cl.beq_self] at q;cases q
   have ih:=zpl (md:=md) hd hc suf (pre++[x]) (some (.int (pre.length:Int))) (some x.pv) (fun y hy=>hx y (.tail _ hy)) (by rw [List.append_assoc];exact hl) hm
   rw [List.length_append,List.append_assoc,List.append_assoc] at ih
   exact ih
theorem without{d:Nat}{cs:List Cl}{c:Cl}{md:Md}(hm:md.lp=true)(hd:2<d)(hx:∀ x∈cs,x.s.dep<400)(hl:cs.length≤400)(h:c∈cs):zaf GG d md AA.without [cps cs,c.pv]=M.ret (cps (ers c cs)):=by
 obtain ⟨e,rfl⟩:∃ e,d=e+1:=⟨d-1,by omega⟩
 refine zag (tr (zj6 _ _ _ _) ?_)
 unfold zgK zeo
 exact tr (c_t (by rw [hm];rfl)) (tr (bd (show zdX [cps cs]=M.ret ⟨zcE 0 (cs.map Cl.pv),[]⟩ from rfl)) (zpl (by omega) (hx c h) cs [] Option.none Option.none hx hl h))
noncomputable def kdS(b:Bool):Say→Str
 | .name _=>"name"
 | .yes=>bif b then "idle" else "shut"
 | .no=>bif b then "shut" else "idle"
 | .not _=>"apart"
 | .and _ _=>bif b then "apart" else "fork"
 | .or _ _=>bif b then "fork" else "apart"
noncomputable def Cl.kd(c:Cl):Str:=kdS c.b c.s
noncomputable def zo5(n:Nat)(b:Bool):Say→List Cl
 | .not a=>[⟨n,!b,a⟩]
 | .and a c=>[⟨n,b,a⟩,⟨n,b,c⟩]
 | .or a c=>[⟨n,b,a⟩,⟨n,b,c⟩]
 | _=>[]
noncomputable def Cl.come(c:Cl):List Cl:=zo5 c.n c.b c.s
theorem zoi(C:zad)(r:Bool)(n:Nat)(b:Bool)(s:Say):zaj GG C ⟨r,true⟩ AA.parts [(Cl.mk n b s).pv]=M.ret (.tup [.str (kdS b s),cps (zo5 n b s)]):=by cases s <;> cases b <;> kernel_rfl
theorem zo4(C:zad)(r:Bool)(n:Nat)(b:Bool)(s:Say):zaj GG C ⟨r,true⟩ AA.l_comes [(Cl.mk n b s).pv]=M.ret (.tup [.str (kdS b s),cps (zo5 n b s)]):=by cases s <;> cases b <;> kernel_rfl
theorem parts{c:Cl}{r:Bool}{d:Nat}(hd:0<d):zaf GG d ⟨r,true⟩ AA.parts [c.pv]=M.ret (.tup [.str c.kd,cps c.come]):=by
 obtain ⟨e,rfl⟩:∃ e,d=e+1:=⟨d-1,by omega⟩
 exact zag (zoi _ r c.n c.b c.s)
theorem zqG{c:Cl}{r:Bool}{d:Nat}(hd:0<d):zaf GG d ⟨r,true⟩ AA.l_comes [c.pv]=M.ret (.tup [.str c.kd,cps c.come]):=by
 obtain ⟨e,rfl⟩:∃ e,d=e+1:=⟨d-1,by omega⟩
 exact zag (zo4 _ r c.n c.b c.s)
theorem zbK(c:Cl):c.come.length≤2:=by
 obtain ⟨n,b,s⟩:=c
 cases s <;> first | exact Nat.zero_le _ | exact Nat.le_refl 2 | exact Nat.le_succ 1
theorem ziX{c x:Cl}(h:x∈c.come):x.s.dep<c.s.dep:=by
 obtain ⟨n,b,s⟩:=c
 cases s with
 | not a=>exact zap (P:=fun x:Cl=>x.s.dep<(Say.not a).dep) (l:=[⟨n,!b,a⟩]) ⟨Nat.lt_succ_self _,trivial⟩ x h
 | and a c=>exact zap (P:=fun x:Cl=>x.s.dep<(Say.and a c).dep) (l:=[⟨n,b,a⟩,⟨n,b,c⟩]) ⟨by show a.dep<max _ _+1;omega,by show c.dep<max _ _+1;omega,trivial⟩ x h
 | or a c=>exact zap (P:=fun x:Cl=>x.s.dep<(Say.or a c).dep) (l:=[⟨n,b,a⟩,⟨n,b,c⟩]) ⟨by show a.dep<max _ _+1;omega,by show c.dep<max _ _+1;omega,trivial⟩ x h
 | _=>exact nomatch h
noncomputable def isN:Say→Bool
 | .name _=>true
 | _=>false
theorem zpk(s:Say):((index s.pv (.int 0)).bind fun w=>zac .Eq w (.str "name"))=M.ret (.bool (isN s)):=by cases s <;> kernel_rfl
noncomputable def clsh(a c:Cl):Bool:=isN a.s&&(a.b&&(!c.b&&a.s.beq c.s))
theorem clashes{a c:Cl}{md:Md}{d:Nat}(hd:0<d)(ha:a.s.dep<400)(hc:c.s.dep<400):zaf GG d md AA.clashes [a.pv,c.pv]=M.ret (.bool (clsh a c)):=by
 obtain ⟨e,rfl⟩:∃ e,d=e+1:=⟨d-1,by omega⟩
 refine zag (tr (zl3 _ _ _ _) (zj0 (tr (zaT _ _ _) (tr (bd (ix_2 _ _ _ _)) (zpk a.s))) (zj0 (ix_1 _ _ _) (zj0 (zbw (ix_1 _ _ _)) (tr (bd (ix_2 _ _ _ _)) (tr (bd (ix_2 _ _ _ _)) (zlO _ _ ha hc)))))))
noncomputable def EndT(cs:List Cl)(t:PV):Prop:=(∃ c∈cs,c.kd="shut"∧t=.tup [.str "shut",c.pv])∨∃ c∈cs,∃ o∈cs,clsh c o=true∧t=.tup [.str "clash",c.pv,o.pv]
noncomputable def zph(cs:List Cl):Prop:=∀ c∈cs,c.kd≠"shut"∧∀ o∈cs,clsh c o=false
theorem znE{e:Nat}{md:Md}{kk:PV→Option PV→Option PV→M PV}{v1:PV}{c:Cl}(he:0<e)(hc:c.s.dep<400):∀(os:List Cl)(v3:Option PV),(∀ o∈os,o.s.dep<400)→
  (∃ o∈os,clsh c o=true∧za5 AA GG (zaf GG e) md kk (M.ret ()) (os.map Cl.pv) v1 c.pv v3=M.ret (.tup [.str "clash",c.pv,o.pv]))∨((∀ o∈os,clsh c o=false)∧∃ u,za5 AA GG (zaf GG e) md kk (M.ret ()) (os.map Cl.pv) v1 c.pv v3=kk v1 (some c.pv) u)
 | [],v3,_=>.inr ⟨fun _ h=>(nomatch h),v3,rfl⟩
 | o::os,v3,h=>by
  have st:za5 AA GG (zaf GG e) md kk (M.ret ()) ((o::os).map Cl.pv) v1 c.pv v3=M.cond (clsh c o) (M.ret (.tup [.str "clash",c.pv,o.pv])) (za5 AA GG (zaf GG e) md kk (M.ret ()) (os.map Cl.pv) v1 c.pv (some o.pv)):=tr (show _=ifM (zaf GG e md AA.clashes [c.pv,o.pv]) _ _ from rfl) (if_b (clashes he hc (h o (.head _))))
  rw [st]
  cases q:clsh c o with
  | true=>exact .inl ⟨o,.head _,q,rfl⟩
  | false=>
   rcases znE (md:=md) (kk:=kk) (v1:=v1) he hc os (some o.pv) fun x hx=>h x (.tail _ hx) with ⟨x,hx,hq,e'⟩ | ⟨hn,u,e'⟩
   ·exact .inl ⟨x,.tail _ hx,hq,e'⟩
   ·exact .inr ⟨fun x hx=>(List.mem_cons.mp hx).elim (fun z=>z▸q) (hn x),u,e'⟩
theorem znF{e:Nat}{r:Bool}{cs:List Cl}(he:0<e)(hd:∀ c∈cs,c.s.dep<400):∀(l:List Cl)(v2 v3:Option PV),(∀ c∈l,c∈cs)→
  (∃ t,zaJ AA GG (zaf GG e) ⟨r,true⟩ (M.ret ()) (l.map Cl.pv) (cps cs) v2 v3=M.ret t∧EndT cs t)∨((∀ c∈l,c.kd≠"shut"∧∀ o∈cs,clsh c o=false)∧zaJ AA GG (zaf GG e) ⟨r,true⟩ (M.ret ()) (l.map Cl.pv) (cps cs) v2 v3=M.ret .none)
 | [],v2,v3,_=>.inr ⟨fun _ h=>(nomatch h),rfl⟩
 | c::l,v2,v3,h=>by
  have st:zaJ AA GG (zaf GG e) ⟨r,true⟩ (M.ret ()) ((c::l).map Cl.pv) (cps cs) v2 v3=M.cond (c.kd=="shut") (M.ret (.tup [.str "shut",c.pv])) (za5 AA GG (zaf GG e) ⟨r,true⟩ (zaJ AA GG (zaf GG e) ⟨r,true⟩ (M.ret ()) (l.map Cl.pv)) (M.ret ()) (cs.map Cl.pv) (cps cs) c.pv v3):=
   tr (show _=zgu AA GG (zaf GG e) ⟨r,true⟩ (za5 AA GG (zaf GG e) ⟨r,true⟩ (zaJ AA GG (zaf GG e) ⟨r,true⟩ (M.ret ()) (l.map Cl.pv))) (zaJ AA GG (zaf GG e) ⟨r,true⟩ (M.ret ()) (l.map Cl.pv)) (cps cs) v2 v3 c.pv from rfl) (tr (if_b (tr (bd (tr (bd (parts he)) (ix_0 _ _))) (zcp _ _))) rfl)
  rw [st]
  cases q:c.kd=="shut" with
  | true=>exact .inl ⟨_,rfl,.inl ⟨c,h c (.head _),eq_of_beq q,rfl⟩⟩
  | false=>
   rcases znE (md:=⟨r,true⟩) (kk:=zaJ AA GG (zaf GG e) ⟨r,true⟩ (M.ret ()) (l.map Cl.pv)) (v1:=cps cs) he (hd c (h c (.head _))) cs v3 hd with ⟨o,ho,hq,e'⟩ | ⟨hn,u,e'⟩
   ·exact .inl ⟨_,e',.inr ⟨c,h c (.head _),o,ho,hq,rfl⟩⟩
   ·rcases znF (r:=r) he hd l (some c.pv) u fun x hx=>h x (.tail _ hx) with ⟨t,e2,ht⟩ | ⟨hn2,e2⟩
    ·exact .inl ⟨t,e'.trans e2,ht⟩
    ·exact .inr ⟨fun x hx=>(List.mem_cons.mp hx).elim (fun z=>z▸⟨fun z=>(by rw [z] at q;cases q),hn⟩) (hn2 x),e'.trans e2⟩
theorem ended{d:Nat}{r:Bool}{cs:List Cl}(hd:1<d)(hx:∀ c∈cs,c.s.dep<400):(∃ t,zaf GG d ⟨r,true⟩ AA.ended [cps cs]=M.ret t∧EndT cs t)∨(zph cs∧zaf GG d ⟨r,true⟩ AA.ended [cps cs]=M.ret .none):=by
 obtain ⟨e,rfl⟩:∃ e,d=e+1:=⟨d-1,by omega⟩
 have st:zaf GG (e+1) ⟨r,true⟩ AA.ended [cps cs]=zaJ AA GG (zaf GG e) ⟨r,true⟩ (M.ret ()) (cs.map Cl.pv) (cps cs) Option.none Option.none:=zag (zoR _ _ _)
 rw [st]
 exact znF (by omega) hx cs Option.none Option.none fun _ h=>h
theorem zhn{f:PV→M (Option PV)}:∀{xs:List PV},(∀ x∈xs,∃ o,f x=M.ret o)→∃ ys,zaX (M.ret ()) (fun x=>M.noErr (f x)) xs=M.ret ys∧ys.length≤xs.length
 | [],_=>⟨[],rfl,Nat.le_refl _⟩
 | x::xs,h=>by
  obtain ⟨ys,e,hl⟩:=zhn (f:=f) fun y hy=>h y (.tail _ hy)
  obtain ⟨o,ho⟩:=h x (.head _)
  have st:zaX (M.ret ()) (fun x=>M.noErr (f x)) (x::xs)=(M.noErr (f x)).bind fun o=>(zaX (M.ret ()) (fun x=>M.noErr (f x)) xs).bind fun ys=>M.ret (match o with | some y=>y::ys | Option.none=>ys):=rfl
  have hn:M.noErr (f x)=M.ret o:=by rw [ho];rfl
  cases o with
  | none=>exact ⟨ys,tr st (tr (bd hn) (bd e)),Nat.le_succ_of_le hl⟩
  | some y=>exact ⟨y::ys,tr st (tr (bd hn) (bd e)),Nat.succ_le_succ hl⟩
theorem zqx{t:PV}:(∃ a b,t=.tup (a::b))∨t=.none→∃ b,zac .Is t PV.none=M.ret (.bool b):=by
 rintro (⟨a,b,rfl⟩ | rfl)
 ·exact ⟨false,rfl⟩
 ·exact ⟨true,rfl⟩
theorem EndT.tup{cs:List Cl}{t:PV}(h:EndT cs t):∃ a b,t=.tup (a::b):=by
 rcases h with ⟨c,_,_,rfl⟩ | ⟨c,_,o,_,_,rfl⟩
 ·exact ⟨_,_,rfl⟩
 ·exact ⟨_,_,rfl⟩
noncomputable def Open(c:Cl):Prop:=c.kd="apart"∨c.kd="fork"
theorem zlX(cs:List Cl)(x:Cl)(hl:cs.length≤400):opM false .Add (cps cs) (.lst [x.pv])=M.ret (cps (cs++[x])):=tr (zio (by rw [List.length_map];show _+1≤_;omega)) (by unfold cps;rw [List.map_append];rfl)
theorem ways{e:Nat}{r:Bool}{cs:List Cl}{c:Cl}(he:1<e)(hl:cs.length≤400)(hd:∀ c∈cs,c.s.dep<400)(hc:c.s.dep<400):∃ k:Nat,k≤2∧((seqM [(za2 ⟨r,true⟩ false (zaz (cps c.come)) fun v12=>(((seqM [(opM false .Add (cps cs) (.lst [v12]))]).bind fun v13=>(zaf GG e (⟨r,true⟩:Md).inn AA.ended v13)).bind fun v14=>(zac .Is v14 PV.none)).bind fun v15=>(zan v15).bind fun v16=>M.cond v16 (M.ret (some v12)) (M.ret Option.none))]).bind fun v17=>(biM ⟨r,true⟩ false "len" v17))=M.ret (.int (k:Int)):=by
 have h2:=zbK c
 obtain ⟨ys,e1,hy⟩:=zhn (f:=fun v12=>(((seqM [(opM false .Add (cps cs) (.lst [v12]))]).bind fun v13=>(zaf GG e (⟨r,true⟩:Md).inn AA.ended v13)).bind fun v14=>(zac .Is v14 PV.none)).bind fun v15=>(zan v15).bind fun v16=>M.cond v16 (M.ret (some v12)) (M.ret Option.none)) (xs:=c.come.map Cl.pv) fun x hx=>by
  obtain ⟨p,hp,rfl⟩:=List.mem_map.mp hx
  have hpd:∀ q∈cs++[p],q.s.dep<400:=fun q hq=>(List.mem_append.mp hq).elim (hd q) fun z=>by rw [List.mem_singleton.mp z];have:=ziX hp;omega
  have:∃ t,zaf GG e (⟨r,true⟩:Md).inn AA.ended [cps (cs++[p])]=M.ret t∧((∃ a b,t=.tup (a::b))∨t=.none):=by
   rcases ended (d:=e) (r:=false) (cs:=cs++[p]) he hpd with ⟨t,e2,ht⟩ | ⟨_,e2⟩
   ·exact ⟨t,e2,.inl ht.tup⟩
   ·exact ⟨_,e2,.inr rfl⟩
  obtain ⟨t,e2,ht⟩:=this
  obtain ⟨b,hb⟩:=zqx ht
  cases b with
  | true=>exact ⟨some p.pv,tr (bd (tr (bd (tr (bd (sq1 (zlX cs p hl))) e2)) hb)) rfl⟩
  | false=>exact ⟨Option.none,tr (bd (tr (bd (tr (bd (sq1 (zlX cs p hl))) e2)) hb)) rfl⟩
 rw [List.length_map] at hy
 exact ⟨ys.length,by omega,tr (bd (sq1 (zbi (md:=⟨r,true⟩) rfl (show zaz (cps c.come)=M.ret ⟨c.come.map Cl.pv,[]⟩ from rfl) (by rw [List.length_map];omega) e1))) (zcT (by omega))⟩
theorem zk9{e:Nat}{r:Bool}{cs:List Cl}(he:1<e)(hl:cs.length≤400)(hd:∀ c∈cs,c.s.dep<400):∀(l:List Cl)(v2:PV)(k:Int)(v4 v5 v6 v7:Option PV),(∀ c∈l,c∈cs)→((v2=.none∧k=3)∨∃ c∈cs,v2=c.pv∧Open c)→
  ∃ w,zaB AA GG (zaf GG e) ⟨r,true⟩ (M.ret ()) (l.map Cl.pv) (cps cs) v2 (.int k) v4 v5 v6 v7=M.ret w∧((w=.none∧v2=.none∧∀ c∈l,¬ Open c)∨∃ c∈cs,w=c.pv∧Open c)
 | [],v2,k,v4,v5,v6,v7,_,h=>⟨v2,rfl,h.imp (fun h=>⟨h.1,h.1,fun _ h=>nomatch h⟩) id⟩
 | c::l,v2,k,v4,v5,v6,v7,hs,h=>by
  have hc:=hs c (.head _)
  have st:zaB AA GG (zaf GG e) ⟨r,true⟩ (M.ret ()) ((c::l).map Cl.pv) (cps cs) v2 (.int k) v4 v5 v6 v7=zbx AA GG (zaf GG e) ⟨r,true⟩ (zaB AA GG (zaf GG e) ⟨r,true⟩ (M.ret ()) (l.map Cl.pv)) (cps cs) v2 (.int k) v4 v5 v6 v7 c.pv:=rfl
  have rest:=fun v2 k v4 v5 v6 v7=>zk9 (r:=r) he hl hd l v2 k v4 v5 v6 v7 fun x hx=>hs x (.tail _ hx)
  rw [st]
  unfold zbx
  cases qa:c.kd=="apart" with
  | true=>exact ⟨c.pv,tr (c_t rfl) (tr (bd (parts (by omega))) (if_t (tr (zcp _ _) (b_eq qa)))),.inr ⟨c,hc,rfl,.inl (eq_of_beq qa)⟩⟩
  | false=>
   cases qf:c.kd=="fork" with
   | true=>
    obtain ⟨n,hn,hw⟩:=ways (r:=r) (c:=c) he hl hd (hd c hc)
    cases q:decide ((n:Int)<k) with
    | true=>
     obtain ⟨w,ew,hw'⟩:=rest c.pv (n:Int) (some c.pv) (some (.str c.kd)) (some (cps c.come)) (some (.int (n:Int))) (.inr ⟨c,hc,rfl,.inr (eq_of_beq qf)⟩)
     exact ⟨w,tr (c_t rfl) (tr (bd (parts (by omega))) (tr (if_f (tr (zcp _ _) (b_eq qa))) (tr (if_t (tr (zcp _ _) (b_eq qf))) (tr (bd hw) (tr (if_t (tr (c_lt _ _) (b_eq q))) ew))))),hw'.elim (fun z=>absurd z.2.1 (by intro z;cases z)) .inr⟩
    | false=>
     obtain ⟨w,ew,hw'⟩:=rest v2 k (some c.pv) (some (.str c.kd)) (some (cps c.come)) (some (.int (n:Int))) h
     refine ⟨w,tr (c_t rfl) (tr (bd (parts (by omega))) (tr (if_f (tr (zcp _ _) (b_eq qa))) (tr (if_t (tr (zcp _ _) (b_eq qf))) (tr (bd hw) (tr (if_f (tr (c_lt _ _) (b_eq q))) ew))))),?_⟩
     rcases h with ⟨rfl,rfl⟩ | h
     ·exact absurd (of_decide_eq_false q) (by omega)
     ·exact hw'.elim (fun z=>by obtain ⟨x,hx,ex,ox⟩:=h;rw [ex] at z;exact absurd z.2.1 (by intro z;cases z)) .inr
   | false=>
    obtain ⟨w,ew,hw'⟩:=rest v2 k (some c.pv) (some (.str c.kd)) (some (cps c.come)) v7 h
    refine ⟨w,tr (c_t rfl) (tr (bd (parts (by omega))) (tr (if_f (tr (zcp _ _) (b_eq qa))) (tr (if_f (tr (zcp _ _) (b_eq qf))) ew))),hw'.imp (fun z=>⟨z.1,z.2.1,fun x hx=>(List.mem_cons.mp hx).elim (fun y=>?_) (z.2.2 x)⟩) id⟩
    rw [y]
    exact fun o=>o.elim (fun o=>by rw [o] at qa;cases qa) fun o=>by rw [o] at qf;cases qf
theorem next_claim{d:Nat}{r:Bool}{cs:List Cl}(h2:2<d)(hl:cs.length≤400)(hd:∀ c∈cs,c.s.dep<400):∃ w,zaf GG d ⟨r,true⟩ AA.next_claim [cps cs]=M.ret w∧((w=.none∧∀ c∈cs,¬ Open c)∨∃ c∈cs,w=c.pv∧Open c):=by
 obtain ⟨e,rfl⟩:∃ e,d=e+1:=⟨d-1,by omega⟩
 obtain ⟨w,ew,hw⟩:=zk9 (r:=r) (cs:=cs) (e:=e) (by omega) hl hd cs .none 3 Option.none Option.none Option.none Option.none (fun _ h=>h) (.inl ⟨rfl,rfl⟩)
 refine ⟨w,zag (tr (zg9 _ _ _) ?_),hw.imp (fun z=>⟨z.1,z.2.2⟩) id⟩
 unfold zdS zch
 exact tr (c_t rfl) ew
noncomputable def zqe(kvs:List (Str×PV)):Prop:=∀ x v,dat kvs x=some v→∃ b,v=.bool b
structure SetOk (kvs:List (Str×PV)) (l:List Cl):Prop where
 bools:zqe kvs
 dok:DOk kvs
 at_:∀ c∈l,∀ x,c.s=.name x→dat kvs x=some (.bool c.b)
theorem znq{C:zad}{r:Bool}{cs:List Cl}{σ:zaa}(hcons:∀ a∈cs,∀ c∈cs,∀ x,a.s=.name x→c.s=.name x→a.b=c.b):∀(l done:List Cl)(kvs:List (Str×PV))(v3 v4 v5:Option PV),(∀ c∈l,c∈cs)→(∀ c∈done,c∈cs)→kvs.length+l.length<900→SetOk kvs done→
  ∃ kvs',zaA AA GG C ⟨r,true⟩ (M.ret ()) (l.map Cl.pv) (cps cs) (.ref σ.length) v3 v4 v5 (σ++[.dict kvs])=.ok (.ref σ.length) (σ++[.dict kvs'])∧SetOk kvs' (done++l)
 | [],done,kvs,v3,v4,v5,_,_,_,h=>⟨kvs,rfl,by rw [List.append_nil];exact h⟩
 | c::l,done,kvs,v3,v4,v5,hl,hdn,hk,h=>by
  have hk:kvs.length+(l.length+1)<900:=hk
  have hc:=hl c (.head _)
  have mem:∀ a∈done++[c],a∈cs:=fun a ha=>(List.mem_append.mp ha).elim (hdn a) fun z=>by rw [List.mem_singleton.mp z];exact hc
  obtain ⟨n,b,s⟩:=c
  have go:∀ kvs',kvs'.length≤kvs.length+1→SetOk kvs' (done++[⟨n,b,s⟩])→∃ kvs'',zaA AA GG C ⟨r,true⟩ (M.ret ()) (l.map Cl.pv) (cps cs) (.ref σ.length) (some (.int (n:Int))) (some (.bool b)) (some s.pv) (σ++[.dict kvs'])=.ok (.ref σ.length) (σ++[.dict kvs''])∧SetOk kvs'' (done++⟨n,b,s⟩::l):=fun kvs' hkl h'=>by
   have:=znq (C:=C) (r:=r) (σ:=σ) hcons l (done++[⟨n,b,s⟩]) kvs' (some (.int (n:Int))) (some (.bool b)) (some s.pv) (fun x hx=>hl x (.tail _ hx)) mem (by omega) h'
   rw [List.append_assoc] at this;exact this
  have skip:(∀ x,s≠.name x)→SetOk kvs (done++[⟨n,b,s⟩]):=fun hs=>⟨h.bools,h.dok,fun a ha x e=>(List.mem_append.mp ha).elim (fun z=>h.at_ a z x e) fun z=>by rw [List.mem_singleton.mp z] at e;exact (hs x e).elim⟩
  cases s with
  | name y=>
   obtain ⟨kvs'',e,h''⟩:=go (dput y (.bool b) kvs) (ziU kvs y (.bool b)) ⟨fun x v hv=>by
     rw [zby] at hv
     by_cases q:x=y
     ·rw [if_pos q] at hv;cases hv;exact ⟨b,rfl⟩
     ·rw [if_neg q] at hv;exact h.bools x v hv,h.dok.put y rfl,fun a ha x e=>by
     rw [zby]
     by_cases q:x=y
     ·rw [if_pos q,hcons a (mem a ha) ⟨n,b,.name y⟩ hc x e (by rw [q])]
     ·rw [if_neg q]
      exact (List.mem_append.mp ha).elim (fun z=>h.at_ a z x e) fun z=>by rw [List.mem_singleton.mp z] at e;cases e;exact (q rfl).elim⟩
   refine ⟨kvs'',tr (show _=(setAt (.ref σ.length) (.str y) (.bool b)).bind (fun _=>zaA AA GG C ⟨r,true⟩ (M.ret ()) (l.map Cl.pv) (cps cs) (.ref σ.length) (some (.int (n:Int))) (some (.bool b)) (some (Say.name y).pv)) (σ++[.dict kvs]) from rfl) (tr (zab (zf3 zaV (by omega))) ?_),h''⟩
   rw [zc5];exact e
  | yes=>exact go kvs (Nat.le_succ _) (skip fun x e=>nomatch e)
  | no=>exact go kvs (Nat.le_succ _) (skip fun x e=>nomatch e)
  | not a=>exact go kvs (Nat.le_succ _) (skip fun x e=>nomatch e)
  | and a c=>exact go kvs (Nat.le_succ _) (skip fun x e=>nomatch e)
  | or a c=>exact go kvs (Nat.le_succ _) (skip fun x e=>nomatch e)
theorem zoU:DOk []:=⟨fun _ h=>(nomatch h),fun _ h=>(nomatch h)⟩
theorem setting_of{d:Nat}{r:Bool}{cs:List Cl}(hd:0<d)(hcons:∀ a∈cs,∀ c∈cs,∀ x,a.s=.name x→c.s=.name x→a.b=c.b)(hl:cs.length≤400)(σ:zaa):∃ kvs,zaf GG d ⟨r,true⟩ AA.setting_of [cps cs] σ=.ok (.ref σ.length) (σ++[.dict kvs])∧SetOk kvs cs:=by
 obtain ⟨e,rfl⟩:∃ e,d=e+1:=⟨d-1,by omega⟩
 obtain ⟨kvs,e1,h⟩:=znq (C:=zaf GG e) (r:=r) (σ:=σ) hcons cs [] [] Option.none Option.none Option.none (fun _ h=>h) (fun _ h=>nomatch h) (show 0+cs.length<900 by omega) ⟨fun x v h=>(nomatch h),zoU,fun c h=>(nomatch h)⟩
 refine ⟨kvs,at_ (zag (zg3 _ _ _)) ?_,h⟩
 unfold zdP zce
 exact tr (zab (a:=PV.ref σ.length) (σ':=σ++[Cel.dict []]) rfl) (at_ (c_t rfl) e1)
noncomputable def tsz:List Cl→Nat
 | []=>0
 | c::r=>c.s.sz+tsz r
theorem zca:∀ a b:List Cl,tsz (a++b)=tsz a+tsz b
 | [],b=>(Nat.zero_add _).symm
 | c::a,b=>by show c.s.sz+tsz (a++b)=c.s.sz+tsz a+tsz b;rw [zca a b,Nat.add_assoc]
theorem zfF{c:Cl}:∀{cs:List Cl},c∈cs→tsz (ers c cs)+c.s.sz=tsz cs∧(ers c cs).length+1=cs.length
 | x::cs,h=>by
  show tsz (bif c.beq x then cs else x::ers c cs)+c.s.sz=x.s.sz+tsz cs∧(bif c.beq x then cs else x::ers c cs).length+1=cs.length+1
  cases q:c.beq x with
  | true=>rw [Cl.eq_of q];exact ⟨Nat.add_comm _ _,rfl⟩
  | false=>
   have hm:c∈cs:=(List.mem_cons.mp h).resolve_left fun e=>by rw [e,Cl.beq_self] at q;cases q
   have:=zfF hm
   refine ⟨?_,?_⟩
   ·show x.s.sz+tsz (ers c cs)+c.s.sz=_;omega
   ·show (ers c cs).length+1+1=_;omega
theorem zb0{c x:Cl}:∀{cs:List Cl},x∈ers c cs→x∈cs
 | y::cs,h=>by
  have h:x∈bif c.beq y then cs else y::ers c cs:=h
  cases q:c.beq y with
  | true=>rw [q] at h;exact .tail _ h
  | false=>rw [q] at h;exact (List.mem_cons.mp h).elim (fun e=>e▸.head _) fun h=>.tail _ (zb0 h)
theorem zle{c x:Cl}:∀{cs:List Cl},x∈cs→x=c∨x∈ers c cs
 | y::cs,h=>by
  show x=c∨x∈bif c.beq y then cs else y::ers c cs
  cases q:c.beq y with
  | true=>exact (List.mem_cons.mp h).imp (fun e=>e.trans (Cl.eq_of q).symm) id
  | false=>exact (List.mem_cons.mp h).elim (fun e=>.inr (e▸.head _)) fun h=>(zle h).imp id fun h=>.tail _ h
theorem zaD:∀ w∈[("name":Str),"idle","shut"],¬ (w="apart"∨w="fork"):=by decide
theorem zeS{c:Cl}(h:Open c):tsz c.come+1=c.s.sz:=by
 obtain ⟨n,b,s⟩:=c
 cases s with
 | not a=>rfl
 | and a d=>show a.sz+(d.sz+0)+1=a.sz+d.sz+1;rfl
 | or a d=>show a.sz+(d.sz+0)+1=a.sz+d.sz+1;rfl
 | name x=>exact absurd h (zaD "name" (by decide))
 | yes=>cases b with
  | true=>exact absurd h (zaD "idle" (by decide))
  | false=>exact absurd h (zaD "shut" (by decide))
 | no=>cases b with
  | true=>exact absurd h (zaD "shut" (by decide))
  | false=>exact absurd h (zaD "idle" (by decide))
noncomputable def Holds(f:Str→Bool)(cs:List Cl):Prop:=∀ c∈cs,c.s.tv f=c.b
theorem zik{f:Str→Bool}{c:Cl}(hk:c.kd="apart")(h:Holds f c.come):c.s.tv f=c.b:=by
 obtain ⟨n,b,s⟩:=c
 cases s with
 | not a=>have:=h ⟨n,!b,a⟩ (.head _);show (!(a.tv f))=b;rw [show a.tv f=!b from this,Bool.not_not]
 | and a d=>
  have h1:=h ⟨n,b,a⟩ (.head _);have h2:=h ⟨n,b,d⟩ (.tail _ (.head _))
  show (a.tv f&&d.tv f)=b
  rw [show a.tv f=b from h1,show d.tv f=b from h2,Bool.and_self]
 | or a d=>
  have h1:=h ⟨n,b,a⟩ (.head _);have h2:=h ⟨n,b,d⟩ (.tail _ (.head _))
  show (a.tv f || d.tv f)=b
  rw [show a.tv f=b from h1,show d.tv f=b from h2,Bool.or_self]
 | name x=>exact absurd (.inl hk) (zaD "name" (by decide))
 | yes=>cases b with
  | true=>exact absurd (.inl hk) (zaD "idle" (by decide))
  | false=>exact absurd (.inl hk) (zaD "shut" (by decide))
 | no=>cases b with
  | true=>exact absurd (.inl hk) (zaD "shut" (by decide))
  | false=>exact absurd (.inl hk) (zaD "idle" (by decide))
theorem zjR{f:Str→Bool}{c:Cl}(hk:c.kd="fork")(h:∃ x∈c.come,x.s.tv f=x.b):c.s.tv f=c.b:=by
 obtain ⟨n,b,s⟩:=c
 obtain ⟨x,hx,hv⟩:=h
 cases s with
 | and a d=>
  cases b with
  | true=>exact absurd hk (show ("apart":Str)≠"fork" by decide)
  | false=>
   show (a.tv f&&d.tv f)=false
   rcases List.mem_cons.mp hx with rfl | hx
   ·rw [show a.tv f=false from hv];rfl
   ·rw [List.mem_singleton.mp hx] at hv;rw [show d.tv f=false from hv,Bool.and_false]
 | not a=>exact absurd hk (show ("apart":Str)≠"fork" by decide)
 | or a d=>
  cases b with
  | false=>exact absurd hk (show ("apart":Str)≠"fork" by decide)
  | true=>
   show (a.tv f || d.tv f)=true
   rcases List.mem_cons.mp hx with rfl | hx
   ·rw [show a.tv f=true from hv];rfl
   ·rw [List.mem_singleton.mp hx] at hv;rw [show d.tv f=true from hv,Bool.or_true]
 | _=>exact nomatch hx
inductive Std:List Cl→PV→Prop
 | shut {cs:List Cl} {c:Cl}:c∈cs→c.kd="shut"→Std cs (.tup [.str "shut",c.pv])
 | clash {cs:List Cl} {c o:Cl}:c∈cs→o∈cs→clsh c o=true→Std cs (.tup [.str "clash",c.pv,o.pv])
 | apart {cs:List Cl} {c:Cl} {t:PV}:c∈cs→c.kd="apart"→Std (ers c cs++c.come) t→Std cs (.tup [.str "apart",c.pv,t])
 | fork {cs:List Cl} {c:Cl} {t u:PV}:c∈cs→c.kd="fork"→Std (ers c cs++c.come.take 1) t→Std (ers c cs++c.come.drop 1) u→Std cs (.tup [.str "fork",c.pv,t,u])
theorem Std.tup{cs:List Cl}{t:PV}(h:Std cs t):∃ a b,t=.tup (a::b):=by
 cases h with
 | shut=>exact ⟨_,_,rfl⟩
 | clash=>exact ⟨_,_,rfl⟩
 | apart=>exact ⟨_,_,rfl⟩
 | fork=>exact ⟨_,_,rfl⟩
theorem EndT.std{cs:List Cl}{t:PV}(h:EndT cs t):Std cs t:=by
 rcases h with ⟨c,hc,hk,rfl⟩ | ⟨c,hc,o,ho,hq,rfl⟩
 ·exact .shut hc hk
 ·exact .clash hc ho hq
structure Sat (σ:zaa) (j:Nat) (cs:List Cl) (kvs:List (Str×PV)):Prop where
 cell:σ[j]?=some (.dict kvs)
 bools:zqe kvs
 dok:DOk kvs
 holds:Holds (fOf kvs) cs
noncomputable def Wk(cs:List Cl)(σ:zaa)(w:PV):Prop:=(∃ t,w=.tup [t,.none]∧Std cs t)∨∃ j kvs,w=.tup [.none,.ref j]∧Sat σ j cs kvs
theorem zke{c:Cl}:∀{cs:List Cl},c∈cs→c.s.sz≤tsz cs
 | x::cs,h=>by
  show _≤x.s.sz+tsz cs
  rcases List.mem_cons.mp h with rfl | h
  ·exact Nat.le_add_right _ _
  ·exact Nat.le_trans (zke h) (Nat.le_add_left _ _)
theorem zbp(l:List Cl)(k:Nat):tsz (l.take k)≤tsz l∧tsz (l.drop k)≤tsz l:=by
 have:=zca (l.take k) (l.drop k)
 rw [List.take_append_drop] at this
 omega
theorem zb2(a b:List Cl)(h:a.length+b.length≤1000):opM false .Add (cps a) (cps b)=M.ret (cps (a++b)):=tr (zio (by rw [List.length_map,List.length_map];exact h)) (by unfold cps;rw [List.map_append])
theorem zk4{t:PV}(h:∃ a b,t=.tup (a::b)):zac .Is t PV.none=M.ret (.bool false)∧zac .IsNot t PV.none=M.ret (.bool true):=by
 obtain ⟨a,b,rfl⟩:=h
 exact ⟨rfl,rfl⟩
theorem leaf{cs:List Cl}{kvs:List (Str×PV)}(hn:zph cs)(ho:∀ c∈cs,¬ Open c)(S:SetOk kvs cs):Holds (fOf kvs) cs:=fun c hc=>by
 obtain ⟨n,b,s⟩:=c
 have hk:=(hn _ hc).1
 have hop:=ho _ hc
 cases s with
 | name x=>show fOf kvs x=b;unfold fOf;rw [S.at_ _ hc x rfl]
 | yes=>cases b with
  | true=>rfl
  | false=>exact absurd rfl hk
 | no=>cases b with
  | true=>exact absurd rfl hk
  | false=>rfl
 | not a=>exact absurd (.inl rfl) hop
 | and a d=>cases b with
  | true=>exact absurd (.inl rfl) hop
  | false=>exact absurd (.inr rfl) hop
 | or a d=>cases b with
  | true=>exact absurd (.inr rfl) hop
  | false=>exact absurd (.inl rfl) hop
theorem zo3{cs:List Cl}(hn:zph cs):∀ a∈cs,∀ c∈cs,∀ x,a.s=.name x→c.s=.name x→a.b=c.b:=fun a ha c hc x ea ec=>by
 have h1:=(hn a ha).2 c hc
 have h2:=(hn c hc).2 a ha
 unfold clsh at h1 h2
 rw [ea,ec,show (Say.name x).beq (.name x)=true from zb1 _] at h1
 rw [ea,ec,show (Say.name x).beq (.name x)=true from zb1 _] at h2
 cases qa:a.b <;> cases qc:c.b <;> first | rfl | (rw [qa,qc] at h1;exact nomatch (show true=false from h1)) | (rw [qa,qc] at h2;exact nomatch (show true=false from h2))
theorem zdF{P:Cl→Prop}{c:Cl}(h:c.kd="fork")(ha:∀ n a d,P ⟨n,false,.and a d⟩)(ho:∀ n a d,P ⟨n,true,.or a d⟩):P c:=by
 obtain ⟨n,b,s⟩:=c
 cases s with
 | not a=>exact absurd h (show ("apart":Str)≠"fork" by decide)
 | and a d=>cases b with
  | false=>exact ha n a d
  | true=>exact absurd h (show ("apart":Str)≠"fork" by decide)
 | or a d=>cases b with
  | true=>exact ho n a d
  | false=>exact absurd h (show ("apart":Str)≠"fork" by decide)
 | name x=>exact absurd (.inr h) (zaD "name" (by decide))
 | yes=>cases b with
  | true=>exact absurd (.inr h) (zaD "idle" (by decide))
  | false=>exact absurd (.inr h) (zaD "shut" (by decide))
 | no=>cases b with
  | true=>exact absurd (.inr h) (zaD "shut" (by decide))
  | false=>exact absurd (.inr h) (zaD "idle" (by decide))
theorem zoL{c:Cl}(h:c.kd="fork"):c.come.take 1≠[]∧c.come.drop 1≠[]:=zdF (P:=fun c=>c.come.take 1≠[]∧c.come.drop 1≠[]) h (fun _ _ _=>⟨fun h=>(nomatch h),fun h=>(nomatch h)⟩) (fun _ _ _=>⟨fun h=>(nomatch h),fun h=>(nomatch h)⟩)
structure Nx (cs:List Cl) (c:Cl) (l:List Cl):Prop where
 all:(ers c cs++l).length+tsz (ers c cs++l)≤300
 down:∀ {e},tsz cs+10<e+1→tsz (ers c cs++l)+10<e
 add:(ers c cs).length+l.length≤1000
 lt:tsz (ers c cs++l)+1≤tsz cs
 dep:∀ x∈ers c cs++l,x.s.dep≤100
theorem zf7{cs:List Cl}{c:Cl}{l:List Cl}(hc:c∈cs)(hop:Open c)(h:cs.length+tsz cs≤300)(hl:l.length≤2)(hz:tsz l≤tsz c.come)(hm:∀ x∈l,x∈c.come)(hx:∀ x∈cs,x.s.dep≤100):Nx cs c l:=by
 obtain ⟨h1,h2⟩:=zfF hc
 have h3:=zeS hop
 have h4:tsz (ers c cs++l)+1≤tsz cs:=by rw [zca];omega
 refine ⟨?_,fun he=>?_,?_,h4,fun x hx'=>(List.mem_append.mp hx').elim (fun z=>hx x (zb0 z)) fun z=>Nat.le_trans (Nat.le_of_lt (ziX (hm x z))) (hx c hc)⟩
 ·rw [List.length_append];omega
 ·clear h h1 h2 h3 hl hz;omega
 ·omega
theorem zdw{c:Cl}:(c.come.take 1).length≤2∧(c.come.drop 1).length≤2:=⟨Nat.le_trans (List.length_take_le' 1 _) (zbK c),by rw [List.length_drop];exact Nat.le_trans (Nat.sub_le _ _) (zbK c)⟩
theorem zo2(c:Cl):cutM false (cps c.come) Option.none (some 1)=M.ret (cps (c.come.take 1)):=tr (znH (n:=1) (by rw [List.length_map];exact Nat.le_trans (zbK c) (by decide))) (by unfold cps;rw [List.map_take])
theorem zo1(c:Cl):cutM false (cps c.come) (some 1) Option.none=M.ret (cps (c.come.drop 1)):=tr (znG (n:=1) (by rw [List.length_map];exact Nat.le_trans (zbK c) (by decide))) (by unfold cps;rw [List.map_drop])
theorem dep4{cs:List Cl}(hx:∀ c∈cs,c.s.dep≤100):∀ c∈cs,c.s.dep<400:=fun x h=>Nat.lt_of_le_of_lt (hx x h) (by decide)
theorem ten{t d:Nat}(h:t+10<d):∃ e,d=e+1∧10≤e:=⟨d-1,by omega,by omega⟩
theorem few{n t:Nat}(h:n+t≤300):n≤400:=by omega
theorem worked:∀(n:Nat)(cs:List Cl)(d:Nat)(σ:zaa),tsz cs≤n→cs.length+tsz cs≤300→(∀ c∈cs,c.s.dep≤100)→tsz cs+10<d→∃ w τ,zaf GG d ⟨true,true⟩ AA.worked [cps cs] σ=.ok w (σ++τ)∧Wk cs (σ++τ) w:=by
 intro n
 induction n with
 | zero=>
  intro cs d σ hz hl hd hn
  obtain ⟨e,rfl,he⟩:=ten hn
  have he2:2<e:=Nat.lt_of_lt_of_le (by decide) he
  have hc:cs=[]:=by
   cases cs with
   | nil=>rfl
   | cons c r=>
    have hp:0<c.s.sz:=by cases c.s <;> exact Nat.succ_pos _
    exact absurd hz (Nat.not_le.mpr (Nat.lt_of_lt_of_le hp (Nat.le_add_right _ _)))
  subst hc
  obtain ⟨kvs,e1,S⟩:=setting_of (d:=e) (r:=true) (cs:=[]) (Nat.lt_trans (by decide) he2) (fun a h=>nomatch h) (by decide) σ
  obtain ⟨w,ew,hw⟩:=next_claim (d:=e) (r:=true) (cs:=[]) he2 (by decide) fun c h=>nomatch h
  have hw:w=.none:=hw.elim (fun z=>z.1) fun ⟨c,hc,_⟩=>nomatch hc
  subst hw
  rcases ended (d:=e) (r:=true) (cs:=[]) (Nat.lt_trans (by decide) he2) (fun c h=>nomatch h) with ⟨t,e2,ht⟩ | ⟨hne,e2⟩
  ·rcases ht with ⟨c,hc,_⟩ | ⟨c,hc,_⟩
   ·exact nomatch hc
   ·exact nomatch hc
  ·exact ⟨.tup [.none,.ref σ.length],[.dict kvs],at_ (zag (zcX _ _ _)) (at_ (tr (bd e2) (tr (if_f rfl) (tr (bd ew) (if_t rfl)))) (tr (zab (tr (zab (a:=PV.none) rfl) (tr (zab (tr (zab e1) rfl)) rfl))) rfl)),.inr ⟨_,kvs,rfl,zaV,S.bools,S.dok,fun c h=>nomatch h⟩⟩
 | succ n ih=>
  intro cs d σ hz hl hd hn
  obtain ⟨e,rfl,he⟩:=ten hn
  have he2:2<e:=Nat.lt_of_lt_of_le (by decide) he
  have he0:0<e:=Nat.lt_trans (by decide) he2
  have hd4:=dep4 hd
  rcases ended (d:=e) (r:=true) (cs:=cs) (Nat.lt_trans (by decide) he2) hd4 with ⟨t,e2,ht⟩ | ⟨hne,e2⟩
  ·refine ⟨.tup [t,.none],[],?_,.inl ⟨t,rfl,ht.std⟩⟩
   rw [List.append_nil]
   exact at_ (zag (zcX _ _ _)) (congrFun (tr (bd e2) (if_t (zk4 ht.tup).2)) σ)
  ·obtain ⟨w,ew,hw⟩:=next_claim (d:=e) (r:=true) (cs:=cs) he2 (few hl) hd4
   rcases hw with ⟨rfl,hop⟩ | ⟨c,hc,rfl,hop⟩
   ·obtain ⟨kvs,e1,S⟩:=setting_of (d:=e) (r:=true) (cs:=cs) he0 (zo3 hne) (few hl) σ
    exact ⟨.tup [.none,.ref σ.length],[.dict kvs],at_ (zag (zcX _ _ _)) (at_ (tr (bd e2) (tr (if_f rfl) (tr (bd ew) (if_t rfl)))) (tr (zab (tr (zab (a:=PV.none) rfl) (tr (zab (tr (zab e1) rfl)) rfl))) rfl)),.inr ⟨_,kvs,rfl,zaV,S.bools,S.dok,leaf hne hop S⟩⟩
   ·have hwo:=without (d:=e) (md:=⟨true,true⟩) rfl he2 hd4 (few hl) hc
    have hpt:zaf GG e ⟨true,true⟩ AA.parts [c.pv]=M.ret (.tup [.str c.kd,cps c.come]):=parts he0
    have back:∀{f:Str→Bool}{l:List Cl},Holds f (ers c cs++l)→(Holds f l→c.s.tv f=c.b)→Holds f cs:=fun {f l} h hc' x hx=>(zle (c:=c) hx).elim (fun z=>z▸hc' fun y hy=>h y (List.mem_append_right _ hy)) fun z=>h x (List.mem_append_left _ z)
    have run:∀(l:List Cl)(σ:zaa),Nx cs c l→∃ w τ,zaf GG e ⟨true,true⟩ AA.worked [cps (ers c cs++l)] σ=.ok w (σ++τ)∧Wk (ers c cs++l) (σ++τ) w:=fun l σ N=>ih (ers c cs++l) e σ (Nat.le_of_succ_le_succ (Nat.le_trans N.lt hz)) N.all N.dep (N.down hn)
    cases qa:c.kd=="apart" with
    | true=>
     have ka:c.kd="apart":=eq_of_beq qa
     have N:=zf7 (l:=c.come) hc hop hl (zbK c) (Nat.le_refl _) (fun _ h=>h) hd
     obtain ⟨w,τ,ew',hw'⟩:=run c.come σ N
     have st:∀{v:PV},(tup2 w fun v11 v12=>(ifM (zac .Is v11 PV.none) (M.ret (.tup [PV.none,v12])) (M.ret (.tup [(.tup [(.str "apart"),c.pv,v11]),PV.none]))))=M.ret v→zaf GG (e+1) ⟨true,true⟩ AA.worked [cps cs] σ=.ok v (σ++τ):=fun {v} hv=>
      at_ (zag (zcX _ _ _)) (at_ (tr (bd e2) (tr (if_f rfl) (tr (bd ew) (tr (if_f rfl) (tr (c_t rfl) (tr (bd hpt) (tr (bd hwo) (tr (if_t (tr (zcp _ _) (b_eq qa))) (c_t rfl))))))))) (tr (zab (at_ (bd (sq1 (zb2 _ _ N.add))) ew')) (congrFun hv _)))
     rcases hw' with ⟨t,rfl,ht⟩ | ⟨j,kvs,rfl,S⟩
     ·exact ⟨_,τ,st (if_f (zk4 ht.tup).1),.inl ⟨_,rfl,.apart hc ka ht⟩⟩
     ·exact ⟨_,τ,st (v:=.tup [.none,.ref j]) rfl,.inr ⟨j,kvs,rfl,S.cell,S.bools,S.dok,back S.holds fun h=>zik ka h⟩⟩
    | false=>
     have kf:c.kd="fork":=hop.resolve_left fun z=>by rw [z] at qa;cases qa
     have N1:=zf7 hc hop hl zdw.1 (zbp c.come 1).1 (fun _ h=>List.mem_of_mem_take h) hd
     have N2:=zf7 hc hop hl zdw.2 (zbp c.come 1).2 (fun _ h=>List.mem_of_mem_drop h) hd
     have some1:∀{f:Str→Bool}{l:List Cl},l≠[]→(∀ x∈l,x∈c.come)→Holds f l→c.s.tv f=c.b:=fun {f l} hne hl h=>by
      cases l with
      | nil=>exact absurd rfl hne
      | cons x l=>exact zjR kf ⟨x,hl x (.head _),h x (.head _)⟩
     have ne2:c.come.take 1≠[]∧c.come.drop 1≠[]:=zoL kf
     obtain ⟨w,τ,ew',hw'⟩:=run (c.come.take 1) σ N1
     have hcall:zaf GG (e+1) ⟨true,true⟩ AA.worked [cps cs] σ=(tup2 w fun v16 v17=>(ifM (zac .Is v16 PV.none) (M.ret (.tup [PV.none,v17])) (M.cond ((⟨true,true⟩:Md).lp&&true) (((seqM [((cutM false (cps c.come) (some 1) Option.none).bind fun v18=>(opM false .Add (cps (ers c cs)) v18))]).bind fun v19=>(zaf GG e ⟨true,true⟩ AA.worked v19)).bind fun v20=>(tup2 v20 fun v21 v22=>(ifM (zac .Is v21 PV.none) (M.ret (.tup [PV.none,v22])) (M.ret (.tup [(.tup [(.str "fork"),c.pv,v16,v21]),PV.none]))))) M.fail))) (σ++τ):=
      at_ (zag (zcX _ _ _)) (at_ (tr (bd e2) (tr (if_f rfl) (tr (bd ew) (tr (if_f rfl) (tr (c_t rfl) (tr (bd hpt) (tr (bd hwo) (tr (if_f (tr (zcp _ _) (b_eq qa))) (c_t rfl))))))))) (tr (zab (at_ (bd (sq1 (tr (bd (zo2 c)) (zb2 _ _ N1.add)))) ew')) rfl))
     rcases hw' with ⟨t,rfl,ht⟩ | ⟨j,kvs,rfl,S⟩
     ·obtain ⟨w2,τ2,ew2,hw2⟩:=run (c.come.drop 1) (σ++τ) N2
      have st:∀{v:PV},(tup2 w2 fun v21 v22=>(ifM (zac .Is v21 PV.none) (M.ret (.tup [PV.none,v22])) (M.ret (.tup [(.tup [(.str "fork"),c.pv,t,v21]),PV.none]))))=M.ret v→zaf GG (e+1) ⟨true,true⟩ AA.worked [cps cs] σ=.ok v (σ++(τ++τ2)):=fun {v} hv=>by
       rw [← List.append_assoc]
       exact hcall.trans (at_ (tr (if_f (zk4 ht.tup).1) (c_t rfl)) (tr (zab (at_ (bd (sq1 (tr (bd (zo1 c)) (zb2 _ _ N2.add)))) ew2)) (congrFun hv _)))
      rcases hw2 with ⟨u,rfl,hu⟩ | ⟨j,kvs,rfl,S⟩
      ·exact ⟨_,τ++τ2,st (if_f (zk4 hu.tup).1),.inl ⟨_,rfl,.fork hc kf ht hu⟩⟩
      ·exact ⟨_,τ++τ2,st (v:=.tup [.none,.ref j]) rfl,.inr ⟨j,kvs,rfl,by rw [← List.append_assoc];exact S.cell,S.bools,S.dok,back S.holds (some1 ne2.2 fun _ h=>List.mem_of_mem_drop h)⟩⟩
     ·exact ⟨.tup [.none,.ref j],τ,hcall.trans rfl,.inr ⟨j,kvs,rfl,S.cell,S.bools,S.dok,back S.holds (some1 ne2.1 fun _ h=>List.mem_of_mem_take h)⟩⟩
theorem zk0(σ:zaa):∀{cs:List Cl},(∀ c∈cs,c.s.dep<400)→zal (Mine.whole σ zai) (cs.map Cl.pv)=some (cs.map Cl.pv)
 | [],_=>rfl
 | c::cs,h=>zbB (Cl.whole σ c 499 (by have:=h c (.head _);omega)) (zk0 σ fun x hx=>h x (.tail _ hx))
theorem zfd{cs:List Cl}(h:∀ c∈cs,c.s.dep<400):zbT (cs.map Cl.pv)=M.ret (cs.map Cl.pv):=funext fun σ=>zfe (zk0 σ h)
theorem Cl.beq_comm(a c:Cl):a.beq c=c.beq a:=by
 cases h:a.beq c with
 | true=>rw [Cl.eq_of h,Cl.beq_self]
 | false=>
  cases h':c.beq a with
  | true=>rw [Cl.eq_of h',Cl.beq_self] at h;cases h
  | false=>rfl
theorem zlL{c:Cl}:∀(cs:List Cl)(a:Nat),c∈cs→∃ pre x suf,cs=pre++x::suf∧ers c cs=pre++suf∧zbt c.pv (cs.map Cl.pv) a=some (a+pre.length)
 | x::cs,a,h=>by
  have st:zbt c.pv ((x::cs).map Cl.pv) a=bif c.beq x then some a else zbt c.pv (cs.map Cl.pv) (a+1):=by
   show (if eqv x.pv c.pv=true then some a else zbt c.pv (cs.map Cl.pv) (a+1))=_
   rw [Cl.beq_pv,Cl.beq_comm]
   cases c.beq x <;> rfl
  rw [st]
  show ∃ pre y suf,x::cs=pre++y::suf∧(bif c.beq x then cs else x::ers c cs)=pre++suf∧_
  cases q:c.beq x with
  | true=>exact ⟨[],x,cs,rfl,rfl,rfl⟩
  | false=>
   have hm:c∈cs:=(List.mem_cons.mp h).resolve_left fun e=>by rw [e,Cl.beq_self] at q;cases q
   obtain ⟨pre,y,suf,h1,h2,h3⟩:=zlL cs (a+1) hm
   exact ⟨x::pre,y,suf,congrArg (x::·) h1,congrArg (x::·) h2,h3.trans (congrArg some (by show a+1+pre.length=a+(pre.length+1);omega))⟩
theorem l_without{d:Nat}{cs:List Cl}{c:Cl}{md:Md}(hd:0<d)(hx:∀ x∈cs,x.s.dep<400)(hl:cs.length≤400)(h:c∈cs):zaf GG d md AA.l_without [cps cs,c.pv]=M.ret (cps (ers c cs)):=by
 obtain ⟨e,rfl⟩:∃ e,d=e+1:=⟨d-1,by omega⟩
 obtain ⟨pre,y,suf,h1,h2,h3⟩:=zlL cs 0 h
 have hi:zcj md false "index" (cps cs) (M.ret [c.pv])=M.ret (.int (pre.length:Int)):=by
  refine tr (show zcj md false "index" (cps cs) (M.ret [c.pv])=M.cond (decide ((cs.map Cl.pv).length<2 ^ 20)) ((zgo c.pv (cs.map Cl.pv)).bind fun n=>M.ret (.int n)) M.fail from rfl) (tr (c_t (decide_eq_true (by rw [List.length_map];omega))) (bd (show zgo c.pv (cs.map Cl.pv)=M.ret pre.length from tr (bd (Cl.wholeM c (hx c h))) (tr (bd (zfd hx)) (by rw [h3,Nat.zero_add];rfl)))))
 refine zag (tr (zh2 _ _ _ _) (tr (bd hi) ?_))
 rw [h2,h1]
 exact zlV (by rw [← h1];exact hl)
theorem zqB{cs:List Cl}{c:Cl}(hx:∀ x∈cs,x.s.dep<400)(h:c∈cs):zac .In c.pv (cps cs)=M.ret (.bool true):=by
 refine bd (a:=true) (show zil c.pv (cs.map Cl.pv)=_ from tr (bd (Cl.wholeM c (hx c h))) (tr (bd (zfd hx)) ?_))
 rw [List.any_eq_true.mpr ⟨c.pv,List.mem_map.mpr ⟨c,h,rfl⟩,by rw [Cl.beq_pv,Cl.beq_self]⟩]
theorem zlA{d:Nat}{cs:List Cl}{c:Cl}{md:Md}(hd:0<d)(hx:∀ x∈cs,x.s.dep<400)(h:c∈cs):zaf GG d md AA.l_is_open [cps cs,c.pv]=M.ret (.bool true):=by
 obtain ⟨e,rfl⟩:∃ e,d=e+1:=⟨d-1,by omega⟩
 exact zag (tr (zh4 _ _ _ _) (tr (if_f (tr (or_f rfl) (tr (or_f rfl) (tr (or_f (tr (bd (ix_0 _ _)) rfl)) (zbw (b:=true) (tr (bd (ix_1 _ _ _)) rfl)))))) (zqB hx h)))
theorem zlJ{md:Md}{mu:Bool}{σ:zaa}{j:Nat}{kvs:List (Str×PV)}{k:Str}{x:PV}(h:σ[j]?=some (.dict kvs)):zcj md mu "get" (.ref j) (M.ret [.str k,x]) σ=.ok ((dat kvs k).getD x) σ:=by
 refine (zab (show tnOf (.ref j) σ=.ok .dict σ from zab (zl7 h))).trans ((zab (show M.lift (mtOf .dict "get") σ=.ok .get σ from rfl)).trans ?_)
 exact zab (zdH h)
noncomputable def szD:List (Str×PV):=[("shut",(.int 2)),("clash",(.int 3)),("apart",(.int 3)),("fork",(.int 4))]
theorem zpt{md:Md}{σ:zaa}{j:Nat}{w:Str}{l:List PV}(h:σ[j]?=some (.dict szD)) (hw:dat szD w=some (.int (l.length+1:Nat))) (hl:l.length≤10):((zcj md false "get" (.ref j) (seqM [(index (.tup (.str w::l)) (.int 0)),(M.ret (.int 0))])).bind fun v6=>((biM md false "len" [.tup (.str w::l)]).bind fun v7=>(zac .NotEq v6 v7))) σ=.ok (.bool false) σ:=by
 refine tr (zab (at_ (congrArg (zcj md false "get" (.ref j)) (sq2 (ix_0 _ _) rfl)) (zlJ h))) ?_
 rw [hw]
 exact at_ (bd (zdC (show l.length+1≤1000000 by omega))) (congrFun (tr (zpK _ _) (b_eq (show (!(((l.length+1:Nat):Int)==((l.length+1:Nat):Int)))=false by rw [beq_self_eq_true];rfl))) σ)
theorem zfZ{cs:List Cl}{c:Cl}{d:Nat}{r:Bool}{σ:zaa}{w:Str}{l:List PV}{rs:Rs PV}{K:PV→PV→M PV}(hd:0<d)(hc:c∈cs)(hx:∀ x∈cs,x.s.dep<400) (hw:dat szD w=some (.int (l.length+2:Nat))) (hl:l.length≤5)
  (h:K (.str c.kd) (cps c.come) (σ++[.dict szD])=rs):((cnew (.dict szD)).bind fun v3=>
 (ifM (orM (notM (isM GG (.bi .tuple) (.tup (.str w::c.pv::l)))) (orM ((biM ⟨r,true⟩ false "len" [.tup (.str w::c.pv::l)]).bind fun v4=>(zac .Eq v4 (.int 0))) (notM ((index (.tup (.str w::c.pv::l)) (.int 0)).bind fun v5=>(isM GG (.bi .str) v5)))))
 (M.ret (.bool false))
 (ifM (orM ((zcj ⟨r,true⟩ false "get" v3 (seqM [(index (.tup (.str w::c.pv::l)) (.int 0)),(M.ret (.int 0))])).bind fun v6=>((biM ⟨r,true⟩ false "len" [.tup (.str w::c.pv::l)]).bind fun v7=>(zac .NotEq v6 v7))) (notM ((seqM [(M.ret (cps cs)),(index (.tup (.str w::c.pv::l)) (.int 1))]).bind fun v8=>(zaf GG d ⟨r,true⟩ AA.l_is_open v8))))
 (M.ret (.bool false))
 (M.cond ((⟨r,true⟩:Md).lp&&true) (((seqM [(index (.tup (.str w::c.pv::l)) (.int 1))]).bind fun v9=>(zaf GG d ⟨r,true⟩ AA.l_comes v9)).bind fun v10=>(tup2 v10 K)) M.fail)))) σ=rs:=by
 refine tr (zab (a:=PV.ref σ.length) (σ':=σ++[Cel.dict szD]) rfl) (at_ (if_f (tr (or_f rfl) (tr (or_f (tr (bd (zdC (show l.length+2≤1000000 by omega))) (zjQ (show ((l.length+2:Nat):Int)≠0 by omega)))) (zbw (b:=true) (tr (bd (ix_0 _ _)) rfl))))) ?_)
 refine tr (zoH (c:=false) (zkZ (zpt zaV hw (show l.length+1≤10 by omega)) (zfq (b:=true) (at_ (bd (sq2 rfl (ix_1 _ _ _))) (congrFun (zlA hd hx hc) _))))) (at_ (tr (c_f rfl) (c_t rfl)) ?_)
 exact tr (zab (at_ (bd (sq1 (ix_1 _ _ _))) (congrFun (zqG hd) _))) h
theorem zon{c:Cl}(h:isN c.s=true):c.kd="name":=by
 obtain ⟨n,b,s⟩:=c
 cases s with
 | name x=>rfl
 | _=>cases h
theorem stands{cs:List Cl}{t:PV}(h:Std cs t):∀(r:Bool)(d:Nat)(σ:zaa),cs.length+tsz cs≤300→(∀ c∈cs,c.s.dep≤100)→tsz cs+10<d→∃ τ,zaf GG d ⟨r,true⟩ AA.l_stands [cps cs,t] σ=.ok (.bool true) (σ++τ):=by
 induction h with
 | @shut cs c hc hk=>
  intro r d σ hl hx hd
  obtain ⟨e,rfl,he⟩:=ten hd
  refine ⟨[.dict szD],at_ (zag (zcw _ _ _ _)) (zfZ (l:=[]) (Nat.lt_of_lt_of_le (by decide) he) hc (dep4 hx) (by kernel_rfl) (by decide) ?_)⟩
  rw [hk];exact congrFun (tr (if_f (by kernel_rfl)) (tr (if_f (by kernel_rfl)) (if_t (by kernel_rfl)))) _
 | @clash cs c o hc ho hq=>
  intro r d σ hl hx hd
  obtain ⟨e,rfl,he⟩:=ten hd
  have he0:0<e:=Nat.lt_of_lt_of_le (by decide) he
  have h1:=Bool.and_eq_true_iff.mp hq
  have h2:=Bool.and_eq_true_iff.mp h1.2
  have h3:=Bool.and_eq_true_iff.mp h2.2
  have es:c.s=o.s:=zdr _ _ h3.2
  have eb:o.b=false:=by cases q:o.b with
   | true=>rw [q] at h3;exact nomatch h3.1
   | false=>rfl
  refine ⟨[.dict szD],at_ (zag (zcw _ _ _ _)) (zfZ (l:=[o.pv]) he0 hc (dep4 hx) (by kernel_rfl) (show 1≤5 by decide) ?_)⟩
  rw [zon h1.1]
  have q1:(index (.tup [.str "clash",c.pv,o.pv]) (.int 0)).bind (fun v13=>(zac .Eq v13 (.str "clash")))=M.ret (.bool true):=tr (bd (ix_0 _ _)) (by kernel_rfl)
  have q2:((seqM [(M.ret (cps cs)),(index (.tup [.str "clash",c.pv,o.pv]) (.int 2))]).bind fun v14=>(zaf GG e ⟨r,true⟩ AA.l_is_open v14))=M.ret (.bool true):=tr (bd (sq2 rfl (ix_2 _ _ _ _))) (zlA he0 (dep4 hx) ho)
  have q3:((index (.tup [.str "clash",c.pv,o.pv]) (.int 2)).bind fun v15=>(index v15 (.int 2)))=M.ret o.s.pv:=tr (bd (ix_2 _ _ _ _)) (ix_2 _ _ _ _)
  have q4:((index (.tup [.str "clash",c.pv,o.pv]) (.int 1)).bind fun v17=>(index v17 (.int 2)))=M.ret c.s.pv:=tr (bd (ix_1 _ _ _)) (ix_2 _ _ _ _)
  have q5:zac .NotEq o.s.pv c.s.pv=M.ret (.bool false):=by rw [es];exact zpJ o.s (dep4 hx o ho)
  have q6:((index (.tup [.str "clash",c.pv,o.pv]) (.int 1)).bind fun v19=>(index v19 (.int 1)))=M.ret (.bool true):=tr (bd (ix_1 _ _ _)) (tr (ix_1 _ _ _) (b_eq h2.1))
  have q7:((index (.tup [.str "clash",c.pv,o.pv]) (.int 2)).bind fun v20=>(index v20 (.int 1)))=M.ret (.bool false):=tr (bd (ix_2 _ _ _ _)) (tr (ix_1 _ _ _) (b_eq eb))
  exact at_ (tr (if_t q1) (tr (if_f (tr (or_f (zbw q2)) (tr (or_f (zpI "name" "name")) (tr (bd q3) (tr (bd q4) q5))))) (tr (zim q6) (zbw q7)))) rfl
 | @apart cs c t hc hk ht ih=>
  intro r d σ hl hx hd
  obtain ⟨e,rfl,he⟩:=ten hd
  have he0:0<e:=Nat.lt_of_lt_of_le (by decide) he
  have N:=zf7 (l:=c.come) hc (.inl hk) hl (zbK c) (Nat.le_refl _) (fun _ h=>h) hx
  obtain ⟨τ,e1⟩:=ih r e (σ++[.dict szD]) N.all N.dep (N.down hd)
  refine ⟨[.dict szD]++τ,at_ (zag (zcw _ _ _ _)) (zfZ (l:=[t]) he0 hc (dep4 hx) (by kernel_rfl) (show 1≤5 by decide) ?_)⟩
  rw [hk]
  refine at_ (tr (if_f (by kernel_rfl)) (tr (if_f (by kernel_rfl)) (tr (if_f (by kernel_rfl)) (tr (bd (tr (bd (sq2 rfl (ix_1 _ _ _))) (l_without he0 (dep4 hx) (few hl) hc))) (if_t (by kernel_rfl)))))) (at_ (bd (sq2 (zb2 _ _ N.add) (ix_2 _ _ _ _))) ?_)
  rw [← List.append_assoc];exact e1
 | @fork cs c t u hc hk ht hu ih1 ih2=>
  intro r d σ hl hx hd
  obtain ⟨e,rfl,he⟩:=ten hd
  have he0:0<e:=Nat.lt_of_lt_of_le (by decide) he
  have N1:=zf7 hc (.inr hk) hl zdw.1 (zbp c.come 1).1 (fun _ h=>List.mem_of_mem_take h) hx
  have N2:=zf7 hc (.inr hk) hl zdw.2 (zbp c.come 1).2 (fun _ h=>List.mem_of_mem_drop h) hx
  obtain ⟨τ,e1⟩:=ih1 r e (σ++[.dict szD]) N1.all N1.dep (N1.down hd)
  obtain ⟨τ2,e2⟩:=ih2 r e (σ++[.dict szD]++τ) N2.all N2.dep (N2.down hd)
  refine ⟨[.dict szD]++τ++τ2,at_ (zag (zcw _ _ _ _)) (zfZ (l:=[t,u]) he0 hc (dep4 hx) (by kernel_rfl) (show 2≤5 by decide) ?_)⟩
  rw [hk]
  refine at_ (tr (if_f (by kernel_rfl)) (tr (if_f (by kernel_rfl)) (tr (if_f (by kernel_rfl)) (tr (bd (tr (bd (sq2 rfl (ix_1 _ _ _))) (l_without he0 (dep4 hx) (few hl) hc))) (if_f (by kernel_rfl)))))) (zi3 (at_ (bd (sq2 (tr (bd (zo2 c)) (zb2 _ _ N1.add)) (ix_2 _ _ _ _))) e1) (at_ (bd (sq2 (tr (bd (zo1 c)) (zb2 _ _ N2.add)) (show index (.tup [.str "fork",c.pv,t,u]) (.int 3)=M.ret u from zfz (k:=3) rfl (by decide)))) ?_))
  rw [← List.append_assoc,← List.append_assoc];exact e2
noncomputable def szs(rs:List Say):Nat:=(rs.map Say.sz).sum
structure Row (rs:List Say):Prop where
 ok:∀ s∈rs,s.Ok
 dep:∀ s∈rs,s.dep≤100
 lo:1≤rs.length
 hi:rs.length≤6
 sz:szs rs≤60
noncomputable def rpv(rs:List Say):PV:=.lst (rs.map Say.pv)
theorem zgS:∀{rs:List Say}{s:Say},s∈rs→s.sz≤szs rs
 | r::rs,s,h=>by
  show s.sz≤r.sz+szs rs
  rcases List.mem_cons.mp h with rfl | h
  ·exact Nat.le_add_right _ _
  ·exact Nat.le_trans (zgS h) (Nat.le_add_left _ _)
theorem zki:∀ rs:List Say,(rs.map fun s=>(s.sz:Int)).sum=(szs rs:Int)
 | []=>rfl
 | r::rs=>by
  show (r.sz:Int)+(rs.map fun s=>(s.sz:Int)).sum=((r.sz+szs rs:Nat):Int)
  rw [zki rs];rfl
theorem zgT:∀(rs:List Say)(a:Nat),a+szs rs≤100000→zd4 (a:Int) (rs.map fun s=>(s.sz:Int))=true
 | [],a,h=>rfl
 | r::rs,a,h=>by
  have h:a+(r.sz+szs rs)≤100000:=h
  have e:(a:Int)+(r.sz:Int)=((a+r.sz:Nat):Int):=rfl
  show (zba (r.sz:Int)&&zba ((a:Int)+(r.sz:Int))&&zd4 ((a:Int)+(r.sz:Int)) (rs.map fun s=>(s.sz:Int)))=true
  rw [e,zgT rs (a+r.sz) (by omega),za3 (i:=(r.sz:Int)) (by omega) (by omega),za3 (i:=((a+r.sz:Nat):Int)) (by omega) (by omega)];rfl
theorem znf{n:Nat}(h1:1≤n)(h2:n≤6):((zac .LtE (.int 1) (.int (n:Int))).bind fun v3=>(zan v3).bind fun v4=>M.cond v4 (zac .LtE (.int (n:Int)) (.int 6)) (M.ret v3))=M.ret (.bool true):=by
 refine tr (bd (tr (c_le _ _) (b_eq (decide_eq_true (show (1:Int)≤(n:Int) by omega))))) (tr (bd (tr_b _)) (tr (c_le _ _) (b_eq (decide_eq_true (show (n:Int)≤6 by omega)))))
theorem zoe{s:Say}{d:Nat}(ok:s.Ok)(hs:s.dep≤100){md:Md}(hl:md.lp=true)(hd:120<d):zaf GG d md AA.is_saying [s.pv]=M.ret (.bool true):=by
 obtain ⟨e,rfl⟩:∃ e,d=e+1:=⟨d-1,by omega⟩
 exact zag (tr (zeH _ _ _) (tr (zaC md hl s 100 e ok (by omega)) (b_eq (decide_eq_true hs))))
theorem need_row{rs:List Say}{d:Nat}{r:Bool}(hd:200<d)(R:Row rs):zaf GG d ⟨r,true⟩ AA.need_row [rpv rs]=M.ret .none:=by
 obtain ⟨e,rfl⟩:∃ e,d=e+1:=⟨d-1,by omega⟩
 have r1:=R.lo;have r2:=R.hi;have rz:=R.sz
 have hlm:(rs.map Say.pv).length=rs.length:=List.length_map _
 have ha:((seqM [(za2 ⟨r,true⟩ false (zaz (rpv rs)) fun v5=>(zaf GG e (⟨r,true⟩:Md).inn AA.is_saying [v5]).bind fun v6=>M.ret (some v6))]).bind fun v7=>(biM ⟨r,true⟩ false "all" v7))=M.ret (.bool true):=by
  have hc:=zcs (f:=fun v5=>(zaf GG e (⟨r,true⟩:Md).inn AA.is_saying [v5]).bind fun v6=>M.ret (some v6)) (g:=fun _=>.bool true) (ps:=rs) fun p hp=>bd (zoe (R.ok p hp) (R.dep p hp) rfl (by omega))
  refine tr (bd (sq1 (zbi rfl (show zaz (rpv rs)=M.ret ⟨rs.map Say.pv,[]⟩ from rfl) (by omega) hc))) (tr (zin (zb4 (fun _=>true) rs) rfl) (b_eq (by rw [List.all_map];exact List.all_eq_true.mpr fun _ _=>rfl)))
 have hs:((seqM [(za2 ⟨r,true⟩ false (zaz (rpv rs)) fun v8=>(zaf GG e (⟨r,true⟩:Md).inn AA.size_in [v8]).bind fun v9=>M.ret (some v9))]).bind fun v10=>(biM ⟨r,true⟩ false "sum" v10))=M.ret (.int (szs rs:Int)):=by
  have hc:=zcs (f:=fun v8=>(zaf GG e (⟨r,true⟩:Md).inn AA.size_in [v8]).bind fun v9=>M.ret (some v9)) (g:=fun s=>.int (s.sz:Int)) (ps:=rs) fun p hp=>bd (size_in p _ e rfl (by have:=R.dep p hp;omega) (Nat.le_trans (zgS hp) (by omega)))
  have hm:(rs.map fun p=>PV.int (p.sz:Int))=(rs.map fun p=>(p.sz:Int)).map PV.int:=by rw [List.map_map];rfl
  rw [hm] at hc
  exact tr (bd (sq1 (zbi rfl (show zaz (rpv rs)=M.ret ⟨rs.map Say.pv,[]⟩ from rfl) (by omega) hc))) (tr (zhF (zcz _) (zgT rs 0 (by omega)) rfl) (i_eq (zki rs)))
 refine zag (tr (zjH _ _ _) (tr (if_f (tr (or_f rfl) (zbw (b:=true) (tr (bd (zcT (by omega))) ?_)))) (tr (if_f (zbw ha)) (if_f (tr (bd hs) (show _=M.ret (PV.bool false) from b_eq (decide_eq_false (show ¬ ((60:Int)<(szs rs:Int)) by omega))))))))
 rw [hlm];exact znf r1 r2
noncomputable def bg:Nat→List Say→List Cl
 | _,[]=>[]
 | i,s::r=>⟨i,true,s⟩::bg (i+1) r
theorem zi0:∀(rs:List Say)(a:Nat),(bg a rs).length=rs.length
 | [],_=>rfl
 | _::r,a=>congrArg Nat.succ (zi0 r (a+1))
theorem zgF:∀(rs:List Say)(a:Nat),tsz (bg a rs)=szs rs
 | [],_=>rfl
 | s::r,a=>congrArg (s.sz+·) (zgF r (a+1))
theorem zhy:∀{rs:List Say}{a:Nat}{x:Cl},x∈bg a rs→x.s∈rs
 | s::r,a,x,h=>by
  rcases List.mem_cons.mp h with rfl | h
  ·exact .head _
  ·exact .tail _ (zhy h)
theorem zny:∀{rs:List Say}{a:Nat}{s:Say},s∈rs→∃ i,(⟨i,true,s⟩:Cl)∈bg a rs
 | s'::r,a,s,h=>by
  rcases List.mem_cons.mp h with rfl | h
  ·exact ⟨a,.head _⟩
  ·exact (zny (a:=a+1) h).imp fun i hi=>.tail _ hi
theorem zfG:∀(xs:List PV)(a:Nat),(zcE a xs).length=xs.length
 | [],_=>rfl
 | _::r,a=>congrArg Nat.succ (zfG r (a+1))
theorem begun{rs:List Say}{d:Nat}{r:Bool}(hd:210<d)(R:Row rs):zaf GG d ⟨r,true⟩ AA.begun [rpv rs]=M.ret (cps (bg 0 rs)):=by
 obtain ⟨e,rfl⟩:∃ e,d=e+1:=⟨d-1,by omega⟩
 have hc:∀(l:List Say)(a:Nat),zaX (M.ret ()) (fun x=>M.noErr ((fun v2=>tup2 v2 fun v3 v4=>M.ret (some (PV.tup [v3,(.bool true),v4]))) x)) (zcE a (l.map Say.pv))=M.ret ((bg a l).map Cl.pv):=by
  intro l
  induction l with
  | nil=>exact fun a=>rfl
  | cons s l ih=>exact fun a=>zbD (f:=fun v2=>tup2 v2 fun v3 v4=>M.ret (some (PV.tup [v3,(.bool true),v4]))) (y:=(Cl.mk a true s).pv) rfl (ih (a+1))
 have r2:=R.hi
 exact zag (tr (zpc _ _ _) (tr (bd (need_row (by omega) R)) (zbi rfl (show zdX [rpv rs]=M.ret ⟨zcE 0 (rs.map Say.pv),[]⟩ from rfl) (by rw [zfG,List.length_map];omega) (hc rs 0))))
theorem l_begun{rs:List Say}{d:Nat}{md:Md}(hm:md.lp=true)(hd:0<d)(hn:rs.length≤6):zaf GG d md AA.l_begun [rpv rs]=M.ret (cps (bg 0 rs)):=by
 obtain ⟨e,rfl⟩:∃ e,d=e+1:=⟨d-1,by omega⟩
 have hlm:(rs.map Say.pv).length=rs.length:=List.length_map _
 have hc:∀(l:List Say)(a:Nat),(∀ i s,l[i]?=some s→rs[a+i]?=some s)→a+l.length≤6→zaX (M.ret ()) (fun x=>M.noErr ((fun v2=>((seqM [(M.ret v2),(M.ret (.bool true)),(index (rpv rs) v2)]).bind fun v3=>(M.ret (PV.tup v3))).bind fun v4=>M.ret (some v4)) x)) (zbb (a:Int) l.length)=M.ret ((bg a l).map Cl.pv):=by
  intro l
  induction l with
  | nil=>exact fun a _ _=>rfl
  | cons s l ih=>
   intro a h hl
   have hl:a+(l.length+1)≤6:=hl
   have h0:rs[a]?=some s:=h 0 s rfl
   have ix:index (rpv rs) (.int (a:Int))=M.ret s.pv:=zeG (by rw [List.getElem?_map,h0];rfl) (by omega)
   have ih':=ih (a+1) (fun i t ht=>by have:=h (i+1) t ht;rwa [Nat.add_right_comm]) (by omega)
   exact zbD (f:=fun v2=>((seqM [(M.ret v2),(M.ret (.bool true)),(index (rpv rs) v2)]).bind fun v3=>(M.ret (PV.tup v3))).bind fun v4=>M.ret (some v4)) (y:=(Cl.mk a true s).pv) (bd (bd (sq3 rfl rfl ix))) ih'
 refine zag (tr (zls _ _ _) (zbi hm (tr (bd (sq1 (zcT (by omega)))) (by rw [hlm];exact ziC rs.length (by omega))) (by rw [zkb];omega) (hc rs 0 (fun i s h=>by rwa [Nat.zero_add]) (by omega))))
theorem zbk{f g:Str→Bool}:∀ s:Say,(∀ x∈s.nms,f x=g x)→s.tv f=s.tv g
 | .yes,_=>rfl
 | .no,_=>rfl
 | .name n,h=>h n (.head _)
 | .not a,h=>congrArg Bool.not (zbk a h)
 | .and a b,h=>by show (a.tv f&&b.tv f)=_;rw [zbk a fun x hx=>h x (List.mem_append_left _ hx),zbk b fun x hx=>h x (List.mem_append_right _ hx)];rfl
 | .or a b,h=>by show (a.tv f || b.tv f)=_;rw [zbk a fun x hx=>h x (List.mem_append_left _ hx),zbk b fun x hx=>h x (List.mem_append_right _ hx)];rfl
theorem zeq{K A:List Str}(hK:K.Nodup)(hA:A.Nodup):(uni K A).Nodup:=by
 unfold uni
 refine List.nodup_append.mpr ⟨hK,hA.filter _,fun a ha b hb e=>?_⟩
 have:=(List.mem_filter.mp hb).2
 rw [ze2,decide_eq_true (by rw [← e];exact ha)] at this
 cases this
theorem zbs:∀ s:Say,s.met.Nodup
 | .yes=>List.nodup_nil
 | .no=>List.nodup_nil
 | .name _=>List.nodup_cons.mpr ⟨List.not_mem_nil,List.nodup_nil⟩
 | .not a=>zbs a
 | .and a b=>zeq (zbs a) (zbs b)
 | .or a b=>zeq (zbs a) (zbs b)
theorem zfV{x:Str}{K A:List Str}(h:x∈K∨x∈A):x∈uni K A:=by
 by_cases q:x∈K
 ·exact List.mem_append_left _ q
 ·exact List.mem_append_right _ (List.mem_filter.mpr ⟨h.resolve_left q,by rw [ze2,decide_eq_false q];rfl⟩)
theorem zbX:∀(s:Say)(x:Str),x∈s.nms→x∈s.met
 | .yes,_,h=>h
 | .no,_,h=>h
 | .name _,_,h=>h
 | .not a,x,h=>zbX a x h
 | .and a b,x,h=>zfV ((List.mem_append.mp h).imp (zbX a x) (zbX b x))
 | .or a b,x,h=>zfV ((List.mem_append.mp h).imp (zbX a x) (zbX b x))
noncomputable def rmet(K:List Str)(rs:List Say):List Str:=rs.foldl (fun K p=>uni K p.met) K
theorem zdy:∀(rs:List Say)(K:List Str),K.Nodup→(rmet K rs).Nodup
 | [],_,h=>h
 | s::rs,K,h=>zdy rs (uni K s.met) (zeq h (zbs s))
theorem zf4:∀(rs:List Say)(K:List Str)(x:Str),(x∈K∨∃ s∈rs,x∈s.nms)→x∈rmet K rs
 | [],_,x,h=>h.elim id fun ⟨s,hs,_⟩=>nomatch hs
 | s::rs,K,x,h=>by
  refine zf4 rs (uni K s.met) x ?_
  rcases h with h | ⟨t,ht,hx⟩
  ·exact .inl (zfV (.inl h))
  ·rcases List.mem_cons.mp ht with rfl | ht
   ·exact .inl (zfV (.inr (zbX _ _ hx)))
   ·exact .inr ⟨t,ht,hx⟩
theorem zea:∀(rs:List Say)(K:List Str),(rmet K rs).length≤K.length+szs rs
 | [],_=>Nat.le_add_right _ _
 | s::rs,K=>by
  have h1:=zea rs (uni K s.met)
  have h2:=zdu K s.met
  have h3:=zcJ s
  have h4:=zdb s
  show (rmet (uni K s.met) rs).length≤K.length+(s.sz+szs rs)
  omega
theorem zk8{d:Nat}{r:Bool}{v1:PV}{j:Nat}:∀(ps:List Say)(K:List Str)(σ:zaa)(o:Option PV),σ[j]?=some (.dict (dK K))→K.length+szs ps<1000→(∀ p∈ps,p.dep+1<d)→
  zbg AA GG (zaf GG d) ⟨r,true⟩ (M.ret ()) (ps.map Say.pv) v1 (.ref j) o σ=biM ⟨r,true⟩ false "sorted" [.ref j] (σ.set j (.dict (dK (rmet K ps))))
 | [],K,σ,o,h,_,_=>by
  show biM ⟨r,true⟩ false "sorted" [.ref j] σ=biM ⟨r,true⟩ false "sorted" [.ref j] (σ.set j (.dict (dK K)))
  rw [zf2 h]
 | p::ps,K,σ,o,h,hl,hd=>by
  have hl:K.length+(p.sz+szs ps)<1000:=hl
  have h4:=zdb p
  have h1:=zp2 p ⟨r,true⟩ d j K σ rfl (hd p (.head _)) h (by omega)
  have hlt:=(List.getElem?_eq_some_iff.mp h).1
  have h2:=zk8 (d:=d) (r:=r) (v1:=v1) ps (uni K p.met) (σ.set j (.dict (dK (uni K p.met)))) (some p.pv) (by rw [List.getElem?_set_self hlt]) (by have:=zdu K p.met;have:=zcJ p;omega) fun q hq=>hd q (.tail _ hq)
  refine (zab h1).trans (h2.trans ?_)
  rw [List.set_set];rfl
theorem zoB(K:List Str):((dK K).map fun kv=>PV.str kv.1)=K.map .str:=by unfold dK;rw [List.map_map];rfl
theorem zko{σ:zaa}{j:Nat}{kvs:List (Str×PV)}{K:List Str}{r:Bool}(h:σ[j]?=some (.dict kvs))(hk:(kvs.map fun kv=>PV.str kv.1)=K.map .str)(hl:K.length<64):biM ⟨r,true⟩ false "sorted" [.ref j] σ=.ok (.lst ((zak K).map .str)) σ:=by
 rw [zmd]
 have h1:zc6 (.ref j) σ=.ok (K.map .str) σ:=(zab (show cget j σ=.ok (.dict kvs) σ by unfold cget;rw [h])).trans (by
  show Rs.ok (kvs.map fun kv=>PV.str kv.1) _=_
  rw [hk])
 exact (zab h1).trans ((congrFun (bd (congrArg M.lift (zfN K))) _).trans ((congrFun (c_t (decide_eq_true hl)) _).trans rfl))
theorem names_in{rs:List Say}{d:Nat}{r:Bool}(hd:110<d)(R:Row rs)(σ:zaa):zaf GG d ⟨r,true⟩ AA.names_in [rpv rs] σ=.ok (.lst ((zak (rmet [] rs)).map .str)) (σ++[.dict (dK (rmet [] rs))]):=by
 obtain ⟨e,rfl⟩:∃ e,d=e+1:=⟨d-1,by omega⟩
 have hz:=R.sz
 have hl:=zea rs []
 have hl:(rmet [] rs).length≤0+szs rs:=hl
 have lp:=zk8 (d:=e) (r:=r) (v1:=rpv rs) (j:=σ.length) rs [] (σ++[.dict []]) Option.none zaV (show 0+szs rs<1000 by omega) fun p hp=>by have:=R.dep p hp;omega
 rw [zc5] at lp
 refine at_ (zag (zjJ _ _ _)) ?_
 unfold zfr zdB
 exact tr (zab (a:=PV.ref σ.length) (σ':=σ++[Cel.dict []]) rfl) (at_ (c_t rfl) (tr lp (zko zaV (zoB _) (by omega))))
noncomputable def fill(kd:List (Str×PV)):List (Str×PV)→List Str→List (Str×PV)
 | kvs,[]=>kvs
 | kvs,x::L=>fill kd (dput x ((dat kd x).getD (.bool false)) kvs) L
theorem zkO{C:zad}{r:Bool}{v1 v2:PV}{jd jf:Nat}{kd:List (Str×PV)}(hj:jf≠jd):∀(L:List Str)(kvs:List (Str×PV))(σ:zaa)(v5:Option PV),σ[jd]?=some (.dict kd)→σ[jf]?=some (.dict kvs)→kvs.length+L.length<900→
  zcd AA GG C ⟨r,true⟩ (M.ret ()) (L.map .str) v1 v2 (.ref jd) (.ref jf) v5 σ=.ok (.tup [.str "setting",.ref jf]) (σ.set jf (.dict (fill kd kvs L)))
 | [],kvs,σ,v5,h1,h2,hl=>by
  show Rs.ok _ σ=Rs.ok _ (σ.set jf (.dict kvs))
  rw [zf2 h2]
 | x::L,kvs,σ,v5,h1,h2,hl=>by
  have hl:kvs.length+(L.length+1)<900:=hl
  have hlt:=(List.getElem?_eq_some_iff.mp h2).1
  have hdl:=ziU kvs x ((dat kd x).getD (.bool false))
  have ih:=zkO (C:=C) (r:=r) (v1:=v1) (v2:=v2) (kd:=kd) hj L (dput x ((dat kd x).getD (.bool false)) kvs) (σ.set jf (.dict (dput x ((dat kd x).getD (.bool false)) kvs))) (some (.str x)) (by rw [List.getElem?_set_ne hj];exact h1) (by rw [List.getElem?_set_self hlt]) (by omega)
  refine tr (show _=zhR AA GG C ⟨r,true⟩ (zcd AA GG C ⟨r,true⟩ (M.ret ()) (L.map .str)) v1 v2 (.ref jd) (.ref jf) v5 (.str x) σ from rfl) (tr (zab (zlJ h1)) (tr (zab (zf3 h2 (by omega))) (ih.trans ?_)))
  rw [List.set_set];rfl
theorem znc{kvs:List (Str×PV)}{x:Str}{v:PV}(h:x∉kvs.map (·.1)):dput x v kvs=kvs++[(x,v)]:=by
 unfold dput
 rw [if_neg]
 intro q
 obtain ⟨p,hp,e⟩:=List.any_eq_true.mp q
 exact h (List.mem_map.mpr ⟨p,hp,of_decide_eq_true e⟩)
theorem zhj(kd:List (Str×PV)):∀(L:List Str)(kvs:List (Str×PV)),L.Nodup→(∀ x∈L,x∉kvs.map (·.1))→(fill kd kvs L).map (·.1)=kvs.map (·.1)++L
 | [],kvs,_,_=>(List.append_nil _).symm
 | x::L,kvs,hn,hx=>by
  have hn:=List.nodup_cons.mp hn
  have e:(dput x ((dat kd x).getD (.bool false)) kvs).map (·.1)=kvs.map (·.1)++[x]:=by rw [znc (hx x (.head _)),List.map_append];rfl
  have ih:=zhj kd L (dput x ((dat kd x).getD (.bool false)) kvs) hn.2 fun y hy h=>by
   rw [e] at h
   exact (List.mem_append.mp h).elim (hx y (.tail _ hy)) fun z=>hn.1 (by rw [← List.mem_singleton.mp z];exact hy)
  refine ih.trans ?_
  rw [e,List.append_assoc];rfl
theorem zlM(kd:List (Str×PV)):∀(L:List Str)(kvs:List (Str×PV))(x:Str),(x∈L∨dat kvs x=some ((dat kd x).getD (.bool false)))→dat (fill kd kvs L) x=some ((dat kd x).getD (.bool false))
 | [],kvs,x,h=>h.elim (fun h=>nomatch h) id
 | y::L,kvs,x,h=>by
  refine zlM kd L _ x ?_
  by_cases q:x=y
  ·exact .inr (by rw [zby,if_pos q,q])
  ·rcases h with h | h
   ·exact .inl ((List.mem_cons.mp h).resolve_left q)
   ·exact .inr (by rw [zby,if_neg q];exact h)
structure Tld (rs:List Say) (σ:zaa) (j:Nat) (kvs:List (Str×PV)):Prop where
 cell:σ[j]?=some (.dict kvs)
 keys:kvs.map (·.1)=zak (rmet [] rs)
 bl:∀ x∈rmet [] rs,Bl kvs x
 tv:∀ s∈rs,s.tv (fOf kvs)=true
noncomputable def Told(rs:List Say)(σ:zaa)(w:PV):Prop:=(∃ t,w=.tup [.str "tree",t]∧Std (bg 0 rs) t)∨∃ j kvs,w=.tup [.str "setting",.ref j]∧Tld rs σ j kvs
noncomputable def shN(C:zad)(v1 v4 v5:PV):M PV:=((cnew (.dict [])).bind fun v6=>
   (M.cond ((⟨true,true⟩:Md).lp&&true) (((C ⟨true,true⟩ AA.names_in [v1]).bind zaz).bind fun v7=>zcd AA GG C ⟨true,true⟩ (chkW v7.watch) v7.xs v1 v4 v5 v6 Option.none) M.fail))
theorem shut{rs:List Say}{d:Nat}(hd:250<d)(R:Row rs)(σ:zaa):∃ w τ,zaf GG d ⟨true,true⟩ AA.shut [rpv rs] σ=.ok w (σ++τ)∧Told rs (σ++τ) w:=by
 obtain ⟨e,rfl⟩:∃ e,d=e+1:=⟨d-1,by omega⟩
 have hz:=R.sz;have h6:=R.hi
 have hb:zaf GG e ⟨true,true⟩ AA.begun [rpv rs]=M.ret (cps (bg 0 rs)):=begun (by omega) R
 obtain ⟨w,τ,ew,hw⟩:=worked (szs rs) (bg 0 rs) e σ (by rw [zgF];exact Nat.le_refl _) (by rw [zi0,zgF];omega) (fun c hc=>R.dep _ (zhy hc)) (by rw [zgF];omega)
 have st:zaf GG (e+1) ⟨true,true⟩ AA.shut [rpv rs] σ=(tup2 w fun v4 v5=>(ifM (zac .IsNot v4 PV.none)
   (M.ret (.tup [(.str "tree"),v4]))
   (shN (zaf GG e) (rpv rs) v4 v5))) (σ++τ):=by
  refine at_ (zag (zpw _ _ _)) ?_
  unfold znp zkN
  exact at_ (c_t rfl) (zab (at_ (bd (sq1 hb)) ew))
 rcases hw with ⟨t,rfl,ht⟩ | ⟨j,kd,rfl,S⟩
 ·exact ⟨_,τ,st.trans (congrFun (if_t (zk4 ht.tup).2) _),.inl ⟨t,rfl,ht⟩⟩
 ·have hl:=zea rs []
  have hl:(rmet [] rs).length≤0+szs rs:=hl
  have hp:=zaF (rmet [] rs)
  have hln:(zak (rmet [] rs)).length=(rmet [] rs).length:=hp.length_eq
  have hjl:=(List.getElem?_eq_some_iff.mp S.cell).1
  have hni:=names_in (d:=e) (r:=true) (by omega) R (σ++τ++[.dict []])
  have lp:=zkO (C:=zaf GG e) (r:=true) (v1:=rpv rs) (v2:=.none) (jd:=j) (jf:=(σ++τ).length) (kd:=kd) (by omega) (zak (rmet [] rs)) [] (σ++τ++[.dict []]++[.dict (dK (rmet [] rs))]) Option.none (zdE (zdE S.cell)) (zdE zaV) (show 0+_<900 by omega)
  have hset:(σ++τ++[Cel.dict []]++[Cel.dict (dK (rmet [] rs))]).set (σ++τ).length (.dict (fill kd [] (zak (rmet [] rs))))=σ++(τ++[Cel.dict (fill kd [] (zak (rmet [] rs)))]++[Cel.dict (dK (rmet [] rs))]):=by
   rw [List.set_append_left _ _ (by rw [List.length_append (bs:=[Cel.dict []])];exact Nat.lt_succ_self _),zc5,← List.append_assoc,← List.append_assoc]
  rw [hset] at lp
  have kat:∀ x∈rmet [] rs,dat (fill kd [] (zak (rmet [] rs))) x=some ((dat kd x).getD (.bool false)):=fun x hx=>zlM kd _ [] x (.inl (hp.mem_iff.mpr hx))
  have fe:∀ x∈rmet [] rs,dat (fill kd [] (zak (rmet [] rs))) x=some (.bool (fOf kd x)):=fun x hx=>by
   rw [kat x hx]
   unfold fOf
   cases q:dat kd x with
   | none=>rfl
   | some v=>obtain ⟨b,rfl⟩:=S.bools x v q;rfl
  refine ⟨.tup [.str "setting",.ref (σ++τ).length],τ++[Cel.dict (fill kd [] (zak (rmet [] rs)))]++[Cel.dict (dK (rmet [] rs))],st.trans (at_ (show _=shN (zaf GG e) (rpv rs) .none (.ref j) from if_f (a:=M.ret (.tup [(.str "tree"),PV.none])) rfl) (tr (zab (a:=PV.ref (σ++τ).length) (σ':=σ++τ++[Cel.dict []]) rfl) (at_ (c_t rfl) (tr (zab (tr (zab hni) rfl)) lp)))),.inr ⟨(σ++τ).length,fill kd [] (zak (rmet [] rs)),rfl,?_,?_,?_,?_⟩⟩
  ·rw [← List.append_assoc,← List.append_assoc];exact zdE zaV
  ·exact (zhj kd _ [] (hp.symm.nodup (zdy rs [] List.nodup_nil)) fun x _ h=>nomatch h)
  ·exact fun x hx=>⟨_,fe x hx⟩
  ·intro s hs
   obtain ⟨i,hi⟩:=zny (a:=0) hs
   refine (zbk s fun x hx=>?_).trans (S.holds _ hi)
   have:=fe x (zf4 rs [] x (.inr ⟨s,hs,hx⟩))
   show fOf (fill kd [] (zak (rmet [] rs))) x=fOf kd x
   unfold fOf at this ⊢
   rw [this]
theorem zf1{cs:List Cl}{c:Cl}{d:Nat}{r:Bool}{w:Str}{l:List PV}{K:PV→PV→PV→M PV}(hd:2<d)(hc:c∈cs)(hx:∀ x∈cs,x.s.dep<400)(hl:cs.length≤400)(hll:l.length≤5) :
 (ifM (orM (notM (isM GG (.bi .tuple) (.tup (.str w::c.pv::l)))) (orM ((biM ⟨r,true⟩ false "len" [.tup (.str w::c.pv::l)]).bind fun v3=>(zac .Lt v3 (.int 2))) (notM ((index (.tup (.str w::c.pv::l)) (.int 0)).bind fun v4=>(isM GG (.bi .str) v4)))))
 (M.ret (.bool false))
 (((seqM [(M.ret (cps cs)),(index (.tup (.str w::c.pv::l)) (.int 1))]).bind fun v5=>(zaf GG d ⟨r,true⟩ AA.without v5)).bind fun v6=>
 (ifM (zac .Is v6 PV.none)
 (M.ret (.bool false))
 (M.cond ((⟨r,true⟩:Md).lp&&true) (((seqM [(index (.tup (.str w::c.pv::l)) (.int 1))]).bind fun v7=>(zaf GG d ⟨r,true⟩ AA.parts v7)).bind fun v8=>(tup2 v8 (K v6))) M.fail))))=K (cps (ers c cs)) (.str c.kd) (cps c.come):=
 tr (if_f (tr (or_f rfl) (tr (or_f (tr (bd (zdC (show l.length+2≤1000000 by omega))) (tr (c_lt _ _) (b_eq (decide_eq_false (show ¬ (((l.length+2:Nat):Int)<2) by omega)))))) (zbw (b:=true) (tr (bd (ix_0 _ _)) rfl))))) (tr (bd (tr (bd (sq2 rfl (ix_1 _ _ _))) (without (md:=⟨r,true⟩) rfl hd hx hl hc))) (tr (if_f rfl) (tr (c_t rfl) (tr (bd (tr (bd (sq1 (ix_1 _ _ _))) (parts (by omega)))) rfl))))
theorem zpu{cs:List Cl}{t:PV}(h:Std cs t):∀(r:Bool)(d:Nat),cs.length+tsz cs≤300→(∀ c∈cs,c.s.dep≤100)→tsz cs+10<d→zaf GG d ⟨r,true⟩ AA.stands_for [cps cs,t]=M.ret (.bool true):=by
 induction h with
 | @shut cs c hc hk=>
  intro r d hl hx hd
  obtain ⟨e,rfl,he⟩:=ten hd
  refine zag (tr (zbF _ _ _ _) (tr (zf1 (l:=[]) (Nat.lt_of_lt_of_le (by decide) he) hc (dep4 hx) (few hl) (by decide)) ?_))
  rw [hk];exact tr (if_t (by kernel_rfl)) (by kernel_rfl)
 | @clash cs c o hc ho hq=>
  intro r d hl hx hd
  obtain ⟨e,rfl,he⟩:=ten hd
  have he2:2<e:=Nat.lt_of_lt_of_le (by decide) he
  refine zag (tr (zbF _ _ _ _) (tr (zf1 (l:=[o.pv]) he2 hc (dep4 hx) (few hl) (show 1≤5 by decide)) ?_))
  have q1:(((seqM [(M.ret (cps cs)),(index (.tup [.str "clash",c.pv,o.pv]) (.int 2))]).bind fun v15=>(zaf GG e ⟨r,true⟩ AA.without v15)).bind fun v16=>(zac .IsNot v16 PV.none))=M.ret (.bool true):=tr (bd (tr (bd (sq2 rfl (ix_2 _ _ _ _))) (without (md:=⟨r,true⟩) rfl he2 (dep4 hx) (few hl) ho))) rfl
  have q2:((seqM [(index (.tup [.str "clash",c.pv,o.pv]) (.int 1)),(index (.tup [.str "clash",c.pv,o.pv]) (.int 2))]).bind fun v17=>(zaf GG e ⟨r,true⟩ AA.clashes v17))=M.ret (.bool true):=tr (bd (sq2 (ix_1 _ _ _) (ix_2 _ _ _ _))) (tr (clashes (Nat.lt_of_lt_of_le (by decide) he) (dep4 hx c hc) (dep4 hx o ho)) (b_eq hq))
  exact tr (if_f (tr (bd (ix_0 _ _)) (by kernel_rfl))) (tr (if_t (tr (bd (ix_0 _ _)) (by kernel_rfl))) (tr (zim (tr (bd (zdC (show 3≤1000000 by decide))) (zm8 rfl))) (tr (zim q1) q2)))
 | @apart cs c t hc hk ht ih=>
  intro r d hl hx hd
  obtain ⟨e,rfl,he⟩:=ten hd
  have N:=zf7 (l:=c.come) hc (.inl hk) hl (zbK c) (Nat.le_refl _) (fun _ h=>h) hx
  have e1:=ih r e N.all N.dep (N.down hd)
  refine zag (tr (zbF _ _ _ _) (tr (zf1 (l:=[t]) (Nat.lt_of_lt_of_le (by decide) he) hc (dep4 hx) (few hl) (show 1≤5 by decide)) ?_))
  rw [hk]
  exact tr (if_f (tr (bd (ix_0 _ _)) (by kernel_rfl))) (tr (if_f (tr (bd (ix_0 _ _)) (by kernel_rfl))) (tr (if_t (tr (bd (ix_0 _ _)) (by kernel_rfl))) (tr (zim (tr (bd (zdC (show 3≤1000000 by decide))) (zm8 rfl))) (tr (zim (by kernel_rfl)) (tr (bd (sq2 (zb2 _ _ N.add) (ix_2 _ _ _ _))) e1)))))
 | @fork cs c t u hc hk ht hu ih1 ih2=>
  intro r d hl hx hd
  obtain ⟨e,rfl,he⟩:=ten hd
  have N1:=zf7 hc (.inr hk) hl zdw.1 (zbp c.come 1).1 (fun _ h=>List.mem_of_mem_take h) hx
  have N2:=zf7 hc (.inr hk) hl zdw.2 (zbp c.come 1).2 (fun _ h=>List.mem_of_mem_drop h) hx
  have e1:=ih1 r e N1.all N1.dep (N1.down hd)
  have e2:=ih2 r e N2.all N2.dep (N2.down hd)
  refine zag (tr (zbF _ _ _ _) (tr (zf1 (l:=[t,u]) (Nat.lt_of_lt_of_le (by decide) he) hc (dep4 hx) (few hl) (show 2≤5 by decide)) ?_))
  rw [hk]
  exact tr (if_f (tr (bd (ix_0 _ _)) (by kernel_rfl))) (tr (if_f (tr (bd (ix_0 _ _)) (by kernel_rfl))) (tr (if_f (tr (bd (ix_0 _ _)) (by kernel_rfl))) (tr (if_f (tr (or_f (tr (bd (ix_0 _ _)) (by kernel_rfl))) (tr (or_f (tr (bd (zdC (show 4≤1000000 by decide))) (by kernel_rfl))) (by kernel_rfl)))) (tr (zim (tr (bd (sq2 (tr (bd (zo2 c)) (zb2 _ _ N1.add)) (ix_2 _ _ _ _))) e1)) (tr (bd (sq2 (tr (bd (zo1 c)) (zb2 _ _ N2.add)) (show index (.tup [.str "fork",c.pv,t,u]) (.int 3)=M.ret u from zfz (k:=3) rfl (by decide)))) e2)))))
theorem zfx{rs:List Say}{t:PV}{d:Nat}{r:Bool}(hd:250<d)(R:Row rs)(h:Std (bg 0 rs) t):zaf GG d ⟨r,true⟩ AA.stands [rpv rs,t]=M.ret (.bool true):=by
 obtain ⟨e,rfl⟩:∃ e,d=e+1:=⟨d-1,by omega⟩
 have hz:=R.sz;have h6:=R.hi
 exact zag (tr (zmq _ _ _ _) (tr (bd (sq2 (begun (by omega) R) rfl)) (zpu h r e (by rw [zi0,zgF];omega) (fun c hc=>R.dep _ (zhy hc)) (by rw [zgF];omega))))
theorem ze1{P:Cl→Prop}{c:Cl}(h:c.kd="apart")(hn:∀ n b a,P ⟨n,b,.not a⟩)(ha:∀ n a d,P ⟨n,true,.and a d⟩)(ho:∀ n a d,P ⟨n,false,.or a d⟩):P c:=by
 obtain ⟨n,b,s⟩:=c
 cases s with
 | not a=>exact hn n b a
 | and a d=>cases b with
  | true=>exact ha n a d
  | false=>exact absurd h (show ("fork":Str)≠"apart" by decide)
 | or a d=>cases b with
  | false=>exact ho n a d
  | true=>exact absurd h (show ("fork":Str)≠"apart" by decide)
 | name x=>exact absurd (.inl h) (zaD "name" (by decide))
 | yes=>cases b with
  | true=>exact absurd (.inl h) (zaD "idle" (by decide))
  | false=>exact absurd (.inl h) (zaD "shut" (by decide))
 | no=>cases b with
  | true=>exact absurd (.inl h) (zaD "shut" (by decide))
  | false=>exact absurd (.inl h) (zaD "idle" (by decide))
theorem zoc{c:Cl}(h:c.kd="shut")(f:Str→Bool):c.s.tv f≠c.b:=by
 obtain ⟨n,b,s⟩:=c
 cases s with
 | yes=>cases b with
  | true=>exact absurd h (show ("idle":Str)≠"shut" by decide)
  | false=>exact fun e=>(nomatch (show true=false from e))
 | no=>cases b with
  | true=>exact fun e=>(nomatch (show false=true from e))
  | false=>exact absurd h (show ("idle":Str)≠"shut" by decide)
 | name x=>exact absurd h (show ("name":Str)≠"shut" by decide)
 | not a=>exact absurd h (show ("apart":Str)≠"shut" by decide)
 | and a d=>cases b with
  | true=>exact absurd h (show ("apart":Str)≠"shut" by decide)
  | false=>exact absurd h (show ("fork":Str)≠"shut" by decide)
 | or a d=>cases b with
  | true=>exact absurd h (show ("fork":Str)≠"shut" by decide)
  | false=>exact absurd h (show ("apart":Str)≠"shut" by decide)
noncomputable def lv:Bool→Say→Nat
 | b,.not a=>lv (!b) a
 | b,.and a c=>bif b then lv b a*lv b c else lv b a+lv b c
 | b,.or a c=>bif b then lv b a+lv b c else lv b a*lv b c
 | _,_=>1
noncomputable def pw:List Cl→Nat
 | []=>1
 | c::r=>lv c.b c.s*pw r
theorem zfu:∀(s:Say)(b:Bool),1≤lv b s
 | .yes,_=>Nat.le_refl 1
 | .no,_=>Nat.le_refl 1
 | .name _,_=>Nat.le_refl 1
 | .not a,b=>zfu a (!b)
 | .and a c,b=>by
  have h1:=zfu a b;have h2:=zfu c b
  cases b
  ·exact Nat.le_trans h1 (Nat.le_add_right _ _)
  ·exact Nat.mul_le_mul h1 h2
 | .or a c,b=>by
  have h1:=zfu a b;have h2:=zfu c b
  cases b
  ·exact Nat.mul_le_mul h1 h2
  ·exact Nat.le_trans h1 (Nat.le_add_right _ _)
theorem zkU:∀ cs:List Cl,1≤pw cs
 | []=>Nat.le_refl 1
 | c::r=>Nat.mul_le_mul (zfu c.s c.b) (zkU r)
theorem zkW:∀ a b:List Cl,pw (a++b)=pw a*pw b
 | [],b=>(Nat.one_mul _).symm
 | c::a,b=>by show lv c.b c.s*pw (a++b)=lv c.b c.s*pw a*pw b;rw [zkW a b,Nat.mul_assoc]
theorem zkV{c:Cl}:∀{cs:List Cl},c∈cs→pw (ers c cs)*lv c.b c.s=pw cs
 | x::cs,h=>by
  show pw (bif c.beq x then cs else x::ers c cs)*lv c.b c.s=lv x.b x.s*pw cs
  cases q:c.beq x with
  | true=>rw [Cl.eq_of q];exact Nat.mul_comm _ _
  | false=>
   have hm:c∈cs:=(List.mem_cons.mp h).resolve_left fun e=>by rw [e,Cl.beq_self] at q;cases q
   show lv x.b x.s*pw (ers c cs)*lv c.b c.s=_
   rw [Nat.mul_assoc,zkV hm]
theorem zmC{c:Cl}(h:c.kd="apart"):pw c.come=lv c.b c.s:=ze1 (P:=fun c=>pw c.come=lv c.b c.s) h (fun _ _ _=>Nat.mul_one _) (fun _ _ _=>congrArg (_*·) (Nat.mul_one _)) (fun _ _ _=>congrArg (_*·) (Nat.mul_one _))
theorem zog{c:Cl}(h:c.kd="fork"):pw (c.come.take 1)+pw (c.come.drop 1)=lv c.b c.s:=by
 refine zdF (P:=fun c=>pw (c.come.take 1)+pw (c.come.drop 1)=lv c.b c.s) h (fun n a d=>?_) (fun n a d=>?_)
 ·show lv false a*1+lv false d*1=lv false a+lv false d;rw [Nat.mul_one,Nat.mul_one]
 ·show lv true a*1+lv true d*1=lv true a+lv true d;rw [Nat.mul_one,Nat.mul_one]
structure Cm (c x:Cl):Prop where
 n:x.n=c.n
 nm:∀ y∈x.s.nms,y∈c.s.nms
 ok:c.s.Ok→x.s.Ok
theorem zdI{c x:Cl}(h:x∈c.come):Cm c x:=by
 obtain ⟨n,b,s⟩:=c
 cases s with
 | not a=>rw [List.mem_singleton.mp h];exact ⟨rfl,fun _ h=>h,id⟩
 | and a d=>
  rcases List.mem_cons.mp h with rfl | h
  ·exact ⟨rfl,fun y hy=>List.mem_append_left _ hy,And.left⟩
  ·rw [List.mem_singleton.mp h];exact ⟨rfl,fun y hy=>List.mem_append_right _ hy,And.right⟩
 | or a d=>
  rcases List.mem_cons.mp h with rfl | h
  ·exact ⟨rfl,fun y hy=>List.mem_append_left _ hy,And.left⟩
  ·rw [List.mem_singleton.mp h];exact ⟨rfl,fun y hy=>List.mem_append_right _ hy,And.right⟩
 | _=>exact nomatch h
theorem zjZ{c:Cl}{f:Str→Bool}(h:c.kd="apart"):c.s.tv f=c.b→Holds f c.come:=by
 refine ze1 (P:=fun c=>c.s.tv f=c.b→Holds f c.come) h (fun n b a=>?_) (fun n a d=>?_) (fun n a d=>?_)
 ·intro (e:(!(a.tv f))=b) x hx
  rw [List.mem_singleton.mp hx]
  show a.tv f=!b
  rw [← e,Bool.not_not]
 ·intro (e:(a.tv f&&d.tv f)=true)
  have e:=Bool.and_eq_true_iff.mp e
  exact zap (P:=fun x:Cl=>x.s.tv f=x.b) (l:=[⟨n,true,a⟩,⟨n,true,d⟩]) ⟨e.1,e.2,trivial⟩
 ·intro (e:(a.tv f || d.tv f)=false)
  have e:=Bool.or_eq_false_iff.mp e
  exact zap (P:=fun x:Cl=>x.s.tv f=x.b) (l:=[⟨n,false,a⟩,⟨n,false,d⟩]) ⟨e.1,e.2,trivial⟩
theorem zhh{c:Cl}{f:Str→Bool}(h:c.kd="fork"):c.s.tv f=c.b→Holds f (c.come.take 1)∨Holds f (c.come.drop 1):=by
 refine zdF (P:=fun c=>c.s.tv f=c.b→Holds f (c.come.take 1)∨Holds f (c.come.drop 1)) h (fun n a d=>?_) (fun n a d=>?_)
 ·intro (e:(a.tv f&&d.tv f)=false)
  exact (Bool.and_eq_false_iff.mp e).imp (fun z=>zap (P:=fun x:Cl=>x.s.tv f=x.b) (l:=[⟨n,false,a⟩]) ⟨z,trivial⟩) fun z=>zap (P:=fun x:Cl=>x.s.tv f=x.b) (l:=[⟨n,false,d⟩]) ⟨z,trivial⟩
 ·intro (e:(a.tv f || d.tv f)=true)
  exact ((Bool.or_eq_true _ _).mp e).imp (fun z=>zap (P:=fun x:Cl=>x.s.tv f=x.b) (l:=[⟨n,true,a⟩]) ⟨z,trivial⟩) fun z=>zap (P:=fun x:Cl=>x.s.tv f=x.b) (l:=[⟨n,true,d⟩]) ⟨z,trivial⟩
structure Itp (k:Nat) (cs:List Cl) (s:Say):Prop where
 ok:s.Ok
 a:∀ f,(∀ c∈cs,c.n<k→c.s.tv f=c.b)→s.tv f=true
 b:∀ f,(∀ c∈cs,¬ c.n<k→c.s.tv f=c.b)→s.tv f=false
 na:∀ x∈s.nms,∃ c∈cs,c.n<k∧x∈c.s.nms
 nb:∀ x∈s.nms,∃ c∈cs,¬ c.n<k∧x∈c.s.nms
 dep:s.dep≤tsz cs+1
 sz:s.sz+1≤3*pw cs
theorem zoC{k:Nat}{cs:List Cl}{c:Cl}(hc:c∈cs) (hno:∀ f,(∀ d∈cs,(d.n<k↔c.n<k)→d.s.tv f=d.b)→False):Itp k cs (bif decide (c.n<k) then .no else .yes):=by
 have hp:=zkU cs
 by_cases q:c.n<k
 ·rw [decide_eq_true q]
  exact ⟨trivial,fun f h=>(hno f fun d hd e=>h d hd (e.mpr q)).elim,fun _ _=>rfl,fun x h=>(nomatch h),fun x h=>(nomatch h),Nat.le_add_left _ _,show 2≤_ by omega⟩
 ·rw [decide_eq_false q]
  exact ⟨trivial,fun _ _=>rfl,fun f h=>(hno f fun d hd e=>h d hd fun z=>q (e.mp z)).elim,fun x h=>(nomatch h),fun x h=>(nomatch h),Nat.le_add_left _ _,show 2≤_ by omega⟩
theorem znB(n k:Nat):zac .Lt (.int (n:Int)) (.int (k:Int))=M.ret (.bool (decide (n<k))):=tr (c_lt _ _) (b_eq (decide_eq_decide.mpr Int.ofNat_lt))
theorem num1{w:PV}{c:Cl}{l:List PV}{k:Nat}:(((index (.tup (w::c.pv::l)) (.int 1)).bind fun v4=>(index v4 (.int 0))).bind fun v5=>(zac .Lt v5 (.int (k:Int))))=M.ret (.bool (decide (c.n<k))):=tr (bd (tr (bd (ix_1 _ _ _)) (ix_0 _ _))) (znB _ _)
theorem num2{w v:PV}{c:Cl}{l:List PV}{k:Nat}:(((index (.tup (w::v::c.pv::l)) (.int 2)).bind fun v4=>(index v4 (.int 0))).bind fun v5=>(zac .Lt v5 (.int (k:Int))))=M.ret (.bool (decide (c.n<k))):=tr (bd (tr (bd (ix_2 _ _ _ _)) (ix_0 _ _))) (znB _ _)
theorem zpH(b:Bool):ifM (M.ret (.bool b)) (M.ret (.tup [(.str "no")])) (M.ret (.tup [(.str "yes")]))=M.ret (bif b then Say.no else .yes).pv:=by cases b <;> rfl
noncomputable def clS(k:Nat)(c o:Cl):Say:=bif decide (c.n<k)==decide (o.n<k) then (bif decide (c.n<k) then .no else .yes) else bif decide (c.n<k) then c.s else .not c.s
theorem of_clash{c o:Cl}{k d:Nat}{md:Md}(hd:0<d):zaf GG d md AA.of_clash [.tup [.str "clash",c.pv,o.pv],.int (k:Int)]=M.ret (clS k c o).pv:=by
 obtain ⟨e,rfl⟩:∃ e,d=e+1:=⟨d-1,by omega⟩
 refine zag (tr (zjD _ _ _ _) (tr (bd num1) (tr (if_b (tr (bd num2) (zoQ _ _))) ?_)))
 have h:((index (.tup [.str "clash",c.pv,o.pv]) (.int 1)).bind fun v9=>(index v9 (.int 2)))=M.ret c.s.pv:=tr (bd (ix_1 _ _ _)) (ix_2 _ _ _ _)
 unfold clS
 cases decide (c.n<k) with
 | true=>cases decide (o.n<k) with
  | true=>rfl
  | false=>exact h
 | false=>cases decide (o.n<k) with
  | true=>exact tr (c_f rfl) (tr (if_f rfl) (bd (a:=[.str "not",c.s.pv]) (sq2 rfl h)))
  | false=>rfl
theorem zlx{k:Nat}{cs:List Cl}{c o:Cl}(hc:c∈cs)(ho:o∈cs)(h:clsh c o=true)(ok:c.s.Ok):Itp k cs (clS k c o):=by
 have h1:=Bool.and_eq_true_iff.mp h
 have h2:=Bool.and_eq_true_iff.mp h1.2
 have h3:=Bool.and_eq_true_iff.mp h2.2
 have es:c.s=o.s:=zdr _ _ h3.2
 have eo:o.b=false:=by cases q:o.b with
  | true=>rw [q] at h3;exact nomatch h3.1
  | false=>rfl
 have hp:=zkU cs
 have hz:=zke hc
 obtain ⟨x,hx⟩:∃ x,c.s=.name x:=by
  cases q:c.s with
  | name x=>exact ⟨x,rfl⟩
  | _=>rw [q] at h1;exact nomatch h1.1
 have hz:1≤tsz cs:=by rw [hx] at hz;exact hz
 have hox:o.s=.name x:=es▸hx
 have hcn:x∈c.s.nms:=by rw [hx];exact .head _
 have hon:x∈o.s.nms:=by rw [hox];exact .head _
 unfold clS
 by_cases q1:c.n<k
 ·by_cases q2:o.n<k
  ·rw [decide_eq_true q2]
   have:=zoC (k:=k) hc fun f hf=>by
    have e1:=hf c hc Iff.rfl
    have e2:=hf o ho ⟨fun _=>q1,fun _=>q2⟩
    rw [← es,e1,h2.1,eo] at e2;cases e2
   rwa [decide_eq_true q1] at this ⊢
  ·rw [decide_eq_true q1,decide_eq_false q2]
   show Itp k cs c.s
   refine ⟨ok,fun f hf=>(hf c hc q1).trans h2.1,fun f hf=>es▸(hf o ho q2).trans eo,?_,?_,by rw [hx];exact Nat.le_succ_of_le hz,by rw [hx];show 2≤_;omega⟩
   ·exact fun y hy=>⟨c,hc,q1,hy⟩
   ·exact fun y hy=>⟨o,ho,q2,es▸hy⟩
 ·by_cases q2:o.n<k
  ·rw [decide_eq_false q1,decide_eq_true q2]
   show Itp k cs (.not c.s)
   refine ⟨ok,fun f hf=>?_,fun f hf=>?_,?_,?_,by rw [hx];show 2≤_;omega,by rw [hx];show 3≤_;omega⟩
   ·show (!(c.s.tv f))=true
    rw [es,hf o ho q2,eo];rfl
   ·show (!(c.s.tv f))=false
    rw [hf c hc q1,h2.1];rfl
   ·exact fun y hy=>⟨o,ho,q2,es▸hy⟩
   ·exact fun y hy=>⟨c,hc,q1,hy⟩
  ·rw [decide_eq_false q2]
   have:=zoC (k:=k) hc fun f hf=>by
    have e1:=hf c hc Iff.rfl
    have e2:=hf o ho ⟨fun z=>(q2 z).elim,fun z=>(q1 z).elim⟩
    rw [← es,e1,h2.1,eo] at e2;cases e2
   rwa [decide_eq_false q1] at this ⊢
theorem zbO{P:Nat→Prop}{cs l:List Cl}{c:Cl}{x:Str}(hc:c∈cs)(hl:∀ y∈l,y∈c.come)(h:∃ d∈ers c cs++l,P d.n∧x∈d.s.nms):∃ d∈cs,P d.n∧x∈d.s.nms:=by
 obtain ⟨d,hd,hn,hx⟩:=h
 rcases List.mem_append.mp hd with hd | hd
 ·exact ⟨d,zb0 hd,hn,hx⟩
 ·have m:=zdI (hl d hd)
  exact ⟨c,hc,m.n▸hn,m.nm x hx⟩
theorem zly{k:Nat}{cs:List Cl}{c:Cl}{s:Say}(hc:c∈cs)(hk:c.kd="apart")(h:Itp k (ers c cs++c.come) s):Itp k cs s:=by
 have key:∀(P:Nat→Prop)(f:Str→Bool),(∀ d∈cs,P d.n→d.s.tv f=d.b)→∀ d∈ers c cs++c.come,P d.n→d.s.tv f=d.b:=fun P f hf d hd hp=>(List.mem_append.mp hd).elim (fun z=>hf d (zb0 z) hp) fun z=>zjZ hk (hf c hc ((zdI z).n▸hp)) d z
 obtain ⟨hs1,_⟩:=zfF hc
 have hcs:=zeS (.inl hk)
 have hd:=h.dep;have hz:=h.sz
 rw [zca] at hd
 rw [zkW,zmC hk,zkV hc] at hz
 exact ⟨h.ok,fun f hf=>h.a f (key (·<k) f hf),fun f hf=>h.b f (key (fun n=>¬ n<k) f hf),fun x hx=>zbO (P:=(·<k)) hc (fun _ h=>h) (h.na x hx),fun x hx=>zbO (P:=fun n=>¬ n<k) hc (fun _ h=>h) (h.nb x hx),by omega,hz⟩
theorem zm4{k:Nat}{cs:List Cl}{c:Cl}{s t:Say}(hc:c∈cs)(hk:c.kd="fork")(h:Itp k (ers c cs++c.come.take 1) s)(h':Itp k (ers c cs++c.come.drop 1) t):Itp k cs (bin (decide (c.n<k)) s t):=by
 have m1:∀ y∈c.come.take 1,y∈c.come:=fun _ h=>List.mem_of_mem_take h
 have m2:∀ y∈c.come.drop 1,y∈c.come:=fun _ h=>List.mem_of_mem_drop h
 have same:∀(P:Nat→Prop)(f:Str→Bool)(l:List Cl),(∀ y∈l,y∈c.come)→¬ P c.n→(∀ d∈cs,P d.n→d.s.tv f=d.b)→∀ d∈ers c cs++l,P d.n→d.s.tv f=d.b:=fun P f l hl hn hf d hd hp=>(List.mem_append.mp hd).elim (fun z=>hf d (zb0 z) hp) fun z=>(hn ((zdI (hl d z)).n▸hp)).elim
 have one:∀(P:Nat→Prop)(f:Str→Bool)(l:List Cl),(∀ d∈cs,P d.n→d.s.tv f=d.b)→Holds f l→∀ d∈ers c cs++l,P d.n→d.s.tv f=d.b:=fun P f l hf hl d hd hp=>(List.mem_append.mp hd).elim (fun z=>hf d (zb0 z) hp) fun z=>hl d z
 obtain ⟨hs1,_⟩:=zfF hc
 have hcs:=zeS (.inr hk)
 have t1:=zbp c.come 1
 have hd:=h.dep;have hz:=h.sz;have hd':=h'.dep;have hz':=h'.sz
 rw [zca] at hd hd'
 rw [zkW] at hz hz'
 have hpw:pw (ers c cs)*pw (c.come.take 1)+pw (ers c cs)*pw (c.come.drop 1)=pw cs:=by rw [← Nat.mul_add,zog hk,zkV hc]
 have hlt:max s.dep t.dep+1≤tsz cs+1:=by
  have:0<c.s.sz:=by cases c.s <;> exact Nat.succ_pos _
  have hl:tsz (c.come.take 1)+1≤c.s.sz∧tsz (c.come.drop 1)+1≤c.s.sz:=by omega
  omega
 have hsz:s.sz+t.sz+1+1≤3*pw cs:=by omega
 have na:∀ x,x∈s.nms++t.nms→∃ c∈cs,c.n<k∧x∈c.s.nms:=fun x hx=>(List.mem_append.mp hx).elim (fun z=>zbO (P:=(·<k)) hc m1 (h.na x z)) fun z=>zbO (P:=(·<k)) hc m2 (h'.na x z)
 have nb:∀ x,x∈s.nms++t.nms→∃ c∈cs,¬ c.n<k∧x∈c.s.nms:=fun x hx=>(List.mem_append.mp hx).elim (fun z=>zbO (P:=fun n=>¬ n<k) hc m1 (h.nb x z)) fun z=>zbO (P:=fun n=>¬ n<k) hc m2 (h'.nb x z)
 by_cases q:c.n<k
 ·rw [decide_eq_true q]
  refine ⟨⟨h.ok,h'.ok⟩,fun f hf=>?_,fun f hf=>?_,na,nb,hlt,hsz⟩
  ·show (s.tv f || t.tv f)=true
   rcases zhh hk (hf c hc q) with z | z
   ·rw [h.a f (one (·<k) f _ hf z)];rfl
   ·rw [h'.a f (one (·<k) f _ hf z),Bool.or_true]
  ·show (s.tv f || t.tv f)=false
   rw [h.b f (same (fun n=>¬ n<k) f _ m1 (fun z=>z q) hf),h'.b f (same (fun n=>¬ n<k) f _ m2 (fun z=>z q) hf)];rfl
 ·rw [decide_eq_false q]
  refine ⟨⟨h.ok,h'.ok⟩,fun f hf=>?_,fun f hf=>?_,na,nb,hlt,hsz⟩
  ·show (s.tv f&&t.tv f)=true
   rw [h.a f (same (·<k) f _ m1 q hf),h'.a f (same (·<k) f _ m2 q hf)];rfl
  ·show (s.tv f&&t.tv f)=false
   rcases zhh hk (hf c hc q) with z | z
   ·rw [h.b f (one (fun n=>¬ n<k) f _ hf z)];rfl
   ·rw [h'.b f (one (fun n=>¬ n<k) f _ hf z),Bool.and_false]
theorem of_tree{cs:List Cl}{t:PV}(k:Nat)(h:Std cs t):(∀ c∈cs,c.s.Ok)→∃ s,Itp k cs s∧∀ md d,tsz cs+3<d→zaf GG d md AA.of_tree [t,.int (k:Int)]=M.ret s.pv:=by
 induction h with
 | @shut cs c hc hk=>
  intro ok
  refine ⟨_,zoC (k:=k) hc fun f hf=>zoc hk f (hf c hc Iff.rfl),fun md d hd=>?_⟩
  obtain ⟨e,rfl⟩:∃ e,d=e+1:=⟨d-1,by omega⟩
  exact zag (tr (zc9 _ _ _ _) (tr (if_f (tr (bd (ix_0 _ _)) (by kernel_rfl))) (tr (bd num1) (tr (if_t (tr (bd (ix_0 _ _)) (by kernel_rfl))) (zpH _)))))
 | @clash cs c o hc ho hq=>
  intro ok
  refine ⟨_,zlx (k:=k) hc ho hq (ok c hc),fun md d hd=>?_⟩
  obtain ⟨e,rfl⟩:∃ e,d=e+1:=⟨d-1,by omega⟩
  exact zag (tr (zc9 _ _ _ _) (tr (if_t (tr (bd (ix_0 _ _)) (by kernel_rfl))) (of_clash (by omega))))
 | @apart cs c t hc hk ht ih=>
  intro ok
  obtain ⟨s,I,e1⟩:=ih fun x hx=>(List.mem_append.mp hx).elim (fun z=>ok x (zb0 z)) fun z=>(zdI z).ok (ok c hc)
  obtain ⟨hs1,_⟩:=zfF hc
  have hcs:=zeS (.inl hk)
  refine ⟨s,zly hc hk I,fun md d hd=>?_⟩
  obtain ⟨e,rfl⟩:∃ e,d=e+1:=⟨d-1,by omega⟩
  exact zag (tr (zc9 _ _ _ _) (tr (if_f (tr (bd (ix_0 _ _)) (by kernel_rfl))) (tr (bd num1) (tr (if_f (tr (bd (ix_0 _ _)) (by kernel_rfl))) (tr (if_t (tr (bd (ix_0 _ _)) (by kernel_rfl))) (tr (bd (sq2 (ix_2 _ _ _ _) rfl)) (e1 md e (by rw [zca];omega))))))))
 | @fork cs c t u hc hk ht hu ih1 ih2=>
  intro ok
  obtain ⟨s1,I1,e1⟩:=ih1 fun x hx=>(List.mem_append.mp hx).elim (fun z=>ok x (zb0 z)) fun z=>(zdI (List.mem_of_mem_take z)).ok (ok c hc)
  obtain ⟨s2,I2,e2⟩:=ih2 fun x hx=>(List.mem_append.mp hx).elim (fun z=>ok x (zb0 z)) fun z=>(zdI (List.mem_of_mem_drop z)).ok (ok c hc)
  obtain ⟨hs1,_⟩:=zfF hc
  have hcs:=zeS (.inr hk)
  have t1:=zbp c.come 1
  refine ⟨_,zm4 hc hk I1 I2,fun md d hd=>?_⟩
  obtain ⟨e,rfl⟩:∃ e,d=e+1:=⟨d-1,by omega⟩
  have w:∀ b:Bool,(ifM (M.ret (.bool b)) (M.ret (PV.str "or")) (M.ret (PV.str "and")))=M.ret (PV.str (bif b then "or" else "and")):=fun b=>by cases b <;> rfl
  have p:∀ b:Bool,PV.tup [.str (bif b then "or" else "and"),s1.pv,s2.pv]=(bin b s1 s2).pv:=fun b=>by cases b <;> rfl
  exact zag (tr (zc9 _ _ _ _) (tr (if_f (tr (bd (ix_0 _ _)) (by kernel_rfl))) (tr (bd num1) (tr (if_f (tr (bd (ix_0 _ _)) (by kernel_rfl))) (tr (if_f (tr (bd (ix_0 _ _)) (by kernel_rfl))) (tr (bd (w _)) (tr (bd (sq3 rfl (tr (bd (sq2 (ix_2 _ _ _ _) rfl)) (e1 md e (by rw [zca];omega))) (tr (bd (sq2 (show index (.tup [.str "fork",c.pv,t,u]) (.int 3)=M.ret u from zfz (k:=3) rfl (by decide)) rfl)) (e2 md e (by rw [zca];omega))))) (congrArg M.ret (p _)))))))))
theorem zcr:∀ s:Say,s.dep≤s.sz
 | .yes=>Nat.le_refl 1
 | .no=>Nat.le_refl 1
 | .name _=>Nat.le_refl 1
 | .not a=>Nat.succ_le_succ (zcr a)
 | .and a b=>by have:=zcr a;have:=zcr b;show max a.dep b.dep+1≤a.sz+b.sz+1;omega
 | .or a b=>by have:=zcr a;have:=zcr b;show max a.dep b.dep+1≤a.sz+b.sz+1;omega
theorem znA(a c:Say)(n m:Nat)(h1:2*n+1≤a.sz)(h3:2*m+1≤c.sz)(x:Nat)(h2:x≤2 ^ n){y:Nat}(h4:y≤2 ^ m)(z:Nat)(hz:z=x*y∨z=x+y):∃ k,2*k+1≤a.sz+c.sz+1∧z≤2 ^ k:=by
 refine ⟨n+m+1,by omega,?_⟩
 have e:2 ^ (n+m+1)=2*(2 ^ n*2 ^ m):=by rw [Nat.pow_succ,Nat.pow_add,Nat.mul_comm]
 have p1:1≤2 ^ n:=Nat.one_le_two_pow
 have p2:1≤2 ^ m:=Nat.one_le_two_pow
 have q1:2 ^ n≤2 ^ n*2 ^ m:=Nat.le_mul_of_pos_right _ p2
 have q2:2 ^ m≤2 ^ n*2 ^ m:=Nat.le_mul_of_pos_left _ p1
 rcases hz with rfl | rfl
 ·have:=Nat.mul_le_mul h2 h4;omega
 ·omega
theorem zh0:∀(s:Say)(b:Bool),∃ n,2*n+1≤s.sz∧lv b s≤2 ^ n
 | .yes,_=>⟨0,Nat.le_refl 1,Nat.le_refl 1⟩
 | .no,_=>⟨0,Nat.le_refl 1,Nat.le_refl 1⟩
 | .name _,_=>⟨0,Nat.le_refl 1,Nat.le_refl 1⟩
 | .not a,b=>(zh0 a (!b)).imp fun n h=>⟨Nat.le_succ_of_le h.1,h.2⟩
 | .and a c,b=>by
  obtain ⟨n,h1,h2⟩:=zh0 a b
  obtain ⟨m,h3,h4⟩:=zh0 c b
  exact znA a c n m h1 h3 _ h2 h4 _ (by cases b with
   | false=>exact .inr rfl
   | true=>exact .inl rfl)
 | .or a c,b=>by
  obtain ⟨n,h1,h2⟩:=zh0 a b
  obtain ⟨m,h3,h4⟩:=zh0 c b
  exact znA a c n m h1 h3 _ h2 h4 _ (by cases b with
   | false=>exact .inl rfl
   | true=>exact .inr rfl)
theorem zgb{s:Say}{d:Nat}{r:Bool}(ok:s.Ok)(hs:s.dep≤100)(hd:120<d):zaf GG d ⟨r,true⟩ AA.need_saying [s.pv]=M.ret .none:=by
 obtain ⟨e,rfl⟩:∃ e,d=e+2:=⟨d-2,by omega⟩
 exact zoj ⟨r,true⟩ _ e (tr (zaC ⟨r,true⟩ rfl s 100 e ok (by omega)) (b_eq (decide_eq_true hs)))
structure Btw (a b m:Say):Prop where
 ok:m.Ok
 dep:m.dep≤100
 sz:m.sz≤1000000000000
 fa:∀ f,a.tv f=true→m.tv f=true
 fb:∀ f,b.tv f=false→m.tv f=false
 na:∀ x∈m.nms,x∈a.nms
 nb:∀ x∈m.nms,x∈b.nms
theorem zec{a b:Say}(ha:a.Ok)(hb:b.Ok)(hz:a.sz+b.sz≤59):Row [a,.not b]:=by
 have h1:=zcr a;have h2:=zcr b
 exact ⟨zap ⟨ha,hb,trivial⟩,zap ⟨by omega,by show b.dep+1≤100;omega,trivial⟩,show 1≤2 by decide,show 2≤6 by decide,by show a.sz+(b.sz+1+0)≤60;omega⟩
theorem zoD{a b s:Say}(hz:a.sz+b.sz≤59)(h:Itp 1 (bg 0 [a,.not b]) s):Btw a b (nt s):=by
 have g:=zcV s h.ok
 have hd:s.dep≤a.sz+(b.sz+1+0)+1:=h.dep
 have hp:s.sz+1≤3*(lv true a*(lv false b*1)):=h.sz
 obtain ⟨n,h1,h2⟩:=zh0 a true
 obtain ⟨m,h3,h4⟩:=zh0 b false
 have h5:lv true a*lv false b≤2 ^ 28:=Nat.le_trans (Nat.mul_le_mul h2 h4) (by rw [← Nat.pow_add];exact Nat.pow_le_pow_right (by decide) (by omega))
 rw [Nat.mul_one] at hp
 have gd:=g.dep;have gz:=g.sz
 refine ⟨g.ok,by omega,by omega,fun f hf=>?_,fun f hf=>?_,fun x hx=>?_,fun x hx=>?_⟩
 ·rw [ze3]
  exact h.a f (zap (P:=fun c:Cl=>c.n<1→c.s.tv f=c.b) (l:=[⟨0,true,a⟩,⟨1,true,.not b⟩]) ⟨fun _=>hf,fun z=>absurd z (show ¬ (1<1) by decide),trivial⟩)
 ·rw [ze3]
  exact h.b f (zap (P:=fun c:Cl=>¬ c.n<1→c.s.tv f=c.b) (l:=[⟨0,true,a⟩,⟨1,true,.not b⟩]) ⟨fun z=>absurd (show 0<1 by decide) z,fun _=>(show (!(b.tv f))=true by rw [hf];rfl),trivial⟩)
 ·obtain ⟨c,hc,hn,hm⟩:=h.na x (g.nm x hx)
  rcases List.mem_cons.mp hc with rfl | hc
  ·exact hm
  ·rw [List.mem_singleton.mp (show c∈[(⟨1,true,.not b⟩:Cl)] from hc)] at hn;exact absurd hn (show ¬ (1<1) by decide)
 ·obtain ⟨c,hc,hn,hm⟩:=h.nb x (g.nm x hx)
  rcases List.mem_cons.mp hc with rfl | hc
  ·exact absurd (show 0<1 by decide) hn
  ·rw [List.mem_singleton.mp (show c∈[(⟨1,true,.not b⟩:Cl)] from hc)] at hm;exact hm
noncomputable def Lead(a b:Say)(σ:zaa)(w:PV):Prop:=(∃ m:Say,w=.tup [.str "between",m.pv]∧Btw a b m)∨∃ j kvs,w=.tup [.str "setting",.ref j]∧Tld [a,.not b] σ j kvs
theorem middle{rs:List Say}{t:PV}{d:Nat}{r:Bool}(hd:260<d)(R:Row rs)(h:Std (bg 0 rs) t):∃ s,Itp 1 (bg 0 rs) s∧zaf GG d ⟨r,true⟩ AA.middle [rpv rs,t,.int 1]=M.ret s.pv:=by
 obtain ⟨e,rfl⟩:∃ e,d=e+2:=⟨d-2,by omega⟩
 obtain ⟨s,I,es⟩:=of_tree 1 h fun c hc=>R.ok _ (zhy hc)
 have hz:=R.sz;have h6:=R.hi;have h1:=R.lo
 have hlm:(rs.map Say.pv).length=rs.length:=List.length_map _
 have nt:zaf GG (e+1) ⟨r,true⟩ AA.need_tree [rpv rs,t]=M.ret .none:=zag (tr (zhW _ _ _ _) (tr (bd (need_row (by omega) R)) (if_f (zbw (zfx (by omega) R h)))))
 have ch:((zac .LtE (.int 0) (.int 1)).bind fun v4=>(zan v4).bind fun v5=>M.cond v5 ((biM ⟨r,true⟩ false "len" [rpv rs]).bind fun v6=>(zac .LtE (.int 1) v6)) (M.ret v4))=M.ret (.bool true):=
  tr (bd (show zac .LtE (.int 0) (.int 1)=M.ret (.bool true) from rfl)) (tr (bd (tr_b _)) (tr (bd (zcT (xs:=rs.map Say.pv) (by omega))) (tr (c_le _ _) (b_eq (decide_eq_true (by rw [hlm];omega))))))
 exact ⟨s,I,zag (tr (zmK _ _ _ _ _) (tr (bd nt) (tr (if_f (tr (or_f (zbw (b:=true) (zag (zgL _ _ _)))) (zbw ch))) (es ⟨r,true⟩ (e+1) (by rw [zgF];omega)))))⟩
noncomputable def ldK(C:zad)(v0 v7 v8:PV):M PV:=(ifM (zac .Eq v7 (.str "setting"))
   (M.ret (.tup [v7,v8]))
   ((seqM [(M.ret (.str "between")),((seqM [(C ⟨true,true⟩ AA.middle [v0,v8,(.int 1)])]).bind fun v9=>(C ⟨true,true⟩ AA.neatly v9))]).bind fun v10=>(M.ret (.tup v10))))
theorem big{e:Nat}(k:Nat)(h:300≤e)(hk:k<300:=by decide):k<e:=Nat.lt_of_lt_of_le hk h
theorem leads{a b:Say}{d:Nat}(ha:a.Ok)(hb:b.Ok)(hz:a.sz+b.sz≤59)(hd:300<d)(σ:zaa):∃ w τ,zaf GG d ⟨true,true⟩ AA.leads [a.pv,b.pv] σ=.ok w (σ++τ)∧Lead a b (σ++τ) w:=by
 obtain ⟨e,rfl⟩:∃ e,d=e+1:=⟨d-1,(Nat.sub_add_cancel (Nat.le_trans (by decide) hd)).symm⟩
 have he:300≤e:=Nat.le_of_lt_succ hd
 have z1:a.sz≤59:=Nat.le_trans (Nat.le_add_right _ _) hz
 have z2:b.sz≤59:=Nat.le_trans (Nat.le_add_left _ _) hz
 have d1:=Nat.le_trans (zcr a) z1
 have d2:=Nat.le_trans (zcr b) z2
 have R:=zec ha hb hz
 obtain ⟨w,τ,ew,hw⟩:=shut (d:=e) (big 250 he) R σ
 have sz:∀{s:Say},s.sz≤59→s.dep≤59→zaf GG e ⟨true,true⟩ AA.size_in [s.pv]=M.ret (.int s.sz):=fun {s} h h'=>size_in s ⟨true,true⟩ e rfl (Nat.lt_of_le_of_lt (Nat.succ_le_succ h') (big 60 he)) (Nat.le_trans h (by decide))
 have st:∀{rs:Rs PV},tup2 w (ldK (zaf GG e) (rpv [a,.not b])) (σ++τ)=rs→zaf GG (e+1) ⟨true,true⟩ AA.leads [a.pv,b.pv] σ=rs:=fun h=>
  at_ (zag (zov _ _ _ _)) (at_ (tr (bd (zgb ha (Nat.le_trans d1 (by decide)) (big 120 he))) (tr (bd (zgb hb (Nat.le_trans d2 (by decide)) (big 120 he))) (tr (if_f (tr (bd (tr (bd (sz z1 d1)) (tr (bd (sz z2 d2)) (add_int _ _ _)))) (show _=M.ret (PV.bool false) from b_eq (decide_eq_false (Int.not_lt.mpr (Int.ofNat_le.mpr hz)))))) (c_t rfl)))) (tr (zab ew) h))
 rcases hw with ⟨t,rfl,ht⟩ | ⟨j,kvs,rfl,S⟩
 ·obtain ⟨s,I,es⟩:=middle (d:=e) (r:=true) (big 260 he) R ht
  have hds:s.dep≤a.sz+(b.sz+1+0)+1:=I.dep
  have hds:s.dep≤61:=Nat.le_trans hds (Nat.succ_le_succ (Nat.succ_le_succ hz))
  refine ⟨.tup [.str "between",(nt s).pv],τ,st ?_,.inl ⟨nt s,rfl,zoD hz I⟩⟩
  show ldK (zaf GG e) (rpv [a,.not b]) (.str "tree") t (σ++τ)=_
  unfold ldK
  exact at_ (tr (if_f (by kernel_rfl)) (bd (sq2 rfl (tr (bd (sq1 es)) (neatly s ⟨true,true⟩ e I.ok (Nat.lt_of_le_of_lt hds (by decide)) (Nat.lt_of_le_of_lt (Nat.succ_le_succ hds) (big 62 he))))))) rfl
 ·refine ⟨.tup [.str "setting",.ref j],τ,st ?_,.inr ⟨j,kvs,rfl,S⟩⟩
  show ldK (zaf GG e) (rpv [a,.not b]) (.str "setting") (.ref j) (σ++τ)=_
  unfold ldK
  exact at_ (if_t (by kernel_rfl)) rfl
noncomputable def Say.sub(n:Str)(b:Bool):Say→Say
 | .name m=>bif m==n then cB b else .name m
 | .not a=>.not (a.sub n b)
 | .and a c=>.and (a.sub n b) (c.sub n b)
 | .or a c=>.or (a.sub n b) (c.sub n b)
 | s=>s
noncomputable def upd(f:Str→Bool)(n:Str)(b:Bool)(x:Str):Bool:=bif x==n then b else f x
theorem zes(f:Str→Bool)(n:Str)(b:Bool):∀ s:Say,(s.sub n b).tv f=s.tv (upd f n b)
 | .yes=>rfl
 | .no=>rfl
 | .name m=>by
  show (bif m==n then cB b else .name m).tv f=bif m==n then b else f m
  cases m==n with
  | true=>exact zi9 f b
  | false=>rfl
 | .not a=>congrArg Bool.not (zes f n b a)
 | .and a c=>by show ((a.sub n b).tv f&&(c.sub n b).tv f)=_;rw [zes f n b a,zes f n b c];rfl
 | .or a c=>by show ((a.sub n b).tv f || (c.sub n b).tv f)=_;rw [zes f n b a,zes f n b c];rfl
noncomputable def Gx(P:Str→Prop)(D Z:Nat)(s:Say):Prop:=s.Ok∧s.dep≤D∧s.sz≤Z∧∀ x∈s.nms,P x
theorem zdl{P:Str→Prop}(n:Str)(b:Bool):∀(s:Say),s.Ok→(∀ x∈s.nms,P x)→Gx (fun x=>P x∧x≠n) s.dep s.sz (s.sub n b)
 | .yes,ok,_=>⟨ok,Nat.le_refl _,Nat.le_refl _,fun x hx=>absurd hx List.not_mem_nil⟩
 | .no,ok,_=>⟨ok,Nat.le_refl _,Nat.le_refl _,fun x hx=>absurd hx List.not_mem_nil⟩
 | .name m,ok,hP=>by
  show Gx _ 1 1 (bif m==n then cB b else .name m)
  cases q:m==n with
  | true=>cases b <;> exact ⟨trivial,Nat.le_refl 1,Nat.le_refl 1,fun x hx=>absurd hx List.not_mem_nil⟩
  | false=>exact ⟨ok,Nat.le_refl _,Nat.le_refl _,zap ⟨⟨hP m (.head _),fun e=>by rw [e,beq_self_eq_true] at q;cases q⟩,trivial⟩⟩
 | .not a,ok,hP=>by
  obtain ⟨h1,h2,h3,h4⟩:=zdl n b a ok hP
  exact ⟨h1,Nat.succ_le_succ h2,Nat.succ_le_succ h3,h4⟩
 | .and a c,ok,hP=>by
  obtain ⟨h1,h2,h3,h4⟩:=zdl n b a ok.1 fun x hx=>hP x (List.mem_append_left _ hx)
  obtain ⟨g1,g2,g3,g4⟩:=zdl n b c ok.2 fun x hx=>hP x (List.mem_append_right _ hx)
  exact ⟨⟨h1,g1⟩,by show max _ _+1≤max _ _+1;omega,by show _+_+1≤_+_+1;omega,fun x hx=>(List.mem_append.mp hx).elim (h4 x) (g4 x)⟩
 | .or a c,ok,hP=>by
  obtain ⟨h1,h2,h3,h4⟩:=zdl n b a ok.1 fun x hx=>hP x (List.mem_append_left _ hx)
  obtain ⟨g1,g2,g3,g4⟩:=zdl n b c ok.2 fun x hx=>hP x (List.mem_append_right _ hx)
  exact ⟨⟨h1,g1⟩,by show max _ _+1≤max _ _+1;omega,by show _+_+1≤_+_+1;omega,fun x hx=>(List.mem_append.mp hx).elim (h4 x) (g4 x)⟩
theorem zoh(C:zad)(md:Md)(m n:Str)(b:Bool):zaj GG C md AA.put_in [.tup [.str "name",.str m],.str n,.bool b]=M.cond (!(m==n)) (M.ret (.tup [.str "name",.str m])) (M.cond b (M.ret (.tup [.str "yes"])) (M.ret (.tup [.str "no"]))):=(zeb C md _ _ _).trans (by kernel_rfl)
theorem zhV{C:zad}{r:Bool}{w:Str}{ps:List Say}{n:Str}{b:Bool}(hw:w="not"∨w="and"∨w="or")(hp:ps.length≤2)(h:∀ p∈ps,C ⟨false,true⟩ AA.put_in [p.pv,.str n,.bool b]=M.ret (p.sub n b).pv) :
  zaj GG C ⟨r,true⟩ AA.put_in [.tup (.str w::ps.map Say.pv),.str n,.bool b]=M.ret (.tup (.str w::ps.map fun p=>(p.sub n b).pv)):=by
 have hm:(ps.map Say.pv).length≤1000:=by rw [List.length_map];exact Nat.le_trans ‹_› (by decide)
 have e1:zac .Eq (.str w) (.str "name")=M.ret (.bool false):=by rcases hw with rfl | rfl | rfl <;> kernel_rfl
 have e2:zac .In (.str w) (.tup [(.str "yes"),(.str "no")])=M.ret (.bool false):=by rcases hw with rfl | rfl | rfl <;> kernel_rfl
 have hc:=zbi (md:=⟨r,true⟩) rfl (show (cutM false (.tup (.str w::ps.map Say.pv)) (some 1) Option.none).bind zaz=M.ret ⟨ps.map Say.pv,[]⟩ from bd (ziV hm)) (by exact Nat.le_trans ‹_› (by decide)) (zcs (f:=fun x=>(C ⟨false,true⟩ AA.put_in [x,.str n,.bool b]).bind fun y=>M.ret (some y)) (g:=fun p=>(p.sub n b).pv) fun p hp=>bd (h p hp))
 have ht:biM ⟨r,true⟩ false "tuple" [.lst (ps.map fun p=>(p.sub n b).pv)]=M.ret (.tup (ps.map fun p=>(p.sub n b).pv)):=tr (znh _ _ _) (c_t (decide_eq_true (by rw [List.length_map];exact Nat.le_trans ‹_› (by decide))))
 exact tr (zeb C _ _ _ _) (tr (bd (ix_0 _ _)) (tr (if_f e1) (tr (if_f e2) (tr (bd (tr (bd (sq1 hc)) ht)) (c_t (decide_eq_true (by rw [List.length_map];show 1+_≤_;omega)))))))
theorem put_in(n:Str)(b:Bool):∀(s:Say)(md:Md)(d:Nat),md.lp=true→s.dep<d→zaf GG d md AA.put_in [s.pv,.str n,.bool b]=M.ret (s.sub n b).pv
 | .yes,md,d+1,_,_=>zag ((zeb _ md _ _ _).trans (by kernel_rfl))
 | .no,md,d+1,_,_=>zag ((zeb _ md _ _ _).trans (by kernel_rfl))
 | .name m,md,d+1,_,_=>by
  refine zag ((zoh _ md m n b).trans ?_)
  show _=M.ret (bif m==n then cB b else .name m).pv
  cases m==n with
  | true=>cases b <;> rfl
  | false=>rfl
 | .not a,⟨r,true⟩,d+1,_,hd=>zag (zhV (ps:=[a]) (.inl rfl) (Nat.le_succ 1) (zap ⟨put_in n b a ⟨false,true⟩ d rfl (Nat.lt_of_succ_lt_succ hd),trivial⟩))
 | .and a c,⟨r,true⟩,d+1,_,hd=>by
  have hd:max a.dep c.dep+1<d+1:=hd
  exact zag (zhV (ps:=[a,c]) (.inr (.inl rfl)) (Nat.le_refl 2) (zap ⟨put_in n b a ⟨false,true⟩ d rfl (by omega),put_in n b c ⟨false,true⟩ d rfl (by omega),trivial⟩))
 | .or a c,⟨r,true⟩,d+1,_,hd=>by
  have hd:max a.dep c.dep+1<d+1:=hd
  exact zag (zhV (ps:=[a,c]) (.inr (.inr rfl)) (Nat.le_refl 2) (zap ⟨put_in n b a ⟨false,true⟩ d rfl (by omega),put_in n b c ⟨false,true⟩ d rfl (by omega),trivial⟩))
noncomputable def inL(L:List Str)(x:Str):Bool:=L.any fun y=>y==x
noncomputable def zgx(o:Bool)(L:List Str):List Str→Say→Say
 | [],t=>t
 | n::N,t=>bif inL L n then zgx o L N t else zgx o L N (nt (bin o (t.sub n true) (t.sub n false)))
noncomputable def exE(o:Bool)(L:List Str):List Str→((Str→Bool)→Bool)→(Str→Bool)→Bool
 | [],F=>F
 | n::N,F=>bif inL L n then exE o L N F else exE o L N fun f=>opB o (F (upd f n true)) (F (upd f n false))
theorem zfW(o:Bool)(L:List Str):∀(N:List Str)(t:Say),(fun f=>(zgx o L N t).tv f)=exE o L N fun f=>t.tv f
 | [],t=>rfl
 | n::N,t=>by
  unfold zgx exE
  cases inL L n with
  | true=>exact zfW o L N t
  | false=>
   refine (zfW o L N _).trans (congrArg (exE o L N) (funext fun f=>?_))
   show (nt (bin o (t.sub n true) (t.sub n false))).tv f=opB o (t.tv (upd f n true)) (t.tv (upd f n false))
   rw [ze3,← zes,← zes]
   cases o <;> rfl
theorem zk2(o a b:Bool):(opB o a b=o)↔(a=o∨b=o):=by cases o <;> cases a <;> cases b <;> decide
theorem zgq(o:Bool)(L:List Str):∀(N:List Str)(F:(Str→Bool)→Bool)(f:Str→Bool),(exE o L N F f=o)↔∃ g:Str→Bool,(∀ x,(x∉N∨inL L x=true)→g x=f x)∧F g=o
 | [],F,f=>⟨fun h=>⟨f,fun _ _=>rfl,h⟩,fun ⟨g,h1,h2⟩=>by
   have:g=f:=funext fun x=>h1 x (.inl List.not_mem_nil)
   rw [← this];exact h2⟩
 | n::N,F,f=>by
  unfold exE
  cases q:inL L n with
  | true=>
   refine (zgq o L N F f).trans ⟨fun ⟨g,h1,h2⟩=>⟨g,fun x hx=>h1 x (hx.imp (fun h hn=>h (.tail _ hn)) id),h2⟩,fun ⟨g,h1,h2⟩=>⟨g,fun x hx=>h1 x ?_,h2⟩⟩
   rcases hx with hx | hx
   ·by_cases e:x=n
    ·exact .inr (e▸q)
    ·exact .inl fun h=>(List.mem_cons.mp h).elim e hx
   ·exact .inr hx
  | false=>
   refine (zgq o L N _ f).trans ⟨fun ⟨g,h1,h2⟩=>?_,fun ⟨g,h1,h2⟩=>?_⟩
   ·have key:∀ b,F (upd g n b)=o→∃ g,(∀ x,(x∉n::N∨inL L x=true)→g x=f x)∧F g=o:=fun b hb=>⟨upd g n b,fun x hx=>by
     have hne:x≠n:=fun e=>hx.elim (fun h=>h (e▸.head _)) fun h=>by rw [e,q] at h;cases h
     show (bif x==n then b else g x)=_
     rw [zcI hne]
     exact h1 x (hx.imp (fun h hn=>h (.tail _ hn)) id),hb⟩
    exact ((zk2 o _ _).mp h2).elim (key true) (key false)
   ·by_cases hN:n∈N
    ·refine ⟨g,fun x hx=>h1 x (hx.imp (fun h hn=>(List.mem_cons.mp hn).elim (fun e=>h (e▸hN)) h) id),(zk2 o _ _).mpr ?_⟩
     have:upd g n (g n)=g:=funext fun x=>by
      show (bif x==n then g n else g x)=g x
      cases e:x==n with
      | true=>rw [eq_of_beq e];rfl
      | false=>rfl
     cases e:g n with
     | true=>rw [e] at this;exact .inl (this.symm▸h2)
     | false=>rw [e] at this;exact .inr (this.symm▸h2)
    ·refine ⟨upd g n (f n),fun x hx=>?_,(zk2 o _ _).mpr ?_⟩
     ·show (bif x==n then f n else g x)=f x
      cases e:x==n with
      | true=>rw [eq_of_beq e];rfl
      | false=>exact h1 x (hx.imp (fun h hn=>(List.mem_cons.mp hn).elim (fun e'=>by rw [e',beq_self_eq_true] at e;cases e) h) id)
     ·have up:∀ b c,upd (upd g n c) n b=upd g n b:=fun b c=>funext fun x=>by
       show (bif x==n then b else (bif x==n then c else g x))=bif x==n then b else g x
       cases x==n <;> rfl
      have:upd g n (g n)=g:=funext fun x=>by
       show (bif x==n then g n else g x)=g x
       cases e:x==n with
       | true=>rw [eq_of_beq e];rfl
       | false=>rfl
      rw [up,up]
      cases e:g n with
      | true=>rw [e] at this;exact .inl (this.symm▸h2)
      | false=>rw [e] at this;exact .inr (this.symm▸h2)
theorem zia(o:Bool)(L:List Str):∀(N:List Str)(t:Say)(P:Str→Prop)(D Z:Nat),Gx P D Z t→Gx (fun x=>P x∧(x∈N→inL L x=true)) (D+N.length) (2 ^ N.length*(Z+1)) (zgx o L N t)
 | [],t,P,D,Z,h=>⟨h.1,h.2.1,by have:=h.2.2.1;show t.sz≤1*(Z+1);omega,fun x hx=>⟨h.2.2.2 x hx,fun q=>absurd q List.not_mem_nil⟩⟩
 | n::N,t,P,D,Z,h=>by
  have e:2 ^ (n::N).length*(Z+1)=2 ^ N.length*(2*Z+1+1):=by rw [List.length_cons,Nat.pow_succ,Nat.mul_assoc];congr 1
  have hp:0<2 ^ N.length:=Nat.pow_pos (by decide)
  unfold zgx
  rw [e]
  cases q:inL L n with
  | true=>
   obtain ⟨h1,h2,h3,h4⟩:=zia o L N t P D (2*Z+1) ⟨h.1,h.2.1,by have:=h.2.2.1;omega,h.2.2.2⟩
   exact ⟨h1,Nat.le_trans h2 (by rw [List.length_cons];omega),h3,fun x hx=>⟨(h4 x hx).1,fun hm=>(List.mem_cons.mp hm).elim (fun e=>e▸q) (h4 x hx).2⟩⟩
  | false=>
   obtain ⟨a1,a2,a3,a4⟩:=zdl n true t h.1 h.2.2.2
   obtain ⟨b1,b2,b3,b4⟩:=zdl n false t h.1 h.2.2.2
   have hd:=h.2.1;have hz:=h.2.2.1
   have hok:(bin o (t.sub n true) (t.sub n false)).Ok:=by cases o <;> exact ⟨a1,b1⟩
   have hdep:(bin o (t.sub n true) (t.sub n false)).dep≤D+1:=by cases o <;> (show max _ _+1≤_;omega)
   have hsz:(bin o (t.sub n true) (t.sub n false)).sz≤2*Z+1:=by cases o <;> (show _+_+1≤_;omega)
   have hnm:∀ x∈(bin o (t.sub n true) (t.sub n false)).nms,P x∧x≠n:=by cases o <;> exact fun x hx=>(List.mem_append.mp hx).elim (a4 x) (b4 x)
   have g:=zcV _ hok
   have g1:=g.dep;have g2:=g.sz
   obtain ⟨h1,h2,h3,h4⟩:=zia o L N (nt (bin o (t.sub n true) (t.sub n false))) (fun x=>P x∧x≠n) (D+1) (2*Z+1) ⟨g.ok,by exact Nat.le_trans ‹_› ‹_›,by exact Nat.le_trans ‹_› ‹_›,fun x hx=>hnm x (g.nm x hx)⟩
   exact ⟨h1,Nat.le_trans h2 (by rw [List.length_cons];omega),h3,fun x hx=>⟨(h4 x hx).1.1,fun hm=>(List.mem_cons.mp hm).elim (fun e=>absurd e (h4 x hx).1.2) (h4 x hx).2⟩⟩
theorem zeA:∀(l m:List Str),l.Nodup→(∀ x∈l,x∈m)→l.length≤m.length
 | [],_,_,_=>Nat.zero_le _
 | x::l,m,hn,hs=>by
  have hn:=List.nodup_cons.mp hn
  have:=zeA l (m.erase x) hn.2 fun y hy=>(List.mem_erase_of_ne (fun e=>hn.1 (by rw [← e];exact hy))).mpr (hs y (.tail _ hy))
  rw [List.length_erase_of_mem (hs x (.head _))] at this
  have:0<m.length:=List.length_pos_of_mem (hs x (.head _))
  rw [List.length_cons];omega
theorem zlE(L:List Str)(x:Str):inL L x=true↔x∈L:=by unfold inL;rw [ze2,decide_eq_true_eq]
theorem need_both{s:Say}{L:List Str}{d:Nat}{r:Bool}(ok:s.Ok)(hs:s.dep≤100)(hz:s.sz≤60)(hd:130<d)(hL:∀ x∈L,NmOk x)(hl:L.length≤100):zaf GG d ⟨r,true⟩ AA.need_both [s.pv,.lst (L.map .str)]=M.ret .none:=by
 obtain ⟨e,rfl⟩:∃ e,d=e+2:=⟨d-2,by omega⟩
 have hc:∀ l:List Str,(∀ x∈l,NmOk x)→zaX (M.ret ()) (fun x=>M.noErr ((fun v4=>(zaf GG (e+1) (⟨r,true⟩:Md).inn AA.is_name [v4]).bind fun v5=>M.ret (some v5)) x)) (l.map .str)=M.ret (l.map fun _=>.bool true):=by
  intro l
  induction l with
  | nil=>exact fun _=>rfl
  | cons x l ih=>exact fun h=>zbD (f:=fun v4=>(zaf GG (e+1) (⟨r,true⟩:Md).inn AA.is_name [v4]).bind fun v5=>M.ret (some v5)) (bd (zag (zfA _ ⟨false,true⟩ rfl (h x (.head _))))) (ih fun y hy=>h y (.tail _ hy))
 have ha:biM ⟨r,true⟩ false "all" [.lst (L.map fun _=>.bool true)]=M.ret (.bool true):=tr (zin (zb4 (fun _=>true) L) rfl) (b_eq (by rw [List.all_map];exact List.all_eq_true.mpr fun _ _=>rfl))
 have hm:(L.map PV.str).length=L.length:=List.length_map _
 exact zag (tr (zhY _ _ _ _) (tr (bd (zgb ok hs (by omega))) (tr (if_f (tr (bd (size_in s ⟨r,true⟩ (e+1) rfl (by omega) (by omega))) (b_eq (b:=decide ((60:Int)<(s.sz:Int))) (decide_eq_false (by omega))))) (if_f (tr (or_f (zbw (b:=true) rfl)) (zbw (b:=true) (tr (bd (sq1 (zbi rfl (show zaz (.lst (L.map .str))=M.ret ⟨L.map .str,[]⟩ from rfl) (by omega) (hc L hL)))) ha)))))))
theorem zhD{e:Nat}{sv:PV}{L:List Str}(o:Bool)(he:250<e):∀(N:List Str)(t:Say)(q:Option PV)(D Z:Nat),Gx (fun _=>True) D Z t→D+N.length≤200→
  zar AA GG (zaf GG e) ⟨true,true⟩ (M.ret ()) (N.map .str) sv (.lst (L.map .str)) (.str (bif o then "or" else "and")) t.pv q=M.ret (zgx o L N t).pv
 | [],t,q,_,_,_,_=>rfl
 | n::N,t,q,D,Z,g,hD=>by
  have hD:D+(N.length+1)≤200:=hD
  have hd:=g.2.1
  refine tr (show _=zbc AA GG (zaf GG e) ⟨true,true⟩ (zar AA GG (zaf GG e) ⟨true,true⟩ (M.ret ()) (N.map .str)) sv (.lst (L.map .str)) (.str (bif o then "or" else "and")) t.pv q (.str n) from rfl) (tr (if_b (zfp n L)) ?_)
  unfold zgx
  show M.cond (!(inL L n)) _ _=_
  cases inL L n with
  | true=>exact zhD o he N t _ D Z g (by omega)
  | false=>
   obtain ⟨a1,a2,a3,a4⟩:=zdl n true t g.1 g.2.2.2
   obtain ⟨b1,b2,b3,b4⟩:=zdl n false t g.1 g.2.2.2
   have hok:(bin o (t.sub n true) (t.sub n false)).Ok:=by cases o <;> exact ⟨a1,b1⟩
   have hdep:(bin o (t.sub n true) (t.sub n false)).dep≤D+1:=by cases o <;> (show max _ _+1≤_;omega)
   have gn:=zcV _ hok
   have g1:=gn.dep
   have hpv:(bin o (t.sub n true) (t.sub n false)).pv=.tup [.str (bif o then "or" else "and"),(t.sub n true).pv,(t.sub n false).pv]:=by cases o <;> rfl
   have hny:=neatly (bin o (t.sub n true) (t.sub n false)) ⟨true,true⟩ e hok (by omega) (by omega)
   rw [hpv] at hny
   have st:((seqM [((seqM [(M.ret (.str (bif o then "or" else "and"))),(zaf GG e ⟨true,true⟩ AA.put_in [t.pv,.str n,(.bool true)]),(zaf GG e ⟨true,true⟩ AA.put_in [t.pv,.str n,(.bool false)])]).bind fun v7=>(M.ret (PV.tup v7)))]).bind fun v8=>(zaf GG e ⟨true,true⟩ AA.neatly v8))=M.ret (nt (bin o (t.sub n true) (t.sub n false))).pv:=tr (bd (sq1 (bd (sq3 rfl (put_in n true t ⟨true,true⟩ e rfl (by omega)) (put_in n false t ⟨true,true⟩ e rfl (by omega)))))) hny
   exact tr (bd st) (zhD o he N _ _ (D+1) _ ⟨gn.ok,Nat.le_trans g1 hdep,Nat.le_refl _,fun _ _=>trivial⟩ (by omega))
noncomputable def ans(o:Bool)(s:Say)(L:List Str):Say:=zgx o L (zak s.met) (nt s)
theorem znv{s:Say}{L:List Str}{d:Nat}{σ:zaa}(o:Bool)(ok:s.Ok)(hs:s.dep≤100)(hz:s.sz≤60)(hd:260<d)(hm:s.met.length≤6):∃ τ,zaf GG d ⟨true,true⟩ AA.without_others [s.pv,.lst (L.map .str),.str (bif o then "or" else "and")] σ=.ok (ans o s L).pv (σ++τ):=by
 obtain ⟨e,rfl⟩:∃ e,d=e+1:=⟨d-1,by omega⟩
 have g:=zcV s ok
 have g1:=g.dep
 have R:Row [s]:=⟨zap ⟨ok,trivial⟩,zap ⟨hs,trivial⟩,show 1≤1 by decide,show 1≤6 by decide,show s.sz+0≤60 from hz⟩
 have hni:=names_in (d:=e) (r:=true) (by omega) R σ
 have er:rmet [] [s]=s.met:=zfU s.met
 rw [er] at hni
 have hl:(zak s.met).length=s.met.length:=(zaF _).length_eq
 refine ⟨[.dict (dK s.met)],at_ (zag (zd3 _ _ _ _ _)) ?_⟩
 unfold zb5 zbu
 exact at_ (tr (bd (neatly s ⟨true,true⟩ e ok (by omega) (by omega))) (c_t rfl)) (tr (zab (a:=Src.mk ((zak s.met).map .str) []) (tr (zab hni) rfl)) (congrFun (zhD o (by omega) (zak s.met) (nt s) Option.none 100 _ ⟨g.ok,Nat.le_trans g1 hs,Nat.le_refl _,fun _ _=>trivial⟩ (by omega)) _))
theorem strongest{s:Say}{L:List Str}{d:Nat}(ok:s.Ok)(hs:s.dep≤100)(hz:s.sz≤60)(hd:300<d)(hL:∀ x∈L,NmOk x)(hl:L.length≤100)(hm:s.met.length≤6)(σ:zaa):∃ τ,zaf GG d ⟨true,true⟩ AA.strongest [s.pv,.lst (L.map .str)] σ=.ok (ans true s L).pv (σ++τ):=by
 obtain ⟨e,rfl⟩:∃ e,d=e+1:=⟨d-1,by omega⟩
 obtain ⟨τ,h⟩:=znv (L:=L) (d:=e) (σ:=σ) true ok hs hz (by omega) hm
 exact ⟨τ,at_ (zag (zhG _ _ _ _)) (at_ (bd (need_both ok hs hz (by omega) hL hl)) h)⟩
theorem weakest{s:Say}{L:List Str}{d:Nat}(ok:s.Ok)(hs:s.dep≤100)(hz:s.sz≤60)(hd:300<d)(hL:∀ x∈L,NmOk x)(hl:L.length≤100)(hm:s.met.length≤6)(σ:zaa):∃ τ,zaf GG d ⟨true,true⟩ AA.weakest [s.pv,.lst (L.map .str)] σ=.ok (ans false s L).pv (σ++τ):=by
 obtain ⟨e,rfl⟩:∃ e,d=e+1:=⟨d-1,by omega⟩
 obtain ⟨τ,h⟩:=znv (L:=L) (d:=e) (σ:=σ) false ok hs hz (by omega) hm
 exact ⟨τ,at_ (zag (zj8 _ _ _ _)) (at_ (bd (need_both ok hs hz (by omega) hL hl)) h)⟩
structure An (s:Say) (L:List Str) (t:Say):Prop where
 ok:t.Ok
 dep:t.dep≤110
 sz:t.sz≤4000
 nm:∀ x∈t.nms,x∈L
theorem znO{s:Say}{L:List Str}(o:Bool)(ok:s.Ok)(hd:s.dep≤100)(hz:s.sz≤60)(hm:s.met.length≤6):An s L (ans o s L):=by
 have g:=zcV s ok
 obtain ⟨k1,k2,k3,k4⟩:=zia o L (zak s.met) (nt s) (fun x=>x∈s.nms) 100 60 ⟨g.ok,Nat.le_trans g.dep hd,Nat.le_trans g.sz hz,g.nm⟩
 have hs:=(zaF s.met).length_eq
 have hp:2 ^ (zak s.met).length≤2 ^ 6:=Nat.pow_le_pow_right (by decide) (by omega)
 have h3:2 ^ (zak s.met).length*(60+1)≤2 ^ 6*61:=Nat.mul_le_mul_right 61 hp
 refine ⟨k1,Nat.le_trans k2 (by omega),Nat.le_trans k3 (Nat.le_trans h3 (by decide)),fun x hx=>?_⟩
 exact (zlE L x).mp ((k4 x hx).2 ((zaF _).mem_iff.mpr (zbX s x (k4 x hx).1)))
theorem znN{s:Say}{L:List Str}{o:Bool}{f:Str→Bool}(h:(ans o s L).tv f=o):∃ g:Str→Bool,(∀ x∈L,g x=f x)∧s.tv g=o:=by
 have e:=congrFun (zfW o L (zak s.met) (nt s)) f
 have e:(ans o s L).tv f=exE o L (zak s.met) (fun f=>(nt s).tv f) f:=e
 obtain ⟨g,h1,h2⟩:=(zgq o L (zak s.met) _ f).mp (e.symm.trans h)
 exact ⟨g,fun x hx=>h1 x (.inr ((zlE L x).mpr hx)),by rw [← ze3];exact h2⟩
theorem znM{s:Say}{L:List Str}{o:Bool}{f:Str→Bool}(h:s.tv f=o):(ans o s L).tv f=o:=by
 have e:=congrFun (zfW o L (zak s.met) (nt s)) f
 have e:(ans o s L).tv f=exE o L (zak s.met) (fun f=>(nt s).tv f) f:=e
 exact e.trans ((zgq o L (zak s.met) _ f).mpr ⟨f,fun _ _=>rfl,(ze3 f s).trans h⟩)
structure Sn (ns:List Str) (Z:Nat) (s:Say):Prop where
 ok:s.Ok
 sz:s.sz≤Z
 nm:∀ x∈s.nms,x∈ns
theorem Sn.not{ns:List Str}{Z:Nat}{a:Say}(h:Sn ns Z a):Sn ns (Z+1) (.not a):=⟨h.ok,Nat.succ_le_succ h.sz,h.nm⟩
theorem Sn.and{ns:List Str}{Y Z:Nat}{a b:Say}(h:Sn ns Y a)(h':Sn ns Z b):Sn ns (Y+Z+1) (.and a b):=⟨⟨h.ok,h'.ok⟩,Nat.succ_le_succ (Nat.add_le_add h.sz h'.sz),fun x hx=>(List.mem_append.mp hx).elim (h.nm x) (h'.nm x)⟩
theorem Sn.or{ns:List Str}{Y Z:Nat}{a b:Say}(h:Sn ns Y a)(h':Sn ns Z b):Sn ns (Y+Z+1) (.or a b):=⟨⟨h.ok,h'.ok⟩,Nat.succ_le_succ (Nat.add_le_add h.sz h'.sz),fun x hx=>(List.mem_append.mp hx).elim (h.nm x) (h'.nm x)⟩
theorem Sn.mono{ns:List Str}{Y Z:Nat}{a:Say}(h:Sn ns Y a)(hz:Y≤Z):Sn ns Z a:=⟨h.ok,Nat.le_trans h.sz hz,h.nm⟩
theorem zeM{ns:List Str}{lo hi:Option Int}(h:ns.length≤1000):cutM false (.lst (ns.map .str)) lo hi=M.ret (.lst ((slc lo hi ns).map .str)):=by
 refine tr (c_t (decide_eq_true (show (ns.map PV.str).length≤2 ^ 20 by rw [List.length_map];omega))) ?_
 show M.ret (PV.lst (slc lo hi (ns.map .str)))=_
 unfold slc
 rw [List.length_map,List.map_take,List.map_drop]
theorem zhL{ns:List Str}{lo hi:Option Int}{x:Str}(h:x∈slc lo hi ns):x∈ns:=List.mem_of_mem_drop (List.mem_of_mem_take h)
theorem zhM{ns:List Str}{lo hi:Option Int}:(slc lo hi ns).length=min (hi.elim ns.length (clip ns.length)-lo.elim 0 (clip ns.length)) (ns.length-lo.elim 0 (clip ns.length)):=by
 unfold slc;rw [List.length_take,List.length_drop]
structure Sb (ns ms:List Str):Prop where
 mem:∀ x∈ms,x∈ns
 lo:1≤ms.length
 hi:ms.length≤6
theorem w_t{w:Nat}(k:Nat)(h:w=k):zac .Eq (.int (w:Int)) (.int (k:Int))=M.ret (.bool true):=zm8 (congrArg _ h)
theorem w_f{w:Nat}(k:Nat)(h:¬ w=k):zac .Eq (.int (w:Int)) (.int (k:Int))=M.ret (.bool false):=zjQ fun e=>h (Int.ofNat.inj e)
theorem cl_1{n:Nat}(h:1≤n):clip n (1:Int)=1:=(zek n 1).trans (Nat.min_eq_left h)
theorem cl_m{n:Nat}:clip n ((n-1:Nat):Int)=n-1:=(zek n (n-1)).trans (Nat.min_eq_left (Nat.sub_le _ _))
theorem cl_n{n:Nat}(h:1≤n):clip n (-1:Int)=n-1:=by
 unfold clip;rw [if_pos (by decide)];omega
theorem zoq(n:Nat):min (n-1-1) (n-1)=n-2:=Nat.min_eq_left (Nat.sub_le _ _)
theorem zqj{ns:List Str}(h:3≤ns.length)(h6:ns.length≤6):Sb ns (slc (some 1) (some ((ns.length-1:Nat):Int)) ns):=by
 have l:(slc (some 1) (some ((ns.length-1:Nat):Int)) ns).length=ns.length-2:=by
  rw [zhM];show min (clip ns.length ((ns.length-1:Nat):Int)-clip ns.length (1:Int)) (ns.length-clip ns.length (1:Int))=_;rw [cl_1 (Nat.le_trans (by decide) h),cl_m,zoq]
 exact ⟨fun x h=>zhL h,by rw [l];exact Nat.le_sub_of_add_le h,by rw [l];exact Nat.le_trans (Nat.sub_le _ _) h6⟩
theorem zqi{ns:List Str}(h:3≤ns.length)(h6:ns.length≤6):Sb ns (slc Option.none (some (-1)) ns):=by
 have l:(slc Option.none (some (-1)) ns).length=ns.length-1:=by
  rw [zhM];show min (clip ns.length (-1:Int)-0) (ns.length-0)=_;rw [cl_n (Nat.le_trans (by decide) h)];exact Nat.min_eq_left (Nat.sub_le ns.length 1)
 exact ⟨fun x h=>zhL h,by rw [l];exact Nat.le_sub_of_add_le (Nat.le_trans (by decide) h),by rw [l];exact Nat.le_trans (Nat.sub_le _ _) h6⟩
theorem zqh{ns:List Str}(h:3≤ns.length)(h6:ns.length≤6):Sb ns (slc (some 1) Option.none ns):=by
 have l:(slc (some 1) Option.none ns).length=ns.length-1:=by
  rw [zhM];show min (ns.length-clip ns.length (1:Int)) (ns.length-clip ns.length (1:Int))=_;rw [cl_1 (Nat.le_trans (by decide) h)];exact Nat.min_self _
 exact ⟨fun x h=>zhL h,by rw [l];exact Nat.le_sub_of_add_le (Nat.le_trans (by decide) h),by rw [l];exact Nat.le_trans (Nat.sub_le _ _) h6⟩
theorem zpx{ns:List Str}(h:3≤ns.length)(h6:ns.length≤6):((zcA ((biM ⟨true,true⟩ false "len" [.lst (ns.map .str)]).bind fun v5=>(opM false .Sub v5 (.int 1)))).bind fun v6=>(cutM false (.lst (ns.map .str)) (some 1) v6))=M.ret (.lst ((slc (some 1) (some ((ns.length-1:Nat):Int)) ns).map .str)):=by
 have hlm:(ns.map PV.str).length=ns.length:=List.length_map _
 exact tr (bd (show zcA _=M.ret (some ((ns.length-1:Nat):Int)) from tr (bd (tr (bd (zcT (xs:=ns.map PV.str) (by omega))) (tr (sub_int _ _ _) (i_eq (show ((ns.map PV.str).length:Int)-1=((ns.length-1:Nat):Int) by rw [hlm];omega))))) rfl)) (zeM (Nat.le_trans h6 (by decide)))
theorem zfk{ns ms:List Str}{m n Z:Nat}{c:Int}{x y:M PV}{e:Nat}(hn:∀ n∈ns,NmOk n)(S:Sb ns ms)(hx:x=M.ret (.int c)) (hy:y=M.ret (.int (m:Int))) (hm:m<Z) (hZ:Z≤14) (he:100<e) {v:M PV} (hv:v=M.ret (.lst (ms.map .str))):∃ s,Sn ns Z s∧((seqM [x,(y.bind fun v8=>(opM false .Add (.int 1) v8)),v]).bind fun v9=>(zaf GG e ⟨true,true⟩ AA.l_saying v9))=M.ret s.pv:=by
 obtain ⟨s,hs,M1⟩:=l_saying ⟨true,true⟩ ms (fun n h=>hn n (S.mem n h)) S.lo S.hi (1+m) c e (by omega) (by omega) (by omega)
 have mz:=M1.sz
 exact ⟨s,⟨M1.ok,by omega,fun x hx=>S.mem x (M1.nm x hx)⟩,tr (bd (sq3 hx (tr (bd hy) (tr (add_int _ _ _) (i_eq (show (1:Int)+(m:Int)=((1+m:Nat):Int) by omega)))) hv)) hs⟩
theorem l_pair{c:Int}{ns:List Str}{d:Nat}{r:Bool}(hd:110<d)(hn:∀ n∈ns,NmOk n)(hlo:3≤ns.length)(hhi:ns.length≤6):∃ a b,Sn ns 19 a∧Sn ns 26 b∧zaf GG d ⟨true,true⟩ AA.l_pair [.int c,.lst (ns.map .str)]=M.ret (.tup [a.pv,b.pv]):=by
 obtain ⟨e,rfl⟩:∃ e,d=e+1:=⟨d-1,(Nat.sub_add_cancel (Nat.le_trans (by decide) hd)).symm⟩
 obtain ⟨w,hw,hwl⟩:=zay c (b:=6) (by decide)
 obtain ⟨k1,hk1,hkl1⟩:=zay (c.fdiv 6) (b:=6) (by decide)
 obtain ⟨k2,hk2,hkl2⟩:=zgy (c.fdiv 6) 6 (b:=5) (by decide) (by decide) (by decide)
 obtain ⟨k3,hk3,hkl3⟩:=zgy (c.fdiv 6) 30 (b:=5) (by decide) (by decide) (by decide)
 obtain ⟨k4,hk4,hkl4⟩:=zgy (c.fdiv 6) 7 (b:=4) (by decide) (by decide) (by decide)
 obtain ⟨k5,hk5,hkl5⟩:=zay (c.fdiv 6) (b:=14) (by decide)
 obtain ⟨k6,hk6,hkl6⟩:=zgy (c.fdiv 6) 14 (b:=14) (by decide) (by decide) (by decide)
 have he:100<e:=Nat.lt_of_succ_lt_succ (Nat.lt_of_le_of_lt (by decide) hd)
 have hl:ns.length≤1000:=Nat.le_trans hhi (by decide)
 have S1:=zqj hlo hhi
 have S2:=zqi hlo hhi
 have S3:=zqh hlo hhi
 obtain ⟨one,N1,e1⟩:=zfk (c:=c.fdiv 6) (Z:=6) (n:=0) hn S1 rfl (zbr false (c.fdiv 6) (by decide) hk1) hkl1 (by decide) he rfl
 obtain ⟨ahead,N2,e2⟩:=zfk (c:=(c.fdiv 6).fdiv 6+5) (Z:=5) (n:=0) hn S2 (x:=(opM false .FloorDiv (.int (c.fdiv 6)) (.int 6)).bind fun v11=>(opM false .Add v11 (.int 5))) (tr (bd (za7 false (c.fdiv 6) 6 (by decide) (by decide))) (add_int _ _ _)) hk2 hkl2 (by decide) he (zeM hl)
 obtain ⟨behind,N3,e3⟩:=zfk (c:=(c.fdiv 6).fdiv 30+9) (Z:=5) (n:=0) hn S3 (x:=(opM false .FloorDiv (.int (c.fdiv 6)) (.int 30)).bind fun v11=>(opM false .Add v11 (.int 9))) (tr (bd (za7 false (c.fdiv 6) 30 (by decide) (by decide))) (add_int _ _ _)) hk3 hkl3 (by decide) he (zeM hl)
 have pre:∀{F:M PV},_=F→zaf GG (e+1) ⟨true,true⟩ AA.l_pair [.int c,.lst (ns.map .str)]=F:=fun {F} h=>zag (tr (zmX _ _ _ _) (tr (bd (zbr _ _ (by decide) hw)) (tr (bd (za7 _ _ 6 (by decide) (by decide))) (tr (bd (zpx hlo hhi)) (tr (bd e1) (tr (bd e2) (tr (bd e3) h)))))))
 by_cases w0:w=0
 ·exact ⟨.and one ahead,.or behind one,(N1.and N2).mono (by decide),(N3.or N1).mono (by decide),pre (if_t (w_t 0 w0))⟩
 ·by_cases w1:w=1
  ·exact ⟨.and ahead (.not one),.not (.and one behind),(N2.and N1.not).mono (by decide),(N1.and N3).not.mono (by decide),pre (tr (if_f (w_f 0 w0)) (if_t (w_t 1 w1)))⟩
  ·by_cases w2:w=2
   ·obtain ⟨other,N4,e4⟩:=zfk (c:=(c.fdiv 6).fdiv 7+3) (Z:=4) (n:=0) hn S1 (x:=(opM false .FloorDiv (.int (c.fdiv 6)) (.int 7)).bind fun v11=>(opM false .Add v11 (.int 3))) (tr (bd (za7 false (c.fdiv 6) 7 (by decide) (by decide))) (add_int _ _ _)) hk4 hkl4 (by decide) he rfl
    exact ⟨.and ahead (.or one other),.or (.or other one) behind,(N2.and (N1.or N4)).mono (by decide),((N4.or N1).or N3).mono (by decide),pre (tr (if_f (w_f 0 w0)) (tr (if_f (w_f 1 w1)) (tr (if_t (w_t 2 w2)) (bd e4))))⟩
   ·by_cases w3:w=3
    ·exact ⟨.and (.or ahead one) (.not ahead),.or (.and one behind) (.and one (.not behind)),((N2.or N1).and N2.not).mono (by decide),((N1.and N3).or (N1.and N3.not)).mono (by decide),pre (tr (if_f (w_f 0 w0)) (tr (if_f (w_f 1 w1)) (tr (if_f (w_f 2 w2)) (if_t (w_t 3 w3)))))⟩
    ·obtain ⟨x,N5,e5⟩:=zfk (c:=c.fdiv 6) (Z:=14) (n:=0) hn S2 rfl (zbr false (c.fdiv 6) (by decide) hk5) hkl5 (by decide) he (zeM hl)
     obtain ⟨y,N6,e6⟩:=zfk (c:=(c.fdiv 6).fdiv 14+1) (Z:=14) (n:=0) hn S3 (x:=(opM false .FloorDiv (.int (c.fdiv 6)) (.int 14)).bind fun v11=>(opM false .Add v11 (.int 1))) (tr (bd (za7 false (c.fdiv 6) 14 (by decide) (by decide))) (add_int _ _ _)) hk6 hkl6 (by decide) he (zeM hl)
     exact ⟨x,y,N5.mono (by decide),N6.mono (by decide),pre (tr (if_f (w_f 0 w0)) (tr (if_f (w_f 1 w1)) (tr (if_f (w_f 2 w2)) (tr (if_f (w_f 3 w3)) (bd (sq2 e5 e6))))))⟩
theorem zfs{x:Str}{v:PV}:∀(b a:List (Str×PV)),(∀ kv∈b,kv.1=x→kv.2=v)→((∃ kv∈b,kv.1=x)∨dat a x=some v)→dat (za6 a b) x=some v
 | [],a,_,h=>h.elim (fun ⟨_,q,_⟩=>absurd q List.not_mem_nil) id
 | p::b,a,hb,h=>by
  refine zfs b (dput p.1 p.2 a) (fun kv hk=>hb kv (.tail _ hk)) ?_
  by_cases e:p.1=x
  ·exact .inr (by rw [zby,if_pos e.symm,hb p (.head _) e])
  ·rcases h with ⟨kv,hk,hx⟩ | h
   ·exact .inl ⟨kv,(List.mem_cons.mp hk).resolve_left fun q=>e (q▸hx),hx⟩
   ·exact .inr (by rw [zby,if_neg fun q=>e q.symm];exact h)
theorem zpp{md:Md}{mu:Bool}{σ:zaa}{i j:Nat}{a b:List (Str×PV)}(hi:σ[i]?=some (.dict a))(hj:σ[j]?=some (.dict b))(hne:i≠j)(hl:a.length+b.length<1000):zcj md mu "update" (.ref i) (M.ret [.ref j]) σ=.ok .none (σ.set i (.dict (za6 a b))):=by
 refine (zab (show tnOf (.ref i) σ=.ok .dict σ from zab (zl7 hi))).trans ((zab (show M.lift (mtOf .dict "update") σ=.ok .update σ from rfl)).trans ?_)
 exact tr (zab (a:=[PV.ref j]) rfl) (tr (show zbM (cxM md mu) p0 .update (.ref i) [.ref j] σ=((dget i).bind fun a=>(dget j).bind fun b=>M.cond (decide (i≠j)&&decide (a.length+b.length<1000)) ((cset i (.dict (za6 a b))).bind fun _=>M.ret PV.none) M.fail) σ from rfl) (tr (zab (zdH hi)) (tr (zab (zdH hj)) (congrFun (c_t (by rw [decide_eq_true hne,decide_eq_true hl];rfl)) σ))))
theorem zlT:∀{b:List (Str×PV)},(b.map (·.1)).Nodup→∀ kv∈b,dat b kv.1=some kv.2
 | p::b,hn,kv,h=>by
  have hn:=List.nodup_cons.mp hn
  rw [zaR]
  rcases List.mem_cons.mp h with rfl | h
  ·rw [decide_eq_true rfl];rfl
  ·rw [decide_eq_false fun e=>hn.1 (List.mem_map.mpr ⟨kv,h,e.symm⟩)]
   exact zlT hn.2 kv h
theorem zpR{b:List (Str×PV)}{x:Str}{v:PV}(h:dat b x=some v):∃ kv∈b,kv.1=x:=by
 induction b with
 | nil=>cases h
 | cons p b ih=>
  rw [zaR] at h
  by_cases q:p.1=x
  ·exact ⟨p,.head _,q⟩
  ·rw [decide_eq_false q] at h
   obtain ⟨kv,hk,e⟩:=ih h
   exact ⟨kv,.tail _ hk,e⟩
theorem zmO{a b:List (Str×PV)}{x:Str}{v:PV} (hn:(b.map (·.1)).Nodup) (h:dat b x=some v):dat (za6 a b) x=some v:=
 zfs b a (fun kv hk e=>by have:=zlT hn kv hk;rw [e,h] at this;exact (Option.some.inj this).symm) (.inl (zpR h))
theorem zlj{xs:List PV}(hl:xs.length≤1000):biM ⟨true,true⟩ false "list" [.lst xs]=M.ret (.lst xs):=
 tr (zo9 true false (.lst xs)) (tr (c_t (decide_eq_true (show xs.length≤2 ^ 20 by omega))) rfl)
structure Ms (s:Say):Prop where
 ok:s.Ok
 dep:s.dep≤110
 sz:s.sz≤1000000000000
theorem l_fits{a b:Say}{d:Nat}{r:Bool}(ha:Ms a)(hb:Ms b)(hd:120<d):zaf GG d ⟨r,true⟩ AA.l_fits [a.pv,b.pv]=M.ret (.bool (decide (a.sz+b.sz≤34))):=by
 obtain ⟨e,rfl⟩:∃ e,d=e+1:=⟨d-1,by omega⟩
 have h1:=ha.dep;have h2:=hb.dep
 exact zag (tr (zmZ _ _ _ _) (tr (bd (tr (bd (zcl a ⟨r,true⟩ e rfl (by omega) ha.sz)) (tr (bd (zcl b ⟨r,true⟩ e rfl (by omega) hb.sz)) (add_int _ _ _)))) (tr (c_le _ _) (b_eq (decide_eq_decide.mpr (show (a.sz:Int)+(b.sz:Int)≤34↔a.sz+b.sz≤34 by omega))))))
theorem znx{a b:Say}{σ:zaa}{j:Nat}{kvs:List (Str×PV)}(hi:∀ f,a.tv f=true→b.tv f=true)(S:Tld [a,.not b] σ j kvs):False:=by
 have h1:=S.tv a (.head _)
 have h2:(!(b.tv (fOf kvs)))=true:=S.tv (.not b) (.tail _ (.head _))
 rw [hi _ h1] at h2;cases h2
theorem l_shown{a b:Say}{d:Nat}(ha:Ms a)(hb:Ms b)(hi:∀ f,a.tv f=true→b.tv f=true)(hd:320<d)(σ:zaa):∃ τ,zaf GG d ⟨true,true⟩ AA.l_shown [a.pv,b.pv] σ=.ok (.bool true) (σ++τ):=by
 obtain ⟨e,rfl⟩:∃ e,d=e+1:=⟨d-1,by omega⟩
 have hf:=l_fits (d:=e) (r:=true) ha hb (by omega)
 by_cases q:a.sz+b.sz≤34
 ·rw [decide_eq_true q] at hf
  have R:=zec ha.ok hb.ok (by omega)
  obtain ⟨w,τ,ew,hw⟩:=shut (d:=e) (by omega) R σ
  have hl:biM ⟨true,true⟩ false "list" [rpv [a,.not b]]=M.ret (rpv [a,.not b]):=zlj (show 2≤1000 by decide)
  rcases hw with ⟨t,rfl,ht⟩ | ⟨j,kvs,rfl,S⟩
  ·obtain ⟨τ2,e2⟩:=stands ht true e (σ++τ) (by rw [zi0,zgF];have:=R.sz;have:=R.hi;omega) (fun c hc=>R.dep _ (zhy hc)) (by rw [zgF];have:=R.sz;omega)
   refine ⟨τ++τ2,at_ (zag (zhe _ _ _ _)) (at_ (if_f (zbw hf)) (tr (zab (at_ (bd (sq1 hl)) ew)) ?_))⟩
   rw [← List.append_assoc]
   exact tr (zoH (c:=false) (zkZ (congrFun (tr (bd (ix_0 _ _)) (show _=M.ret (PV.bool false) by kernel_rfl)) _) (zfq (b:=true) (at_ (bd (sq2 (show zaf GG e ⟨true,true⟩ AA.l_begun [rpv [a,.not b]]=_ from l_begun rfl (by omega) R.hi) (ix_1 _ _ _))) e2)))) (at_ (tr (c_f rfl) (tr (bd (tr (bd (sq2 hl (ix_1 _ _ _))) (zfx (by omega) R ht))) (show _=M.ret (PV.bool true) by kernel_rfl))) rfl)
  ·exact (znx hi S).elim
 ·rw [decide_eq_false q] at hf
  refine ⟨[],?_⟩
  rw [List.append_nil]
  exact at_ (zag (zhe _ _ _ _)) (at_ (if_t (zbw hf)) rfl)
theorem l_leads{a b:Say}{d:Nat}(ha:Ms a)(hb:Ms b)(hi:∀ f,a.tv f=true→b.tv f=true)(hd:320<d)(σ:zaa):∃ τ,zaf GG d ⟨true,true⟩ AA.l_leads [a.pv,b.pv] σ=.ok (.bool true) (σ++τ):=by
 obtain ⟨e,rfl⟩:∃ e,d=e+1:=⟨d-1,by omega⟩
 have hf:=l_fits (d:=e) (r:=true) ha hb (by omega)
 by_cases q:a.sz+b.sz≤34
 ·rw [decide_eq_true q] at hf
  obtain ⟨w,τ,ew,hw⟩:=leads (d:=e) ha.ok hb.ok (by omega) (by omega) σ
  rcases hw with ⟨m,rfl,B⟩ | ⟨j,kvs,rfl,S⟩
  ·exact ⟨τ,at_ (zag (zhf _ _ _ _)) (at_ (or_f (zbw hf)) (tr (zab (tr (zab ew) (congrFun (ix_0 _ _) _))) (congrFun (show zac .Eq (.str "between") (.str "between")=M.ret (PV.bool true) by kernel_rfl) _)))⟩
  ·exact (znx hi S).elim
 ·rw [decide_eq_false q] at hf
  refine ⟨[],?_⟩
  rw [List.append_nil]
  exact at_ (zag (zhf _ _ _ _)) (at_ (or_t (zbw hf)) rfl)
theorem Tld.len{rs:List Say}{σ:zaa}{j:Nat}{kvs:List (Str×PV)}(S:Tld rs σ j kvs)(R:Row rs):kvs.length≤60:=by
 have hl:=zea rs []
 have hl:(rmet [] rs).length≤0+szs rs:=hl
 have hz:=R.sz
 have hln:(zak (rmet [] rs)).length=(rmet [] rs).length:=(zaF (rmet [] rs)).length_eq
 have hkl:kvs.length=(rmet [] rs).length:=by rw [← hln,← S.keys,List.length_map]
 omega
theorem zoz{a b m s t:Say}{v19:PV}{σ:zaa}(hv:v19=.tup [.str "between",m.pv])(A:Ms a)(B:Ms b)(M0:Ms m)(S:Ms s)(T:Ms t)(h1:∀ f,a.tv f=true→m.tv f=true)(h2:∀ f,m.tv f=true→b.tv f=true)(h3:∀ f,s.tv f=true→m.tv f=true)(h4:∀ f,m.tv f=true→t.tv f=true):∃ σ',
 (ifM (orM (notM ((seqM [(M.ret a.pv),(index v19 (.int 1))]).bind fun v21=>(zaf GG 399 ⟨true,true⟩ AA.l_shown v21))) (notM ((seqM [(index v19 (.int 1)),(M.ret b.pv)]).bind fun v22=>(zaf GG 399 ⟨true,true⟩ AA.l_shown v22))))
 (M.ret (.bool false))
 (andM ((seqM [(M.ret s.pv),(index v19 (.int 1))]).bind fun v23=>(zaf GG 399 ⟨true,true⟩ AA.l_shown v23)) (andM ((seqM [(index v19 (.int 1)),(M.ret t.pv)]).bind fun v24=>(zaf GG 399 ⟨true,true⟩ AA.l_shown v24)) (zaf GG 399 ⟨true,true⟩ AA.l_leads [s.pv,t.pv])))) σ=.ok (.bool true) σ':=by
 subst hv
 obtain ⟨τ1,e1⟩:=l_shown (d:=399) A M0 h1 (by decide) σ
 obtain ⟨τ2,e2⟩:=l_shown (d:=399) M0 B h2 (by decide) (σ++τ1)
 obtain ⟨τ3,e3⟩:=l_shown (d:=399) S M0 h3 (by decide) (σ++τ1++τ2)
 obtain ⟨τ4,e4⟩:=l_shown (d:=399) M0 T h4 (by decide) (σ++τ1++τ2++τ3)
 obtain ⟨τ5,e5⟩:=l_leads (d:=399) S T (fun f h=>h4 f (h3 f h)) (by decide) (σ++τ1++τ2++τ3++τ4)
 exact ⟨_,tr (zoH (c:=false) (zkZ (zfq (b:=true) (at_ (bd (sq2 rfl (ix_1 _ _ _))) e1)) (zfq (b:=true) (at_ (bd (sq2 (ix_1 _ _ _) rfl)) e2)))) (tr (zi3 (at_ (bd (sq2 rfl (ix_1 _ _ _))) e3) (zi3 (at_ (bd (sq2 (ix_1 _ _ _) rfl)) e4) e5)) rfl)⟩
theorem zox{a b s t:Say}{v19:PV}{σ:zaa}{j:Nat}{kvs:List (Str×PV)}(hv:v19=.tup [.str "setting",.ref j])(D:Tld [a,.not b] σ j kvs)(R:Row [a,.not b])(S:Ms s)(T:Ms t)(h1:∀ f,a.tv f=true→s.tv f=true)(h2:∀ f,b.tv f=false→t.tv f=false):∃ σ',
 (ifM (notM (zaf GG 399 ⟨true,true⟩ AA.l_fits [s.pv,t.pv]))
 (M.ret (.bool true))
 ((zaf GG 399 ⟨true,true⟩ AA.leads [s.pv,t.pv]).bind fun v25=>
 (ifM ((index v25 (.int 0)).bind fun v26=>(zac .NotEq v26 (.str "setting")))
 (M.ret (.bool false))
 (((seqM [(index v19 (.int 1))]).bind fun v27=>(biM ⟨true,true⟩ false "dict" v27)).bind fun v28=>
 ((zcj ⟨true,true⟩ false "update" v28 (seqM [(index v25 (.int 1))])).bind fun _=>
 (andM (zaf GG 399 ⟨true,true⟩ AA.l_true [s.pv,v28]) (notM (zaf GG 399 ⟨true,true⟩ AA.l_true [t.pv,v28]))))))) ) σ=.ok (.bool true) σ':=by
 subst hv
 have hf:=l_fits (d:=399) (r:=true) S T (by decide)
 by_cases q:s.sz+t.sz≤34
 ·rw [decide_eq_true q] at hf
  obtain ⟨w,τ,ew,hw⟩:=leads (d:=399) S.ok T.ok (by omega) (by decide) σ
  have ka:a.tv (fOf kvs)=true:=D.tv a (.head _)
  have kb:b.tv (fOf kvs)=false:=by
   have:(!(b.tv (fOf kvs)))=true:=D.tv (.not b) (.tail _ (.head _))
   cases z:b.tv (fOf kvs) with
   | true=>rw [z] at this;cases this
   | false=>rfl
  rcases hw with ⟨m,rfl,B⟩ | ⟨j2,kv2,rfl,E⟩
  ·have e1:=B.fa _ (h1 _ ka)
   rw [B.fb _ (h2 _ kb)] at e1;cases e1
  ·have R2:=zec S.ok T.ok (show s.sz+t.sz≤59 by omega)
   have l1:=D.len R;have l2:=E.len R2
   have g1:(σ++τ)[j]?=some (.dict kvs):=zdE D.cell
   have hj2:=(List.getElem?_eq_some_iff.mp E.cell).1
   have eu:=zpp (md:=⟨true,true⟩) (mu:=false) (σ:=σ++τ++[.dict kvs]) (i:=(σ++τ).length) (j:=j2) zaV (zdE E.cell) (by omega) (by omega)
   rw [zc5] at eu
   have nd:(kv2.map (·.1)).Nodup:=by rw [E.keys];exact (zaF _).symm.nodup (zdy _ [] List.nodup_nil)
   have hb:∀ x,(x∈s.nms∨x∈t.nms)→dat (za6 kvs kv2) x=some (.bool (fOf kv2 x)):=fun x hx=>zmO nd (E.bl x (zf4 _ [] x (.inr (hx.elim (fun h=>⟨s,.head _,h⟩) fun h=>⟨.not t,.tail _ (.head _),h⟩)))).f
   have fe:∀ x,(x∈s.nms∨x∈t.nms)→fOf (za6 kvs kv2) x=fOf kv2 x:=fun x hx=>by
    have h:=hb x hx
    show (match dat (za6 kvs kv2) x with | some (.bool b)=>b | _=>false)=_
    rw [h]
   have ks:s.tv (fOf (za6 kvs kv2))=true:=(zbk s fun x hx=>fe x (.inl hx)).trans (E.tv s (.head _))
   have kt:t.tv (fOf (za6 kvs kv2))=false:=by
    rw [zbk t fun x hx=>fe x (.inr hx)]
    have:(!(t.tv (fOf kv2)))=true:=E.tv (.not t) (.tail _ (.head _))
    cases z:t.tv (fOf kv2) with
    | true=>rw [z] at this;cases this
    | false=>rfl
   have d1:=S.dep;have d2:=T.dep
   have g3:(σ++τ++[Cel.dict (za6 kvs kv2)])[(σ++τ).length]?=some (.dict (za6 kvs kv2)):=zaV
   have t1:=tv_true.at_ g3 ⟨true,true⟩ s 399 (by omega) fun x hx=>⟨_,hb x (.inl hx)⟩
   have t2:=tv_true.at_ g3 ⟨true,true⟩ t 399 (by omega) fun x hx=>⟨_,hb x (.inr hx)⟩
   rw [ks] at t1;rw [kt] at t2
   have eu':zcj ⟨true,true⟩ false "update" (.ref (σ++τ).length) (seqM [(index (.tup [.str "setting",.ref j2]) (.int 1))]) (σ++τ++[Cel.dict kvs])=.ok .none (σ++τ++[Cel.dict (za6 kvs kv2)]):=at_ (congrArg (zcj ⟨true,true⟩ false "update" (.ref (σ++τ).length)) (sq1 (ix_1 _ _ _))) eu
   exact ⟨_,at_ (if_f (zbw hf)) (tr (zab ew) (at_ (if_f (tr (bd (ix_0 _ _)) (show _=M.ret (PV.bool false) by kernel_rfl))) (tr (zab (at_ (bd (sq1 (ix_1 _ _ _))) (zoW g1 (by omega)))) (tr (zab eu') (zi3 t1 (zfq (b:=false) t2))))))⟩
 ·rw [decide_eq_false q] at hf
  exact ⟨_,at_ (if_t (zbw hf)) rfl⟩
theorem zmS(is:List Int)(hi:is.length≤63):∃ σ',zaf GG 400 ⟨true,true⟩ AA.law [.lst (is.map .int)] []=.ok (.bool true) σ':=by
 have hc:∀ k:Nat,k≤100→zaf GG 399 ⟨true,true⟩ AA.l_cell_at [.lst (is.map .int),.int (k:Int)]=M.ret (.int (zdZ is k)):=fun k hk=>zag (zo7 _ _ is k hi hk)
 obtain ⟨m,hm,hml⟩:=zay (zdZ is 0) (b:=3) (by decide)
 obtain ⟨ns,hns,hnl,hok⟩:=l_names (zaf GG 398) ⟨true,true⟩ rfl (zdZ is 1) (3+m) (by omega)
 obtain ⟨a,b,A,B,hp⟩:=l_pair (c:=zdZ is 2) (d:=399) (r:=true) (by decide) hok (by omega) (by omega)
 have az:=A.sz;have bz:=B.sz
 have ad:=zcr a;have bd':=zcr b
 have an:=zdb a;have bn:=zdb b
 have ma:=l_met a ⟨true,true⟩ 399 rfl (by omega) (by omega)
 have mb:=l_met b (⟨true,true⟩:Md).inn 399 rfl (by omega) (by omega)
 have am:=zcJ a
 let L:List Str:=a.met.filter fun x=>b.met.any fun y=>y==x
 have hL:∀ x,x∈L→x∈a.met∧x∈b.met:=fun x hx=>by
  obtain ⟨h1,h2⟩:=List.mem_filter.mp hx
  have h2:(b.met.any fun y=>y==x)=true:=h2
  rw [ze2] at h2
  exact ⟨h1,of_decide_eq_true h2⟩
 have Lh:∀ x,x∈a.nms→x∈b.nms→x∈L:=fun x h1 h2=>List.mem_filter.mpr ⟨zbX a x h1,by show (b.met.any fun y=>y==x)=true;rw [ze2,decide_eq_true (zbX b x h2)]⟩
 have hLl:L.length≤a.met.length:=List.length_filter_le _ _
 have hLm:(L.map PV.str).length=L.length:=List.length_map _
 have Lok:∀ x∈L,NmOk x:=fun x hx=>hok x (A.nm x (zck a x (hL x hx).1))
 have cL:za2 ⟨true,true⟩ false ((zaf GG 399 ⟨true,true⟩ AA.l_met [a.pv]).bind zaz) (fun v10=>((zaf GG 399 (⟨true,true⟩:Md).inn AA.l_met [b.pv]).bind fun v11=>(zac .In v10 v11)).bind fun v12=>(zan v12).bind fun v13=>M.cond v13 (M.ret (some v10)) (M.ret Option.none))=M.ret (.lst (L.map .str)):=
  zho (ss:=a.met) (b:=fun x=>b.met.any fun y=>y==x) rfl (show (zaf GG 399 ⟨true,true⟩ AA.l_met [a.pv]).bind zaz=M.ret ⟨a.met.map .str,[]⟩ from bd ma) (by omega) fun x=>bd (tr (bd mb) (zoG x b.met))
 have hl:=zlj (xs:=L.map .str) (by omega)
 have m1:a.met.length≤6:=Nat.le_trans (zeA _ ns (zbs a) fun x hx=>A.nm x (zck a x hx)) (by omega)
 have m2:b.met.length≤6:=Nat.le_trans (zeA _ ns (zbs b) fun x hx=>B.nm x (zck b x hx)) (by omega)
 obtain ⟨τ1,es⟩:=strongest (s:=a) (L:=L) (d:=399) A.ok (by omega) (by omega) (by decide) Lok (by omega) m1 []
 obtain ⟨τ2,et⟩:=weakest (s:=b) (L:=L) (d:=399) B.ok (by omega) (by omega) (by decide) Lok (by omega) m2 ([]++τ1)
 obtain ⟨w,τ3,ew,hw⟩:=leads (d:=399) A.ok B.ok (by omega) (by decide) ([]++τ1++τ2)
 have nS:=znO (L:=L) true A.ok (by omega) (by omega) m1
 have nT:=znO (L:=L) false B.ok (by omega) (by omega) m2
 have MA:Ms a:=⟨A.ok,by omega,by omega⟩
 have MB:Ms b:=⟨B.ok,by omega,by omega⟩
 have MS:Ms (ans true a L):=⟨nS.ok,nS.dep,Nat.le_trans nS.sz (by decide)⟩
 have MT:Ms (ans false b L):=⟨nT.ok,nT.dep,Nat.le_trans nT.sz (by decide)⟩
 have pre:∀{rs:Rs PV},(ifM ((index w (.int 0)).bind fun v20=>(zac .Eq v20 (.str "between")))
   (ifM (orM (notM ((seqM [(M.ret a.pv),(index w (.int 1))]).bind fun v21=>(zaf GG 399 ⟨true,true⟩ AA.l_shown v21))) (notM ((seqM [(index w (.int 1)),(M.ret b.pv)]).bind fun v22=>(zaf GG 399 ⟨true,true⟩ AA.l_shown v22))))
   (M.ret (.bool false))
   (andM ((seqM [(M.ret (ans true a L).pv),(index w (.int 1))]).bind fun v23=>(zaf GG 399 ⟨true,true⟩ AA.l_shown v23)) (andM ((seqM [(index w (.int 1)),(M.ret (ans false b L).pv)]).bind fun v24=>(zaf GG 399 ⟨true,true⟩ AA.l_shown v24)) (zaf GG 399 ⟨true,true⟩ AA.l_leads [(ans true a L).pv,(ans false b L).pv]))))
   (ifM (notM (zaf GG 399 ⟨true,true⟩ AA.l_fits [(ans true a L).pv,(ans false b L).pv]))
   (M.ret (.bool true))
   ((zaf GG 399 ⟨true,true⟩ AA.leads [(ans true a L).pv,(ans false b L).pv]).bind fun v25=>
   (ifM ((index v25 (.int 0)).bind fun v26=>(zac .NotEq v26 (.str "setting")))
   (M.ret (.bool false))
   (((seqM [(index w (.int 1))]).bind fun v27=>(biM ⟨true,true⟩ false "dict" v27)).bind fun v28=>
   ((zcj ⟨true,true⟩ false "update" v28 (seqM [(index v25 (.int 1))])).bind fun _=>
   (andM (zaf GG 399 ⟨true,true⟩ AA.l_true [(ans true a L).pv,v28]) (notM (zaf GG 399 ⟨true,true⟩ AA.l_true [(ans false b L).pv,v28])))))))) ) ([]++τ1++τ2++τ3)=rs→zaf GG 400 ⟨true,true⟩ AA.law [.lst (is.map .int)] []=rs:=fun h=>by
  refine at_ (zag (zqt _ _ _)) ?_
  unfold zpP
  exact at_ (tr (bd (tr (bd (sq2 (hc 1 (by decide)) (tr (bd (tr (bd (hc 0 (by decide))) (zbr _ _ (by decide) hm))) (tr (add_int _ _ _) (i_eq (show (3:Int)+(m:Int)=((3+m:Nat):Int) by omega)))))) (zag hns))) (tr (c_t rfl) (tr (bd (tr (bd (sq2 (hc 2 (by decide)) rfl)) hp)) (bd cL)))) (tr (zab (at_ (bd (sq2 rfl hl)) es)) (tr (zab (at_ (bd (sq2 rfl hl)) et)) (tr (zab ew) h)))
 rcases hw with ⟨x,hx,I⟩ | ⟨j,kvs,hx,D⟩
 ·have h3:∀ f,(ans true a L).tv f=true→x.tv f=true:=fun f hf=>by
   obtain ⟨g,h1,h2⟩:=znN hf
   rw [← zbk (f:=g) x fun y hy=>h1 y (Lh y (I.na y hy) (I.nb y hy))]
   exact I.fa g h2
  have h2:∀ f,x.tv f=true→b.tv f=true:=fun f hf=>by
   cases z:b.tv f with
   | true=>rfl
   | false=>rw [I.fb f z] at hf;cases hf
  have h4:∀ f,x.tv f=true→(ans false b L).tv f=true:=fun f hf=>by
   cases z:(ans false b L).tv f with
   | true=>rfl
   | false=>
    obtain ⟨g,h1,h2⟩:=znN z
    have:=I.fb g h2
    rw [zbk (g:=f) x fun y hy=>h1 y (Lh y (I.na y hy) (I.nb y hy)),hf] at this;cases this
  obtain ⟨σ',h⟩:=zoz (σ:=[]++τ1++τ2++τ3) hx MA MB ⟨I.ok,Nat.le_trans I.dep (by decide),I.sz⟩ MS MT I.fa h2 h3 h4
  exact ⟨σ',pre (at_ (if_t (by rw [hx];exact tr (bd (ix_0 _ _)) (by kernel_rfl))) h)⟩
 ·obtain ⟨σ',h⟩:=zox (σ:=[]++τ1++τ2++τ3) hx D (zec A.ok B.ok (by omega)) MS MT (fun f hf=>znM hf) (fun f hf=>znM hf)
  exact ⟨σ',pre (at_ (if_f (by rw [hx];exact tr (bd (ix_0 _ _)) (by kernel_rfl))) h)⟩
end
end Mine
namespace Mine
open PySem PySem.W PyProof.Rows
noncomputable def PG:Program:=PySem.Challenge.rw_uf010027_13.row.toRowW.1
noncomputable def BD:List Stmt:=PG.main.body
noncomputable def sA(i:Nat):Stmt:=match BD[i]? with | some s=>s | Option.none=>.Pass ⟨0,0,0,0⟩
noncomputable def vs(x:String)(t:Nat):Value:=.str (Str.ofString x) t
noncomputable def de(P:Params)(x:String)(t:Nat)(v:Value):DictEntry:={ hash:=PyData.keyHash P (Str.ofString x),key:=.str (Str.ofString x) t,val:=v }
noncomputable def fdM(k:Nat)(g:Addr)(m c:Value):FuncData:=match sA k with
 | .FunctionDef n a b _ _ _ sc _ _ _=>{ name:=n,qualname:=n,params:=a,body:=.stmts b,scope:=sc,globals:=g,closure:=[],defaults:=.none,kwdefaults:=.none,pyModule:=m,code:=c }
 | _=>default
noncomputable def i0:Value:=.int 0 0
noncomputable def o43(P:Params):Obj:={ cls:=.type "tuple",data:=Data.seq #[] }
noncomputable def o44(P:Params):Obj:={ cls:=.none,data:=Data.fields #[] }
noncomputable def o45(P:Params):Obj:={ cls:=.type "code",data:=Data.fields #[vs "<module>" 182,vs "<module>" 183,vs "/claim/cut.py" 184,.int 1 0,i0,i0,i0,i0,.ref 11,.bool false,.int 181 0,.ref 12,.none,.none,.none,.none,.int 185 0,.int 1 0,vs "/claim/cut.py" 186] }
noncomputable def o46(P:Params):Obj:={ cls:=.type "frame",slots:=#[some (.ref 13),some (.ref 3),some (.ref 3),none,some (vs "__main__" 164),none,some (.ref 0)] }
noncomputable def o49(P:Params):Obj:={ cls:=.type "dict",data:=Data.dict #[de P "__name__" 165 (vs "middlesay.errors" 187),de P "__doc__" 166 .none,de P "__package__" 167 .none,de P "__loader__" 168 (.builtin "__main__.__loader__#opaque"),de P "__spec__" 169 .none,de P "__annotations__" 170 (.ref 6),de P "__builtins__" 171 (.ref 4),de P "__file__" 173 (vs "/claim/cut.py" 172),de P "__cached__" 174 .none,de P "SayError" 206 (.ref 24)] 10 }
noncomputable def o50(P:Params):Obj:={ cls:=.none,data:=Data.fields #[.int 2 0,i0,.ref 20] }
noncomputable def o51(P:Params):Obj:={ cls:=.type "tuple",data:=Data.seq #[.type "ValueError"] }
noncomputable def o52(P:Params):Obj:={ cls:=.type "builtin_function_or_method",data:=Data.fields #[.builtin "type.__prepare__",.type "type"] }
noncomputable def o53(P:Params):Obj:={ cls:=.type "dict",data:=Data.dict #[de P "__module__" 196 (vs "middlesay.errors" 187),de P "__qualname__" 198 (vs "SayError" 197),de P "__firstlineno__" 200 (.int 2 199),de P "__static_attributes__" 201 (.ref 22)] 4 }
noncomputable def o54(P:Params):Obj:={ cls:=.type "tuple",data:=Data.seq #[] }
noncomputable def o55(P:Params):Obj:={ cls:=.none,data:=Data.fields #[] }
noncomputable def o56(P:Params):Obj:={ cls:=.type "code",data:=Data.fields #[vs "SayError" 191,vs "SayError" 192,vs "/claim/cut.py" 193,.int 2 0,i0,i0,i0,i0,.ref 18,.bool false,.int 181 0,.ref 19,.none,.none,.none,.none,.int 194 0,.int 2 0,vs "/claim/cut.py" 195] }
noncomputable def o57(P:Params):Obj:={ cls:=.type "frame",slots:=#[some (.ref 20),some (.ref 3),some (.ref 17),none,some (vs "middlesay.errors" 187),none,some (.ref 0)] }
noncomputable def o58(P:Params):Obj:={ cls:=.type "tuple",data:=Data.seq #[] }
noncomputable def o59(P:Params):Obj:={ cls:=.type "dict",data:=Data.dict #[de P "__module__" 196 (vs "middlesay.errors" 187),de P "__firstlineno__" 200 (.int 2 199),de P "__static_attributes__" 201 (.ref 22),de P "__weakref__" 203 (.ref 25),de P "__doc__" 204 .none] 3 }
noncomputable def o60(P:Params):Obj:={ cls:=.type "type",data:=Data.cls { name:=Str.ofString "SayError",bases:=[.type "ValueError"],mro:=[.ref 24,.type "ValueError",.type "Exception",.type "BaseException",.type "object"],ns:=23,qualname:=Str.ofString "SayError" },slots:=#[some (.ref 15),none,some (vs "SayError" 189),some (vs "SayError" 197),some (.builtin "ValueError.__new__"),some (.bool true)] }
noncomputable def o61(P:Params):Obj:={ cls:=.type "getset_descriptor",data:=Data.fields #[vs "__weakref__" 202,.ref 24,.builtin "ExceptionGroup.__weakref__",.none] }
noncomputable def o62(P:Params):Obj:={ cls:=.type "super",data:=Data.fields #[.ref 24,.ref 24,.ref 24] }
noncomputable def o63(P:Params):Obj:={ cls:=.type "builtin_function_or_method",data:=Data.fields #[.builtin "object.__init_subclass__",.ref 24] }
noncomputable def o64(P:Params):Obj:={ cls:=.type "dict",data:=Data.dict #[de P "__name__" 165 (vs "middlesay.errors" 187),de P "__doc__" 166 .none,de P "__package__" 167 .none,de P "__loader__" 168 (.builtin "__main__.__loader__#opaque"),de P "__spec__" 169 .none,de P "__annotations__" 170 (.ref 6),de P "__builtins__" 171 (.ref 4),de P "__file__" 173 (vs "/claim/cut.py" 172),de P "__cached__" 174 .none,de P "SayError" 206 (.ref 24),de P "BadSaying" 222 (.ref 37)] 11 }
noncomputable def o65(P:Params):Obj:={ cls:=.none,data:=Data.fields #[.int 2 0,i0,.ref 20,.int 4 0,i0,.ref 33] }
noncomputable def o66(P:Params):Obj:={ cls:=.type "type",data:=Data.cls { name:=Str.ofString "SayError",bases:=[.type "ValueError"],mro:=[.ref 24,.type "ValueError",.type "Exception",.type "BaseException",.type "object"],ns:=23,qualname:=Str.ofString "SayError",subclasses:=[.ref 37] },slots:=#[some (.ref 15),none,some (vs "SayError" 189),some (vs "SayError" 197),some (.builtin "ValueError.__new__"),some (.bool true)] }
noncomputable def o67(P:Params):Obj:={ cls:=.type "tuple",data:=Data.seq #[.ref 24] }
noncomputable def o68(P:Params):Obj:={ cls:=.type "builtin_function_or_method",data:=Data.fields #[.builtin "type.__prepare__",.type "type"] }
noncomputable def o69(P:Params):Obj:={ cls:=.type "dict",data:=Data.dict #[de P "__module__" 214 (vs "middlesay.errors" 187),de P "__qualname__" 216 (vs "BadSaying" 215),de P "__firstlineno__" 218 (.int 4 217),de P "__static_attributes__" 219 (.ref 35)] 4 }
noncomputable def o70(P:Params):Obj:={ cls:=.type "tuple",data:=Data.seq #[] }
noncomputable def o71(P:Params):Obj:={ cls:=.none,data:=Data.fields #[] }
noncomputable def o72(P:Params):Obj:={ cls:=.type "code",data:=Data.fields #[vs "BadSaying" 209,vs "BadSaying" 210,vs "/claim/cut.py" 211,.int 4 0,i0,i0,i0,i0,.ref 31,.bool false,.int 181 0,.ref 32,.none,.none,.none,.none,.int 212 0,.int 4 0,vs "/claim/cut.py" 213] }
noncomputable def o73(P:Params):Obj:={ cls:=.type "frame",slots:=#[some (.ref 33),some (.ref 3),some (.ref 30),none,some (vs "middlesay.errors" 187),none,some (.ref 0)] }
noncomputable def o74(P:Params):Obj:={ cls:=.type "tuple",data:=Data.seq #[] }
noncomputable def o75(P:Params):Obj:={ cls:=.type "dict",data:=Data.dict #[de P "__module__" 214 (vs "middlesay.errors" 187),de P "__firstlineno__" 218 (.int 4 217),de P "__static_attributes__" 219 (.ref 35),de P "__doc__" 220 .none] 2 }
noncomputable def o76(P:Params):Obj:={ cls:=.type "type",data:=Data.cls { name:=Str.ofString "BadSaying",bases:=[.ref 24],mro:=[.ref 37,.ref 24,.type "ValueError",.type "Exception",.type "BaseException",.type "object"],ns:=36,qualname:=Str.ofString "BadSaying" },slots:=#[some (.ref 28),none,some (vs "BadSaying" 207),some (vs "BadSaying" 215),some (.builtin "ValueError.__new__"),some (.bool true)] }
noncomputable def o77(P:Params):Obj:={ cls:=.type "super",data:=Data.fields #[.ref 37,.ref 37,.ref 37] }
noncomputable def o78(P:Params):Obj:={ cls:=.type "builtin_function_or_method",data:=Data.fields #[.builtin "object.__init_subclass__",.ref 37] }
noncomputable def o79(P:Params):Obj:={ cls:=.type "dict",data:=Data.dict #[de P "__name__" 165 (vs "middlesay.errors" 187),de P "__doc__" 166 .none,de P "__package__" 167 .none,de P "__loader__" 168 (.builtin "__main__.__loader__#opaque"),de P "__spec__" 169 .none,de P "__annotations__" 170 (.ref 6),de P "__builtins__" 171 (.ref 4),de P "__file__" 173 (vs "/claim/cut.py" 172),de P "__cached__" 174 .none,de P "SayError" 206 (.ref 24),de P "BadSaying" 222 (.ref 37),de P "BadRow" 238 (.ref 49)] 12 }
noncomputable def o80(P:Params):Obj:={ cls:=.none,data:=Data.fields #[.int 2 0,i0,.ref 20,.int 4 0,i0,.ref 33,.int 6 0,i0,.ref 45] }
noncomputable def o81(P:Params):Obj:={ cls:=.type "type",data:=Data.cls { name:=Str.ofString "SayError",bases:=[.type "ValueError"],mro:=[.ref 24,.type "ValueError",.type "Exception",.type "BaseException",.type "object"],ns:=23,qualname:=Str.ofString "SayError",subclasses:=[.ref 37,.ref 49] },slots:=#[some (.ref 15),none,some (vs "SayError" 189),some (vs "SayError" 197),some (.builtin "ValueError.__new__"),some (.bool true)] }
noncomputable def o82(P:Params):Obj:={ cls:=.type "tuple",data:=Data.seq #[.ref 24] }
noncomputable def o83(P:Params):Obj:={ cls:=.type "builtin_function_or_method",data:=Data.fields #[.builtin "type.__prepare__",.type "type"] }
noncomputable def o84(P:Params):Obj:={ cls:=.type "dict",data:=Data.dict #[de P "__module__" 230 (vs "middlesay.errors" 187),de P "__qualname__" 232 (vs "BadRow" 231),de P "__firstlineno__" 234 (.int 6 233),de P "__static_attributes__" 235 (.ref 47)] 4 }
noncomputable def o85(P:Params):Obj:={ cls:=.type "tuple",data:=Data.seq #[] }
noncomputable def o86(P:Params):Obj:={ cls:=.none,data:=Data.fields #[] }
noncomputable def o87(P:Params):Obj:={ cls:=.type "code",data:=Data.fields #[vs "BadRow" 225,vs "BadRow" 226,vs "/claim/cut.py" 227,.int 6 0,i0,i0,i0,i0,.ref 43,.bool false,.int 181 0,.ref 44,.none,.none,.none,.none,.int 228 0,.int 6 0,vs "/claim/cut.py" 229] }
noncomputable def o88(P:Params):Obj:={ cls:=.type "frame",slots:=#[some (.ref 45),some (.ref 3),some (.ref 42),none,some (vs "middlesay.errors" 187),none,some (.ref 0)] }
noncomputable def o89(P:Params):Obj:={ cls:=.type "tuple",data:=Data.seq #[] }
noncomputable def o90(P:Params):Obj:={ cls:=.type "dict",data:=Data.dict #[de P "__module__" 230 (vs "middlesay.errors" 187),de P "__firstlineno__" 234 (.int 6 233),de P "__static_attributes__" 235 (.ref 47),de P "__doc__" 236 .none] 2 }
noncomputable def o91(P:Params):Obj:={ cls:=.type "type",data:=Data.cls { name:=Str.ofString "BadRow",bases:=[.ref 24],mro:=[.ref 49,.ref 24,.type "ValueError",.type "Exception",.type "BaseException",.type "object"],ns:=48,qualname:=Str.ofString "BadRow" },slots:=#[some (.ref 40),none,some (vs "BadRow" 223),some (vs "BadRow" 231),some (.builtin "ValueError.__new__"),some (.bool true)] }
noncomputable def o92(P:Params):Obj:={ cls:=.type "super",data:=Data.fields #[.ref 49,.ref 49,.ref 49] }
noncomputable def o93(P:Params):Obj:={ cls:=.type "builtin_function_or_method",data:=Data.fields #[.builtin "object.__init_subclass__",.ref 49] }
noncomputable def o94(P:Params):Obj:={ cls:=.type "dict",data:=Data.dict #[de P "__name__" 165 (vs "middlesay.errors" 187),de P "__doc__" 166 .none,de P "__package__" 167 .none,de P "__loader__" 168 (.builtin "__main__.__loader__#opaque"),de P "__spec__" 169 .none,de P "__annotations__" 170 (.ref 6),de P "__builtins__" 171 (.ref 4),de P "__file__" 173 (vs "/claim/cut.py" 172),de P "__cached__" 174 .none,de P "SayError" 206 (.ref 24),de P "BadSaying" 222 (.ref 37),de P "BadRow" 238 (.ref 49),de P "BadTree" 254 (.ref 61)] 13 }
noncomputable def o95(P:Params):Obj:={ cls:=.none,data:=Data.fields #[.int 2 0,i0,.ref 20,.int 4 0,i0,.ref 33,.int 6 0,i0,.ref 45,.int 8 0,i0,.ref 57] }
noncomputable def o96(P:Params):Obj:={ cls:=.type "type",data:=Data.cls { name:=Str.ofString "SayError",bases:=[.type "ValueError"],mro:=[.ref 24,.type "ValueError",.type "Exception",.type "BaseException",.type "object"],ns:=23,qualname:=Str.ofString "SayError",subclasses:=[.ref 37,.ref 49,.ref 61] },slots:=#[some (.ref 15),none,some (vs "SayError" 189),some (vs "SayError" 197),some (.builtin "ValueError.__new__"),some (.bool true)] }
noncomputable def o97(P:Params):Obj:={ cls:=.type "tuple",data:=Data.seq #[.ref 24] }
noncomputable def o98(P:Params):Obj:={ cls:=.type "builtin_function_or_method",data:=Data.fields #[.builtin "type.__prepare__",.type "type"] }
noncomputable def o99(P:Params):Obj:={ cls:=.type "dict",data:=Data.dict #[de P "__module__" 246 (vs "middlesay.errors" 187),de P "__qualname__" 248 (vs "BadTree" 247),de P "__firstlineno__" 250 (.int 8 249),de P "__static_attributes__" 251 (.ref 59)] 4 }
noncomputable def o100(P:Params):Obj:={ cls:=.type "tuple",data:=Data.seq #[] }
noncomputable def o101(P:Params):Obj:={ cls:=.none,data:=Data.fields #[] }
noncomputable def o102(P:Params):Obj:={ cls:=.type "code",data:=Data.fields #[vs "BadTree" 241,vs "BadTree" 242,vs "/claim/cut.py" 243,.int 8 0,i0,i0,i0,i0,.ref 55,.bool false,.int 181 0,.ref 56,.none,.none,.none,.none,.int 244 0,.int 8 0,vs "/claim/cut.py" 245] }
noncomputable def o103(P:Params):Obj:={ cls:=.type "frame",slots:=#[some (.ref 57),some (.ref 3),some (.ref 54),none,some (vs "middlesay.errors" 187),none,some (.ref 0)] }
noncomputable def o104(P:Params):Obj:={ cls:=.type "tuple",data:=Data.seq #[] }
noncomputable def o105(P:Params):Obj:={ cls:=.type "dict",data:=Data.dict #[de P "__module__" 246 (vs "middlesay.errors" 187),de P "__firstlineno__" 250 (.int 8 249),de P "__static_attributes__" 251 (.ref 59),de P "__doc__" 252 .none] 2 }
noncomputable def o106(P:Params):Obj:={ cls:=.type "type",data:=Data.cls { name:=Str.ofString "BadTree",bases:=[.ref 24],mro:=[.ref 61,.ref 24,.type "ValueError",.type "Exception",.type "BaseException",.type "object"],ns:=60,qualname:=Str.ofString "BadTree" },slots:=#[some (.ref 52),none,some (vs "BadTree" 239),some (vs "BadTree" 247),some (.builtin "ValueError.__new__"),some (.bool true)] }
noncomputable def o107(P:Params):Obj:={ cls:=.type "super",data:=Data.fields #[.ref 61,.ref 61,.ref 61] }
noncomputable def o108(P:Params):Obj:={ cls:=.type "builtin_function_or_method",data:=Data.fields #[.builtin "object.__init_subclass__",.ref 61] }
noncomputable def o109(P:Params):Obj:={ cls:=.type "dict",data:=Data.dict #[de P "__name__" 165 (vs "middlesay.errors" 187),de P "__doc__" 166 .none,de P "__package__" 167 .none,de P "__loader__" 168 (.builtin "__main__.__loader__#opaque"),de P "__spec__" 169 .none,de P "__annotations__" 170 (.ref 6),de P "__builtins__" 171 (.ref 4),de P "__file__" 173 (vs "/claim/cut.py" 172),de P "__cached__" 174 .none,de P "SayError" 206 (.ref 24),de P "BadSaying" 222 (.ref 37),de P "BadRow" 238 (.ref 49),de P "BadTree" 254 (.ref 61),de P "BadCut" 270 (.ref 73)] 14 }
noncomputable def o110(P:Params):Obj:={ cls:=.none,data:=Data.fields #[.int 2 0,i0,.ref 20,.int 4 0,i0,.ref 33,.int 6 0,i0,.ref 45,.int 8 0,i0,.ref 57,.int 10 0,i0,.ref 69] }
noncomputable def o111(P:Params):Obj:={ cls:=.type "type",data:=Data.cls { name:=Str.ofString "SayError",bases:=[.type "ValueError"],mro:=[.ref 24,.type "ValueError",.type "Exception",.type "BaseException",.type "object"],ns:=23,qualname:=Str.ofString "SayError",subclasses:=[.ref 37,.ref 49,.ref 61,.ref 73] },slots:=#[some (.ref 15),none,some (vs "SayError" 189),some (vs "SayError" 197),some (.builtin "ValueError.__new__"),some (.bool true)] }
noncomputable def o112(P:Params):Obj:={ cls:=.type "tuple",data:=Data.seq #[.ref 24] }
noncomputable def o113(P:Params):Obj:={ cls:=.type "builtin_function_or_method",data:=Data.fields #[.builtin "type.__prepare__",.type "type"] }
noncomputable def o114(P:Params):Obj:={ cls:=.type "dict",data:=Data.dict #[de P "__module__" 262 (vs "middlesay.errors" 187),de P "__qualname__" 264 (vs "BadCut" 263),de P "__firstlineno__" 266 (.int 10 265),de P "__static_attributes__" 267 (.ref 71)] 4 }
noncomputable def o115(P:Params):Obj:={ cls:=.type "tuple",data:=Data.seq #[] }
noncomputable def o116(P:Params):Obj:={ cls:=.none,data:=Data.fields #[] }
noncomputable def o117(P:Params):Obj:={ cls:=.type "code",data:=Data.fields #[vs "BadCut" 257,vs "BadCut" 258,vs "/claim/cut.py" 259,.int 10 0,i0,i0,i0,i0,.ref 67,.bool false,.int 181 0,.ref 68,.none,.none,.none,.none,.int 260 0,.int 10 0,vs "/claim/cut.py" 261] }
noncomputable def o118(P:Params):Obj:={ cls:=.type "frame",slots:=#[some (.ref 69),some (.ref 3),some (.ref 66),none,some (vs "middlesay.errors" 187),none,some (.ref 0)] }
noncomputable def o119(P:Params):Obj:={ cls:=.type "tuple",data:=Data.seq #[] }
noncomputable def o120(P:Params):Obj:={ cls:=.type "dict",data:=Data.dict #[de P "__module__" 262 (vs "middlesay.errors" 187),de P "__firstlineno__" 266 (.int 10 265),de P "__static_attributes__" 267 (.ref 71),de P "__doc__" 268 .none] 2 }
noncomputable def o121(P:Params):Obj:={ cls:=.type "type",data:=Data.cls { name:=Str.ofString "BadCut",bases:=[.ref 24],mro:=[.ref 73,.ref 24,.type "ValueError",.type "Exception",.type "BaseException",.type "object"],ns:=72,qualname:=Str.ofString "BadCut" },slots:=#[some (.ref 64),none,some (vs "BadCut" 255),some (vs "BadCut" 263),some (.builtin "ValueError.__new__"),some (.bool true)] }
noncomputable def o122(P:Params):Obj:={ cls:=.type "super",data:=Data.fields #[.ref 73,.ref 73,.ref 73] }
noncomputable def o123(P:Params):Obj:={ cls:=.type "builtin_function_or_method",data:=Data.fields #[.builtin "object.__init_subclass__",.ref 73] }
noncomputable def o124(P:Params):Obj:={ cls:=.type "dict",data:=Data.dict #[de P "__name__" 165 (vs "middlesay.sayings" 287),de P "__doc__" 166 .none,de P "__package__" 167 .none,de P "__loader__" 168 (.builtin "__main__.__loader__#opaque"),de P "__spec__" 169 .none,de P "__annotations__" 170 (.ref 6),de P "__builtins__" 171 (.ref 4),de P "__file__" 173 (vs "/claim/cut.py" 172),de P "__cached__" 174 .none,de P "SayError" 206 (.ref 24),de P "BadSaying" 222 (.ref 37),de P "BadRow" 238 (.ref 49),de P "BadTree" 254 (.ref 61),de P "BadCut" 270 (.ref 73),de P "BadNames" 286 (.ref 85),de P "LETTERS" 290 (vs "abcdefghijklmnopqrstuvwxyz" 289),de P "TOLD" 296 (.ref 88),de P "MOST_LETTERS" 298 (.int 6 297),de P "MOST_DEEP" 300 (.int 100 299),de P "is_whole" 307 (.ref 95),de P "is_name" 313 (.ref 100),de P "is_within" 321 (.ref 107),de P "is_saying" 328 (.ref 114)] 23 }
noncomputable def o125(P:Params):Obj:={ cls:=.none,data:=Data.fields #[.int 2 0,i0,.ref 20,.int 4 0,i0,.ref 33,.int 6 0,i0,.ref 45,.int 8 0,i0,.ref 57,.int 10 0,i0,.ref 69,.int 12 0,i0,.ref 81,.int 19 0,i0,.ref 94,.int 21 0,i0,.ref 99,.int 25 0,i0,.ref 106,.int 37 0,i0,.ref 113] }
noncomputable def o126(P:Params):Obj:={ cls:=.type "type",data:=Data.cls { name:=Str.ofString "SayError",bases:=[.type "ValueError"],mro:=[.ref 24,.type "ValueError",.type "Exception",.type "BaseException",.type "object"],ns:=23,qualname:=Str.ofString "SayError",subclasses:=[.ref 37,.ref 49,.ref 61,.ref 73,.ref 85] },slots:=#[some (.ref 15),none,some (vs "SayError" 189),some (vs "SayError" 197),some (.builtin "ValueError.__new__"),some (.bool true)] }
noncomputable def o127(P:Params):Obj:={ cls:=.type "tuple",data:=Data.seq #[.ref 24] }
noncomputable def o128(P:Params):Obj:={ cls:=.type "builtin_function_or_method",data:=Data.fields #[.builtin "type.__prepare__",.type "type"] }
noncomputable def o129(P:Params):Obj:={ cls:=.type "dict",data:=Data.dict #[de P "__module__" 278 (vs "middlesay.errors" 187),de P "__qualname__" 280 (vs "BadNames" 279),de P "__firstlineno__" 282 (.int 12 281),de P "__static_attributes__" 283 (.ref 83)] 4 }
noncomputable def o130(P:Params):Obj:={ cls:=.type "tuple",data:=Data.seq #[] }
noncomputable def o131(P:Params):Obj:={ cls:=.none,data:=Data.fields #[] }
noncomputable def o132(P:Params):Obj:={ cls:=.type "code",data:=Data.fields #[vs "BadNames" 273,vs "BadNames" 274,vs "/claim/cut.py" 275,.int 12 0,i0,i0,i0,i0,.ref 79,.bool false,.int 181 0,.ref 80,.none,.none,.none,.none,.int 276 0,.int 12 0,vs "/claim/cut.py" 277] }
noncomputable def o133(P:Params):Obj:={ cls:=.type "frame",slots:=#[some (.ref 81),some (.ref 3),some (.ref 78),none,some (vs "middlesay.errors" 187),none,some (.ref 0)] }
noncomputable def o134(P:Params):Obj:={ cls:=.type "tuple",data:=Data.seq #[] }
noncomputable def o135(P:Params):Obj:={ cls:=.type "dict",data:=Data.dict #[de P "__module__" 278 (vs "middlesay.errors" 187),de P "__firstlineno__" 282 (.int 12 281),de P "__static_attributes__" 283 (.ref 83),de P "__doc__" 284 .none] 2 }
noncomputable def o136(P:Params):Obj:={ cls:=.type "type",data:=Data.cls { name:=Str.ofString "BadNames",bases:=[.ref 24],mro:=[.ref 85,.ref 24,.type "ValueError",.type "Exception",.type "BaseException",.type "object"],ns:=84,qualname:=Str.ofString "BadNames" },slots:=#[some (.ref 76),none,some (vs "BadNames" 271),some (vs "BadNames" 279),some (.builtin "ValueError.__new__"),some (.bool true)] }
noncomputable def o137(P:Params):Obj:={ cls:=.type "super",data:=Data.fields #[.ref 85,.ref 85,.ref 85] }
noncomputable def o138(P:Params):Obj:={ cls:=.type "builtin_function_or_method",data:=Data.fields #[.builtin "object.__init_subclass__",.ref 85] }
noncomputable def o139(P:Params):Obj:={ cls:=.type "tuple",data:=Data.seq #[vs "yes" 291,vs "no" 292,vs "not" 293,vs "and" 294,vs "or" 295] }
noncomputable def o140(P:Params):Obj:={ cls:=.type "tuple",data:=Data.seq #[] }
noncomputable def o141(P:Params):Obj:={ cls:=.none,data:=Data.fields #[] }
noncomputable def o142(P:Params):Obj:={ cls:=.type "tuple",data:=Data.seq #[vs "thing" 304] }
noncomputable def o143(P:Params):Obj:={ cls:=.type "tuple",data:=Data.seq #[] }
noncomputable def o144(P:Params):Obj:={ cls:=.none,data:=Data.func (fdM 12 0 .none .none) }
noncomputable def o145(P:Params):Obj:={ cls:=.type "code",data:=Data.fields #[vs "is_whole" 301,vs "is_whole" 302,vs "/claim/cut.py" 303,.int 19 0,.int 1 0,i0,i0,.int 3 0,.ref 89,.bool true,.int 181 0,.ref 90,.none,.ref 91,.ref 92,.ref 93,.int 305 0,.int 19 0,vs "/claim/cut.py" 306] }
noncomputable def o146(P:Params):Obj:={ cls:=.type "function",data:=Data.func (fdM 12 3 (vs "middlesay.sayings" 287) (.ref 94)) }
noncomputable def o147(P:Params):Obj:={ cls:=.type "tuple",data:=Data.seq #[] }
noncomputable def o148(P:Params):Obj:={ cls:=.none,data:=Data.fields #[] }
noncomputable def o149(P:Params):Obj:={ cls:=.none,data:=Data.func (fdM 13 0 .none .none) }
noncomputable def o150(P:Params):Obj:={ cls:=.type "code",data:=Data.fields #[vs "is_name" 308,vs "is_name" 309,vs "/claim/cut.py" 310,.int 21 0,.int 1 0,i0,i0,.int 3 0,.ref 96,.bool true,.int 181 0,.ref 97,.none,.none,.none,.ref 98,.int 311 0,.int 21 0,vs "/claim/cut.py" 312] }
noncomputable def o151(P:Params):Obj:={ cls:=.type "function",data:=Data.func (fdM 13 3 (vs "middlesay.sayings" 287) (.ref 99)) }
noncomputable def o152(P:Params):Obj:={ cls:=.type "tuple",data:=Data.seq #[] }
noncomputable def o153(P:Params):Obj:={ cls:=.none,data:=Data.fields #[] }
noncomputable def o154(P:Params):Obj:={ cls:=.type "tuple",data:=Data.seq #[vs "thing" 317,vs "deep" 318] }
noncomputable def o155(P:Params):Obj:={ cls:=.type "tuple",data:=Data.seq #[] }
noncomputable def o156(P:Params):Obj:={ cls:=.none,data:=Data.func (fdM 14 0 .none .none) }
noncomputable def o157(P:Params):Obj:={ cls:=.type "code",data:=Data.fields #[vs "is_within" 314,vs "is_within" 315,vs "/claim/cut.py" 316,.int 25 0,.int 2 0,i0,i0,.int 3 0,.ref 101,.bool true,.int 181 0,.ref 102,.none,.ref 103,.ref 104,.ref 105,.int 319 0,.int 25 0,vs "/claim/cut.py" 320] }
noncomputable def o158(P:Params):Obj:={ cls:=.type "function",data:=Data.func (fdM 14 3 (vs "middlesay.sayings" 287) (.ref 106)) }
noncomputable def o159(P:Params):Obj:={ cls:=.type "tuple",data:=Data.seq #[] }
noncomputable def o160(P:Params):Obj:={ cls:=.none,data:=Data.fields #[] }
noncomputable def o161(P:Params):Obj:={ cls:=.type "tuple",data:=Data.seq #[vs "thing" 325] }
noncomputable def o162(P:Params):Obj:={ cls:=.type "tuple",data:=Data.seq #[] }
noncomputable def o163(P:Params):Obj:={ cls:=.none,data:=Data.func (fdM 15 0 .none .none) }
noncomputable def o164(P:Params):Obj:={ cls:=.type "code",data:=Data.fields #[vs "is_saying" 322,vs "is_saying" 323,vs "/claim/cut.py" 324,.int 37 0,.int 1 0,i0,i0,.int 3 0,.ref 108,.bool true,.int 181 0,.ref 109,.none,.ref 110,.ref 111,.ref 112,.int 326 0,.int 37 0,vs "/claim/cut.py" 327] }
noncomputable def o165(P:Params):Obj:={ cls:=.type "function",data:=Data.func (fdM 15 3 (vs "middlesay.sayings" 287) (.ref 113)) }
noncomputable def o166(P:Params):Obj:={ cls:=.type "dict",data:=Data.dict #[de P "__name__" 165 (vs "middlesay.trees" 397),de P "__doc__" 166 .none,de P "__package__" 167 .none,de P "__loader__" 168 (.builtin "__main__.__loader__#opaque"),de P "__spec__" 169 .none,de P "__annotations__" 170 (.ref 6),de P "__builtins__" 171 (.ref 4),de P "__file__" 173 (vs "/claim/cut.py" 172),de P "__cached__" 174 .none,de P "SayError" 206 (.ref 24),de P "BadSaying" 222 (.ref 37),de P "BadRow" 238 (.ref 49),de P "BadTree" 254 (.ref 61),de P "BadCut" 270 (.ref 73),de P "BadNames" 286 (.ref 85),de P "LETTERS" 290 (vs "abcdefghijklmnopqrstuvwxyz" 289),de P "TOLD" 296 (.ref 88),de P "MOST_LETTERS" 298 (.int 6 297),de P "MOST_DEEP" 300 (.int 100 299),de P "is_whole" 307 (.ref 95),de P "is_name" 313 (.ref 100),de P "is_within" 321 (.ref 107),de P "is_saying" 328 (.ref 114),de P "need_saying" 335 (.ref 121),de P "halves" 342 (.ref 128),de P "size_in" 348 (.ref 133),de P "gather_names" 357 (.ref 140),de P "names_in" 366 (.ref 147),de P "MOST_SAYINGS" 370 (.int 6 369),de P "MOST_SIZE_claims" 372 (.int 60 371),de P "need_row" 378 (.ref 152),de P "begun" 384 (.ref 157),de P "parts" 396 (.ref 164),de P "same_claim" 406 (.ref 171),de P "without" 416 (.ref 178),de P "clashes" 424 (.ref 185),de P "stands_for" 435 (.ref 192)] 37 }
noncomputable def o167(P:Params):Obj:={ cls:=.none,data:=Data.fields #[.int 2 0,i0,.ref 20,.int 4 0,i0,.ref 33,.int 6 0,i0,.ref 45,.int 8 0,i0,.ref 57,.int 10 0,i0,.ref 69,.int 12 0,i0,.ref 81,.int 19 0,i0,.ref 94,.int 21 0,i0,.ref 99,.int 25 0,i0,.ref 106,.int 37 0,i0,.ref 113,.int 39 0,i0,.ref 120,.int 42 0,i0,.ref 127,.int 46 0,i0,.ref 132,.int 48 0,i0,.ref 139,.int 53 0,i0,.ref 146,.int 61 0,i0,.ref 151,.int 68 0,i0,.ref 156,.int 71 0,i0,.ref 163,.int 83 0,i0,.ref 170,.int 87 0,i0,.ref 177,.int 92 0,i0,.ref 184,.int 94 0,i0,.ref 191] }
noncomputable def o168(P:Params):Obj:={ cls:=.type "tuple",data:=Data.seq #[] }
noncomputable def o169(P:Params):Obj:={ cls:=.none,data:=Data.fields #[] }
noncomputable def o170(P:Params):Obj:={ cls:=.type "tuple",data:=Data.seq #[vs "thing" 332] }
noncomputable def o171(P:Params):Obj:={ cls:=.type "tuple",data:=Data.seq #[] }
noncomputable def o172(P:Params):Obj:={ cls:=.none,data:=Data.func (fdM 16 0 .none .none) }
noncomputable def o173(P:Params):Obj:={ cls:=.type "code",data:=Data.fields #[vs "need_saying" 329,vs "need_saying" 330,vs "/claim/cut.py" 331,.int 39 0,.int 1 0,i0,i0,.int 3 0,.ref 115,.bool true,.int 181 0,.ref 116,.none,.ref 117,.ref 118,.ref 119,.int 333 0,.int 39 0,vs "/claim/cut.py" 334] }
noncomputable def o174(P:Params):Obj:={ cls:=.type "function",data:=Data.func (fdM 16 3 (vs "middlesay.sayings" 287) (.ref 120)) }
noncomputable def o175(P:Params):Obj:={ cls:=.type "tuple",data:=Data.seq #[] }
noncomputable def o176(P:Params):Obj:={ cls:=.none,data:=Data.fields #[] }
noncomputable def o177(P:Params):Obj:={ cls:=.type "tuple",data:=Data.seq #[vs "saying" 339] }
noncomputable def o178(P:Params):Obj:={ cls:=.type "tuple",data:=Data.seq #[] }
noncomputable def o179(P:Params):Obj:={ cls:=.none,data:=Data.func (fdM 17 0 .none .none) }
noncomputable def o180(P:Params):Obj:={ cls:=.type "code",data:=Data.fields #[vs "halves" 336,vs "halves" 337,vs "/claim/cut.py" 338,.int 42 0,.int 1 0,i0,i0,.int 3 0,.ref 122,.bool true,.int 181 0,.ref 123,.none,.ref 124,.ref 125,.ref 126,.int 340 0,.int 42 0,vs "/claim/cut.py" 341] }
noncomputable def o181(P:Params):Obj:={ cls:=.type "function",data:=Data.func (fdM 17 3 (vs "middlesay.sayings" 287) (.ref 127)) }
noncomputable def o182(P:Params):Obj:={ cls:=.type "tuple",data:=Data.seq #[] }
noncomputable def o183(P:Params):Obj:={ cls:=.none,data:=Data.fields #[] }
noncomputable def o184(P:Params):Obj:={ cls:=.none,data:=Data.func (fdM 18 0 .none .none) }
noncomputable def o185(P:Params):Obj:={ cls:=.type "code",data:=Data.fields #[vs "size_in" 343,vs "size_in" 344,vs "/claim/cut.py" 345,.int 46 0,.int 1 0,i0,i0,.int 3 0,.ref 129,.bool true,.int 181 0,.ref 130,.none,.none,.none,.ref 131,.int 346 0,.int 46 0,vs "/claim/cut.py" 347] }
noncomputable def o186(P:Params):Obj:={ cls:=.type "function",data:=Data.func (fdM 18 3 (vs "middlesay.sayings" 287) (.ref 132)) }
noncomputable def o187(P:Params):Obj:={ cls:=.type "tuple",data:=Data.seq #[] }
noncomputable def o188(P:Params):Obj:={ cls:=.none,data:=Data.fields #[] }
noncomputable def o189(P:Params):Obj:={ cls:=.type "tuple",data:=Data.seq #[vs "saying" 352,vs "found" 353,vs "part" 354] }
noncomputable def o190(P:Params):Obj:={ cls:=.type "tuple",data:=Data.seq #[] }
noncomputable def o191(P:Params):Obj:={ cls:=.none,data:=Data.func (fdM 19 0 .none .none) }
noncomputable def o192(P:Params):Obj:={ cls:=.type "code",data:=Data.fields #[vs "gather_names" 349,vs "gather_names" 350,vs "/claim/cut.py" 351,.int 48 0,.int 2 0,i0,i0,.int 3 0,.ref 134,.bool true,.int 181 0,.ref 135,.none,.ref 136,.ref 137,.ref 138,.int 355 0,.int 48 0,vs "/claim/cut.py" 356] }
noncomputable def o193(P:Params):Obj:={ cls:=.type "function",data:=Data.func (fdM 19 3 (vs "middlesay.sayings" 287) (.ref 139)) }
noncomputable def o194(P:Params):Obj:={ cls:=.type "tuple",data:=Data.seq #[] }
noncomputable def o195(P:Params):Obj:={ cls:=.none,data:=Data.fields #[] }
noncomputable def o196(P:Params):Obj:={ cls:=.type "tuple",data:=Data.seq #[vs "sayings" 361,vs "found" 362,vs "saying" 363] }
noncomputable def o197(P:Params):Obj:={ cls:=.type "tuple",data:=Data.seq #[] }
noncomputable def o198(P:Params):Obj:={ cls:=.none,data:=Data.func (fdM 20 0 .none .none) }
noncomputable def o199(P:Params):Obj:={ cls:=.type "code",data:=Data.fields #[vs "names_in" 358,vs "names_in" 359,vs "/claim/cut.py" 360,.int 53 0,.int 1 0,i0,i0,.int 3 0,.ref 141,.bool true,.int 181 0,.ref 142,.none,.ref 143,.ref 144,.ref 145,.int 364 0,.int 53 0,vs "/claim/cut.py" 365] }
noncomputable def o200(P:Params):Obj:={ cls:=.type "function",data:=Data.func (fdM 20 3 (vs "middlesay.sayings" 287) (.ref 146)) }
noncomputable def o201(P:Params):Obj:={ cls:=.type "tuple",data:=Data.seq #[] }
noncomputable def o202(P:Params):Obj:={ cls:=.none,data:=Data.fields #[] }
noncomputable def o203(P:Params):Obj:={ cls:=.none,data:=Data.func (fdM 24 0 .none .none) }
noncomputable def o204(P:Params):Obj:={ cls:=.type "code",data:=Data.fields #[vs "need_row" 373,vs "need_row" 374,vs "/claim/cut.py" 375,.int 61 0,.int 1 0,i0,i0,.int 3 0,.ref 148,.bool true,.int 181 0,.ref 149,.none,.none,.none,.ref 150,.int 376 0,.int 61 0,vs "/claim/cut.py" 377] }
noncomputable def o205(P:Params):Obj:={ cls:=.type "function",data:=Data.func (fdM 24 3 (vs "middlesay.claims" 367) (.ref 151)) }
noncomputable def o206(P:Params):Obj:={ cls:=.type "tuple",data:=Data.seq #[] }
noncomputable def o207(P:Params):Obj:={ cls:=.none,data:=Data.fields #[] }
noncomputable def o208(P:Params):Obj:={ cls:=.none,data:=Data.func (fdM 25 0 .none .none) }
noncomputable def o209(P:Params):Obj:={ cls:=.type "code",data:=Data.fields #[vs "begun" 379,vs "begun" 380,vs "/claim/cut.py" 381,.int 68 0,.int 1 0,i0,i0,.int 3 0,.ref 153,.bool true,.int 181 0,.ref 154,.none,.none,.none,.ref 155,.int 382 0,.int 68 0,vs "/claim/cut.py" 383] }
noncomputable def o210(P:Params):Obj:={ cls:=.type "function",data:=Data.func (fdM 25 3 (vs "middlesay.claims" 367) (.ref 156)) }
noncomputable def o211(P:Params):Obj:={ cls:=.type "tuple",data:=Data.seq #[] }
noncomputable def o212(P:Params):Obj:={ cls:=.none,data:=Data.fields #[] }
noncomputable def o213(P:Params):Obj:={ cls:=.type "tuple",data:=Data.seq #[vs "claim" 388,vs "number" 389,vs "truth" 390,vs "saying" 391,vs "word" 392,vs "some" 393] }
noncomputable def o214(P:Params):Obj:={ cls:=.type "tuple",data:=Data.seq #[] }
noncomputable def o215(P:Params):Obj:={ cls:=.none,data:=Data.func (fdM 26 0 .none .none) }
noncomputable def o216(P:Params):Obj:={ cls:=.type "code",data:=Data.fields #[vs "parts" 385,vs "parts" 386,vs "/claim/cut.py" 387,.int 71 0,.int 1 0,i0,i0,.int 3 0,.ref 158,.bool true,.int 181 0,.ref 159,.none,.ref 160,.ref 161,.ref 162,.int 394 0,.int 71 0,vs "/claim/cut.py" 395] }
noncomputable def o217(P:Params):Obj:={ cls:=.type "function",data:=Data.func (fdM 26 3 (vs "middlesay.claims" 367) (.ref 163)) }
noncomputable def o218(P:Params):Obj:={ cls:=.type "tuple",data:=Data.seq #[] }
noncomputable def o219(P:Params):Obj:={ cls:=.none,data:=Data.fields #[] }
noncomputable def o220(P:Params):Obj:={ cls:=.type "tuple",data:=Data.seq #[vs "one" 402,vs "other" 403] }
noncomputable def o221(P:Params):Obj:={ cls:=.type "tuple",data:=Data.seq #[] }
noncomputable def o222(P:Params):Obj:={ cls:=.none,data:=Data.func (fdM 28 0 .none .none) }
noncomputable def o223(P:Params):Obj:={ cls:=.type "code",data:=Data.fields #[vs "same_claim" 399,vs "same_claim" 400,vs "/claim/cut.py" 401,.int 83 0,.int 2 0,i0,i0,.int 3 0,.ref 165,.bool true,.int 181 0,.ref 166,.none,.ref 167,.ref 168,.ref 169,.int 404 0,.int 83 0,vs "/claim/cut.py" 405] }
noncomputable def o224(P:Params):Obj:={ cls:=.type "function",data:=Data.func (fdM 28 3 (vs "middlesay.trees" 397) (.ref 170)) }
noncomputable def o225(P:Params):Obj:={ cls:=.type "tuple",data:=Data.seq #[] }
noncomputable def o226(P:Params):Obj:={ cls:=.none,data:=Data.fields #[] }
noncomputable def o227(P:Params):Obj:={ cls:=.type "tuple",data:=Data.seq #[vs "claims" 410,vs "claim" 411,vs "place" 412,vs "other" 413] }
noncomputable def o228(P:Params):Obj:={ cls:=.type "tuple",data:=Data.seq #[] }
noncomputable def o229(P:Params):Obj:={ cls:=.none,data:=Data.func (fdM 29 0 .none .none) }
noncomputable def o230(P:Params):Obj:={ cls:=.type "code",data:=Data.fields #[vs "without" 407,vs "without" 408,vs "/claim/cut.py" 409,.int 87 0,.int 2 0,i0,i0,.int 3 0,.ref 172,.bool true,.int 181 0,.ref 173,.none,.ref 174,.ref 175,.ref 176,.int 414 0,.int 87 0,vs "/claim/cut.py" 415] }
noncomputable def o231(P:Params):Obj:={ cls:=.type "function",data:=Data.func (fdM 29 3 (vs "middlesay.trees" 397) (.ref 177)) }
noncomputable def o232(P:Params):Obj:={ cls:=.type "tuple",data:=Data.seq #[] }
noncomputable def o233(P:Params):Obj:={ cls:=.none,data:=Data.fields #[] }
noncomputable def o234(P:Params):Obj:={ cls:=.type "tuple",data:=Data.seq #[vs "claim" 420,vs "other" 421] }
noncomputable def o235(P:Params):Obj:={ cls:=.type "tuple",data:=Data.seq #[] }
noncomputable def o236(P:Params):Obj:={ cls:=.none,data:=Data.func (fdM 30 0 .none .none) }
noncomputable def o237(P:Params):Obj:={ cls:=.type "code",data:=Data.fields #[vs "clashes" 417,vs "clashes" 418,vs "/claim/cut.py" 419,.int 92 0,.int 2 0,i0,i0,.int 3 0,.ref 179,.bool true,.int 181 0,.ref 180,.none,.ref 181,.ref 182,.ref 183,.int 422 0,.int 92 0,vs "/claim/cut.py" 423] }
noncomputable def o238(P:Params):Obj:={ cls:=.type "function",data:=Data.func (fdM 30 3 (vs "middlesay.trees" 397) (.ref 184)) }
noncomputable def o239(P:Params):Obj:={ cls:=.type "tuple",data:=Data.seq #[] }
noncomputable def o240(P:Params):Obj:={ cls:=.none,data:=Data.fields #[] }
noncomputable def o241(P:Params):Obj:={ cls:=.type "tuple",data:=Data.seq #[vs "claims" 428,vs "tree" 429,vs "left" 430,vs "kind" 431,vs "some" 432] }
noncomputable def o242(P:Params):Obj:={ cls:=.type "tuple",data:=Data.seq #[] }
noncomputable def o243(P:Params):Obj:={ cls:=.none,data:=Data.func (fdM 31 0 .none .none) }
noncomputable def o244(P:Params):Obj:={ cls:=.type "code",data:=Data.fields #[vs "stands_for" 425,vs "stands_for" 426,vs "/claim/cut.py" 427,.int 94 0,.int 2 0,i0,i0,.int 3 0,.ref 186,.bool true,.int 181 0,.ref 187,.none,.ref 188,.ref 189,.ref 190,.int 433 0,.int 94 0,vs "/claim/cut.py" 434] }
noncomputable def o245(P:Params):Obj:={ cls:=.type "function",data:=Data.func (fdM 31 3 (vs "middlesay.trees" 397) (.ref 191)) }
noncomputable def o246(P:Params):Obj:={ cls:=.type "dict",data:=Data.dict #[de P "__name__" 165 (vs "middlesay.leading" 534),de P "__doc__" 166 .none,de P "__package__" 167 .none,de P "__loader__" 168 (.builtin "__main__.__loader__#opaque"),de P "__spec__" 169 .none,de P "__annotations__" 170 (.ref 6),de P "__builtins__" 171 (.ref 4),de P "__file__" 173 (vs "/claim/cut.py" 172),de P "__cached__" 174 .none,de P "SayError" 206 (.ref 24),de P "BadSaying" 222 (.ref 37),de P "BadRow" 238 (.ref 49),de P "BadTree" 254 (.ref 61),de P "BadCut" 270 (.ref 73),de P "BadNames" 286 (.ref 85),de P "LETTERS" 290 (vs "abcdefghijklmnopqrstuvwxyz" 289),de P "TOLD" 296 (.ref 88),de P "MOST_LETTERS" 298 (.int 6 297),de P "MOST_DEEP" 300 (.int 100 299),de P "is_whole" 307 (.ref 95),de P "is_name" 313 (.ref 100),de P "is_within" 321 (.ref 107),de P "is_saying" 328 (.ref 114),de P "need_saying" 335 (.ref 121),de P "halves" 342 (.ref 128),de P "size_in" 348 (.ref 133),de P "gather_names" 357 (.ref 140),de P "names_in" 366 (.ref 147),de P "MOST_SAYINGS" 370 (.int 6 369),de P "MOST_SIZE_claims" 372 (.int 60 371),de P "need_row" 378 (.ref 152),de P "begun" 384 (.ref 157),de P "parts" 396 (.ref 164),de P "same_claim" 406 (.ref 171),de P "without" 416 (.ref 178),de P "clashes" 424 (.ref 185),de P "stands_for" 435 (.ref 192),de P "stands" 443 (.ref 199),de P "ended" 452 (.ref 206),de P "next_claim" 458 (.ref 211),de P "setting_of" 469 (.ref 218),de P "worked" 484 (.ref 225),de P "shut" 495 (.ref 232),de P "need_tree" 505 (.ref 239),de P "of_clash" 514 (.ref 246),de P "of_tree" 524 (.ref 253),de P "middle" 533 (.ref 260),de P "MOST_TOGETHER" 537 (.int 59 536),de P "MOST_SIZE_leading" 539 (.int 60 538),de P "joined" 549 (.ref 267)] 50 }
noncomputable def o247(P:Params):Obj:={ cls:=.none,data:=Data.fields #[.int 2 0,i0,.ref 20,.int 4 0,i0,.ref 33,.int 6 0,i0,.ref 45,.int 8 0,i0,.ref 57,.int 10 0,i0,.ref 69,.int 12 0,i0,.ref 81,.int 19 0,i0,.ref 94,.int 21 0,i0,.ref 99,.int 25 0,i0,.ref 106,.int 37 0,i0,.ref 113,.int 39 0,i0,.ref 120,.int 42 0,i0,.ref 127,.int 46 0,i0,.ref 132,.int 48 0,i0,.ref 139,.int 53 0,i0,.ref 146,.int 61 0,i0,.ref 151,.int 68 0,i0,.ref 156,.int 71 0,i0,.ref 163,.int 83 0,i0,.ref 170,.int 87 0,i0,.ref 177,.int 92 0,i0,.ref 184,.int 94 0,i0,.ref 191,.int 110 0,i0,.ref 198,.int 112 0,i0,.ref 205,.int 120 0,i0,.ref 210,.int 133 0,i0,.ref 217,.int 139 0,i0,.ref 224,.int 160 0,i0,.ref 231,.int 169 0,i0,.ref 238,.int 173 0,i0,.ref 245,.int 180 0,i0,.ref 252,.int 190 0,i0,.ref 259,.int 198 0,i0,.ref 266] }
noncomputable def o248(P:Params):Obj:={ cls:=.type "tuple",data:=Data.seq #[] }
noncomputable def o249(P:Params):Obj:={ cls:=.none,data:=Data.fields #[] }
noncomputable def o250(P:Params):Obj:={ cls:=.type "tuple",data:=Data.seq #[vs "row" 439,vs "tree" 440] }
noncomputable def o251(P:Params):Obj:={ cls:=.type "tuple",data:=Data.seq #[] }
noncomputable def o252(P:Params):Obj:={ cls:=.none,data:=Data.func (fdM 32 0 .none .none) }
noncomputable def o253(P:Params):Obj:={ cls:=.type "code",data:=Data.fields #[vs "stands" 436,vs "stands" 437,vs "/claim/cut.py" 438,.int 110 0,.int 2 0,i0,i0,.int 3 0,.ref 193,.bool true,.int 181 0,.ref 194,.none,.ref 195,.ref 196,.ref 197,.int 441 0,.int 110 0,vs "/claim/cut.py" 442] }
noncomputable def o254(P:Params):Obj:={ cls:=.type "function",data:=Data.func (fdM 32 3 (vs "middlesay.trees" 397) (.ref 198)) }
noncomputable def o255(P:Params):Obj:={ cls:=.type "tuple",data:=Data.seq #[] }
noncomputable def o256(P:Params):Obj:={ cls:=.none,data:=Data.fields #[] }
noncomputable def o257(P:Params):Obj:={ cls:=.type "tuple",data:=Data.seq #[vs "claims" 447,vs "claim" 448,vs "other" 449] }
noncomputable def o258(P:Params):Obj:={ cls:=.type "tuple",data:=Data.seq #[] }
noncomputable def o259(P:Params):Obj:={ cls:=.none,data:=Data.func (fdM 33 0 .none .none) }
noncomputable def o260(P:Params):Obj:={ cls:=.type "code",data:=Data.fields #[vs "ended" 444,vs "ended" 445,vs "/claim/cut.py" 446,.int 112 0,.int 1 0,i0,i0,.int 3 0,.ref 200,.bool true,.int 181 0,.ref 201,.none,.ref 202,.ref 203,.ref 204,.int 450 0,.int 112 0,vs "/claim/cut.py" 451] }
noncomputable def o261(P:Params):Obj:={ cls:=.type "function",data:=Data.func (fdM 33 3 (vs "middlesay.trees" 397) (.ref 205)) }
noncomputable def o262(P:Params):Obj:={ cls:=.type "tuple",data:=Data.seq #[] }
noncomputable def o263(P:Params):Obj:={ cls:=.none,data:=Data.fields #[] }
noncomputable def o264(P:Params):Obj:={ cls:=.none,data:=Data.func (fdM 34 0 .none .none) }
noncomputable def o265(P:Params):Obj:={ cls:=.type "code",data:=Data.fields #[vs "next_claim" 453,vs "next_claim" 454,vs "/claim/cut.py" 455,.int 120 0,.int 1 0,i0,i0,.int 3 0,.ref 207,.bool true,.int 181 0,.ref 208,.none,.none,.none,.ref 209,.int 456 0,.int 120 0,vs "/claim/cut.py" 457] }
noncomputable def o266(P:Params):Obj:={ cls:=.type "function",data:=Data.func (fdM 34 3 (vs "middlesay.trees" 397) (.ref 210)) }
noncomputable def o267(P:Params):Obj:={ cls:=.type "tuple",data:=Data.seq #[] }
noncomputable def o268(P:Params):Obj:={ cls:=.none,data:=Data.fields #[] }
noncomputable def o269(P:Params):Obj:={ cls:=.type "tuple",data:=Data.seq #[vs "claims" 462,vs "found" 463,vs "number" 464,vs "truth" 465,vs "saying" 466] }
noncomputable def o270(P:Params):Obj:={ cls:=.type "tuple",data:=Data.seq #[] }
noncomputable def o271(P:Params):Obj:={ cls:=.none,data:=Data.func (fdM 35 0 .none .none) }
noncomputable def o272(P:Params):Obj:={ cls:=.type "code",data:=Data.fields #[vs "setting_of" 459,vs "setting_of" 460,vs "/claim/cut.py" 461,.int 133 0,.int 1 0,i0,i0,.int 3 0,.ref 212,.bool true,.int 181 0,.ref 213,.none,.ref 214,.ref 215,.ref 216,.int 467 0,.int 133 0,vs "/claim/cut.py" 468] }
noncomputable def o273(P:Params):Obj:={ cls:=.type "function",data:=Data.func (fdM 35 3 (vs "middlesay.trees" 397) (.ref 217)) }
noncomputable def o274(P:Params):Obj:={ cls:=.type "tuple",data:=Data.seq #[] }
noncomputable def o275(P:Params):Obj:={ cls:=.none,data:=Data.fields #[] }
noncomputable def o276(P:Params):Obj:={ cls:=.type "tuple",data:=Data.seq #[vs "claims" 473,vs "tree" 474,vs "claim" 475,vs "kind" 476,vs "some" 477,vs "left" 478,vs "setting" 479,vs "first" 480,vs "second" 481] }
noncomputable def o277(P:Params):Obj:={ cls:=.type "tuple",data:=Data.seq #[] }
noncomputable def o278(P:Params):Obj:={ cls:=.none,data:=Data.func (fdM 36 0 .none .none) }
noncomputable def o279(P:Params):Obj:={ cls:=.type "code",data:=Data.fields #[vs "worked" 470,vs "worked" 471,vs "/claim/cut.py" 472,.int 139 0,.int 1 0,i0,i0,.int 3 0,.ref 219,.bool true,.int 181 0,.ref 220,.none,.ref 221,.ref 222,.ref 223,.int 482 0,.int 139 0,vs "/claim/cut.py" 483] }
noncomputable def o280(P:Params):Obj:={ cls:=.type "function",data:=Data.func (fdM 36 3 (vs "middlesay.trees" 397) (.ref 224)) }
noncomputable def o281(P:Params):Obj:={ cls:=.type "tuple",data:=Data.seq #[] }
noncomputable def o282(P:Params):Obj:={ cls:=.none,data:=Data.fields #[] }
noncomputable def o283(P:Params):Obj:={ cls:=.type "tuple",data:=Data.seq #[vs "row" 488,vs "tree" 489,vs "setting" 490,vs "found" 491,vs "name" 492] }
noncomputable def o284(P:Params):Obj:={ cls:=.type "tuple",data:=Data.seq #[] }
noncomputable def o285(P:Params):Obj:={ cls:=.none,data:=Data.func (fdM 37 0 .none .none) }
noncomputable def o286(P:Params):Obj:={ cls:=.type "code",data:=Data.fields #[vs "shut" 485,vs "shut" 486,vs "/claim/cut.py" 487,.int 160 0,.int 1 0,i0,i0,.int 3 0,.ref 226,.bool true,.int 181 0,.ref 227,.none,.ref 228,.ref 229,.ref 230,.int 493 0,.int 160 0,vs "/claim/cut.py" 494] }
noncomputable def o287(P:Params):Obj:={ cls:=.type "function",data:=Data.func (fdM 37 3 (vs "middlesay.trees" 397) (.ref 231)) }
noncomputable def o288(P:Params):Obj:={ cls:=.type "tuple",data:=Data.seq #[] }
noncomputable def o289(P:Params):Obj:={ cls:=.none,data:=Data.fields #[] }
noncomputable def o290(P:Params):Obj:={ cls:=.type "tuple",data:=Data.seq #[vs "row" 501,vs "tree" 502] }
noncomputable def o291(P:Params):Obj:={ cls:=.type "tuple",data:=Data.seq #[] }
noncomputable def o292(P:Params):Obj:={ cls:=.none,data:=Data.func (fdM 39 0 .none .none) }
noncomputable def o293(P:Params):Obj:={ cls:=.type "code",data:=Data.fields #[vs "need_tree" 498,vs "need_tree" 499,vs "/claim/cut.py" 500,.int 169 0,.int 2 0,i0,i0,.int 3 0,.ref 233,.bool true,.int 181 0,.ref 234,.none,.ref 235,.ref 236,.ref 237,.int 503 0,.int 169 0,vs "/claim/cut.py" 504] }
noncomputable def o294(P:Params):Obj:={ cls:=.type "function",data:=Data.func (fdM 39 3 (vs "middlesay.middles" 496) (.ref 238)) }
noncomputable def o295(P:Params):Obj:={ cls:=.type "tuple",data:=Data.seq #[] }
noncomputable def o296(P:Params):Obj:={ cls:=.none,data:=Data.fields #[] }
noncomputable def o297(P:Params):Obj:={ cls:=.type "tuple",data:=Data.seq #[vs "tree" 509,vs "cut" 510,vs "is_ahead" 511] }
noncomputable def o298(P:Params):Obj:={ cls:=.type "tuple",data:=Data.seq #[] }
noncomputable def o299(P:Params):Obj:={ cls:=.none,data:=Data.func (fdM 40 0 .none .none) }
noncomputable def o300(P:Params):Obj:={ cls:=.type "code",data:=Data.fields #[vs "of_clash" 506,vs "of_clash" 507,vs "/claim/cut.py" 508,.int 173 0,.int 2 0,i0,i0,.int 3 0,.ref 240,.bool true,.int 181 0,.ref 241,.none,.ref 242,.ref 243,.ref 244,.int 512 0,.int 173 0,vs "/claim/cut.py" 513] }
noncomputable def o301(P:Params):Obj:={ cls:=.type "function",data:=Data.func (fdM 40 3 (vs "middlesay.middles" 496) (.ref 245)) }
noncomputable def o302(P:Params):Obj:={ cls:=.type "tuple",data:=Data.seq #[] }
noncomputable def o303(P:Params):Obj:={ cls:=.none,data:=Data.fields #[] }
noncomputable def o304(P:Params):Obj:={ cls:=.type "tuple",data:=Data.seq #[vs "tree" 518,vs "cut" 519,vs "is_ahead" 520,vs "word" 521] }
noncomputable def o305(P:Params):Obj:={ cls:=.type "tuple",data:=Data.seq #[] }
noncomputable def o306(P:Params):Obj:={ cls:=.none,data:=Data.func (fdM 41 0 .none .none) }
noncomputable def o307(P:Params):Obj:={ cls:=.type "code",data:=Data.fields #[vs "of_tree" 515,vs "of_tree" 516,vs "/claim/cut.py" 517,.int 180 0,.int 2 0,i0,i0,.int 3 0,.ref 247,.bool true,.int 181 0,.ref 248,.none,.ref 249,.ref 250,.ref 251,.int 522 0,.int 180 0,vs "/claim/cut.py" 523] }
noncomputable def o308(P:Params):Obj:={ cls:=.type "function",data:=Data.func (fdM 41 3 (vs "middlesay.middles" 496) (.ref 252)) }
noncomputable def o309(P:Params):Obj:={ cls:=.type "tuple",data:=Data.seq #[] }
noncomputable def o310(P:Params):Obj:={ cls:=.none,data:=Data.fields #[] }
noncomputable def o311(P:Params):Obj:={ cls:=.type "tuple",data:=Data.seq #[vs "row" 528,vs "tree" 529,vs "cut" 530] }
noncomputable def o312(P:Params):Obj:={ cls:=.type "tuple",data:=Data.seq #[] }
noncomputable def o313(P:Params):Obj:={ cls:=.none,data:=Data.func (fdM 42 0 .none .none) }
noncomputable def o314(P:Params):Obj:={ cls:=.type "code",data:=Data.fields #[vs "middle" 525,vs "middle" 526,vs "/claim/cut.py" 527,.int 190 0,.int 3 0,i0,i0,.int 3 0,.ref 254,.bool true,.int 181 0,.ref 255,.none,.ref 256,.ref 257,.ref 258,.int 531 0,.int 190 0,vs "/claim/cut.py" 532] }
noncomputable def o315(P:Params):Obj:={ cls:=.type "function",data:=Data.func (fdM 42 3 (vs "middlesay.middles" 496) (.ref 259)) }
noncomputable def o316(P:Params):Obj:={ cls:=.type "tuple",data:=Data.seq #[] }
noncomputable def o317(P:Params):Obj:={ cls:=.none,data:=Data.fields #[] }
noncomputable def o318(P:Params):Obj:={ cls:=.type "tuple",data:=Data.seq #[vs "word" 543,vs "one" 544,vs "other" 545,vs "ends" 546] }
noncomputable def o319(P:Params):Obj:={ cls:=.type "tuple",data:=Data.seq #[] }
noncomputable def o320(P:Params):Obj:={ cls:=.none,data:=Data.func (fdM 46 0 .none .none) }
noncomputable def o321(P:Params):Obj:={ cls:=.type "code",data:=Data.fields #[vs "joined" 540,vs "joined" 541,vs "/claim/cut.py" 542,.int 198 0,.int 3 0,i0,i0,.int 3 0,.ref 261,.bool true,.int 181 0,.ref 262,.none,.ref 263,.ref 264,.ref 265,.int 547 0,.int 198 0,vs "/claim/cut.py" 548] }
noncomputable def o322(P:Params):Obj:={ cls:=.type "function",data:=Data.func (fdM 46 3 (vs "middlesay.leading" 534) (.ref 266)) }
noncomputable def o323(P:Params):Obj:={ cls:=.type "dict",data:=Data.dict #[de P "__name__" 165 (vs "law_uf010027_13" 609),de P "__doc__" 166 .none,de P "__package__" 167 .none,de P "__loader__" 168 (.builtin "__main__.__loader__#opaque"),de P "__spec__" 169 .none,de P "__annotations__" 170 (.ref 6),de P "__builtins__" 171 (.ref 4),de P "__file__" 173 (vs "/claim/cut.py" 172),de P "__cached__" 174 .none,de P "SayError" 206 (.ref 24),de P "BadSaying" 222 (.ref 37),de P "BadRow" 238 (.ref 49),de P "BadTree" 254 (.ref 61),de P "BadCut" 270 (.ref 73),de P "BadNames" 286 (.ref 85),de P "LETTERS" 290 (vs "abcdefghijklmnopqrstuvwxyz" 289),de P "TOLD" 296 (.ref 88),de P "MOST_LETTERS" 298 (.int 6 297),de P "MOST_DEEP" 300 (.int 100 299),de P "is_whole" 307 (.ref 95),de P "is_name" 313 (.ref 100),de P "is_within" 321 (.ref 107),de P "is_saying" 328 (.ref 114),de P "need_saying" 335 (.ref 121),de P "halves" 342 (.ref 128),de P "size_in" 348 (.ref 133),de P "gather_names" 357 (.ref 140),de P "names_in" 366 (.ref 147),de P "MOST_SAYINGS" 370 (.int 6 369),de P "MOST_SIZE_claims" 372 (.int 60 371),de P "need_row" 378 (.ref 152),de P "begun" 384 (.ref 157),de P "parts" 396 (.ref 164),de P "same_claim" 406 (.ref 171),de P "without" 416 (.ref 178),de P "clashes" 424 (.ref 185),de P "stands_for" 435 (.ref 192),de P "stands" 443 (.ref 199),de P "ended" 452 (.ref 206),de P "next_claim" 458 (.ref 211),de P "setting_of" 469 (.ref 218),de P "worked" 484 (.ref 225),de P "shut" 495 (.ref 232),de P "need_tree" 505 (.ref 239),de P "of_clash" 514 (.ref 246),de P "of_tree" 524 (.ref 253),de P "middle" 533 (.ref 260),de P "MOST_TOGETHER" 537 (.int 59 536),de P "MOST_SIZE_leading" 539 (.int 60 538),de P "joined" 549 (.ref 267),de P "neatly" 558 (.ref 274),de P "leads" 569 (.ref 281),de P "put_in" 575 (.ref 286),de P "need_both" 581 (.ref 291),de P "without_others" 592 (.ref 298),de P "strongest" 600 (.ref 305),de P "weakest" 608 (.ref 312),de P "_law_cell_at" 618 (.ref 319),de P "_law_names" 624 (.ref 324),de P "_law_saying" 638 (.ref 331),de P "_law_size" 644 (.ref 336),de P "_law_met" 650 (.ref 341),de P "_law_true" 658 (.ref 348)] 63 }
noncomputable def o324(P:Params):Obj:={ cls:=.none,data:=Data.fields #[.int 2 0,i0,.ref 20,.int 4 0,i0,.ref 33,.int 6 0,i0,.ref 45,.int 8 0,i0,.ref 57,.int 10 0,i0,.ref 69,.int 12 0,i0,.ref 81,.int 19 0,i0,.ref 94,.int 21 0,i0,.ref 99,.int 25 0,i0,.ref 106,.int 37 0,i0,.ref 113,.int 39 0,i0,.ref 120,.int 42 0,i0,.ref 127,.int 46 0,i0,.ref 132,.int 48 0,i0,.ref 139,.int 53 0,i0,.ref 146,.int 61 0,i0,.ref 151,.int 68 0,i0,.ref 156,.int 71 0,i0,.ref 163,.int 83 0,i0,.ref 170,.int 87 0,i0,.ref 177,.int 92 0,i0,.ref 184,.int 94 0,i0,.ref 191,.int 110 0,i0,.ref 198,.int 112 0,i0,.ref 205,.int 120 0,i0,.ref 210,.int 133 0,i0,.ref 217,.int 139 0,i0,.ref 224,.int 160 0,i0,.ref 231,.int 169 0,i0,.ref 238,.int 173 0,i0,.ref 245,.int 180 0,i0,.ref 252,.int 190 0,i0,.ref 259,.int 198 0,i0,.ref 266,.int 209 0,i0,.ref 273,.int 223 0,i0,.ref 280,.int 233 0,i0,.ref 285,.int 242 0,i0,.ref 290,.int 248 0,i0,.ref 297,.int 254 0,i0,.ref 304,.int 257 0,i0,.ref 311,.int 261 0,i0,.ref 318,.int 265 0,i0,.ref 323,.int 281 0,i0,.ref 330,.int 295 0,i0,.ref 335,.int 297 0,i0,.ref 340,.int 304 0,i0,.ref 347] }
noncomputable def o325(P:Params):Obj:={ cls:=.type "tuple",data:=Data.seq #[] }
noncomputable def o326(P:Params):Obj:={ cls:=.none,data:=Data.fields #[] }
noncomputable def o327(P:Params):Obj:={ cls:=.type "tuple",data:=Data.seq #[vs "saying" 553,vs "word" 554,vs "inner" 555] }
noncomputable def o328(P:Params):Obj:={ cls:=.type "tuple",data:=Data.seq #[] }
noncomputable def o329(P:Params):Obj:={ cls:=.none,data:=Data.func (fdM 47 0 .none .none) }
noncomputable def o330(P:Params):Obj:={ cls:=.type "code",data:=Data.fields #[vs "neatly" 550,vs "neatly" 551,vs "/claim/cut.py" 552,.int 209 0,.int 1 0,i0,i0,.int 3 0,.ref 268,.bool true,.int 181 0,.ref 269,.none,.ref 270,.ref 271,.ref 272,.int 556 0,.int 209 0,vs "/claim/cut.py" 557] }
noncomputable def o331(P:Params):Obj:={ cls:=.type "function",data:=Data.func (fdM 47 3 (vs "middlesay.leading" 534) (.ref 273)) }
noncomputable def o332(P:Params):Obj:={ cls:=.type "tuple",data:=Data.seq #[] }
noncomputable def o333(P:Params):Obj:={ cls:=.none,data:=Data.fields #[] }
noncomputable def o334(P:Params):Obj:={ cls:=.type "tuple",data:=Data.seq #[vs "first" 562,vs "second" 563,vs "row" 564,vs "kind" 565,vs "found" 566] }
noncomputable def o335(P:Params):Obj:={ cls:=.type "tuple",data:=Data.seq #[] }
noncomputable def o336(P:Params):Obj:={ cls:=.none,data:=Data.func (fdM 48 0 .none .none) }
noncomputable def o337(P:Params):Obj:={ cls:=.type "code",data:=Data.fields #[vs "leads" 559,vs "leads" 560,vs "/claim/cut.py" 561,.int 223 0,.int 2 0,i0,i0,.int 3 0,.ref 275,.bool true,.int 181 0,.ref 276,.none,.ref 277,.ref 278,.ref 279,.int 567 0,.int 223 0,vs "/claim/cut.py" 568] }
noncomputable def o338(P:Params):Obj:={ cls:=.type "function",data:=Data.func (fdM 48 3 (vs "middlesay.leading" 534) (.ref 280)) }
noncomputable def o339(P:Params):Obj:={ cls:=.type "tuple",data:=Data.seq #[] }
noncomputable def o340(P:Params):Obj:={ cls:=.none,data:=Data.fields #[] }
noncomputable def o341(P:Params):Obj:={ cls:=.none,data:=Data.func (fdM 49 0 .none .none) }
noncomputable def o342(P:Params):Obj:={ cls:=.type "code",data:=Data.fields #[vs "put_in" 570,vs "put_in" 571,vs "/claim/cut.py" 572,.int 233 0,.int 3 0,i0,i0,.int 3 0,.ref 282,.bool true,.int 181 0,.ref 283,.none,.none,.none,.ref 284,.int 573 0,.int 233 0,vs "/claim/cut.py" 574] }
noncomputable def o343(P:Params):Obj:={ cls:=.type "function",data:=Data.func (fdM 49 3 (vs "middlesay.leading" 534) (.ref 285)) }
noncomputable def o344(P:Params):Obj:={ cls:=.type "tuple",data:=Data.seq #[] }
noncomputable def o345(P:Params):Obj:={ cls:=.none,data:=Data.fields #[] }
noncomputable def o346(P:Params):Obj:={ cls:=.none,data:=Data.func (fdM 50 0 .none .none) }
noncomputable def o347(P:Params):Obj:={ cls:=.type "code",data:=Data.fields #[vs "need_both" 576,vs "need_both" 577,vs "/claim/cut.py" 578,.int 242 0,.int 2 0,i0,i0,.int 3 0,.ref 287,.bool true,.int 181 0,.ref 288,.none,.none,.none,.ref 289,.int 579 0,.int 242 0,vs "/claim/cut.py" 580] }
noncomputable def o348(P:Params):Obj:={ cls:=.type "function",data:=Data.func (fdM 50 3 (vs "middlesay.leading" 534) (.ref 290)) }
noncomputable def o349(P:Params):Obj:={ cls:=.type "tuple",data:=Data.seq #[] }
noncomputable def o350(P:Params):Obj:={ cls:=.none,data:=Data.fields #[] }
noncomputable def o351(P:Params):Obj:={ cls:=.type "tuple",data:=Data.seq #[vs "saying" 585,vs "names" 586,vs "word" 587,vs "found" 588,vs "name" 589] }
noncomputable def o352(P:Params):Obj:={ cls:=.type "tuple",data:=Data.seq #[] }
noncomputable def o353(P:Params):Obj:={ cls:=.none,data:=Data.func (fdM 51 0 .none .none) }
noncomputable def o354(P:Params):Obj:={ cls:=.type "code",data:=Data.fields #[vs "without_others" 582,vs "without_others" 583,vs "/claim/cut.py" 584,.int 248 0,.int 3 0,i0,i0,.int 3 0,.ref 292,.bool true,.int 181 0,.ref 293,.none,.ref 294,.ref 295,.ref 296,.int 590 0,.int 248 0,vs "/claim/cut.py" 591] }
noncomputable def o355(P:Params):Obj:={ cls:=.type "function",data:=Data.func (fdM 51 3 (vs "middlesay.leading" 534) (.ref 297)) }
noncomputable def o356(P:Params):Obj:={ cls:=.type "tuple",data:=Data.seq #[] }
noncomputable def o357(P:Params):Obj:={ cls:=.none,data:=Data.fields #[] }
noncomputable def o358(P:Params):Obj:={ cls:=.type "tuple",data:=Data.seq #[vs "saying" 596,vs "names" 597] }
noncomputable def o359(P:Params):Obj:={ cls:=.type "tuple",data:=Data.seq #[] }
noncomputable def o360(P:Params):Obj:={ cls:=.none,data:=Data.func (fdM 52 0 .none .none) }
noncomputable def o361(P:Params):Obj:={ cls:=.type "code",data:=Data.fields #[vs "strongest" 593,vs "strongest" 594,vs "/claim/cut.py" 595,.int 254 0,.int 2 0,i0,i0,.int 3 0,.ref 299,.bool true,.int 181 0,.ref 300,.none,.ref 301,.ref 302,.ref 303,.int 598 0,.int 254 0,vs "/claim/cut.py" 599] }
noncomputable def o362(P:Params):Obj:={ cls:=.type "function",data:=Data.func (fdM 52 3 (vs "middlesay.leading" 534) (.ref 304)) }
noncomputable def o363(P:Params):Obj:={ cls:=.type "tuple",data:=Data.seq #[] }
noncomputable def o364(P:Params):Obj:={ cls:=.none,data:=Data.fields #[] }
noncomputable def o365(P:Params):Obj:={ cls:=.type "tuple",data:=Data.seq #[vs "saying" 604,vs "names" 605] }
noncomputable def o366(P:Params):Obj:={ cls:=.type "tuple",data:=Data.seq #[] }
noncomputable def o367(P:Params):Obj:={ cls:=.none,data:=Data.func (fdM 53 0 .none .none) }
noncomputable def o368(P:Params):Obj:={ cls:=.type "code",data:=Data.fields #[vs "weakest" 601,vs "weakest" 602,vs "/claim/cut.py" 603,.int 257 0,.int 2 0,i0,i0,.int 3 0,.ref 306,.bool true,.int 181 0,.ref 307,.none,.ref 308,.ref 309,.ref 310,.int 606 0,.int 257 0,vs "/claim/cut.py" 607] }
noncomputable def o369(P:Params):Obj:={ cls:=.type "function",data:=Data.func (fdM 53 3 (vs "middlesay.leading" 534) (.ref 311)) }
noncomputable def o370(P:Params):Obj:={ cls:=.type "tuple",data:=Data.seq #[] }
noncomputable def o371(P:Params):Obj:={ cls:=.none,data:=Data.fields #[] }
noncomputable def o372(P:Params):Obj:={ cls:=.type "tuple",data:=Data.seq #[vs "_law_script" 614,vs "_law_k" 615] }
noncomputable def o373(P:Params):Obj:={ cls:=.type "tuple",data:=Data.seq #[] }
noncomputable def o374(P:Params):Obj:={ cls:=.none,data:=Data.func (fdM 55 0 .none .none) }
noncomputable def o375(P:Params):Obj:={ cls:=.type "code",data:=Data.fields #[vs "_law_cell_at" 611,vs "_law_cell_at" 612,vs "/claim/cut.py" 613,.int 261 0,.int 2 0,i0,i0,.int 3 0,.ref 313,.bool true,.int 181 0,.ref 314,.none,.ref 315,.ref 316,.ref 317,.int 616 0,.int 261 0,vs "/claim/cut.py" 617] }
noncomputable def o376(P:Params):Obj:={ cls:=.type "function",data:=Data.func (fdM 55 3 (vs "law_uf010027_13" 609) (.ref 318)) }
noncomputable def o377(P:Params):Obj:={ cls:=.type "tuple",data:=Data.seq #[] }
noncomputable def o378(P:Params):Obj:={ cls:=.none,data:=Data.fields #[] }
noncomputable def o379(P:Params):Obj:={ cls:=.none,data:=Data.func (fdM 56 0 .none .none) }
noncomputable def o380(P:Params):Obj:={ cls:=.type "code",data:=Data.fields #[vs "_law_names" 619,vs "_law_names" 620,vs "/claim/cut.py" 621,.int 265 0,.int 2 0,i0,i0,.int 3 0,.ref 320,.bool true,.int 181 0,.ref 321,.none,.none,.none,.ref 322,.int 622 0,.int 265 0,vs "/claim/cut.py" 623] }
noncomputable def o381(P:Params):Obj:={ cls:=.type "function",data:=Data.func (fdM 56 3 (vs "law_uf010027_13" 609) (.ref 323)) }
noncomputable def o382(P:Params):Obj:={ cls:=.type "tuple",data:=Data.seq #[] }
noncomputable def o383(P:Params):Obj:={ cls:=.none,data:=Data.fields #[] }
noncomputable def o384(P:Params):Obj:={ cls:=.type "tuple",data:=Data.seq #[vs "_law_cell" 628,vs "_law_size_here" 629,vs "_law_names_here" 630,vs "_law_pick" 631,vs "_law_way" 632,vs "_law_left" 633,vs "_law_one" 634,vs "_law_other" 635] }
noncomputable def o385(P:Params):Obj:={ cls:=.type "tuple",data:=Data.seq #[] }
noncomputable def o386(P:Params):Obj:={ cls:=.none,data:=Data.func (fdM 57 0 .none .none) }
noncomputable def o387(P:Params):Obj:={ cls:=.type "code",data:=Data.fields #[vs "_law_saying" 625,vs "_law_saying" 626,vs "/claim/cut.py" 627,.int 281 0,.int 3 0,i0,i0,.int 3 0,.ref 325,.bool true,.int 181 0,.ref 326,.none,.ref 327,.ref 328,.ref 329,.int 636 0,.int 281 0,vs "/claim/cut.py" 637] }
noncomputable def o388(P:Params):Obj:={ cls:=.type "function",data:=Data.func (fdM 57 3 (vs "law_uf010027_13" 609) (.ref 330)) }
noncomputable def o389(P:Params):Obj:={ cls:=.type "tuple",data:=Data.seq #[] }
noncomputable def o390(P:Params):Obj:={ cls:=.none,data:=Data.fields #[] }
noncomputable def o391(P:Params):Obj:={ cls:=.none,data:=Data.func (fdM 58 0 .none .none) }
noncomputable def o392(P:Params):Obj:={ cls:=.type "code",data:=Data.fields #[vs "_law_size" 639,vs "_law_size" 640,vs "/claim/cut.py" 641,.int 295 0,.int 1 0,i0,i0,.int 3 0,.ref 332,.bool true,.int 181 0,.ref 333,.none,.none,.none,.ref 334,.int 642 0,.int 295 0,vs "/claim/cut.py" 643] }
noncomputable def o393(P:Params):Obj:={ cls:=.type "function",data:=Data.func (fdM 58 3 (vs "law_uf010027_13" 609) (.ref 335)) }
noncomputable def o394(P:Params):Obj:={ cls:=.type "tuple",data:=Data.seq #[] }
noncomputable def o395(P:Params):Obj:={ cls:=.none,data:=Data.fields #[] }
noncomputable def o396(P:Params):Obj:={ cls:=.none,data:=Data.func (fdM 59 0 .none .none) }
noncomputable def o397(P:Params):Obj:={ cls:=.type "code",data:=Data.fields #[vs "_law_met" 645,vs "_law_met" 646,vs "/claim/cut.py" 647,.int 297 0,.int 1 0,i0,i0,.int 3 0,.ref 337,.bool true,.int 181 0,.ref 338,.none,.none,.none,.ref 339,.int 648 0,.int 297 0,vs "/claim/cut.py" 649] }
noncomputable def o398(P:Params):Obj:={ cls:=.type "function",data:=Data.func (fdM 59 3 (vs "law_uf010027_13" 609) (.ref 340)) }
noncomputable def o399(P:Params):Obj:={ cls:=.type "tuple",data:=Data.seq #[] }
noncomputable def o400(P:Params):Obj:={ cls:=.none,data:=Data.fields #[] }
noncomputable def o401(P:Params):Obj:={ cls:=.type "tuple",data:=Data.seq #[vs "_law_saying_here" 654,vs "_law_setting" 655] }
noncomputable def o402(P:Params):Obj:={ cls:=.type "tuple",data:=Data.seq #[] }
noncomputable def o403(P:Params):Obj:={ cls:=.none,data:=Data.func (fdM 60 0 .none .none) }
noncomputable def o404(P:Params):Obj:={ cls:=.type "code",data:=Data.fields #[vs "_law_true" 651,vs "_law_true" 652,vs "/claim/cut.py" 653,.int 304 0,.int 2 0,i0,i0,.int 3 0,.ref 342,.bool true,.int 181 0,.ref 343,.none,.ref 344,.ref 345,.ref 346,.int 656 0,.int 304 0,vs "/claim/cut.py" 657] }
noncomputable def o405(P:Params):Obj:={ cls:=.type "function",data:=Data.func (fdM 60 3 (vs "law_uf010027_13" 609) (.ref 347)) }
noncomputable def o406(P:Params):Obj:={ cls:=.type "dict",data:=Data.dict #[de P "__name__" 165 (vs "law_uf010027_13" 609),de P "__doc__" 166 .none,de P "__package__" 167 .none,de P "__loader__" 168 (.builtin "__main__.__loader__#opaque"),de P "__spec__" 169 .none,de P "__annotations__" 170 (.ref 6),de P "__builtins__" 171 (.ref 4),de P "__file__" 173 (vs "/claim/cut.py" 172),de P "__cached__" 174 .none,de P "SayError" 206 (.ref 24),de P "BadSaying" 222 (.ref 37),de P "BadRow" 238 (.ref 49),de P "BadTree" 254 (.ref 61),de P "BadCut" 270 (.ref 73),de P "BadNames" 286 (.ref 85),de P "LETTERS" 290 (vs "abcdefghijklmnopqrstuvwxyz" 289),de P "TOLD" 296 (.ref 88),de P "MOST_LETTERS" 298 (.int 6 297),de P "MOST_DEEP" 300 (.int 100 299),de P "is_whole" 307 (.ref 95),de P "is_name" 313 (.ref 100),de P "is_within" 321 (.ref 107),de P "is_saying" 328 (.ref 114),de P "need_saying" 335 (.ref 121),de P "halves" 342 (.ref 128),de P "size_in" 348 (.ref 133),de P "gather_names" 357 (.ref 140),de P "names_in" 366 (.ref 147),de P "MOST_SAYINGS" 370 (.int 6 369),de P "MOST_SIZE_claims" 372 (.int 60 371),de P "need_row" 378 (.ref 152),de P "begun" 384 (.ref 157),de P "parts" 396 (.ref 164),de P "same_claim" 406 (.ref 171),de P "without" 416 (.ref 178),de P "clashes" 424 (.ref 185),de P "stands_for" 435 (.ref 192),de P "stands" 443 (.ref 199),de P "ended" 452 (.ref 206),de P "next_claim" 458 (.ref 211),de P "setting_of" 469 (.ref 218),de P "worked" 484 (.ref 225),de P "shut" 495 (.ref 232),de P "need_tree" 505 (.ref 239),de P "of_clash" 514 (.ref 246),de P "of_tree" 524 (.ref 253),de P "middle" 533 (.ref 260),de P "MOST_TOGETHER" 537 (.int 59 536),de P "MOST_SIZE_leading" 539 (.int 60 538),de P "joined" 549 (.ref 267),de P "neatly" 558 (.ref 274),de P "leads" 569 (.ref 281),de P "put_in" 575 (.ref 286),de P "need_both" 581 (.ref 291),de P "without_others" 592 (.ref 298),de P "strongest" 600 (.ref 305),de P "weakest" 608 (.ref 312),de P "_law_cell_at" 618 (.ref 319),de P "_law_names" 624 (.ref 324),de P "_law_saying" 638 (.ref 331),de P "_law_size" 644 (.ref 336),de P "_law_met" 650 (.ref 341),de P "_law_true" 658 (.ref 348),de P "_law_comes" 670 (.ref 355),de P "_law_is_open" 678 (.ref 362),de P "_law_stands" 690 (.ref 369),de P "_law_without" 699 (.ref 376),de P "_law_begun" 705 (.ref 381),de P "_law_pair" 721 (.ref 388),de P "_law_fits" 729 (.ref 395),de P "_law_shown" 739 (.ref 402),de P "_law_leads" 747 (.ref 409),de P "law" 753 (.ref 414)] 73 }
noncomputable def o407(P:Params):Obj:={ cls:=.none,data:=Data.fields #[.int 2 0,i0,.ref 20,.int 4 0,i0,.ref 33,.int 6 0,i0,.ref 45,.int 8 0,i0,.ref 57,.int 10 0,i0,.ref 69,.int 12 0,i0,.ref 81,.int 19 0,i0,.ref 94,.int 21 0,i0,.ref 99,.int 25 0,i0,.ref 106,.int 37 0,i0,.ref 113,.int 39 0,i0,.ref 120,.int 42 0,i0,.ref 127,.int 46 0,i0,.ref 132,.int 48 0,i0,.ref 139,.int 53 0,i0,.ref 146,.int 61 0,i0,.ref 151,.int 68 0,i0,.ref 156,.int 71 0,i0,.ref 163,.int 83 0,i0,.ref 170,.int 87 0,i0,.ref 177,.int 92 0,i0,.ref 184,.int 94 0,i0,.ref 191,.int 110 0,i0,.ref 198,.int 112 0,i0,.ref 205,.int 120 0,i0,.ref 210,.int 133 0,i0,.ref 217,.int 139 0,i0,.ref 224,.int 160 0,i0,.ref 231,.int 169 0,i0,.ref 238,.int 173 0,i0,.ref 245,.int 180 0,i0,.ref 252,.int 190 0,i0,.ref 259,.int 198 0,i0,.ref 266,.int 209 0,i0,.ref 273,.int 223 0,i0,.ref 280,.int 233 0,i0,.ref 285,.int 242 0,i0,.ref 290,.int 248 0,i0,.ref 297,.int 254 0,i0,.ref 304,.int 257 0,i0,.ref 311,.int 261 0,i0,.ref 318,.int 265 0,i0,.ref 323,.int 281 0,i0,.ref 330,.int 295 0,i0,.ref 335,.int 297 0,i0,.ref 340,.int 304 0,i0,.ref 347,.int 314 0,i0,.ref 354,.int 325 0,i0,.ref 361,.int 329 0,i0,.ref 368,.int 348 0,i0,.ref 375,.int 351 0,i0,.ref 380,.int 353 0,i0,.ref 387,.int 371 0,i0,.ref 394,.int 373 0,i0,.ref 401,.int 381 0,i0,.ref 408,.int 383 0,i0,.ref 413] }
noncomputable def o408(P:Params):Obj:={ cls:=.type "tuple",data:=Data.seq #[] }
noncomputable def o409(P:Params):Obj:={ cls:=.none,data:=Data.fields #[] }
noncomputable def o410(P:Params):Obj:={ cls:=.type "tuple",data:=Data.seq #[vs "_law_claim" 662,vs "_law_number" 663,vs "_law_truth" 664,vs "_law_saying_here" 665,vs "_law_word" 666,vs "_law_both" 667] }
noncomputable def o411(P:Params):Obj:={ cls:=.type "tuple",data:=Data.seq #[] }
noncomputable def o412(P:Params):Obj:={ cls:=.none,data:=Data.func (fdM 61 0 .none .none) }
noncomputable def o413(P:Params):Obj:={ cls:=.type "code",data:=Data.fields #[vs "_law_comes" 659,vs "_law_comes" 660,vs "/claim/cut.py" 661,.int 314 0,.int 1 0,i0,i0,.int 3 0,.ref 349,.bool true,.int 181 0,.ref 350,.none,.ref 351,.ref 352,.ref 353,.int 668 0,.int 314 0,vs "/claim/cut.py" 669] }
noncomputable def o414(P:Params):Obj:={ cls:=.type "function",data:=Data.func (fdM 61 3 (vs "law_uf010027_13" 609) (.ref 354)) }
noncomputable def o415(P:Params):Obj:={ cls:=.type "tuple",data:=Data.seq #[] }
noncomputable def o416(P:Params):Obj:={ cls:=.none,data:=Data.fields #[] }
noncomputable def o417(P:Params):Obj:={ cls:=.type "tuple",data:=Data.seq #[vs "_law_claims" 674,vs "_law_thing" 675] }
noncomputable def o418(P:Params):Obj:={ cls:=.type "tuple",data:=Data.seq #[] }
noncomputable def o419(P:Params):Obj:={ cls:=.none,data:=Data.func (fdM 62 0 .none .none) }
noncomputable def o420(P:Params):Obj:={ cls:=.type "code",data:=Data.fields #[vs "_law_is_open" 671,vs "_law_is_open" 672,vs "/claim/cut.py" 673,.int 325 0,.int 2 0,i0,i0,.int 3 0,.ref 356,.bool true,.int 181 0,.ref 357,.none,.ref 358,.ref 359,.ref 360,.int 676 0,.int 325 0,vs "/claim/cut.py" 677] }
noncomputable def o421(P:Params):Obj:={ cls:=.type "function",data:=Data.func (fdM 62 3 (vs "law_uf010027_13" 609) (.ref 361)) }
noncomputable def o422(P:Params):Obj:={ cls:=.type "tuple",data:=Data.seq #[] }
noncomputable def o423(P:Params):Obj:={ cls:=.none,data:=Data.fields #[] }
noncomputable def o424(P:Params):Obj:={ cls:=.type "tuple",data:=Data.seq #[vs "_law_claims" 682,vs "_law_tree" 683,vs "_law_sizes" 684,vs "_law_word" 685,vs "_law_come" 686,vs "_law_left" 687] }
noncomputable def o425(P:Params):Obj:={ cls:=.type "tuple",data:=Data.seq #[] }
noncomputable def o426(P:Params):Obj:={ cls:=.none,data:=Data.func (fdM 63 0 .none .none) }
noncomputable def o427(P:Params):Obj:={ cls:=.type "code",data:=Data.fields #[vs "_law_stands" 679,vs "_law_stands" 680,vs "/claim/cut.py" 681,.int 329 0,.int 2 0,i0,i0,.int 3 0,.ref 363,.bool true,.int 181 0,.ref 364,.none,.ref 365,.ref 366,.ref 367,.int 688 0,.int 329 0,vs "/claim/cut.py" 689] }
noncomputable def o428(P:Params):Obj:={ cls:=.type "function",data:=Data.func (fdM 63 3 (vs "law_uf010027_13" 609) (.ref 368)) }
noncomputable def o429(P:Params):Obj:={ cls:=.type "tuple",data:=Data.seq #[] }
noncomputable def o430(P:Params):Obj:={ cls:=.none,data:=Data.fields #[] }
noncomputable def o431(P:Params):Obj:={ cls:=.type "tuple",data:=Data.seq #[vs "_law_claims" 694,vs "_law_claim" 695,vs "_law_at" 696] }
noncomputable def o432(P:Params):Obj:={ cls:=.type "tuple",data:=Data.seq #[] }
noncomputable def o433(P:Params):Obj:={ cls:=.none,data:=Data.func (fdM 64 0 .none .none) }
noncomputable def o434(P:Params):Obj:={ cls:=.type "code",data:=Data.fields #[vs "_law_without" 691,vs "_law_without" 692,vs "/claim/cut.py" 693,.int 348 0,.int 2 0,i0,i0,.int 3 0,.ref 370,.bool true,.int 181 0,.ref 371,.none,.ref 372,.ref 373,.ref 374,.int 697 0,.int 348 0,vs "/claim/cut.py" 698] }
noncomputable def o435(P:Params):Obj:={ cls:=.type "function",data:=Data.func (fdM 64 3 (vs "law_uf010027_13" 609) (.ref 375)) }
noncomputable def o436(P:Params):Obj:={ cls:=.type "tuple",data:=Data.seq #[] }
noncomputable def o437(P:Params):Obj:={ cls:=.none,data:=Data.fields #[] }
noncomputable def o438(P:Params):Obj:={ cls:=.none,data:=Data.func (fdM 65 0 .none .none) }
noncomputable def o439(P:Params):Obj:={ cls:=.type "code",data:=Data.fields #[vs "_law_begun" 700,vs "_law_begun" 701,vs "/claim/cut.py" 702,.int 351 0,.int 1 0,i0,i0,.int 3 0,.ref 377,.bool true,.int 181 0,.ref 378,.none,.none,.none,.ref 379,.int 703 0,.int 351 0,vs "/claim/cut.py" 704] }
noncomputable def o440(P:Params):Obj:={ cls:=.type "function",data:=Data.func (fdM 65 3 (vs "law_uf010027_13" 609) (.ref 380)) }
noncomputable def o441(P:Params):Obj:={ cls:=.type "tuple",data:=Data.seq #[] }
noncomputable def o442(P:Params):Obj:={ cls:=.none,data:=Data.fields #[] }
noncomputable def o443(P:Params):Obj:={ cls:=.type "tuple",data:=Data.seq #[vs "_law_cell" 709,vs "_law_names_here" 710,vs "_law_way" 711,vs "_law_more" 712,vs "_law_shared" 713,vs "_law_one" 714,vs "_law_ahead" 715,vs "_law_behind" 716,vs "_law_other" 717,vs "_law_last" 718] }
noncomputable def o444(P:Params):Obj:={ cls:=.type "tuple",data:=Data.seq #[] }
noncomputable def o445(P:Params):Obj:={ cls:=.none,data:=Data.func (fdM 66 0 .none .none) }
noncomputable def o446(P:Params):Obj:={ cls:=.type "code",data:=Data.fields #[vs "_law_pair" 706,vs "_law_pair" 707,vs "/claim/cut.py" 708,.int 353 0,.int 2 0,i0,i0,.int 3 0,.ref 382,.bool true,.int 181 0,.ref 383,.none,.ref 384,.ref 385,.ref 386,.int 719 0,.int 353 0,vs "/claim/cut.py" 720] }
noncomputable def o447(P:Params):Obj:={ cls:=.type "function",data:=Data.func (fdM 66 3 (vs "law_uf010027_13" 609) (.ref 387)) }
noncomputable def o448(P:Params):Obj:={ cls:=.type "tuple",data:=Data.seq #[] }
noncomputable def o449(P:Params):Obj:={ cls:=.none,data:=Data.fields #[] }
noncomputable def o450(P:Params):Obj:={ cls:=.type "tuple",data:=Data.seq #[vs "_law_one" 725,vs "_law_other" 726] }
noncomputable def o451(P:Params):Obj:={ cls:=.type "tuple",data:=Data.seq #[] }
noncomputable def o452(P:Params):Obj:={ cls:=.none,data:=Data.func (fdM 67 0 .none .none) }
noncomputable def o453(P:Params):Obj:={ cls:=.type "code",data:=Data.fields #[vs "_law_fits" 722,vs "_law_fits" 723,vs "/claim/cut.py" 724,.int 371 0,.int 2 0,i0,i0,.int 3 0,.ref 389,.bool true,.int 181 0,.ref 390,.none,.ref 391,.ref 392,.ref 393,.int 727 0,.int 371 0,vs "/claim/cut.py" 728] }
noncomputable def o454(P:Params):Obj:={ cls:=.type "function",data:=Data.func (fdM 67 3 (vs "law_uf010027_13" 609) (.ref 394)) }
noncomputable def o455(P:Params):Obj:={ cls:=.type "tuple",data:=Data.seq #[] }
noncomputable def o456(P:Params):Obj:={ cls:=.none,data:=Data.fields #[] }
noncomputable def o457(P:Params):Obj:={ cls:=.type "tuple",data:=Data.seq #[vs "_law_one" 733,vs "_law_other" 734,vs "_law_row" 735,vs "_law_told" 736] }
noncomputable def o458(P:Params):Obj:={ cls:=.type "tuple",data:=Data.seq #[] }
noncomputable def o459(P:Params):Obj:={ cls:=.none,data:=Data.func (fdM 68 0 .none .none) }
noncomputable def o460(P:Params):Obj:={ cls:=.type "code",data:=Data.fields #[vs "_law_shown" 730,vs "_law_shown" 731,vs "/claim/cut.py" 732,.int 373 0,.int 2 0,i0,i0,.int 3 0,.ref 396,.bool true,.int 181 0,.ref 397,.none,.ref 398,.ref 399,.ref 400,.int 737 0,.int 373 0,vs "/claim/cut.py" 738] }
noncomputable def o461(P:Params):Obj:={ cls:=.type "function",data:=Data.func (fdM 68 3 (vs "law_uf010027_13" 609) (.ref 401)) }
noncomputable def o462(P:Params):Obj:={ cls:=.type "tuple",data:=Data.seq #[] }
noncomputable def o463(P:Params):Obj:={ cls:=.none,data:=Data.fields #[] }
noncomputable def o464(P:Params):Obj:={ cls:=.type "tuple",data:=Data.seq #[vs "_law_one" 743,vs "_law_other" 744] }
noncomputable def o465(P:Params):Obj:={ cls:=.type "tuple",data:=Data.seq #[] }
noncomputable def o466(P:Params):Obj:={ cls:=.none,data:=Data.func (fdM 69 0 .none .none) }
noncomputable def o467(P:Params):Obj:={ cls:=.type "code",data:=Data.fields #[vs "_law_leads" 740,vs "_law_leads" 741,vs "/claim/cut.py" 742,.int 381 0,.int 2 0,i0,i0,.int 3 0,.ref 403,.bool true,.int 181 0,.ref 404,.none,.ref 405,.ref 406,.ref 407,.int 745 0,.int 381 0,vs "/claim/cut.py" 746] }
noncomputable def o468(P:Params):Obj:={ cls:=.type "function",data:=Data.func (fdM 69 3 (vs "law_uf010027_13" 609) (.ref 408)) }
noncomputable def o469(P:Params):Obj:={ cls:=.type "tuple",data:=Data.seq #[] }
noncomputable def o470(P:Params):Obj:={ cls:=.none,data:=Data.fields #[] }
noncomputable def o471(P:Params):Obj:={ cls:=.none,data:=Data.func (fdM 70 0 .none .none) }
noncomputable def o472(P:Params):Obj:={ cls:=.type "code",data:=Data.fields #[vs "law" 748,vs "law" 749,vs "/claim/cut.py" 750,.int 383 0,.int 1 0,i0,i0,.int 3 0,.ref 410,.bool true,.int 181 0,.ref 411,.none,.none,.none,.ref 412,.int 751 0,.int 383 0,vs "/claim/cut.py" 752] }
noncomputable def o473(P:Params):Obj:={ cls:=.type "function",data:=Data.func (fdM 70 3 (vs "law_uf010027_13" 609) (.ref 413)) }
noncomputable def lf(P:Params)(x:Params→Obj):BT:=.node (x P) .nil .nil
noncomputable def tr47(P:Params):BT:=.node (boot_o_0 P) (.node (boot_o_1 P) (.node (boot_o_3 P) (lf P boot_o_7) (lf P o43)) (.node (boot_o_5 P) (lf P boot_o_9) (lf P o45))) (.node (boot_o_2 P) (.node (boot_o_4 P) (lf P boot_o_8) (lf P o44)) (.node (boot_o_6 P) (lf P boot_o_10) (lf P o46)))
noncomputable def tr63(P:Params):BT:=.node (boot_o_0 P) (.node (boot_o_1 P) (.node (o49 P) (.node (boot_o_7 P) (lf P o51) (lf P o59)) (.node (o43 P) (lf P o55) (lf P o63))) (.node (boot_o_5 P) (.node (boot_o_9 P) (lf P o53) (lf P o61)) (.node (o45 P) (lf P o57) .nil))) (.node (boot_o_2 P) (.node (boot_o_4 P) (.node (boot_o_8 P) (lf P o52) (lf P o60)) (.node (o50 P) (lf P o56) .nil)) (.node (boot_o_6 P) (.node (boot_o_10 P) (lf P o54) (lf P o62)) (.node (o46 P) (lf P o58) .nil)))
noncomputable def tr78(P:Params):BT:=.node (boot_o_0 P) (.node (boot_o_1 P) (.node (o64 P) (.node (boot_o_7 P) (.node (o51 P) (lf P o70) .nil) (.node (o59 P) (lf P o78) .nil)) (.node (o43 P) (.node (o55 P) (lf P o74) .nil) (lf P o63))) (.node (boot_o_5 P) (.node (boot_o_9 P) (.node (o53 P) (lf P o72) .nil) (lf P o61)) (.node (o45 P) (.node (o57 P) (lf P o76) .nil) (lf P o68)))) (.node (boot_o_2 P) (.node (boot_o_4 P) (.node (boot_o_8 P) (.node (o52 P) (lf P o71) .nil) (lf P o66)) (.node (o65 P) (.node (o56 P) (lf P o75) .nil) (lf P o67))) (.node (boot_o_6 P) (.node (boot_o_10 P) (.node (o54 P) (lf P o73) .nil) (lf P o62)) (.node (o46 P) (.node (o58 P) (lf P o77) .nil) (lf P o69))))
noncomputable def tr93(P:Params):BT:=.node (boot_o_0 P) (.node (boot_o_1 P) (.node (o79 P) (.node (boot_o_7 P) (.node (o51 P) (lf P o70) (lf P o89)) (.node (o59 P) (lf P o78) .nil)) (.node (o43 P) (.node (o55 P) (lf P o74) (lf P o93)) (.node (o63 P) (lf P o85) .nil))) (.node (boot_o_5 P) (.node (boot_o_9 P) (.node (o53 P) (lf P o72) (lf P o91)) (.node (o61 P) (lf P o83) .nil)) (.node (o45 P) (.node (o57 P) (lf P o76) .nil) (.node (o68 P) (lf P o87) .nil)))) (.node (boot_o_2 P) (.node (boot_o_4 P) (.node (boot_o_8 P) (.node (o52 P) (lf P o71) (lf P o90)) (.node (o81 P) (lf P o82) .nil)) (.node (o80 P) (.node (o56 P) (lf P o75) .nil) (.node (o67 P) (lf P o86) .nil))) (.node (boot_o_6 P) (.node (boot_o_10 P) (.node (o54 P) (lf P o73) (lf P o92)) (.node (o62 P) (lf P o84) .nil)) (.node (o46 P) (.node (o58 P) (lf P o77) .nil) (.node (o69 P) (lf P o88) .nil))))
noncomputable def znZ(P:Params):BT:=.node (boot_o_0 P) (.node (boot_o_1 P) (.node (o94 P) (.node (boot_o_7 P) (.node (o51 P) (.node (o70 P) (lf P o108) .nil) (lf P o89)) (.node (o59 P) (lf P o78) (lf P o100))) (.node (o43 P) (.node (o55 P) (lf P o74) (lf P o93)) (.node (o63 P) (lf P o85) (lf P o104)))) (.node (boot_o_5 P) (.node (boot_o_9 P) (.node (o53 P) (lf P o72) (lf P o91)) (.node (o61 P) (lf P o83) (lf P o102))) (.node (o45 P) (.node (o57 P) (lf P o76) (lf P o98)) (.node (o68 P) (lf P o87) (lf P o106))))) (.node (boot_o_2 P) (.node (boot_o_4 P) (.node (boot_o_8 P) (.node (o52 P) (lf P o71) (lf P o90)) (.node (o96 P) (lf P o82) (lf P o101))) (.node (o95 P) (.node (o56 P) (lf P o75) (lf P o97)) (.node (o67 P) (lf P o86) (lf P o105)))) (.node (boot_o_6 P) (.node (boot_o_10 P) (.node (o54 P) (lf P o73) (lf P o92)) (.node (o62 P) (lf P o84) (lf P o103))) (.node (o46 P) (.node (o58 P) (lf P o77) (lf P o99)) (.node (o69 P) (lf P o88) (lf P o107)))))
noncomputable def znY(P:Params):BT:=.node (boot_o_0 P) (.node (boot_o_1 P) (.node (o109 P) (.node (boot_o_7 P) (.node (o51 P) (.node (o70 P) (lf P o108) .nil) (lf P o89)) (.node (o59 P) (.node (o78 P) (lf P o119) .nil) (lf P o100))) (.node (o43 P) (.node (o55 P) (.node (o74 P) (lf P o115) .nil) (lf P o93)) (.node (o63 P) (.node (o85 P) (lf P o123) .nil) (lf P o104)))) (.node (boot_o_5 P) (.node (boot_o_9 P) (.node (o53 P) (.node (o72 P) (lf P o113) .nil) (lf P o91)) (.node (o61 P) (.node (o83 P) (lf P o121) .nil) (lf P o102))) (.node (o45 P) (.node (o57 P) (.node (o76 P) (lf P o117) .nil) (lf P o98)) (.node (o68 P) (lf P o87) (lf P o106))))) (.node (boot_o_2 P) (.node (boot_o_4 P) (.node (boot_o_8 P) (.node (o52 P) (.node (o71 P) (lf P o112) .nil) (lf P o90)) (.node (o111 P) (.node (o82 P) (lf P o120) .nil) (lf P o101))) (.node (o110 P) (.node (o56 P) (.node (o75 P) (lf P o116) .nil) (lf P o97)) (.node (o67 P) (lf P o86) (lf P o105)))) (.node (boot_o_6 P) (.node (boot_o_10 P) (.node (o54 P) (.node (o73 P) (lf P o114) .nil) (lf P o92)) (.node (o62 P) (.node (o84 P) (lf P o122) .nil) (lf P o103))) (.node (o46 P) (.node (o58 P) (.node (o77 P) (lf P o118) .nil) (lf P o99)) (.node (o69 P) (lf P o88) (lf P o107)))))
noncomputable def znX(P:Params):BT:=.node (boot_o_0 P) (.node (boot_o_1 P) (.node (o124 P) (.node (boot_o_7 P) (.node (o51 P) (.node (o70 P) (lf P o108) (lf P o146)) (.node (o89 P) (lf P o130) (lf P o162))) (.node (o59 P) (.node (o78 P) (lf P o119) (lf P o154)) (.node (o100 P) (lf P o138) .nil))) (.node (o43 P) (.node (o55 P) (.node (o74 P) (lf P o115) (lf P o150)) (.node (o93 P) (lf P o134) .nil)) (.node (o63 P) (.node (o85 P) (lf P o123) (lf P o158)) (.node (o104 P) (lf P o142) .nil)))) (.node (boot_o_5 P) (.node (boot_o_9 P) (.node (o53 P) (.node (o72 P) (lf P o113) (lf P o148)) (.node (o91 P) (lf P o132) (lf P o164))) (.node (o61 P) (.node (o83 P) (lf P o121) (lf P o156)) (.node (o102 P) (lf P o140) .nil))) (.node (o45 P) (.node (o57 P) (.node (o76 P) (lf P o117) (lf P o152)) (.node (o98 P) (lf P o136) .nil)) (.node (o68 P) (.node (o87 P) (lf P o128) (lf P o160)) (.node (o106 P) (lf P o144) .nil))))) (.node (boot_o_2 P) (.node (boot_o_4 P) (.node (boot_o_8 P) (.node (o52 P) (.node (o71 P) (lf P o112) (lf P o147)) (.node (o90 P) (lf P o131) (lf P o163))) (.node (o126 P) (.node (o82 P) (lf P o120) (lf P o155)) (.node (o101 P) (lf P o139) .nil))) (.node (o125 P) (.node (o56 P) (.node (o75 P) (lf P o116) (lf P o151)) (.node (o97 P) (lf P o135) .nil)) (.node (o67 P) (.node (o86 P) (lf P o127) (lf P o159)) (.node (o105 P) (lf P o143) .nil)))) (.node (boot_o_6 P) (.node (boot_o_10 P) (.node (o54 P) (.node (o73 P) (lf P o114) (lf P o149)) (.node (o92 P) (lf P o133) (lf P o165))) (.node (o62 P) (.node (o84 P) (lf P o122) (lf P o157)) (.node (o103 P) (lf P o141) .nil))) (.node (o46 P) (.node (o58 P) (.node (o77 P) (lf P o118) (lf P o153)) (.node (o99 P) (lf P o137) .nil)) (.node (o69 P) (.node (o88 P) (lf P o129) (lf P o161)) (.node (o107 P) (lf P o145) .nil)))))
noncomputable def znW(P:Params):BT:=.node (boot_o_0 P) (.node (boot_o_1 P) (.node (o166 P) (.node (boot_o_7 P) (.node (o51 P) (.node (o70 P) (.node (o108 P) (lf P o180) (lf P o244)) (.node (o146 P) (lf P o212) .nil)) (.node (o89 P) (.node (o130 P) (lf P o196) .nil) (.node (o162 P) (lf P o228) .nil))) (.node (o59 P) (.node (o78 P) (.node (o119 P) (lf P o188) .nil) (.node (o154 P) (lf P o220) .nil)) (.node (o100 P) (.node (o138 P) (lf P o204) .nil) (.node (o172 P) (lf P o236) .nil)))) (.node (o43 P) (.node (o55 P) (.node (o74 P) (.node (o115 P) (lf P o184) .nil) (.node (o150 P) (lf P o216) .nil)) (.node (o93 P) (.node (o134 P) (lf P o200) .nil) (.node (o168 P) (lf P o232) .nil))) (.node (o63 P) (.node (o85 P) (.node (o123 P) (lf P o192) .nil) (.node (o158 P) (lf P o224) .nil)) (.node (o104 P) (.node (o142 P) (lf P o208) .nil) (.node (o176 P) (lf P o240) .nil))))) (.node (boot_o_5 P) (.node (boot_o_9 P) (.node (o53 P) (.node (o72 P) (.node (o113 P) (lf P o182) .nil) (.node (o148 P) (lf P o214) .nil)) (.node (o91 P) (.node (o132 P) (lf P o198) .nil) (.node (o164 P) (lf P o230) .nil))) (.node (o61 P) (.node (o83 P) (.node (o121 P) (lf P o190) .nil) (.node (o156 P) (lf P o222) .nil)) (.node (o102 P) (.node (o140 P) (lf P o206) .nil) (.node (o174 P) (lf P o238) .nil)))) (.node (o45 P) (.node (o57 P) (.node (o76 P) (.node (o117 P) (lf P o186) .nil) (.node (o152 P) (lf P o218) .nil)) (.node (o98 P) (.node (o136 P) (lf P o202) .nil) (.node (o170 P) (lf P o234) .nil))) (.node (o68 P) (.node (o87 P) (.node (o128 P) (lf P o194) .nil) (.node (o160 P) (lf P o226) .nil)) (.node (o106 P) (.node (o144 P) (lf P o210) .nil) (.node (o178 P) (lf P o242) .nil)))))) (.node (boot_o_2 P) (.node (boot_o_4 P) (.node (boot_o_8 P) (.node (o52 P) (.node (o71 P) (.node (o112 P) (lf P o181) (lf P o245)) (.node (o147 P) (lf P o213) .nil)) (.node (o90 P) (.node (o131 P) (lf P o197) .nil) (.node (o163 P) (lf P o229) .nil))) (.node (o126 P) (.node (o82 P) (.node (o120 P) (lf P o189) .nil) (.node (o155 P) (lf P o221) .nil)) (.node (o101 P) (.node (o139 P) (lf P o205) .nil) (.node (o173 P) (lf P o237) .nil)))) (.node (o167 P) (.node (o56 P) (.node (o75 P) (.node (o116 P) (lf P o185) .nil) (.node (o151 P) (lf P o217) .nil)) (.node (o97 P) (.node (o135 P) (lf P o201) .nil) (.node (o169 P) (lf P o233) .nil))) (.node (o67 P) (.node (o86 P) (.node (o127 P) (lf P o193) .nil) (.node (o159 P) (lf P o225) .nil)) (.node (o105 P) (.node (o143 P) (lf P o209) .nil) (.node (o177 P) (lf P o241) .nil))))) (.node (boot_o_6 P) (.node (boot_o_10 P) (.node (o54 P) (.node (o73 P) (.node (o114 P) (lf P o183) .nil) (.node (o149 P) (lf P o215) .nil)) (.node (o92 P) (.node (o133 P) (lf P o199) .nil) (.node (o165 P) (lf P o231) .nil))) (.node (o62 P) (.node (o84 P) (.node (o122 P) (lf P o191) .nil) (.node (o157 P) (lf P o223) .nil)) (.node (o103 P) (.node (o141 P) (lf P o207) .nil) (.node (o175 P) (lf P o239) .nil)))) (.node (o46 P) (.node (o58 P) (.node (o77 P) (.node (o118 P) (lf P o187) .nil) (.node (o153 P) (lf P o219) .nil)) (.node (o99 P) (.node (o137 P) (lf P o203) .nil) (.node (o171 P) (lf P o235) .nil))) (.node (o69 P) (.node (o88 P) (.node (o129 P) (lf P o195) .nil) (.node (o161 P) (lf P o227) .nil)) (.node (o107 P) (.node (o145 P) (lf P o211) .nil) (.node (o179 P) (lf P o243) .nil))))))
noncomputable def znV(P:Params):BT:=.node (boot_o_0 P) (.node (boot_o_1 P) (.node (o246 P) (.node (boot_o_7 P) (.node (o51 P) (.node (o70 P) (.node (o108 P) (.node (o180 P) (lf P o310) .nil) (lf P o244)) (.node (o146 P) (lf P o212) (lf P o278))) (.node (o89 P) (.node (o130 P) (lf P o196) (lf P o262)) (.node (o162 P) (lf P o228) (lf P o294)))) (.node (o59 P) (.node (o78 P) (.node (o119 P) (.node (o188 P) (lf P o318) .nil) (lf P o254)) (.node (o154 P) (lf P o220) (lf P o286))) (.node (o100 P) (.node (o138 P) (lf P o204) (lf P o270)) (.node (o172 P) (lf P o236) (lf P o302))))) (.node (o43 P) (.node (o55 P) (.node (o74 P) (.node (o115 P) (.node (o184 P) (lf P o314) .nil) (lf P o250)) (.node (o150 P) (lf P o216) (lf P o282))) (.node (o93 P) (.node (o134 P) (lf P o200) (lf P o266)) (.node (o168 P) (lf P o232) (lf P o298)))) (.node (o63 P) (.node (o85 P) (.node (o123 P) (.node (o192 P) (lf P o322) .nil) (lf P o258)) (.node (o158 P) (lf P o224) (lf P o290))) (.node (o104 P) (.node (o142 P) (lf P o208) (lf P o274)) (.node (o176 P) (lf P o240) (lf P o306)))))) (.node (boot_o_5 P) (.node (boot_o_9 P) (.node (o53 P) (.node (o72 P) (.node (o113 P) (.node (o182 P) (lf P o312) .nil) (lf P o248)) (.node (o148 P) (lf P o214) (lf P o280))) (.node (o91 P) (.node (o132 P) (lf P o198) (lf P o264)) (.node (o164 P) (lf P o230) (lf P o296)))) (.node (o61 P) (.node (o83 P) (.node (o121 P) (.node (o190 P) (lf P o320) .nil) (lf P o256)) (.node (o156 P) (lf P o222) (lf P o288))) (.node (o102 P) (.node (o140 P) (lf P o206) (lf P o272)) (.node (o174 P) (lf P o238) (lf P o304))))) (.node (o45 P) (.node (o57 P) (.node (o76 P) (.node (o117 P) (.node (o186 P) (lf P o316) .nil) (lf P o252)) (.node (o152 P) (lf P o218) (lf P o284))) (.node (o98 P) (.node (o136 P) (lf P o202) (lf P o268)) (.node (o170 P) (lf P o234) (lf P o300)))) (.node (o68 P) (.node (o87 P) (.node (o128 P) (lf P o194) (lf P o260)) (.node (o160 P) (lf P o226) (lf P o292))) (.node (o106 P) (.node (o144 P) (lf P o210) (lf P o276)) (.node (o178 P) (lf P o242) (lf P o308))))))) (.node (boot_o_2 P) (.node (boot_o_4 P) (.node (boot_o_8 P) (.node (o52 P) (.node (o71 P) (.node (o112 P) (.node (o181 P) (lf P o311) .nil) (lf P o245)) (.node (o147 P) (lf P o213) (lf P o279))) (.node (o90 P) (.node (o131 P) (lf P o197) (lf P o263)) (.node (o163 P) (lf P o229) (lf P o295)))) (.node (o126 P) (.node (o82 P) (.node (o120 P) (.node (o189 P) (lf P o319) .nil) (lf P o255)) (.node (o155 P) (lf P o221) (lf P o287))) (.node (o101 P) (.node (o139 P) (lf P o205) (lf P o271)) (.node (o173 P) (lf P o237) (lf P o303))))) (.node (o247 P) (.node (o56 P) (.node (o75 P) (.node (o116 P) (.node (o185 P) (lf P o315) .nil) (lf P o251)) (.node (o151 P) (lf P o217) (lf P o283))) (.node (o97 P) (.node (o135 P) (lf P o201) (lf P o267)) (.node (o169 P) (lf P o233) (lf P o299)))) (.node (o67 P) (.node (o86 P) (.node (o127 P) (lf P o193) (lf P o259)) (.node (o159 P) (lf P o225) (lf P o291))) (.node (o105 P) (.node (o143 P) (lf P o209) (lf P o275)) (.node (o177 P) (lf P o241) (lf P o307)))))) (.node (boot_o_6 P) (.node (boot_o_10 P) (.node (o54 P) (.node (o73 P) (.node (o114 P) (.node (o183 P) (lf P o313) .nil) (lf P o249)) (.node (o149 P) (lf P o215) (lf P o281))) (.node (o92 P) (.node (o133 P) (lf P o199) (lf P o265)) (.node (o165 P) (lf P o231) (lf P o297)))) (.node (o62 P) (.node (o84 P) (.node (o122 P) (.node (o191 P) (lf P o321) .nil) (lf P o257)) (.node (o157 P) (lf P o223) (lf P o289))) (.node (o103 P) (.node (o141 P) (lf P o207) (lf P o273)) (.node (o175 P) (lf P o239) (lf P o305))))) (.node (o46 P) (.node (o58 P) (.node (o77 P) (.node (o118 P) (.node (o187 P) (lf P o317) .nil) (lf P o253)) (.node (o153 P) (lf P o219) (lf P o285))) (.node (o99 P) (.node (o137 P) (lf P o203) (lf P o269)) (.node (o171 P) (lf P o235) (lf P o301)))) (.node (o69 P) (.node (o88 P) (.node (o129 P) (lf P o195) (lf P o261)) (.node (o161 P) (lf P o227) (lf P o293))) (.node (o107 P) (.node (o145 P) (lf P o211) (lf P o277)) (.node (o179 P) (lf P o243) (lf P o309)))))))
noncomputable def znU(P:Params):BT:=.node (boot_o_0 P) (.node (boot_o_1 P) (.node (o323 P) (.node (boot_o_7 P) (.node (o51 P) (.node (o70 P) (.node (o108 P) (.node (o180 P) (lf P o310) .nil) (.node (o244 P) (lf P o376) .nil)) (.node (o146 P) (.node (o212 P) (lf P o344) .nil) (lf P o278))) (.node (o89 P) (.node (o130 P) (.node (o196 P) (lf P o328) .nil) (.node (o262 P) (lf P o392) .nil)) (.node (o162 P) (.node (o228 P) (lf P o360) .nil) (lf P o294)))) (.node (o59 P) (.node (o78 P) (.node (o119 P) (.node (o188 P) (lf P o318) .nil) (.node (o254 P) (lf P o384) .nil)) (.node (o154 P) (.node (o220 P) (lf P o352) .nil) (lf P o286))) (.node (o100 P) (.node (o138 P) (.node (o204 P) (lf P o336) .nil) (.node (o270 P) (lf P o400) .nil)) (.node (o172 P) (.node (o236 P) (lf P o368) .nil) (lf P o302))))) (.node (o43 P) (.node (o55 P) (.node (o74 P) (.node (o115 P) (.node (o184 P) (lf P o314) .nil) (.node (o250 P) (lf P o380) .nil)) (.node (o150 P) (.node (o216 P) (lf P o348) .nil) (lf P o282))) (.node (o93 P) (.node (o134 P) (.node (o200 P) (lf P o332) .nil) (.node (o266 P) (lf P o396) .nil)) (.node (o168 P) (.node (o232 P) (lf P o364) .nil) (lf P o298)))) (.node (o63 P) (.node (o85 P) (.node (o123 P) (.node (o192 P) (lf P o322) .nil) (.node (o258 P) (lf P o388) .nil)) (.node (o158 P) (.node (o224 P) (lf P o356) .nil) (lf P o290))) (.node (o104 P) (.node (o142 P) (.node (o208 P) (lf P o340) .nil) (.node (o274 P) (lf P o404) .nil)) (.node (o176 P) (.node (o240 P) (lf P o372) .nil) (lf P o306)))))) (.node (boot_o_5 P) (.node (boot_o_9 P) (.node (o53 P) (.node (o72 P) (.node (o113 P) (.node (o182 P) (lf P o312) .nil) (.node (o248 P) (lf P o378) .nil)) (.node (o148 P) (.node (o214 P) (lf P o346) .nil) (lf P o280))) (.node (o91 P) (.node (o132 P) (.node (o198 P) (lf P o330) .nil) (.node (o264 P) (lf P o394) .nil)) (.node (o164 P) (.node (o230 P) (lf P o362) .nil) (lf P o296)))) (.node (o61 P) (.node (o83 P) (.node (o121 P) (.node (o190 P) (lf P o320) .nil) (.node (o256 P) (lf P o386) .nil)) (.node (o156 P) (.node (o222 P) (lf P o354) .nil) (lf P o288))) (.node (o102 P) (.node (o140 P) (.node (o206 P) (lf P o338) .nil) (.node (o272 P) (lf P o402) .nil)) (.node (o174 P) (.node (o238 P) (lf P o370) .nil) (lf P o304))))) (.node (o45 P) (.node (o57 P) (.node (o76 P) (.node (o117 P) (.node (o186 P) (lf P o316) .nil) (.node (o252 P) (lf P o382) .nil)) (.node (o152 P) (.node (o218 P) (lf P o350) .nil) (lf P o284))) (.node (o98 P) (.node (o136 P) (.node (o202 P) (lf P o334) .nil) (.node (o268 P) (lf P o398) .nil)) (.node (o170 P) (.node (o234 P) (lf P o366) .nil) (lf P o300)))) (.node (o68 P) (.node (o87 P) (.node (o128 P) (.node (o194 P) (lf P o326) .nil) (.node (o260 P) (lf P o390) .nil)) (.node (o160 P) (.node (o226 P) (lf P o358) .nil) (lf P o292))) (.node (o106 P) (.node (o144 P) (.node (o210 P) (lf P o342) .nil) (lf P o276)) (.node (o178 P) (.node (o242 P) (lf P o374) .nil) (lf P o308))))))) (.node (boot_o_2 P) (.node (boot_o_4 P) (.node (boot_o_8 P) (.node (o52 P) (.node (o71 P) (.node (o112 P) (.node (o181 P) (lf P o311) .nil) (.node (o245 P) (lf P o377) .nil)) (.node (o147 P) (.node (o213 P) (lf P o345) .nil) (lf P o279))) (.node (o90 P) (.node (o131 P) (.node (o197 P) (lf P o329) .nil) (.node (o263 P) (lf P o393) .nil)) (.node (o163 P) (.node (o229 P) (lf P o361) .nil) (lf P o295)))) (.node (o126 P) (.node (o82 P) (.node (o120 P) (.node (o189 P) (lf P o319) .nil) (.node (o255 P) (lf P o385) .nil)) (.node (o155 P) (.node (o221 P) (lf P o353) .nil) (lf P o287))) (.node (o101 P) (.node (o139 P) (.node (o205 P) (lf P o337) .nil) (.node (o271 P) (lf P o401) .nil)) (.node (o173 P) (.node (o237 P) (lf P o369) .nil) (lf P o303))))) (.node (o324 P) (.node (o56 P) (.node (o75 P) (.node (o116 P) (.node (o185 P) (lf P o315) .nil) (.node (o251 P) (lf P o381) .nil)) (.node (o151 P) (.node (o217 P) (lf P o349) .nil) (lf P o283))) (.node (o97 P) (.node (o135 P) (.node (o201 P) (lf P o333) .nil) (.node (o267 P) (lf P o397) .nil)) (.node (o169 P) (.node (o233 P) (lf P o365) .nil) (lf P o299)))) (.node (o67 P) (.node (o86 P) (.node (o127 P) (.node (o193 P) (lf P o325) .nil) (.node (o259 P) (lf P o389) .nil)) (.node (o159 P) (.node (o225 P) (lf P o357) .nil) (lf P o291))) (.node (o105 P) (.node (o143 P) (.node (o209 P) (lf P o341) .nil) (.node (o275 P) (lf P o405) .nil)) (.node (o177 P) (.node (o241 P) (lf P o373) .nil) (lf P o307)))))) (.node (boot_o_6 P) (.node (boot_o_10 P) (.node (o54 P) (.node (o73 P) (.node (o114 P) (.node (o183 P) (lf P o313) .nil) (.node (o249 P) (lf P o379) .nil)) (.node (o149 P) (.node (o215 P) (lf P o347) .nil) (lf P o281))) (.node (o92 P) (.node (o133 P) (.node (o199 P) (lf P o331) .nil) (.node (o265 P) (lf P o395) .nil)) (.node (o165 P) (.node (o231 P) (lf P o363) .nil) (lf P o297)))) (.node (o62 P) (.node (o84 P) (.node (o122 P) (.node (o191 P) (lf P o321) .nil) (.node (o257 P) (lf P o387) .nil)) (.node (o157 P) (.node (o223 P) (lf P o355) .nil) (lf P o289))) (.node (o103 P) (.node (o141 P) (.node (o207 P) (lf P o339) .nil) (.node (o273 P) (lf P o403) .nil)) (.node (o175 P) (.node (o239 P) (lf P o371) .nil) (lf P o305))))) (.node (o46 P) (.node (o58 P) (.node (o77 P) (.node (o118 P) (.node (o187 P) (lf P o317) .nil) (.node (o253 P) (lf P o383) .nil)) (.node (o153 P) (.node (o219 P) (lf P o351) .nil) (lf P o285))) (.node (o99 P) (.node (o137 P) (.node (o203 P) (lf P o335) .nil) (.node (o269 P) (lf P o399) .nil)) (.node (o171 P) (.node (o235 P) (lf P o367) .nil) (lf P o301)))) (.node (o69 P) (.node (o88 P) (.node (o129 P) (.node (o195 P) (lf P o327) .nil) (.node (o261 P) (lf P o391) .nil)) (.node (o161 P) (.node (o227 P) (lf P o359) .nil) (lf P o293))) (.node (o107 P) (.node (o145 P) (.node (o211 P) (lf P o343) .nil) (lf P o277)) (.node (o179 P) (.node (o243 P) (lf P o375) .nil) (lf P o309)))))))
noncomputable def znT(P:Params):BT:=.node (boot_o_0 P) (.node (boot_o_1 P) (.node (o406 P) (.node (boot_o_7 P) (.node (o51 P) (.node (o70 P) (.node (o108 P) (.node (o180 P) (lf P o310) (lf P o442)) (.node (o244 P) (lf P o376) .nil)) (.node (o146 P) (.node (o212 P) (lf P o344) .nil) (.node (o278 P) (lf P o410) .nil))) (.node (o89 P) (.node (o130 P) (.node (o196 P) (lf P o328) (lf P o458)) (.node (o262 P) (lf P o392) .nil)) (.node (o162 P) (.node (o228 P) (lf P o360) .nil) (.node (o294 P) (lf P o426) .nil)))) (.node (o59 P) (.node (o78 P) (.node (o119 P) (.node (o188 P) (lf P o318) (lf P o450)) (.node (o254 P) (lf P o384) .nil)) (.node (o154 P) (.node (o220 P) (lf P o352) .nil) (.node (o286 P) (lf P o418) .nil))) (.node (o100 P) (.node (o138 P) (.node (o204 P) (lf P o336) (lf P o466)) (.node (o270 P) (lf P o400) .nil)) (.node (o172 P) (.node (o236 P) (lf P o368) .nil) (.node (o302 P) (lf P o434) .nil))))) (.node (o43 P) (.node (o55 P) (.node (o74 P) (.node (o115 P) (.node (o184 P) (lf P o314) (lf P o446)) (.node (o250 P) (lf P o380) .nil)) (.node (o150 P) (.node (o216 P) (lf P o348) .nil) (.node (o282 P) (lf P o414) .nil))) (.node (o93 P) (.node (o134 P) (.node (o200 P) (lf P o332) (lf P o462)) (.node (o266 P) (lf P o396) .nil)) (.node (o168 P) (.node (o232 P) (lf P o364) .nil) (.node (o298 P) (lf P o430) .nil)))) (.node (o63 P) (.node (o85 P) (.node (o123 P) (.node (o192 P) (lf P o322) (lf P o454)) (.node (o258 P) (lf P o388) .nil)) (.node (o158 P) (.node (o224 P) (lf P o356) .nil) (.node (o290 P) (lf P o422) .nil))) (.node (o104 P) (.node (o142 P) (.node (o208 P) (lf P o340) (lf P o470)) (.node (o274 P) (lf P o404) .nil)) (.node (o176 P) (.node (o240 P) (lf P o372) .nil) (.node (o306 P) (lf P o438) .nil)))))) (.node (boot_o_5 P) (.node (boot_o_9 P) (.node (o53 P) (.node (o72 P) (.node (o113 P) (.node (o182 P) (lf P o312) (lf P o444)) (.node (o248 P) (lf P o378) .nil)) (.node (o148 P) (.node (o214 P) (lf P o346) .nil) (.node (o280 P) (lf P o412) .nil))) (.node (o91 P) (.node (o132 P) (.node (o198 P) (lf P o330) (lf P o460)) (.node (o264 P) (lf P o394) .nil)) (.node (o164 P) (.node (o230 P) (lf P o362) .nil) (.node (o296 P) (lf P o428) .nil)))) (.node (o61 P) (.node (o83 P) (.node (o121 P) (.node (o190 P) (lf P o320) (lf P o452)) (.node (o256 P) (lf P o386) .nil)) (.node (o156 P) (.node (o222 P) (lf P o354) .nil) (.node (o288 P) (lf P o420) .nil))) (.node (o102 P) (.node (o140 P) (.node (o206 P) (lf P o338) (lf P o468)) (.node (o272 P) (lf P o402) .nil)) (.node (o174 P) (.node (o238 P) (lf P o370) .nil) (.node (o304 P) (lf P o436) .nil))))) (.node (o45 P) (.node (o57 P) (.node (o76 P) (.node (o117 P) (.node (o186 P) (lf P o316) (lf P o448)) (.node (o252 P) (lf P o382) .nil)) (.node (o152 P) (.node (o218 P) (lf P o350) .nil) (.node (o284 P) (lf P o416) .nil))) (.node (o98 P) (.node (o136 P) (.node (o202 P) (lf P o334) (lf P o464)) (.node (o268 P) (lf P o398) .nil)) (.node (o170 P) (.node (o234 P) (lf P o366) .nil) (.node (o300 P) (lf P o432) .nil)))) (.node (o68 P) (.node (o87 P) (.node (o128 P) (.node (o194 P) (lf P o326) (lf P o456)) (.node (o260 P) (lf P o390) .nil)) (.node (o160 P) (.node (o226 P) (lf P o358) .nil) (.node (o292 P) (lf P o424) .nil))) (.node (o106 P) (.node (o144 P) (.node (o210 P) (lf P o342) (lf P o472)) (.node (o276 P) (lf P o408) .nil)) (.node (o178 P) (.node (o242 P) (lf P o374) .nil) (.node (o308 P) (lf P o440) .nil))))))) (.node (boot_o_2 P) (.node (boot_o_4 P) (.node (boot_o_8 P) (.node (o52 P) (.node (o71 P) (.node (o112 P) (.node (o181 P) (lf P o311) (lf P o443)) (.node (o245 P) (lf P o377) .nil)) (.node (o147 P) (.node (o213 P) (lf P o345) .nil) (.node (o279 P) (lf P o411) .nil))) (.node (o90 P) (.node (o131 P) (.node (o197 P) (lf P o329) (lf P o459)) (.node (o263 P) (lf P o393) .nil)) (.node (o163 P) (.node (o229 P) (lf P o361) .nil) (.node (o295 P) (lf P o427) .nil)))) (.node (o126 P) (.node (o82 P) (.node (o120 P) (.node (o189 P) (lf P o319) (lf P o451)) (.node (o255 P) (lf P o385) .nil)) (.node (o155 P) (.node (o221 P) (lf P o353) .nil) (.node (o287 P) (lf P o419) .nil))) (.node (o101 P) (.node (o139 P) (.node (o205 P) (lf P o337) (lf P o467)) (.node (o271 P) (lf P o401) .nil)) (.node (o173 P) (.node (o237 P) (lf P o369) .nil) (.node (o303 P) (lf P o435) .nil))))) (.node (o407 P) (.node (o56 P) (.node (o75 P) (.node (o116 P) (.node (o185 P) (lf P o315) (lf P o447)) (.node (o251 P) (lf P o381) .nil)) (.node (o151 P) (.node (o217 P) (lf P o349) .nil) (.node (o283 P) (lf P o415) .nil))) (.node (o97 P) (.node (o135 P) (.node (o201 P) (lf P o333) (lf P o463)) (.node (o267 P) (lf P o397) .nil)) (.node (o169 P) (.node (o233 P) (lf P o365) .nil) (.node (o299 P) (lf P o431) .nil)))) (.node (o67 P) (.node (o86 P) (.node (o127 P) (.node (o193 P) (lf P o325) (lf P o455)) (.node (o259 P) (lf P o389) .nil)) (.node (o159 P) (.node (o225 P) (lf P o357) .nil) (.node (o291 P) (lf P o423) .nil))) (.node (o105 P) (.node (o143 P) (.node (o209 P) (lf P o341) (lf P o471)) (.node (o275 P) (lf P o405) .nil)) (.node (o177 P) (.node (o241 P) (lf P o373) .nil) (.node (o307 P) (lf P o439) .nil)))))) (.node (boot_o_6 P) (.node (boot_o_10 P) (.node (o54 P) (.node (o73 P) (.node (o114 P) (.node (o183 P) (lf P o313) (lf P o445)) (.node (o249 P) (lf P o379) .nil)) (.node (o149 P) (.node (o215 P) (lf P o347) .nil) (.node (o281 P) (lf P o413) .nil))) (.node (o92 P) (.node (o133 P) (.node (o199 P) (lf P o331) (lf P o461)) (.node (o265 P) (lf P o395) .nil)) (.node (o165 P) (.node (o231 P) (lf P o363) .nil) (.node (o297 P) (lf P o429) .nil)))) (.node (o62 P) (.node (o84 P) (.node (o122 P) (.node (o191 P) (lf P o321) (lf P o453)) (.node (o257 P) (lf P o387) .nil)) (.node (o157 P) (.node (o223 P) (lf P o355) .nil) (.node (o289 P) (lf P o421) .nil))) (.node (o103 P) (.node (o141 P) (.node (o207 P) (lf P o339) (lf P o469)) (.node (o273 P) (lf P o403) .nil)) (.node (o175 P) (.node (o239 P) (lf P o371) .nil) (.node (o305 P) (lf P o437) .nil))))) (.node (o46 P) (.node (o58 P) (.node (o77 P) (.node (o118 P) (.node (o187 P) (lf P o317) (lf P o449)) (.node (o253 P) (lf P o383) .nil)) (.node (o153 P) (.node (o219 P) (lf P o351) .nil) (.node (o285 P) (lf P o417) .nil))) (.node (o99 P) (.node (o137 P) (.node (o203 P) (lf P o335) (lf P o465)) (.node (o269 P) (lf P o399) .nil)) (.node (o171 P) (.node (o235 P) (lf P o367) .nil) (.node (o301 P) (lf P o433) .nil)))) (.node (o69 P) (.node (o88 P) (.node (o129 P) (.node (o195 P) (lf P o327) (lf P o457)) (.node (o261 P) (lf P o391) .nil)) (.node (o161 P) (.node (o227 P) (lf P o359) .nil) (.node (o293 P) (lf P o425) .nil))) (.node (o107 P) (.node (o145 P) (.node (o211 P) (lf P o343) (lf P o473)) (.node (o277 P) (lf P o409) .nil)) (.node (o179 P) (.node (o243 P) (lf P o375) .nil) (.node (o309 P) (lf P o441) .nil)))))))
noncomputable def hp46(P:Params):Heap:={ objs:={ toList:=[boot_o_0 P,boot_o_1 P,boot_o_2 P,boot_o_3 P,boot_o_4 P,boot_o_5 P,boot_o_6 P,boot_o_7 P,boot_o_8 P,boot_o_9 P,boot_o_10 P,o43 P,o44 P,o45 P,o46 P] } }
noncomputable def zaL(P:Params):Heap:={ objs:={ toList:=[boot_o_0 P,boot_o_1 P,boot_o_2 P,o406 P,boot_o_4 P,boot_o_5 P,boot_o_6 P,boot_o_7 P,boot_o_8 P,boot_o_9 P,boot_o_10 P,o43 P,o407 P,o45 P,o46 P,o51 P,o52 P,o53 P,o54 P,o55 P,o56 P,o57 P,o58 P,o59 P,o126 P,o61 P,o62 P,o63 P,o67 P,o68 P,o69 P,o70 P,o71 P,o72 P,o73 P,o74 P,o75 P,o76 P,o77 P,o78 P,o82 P,o83 P,o84 P,o85 P,o86 P,o87 P,o88 P,o89 P,o90 P,o91 P,o92 P,o93 P,o97 P,o98 P,o99 P,o100 P,o101 P,o102 P,o103 P,o104 P,o105 P,o106 P,o107 P,o108 P,o112 P,o113 P,o114 P,o115 P,o116 P,o117 P,o118 P,o119 P,o120 P,o121 P,o122 P,o123 P,o127 P,o128 P,o129 P,o130 P,o131 P,o132 P,o133 P,o134 P,o135 P,o136 P,o137 P,o138 P,o139 P,o140 P,o141 P,o142 P,o143 P,o144 P,o145 P,o146 P,o147 P,o148 P,o149 P,o150 P,o151 P,o152 P,o153 P,o154 P,o155 P,o156 P,o157 P,o158 P,o159 P,o160 P,o161 P,o162 P,o163 P,o164 P,o165 P,o168 P,o169 P,o170 P,o171 P,o172 P,o173 P,o174 P,o175 P,o176 P,o177 P,o178 P,o179 P,o180 P,o181 P,o182 P,o183 P,o184 P,o185 P,o186 P,o187 P,o188 P,o189 P,o190 P,o191 P,o192 P,o193 P,o194 P,o195 P,o196 P,o197 P,o198 P,o199 P,o200 P,o201 P,o202 P,o203 P,o204 P,o205 P,o206 P,o207 P,o208 P,o209 P,o210 P,o211 P,o212 P,o213 P,o214 P,o215 P,o216 P,o217 P,o218 P,o219 P,o220 P,o221 P,o222 P,o223 P,o224 P,o225 P,o226 P,o227 P,o228 P,o229 P,o230 P,o231 P,o232 P,o233 P,o234 P,o235 P,o236 P,o237 P,o238 P,o239 P,o240 P,o241 P,o242 P,o243 P,o244 P,o245 P,o248 P,o249 P,o250 P,o251 P,o252 P,o253 P,o254 P,o255 P,o256 P,o257 P,o258 P,o259 P,o260 P,o261 P,o262 P,o263 P,o264 P,o265 P,o266 P,o267 P,o268 P,o269 P,o270 P,o271 P,o272 P,o273 P,o274 P,o275 P,o276 P,o277 P,o278 P,o279 P,o280 P,o281 P,o282 P,o283 P,o284 P,o285 P,o286 P,o287 P,o288 P,o289 P,o290 P,o291 P,o292 P,o293 P,o294 P,o295 P,o296 P,o297 P,o298 P,o299 P,o300 P,o301 P,o302 P,o303 P,o304 P,o305 P,o306 P,o307 P,o308 P,o309 P,o310 P,o311 P,o312 P,o313 P,o314 P,o315 P,o316 P,o317 P,o318 P,o319 P,o320 P,o321 P,o322 P,o325 P,o326 P,o327 P,o328 P,o329 P,o330 P,o331 P,o332 P,o333 P,o334 P,o335 P,o336 P,o337 P,o338 P,o339 P,o340 P,o341 P,o342 P,o343 P,o344 P,o345 P,o346 P,o347 P,o348 P,o349 P,o350 P,o351 P,o352 P,o353 P,o354 P,o355 P,o356 P,o357 P,o358 P,o359 P,o360 P,o361 P,o362 P,o363 P,o364 P,o365 P,o366 P,o367 P,o368 P,o369 P,o370 P,o371 P,o372 P,o373 P,o374 P,o375 P,o376 P,o377 P,o378 P,o379 P,o380 P,o381 P,o382 P,o383 P,o384 P,o385 P,o386 P,o387 P,o388 P,o389 P,o390 P,o391 P,o392 P,o393 P,o394 P,o395 P,o396 P,o397 P,o398 P,o399 P,o400 P,o401 P,o402 P,o403 P,o404 P,o405 P,o408 P,o409 P,o410 P,o411 P,o412 P,o413 P,o414 P,o415 P,o416 P,o417 P,o418 P,o419 P,o420 P,o421 P,o422 P,o423 P,o424 P,o425 P,o426 P,o427 P,o428 P,o429 P,o430 P,o431 P,o432 P,o433 P,o434 P,o435 P,o436 P,o437 P,o438 P,o439 P,o440 P,o441 P,o442 P,o443 P,o444 P,o445 P,o446 P,o447 P,o448 P,o449 P,o450 P,o451 P,o452 P,o453 P,o454 P,o455 P,o456 P,o457 P,o458 P,o459 P,o460 P,o461 P,o462 P,o463 P,o464 P,o465 P,o466 P,o467 P,o468 P,o469 P,o470 P,o471 P,o472 P,o473 P] } }
noncomputable def zhg(P:Params):Frag:=[(2,boot_o_2 P),(3,o406 P),(15,o51 P),(22,o58 P),(23,o59 P),(24,o126 P),(25,o61 P),(28,o67 P),(35,o74 P),(36,o75 P),(37,o76 P),(40,o82 P),(47,o89 P),(48,o90 P),(49,o91 P),(52,o97 P),(59,o104 P),(60,o105 P),(61,o106 P),(64,o112 P),(71,o119 P),(72,o120 P),(73,o121 P),(76,o127 P),(83,o134 P),(84,o135 P),(85,o136 P),(88,o139 P),(89,o140 P),(91,o142 P),(92,o143 P),(94,o145 P),(95,o146 P),(96,o147 P),(99,o150 P),(100,o151 P),(101,o152 P),(103,o154 P),(104,o155 P),(106,o157 P),(107,o158 P),(108,o159 P),(110,o161 P),(111,o162 P),(113,o164 P),(114,o165 P),(115,o168 P),(117,o170 P),(118,o171 P),(120,o173 P),(121,o174 P),(122,o175 P),(124,o177 P),(125,o178 P),(127,o180 P),(128,o181 P),(129,o182 P),(132,o185 P),(133,o186 P),(134,o187 P),(136,o189 P),(137,o190 P),(139,o192 P),(140,o193 P),(141,o194 P),(143,o196 P),(144,o197 P),(146,o199 P),(147,o200 P),(148,o201 P),(151,o204 P),(152,o205 P),(153,o206 P),(156,o209 P),(157,o210 P),(158,o211 P),(160,o213 P),(161,o214 P),(163,o216 P),(164,o217 P),(165,o218 P),(167,o220 P),(168,o221 P),(170,o223 P),(171,o224 P),(172,o225 P),(174,o227 P),(175,o228 P),(177,o230 P),(178,o231 P),(179,o232 P),(181,o234 P),(182,o235 P),(184,o237 P),(185,o238 P),(186,o239 P),(188,o241 P),(189,o242 P),(191,o244 P),(192,o245 P),(193,o248 P),(195,o250 P),(196,o251 P),(198,o253 P),(199,o254 P),(200,o255 P),(202,o257 P),(203,o258 P),(205,o260 P),(206,o261 P),(207,o262 P),(210,o265 P),(211,o266 P),(212,o267 P),(214,o269 P),(215,o270 P),(217,o272 P),(218,o273 P),(219,o274 P),(221,o276 P),(222,o277 P),(224,o279 P),(225,o280 P),(226,o281 P),(228,o283 P),(229,o284 P),(231,o286 P),(232,o287 P),(233,o288 P),(235,o290 P),(236,o291 P),(238,o293 P),(239,o294 P),(240,o295 P),(242,o297 P),(243,o298 P),(245,o300 P),(246,o301 P),(247,o302 P),(249,o304 P),(250,o305 P),(252,o307 P),(253,o308 P),(254,o309 P),(256,o311 P),(257,o312 P),(259,o314 P),(260,o315 P),(261,o316 P),(263,o318 P),(264,o319 P),(266,o321 P),(267,o322 P),(268,o325 P),(270,o327 P),(271,o328 P),(273,o330 P),(274,o331 P),(275,o332 P),(277,o334 P),(278,o335 P),(280,o337 P),(281,o338 P),(282,o339 P),(285,o342 P),(286,o343 P),(287,o344 P),(290,o347 P),(291,o348 P),(292,o349 P),(294,o351 P),(295,o352 P),(297,o354 P),(298,o355 P),(299,o356 P),(301,o358 P),(302,o359 P),(304,o361 P),(305,o362 P),(306,o363 P),(308,o365 P),(309,o366 P),(311,o368 P),(312,o369 P),(313,o370 P),(315,o372 P),(316,o373 P),(318,o375 P),(319,o376 P),(320,o377 P),(323,o380 P),(324,o381 P),(325,o382 P),(327,o384 P),(328,o385 P),(330,o387 P),(331,o388 P),(332,o389 P),(335,o392 P),(336,o393 P),(337,o394 P),(340,o397 P),(341,o398 P),(342,o399 P),(344,o401 P),(345,o402 P),(347,o404 P),(348,o405 P),(349,o408 P),(351,o410 P),(352,o411 P),(354,o413 P),(355,o414 P),(356,o415 P),(358,o417 P),(359,o418 P),(361,o420 P),(362,o421 P),(363,o422 P),(365,o424 P),(366,o425 P),(368,o427 P),(369,o428 P),(370,o429 P),(372,o431 P),(373,o432 P),(375,o434 P),(376,o435 P),(377,o436 P),(380,o439 P),(381,o440 P),(382,o441 P),(384,o443 P),(385,o444 P),(387,o446 P),(388,o447 P),(389,o448 P),(391,o450 P),(392,o451 P),(394,o453 P),(395,o454 P),(396,o455 P),(398,o457 P),(399,o458 P),(401,o460 P),(402,o461 P),(403,o462 P),(405,o464 P),(406,o465 P),(408,o467 P),(409,o468 P),(410,o469 P),(413,o472 P),(414,o473 P)]
noncomputable def hAs:List Addr:=[2,3,15,22,23,24,25,28,35,36,37,40,47,48,49,52,59,60,61,64,71,72,73,76,83,84,85,88,89,91,92,94,95,96,99,100,101,103,104,106,107,108,110,111,113,114,115,117,118,120,121,122,124,125,127,128,129,132,133,134,136,137,139,140,141,143,144,146,147,148,151,152,153,156,157,158,160,161,163,164,165,167,168,170,171,172,174,175,177,178,179,181,182,184,185,186,188,189,191,192,193,195,196,198,199,200,202,203,205,206,207,210,211,212,214,215,217,218,219,221,222,224,225,226,228,229,231,232,233,235,236,238,239,240,242,243,245,246,247,249,250,252,253,254,256,257,259,260,261,263,264,266,267,268,270,271,273,274,275,277,278,280,281,282,285,286,287,290,291,292,294,295,297,298,299,301,302,304,305,306,308,309,311,312,313,315,316,318,319,320,323,324,325,327,328,330,331,332,335,336,337,340,341,342,344,345,347,348,349,351,352,354,355,356,358,359,361,362,363,365,366,368,369,370,372,373,375,376,377,380,381,382,384,385,387,388,389,391,392,394,395,396,398,399,401,402,403,405,406,408,409,410,413,414]
theorem h_as(P:Params):hAs=(zhg P).map (·.1):=by kernel_rfl
noncomputable def hHook:Hook:=kHook zhg hAs h_as
noncomputable def zaS:Program:={ PG with main:={ PG.main with body:=[sA 1,sA 2,sA 3,sA 4,sA 5,sA 6,sA 8,sA 9,sA 10,sA 11,sA 12,sA 13,sA 14,sA 15,sA 16,sA 17,sA 18,sA 19,sA 20,sA 22,sA 23,sA 24,sA 25,sA 26,sA 28,sA 29,sA 30,sA 31,sA 32,sA 33,sA 34,sA 35,sA 36,sA 37,sA 39,sA 40,sA 41,sA 42,sA 44,sA 45,sA 46,sA 47,sA 48,sA 49,sA 50,sA 51,sA 52,sA 53,sA 55,sA 56,sA 57,sA 58,sA 59,sA 60,sA 61,sA 62,sA 63,sA 64,sA 65,sA 66,sA 67,sA 68,sA 69,sA 70] } }
noncomputable def hEnv:Env:={ scope:=PG.main.scope,locals:=mainNs,globals:=mainNs,cells:=[],code:=.ref 13,frame:=some 14 }
noncomputable def hC:Code:=.body (behindTheImports PG) hEnv
noncomputable abbrev P00:Pos:=⟨0,0,0,0⟩
theorem pGo(w:World):(fun os:OsState=>topGo treeTable PG w 11 (some (.ref 6)) 12 ⟨boot_heap w.params,#[],boot_drawn,boot_toks,os⟩ (topStub PG))=fun os=>some (⟨hp46 w.params,#[],{},187,os⟩,⟨denote treeTable hC,hC,P00,[topFrame P00]⟩):=by kernel_rfl
theorem pSeg(w:World):(fun os:OsState=>segRun treeTable PG w 11 (some (.ref 6)) 1 1 ⟨hp46 w.params,#[],{},187,os⟩ (blockOf (behindTheImports PG) hEnv hC P00 [topFrame P00]))=fun os=>some (.next,SharedT.abs ⟨tr47 w.params,15,{},#[],{},187,os⟩,hC,P00):=by kernel_rfl
theorem pc0(w:World):(fun os:OsState=>segRunT treeTable PG w 11 (some (.ref 6)) 1 196 ⟨tr47 w.params,15,{},#[],{},187,os⟩ (piecesOf [sA 0,sA 1] hEnv hC ⟨0,0,0,0⟩ [topFrame P00]))=fun os=>some (.next,⟨tr63 w.params,28,{},#[],{},207,os⟩,hC,⟨2,0,3,8⟩):=by kernel_rfl
theorem pc1(w:World):(fun os:OsState=>segRunT treeTable PG w 11 (some (.ref 6)) 1 214 ⟨tr63 w.params,28,{},#[],{},207,os⟩ (piecesOf [sA 2] hEnv hC ⟨2,0,3,8⟩ [topFrame P00]))=fun os=>some (.next,⟨tr78 w.params,40,{},#[],{},223,os⟩,hC,⟨4,0,5,8⟩):=by kernel_rfl
theorem pc2(w:World):(fun os:OsState=>segRunT treeTable PG w 11 (some (.ref 6)) 1 214 ⟨tr78 w.params,40,{},#[],{},223,os⟩ (piecesOf [sA 3] hEnv hC ⟨4,0,5,8⟩ [topFrame P00]))=fun os=>some (.next,⟨tr93 w.params,52,{},#[],{},239,os⟩,hC,⟨6,0,7,8⟩):=by kernel_rfl
theorem pc3(w:World):(fun os:OsState=>segRunT treeTable PG w 11 (some (.ref 6)) 1 214 ⟨tr93 w.params,52,{},#[],{},239,os⟩ (piecesOf [sA 4] hEnv hC ⟨6,0,7,8⟩ [topFrame P00]))=fun os=>some (.next,⟨znZ w.params,64,{},#[],{},255,os⟩,hC,⟨8,0,9,8⟩):=by kernel_rfl
theorem pc4(w:World):(fun os:OsState=>segRunT treeTable PG w 11 (some (.ref 6)) 1 214 ⟨znZ w.params,64,{},#[],{},255,os⟩ (piecesOf [sA 5] hEnv hC ⟨8,0,9,8⟩ [topFrame P00]))=fun os=>some (.next,⟨znY w.params,76,{},#[],{},271,os⟩,hC,⟨10,0,11,8⟩):=by kernel_rfl
theorem pc5(w:World):(fun os:OsState=>segRunT treeTable PG w 11 (some (.ref 6)) 1 379 ⟨znY w.params,76,{},#[],{},271,os⟩ (piecesOf [sA 6,sA 7,sA 8,sA 9,sA 10,sA 11,sA 12,sA 13,sA 14,sA 15] hEnv hC ⟨10,0,11,8⟩ [topFrame P00]))=fun os=>some (.next,⟨znX w.params,115,{},#[],{},329,os⟩,hC,⟨37,0,38,38⟩):=by kernel_rfl
theorem pc6(w:World):(fun os:OsState=>segRunT treeTable PG w 11 (some (.ref 6)) 1 394 ⟨znX w.params,115,{},#[],{},329,os⟩ (piecesOf [sA 16,sA 17,sA 18,sA 19,sA 20,sA 21,sA 22,sA 23,sA 24,sA 25,sA 26,sA 27,sA 28,sA 29,sA 30,sA 31] hEnv hC ⟨37,0,38,38⟩ [topFrame P00]))=fun os=>some (.next,⟨znW w.params,193,{},#[],{},436,os⟩,hC,⟨94,0,109,88⟩):=by kernel_rfl
theorem pc7(w:World):(fun os:OsState=>segRunT treeTable PG w 11 (some (.ref 6)) 1 383 ⟨znW w.params,193,{},#[],{},436,os⟩ (piecesOf [sA 32,sA 33,sA 34,sA 35,sA 36,sA 37,sA 38,sA 39,sA 40,sA 41,sA 42,sA 43,sA 44,sA 45,sA 46] hEnv hC ⟨94,0,109,88⟩ [topFrame P00]))=fun os=>some (.next,⟨znV w.params,268,{},#[],{},550,os⟩,hC,⟨198,0,208,29⟩):=by kernel_rfl
theorem pc8(w:World):(fun os:OsState=>segRunT treeTable PG w 11 (some (.ref 6)) 1 393 ⟨znV w.params,268,{},#[],{},550,os⟩ (piecesOf [sA 47,sA 48,sA 49,sA 50,sA 51,sA 52,sA 53,sA 54,sA 55,sA 56,sA 57,sA 58,sA 59,sA 60] hEnv hC ⟨198,0,208,29⟩ [topFrame P00]))=fun os=>some (.next,⟨znU w.params,349,{},#[],{},659,os⟩,hC,⟨304,0,313,39⟩):=by kernel_rfl
theorem pc9(w:World):(fun os:OsState=>segRunT treeTable PG w 11 (some (.ref 6)) 1 312 ⟨znU w.params,349,{},#[],{},659,os⟩ (piecesOf [sA 61,sA 62,sA 63,sA 64,sA 65,sA 66,sA 67,sA 68,sA 69,sA 70] hEnv hC ⟨304,0,313,39⟩ [topFrame P00]))=fun os=>some (.next,⟨znT w.params,415,{},#[],{},754,os⟩,hC,⟨383,0,401,92⟩):=by kernel_rfl
theorem zqI:behindTheImports PG=[sA 0,sA 1,sA 2,sA 3,sA 4,sA 5,sA 6,sA 7,sA 8,sA 9,sA 10,sA 11,sA 12,sA 13,sA 14,sA 15,sA 16,sA 17,sA 18,sA 19,sA 20,sA 21,sA 22,sA 23,sA 24,sA 25,sA 26,sA 27,sA 28,sA 29,sA 30,sA 31,sA 32,sA 33,sA 34,sA 35,sA 36,sA 37,sA 38,sA 39,sA 40,sA 41,sA 42,sA 43,sA 44,sA 45,sA 46,sA 47,sA 48,sA 49,sA 50,sA 51,sA 52,sA 53,sA 54,sA 55,sA 56,sA 57,sA 58,sA 59,sA 60,sA 61,sA 62,sA 63,sA 64,sA 65,sA 66,sA 67,sA 68,sA 69,sA 70]:=by kernel_rfl
theorem pEnd(w:World)(os:OsState):topRun treeTable PG w 11 (some (.ref 6)) 2 (SharedT.abs ⟨znT w.params,415,{},#[],{},754,os⟩) (restOf [] hEnv hC ⟨383,0,401,92⟩ [topFrame P00])=some ⟨zaL w.params,#[],{},754,os⟩:=congrFun (show (fun os:OsState=>topRun treeTable PG w 11 (some (.ref 6)) 2 (SharedT.abs ⟨znT w.params,415,{},#[],{},754,os⟩) (restOf [] hEnv hC ⟨383,0,401,92⟩ [topFrame P00]))=fun os=>some ⟨zaL w.params,#[],{},754,os⟩ by kernel_rfl) os
theorem rn9(w:World)(os:OsState):topRun treeTable PG w 11 (some (.ref 6)) (312+2) (SharedT.abs ⟨znU w.params,349,{},#[],{},659,os⟩) (restOf [sA 61,sA 62,sA 63,sA 64,sA 65,sA 66,sA 67,sA 68,sA 69,sA 70] hEnv hC ⟨304,0,313,39⟩ [topFrame P00])=some ⟨zaL w.params,#[],{},754,os⟩:=piece_app (l:=[sA 61,sA 62,sA 63,sA 64,sA 65,sA 66,sA 67,sA 68,sA 69,sA 70]) (rest:=[]) (segRun_of (congrFun (pc9 w) os)) (pEnd w os)
theorem rn8(w:World)(os:OsState):topRun treeTable PG w 11 (some (.ref 6)) (393+(312+2)) (SharedT.abs ⟨znV w.params,268,{},#[],{},550,os⟩) (restOf [sA 47,sA 48,sA 49,sA 50,sA 51,sA 52,sA 53,sA 54,sA 55,sA 56,sA 57,sA 58,sA 59,sA 60,sA 61,sA 62,sA 63,sA 64,sA 65,sA 66,sA 67,sA 68,sA 69,sA 70] hEnv hC ⟨198,0,208,29⟩ [topFrame P00])=some ⟨zaL w.params,#[],{},754,os⟩:=piece_app (l:=[sA 47,sA 48,sA 49,sA 50,sA 51,sA 52,sA 53,sA 54,sA 55,sA 56,sA 57,sA 58,sA 59,sA 60]) (rest:=[sA 61,sA 62,sA 63,sA 64,sA 65,sA 66,sA 67,sA 68,sA 69,sA 70]) (segRun_of (congrFun (pc8 w) os)) (rn9 w os)
theorem rn7(w:World)(os:OsState):topRun treeTable PG w 11 (some (.ref 6)) (383+(393+(312+2))) (SharedT.abs ⟨znW w.params,193,{},#[],{},436,os⟩) (restOf [sA 32,sA 33,sA 34,sA 35,sA 36,sA 37,sA 38,sA 39,sA 40,sA 41,sA 42,sA 43,sA 44,sA 45,sA 46,sA 47,sA 48,sA 49,sA 50,sA 51,sA 52,sA 53,sA 54,sA 55,sA 56,sA 57,sA 58,sA 59,sA 60,sA 61,sA 62,sA 63,sA 64,sA 65,sA 66,sA 67,sA 68,sA 69,sA 70] hEnv hC ⟨94,0,109,88⟩ [topFrame P00])=some ⟨zaL w.params,#[],{},754,os⟩:=piece_app (l:=[sA 32,sA 33,sA 34,sA 35,sA 36,sA 37,sA 38,sA 39,sA 40,sA 41,sA 42,sA 43,sA 44,sA 45,sA 46]) (rest:=[sA 47,sA 48,sA 49,sA 50,sA 51,sA 52,sA 53,sA 54,sA 55,sA 56,sA 57,sA 58,sA 59,sA 60,sA 61,sA 62,sA 63,sA 64,sA 65,sA 66,sA 67,sA 68,sA 69,sA 70]) (segRun_of (congrFun (pc7 w) os)) (rn8 w os)
theorem rn6(w:World)(os:OsState):topRun treeTable PG w 11 (some (.ref 6)) (394+(383+(393+(312+2)))) (SharedT.abs ⟨znX w.params,115,{},#[],{},329,os⟩) (restOf [sA 16,sA 17,sA 18,sA 19,sA 20,sA 21,sA 22,sA 23,sA 24,sA 25,sA 26,sA 27,sA 28,sA 29,sA 30,sA 31,sA 32,sA 33,sA 34,sA 35,sA 36,sA 37,sA 38,sA 39,sA 40,sA 41,sA 42,sA 43,sA 44,sA 45,sA 46,sA 47,sA 48,sA 49,sA 50,sA 51,sA 52,sA 53,sA 54,sA 55,sA 56,sA 57,sA 58,sA 59,sA 60,sA 61,sA 62,sA 63,sA 64,sA 65,sA 66,sA 67,sA 68,sA 69,sA 70] hEnv hC ⟨37,0,38,38⟩ [topFrame P00])=some ⟨zaL w.params,#[],{},754,os⟩:=piece_app (l:=[sA 16,sA 17,sA 18,sA 19,sA 20,sA 21,sA 22,sA 23,sA 24,sA 25,sA 26,sA 27,sA 28,sA 29,sA 30,sA 31]) (rest:=[sA 32,sA 33,sA 34,sA 35,sA 36,sA 37,sA 38,sA 39,sA 40,sA 41,sA 42,sA 43,sA 44,sA 45,sA 46,sA 47,sA 48,sA 49,sA 50,sA 51,sA 52,sA 53,sA 54,sA 55,sA 56,sA 57,sA 58,sA 59,sA 60,sA 61,sA 62,sA 63,sA 64,sA 65,sA 66,sA 67,sA 68,sA 69,sA 70]) (segRun_of (congrFun (pc6 w) os)) (rn7 w os)
theorem rn5(w:World)(os:OsState):topRun treeTable PG w 11 (some (.ref 6)) (379+(394+(383+(393+(312+2))))) (SharedT.abs ⟨znY w.params,76,{},#[],{},271,os⟩) (restOf [sA 6,sA 7,sA 8,sA 9,sA 10,sA 11,sA 12,sA 13,sA 14,sA 15,sA 16,sA 17,sA 18,sA 19,sA 20,sA 21,sA 22,sA 23,sA 24,sA 25,sA 26,sA 27,sA 28,sA 29,sA 30,sA 31,sA 32,sA 33,sA 34,sA 35,sA 36,sA 37,sA 38,sA 39,sA 40,sA 41,sA 42,sA 43,sA 44,sA 45,sA 46,sA 47,sA 48,sA 49,sA 50,sA 51,sA 52,sA 53,sA 54,sA 55,sA 56,sA 57,sA 58,sA 59,sA 60,sA 61,sA 62,sA 63,sA 64,sA 65,sA 66,sA 67,sA 68,sA 69,sA 70] hEnv hC ⟨10,0,11,8⟩ [topFrame P00])=some ⟨zaL w.params,#[],{},754,os⟩:=piece_app (l:=[sA 6,sA 7,sA 8,sA 9,sA 10,sA 11,sA 12,sA 13,sA 14,sA 15]) (rest:=[sA 16,sA 17,sA 18,sA 19,sA 20,sA 21,sA 22,sA 23,sA 24,sA 25,sA 26,sA 27,sA 28,sA 29,sA 30,sA 31,sA 32,sA 33,sA 34,sA 35,sA 36,sA 37,sA 38,sA 39,sA 40,sA 41,sA 42,sA 43,sA 44,sA 45,sA 46,sA 47,sA 48,sA 49,sA 50,sA 51,sA 52,sA 53,sA 54,sA 55,sA 56,sA 57,sA 58,sA 59,sA 60,sA 61,sA 62,sA 63,sA 64,sA 65,sA 66,sA 67,sA 68,sA 69,sA 70]) (segRun_of (congrFun (pc5 w) os)) (rn6 w os)
theorem rn4(w:World)(os:OsState):topRun treeTable PG w 11 (some (.ref 6)) (214+(379+(394+(383+(393+(312+2)))))) (SharedT.abs ⟨znZ w.params,64,{},#[],{},255,os⟩) (restOf [sA 5,sA 6,sA 7,sA 8,sA 9,sA 10,sA 11,sA 12,sA 13,sA 14,sA 15,sA 16,sA 17,sA 18,sA 19,sA 20,sA 21,sA 22,sA 23,sA 24,sA 25,sA 26,sA 27,sA 28,sA 29,sA 30,sA 31,sA 32,sA 33,sA 34,sA 35,sA 36,sA 37,sA 38,sA 39,sA 40,sA 41,sA 42,sA 43,sA 44,sA 45,sA 46,sA 47,sA 48,sA 49,sA 50,sA 51,sA 52,sA 53,sA 54,sA 55,sA 56,sA 57,sA 58,sA 59,sA 60,sA 61,sA 62,sA 63,sA 64,sA 65,sA 66,sA 67,sA 68,sA 69,sA 70] hEnv hC ⟨8,0,9,8⟩ [topFrame P00])=some ⟨zaL w.params,#[],{},754,os⟩:=piece_app (l:=[sA 5]) (rest:=[sA 6,sA 7,sA 8,sA 9,sA 10,sA 11,sA 12,sA 13,sA 14,sA 15,sA 16,sA 17,sA 18,sA 19,sA 20,sA 21,sA 22,sA 23,sA 24,sA 25,sA 26,sA 27,sA 28,sA 29,sA 30,sA 31,sA 32,sA 33,sA 34,sA 35,sA 36,sA 37,sA 38,sA 39,sA 40,sA 41,sA 42,sA 43,sA 44,sA 45,sA 46,sA 47,sA 48,sA 49,sA 50,sA 51,sA 52,sA 53,sA 54,sA 55,sA 56,sA 57,sA 58,sA 59,sA 60,sA 61,sA 62,sA 63,sA 64,sA 65,sA 66,sA 67,sA 68,sA 69,sA 70]) (segRun_of (congrFun (pc4 w) os)) (rn5 w os)
theorem rn3(w:World)(os:OsState):topRun treeTable PG w 11 (some (.ref 6)) (214+(214+(379+(394+(383+(393+(312+2))))))) (SharedT.abs ⟨tr93 w.params,52,{},#[],{},239,os⟩) (restOf [sA 4,sA 5,sA 6,sA 7,sA 8,sA 9,sA 10,sA 11,sA 12,sA 13,sA 14,sA 15,sA 16,sA 17,sA 18,sA 19,sA 20,sA 21,sA 22,sA 23,sA 24,sA 25,sA 26,sA 27,sA 28,sA 29,sA 30,sA 31,sA 32,sA 33,sA 34,sA 35,sA 36,sA 37,sA 38,sA 39,sA 40,sA 41,sA 42,sA 43,sA 44,sA 45,sA 46,sA 47,sA 48,sA 49,sA 50,sA 51,sA 52,sA 53,sA 54,sA 55,sA 56,sA 57,sA 58,sA 59,sA 60,sA 61,sA 62,sA 63,sA 64,sA 65,sA 66,sA 67,sA 68,sA 69,sA 70] hEnv hC ⟨6,0,7,8⟩ [topFrame P00])=some ⟨zaL w.params,#[],{},754,os⟩:=piece_app (l:=[sA 4]) (rest:=[sA 5,sA 6,sA 7,sA 8,sA 9,sA 10,sA 11,sA 12,sA 13,sA 14,sA 15,sA 16,sA 17,sA 18,sA 19,sA 20,sA 21,sA 22,sA 23,sA 24,sA 25,sA 26,sA 27,sA 28,sA 29,sA 30,sA 31,sA 32,sA 33,sA 34,sA 35,sA 36,sA 37,sA 38,sA 39,sA 40,sA 41,sA 42,sA 43,sA 44,sA 45,sA 46,sA 47,sA 48,sA 49,sA 50,sA 51,sA 52,sA 53,sA 54,sA 55,sA 56,sA 57,sA 58,sA 59,sA 60,sA 61,sA 62,sA 63,sA 64,sA 65,sA 66,sA 67,sA 68,sA 69,sA 70]) (segRun_of (congrFun (pc3 w) os)) (rn4 w os)
theorem rn2(w:World)(os:OsState):topRun treeTable PG w 11 (some (.ref 6)) (214+(214+(214+(379+(394+(383+(393+(312+2)))))))) (SharedT.abs ⟨tr78 w.params,40,{},#[],{},223,os⟩) (restOf [sA 3,sA 4,sA 5,sA 6,sA 7,sA 8,sA 9,sA 10,sA 11,sA 12,sA 13,sA 14,sA 15,sA 16,sA 17,sA 18,sA 19,sA 20,sA 21,sA 22,sA 23,sA 24,sA 25,sA 26,sA 27,sA 28,sA 29,sA 30,sA 31,sA 32,sA 33,sA 34,sA 35,sA 36,sA 37,sA 38,sA 39,sA 40,sA 41,sA 42,sA 43,sA 44,sA 45,sA 46,sA 47,sA 48,sA 49,sA 50,sA 51,sA 52,sA 53,sA 54,sA 55,sA 56,sA 57,sA 58,sA 59,sA 60,sA 61,sA 62,sA 63,sA 64,sA 65,sA 66,sA 67,sA 68,sA 69,sA 70] hEnv hC ⟨4,0,5,8⟩ [topFrame P00])=some ⟨zaL w.params,#[],{},754,os⟩:=piece_app (l:=[sA 3]) (rest:=[sA 4,sA 5,sA 6,sA 7,sA 8,sA 9,sA 10,sA 11,sA 12,sA 13,sA 14,sA 15,sA 16,sA 17,sA 18,sA 19,sA 20,sA 21,sA 22,sA 23,sA 24,sA 25,sA 26,sA 27,sA 28,sA 29,sA 30,sA 31,sA 32,sA 33,sA 34,sA 35,sA 36,sA 37,sA 38,sA 39,sA 40,sA 41,sA 42,sA 43,sA 44,sA 45,sA 46,sA 47,sA 48,sA 49,sA 50,sA 51,sA 52,sA 53,sA 54,sA 55,sA 56,sA 57,sA 58,sA 59,sA 60,sA 61,sA 62,sA 63,sA 64,sA 65,sA 66,sA 67,sA 68,sA 69,sA 70]) (segRun_of (congrFun (pc2 w) os)) (rn3 w os)
theorem rn1(w:World)(os:OsState):topRun treeTable PG w 11 (some (.ref 6)) (214+(214+(214+(214+(379+(394+(383+(393+(312+2))))))))) (SharedT.abs ⟨tr63 w.params,28,{},#[],{},207,os⟩) (restOf [sA 2,sA 3,sA 4,sA 5,sA 6,sA 7,sA 8,sA 9,sA 10,sA 11,sA 12,sA 13,sA 14,sA 15,sA 16,sA 17,sA 18,sA 19,sA 20,sA 21,sA 22,sA 23,sA 24,sA 25,sA 26,sA 27,sA 28,sA 29,sA 30,sA 31,sA 32,sA 33,sA 34,sA 35,sA 36,sA 37,sA 38,sA 39,sA 40,sA 41,sA 42,sA 43,sA 44,sA 45,sA 46,sA 47,sA 48,sA 49,sA 50,sA 51,sA 52,sA 53,sA 54,sA 55,sA 56,sA 57,sA 58,sA 59,sA 60,sA 61,sA 62,sA 63,sA 64,sA 65,sA 66,sA 67,sA 68,sA 69,sA 70] hEnv hC ⟨2,0,3,8⟩ [topFrame P00])=some ⟨zaL w.params,#[],{},754,os⟩:=piece_app (l:=[sA 2]) (rest:=[sA 3,sA 4,sA 5,sA 6,sA 7,sA 8,sA 9,sA 10,sA 11,sA 12,sA 13,sA 14,sA 15,sA 16,sA 17,sA 18,sA 19,sA 20,sA 21,sA 22,sA 23,sA 24,sA 25,sA 26,sA 27,sA 28,sA 29,sA 30,sA 31,sA 32,sA 33,sA 34,sA 35,sA 36,sA 37,sA 38,sA 39,sA 40,sA 41,sA 42,sA 43,sA 44,sA 45,sA 46,sA 47,sA 48,sA 49,sA 50,sA 51,sA 52,sA 53,sA 54,sA 55,sA 56,sA 57,sA 58,sA 59,sA 60,sA 61,sA 62,sA 63,sA 64,sA 65,sA 66,sA 67,sA 68,sA 69,sA 70]) (segRun_of (congrFun (pc1 w) os)) (rn2 w os)
theorem rn0(w:World)(os:OsState):topRun treeTable PG w 11 (some (.ref 6)) (196+(214+(214+(214+(214+(379+(394+(383+(393+(312+2)))))))))) (SharedT.abs ⟨tr47 w.params,15,{},#[],{},187,os⟩) (restOf [sA 0,sA 1,sA 2,sA 3,sA 4,sA 5,sA 6,sA 7,sA 8,sA 9,sA 10,sA 11,sA 12,sA 13,sA 14,sA 15,sA 16,sA 17,sA 18,sA 19,sA 20,sA 21,sA 22,sA 23,sA 24,sA 25,sA 26,sA 27,sA 28,sA 29,sA 30,sA 31,sA 32,sA 33,sA 34,sA 35,sA 36,sA 37,sA 38,sA 39,sA 40,sA 41,sA 42,sA 43,sA 44,sA 45,sA 46,sA 47,sA 48,sA 49,sA 50,sA 51,sA 52,sA 53,sA 54,sA 55,sA 56,sA 57,sA 58,sA 59,sA 60,sA 61,sA 62,sA 63,sA 64,sA 65,sA 66,sA 67,sA 68,sA 69,sA 70] hEnv hC ⟨0,0,0,0⟩ [topFrame P00])=some ⟨zaL w.params,#[],{},754,os⟩:=piece_app (l:=[sA 0,sA 1]) (rest:=[sA 2,sA 3,sA 4,sA 5,sA 6,sA 7,sA 8,sA 9,sA 10,sA 11,sA 12,sA 13,sA 14,sA 15,sA 16,sA 17,sA 18,sA 19,sA 20,sA 21,sA 22,sA 23,sA 24,sA 25,sA 26,sA 27,sA 28,sA 29,sA 30,sA 31,sA 32,sA 33,sA 34,sA 35,sA 36,sA 37,sA 38,sA 39,sA 40,sA 41,sA 42,sA 43,sA 44,sA 45,sA 46,sA 47,sA 48,sA 49,sA 50,sA 51,sA 52,sA 53,sA 54,sA 55,sA 56,sA 57,sA 58,sA 59,sA 60,sA 61,sA 62,sA 63,sA 64,sA 65,sA 66,sA 67,sA 68,sA 69,sA 70]) (segRun_of (congrFun (pc0 w) os)) (rn1 w os)
theorem rnB(w:World)(os:OsState):topRun treeTable PG w 11 (some (.ref 6)) (196+(214+(214+(214+(214+(379+(394+(383+(393+(312+2)))))))))) (SharedT.abs ⟨tr47 w.params,15,{},#[],{},187,os⟩) (restOf (behindTheImports PG) hEnv hC P00 [topFrame P00])=some ⟨zaL w.params,#[],{},754,os⟩:=(congrArg (fun b=>topRun treeTable PG w 11 (some (.ref 6)) (196+(214+(214+(214+(214+(379+(394+(383+(393+(312+2)))))))))) (SharedT.abs ⟨tr47 w.params,15,{},#[],{},187,os⟩) (restOf b hEnv hC P00 [topFrame P00])=some ⟨zaL w.params,#[],{},754,os⟩) zqI).mpr (rn0 w os)
theorem rnT(w:World)(os:OsState):topRun treeTable PG w 11 (some (.ref 6)) (12+(1+(196+(214+(214+(214+(214+(379+(394+(383+(393+(312+2)))))))))))) ⟨boot_heap w.params,#[],boot_drawn,boot_toks,os⟩ (topStub PG)=some ⟨zaL w.params,#[],{},754,os⟩:=go_top (congrFun (pGo w) os) (piece_block (congrFun (pSeg w) os) (rnB w os))
theorem zqC(w:World):((boot_heap w.params).isNs mainGlobals&&(#[]:Array GenState).size==0,(boot_heap w.params).objs.size,(boot_heap w.params).nsMap mainGlobals "__annotations__")=(true,11,(some (Value.ref 6))):=by kernel_rfl
noncomputable abbrev hXt(s:Shared):Bool:=xlAt zaS [] s&&recOk PySem.Challenge.rw_uf010027_13.row.records s
theorem lk1(w:World):(fun os:OsState=>staticsOk (importedModules PG.main.body) (boot_heap w.params) (zaL w.params)&&namesBound PG (zaL w.params)&&gensDone ⟨zaL w.params,#[],{},754,os⟩&&laidKept (boot_heap w.params) (zaL w.params))=fun _=>true:=by kernel_rfl
theorem ls0(w:World):(fun os:OsState=>seen ((recsOf zaS).map (·.name)) (ownsOf zaS) [] { (⟨zaL w.params,#[],{},754,os⟩:Shared) with gens:=#[] })=fun _=>expectedOf zaS:=by kernel_rfl
theorem ls1(w:World):(fun os:OsState=>Heap.bltView (zaL w.params))=fun _=>bltViewBooted:=by kernel_rfl
theorem ls2(w:World):(fun os:OsState=>(⟨zaL w.params,#[],{},754,os⟩:Shared).heap.keysOk (looseW zaS []) ((recsOf zaS).map (·.name)) ((litsOf zaS).map (·.1)) ((clssOf zaS (looseW zaS [])).map (·.name))&&(⟨zaL w.params,#[],{},754,os⟩:Shared).heap.accountedOkI (importedModules PG.main.body)&&(⟨zaL w.params,#[],{},754,os⟩:Shared).heap.isNs mainGlobals&&(⟨zaL w.params,#[],{},754,os⟩:Shared).heap.isNs builtinsNs&&tablesOk zaS (⟨zaL w.params,#[],{},754,os⟩:Shared).heap&&hXt ⟨zaL w.params,#[],{},754,os⟩&&(if true then (⟨zaL w.params,#[],{},754,os⟩:Shared).gens.size==0 else !leftWithCleanup (⟨zaL w.params,#[],{},754,os⟩:Shared).gens))=fun _=>true:=by kernel_rfl
theorem ls3(w:World):(fun os:OsState=>tabsOk zaS ⟨zaL w.params,#[],{},754,os⟩)=fun _=>true:=by kernel_rfl
theorem ls4(w:World):(fun os:OsState=>pinSeenD zaS (drecsOf zaS) ⟨zaL w.params,#[],{},754,os⟩)=fun _=>pinGoodD (drecsOf zaS):=by kernel_rfl
theorem ls5(w:World):(fun os:OsState=>plainSeenE zaS (looseW zaS []) ⟨zaL w.params,#[],{},754,os⟩)=fun _=>plainGoodE zaS (looseW zaS []):=by kernel_rfl
theorem ls6(w:World):(fun os:OsState=>plainSeenD zaS [] ⟨zaL w.params,#[],{},754,os⟩)=fun _=>plainGoodD zaS []:=by kernel_rfl
theorem ls7(w:World):(fun os:OsState=>wideSeen zaS ⟨zaL w.params,#[],{},754,os⟩)=fun _=>wideGood zaS:=by kernel_rfl
theorem ls8(w:World):(fun os:OsState=>clsSeenW zaS [] ⟨zaL w.params,#[],{},754,os⟩)=fun _=>clsGoodW zaS []:=by kernel_rfl
theorem lk2(w:World)(os:OsState):openSeen zaS [] (importedModules PG.main.body) hXt true ⟨zaL w.params,#[],{},754,os⟩=openGood zaS []:=
 looks_pair (congrFun (ls0 w) os) (looks_pair (congrFun (ls1 w) os) (looks_pair (congrFun (ls2 w) os) (looks_pair (congrFun (ls3 w) os) (looks_pair (congrFun (ls4 w) os) (looks_pair (congrFun (ls5 w) os) (looks_pair (congrFun (ls6 w) os) (looks_pair (congrFun (ls7 w) os) (congrFun (ls8 w) os))))))))
theorem lk3(w:World):(fun os:OsState=>hHook.obs ⟨zaL w.params,#[],{},754,os⟩)=fun _=>hHook.val w:=by kernel_rfl
theorem zp1:opening PG=plainProg PG.main.scope.names:=by kernel_rfl
theorem zp0(s:Shared):fenceModules? PG s=some s:=by kernel_rfl
noncomputable def hDef:DefRec:=match defOf zaS PySem.Challenge.rw_uf010027_13.row.name with | some (d,_)=>d | Option.none=>⟨"",⟨[],[],none,[],[],none,[]⟩,[],PG.main.scope,⟨0,0,0,0⟩⟩
theorem hd1:defOf zaS PySem.Challenge.rw_uf010027_13.row.name=some (hDef,[]):=by kernel_rfl
theorem hd2:PySem.Challenge.rw_uf010027_13.row.prog.theDef PySem.Challenge.rw_uf010027_13.row.name=some (hDef.params,hDef.body,hDef.scope):=by kernel_rfl
theorem hd3:kwWritten? hDef.params.kwonlyargs hDef.params.kw_defaults=some []:=by kernel_rfl
theorem hd4:(chainsOk zaS&&opensWell PySem.Challenge.rw_uf010027_13.row.prog&&(frees PySem.Challenge.rw_uf010027_13.row.toRowW&&PySem.Challenge.rw_uf010027_13.row.within.isEmpty))=true:=by kernel_rfl
theorem hd5:PySem.Challenge.rw_uf010027_13.row.prog.tablesWhole=true:=by kernel_rfl
theorem hd6:PySem.Challenge.rw_uf010027_13.wellSaid=true:=by kernel_rfl
theorem zoI(walk:WalkO zaS [] (XL zaS []) hHook.says PySem.Challenge.rw_uf010027_13.row.toRowW hDef [] fun f vs=>PySem.call f vs):PySem.Challenge.rw_uf010027_13.Holds:=
 holds_law hd6 fun said=>holds_open (Xt:=hXt) (LeftO.of_pieces (N:=20000) (g0:=true) (boot_open zp1 (by decide) zp0) zqC rnT (by decide) fun w=>funext fun os=>looks_pair (congrFun (lk1 w) os) (looks_pair (lk2 w os) (congrFun (lk3 w) os))) hHook.of hHook.keeps (fun s e=>xl_of s (Bool.and_eq_true_iff.mp e).left) XL.keeps hd1 hd2 hd3
  (fun s e=>recFacts_of (Bool.and_eq_true_iff.mp e).right) (by kernel_rfl) said hd4 ⟨rfl,rfl,rfl,rfl,rfl,hd5⟩ ⟨[WData.list []],by decide +kernel,by decide +kernel⟩ walk
theorem zqw:GG.fns=zoN ALL (recsOf zaS):=by kernel_rfl
theorem j_c1(P:Params):GG.names.all (zjG (zhg P) GG.fns)=true:=by kernel_rfl
theorem j_c2(P:Params):bis.all (zpb (zhg P) GG.names)=true:=by kernel_rfl
theorem j_c3(P:Params):GG.clss.all (znJ (zhg P))=true:=by kernel_rfl
theorem j_c4(P:Params):znn (zhg P) GG=true:=by kernel_rfl
theorem j_c5(P:Params):znu (zhg P) ALL (recsOf zaS)=true:=by kernel_rfl
theorem zqv(P:Params):nsIn (zhg P) mainGlobals "law"=some (some (.ref AA.law)):=by kernel_rfl
theorem law_holds:PySem.Challenge.rw_uf010027_13.Holds:=by
 refine zoI ?_
 intro w s₀ s₁ mg mb Gr Y a o pm cd doc dV kV ho hdta hcr hdf hmg hgens args vals as pre lay rd wl hsm
 have KX:=kIn_of Y
 obtain ⟨hG,hX⟩:=zlI Gr.T KX zqw (j_c1 _) (j_c2 _) (j_c3 _) (j_c4 _) (j_c5 _)
 have ha:=mg_of KX Gr.T.g (zqv _)
 have hmg':mg "law"=some (.ref a):=hmg
 rw [ha] at hmg';cases hmg'
 obtain ⟨mm,⟨o',es,ep,ho',_⟩,_⟩:=(Gr.T.seer (by kernel_rfl)).mods
 exact zoy (l:=PySem.Challenge.rw_uf010027_13) rfl (by decide) zmS hG hX ⟨_,ho'⟩ hgens pre wl
end Mine
theorem PySem.Challenge.cw_uf010027_13_holds : PySem.Challenge.rw_uf010027_13.Holds :=
 Mine.law_holds
