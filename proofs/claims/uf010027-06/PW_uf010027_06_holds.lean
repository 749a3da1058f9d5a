import PyProof.Rows.All
import PyProof.FactsAll.tuple_2
import KE.KEqDict
import KE.KRevSl
import KE.KIsAll
import KE.KDictSum
import KE.KDictOf
import KE.KDictMeth
import PyProof.EnumMake
import KE.KTryMore
import Wide.All
import OpenK.AllK
import PyProof.TableCode
import Wide.FinOn
import PySem.Challenge.RW_uf010027_06
set_option Elab.async false
set_option maxRecDepth 100000
set_option maxHeartbeats 8000000
set_option linter.all false
set_option genSizeOf false
set_option bootstrap.genMatcherCode false
set_option autoImplicit false
/-! The pure evaluator (my own): the row's AST over plain values. -/
namespace Mine
open PySem
inductive PV where
 | none
 | bool (b:Bool)
 | int (i:Int)
 | str (s:Str)
 | tup (xs:List PV)
 | lst (xs:List PV)
 | ref (i:Nat)
 | exc (C:Addr)
 deriving Inhabited
inductive Cel where
 | list (xs:List PV)
 | dict (kvs:List (Str×PV))
 | dead
 deriving Inhabited
noncomputable abbrev zaa:=List Cel
inductive Rs (α:Type) where
 | ok (a:α) (σ:zaa)
 | err (C:Addr) (σ:zaa)
 | stuck
noncomputable def M(α:Type):Type:=zaa→Rs α
namespace M
variable {α β:Type}
noncomputable def ret(a:α):M α:=fun σ=>.ok a σ
noncomputable def bind(x:M α)(f:α→M β):M β:=fun σ=>
 match x σ with
 | .ok a σ'=>f a σ'
 | .err C σ'=>.err C σ'
 | .stuck=>.stuck
noncomputable def fail:M α:=fun _=>.stuck
noncomputable def raise(C:Addr):M α:=fun σ=>.err C σ
noncomputable def lift(o:Option α):M α:=fun σ=>
 match o with
 | some a=>.ok a σ
 | none=>.stuck
noncomputable def noErr(x:M α):M α:=fun σ=>match x σ with
 | .ok a σ'=>.ok a σ'
 | _=>.stuck
noncomputable def cond(b:Bool)(x y:M α):M α:=match b with | true=>x | false=>y
end M
noncomputable def zan{α β:Type}(f:α→Option β):List α→Option (List β)
 | []=>some []
 | x::xs=>match f x with
  | some y=>match zan f xs with
   | some ys=>some (y::ys)
   | Option.none=>Option.none
  | Option.none=>Option.none
mutual
noncomputable def eqv:PV→PV→Bool
 | .none,.none=>true
 | .bool a,.bool b=>a==b
 | .bool a,.int j=>(if a then 1 else 0)==j
 | .int i,.bool b=>i==(if b then 1 else 0)
 | .int i,.int j=>i==j
 | .str x,.str y=>x==y
 | .lst xs,.lst ys=>eqvs xs ys
 | .tup xs,.tup ys=>eqvs xs ys
 | _,_=>false
noncomputable def eqvs:List PV→List PV→Bool
 | [],[]=>true
 | x::xs,y::ys=>eqv x y&&eqvs xs ys
 | _,_=>false
end
noncomputable def whole(σ:zaa):Nat→PV→Option PV
 | 0,_=>Option.none
 | n+1,v=>match v with
  | .none=>some .none
  | .bool b=>some (.bool b)
  | .int i=>some (.int i)
  | .str s=>some (.str s)
  | .tup xs=>(zan (whole σ n) xs).map .tup
  | .lst xs=>(zan (whole σ n) xs).map .lst
  | .ref i=>match σ[i]? with
   | some (.list xs)=>(zan (whole σ n) xs).map .lst
   | _=>Option.none
  | .exc _=>Option.none
noncomputable def zaj:Nat:=500
noncomputable def zix(y x:Str):Bool:=!(Builtin.Str.occurrences x y 0 x.length 1).isEmpty
noncomputable def cget(i:Nat):M Cel:=fun σ=>
 match σ[i]? with
 | some c=>.ok c σ
 | Option.none=>.stuck
noncomputable def cset(i:Nat)(c:Cel):M Unit:=fun σ=>.ok () (σ.set i c)
noncomputable def cnew(c:Cel):M PV:=fun σ=>.ok (.ref σ.length) (σ++[c])
noncomputable def zar:PV→M Bool
 | .bool b=>M.ret b
 | _=>M.fail
noncomputable def onInt{β:Type}(a:PV)(k:Int→M β):M β:=match a with
 | .int i=>k i
 | _=>M.fail
noncomputable def onStr{β:Type}(a:PV)(k:Str→M β):M β:=match a with
 | .str i=>k i
 | _=>M.fail
noncomputable def onTup{β:Type}(a:PV)(k:List PV→M β):M β:=match a with
 | .tup i=>k i
 | _=>M.fail
noncomputable def onLst{β:Type}(a:PV)(k:List PV→M β):M β:=match a with
 | .lst i=>k i
 | _=>M.fail
noncomputable def onRef{β:Type}(a:PV)(k:Nat→M β):M β:=match a with
 | .ref i=>k i
 | _=>M.fail
noncomputable def lget(i:Nat):M (List PV):=(cget i).bind fun c=>match c with
 | .list xs=>M.ret xs
 | _=>M.fail
noncomputable def litems:PV→M (List PV)
 | .lst xs=>M.ret xs
 | .ref i=>lget i
 | _=>M.fail
noncomputable def items:PV→M (List PV)
 | .tup xs=>M.ret xs
 | v=>litems v
noncomputable def dget(i:Nat):M (List (Str×PV)):=(cget i).bind fun c=>match c with
 | .dict kvs=>M.ret kvs
 | _=>M.fail
noncomputable def dput(k:Str)(v:PV)(kvs:List (Str×PV)):List (Str×PV):=
 if kvs.any (fun kv=>kv.1=k) then kvs.map (fun kv=>if kv.1=k then (kv.1,v) else kv) else kvs++[(k,v)]
noncomputable def dat(kvs:List (Str×PV))(k:Str):Option PV:=(kvs.find? fun kv=>kv.1=k).map (·.2)
noncomputable def wholeM(a:PV):M PV:=fun σ=>
 match whole σ zaj a with
 | some x=>.ok x σ
 | Option.none=>.stuck
noncomputable def zbY(as:List PV):M (List PV):=fun σ=>
 match zan (whole σ zaj) as with
 | some x=>.ok x σ
 | Option.none=>.stuck
noncomputable def eqM(a b:PV):M Bool:=(wholeM a).bind fun x=>(wholeM b).bind fun y=>M.ret (eqv x y)
noncomputable def zhK(x:PV)(ys:List PV):M Bool:=(wholeM x).bind fun x'=>(zbY ys).bind fun ys'=>M.ret (ys'.any fun y=>eqv y x')
structure FnD where
 params:List Str
 scope:Scope
 body:List Stmt
inductive GV where
 | fn (a:Addr)
 | cls (a:Addr)
 | val (v:PV)
structure Md where
 rz:Bool
 lp:Bool
structure Gl where
 names:List (Str×GV)
 fns:List (Addr×FnD)
 sub:List (Addr×Addr)
 clss:List Addr
 mu:List (Nat×Nat)
 fz:List (Nat×Nat)
noncomputable abbrev Loc:=Str→Option PV
noncomputable def Loc.set(ρ:Loc)(x:Str)(v:PV):Loc:=fun y=>if y=x then some v else ρ y
structure Cx where
 G:Gl
 call:Md→Addr→List PV→M PV
 md:Md
noncomputable def zaD(cx:Cx)(p:Pos)(xs:List PV):M PV:=
 M.cond (cx.G.mu.contains (p.line,p.col)) (cnew (.list xs)) (M.ret (.lst xs))
inductive Callee where
 | fn (a:Addr)
 | cls (a:Addr)
 | val (v:PV)
 | bi (x:Str)
noncomputable def zat(cx:Cx)(sc:Scope)(ρ:Loc)(x:Str):Option Callee:=
 match ρ x with
 | some v=>some (.val v)
 | Option.none=>
  match sc.names.lookup x with
  | some .globalImplicit=>
   match cx.G.names.lookup x with
   | some (.fn a)=>some (.fn a)
   | some (.cls a)=>some (.cls a)
   | some (.val v)=>some (.val v)
   | Option.none=>some (.bi x)
  | _=>Option.none
noncomputable def zbN(i:Int):Bool:=decide (-(2 ^ 62)≤i)&&decide (i≤2 ^ 62)
noncomputable def zcK(s:Str)(n:Nat):Str:=⟨((List.replicate n s.cps.toList).flatten).toArray⟩
noncomputable def zcx(xs:List PV)(n:Nat):List PV:=(List.replicate n xs).flatten
noncomputable def addV(cx:Cx)(p:Pos)(a b:PV):M PV:=match a with
 | .int i=>onInt b fun j=>M.ret (.int (i+j))
 | .str x=>onStr b fun y=>M.cond (decide (x.length+y.length≤2 ^ 20)) (M.ret (.str (x++y))) M.fail
 | .tup x=>onTup b fun y=>M.cond (decide (x.length+y.length≤2 ^ 20)) (M.ret (.tup (x++y))) M.fail
 | .lst x=>onLst b fun y=>M.cond (decide (x.length+y.length≤2 ^ 20)) (zaD cx p (x++y)) M.fail
 | _=>M.fail
noncomputable def mulV(cx:Cx)(p:Pos)(a b:PV):M PV:=onInt b fun n=>match a with
 | .int i=>M.cond (zbN i || zbN n) (M.ret (.int (i*n))) M.fail
 | .str x=>M.cond (decide (0≤n)&&decide (n≤1000)&&decide (x.length≤1000)) (M.ret (.str (zcK x n.toNat))) M.fail
 | .lst x=>M.cond (decide (0≤n)&&decide (n≤1000)&&decide (x.length≤1000)) (zaD cx p (zcx x n.toNat)) M.fail
 | .tup x=>M.cond (decide (x.length≤1000)) (M.cond (decide (n=1)) (M.ret (.tup x)) (M.cond (decide (n=2)&&!x.isEmpty) (M.ret (.tup (x++x))) M.fail)) M.fail
 | _=>M.fail
noncomputable def zmu(cx:Cx)(p:Pos)(op:Operator)(a b:PV):M PV:=match op with
 | .Add=>addV cx p a b
 | .Sub=>onInt a fun i=>onInt b fun j=>M.ret (.int (i-j))
 | .Mult=>mulV cx p a b
 | .FloorDiv=>onInt a fun i=>onInt b fun j=>M.cond (decide (0<j)&&decide (j<1073741824)) (M.ret (.int (i.fdiv j))) M.fail
 | .Mod=>onInt a fun i=>onInt b fun j=>M.cond (decide (0<j)) (M.ret (.int (i.fmod j))) M.fail
 | _=>M.fail
noncomputable def zfL:PV→Bool
 | .none=>true
 | _=>false
noncomputable def zfN(p:Bool):PV→Bool
 | .bool q=>p==q
 | _=>false
noncomputable def zh7:PV→Option Bool
 | .none=>some false
 | .bool _=>some false
 | _=>Option.none
noncomputable def zdW(a b:PV):Option Bool:=match a with
 | .none=>some (zfL b)
 | .bool p=>some (zfN p b)
 | _=>zh7 b
noncomputable def inOp(x c:PV):M Bool:=match c with
 | .str y=>onStr x fun s=>M.ret (zix s y)
 | c=>(items c).bind fun xs=>zhK x xs
noncomputable def zeL:PV→Bool
 | .none=>true
 | .bool _=>true
 | .int _=>true
 | .str _=>true
 | _=>false
noncomputable def zhF(b:List (Str×PV)):List (Str×PV)→Bool
 | []=>true
 | kv::r=>(match dat b kv.1 with
  | some y=>eqv kv.2 y&&zhF b r
  | Option.none=>false)
noncomputable def zm0:Option Cel→Option (List (Str×PV))
 | some (.dict kvs)=>some kvs
 | _=>Option.none
noncomputable def zld(σ:zaa):PV→Option (List (Str×PV))
 | .ref i=>zm0 σ[i]?
 | _=>Option.none
noncomputable def eqD(x y:List (Str×PV)):M Bool:=M.cond (x.all (fun kv=>zeL kv.2)&&y.all (fun kv=>zeL kv.2)) (M.ret (x.length==y.length&&zhF y x)) M.fail
noncomputable def eqX(a b:PV):M Bool:=fun σ=>
 match zld σ a,zld σ b with
 | some x,some y=>eqD x y σ
 | _,_=>eqM a b σ
noncomputable def zac(op:CmpOp)(a b:PV):M PV:=match op with
 | .Eq=>(eqX a b).bind fun r=>M.ret (.bool r)
 | .NotEq=>(eqX a b).bind fun r=>M.ret (.bool !r)
 | .Lt=>onInt a fun i=>onInt b fun j=>M.ret (.bool (decide (i<j)))
 | .LtE=>onInt a fun i=>onInt b fun j=>M.ret (.bool (decide (i≤j)))
 | .Gt=>onInt a fun i=>onInt b fun j=>M.ret (.bool (decide (j<i)))
 | .GtE=>onInt a fun i=>onInt b fun j=>M.ret (.bool (decide (j≤i)))
 | .Is=>(M.lift (zdW a b)).bind fun r=>M.ret (.bool r)
 | .IsNot=>(M.lift (zdW a b)).bind fun r=>M.ret (.bool !r)
 | .In=>(inOp a b).bind fun r=>M.ret (.bool r)
 | .NotIn=>(inOp a b).bind fun r=>M.ret (.bool !r)
noncomputable def clip(n:Nat)(i:Int):Nat:=(max 0 (min (if i<0 then i+n else i) n)).toNat
noncomputable def slc{α:Type}(lo hi:Option Int)(xs:List α):List α:=
 (xs.drop (lo.elim 0 (clip xs.length))).take (hi.elim xs.length (clip xs.length)-lo.elim 0 (clip xs.length))
noncomputable def atI{α:Type}(xs:List α)(i:Int):Option α:=
 if zbN i then (seqIndex? i xs.length).bind fun k=>xs[k]? else Option.none
noncomputable def zmT(o:PV)(i:Int):M PV:=match o with
 | .str s=>(M.lift (atI s.cps.toList i)).bind fun c=>M.ret (.str ⟨#[c]⟩)
 | o=>(items o).bind fun xs=>M.lift (atI xs i)
noncomputable def index(o k:PV):M PV:=match k with
 | .int i=>zmT o i
 | .str k=>onRef o fun a=>(dget a).bind fun kvs=>M.lift (dat kvs k)
 | _=>M.fail
noncomputable def zkp:PV→Option (Option Int)
 | .none=>some Option.none
 | .int i=>some (some i)
 | _=>Option.none
noncomputable def cutT(xs:List PV)(lo hi:Option Int):M PV:=M.cond (decide (xs.length≤2 ^ 20)) (M.ret (.tup (slc lo hi xs))) M.fail
noncomputable def cut(cx:Cx)(p:Pos)(_down:Bool)(v:PV)(lo hi:Option Int):M PV:=
 match v with
 | .str s=>M.cond (decide (s.length≤2 ^ 20)) (M.ret (.str ⟨(slc lo hi s.cps.toList).toArray⟩)) M.fail
 | .tup xs=>cutT xs lo hi
 | v=>(litems v).bind fun xs=>M.cond (decide (xs.length≤2 ^ 20)) (zaD cx p (slc lo hi xs)) M.fail
noncomputable def revL(cx:Cx)(p:Pos)(v:PV)(h k:Option Int):M PV:=match k with
 | some i=>M.cond (decide (i=-1)) (match h with
  | some j=>M.cond (decide (j=0)) (onTup v fun xs=>M.cond (decide (xs.length≤2 ^ 20)) (M.ret (.tup (xs.drop 1).reverse)) M.fail) M.fail
  | Option.none=>(litems v).bind fun xs=>M.cond (decide (xs.length≤2 ^ 20)) (zaD cx p xs.reverse) M.fail) M.fail
 | Option.none=>M.fail
inductive Tn where
 | none | bool | int | str | tuple | list | dict
 deriving DecidableEq
inductive Ty where
 | bi (T:Tn)
 | valueError
 | own (C:Addr)
noncomputable def subT(T U:Tn):Bool:=decide (T=U) || (decide (T=.bool)&&decide (U=.int))
noncomputable def isBi(T:Tn):Ty→M Bool
 | .bi U=>M.ret (subT T U)
 | _=>M.fail
noncomputable def zo3(G:Gl)(C:Addr):Ty→M Bool
 | .own D=>M.cond (G.clss.contains D) (M.ret (G.sub.contains (C,D))) M.fail
 | .valueError=>M.ret true
 | .bi _=>M.fail
noncomputable def zhA(G:Gl)(C:Addr)(t:Ty):M Bool:=M.cond (G.clss.contains C) (zo3 G C t) M.fail
noncomputable def zbT(G:Gl)(t:Ty)(v:PV):M Bool:=
 match v with
 | .none=>isBi .none t
 | .bool _=>isBi .bool t
 | .int _=>isBi .int t
 | .str _=>isBi .str t
 | .tup _=>isBi .tuple t
 | .lst _=>isBi .list t
 | .ref a=>(cget a).bind fun c=>match c with
  | .list _=>isBi .list t
  | .dict _=>isBi .dict t
  | .dead=>M.fail
 | .exc C=>zhA G C t
noncomputable def tyTab:List (Str×Ty):=[("int",.bi .int),("bool",.bi .bool),("str",.bi .str),("tuple",.bi .tuple),("list",.bi .list),("dict",.bi .dict),("ValueError",.valueError)]
noncomputable def tyOf(cx:Cx)(sc:Scope)(ρ:Loc)(x:Str):Option Ty:=
 match zat cx sc ρ x with
 | some (.cls a)=>some (.own a)
 | some (.bi y)=>tyTab.lookup y
 | _=>Option.none
noncomputable def zjj{α:Type}(b:α):Option (List α)→Option (List α)
 | some r=>some (b::r)
 | Option.none=>Option.none
noncomputable def zbE:List PV→Option (List Bool)
 | []=>some []
 | .bool b::r=>zjj b (zbE r)
 | _::_=>Option.none
noncomputable def zdI:List PV→Option (List Int)
 | []=>some []
 | .int i::r=>zjj i (zdI r)
 | _::_=>Option.none
noncomputable def zd5(acc:Int):List Int→Bool
 | []=>true
 | x::r=>zbN x&&zbN (acc+x)&&zd5 (acc+x) r
noncomputable def zg2:List PV→Option (List Str)
 | []=>some []
 | .str s::r=>zjj s (zg2 r)
 | _::_=>Option.none
noncomputable def zgz(n:Nat):M Int:=M.cond (decide (n≤2 ^ 20)) (M.ret n) M.fail
noncomputable def znK:PV→M Int
 | .str s=>zgz s.length
 | .tup xs=>zgz xs.length
 | .lst xs=>zgz xs.length
 | .ref i=>(cget i).bind fun c=>match c with
  | .list xs=>zgz xs.length
  | .dict kvs=>zgz kvs.length
  | .dead=>M.fail
 | _=>M.fail
noncomputable def zfd(v:PV):M PV:=onRef v fun i=>(lget i).bind fun xs=>(cset i .dead).bind fun _=>M.ret (.lst xs)
structure Ad where
 vis:List Addr
 hid:List Addr
noncomputable def Ad.nil:Ad:=⟨[],[]⟩
noncomputable def Ad.add(ι:Ad)(a:Addr):Ad:=⟨ι.vis++[a],ι.hid⟩
noncomputable def Ad.hide(ι:Ad)(a:Addr):Ad:=⟨ι.vis,a::ι.hid⟩
noncomputable def zco(ι:Ad)(σ:zaa)(a:Addr):Prop:=∃(i:Nat)(c:Cel),ι.vis[i]?=some a∧σ[i]?=some c∧c≠Cel.dead
noncomputable def Live(ι:Ad)(σ:zaa)(a:Addr):Prop:=zco ι σ a∨a∈ι.hid
theorem zaI{ι:Ad}{σ:zaa}{a:Addr}(h:¬ Live ι σ a):¬ zco ι σ a:=fun q=>h (.inl q)
theorem zkt{ι:Ad}{σ:zaa}{a:Addr}(h:¬ Live ι σ a):a∉ι.hid:=fun q=>h (.inr q)
mutual
inductive Rep (h:Heap) (ι:Ad) (σ:zaa):PV→Value→Prop
 | none:Rep h ι σ .none .none
 | bool (b:Bool):Rep h ι σ (.bool b) (.bool b)
 | int (i:Int) (t:Tok):Rep h ι σ (.int i) (.int i t)
 | str (x:Str) (t:Tok):Rep h ι σ (.str x) (.str x t)
 | tup {a:Addr} {vs:Array Value} {n:Nat} {xs:List PV}:h.get? a=some { cls:=.type "tuple",data:=.seq vs n }→¬ Live ι σ a→RepL h ι σ xs vs.toList→Rep h ι σ (.tup xs) (.ref a)
 | lst {a:Addr} {vs:Array Value} {n:Nat} {xs:List PV}:h.get? a=some { cls:=.type "list",data:=.seq vs n }→¬ Live ι σ a→RepL h ι σ xs vs.toList→Rep h ι σ (.lst xs) (.ref a)
 | ref {i:Nat} {a:Addr}:ι.vis[i]?=some a→Rep h ι σ (.ref i) (.ref a)
 | exc {C a:Addr} {o:Obj} {fs:Array Value}:h.get? a=some o→o.cls=.ref C→o.data=.fields fs→o.dict=Option.none→¬ Live ι σ a→Rep h ι σ (.exc C) (.ref a)
inductive RepL (h:Heap) (ι:Ad) (σ:zaa):List PV→List Value→Prop
 | nil:RepL h ι σ [] []
 | cons {x:PV} {v:Value} {xs:List PV} {vs:List Value}:Rep h ι σ x v→RepL h ι σ xs vs→RepL h ι σ (x::xs) (v::vs)
end
noncomputable def RepI(h:Heap)(ι:Ad)(σ:zaa)(x:Value):PV→Prop
 | .none=>x=.none
 | .bool b=>x=.bool b
 | .int i=>∃ t,x=.int i t
 | .str y=>∃ t,x=.str y t
 | .tup xs=>∃(a:Addr)(vs:Array Value)(n:Nat),x=.ref a∧h.get? a=some { cls:=.type "tuple",data:=.seq vs n }∧¬ Live ι σ a∧RepL h ι σ xs vs.toList
 | .lst xs=>∃(a:Addr)(vs:Array Value)(n:Nat),x=.ref a∧h.get? a=some { cls:=.type "list",data:=.seq vs n }∧¬ Live ι σ a∧RepL h ι σ xs vs.toList
 | .ref i=>∃ a:Addr,x=.ref a∧ι.vis[i]?=some a
 | .exc C=>∃(a:Addr)(o:Obj)(fs:Array Value),x=.ref a∧h.get? a=some o∧o.cls=.ref C∧o.data=.fields fs∧o.dict=Option.none∧¬ Live ι σ a
theorem Rep.inv{h:Heap}{ι:Ad}{σ:zaa}{a:PV}{x:Value}(r:Rep h ι σ a x):RepI h ι σ x a:=
 Rep.rec (motive_1:=fun a x _=>RepI h ι σ x a) (motive_2:=fun _ _ _=>True) rfl (fun _=>rfl) (fun _ t=>⟨t,rfl⟩) (fun _ t=>⟨t,rfl⟩) (fun e nl r _=>⟨_,_,_,rfl,e,nl,r⟩) (fun e nl r _=>⟨_,_,_,rfl,e,nl,r⟩)
  (fun e=>⟨_,rfl,e⟩) (fun e c d k nl=>⟨_,_,_,rfl,e,c,d,k,nl⟩) trivial (fun _ _ _ _=>trivial) r
theorem RepL.length{h:Heap}{ι:Ad}{σ:zaa}:∀{xs:List PV}{vs:List Value},RepL h ι σ xs vs→xs.length=vs.length
 | _,_,.nil=>rfl
 | _,_,.cons _ r=>by simp [RepL.length r]
theorem RepL.get{h:Heap}{ι:Ad}{σ:zaa}:∀{xs:List PV}{vs:List Value}(_:RepL h ι σ xs vs){j:Nat}{x:PV},xs[j]?=some x→∃ v,vs[j]?=some v∧Rep h ι σ x v
 | _,_,.nil,_,_,e=>by simp at e
 | _,_,.cons r _,0,_,e=>by simp at e;subst e;exact ⟨_,rfl,r⟩
 | _,_,.cons _ r,j+1,_,e=>by simp at e ⊢;exact r.get e
theorem RepL.append{h:Heap}{ι:Ad}{σ:zaa}:∀{xs:List PV}{vs:List Value}{ys:List PV}{ws:List Value},RepL h ι σ xs vs→RepL h ι σ ys ws→RepL h ι σ (xs++ys) (vs++ws)
 | _,_,_,_,.nil,q=>q
 | _,_,_,_,.cons r p,q=>.cons r (p.append q)
theorem RepL.drop{h:Heap}{ι:Ad}{σ:zaa}:∀{xs:List PV}{vs:List Value}(k:Nat),RepL h ι σ xs vs→RepL h ι σ (xs.drop k) (vs.drop k)
 | _,_,0,p=>p
 | _,_,_+1,.nil=>.nil
 | _,_,k+1,.cons _ p=>by simpa using p.drop k
theorem RepL.take{h:Heap}{ι:Ad}{σ:zaa}:∀{xs:List PV}{vs:List Value}(k:Nat),RepL h ι σ xs vs→RepL h ι σ (xs.take k) (vs.take k)
 | _,_,0,_=>.nil
 | _,_,_+1,.nil=>.nil
 | _,_,k+1,.cons r p=>by simpa using .cons r (p.take k)
theorem RepL.reverse{h:Heap}{ι:Ad}{σ:zaa}:∀{xs:List PV}{vs:List Value},RepL h ι σ xs vs→RepL h ι σ xs.reverse vs.reverse
 | _,_,.nil=>.nil
 | _,_,.cons r p=>by rw [List.reverse_cons,List.reverse_cons];exact p.reverse.append (.cons r .nil)
noncomputable def zok(prog:Program)(w:World)(h:Heap)(ι:Ad)(σ:zaa)(a:Addr)(kvs:List (Str×PV)):Prop:=
 ∃ ys:List (Str×Value),h.DictOf (strKind prog w) a ys∧ys.map (·.1)=kvs.map (·.1)∧RepL h ι σ (kvs.map (·.2)) (ys.map (·.2))
noncomputable def CelOk(prog:Program)(w:World)(h:Heap)(ι:Ad)(σ:zaa)(a:Addr):Cel→Prop
 | .list xs=>∃ vs:Array Value,h.PlainList a vs∧RepL h ι σ xs vs.toList
 | .dict kvs=>zok prog w h ι σ a kvs
 | .dead=>True
structure StoreOk (prog:Program) (w:World) (hB:Heap) (h:Heap) (ι:Ad) (σ:zaa):Prop where
 len:ι.vis.length=σ.length
 nodup:ι.vis.Nodup
 there:∀ a∈ι.vis,∃ o,h.get? a=some o
 hthere:∀ a∈ι.hid,∃ o,h.get? a=some o∧∀ vs,o.data≠.fields vs
 apart:∀ a∈ι.vis,a∉ι.hid
 base:∀ a∈ι.vis,hB.get? a=Option.none
 hbase:∀ a∈ι.hid,hB.get? a=Option.none
 sys:∃ o,hB.get? sysModules=some o
 ok:∀(i:Nat)(a:Addr)(c:Cel),ι.vis[i]?=some a→σ[i]?=some c→CelOk prog w h ι σ a c
structure Evo (D:List Addr) (h:Heap) (ι:Ad) (σ:zaa) (h':Heap) (ι':Ad) (σ':zaa):Prop where
 pre:∀(i:Nat)(a:Addr),ι.vis[i]?=some a→ι'.vis[i]?=some a
 fresh:∀(i:Nat)(a:Addr),ι'.vis[i]?=some a→ι.vis[i]?=Option.none→h.get? a=Option.none
 dead:∀ i:Nat,σ[i]?=some .dead→σ'[i]?=some .dead
 alive:∀(b:Addr)(o:Obj),h.get? b=some o→∃ o',h'.get? b=some o'
 keep:∀(b:Addr)(o:Obj),h.get? b=some o→¬ zco ι σ b→b∉D→(∃ sl,h'.get? b=some { o with slots:=sl })∧((∀ es n,o.data≠.dict es n)→h'.get? b=some o)
 hid:∀ a∈ι.hid,a∈ι'.hid
 hfresh:∀ a∈ι'.hid,a∈ι.hid∨h.get? a=Option.none
structure EvoW (D:List Addr) (h:Heap) (ι:Ad) (σ:zaa) (h':Heap) (ι':Ad) (σ':zaa):Prop where
 pre:∀(i:Nat)(a:Addr),ι.vis[i]?=some a→ι'.vis[i]?=some a
 fresh:∀(i:Nat)(a:Addr),ι'.vis[i]?=some a→ι.vis[i]?=Option.none→h.get? a=Option.none
 dead:∀ i:Nat,σ[i]?=some .dead→σ'[i]?=some .dead
 keep:∀(b:Addr)(o:Obj),h.get? b=some o→¬ zco ι σ b→b∉D→(∃ sl,h'.get? b=some { o with slots:=sl })∧((∀ es n,o.data≠.dict es n)→h'.get? b=some o)
 hfresh:∀ a∈ι'.hid,a∈ι.hid∨h.get? a=Option.none
theorem Evo.weak{D:List Addr}{h:Heap}{ι:Ad}{σ:zaa}{h':Heap}{ι':Ad}{σ':zaa}(X:Evo D h ι σ h' ι' σ'):EvoW D h ι σ h' ι' σ':=⟨X.pre,X.fresh,X.dead,X.keep,X.hfresh⟩
theorem EvoW.notLiveV{D:List Addr}{h:Heap}{ι:Ad}{σ:zaa}{h':Heap}{ι':Ad}{σ':zaa}(X:EvoW D h ι σ h' ι' σ')(hl:ι.vis.length=σ.length){a:Addr}{o:Obj}(ha:h.get? a=some o)
  (hn:¬ zco ι σ a):¬ zco ι' σ' a:=by
 rintro ⟨i,c,hi,hc,hd⟩
 cases hq:ι.vis[i]? with
 | none=>have:=X.fresh i a hi hq;rw [ha] at this;cases this
 | some b=>
  have:=X.pre i b hq
  rw [this] at hi;cases hi
  have hlt:i<σ.length:=by rw [← hl];exact (List.getElem?_eq_some_iff.mp hq).1
  cases hs:σ[i]? with
  | none=>rw [List.getElem?_eq_none_iff] at hs;lia
  | some c'=>
   by_cases hcd:c'=.dead
   ·subst hcd
    have:=X.dead i hs
    rw [this] at hc;cases hc;exact hd rfl
   ·exact hn ⟨i,c',hq,hs,hcd⟩
theorem EvoW.notLive{D:List Addr}{h:Heap}{ι:Ad}{σ:zaa}{h':Heap}{ι':Ad}{σ':zaa}(X:EvoW D h ι σ h' ι' σ')(hl:ι.vis.length=σ.length){a:Addr}{o:Obj}(ha:h.get? a=some o)
  (hn:¬ Live ι σ a):¬ Live ι' σ' a:=by
 rintro (q | q)
 ·exact X.notLiveV hl ha (zaI hn) q
 ·rcases X.hfresh a q with q | q
  ·exact hn (.inr q)
  ·rw [ha] at q;cases q
theorem Evo.notLiveV{D:List Addr}{h:Heap}{ι:Ad}{σ:zaa}{h':Heap}{ι':Ad}{σ':zaa}(X:Evo D h ι σ h' ι' σ')(hl:ι.vis.length=σ.length){a:Addr}{o:Obj}(ha:h.get? a=some o)
  (hn:¬ zco ι σ a):¬ zco ι' σ' a:=X.weak.notLiveV hl ha hn
theorem Evo.notLive{D:List Addr}{h:Heap}{ι:Ad}{σ:zaa}{h':Heap}{ι':Ad}{σ':zaa}(X:Evo D h ι σ h' ι' σ')(hl:ι.vis.length=σ.length){a:Addr}{o:Obj}(ha:h.get? a=some o)
  (hn:¬ Live ι σ a):¬ Live ι' σ' a:=X.weak.notLive hl ha hn
theorem EvoW.off{D:List Addr}{h:Heap}{ι:Ad}{σ:zaa}{h':Heap}{ι':Ad}{σ':zaa}(X:EvoW D h ι σ h' ι' σ'){b:Addr}{o:Obj}(ho:h.get? b=some o)(hn:b∉ι.vis∧b∉ι.hid):b∉ι'.vis∧b∉ι'.hid:=by
 refine ⟨fun q=>?_,fun q=>?_⟩
 ·obtain ⟨i,hi⟩:=List.getElem?_of_mem q
  cases q':ι.vis[i]? with
  | none=>have:=X.fresh i b hi q';rw [ho] at this;cases this
  | some a=>have:=X.pre i a q';rw [hi] at this;cases this;exact hn.1 (List.mem_of_getElem? q')
 ·rcases X.hfresh b q with q | q
  ·exact hn.2 q
  ·rw [ho] at q;cases q
theorem Evo.refl(h:Heap)(ι:Ad)(σ:zaa):Evo [] h ι σ h ι σ:=
 ⟨fun _ _ e=>e,fun i a e e'=>(by rw [e] at e';cases e'),fun _ e=>e,fun b o e=>⟨o,e⟩,fun b o e _ _=>⟨⟨o.slots,e⟩,fun _=>e⟩,fun _ h=>h,fun _ h=>.inl h⟩
theorem Evo.trans{D E:List Addr}{h₁ h₂ h₃:Heap}{ι₁ ι₂ ι₃:Ad}{σ₁ σ₂ σ₃:zaa}(hl:ι₁.vis.length=σ₁.length)(X:Evo D h₁ ι₁ σ₁ h₂ ι₂ σ₂)(Y:Evo E h₂ ι₂ σ₂ h₃ ι₃ σ₃)
  (hE:∀ b∈E,∀ o,h₁.get? b=some o→b∈D):Evo D h₁ ι₁ σ₁ h₃ ι₃ σ₃ where
 pre:=fun i a e=>Y.pre i a (X.pre i a e)
 fresh:=fun i a e e'=>by
  cases hq:ι₂.vis[i]? with
  | none=>
   have h2:=Y.fresh i a e hq
   cases q:h₁.get? a with
   | none=>rfl
   | some o=>obtain ⟨o',ho'⟩:=X.alive a o q;rw [h2] at ho';cases ho'
  | some b=>have:=Y.pre i b hq;rw [this] at e;cases e;exact X.fresh i _ hq e'
 dead:=fun i e=>Y.dead i (X.dead i e)
 alive:=fun b o e=>by obtain ⟨o',e'⟩:=X.alive b o e;exact Y.alive b o' e'
 keep:=fun b o e hn hD=>by
  obtain ⟨⟨sl,e₂⟩,k⟩:=X.keep b o e hn hD
  obtain ⟨⟨sl',e₃⟩,_⟩:=Y.keep b _ e₂ (X.notLiveV hl e hn) (fun hb=>hD (hE b hb o e))
  exact ⟨⟨sl',e₃⟩,fun q=>(Y.keep b _ (k q) (X.notLiveV hl e hn) (fun hb=>hD (hE b hb o e))).2 q⟩
 hid:=fun a ha=>Y.hid a (X.hid a ha)
 hfresh:=fun a ha=>by
  rcases Y.hfresh a ha with q | q
  ·exact X.hfresh a q
  ·right
   cases q':h₁.get? a with
   | none=>rfl
   | some o=>obtain ⟨o',ho'⟩:=X.alive a o q';rw [q] at ho';cases ho'
theorem Evo.wide{D E:List Addr}{h:Heap}{ι:Ad}{σ:zaa}{h':Heap}{ι':Ad}{σ':zaa}(X:Evo D h ι σ h' ι' σ')(hE:∀ b∈D,b∈E):Evo E h ι σ h' ι' σ':=
 ⟨X.pre,X.fresh,X.dead,X.alive,fun b o e hn hD=>X.keep b o e hn fun q=>hD (hE b q),X.hid,X.hfresh⟩
theorem Evo.unhide{D:List Addr}{h:Heap}{ι:Ad}{σ:zaa}{h':Heap}{ι':Ad}{σ':zaa}(X:Evo D h ι σ h' ι' σ'):Evo D h ι σ h' ⟨ι'.vis,ι.hid⟩ σ':=
 ⟨X.pre,X.fresh,X.dead,X.alive,X.keep,fun _ h=>h,fun _ h=>.inl h⟩
noncomputable def NoSeq(D:List Addr)(h:Heap):Prop:=∀ b∈D,∀ o,h.get? b=some o→(∀ vs n,o.data≠.seq vs n)∧((∀ vs,o.data≠.fields vs)∨∀ C,o.cls≠.ref C)
theorem NoSeq.nil(h:Heap):NoSeq [] h:=fun _ hb=>nomatch hb
noncomputable def Off(ι:Ad)(D:List Addr)(h:Heap):Prop:=∀ b∈D,b∈ι.hid∨∀ o,h.get? b=some o→(∀ vs n,o.data≠.seq vs n)∧((∀ vs,o.data≠.fields vs)∨∀ C,o.cls≠.ref C)
theorem NoSeq.off{ι:Ad}{D:List Addr}{h:Heap}(n:NoSeq D h):Off ι D h:=fun b hb=>.inr (n b hb)
theorem Off.hid{ι:Ad}{a:Addr}{h:Heap}(n:a∈ι.hid):Off ι [a] h:=fun b hb=>by rw [List.mem_singleton.mp hb];exact .inl n
structure RepTo (h:Heap) (ι:Ad) (σ:zaa) (h':Heap) (ι':Ad) (σ':zaa):Prop where
 seq:∀{a:Addr}{T:String}{vs:Array Value}{n:Nat},h.get? a=some { cls:=.type T,data:=.seq vs n }→¬ Live ι σ a→h'.get? a=some { cls:=.type T,data:=.seq vs n }∧¬ Live ι' σ' a
 vis:∀{i:Nat}{a:Addr},ι.vis[i]?=some a→ι'.vis[i]?=some a
 exc:∀{a C:Addr}{o:Obj}{fs:Array Value},h.get? a=some o→o.cls=.ref C→o.data=.fields fs→o.dict=Option.none→¬ Live ι σ a→Rep h' ι' σ' (.exc C) (.ref a)
theorem RepL.to{h:Heap}{ι:Ad}{σ:zaa}{h':Heap}{ι':Ad}{σ':zaa}(X:RepTo h ι σ h' ι' σ'){xs:List PV}{vs:List Value}(r:RepL h ι σ xs vs):RepL h' ι' σ' xs vs:=
 RepL.rec (motive_1:=fun x v _=>Rep h' ι' σ' x v) (motive_2:=fun x v _=>RepL h' ι' σ' x v) .none .bool .int .str (fun e nl _ r=>.tup (X.seq e nl).1 (X.seq e nl).2 r) (fun e nl _ r=>.lst (X.seq e nl).1 (X.seq e nl).2 r)
  (fun e=>.ref (X.vis e)) (fun e c d k nl=>X.exc e c d k nl) .nil (fun _ _ r rs=>.cons r rs) r
theorem RepL.head{h:Heap}{ι:Ad}{σ:zaa}{x:PV}{v:Value}{xs:List PV}{vs:List Value}(r:RepL h ι σ (x::xs) (v::vs)):Rep h ι σ x v:=by cases r;assumption
theorem Rep.to{h:Heap}{ι:Ad}{σ:zaa}{h':Heap}{ι':Ad}{σ':zaa}(X:RepTo h ι σ h' ι' σ'){x:PV}{v:Value}(r:Rep h ι σ x v):Rep h' ι' σ' x v:=(RepL.to X (.cons r .nil)).head
theorem EvoW.to{D:List Addr}{h:Heap}{ι:Ad}{σ:zaa}{h':Heap}{ι':Ad}{σ':zaa}(hl:ι.vis.length=σ.length)(X:EvoW D h ι σ h' ι' σ')(hD:Off ι D h):RepTo h ι σ h' ι' σ' where
 seq:=fun e nl=>⟨(X.keep _ _ e (zaI nl) (fun hb=>(hD _ hb).elim (zkt nl) fun q=>(q _ e).1 _ _ rfl)).2 (fun _ _ q=>nomatch q),X.notLive hl e nl⟩
 vis:=fun e=>X.pre _ _ e
 exc:=fun e c d k nl=>by
  obtain ⟨⟨sl,e'⟩,_⟩:=X.keep _ _ e (zaI nl) (fun hb=>(hD _ hb).elim (zkt nl) fun q=>(q _ e).2.elim (fun q=>q _ d) fun q=>q _ c)
  exact .exc e' c d k (X.notLive hl e nl)
theorem Rep.evoW{D:List Addr}{h:Heap}{ι:Ad}{σ:zaa}{h':Heap}{ι':Ad}{σ':zaa}(hl:ι.vis.length=σ.length)(X:EvoW D h ι σ h' ι' σ')(hD:Off ι D h){x:PV}{v:Value}(r:Rep h ι σ x v):Rep h' ι' σ' x v:=r.to (X.to hl hD)
theorem RepL.evoW{D:List Addr}{h:Heap}{ι:Ad}{σ:zaa}{h':Heap}{ι':Ad}{σ':zaa}(hl:ι.vis.length=σ.length)(X:EvoW D h ι σ h' ι' σ')(hD:Off ι D h){xs:List PV}{vs:List Value}(r:RepL h ι σ xs vs):RepL h' ι' σ' xs vs:=r.to (X.to hl hD)
theorem Rep.evo'{D:List Addr}{h:Heap}{ι:Ad}{σ:zaa}{h':Heap}{ι':Ad}{σ':zaa}(hl:ι.vis.length=σ.length)(X:Evo D h ι σ h' ι' σ')(hD:Off ι D h){x:PV}{v:Value}(r:Rep h ι σ x v):Rep h' ι' σ' x v:=r.evoW hl X.weak hD
theorem RepL.evo'{D:List Addr}{h:Heap}{ι:Ad}{σ:zaa}{h':Heap}{ι':Ad}{σ':zaa}(hl:ι.vis.length=σ.length)(X:Evo D h ι σ h' ι' σ')(hD:Off ι D h){xs:List PV}{vs:List Value}(r:RepL h ι σ xs vs):RepL h' ι' σ' xs vs:=r.evoW hl X.weak hD
theorem Rep.evo{D:List Addr}{h:Heap}{ι:Ad}{σ:zaa}{h':Heap}{ι':Ad}{σ':zaa}(hl:ι.vis.length=σ.length)(X:Evo D h ι σ h' ι' σ')(hD:NoSeq D h){x:PV}{v:Value}(r:Rep h ι σ x v):Rep h' ι' σ' x v:=r.evo' hl X hD.off
theorem RepL.evo{D:List Addr}{h:Heap}{ι:Ad}{σ:zaa}{h':Heap}{ι':Ad}{σ':zaa}(hl:ι.vis.length=σ.length)(X:Evo D h ι σ h' ι' σ')(hD:NoSeq D h){xs:List PV}{vs:List Value}(r:RepL h ι σ xs vs):RepL h' ι' σ' xs vs:=r.evo' hl X hD.off
theorem zbg{ι:Ad}{σ:zaa}{l:List Addr}(hs:∀ a∈l,a∈ι.hid){a:Addr}(h:¬ Live ι σ a):¬ Live ⟨ι.vis,l⟩ σ a:=fun q=>h (q.elim .inl fun q=>.inr (hs a q))
theorem zgd{h:Heap}{ι:Ad}{σ:zaa}{l:List Addr}(hs:∀ a∈l,a∈ι.hid):RepTo h ι σ h ⟨ι.vis,l⟩ σ:=⟨fun e nl=>⟨e,zbg hs nl⟩,fun e=>e,fun e c d k nl=>.exc e c d k (zbg hs nl)⟩
theorem Rep.unhide{h:Heap}{ι:Ad}{σ:zaa}{l:List Addr}(hs:∀ a∈l,a∈ι.hid){x:PV}{v:Value}(r:Rep h ι σ x v):Rep h ⟨ι.vis,l⟩ σ x v:=r.to (zgd hs)
theorem RepL.unhide{h:Heap}{ι:Ad}{σ:zaa}{l:List Addr}(hs:∀ a∈l,a∈ι.hid){xs:List PV}{vs:List Value}(r:RepL h ι σ xs vs):RepL h ⟨ι.vis,l⟩ σ xs vs:=r.to (zgd hs)
theorem CelOk.unhide{prog:Program}{w:World}{h:Heap}{ι:Ad}{σ:zaa}{l:List Addr}(hs:∀ a∈l,a∈ι.hid){a:Addr}{c:Cel}(x:CelOk prog w h ι σ a c):CelOk prog w h ⟨ι.vis,l⟩ σ a c:=by
 cases c with
 | list xs=>obtain ⟨vs,p,r⟩:=x;exact ⟨vs,p,r.unhide hs⟩
 | dict kvs=>obtain ⟨ys,d,k2,r⟩:=x;exact ⟨ys,d,k2,r.unhide hs⟩
 | dead=>trivial
theorem StoreOk.unhide{prog:Program}{w:World}{hB h:Heap}{ι:Ad}{σ:zaa}{l:List Addr}(hs:∀ a∈l,a∈ι.hid)(S:StoreOk prog w hB h ι σ):StoreOk prog w hB h ⟨ι.vis,l⟩ σ:=
 ⟨S.len,S.nodup,S.there,fun a ha=>S.hthere a (hs a ha),fun a ha q=>S.apart a ha (hs a q),S.base,fun a ha=>S.hbase a (hs a ha),S.sys,fun i a c e e'=>(S.ok i a c e e').unhide hs⟩
structure Step (prog:Program) (w:World) (hB:Heap) (h:Heap) (ι:Ad) (σ:zaa) (h':Heap) (ι':Ad) (σ':zaa):Prop where
 evo:Evo [] h ι σ h' ι' σ'
 store:StoreOk prog w hB h' ι' σ'
 stays:hB.StaysIn h'
variable {prog:Program} {w:World} {hB:Heap}
theorem Step.refl{h:Heap}{ι:Ad}{σ:zaa}(S:StoreOk prog w hB h ι σ)(B:hB.StaysIn h):Step prog w hB h ι σ h ι σ:=⟨Evo.refl _ _ _,S,B⟩
theorem Step.trans{h₁ h₂ h₃:Heap}{ι₁ ι₂ ι₃:Ad}{σ₁ σ₂ σ₃:zaa}(hl:ι₁.vis.length=σ₁.length)(X:Step prog w hB h₁ ι₁ σ₁ h₂ ι₂ σ₂)(Y:Step prog w hB h₂ ι₂ σ₂ h₃ ι₃ σ₃) :
  Step prog w hB h₁ ι₁ σ₁ h₃ ι₃ σ₃:=⟨X.evo.trans hl Y.evo (fun _ hb=>nomatch hb),Y.store,Y.stays⟩
structure FrOk (hB:Heap) (env:Env) (ρ:Loc) (h:Heap) (ι:Ad) (σ:zaa):Prop where
 ns:∃ m,h.Ns env.locals m∧∀ x v,ρ x=some v→env.kindOf x=some .local→∃ y,m x=some y∧Rep h ι σ v y
 cel:∀ x v,ρ x=some v→env.kindOf x=some .cell→∃ c y,env.cells.lookup x=some c∧h.IsCell c (some y)∧Rep h ι σ v y
 kinds:∀ x v,ρ x=some v→env.kindOf x=some .local∨env.kindOf x=some .cell
 cells:∀ x,env.kindOf x=some .cell→∃ c y,env.cells.lookup x=some c∧h.IsCell c y
 apart:env.cells.Pairwise fun x y=>x.2≠y.2
 own:∀ b∈env.locals::env.cells.map (·.2),¬ Live ι σ b∧hB.get? b=Option.none
 cellsAt:∀ b∈env.cells.map (·.2),∃ y,h.IsCell b y
 off:∀ b∈env.locals::env.cells.map (·.2),b∉ι.vis∧b∉ι.hid
noncomputable def dyn(env:Env):List Addr:=env.locals::env.cells.map (·.2)
theorem FrOk.noSeq{env:Env}{ρ:Loc}{h:Heap}{ι:Ad}{σ:zaa}(F:FrOk hB env ρ h ι σ):NoSeq (dyn env) h:=by
 intro b hb o ho
 rcases List.mem_cons.mp hb with rfl | hb
 ·obtain ⟨m,⟨o',es,ep,ho',hd,_⟩,_⟩:=F.ns
  rw [ho] at ho';cases ho'
  exact ⟨fun vs n q=>(by rw [hd] at q;cases q),.inl fun vs q=>(by rw [hd] at q;cases q)⟩
 ·obtain ⟨y,o',ho',hd⟩:=F.cellsAt b hb
  rw [ho] at ho';cases ho'
  exact ⟨fun vs n q=>(by rw [hd] at q;cases q),.inl fun vs q=>(by rw [hd] at q;cases q)⟩
theorem Ns.evoW{D:List Addr}{h:Heap}{ι:Ad}{σ:zaa}{h':Heap}{ι':Ad}{σ':zaa}(X:EvoW D h ι σ h' ι' σ'){a:Addr}{m:Str→Option Value}(hn:h.Ns a m)(hl:¬ Live ι σ a)(hD:a∉D):h'.Ns a m:=by
 obtain ⟨o,es,ep,ho,hd,r⟩:=hn
 obtain ⟨⟨sl,e⟩,_⟩:=X.keep a o ho (zaI hl) hD
 exact ⟨_,es,ep,e,hd,r⟩
theorem IsCell.evoW{D:List Addr}{h:Heap}{ι:Ad}{σ:zaa}{h':Heap}{ι':Ad}{σ':zaa}(X:EvoW D h ι σ h' ι' σ'){a:Addr}{v:Option Value}(hn:h.IsCell a v)(hl:¬ Live ι σ a)(hD:a∉D):h'.IsCell a v:=by
 obtain ⟨o,ho,hd⟩:=hn
 obtain ⟨⟨sl,e⟩,_⟩:=X.keep a o ho (zaI hl) hD
 exact ⟨_,e,hd⟩
theorem Ns.evo{D:List Addr}{h:Heap}{ι:Ad}{σ:zaa}{h':Heap}{ι':Ad}{σ':zaa}(X:Evo D h ι σ h' ι' σ'){a:Addr}{m:Str→Option Value}(hn:h.Ns a m)(hl:¬ Live ι σ a)(hD:a∉D):h'.Ns a m:=Ns.evoW X.weak hn hl hD
theorem IsCell.evo{D:List Addr}{h:Heap}{ι:Ad}{σ:zaa}{h':Heap}{ι':Ad}{σ':zaa}(X:Evo D h ι σ h' ι' σ'){a:Addr}{v:Option Value}(hn:h.IsCell a v)(hl:¬ Live ι σ a)(hD:a∉D):h'.IsCell a v:=IsCell.evoW X.weak hn hl hD
theorem FrOk.evoW{D:List Addr}{env:Env}{ρ:Loc}{h:Heap}{ι:Ad}{σ:zaa}{h':Heap}{ι':Ad}{σ':zaa}(F:FrOk hB env ρ h ι σ)(hl:ι.vis.length=σ.length)(X:EvoW D h ι σ h' ι' σ')(hO:Off ι D h)(hD:∀ b∈dyn env,b∉D):FrOk hB env ρ h' ι' σ' where
 ns:=by
  obtain ⟨m,hn,hv⟩:=F.ns
  refine ⟨m,Ns.evoW X hn (F.own _ (.head _)).1 (hD _ (.head _)),fun x v e k=>?_⟩
  obtain ⟨y,hy,r⟩:=hv x v e k
  exact ⟨y,hy,r.evoW hl X hO⟩
 cel:=fun x v e k=>by
  obtain ⟨c,y,hc,hy,r⟩:=F.cel x v e k
  have hm:c∈dyn env:=.tail _ (List.mem_map_of_mem (f:=Prod.snd) (mem_of_lookup hc))
  exact ⟨c,y,hc,IsCell.evoW X hy (F.own c hm).1 (hD c hm),r.evoW hl X hO⟩
 kinds:=F.kinds
 cells:=fun x k=>by
  obtain ⟨c,y,hc,hy⟩:=F.cells x k
  have hm:c∈dyn env:=.tail _ (List.mem_map_of_mem (f:=Prod.snd) (mem_of_lookup hc))
  exact ⟨c,y,hc,IsCell.evoW X hy (F.own c hm).1 (hD c hm)⟩
 apart:=F.apart
 own:=fun b hb=>by
  refine ⟨?_,(F.own b hb).2⟩
  have own:=(F.own b hb).1
  rcases List.mem_cons.mp hb with rfl | hb
  ·obtain ⟨m,⟨o,_,_,ho,_⟩,_⟩:=F.ns;exact X.notLive hl ho own
  ·obtain ⟨y,o,ho,_⟩:=F.cellsAt b hb;exact X.notLive hl ho own
 cellsAt:=fun b hb=>by
  obtain ⟨y,hy⟩:=F.cellsAt b hb
  exact ⟨y,IsCell.evoW X hy (F.own b (.tail _ hb)).1 (hD b (.tail _ hb))⟩
 off:=fun b hb=>by
  have off:=F.off b hb
  rcases List.mem_cons.mp hb with rfl | hb
  ·obtain ⟨m,⟨o,_,_,ho,_⟩,_⟩:=F.ns;exact X.off ho off
  ·obtain ⟨y,o,ho,_⟩:=F.cellsAt b hb;exact X.off ho off
theorem FrOk.evo{D:List Addr}{env:Env}{ρ:Loc}{h:Heap}{ι:Ad}{σ:zaa}{h':Heap}{ι':Ad}{σ':zaa}(F:FrOk hB env ρ h ι σ)(hl:ι.vis.length=σ.length)(X:Evo D h ι σ h' ι' σ')(hO:Off ι D h)(hD:∀ b∈dyn env,b∉D):FrOk hB env ρ h' ι' σ':=F.evoW hl X.weak hO hD
theorem FrOk.step{env:Env}{ρ:Loc}{h:Heap}{ι:Ad}{σ:zaa}{h':Heap}{ι':Ad}{σ':zaa}(F:FrOk hB env ρ h ι σ)(hl:ι.vis.length=σ.length)(X:Evo [] h ι σ h' ι' σ'):FrOk hB env ρ h' ι' σ':=
 F.evo hl X (NoSeq.nil _).off fun _ _=>List.not_mem_nil
theorem FrOk.unhide{env:Env}{ρ:Loc}{h:Heap}{ι:Ad}{σ:zaa}{l:List Addr}(hs:∀ a∈l,a∈ι.hid)(F:FrOk hB env ρ h ι σ):FrOk hB env ρ h ⟨ι.vis,l⟩ σ where
 ns:=by
  obtain ⟨m,hn,hv⟩:=F.ns
  refine ⟨m,hn,fun x v e k=>?_⟩
  obtain ⟨y,hy,r⟩:=hv x v e k
  exact ⟨y,hy,r.unhide hs⟩
 cel:=fun x v e k=>by
  obtain ⟨c,y,hc,hy,r⟩:=F.cel x v e k
  exact ⟨c,y,hc,hy,r.unhide hs⟩
 kinds:=F.kinds
 cells:=F.cells
 apart:=F.apart
 own:=fun b hb=>⟨zbg hs (F.own b hb).1,(F.own b hb).2⟩
 cellsAt:=F.cellsAt
 off:=fun b hb=>⟨(F.off b hb).1,fun q=>(F.off b hb).2 (hs b q)⟩
structure Stk (hB:Heap) (fl:List Env) (h:Heap) (ι:Ad) (σ:zaa):Prop where
 fun_:h.FunFrames hB fl
 notLive:∀ b∈fl.filterMap (·.frame),¬ Live ι σ b
 dicts:∀ b∈fl.filterMap (·.frame),∃ o es n,h.get? b=some o∧o.data=.dict es n
theorem Stk.there{fl:List Env}{h:Heap}{ι:Ad}{σ:zaa}(S:Stk hB fl h ι σ){b:Addr}(hb:b∈fl.filterMap (·.frame)):∃ o,h.get? b=some o:=by
 obtain ⟨_,o,ho,_⟩:=S.fun_.mem hb
 exact ⟨o,ho⟩
theorem FunFrames.map{h h':Heap}:∀{l:List Env},h.FunFrames hB l→(∀ b∈l.filterMap (·.frame),∀ o,h.get? b=some o→(∀ vs,o.data≠.fields vs)→∃ o',h'.get? b=some o'∧∀ vs,o'.data≠.fields vs)→h'.FunFrames hB l
 | [],_,_=>trivial
 | env::rest,⟨hk,⟨L,o,hf,hn,ho,hd⟩,hr⟩,k=>by
  obtain ⟨o',ho',hd'⟩:=k L (by rw [List.filterMap_cons,hf];exact .head _) o ho hd
  exact ⟨hk,⟨L,o',hf,hn,ho',hd'⟩,FunFrames.map hr fun b hb=>k b (by rw [List.filterMap_cons,hf];exact .tail _ hb)⟩
theorem Stk.evoW{D:List Addr}{fl:List Env}{h:Heap}{ι:Ad}{σ:zaa}{h':Heap}{ι':Ad}{σ':zaa}(S:Stk hB fl h ι σ)(hl:ι.vis.length=σ.length)(X:EvoW D h ι σ h' ι' σ')
  (hD:∀ b∈D,b∈fl.filterMap (·.frame)→∃ o' es n,h'.get? b=some o'∧o'.data=.dict es n):Stk hB fl h' ι' σ' where
 fun_:=FunFrames.map S.fun_ fun b hb o ho hd=>by
  by_cases hm:b∈D
  ·obtain ⟨o',es,n,h1,h2⟩:=hD b hm hb
   exact ⟨o',h1,fun vs q=>by rw [h2] at q;cases q⟩
  ·obtain ⟨⟨sl,e⟩,_⟩:=X.keep b o ho (zaI (S.notLive b hb)) hm
   exact ⟨_,e,hd⟩
 notLive:=fun b hb=>by obtain ⟨o,ho⟩:=S.there hb;exact X.notLive hl ho (S.notLive b hb)
 dicts:=fun b hb=>by
  by_cases hm:b∈D
  ·exact hD b hm hb
  ·obtain ⟨o,es,n,ho,hd⟩:=S.dicts b hb
   obtain ⟨⟨sl,e⟩,_⟩:=X.keep b o ho (zaI (S.notLive b hb)) hm
   exact ⟨_,es,n,e,hd⟩
theorem Stk.evo{D:List Addr}{fl:List Env}{h:Heap}{ι:Ad}{σ:zaa}{h':Heap}{ι':Ad}{σ':zaa}(S:Stk hB fl h ι σ)(hl:ι.vis.length=σ.length)(X:Evo D h ι σ h' ι' σ')
  (hD:∀ b∈D,b∈fl.filterMap (·.frame)→∃ o' es n,h'.get? b=some o'∧o'.data=.dict es n):Stk hB fl h' ι' σ':=S.evoW hl X.weak hD
theorem Stk.step{fl:List Env}{h:Heap}{ι:Ad}{σ:zaa}{h':Heap}{ι':Ad}{σ':zaa}(S:Stk hB fl h ι σ)(hl:ι.vis.length=σ.length)(X:Evo [] h ι σ h' ι' σ'):Stk hB fl h' ι' σ':=
 S.evo hl X fun _ hb=>nomatch hb
structure Fly (h h':Heap) (e C:Addr):Prop where
 new:h.get? e=Option.none
 there:∃ oe vs,h'.get? e=some oe∧(oe.cls=.ref C∧oe.dict=Option.none)∧oe.data=.fields vs∧1<vs.size∧
  (vs[1]?=some .none∨∃ T oT ts,vs[1]?=some (.ref T)∧T≠e∧h.get? T=Option.none∧h'.get? T=some oT∧oT.data=.fields ts∧3<ts.size)
theorem zde{M:Model}{A:Around}{E:Value→Shared→Prop}{s:Shared}(keep:List Value):∀(l:List Value){Q:Unit→Shared→Prop},Q () s→wpAny M A (release.go keep l) Q E s
 | [],_,h=>wpAny_pure h
 | [_],_,h=>wpAny_pure h
 | _::b::r,_,h=>wpAny_bind (wpAny_holding (wpAny_point (zde keep (b::r) h)))
theorem zc7{M:Model}{A:Around}{E:Value→Shared→Prop}{s:Shared}{vs:List Value}{m:Sem Value}{Q:Value→Shared→Prop}(h:wpAny M A m Q E s):wpAny M A (operate vs m) Q E s:=
 wpAny_bind (wpAny_holding (wpAny_mono h (fun _ _ q=>wpAny_bind (zde _ _ (wpAny_pure q))) fun _ _ q=>q))
structure Ar (md:Md) (d:Nat) (fl:List Env) (A:Around):Prop where
 frames:A.frames=some fl
 depth:A.depth+d<recursionLimit
 units:A.units+8*d+2000<cLine
 quiet:md.rz=true∨md.lp=true→A.handled=none
structure Inv (prog:Program) (w:World) (hB:Heap) (env:Env) (ρ:Loc) (fl:List Env) (h:Heap) (ι:Ad) (σ:zaa):Prop where
 stays:hB.StaysIn h
 store:StoreOk prog w hB h ι σ
 fr:FrOk hB env ρ h ι σ
 stk:Stk hB fl h ι σ
section
variable {prog:Program} {w:World} {hB:Heap} {env:Env} {ρ:Loc} {fl:List Env} {h h':Heap} {ι ι':Ad} {σ σ':zaa}
theorem Inv.step(I:Inv prog w hB env ρ fl h ι σ)(X:Step prog w hB h ι σ h' ι' σ'):Inv prog w hB env ρ fl h' ι' σ':=
 ⟨X.stays,X.store,I.fr.step I.store.len X.evo,I.stk.step I.store.len X.evo⟩
theorem Inv.refl(I:Inv prog w hB env ρ fl h ι σ):Step prog w hB h ι σ h ι σ:=Step.refl I.store I.stays
theorem Rep.step{x:PV}{v:Value}(r:Rep h ι σ x v)(hl:ι.vis.length=σ.length)(X:Step prog w hB h ι σ h' ι' σ'):Rep h' ι' σ' x v:=r.evo hl X.evo (NoSeq.nil _)
theorem RepL.step{x:List PV}{v:List Value}(r:RepL h ι σ x v)(hl:ι.vis.length=σ.length)(X:Step prog w hB h ι σ h' ι' σ'):RepL h' ι' σ' x v:=r.evo hl X.evo (NoSeq.nil _)
end
noncomputable def Sim(prog:Program)(w:World)(hB:Heap)(A:Around){α β:Type}(R:Heap→Ad→zaa→α→β→Prop)(t:Sem β)(r:M α)(s:Shared)(ι:Ad)(σ:zaa):Prop:=
 ∀(Q:β→Shared→Prop)(E:Value→Shared→Prop),r σ≠.stuck→
  (∀ a σ',r σ=.ok a σ'→∀ x h' tk ι',Step prog w hB s.heap ι σ h' ι' σ'→R h' ι' σ' a x→Q x { s with heap:=h',toks:=tk })→
  (∀ C σ',r σ=.err C σ'→∀ e h' tk ι',Step prog w hB s.heap ι σ h' ι' σ'→Fly s.heap h' e C→E (.ref e) { s with heap:=h',toks:=tk })→
  wpAny (model prog w) A t Q E s
section
variable {prog:Program} {w:World} {hB:Heap} {A:Around} {α β γ δ:Type} {s:Shared} {ι:Ad} {σ:zaa}
theorem za5{h₁ h₂:Heap}(ha:∀(b:Addr)(o:Obj),h₁.get? b=some o→∃ o',h₂.get? b=some o'){a:Addr}(h:h₂.get? a=none):h₁.get? a=none:=by
 cases q:h₁.get? a with
 | none=>rfl
 | some o=>obtain ⟨o',e⟩:=ha a o q;rw [h] at e;cases e
theorem Fly.older{h₁ h₂ h₃:Heap}{e C:Addr}(X:Fly h₂ h₃ e C)(hs:∀(b:Addr)(o:Obj),h₁.get? b=some o→∃ o',h₂.get? b=some o'):Fly h₁ h₃ e C:=by
 obtain ⟨hn,oe,vs,h1,h2,h3,h4,h5⟩:=X
 refine ⟨za5 hs hn,oe,vs,h1,h2,h3,h4,?_⟩
 rcases h5 with h5 | ⟨T,oT,ts,a,b,c,d⟩
 ·exact .inl h5
 ·exact .inr ⟨T,oT,ts,a,b,za5 hs c,d⟩
theorem Sim.bind{R:Heap→Ad→zaa→α→β→Prop}{R':Heap→Ad→zaa→δ→γ→Prop}{t:Sem β}{k:β→Sem γ}{r:M α}{f:α→M δ}(hl:ι.vis.length=σ.length)
  (h1:Sim prog w hB A R t r s ι σ)
  (h2:∀ a σ' x h' tk ι',r σ=.ok a σ'→Step prog w hB s.heap ι σ h' ι' σ'→R h' ι' σ' a x→Sim prog w hB A R' (k x) (f a) { s with heap:=h',toks:=tk } ι' σ') :
  Sim prog w hB A R' (t >>= k) (r.bind f) s ι σ:=by
 intro Q E hns hok herr
 have hne:r σ≠.stuck:=fun q=>hns (by simp only [M.bind,q])
 refine wpAny_bind (h1 _ _ hne (fun a σ₁ e₁ x h₁ tk₁ ι₁ X₁ r₁=>?_) (fun C σ₁ e₁ e h₁ tk₁ ι₁ X₁ F₁=>?_))
 ·have hb:(r.bind f) σ=f a σ₁:=by simp only [M.bind,e₁]
  refine h2 a σ₁ x h₁ tk₁ ι₁ e₁ X₁ r₁ Q E (by rw [← hb];exact hns) (fun b σ₂ e₂ y h₂ tk₂ ι₂ X₂ r₂=>?_) (fun C σ₂ e₂ e h₂ tk₂ ι₂ X₂ F₂=>?_)
  ·exact hok b σ₂ (hb.trans e₂) y h₂ tk₂ ι₂ (X₁.trans hl X₂) r₂
  ·exact herr C σ₂ (hb.trans e₂) e h₂ tk₂ ι₂ (X₁.trans hl X₂) (F₂.older X₁.evo.alive)
 ·exact herr C σ₁ (by simp only [M.bind,e₁]) e h₁ tk₁ ι₁ X₁ F₁
theorem Sim.pure{R:Heap→Ad→zaa→α→β→Prop}{a:α}{x:β}(S:StoreOk prog w hB s.heap ι σ)(B:hB.StaysIn s.heap)(hr:R s.heap ι σ a x):Sim prog w hB A R (pure x) (M.ret a) s ι σ:=by
 intro Q E _ hok _
 exact wpAny_pure (hok a σ rfl x s.heap s.toks ι (Step.refl S B) hr)
theorem Sim.fail{R:Heap→Ad→zaa→α→β→Prop}{t:Sem β}:Sim prog w hB A R t M.fail s ι σ:=fun _ _ h _ _=>(h rfl).elim
theorem Sim.tree{R:Heap→Ad→zaa→α→β→Prop}{t t':Sem β}{r:M α}(h:Sim prog w hB A R t r s ι σ)(k:∀ Q E,wpAny (model prog w) A t Q E s→wpAny (model prog w) A t' Q E s):Sim prog w hB A R t' r s ι σ:=
 fun Q E hns hok herr=>k Q E (h Q E hns hok herr)
theorem Sim.res{R:Heap→Ad→zaa→α→β→Prop}{t:Sem β}{r r':M α}(h:Sim prog w hB A R t r s ι σ)(e:r' σ=r σ):Sim prog w hB A R t r' s ι σ:=
 fun Q E hns hok herr=>h Q E (e▸hns) (fun a σ' q=>hok a σ' (e.trans q)) (fun C σ' q=>herr C σ' (e.trans q))
theorem Sim.holding{R:Heap→Ad→zaa→α→β→Prop}{t:Sem β}{r:M α}(vs:List Value)(h:Sim prog w hB A R t r s ι σ):Sim prog w hB A R (holding vs t) r s ι σ:=h.tree fun _ _=>wpAny_holding
theorem Sim.standAt{R:Heap→Ad→zaa→α→β→Prop}{t:Sem β}{r:M α}(p:Pos)(h:Sim prog w hB A R t r s ι σ):Sim prog w hB A R (do standAt p;t) r s ι σ:=h.tree fun _ _ k=>wpAny_bind (wpAny_standAt k)
theorem Sim.operate{R:Heap→Ad→zaa→α→Value→Prop}{t:Sem Value}{r:M α}(vs:List Value)(h:Sim prog w hB A R t r s ι σ):Sim prog w hB A R (operate vs t) r s ι σ:=h.tree fun _ _=>zc7
theorem Sim.val{R:Heap→Ad→zaa→α→β→Prop}{t:Sem β}{r:M α}{a:α}(S:StoreOk prog w hB s.heap ι σ)(B:hB.StaysIn s.heap)(e:r σ=.ok a σ)
  (h:∀ Q E,(∀ x tk,R s.heap ι σ a x→Q x { s with toks:=tk })→wpAny (model prog w) A t Q E s):Sim prog w hB A R t r s ι σ:=
 fun Q E _ hok _=>h Q E fun x tk r=>hok a σ e x s.heap tk ι (Step.refl S B) r
theorem Sim.cond{R:Heap→Ad→zaa→α→β→Prop}{t:Sem β}{b:Bool}{x y:M α}(hx:b=true→Sim prog w hB A R t x s ι σ)(hy:b=false→Sim prog w hB A R t y s ι σ):Sim prog w hB A R t (M.cond b x y) s ι σ:=by
 cases b
 ·exact hy rfl
 ·exact hx rfl
theorem Sim.iff{R:Heap→Ad→zaa→α→β→Prop}{t u:Sem β}{b:Bool}{x y:M α}(hx:b=true→Sim prog w hB A R t x s ι σ)(hy:b=false→Sim prog w hB A R u y s ι σ):Sim prog w hB A R (if b then t else u) (M.cond b x y) s ι σ:=by
 cases b
 ·exact hy rfl
 ·exact hx rfl
theorem Sim.onInt{R:Heap→Ad→zaa→α→β→Prop}{t:Value→Sem β}{k:Int→M α}{a:PV}{x:Value}(r:Rep s.heap ι σ a x) (h:∀ i u,Sim prog w hB A R (t (.int i u)) (k i) s ι σ):Sim prog w hB A R (t x) (onInt a k) s ι σ:=by
 cases a with
 | int i=>obtain ⟨u,e⟩:=r.inv;rw [e];exact h i u
 | _=>exact Sim.fail
theorem Sim.onStr{R:Heap→Ad→zaa→α→β→Prop}{t:Value→Sem β}{k:Str→M α}{a:PV}{x:Value}(r:Rep s.heap ι σ a x) (h:∀ i u,Sim prog w hB A R (t (.str i u)) (k i) s ι σ):Sim prog w hB A R (t x) (onStr a k) s ι σ:=by
 cases a with
 | str i=>obtain ⟨u,e⟩:=r.inv;rw [e];exact h i u
 | _=>exact Sim.fail
theorem Sim.onTup{R:Heap→Ad→zaa→α→β→Prop}{t:Value→Sem β}{k:List PV→M α}{a:PV}{x:Value}(r:Rep s.heap ι σ a x)
  (h:∀ xs l vs n,s.heap.get? l=some { cls:=.type "tuple",data:=.seq vs n }→¬ Live ι σ l→RepL s.heap ι σ xs vs.toList→Sim prog w hB A R (t (.ref l)) (k xs) s ι σ):Sim prog w hB A R (t x) (onTup a k) s ι σ:=by
 cases a with
 | tup xs=>obtain ⟨l,vs,n,e,e',nl,rl⟩:=r.inv;rw [e];exact h xs l vs n e' nl rl
 | _=>exact Sim.fail
theorem Sim.onLst{R:Heap→Ad→zaa→α→β→Prop}{t:Value→Sem β}{k:List PV→M α}{a:PV}{x:Value}(r:Rep s.heap ι σ a x)
  (h:∀ xs l vs n,s.heap.get? l=some { cls:=.type "list",data:=.seq vs n }→¬ Live ι σ l→RepL s.heap ι σ xs vs.toList→Sim prog w hB A R (t (.ref l)) (k xs) s ι σ):Sim prog w hB A R (t x) (onLst a k) s ι σ:=by
 cases a with
 | lst xs=>obtain ⟨l,vs,n,e,e',nl,rl⟩:=r.inv;rw [e];exact h xs l vs n e' nl rl
 | _=>exact Sim.fail
theorem Sim.onRef{R:Heap→Ad→zaa→α→β→Prop}{t:Value→Sem β}{k:Nat→M α}{a:PV}{x:Value}(r:Rep s.heap ι σ a x) (h:∀ i l,ι.vis[i]?=some l→Sim prog w hB A R (t (.ref l)) (k i) s ι σ):Sim prog w hB A R (t x) (onRef a k) s ι σ:=by
 cases a with
 | ref i=>obtain ⟨l,e,e'⟩:=r.inv;rw [e];exact h i l e'
 | _=>exact Sim.fail
theorem zae{γ δ:Type}{m:M γ}{f:γ→M δ}{σ:zaa}(h:m σ=.stuck):m.bind f σ=.stuck:=by unfold M.bind;rw [h]
theorem zab{γ δ:Type}{m:M γ}{f:γ→M δ}{σ σ':zaa}{a:γ}(h:m σ=.ok a σ'):m.bind f σ=f a σ':=by unfold M.bind;rw [h]
theorem zap{γ δ:Type}{m:M γ}{f:γ→M δ}{σ σ':zaa}{C:Addr}(h:m σ=.err C σ'):m.bind f σ=.err C σ':=by unfold M.bind;rw [h]
theorem Sim.stuck{R:Heap→Ad→zaa→α→β→Prop}{t:Sem β}{r:M α}(e:r σ=.stuck):Sim prog w hB A R t r s ι σ:=fun _ _ h _ _=>(h e).elim
theorem Sim.bstuck{R:Heap→Ad→zaa→α→β→Prop}{t:Sem β}{γ:Type}{m:M γ}{f:γ→M α}(e:m σ=.stuck):Sim prog w hB A R t (m.bind f) s ι σ:=Sim.stuck (zae e)
theorem Sim.part{R:Heap→Ad→zaa→α→β→Prop}{t:Sem β}{γ:Type}{m:M γ}{f:γ→M α}(P:γ→Prop)(h:(∃ a,m σ=.ok a σ∧P a)∨m σ=.stuck)(k:∀ a,P a→Sim prog w hB A R t (f a) s ι σ):Sim prog w hB A R t (m.bind f) s ι σ:=by
 rcases h with ⟨a,e,p⟩ | e
 ·exact (k a p).res (zab e)
 ·exact Sim.bstuck e
theorem Sim.lift{R:Heap→Ad→zaa→α→β→Prop}{t:Sem β}{γ:Type}{o:Option γ}{f:γ→M α}(k:∀ a,o=some a→Sim prog w hB A R t (f a) s ι σ):Sim prog w hB A R t ((M.lift o).bind f) s ι σ:=by
 cases o with
 | none=>exact Sim.bstuck rfl
 | some a=>exact k a rfl
end
section
variable {prog:Program} {w:World} {hB h:Heap} {ι:Ad} {σ:zaa}
theorem zjA(o:Obj):RepTo h ι σ (h.push o) ι σ:=⟨fun e nl=>⟨Heap.get?_push_of_some _ e,nl⟩,fun e=>e,fun e c d k nl=>.exc (Heap.get?_push_of_some _ e) c d k nl⟩
theorem Rep.push(o:Obj){x:PV}{v:Value}(r:Rep h ι σ x v):Rep (h.push o) ι σ x v:=r.to (zjA o)
theorem RepL.push(o:Obj){xs:List PV}{vs:List Value}(r:RepL h ι σ xs vs):RepL (h.push o) ι σ xs vs:=r.to (zjA o)
theorem size_push(h:Heap)(o:Obj):(h.push o).objs.size=h.objs.size+1:=by
 obtain ⟨os,l⟩:=h;exact Array.size_push ..
theorem CelOk.push(o:Obj){a:Addr}{c:Cel}(x:CelOk prog w h ι σ a c):CelOk prog w (h.push o) ι σ a c:=by
 cases c with
 | list xs=>obtain ⟨vs,⟨n,e⟩,r⟩:=x;exact ⟨vs,⟨n,Heap.get?_push_of_some _ e⟩,r.push o⟩
 | dict kvs=>obtain ⟨ys,d,k,r⟩:=x;exact ⟨ys,d.push o,k,r.push o⟩
 | dead=>trivial
theorem StoreOk.push(S:StoreOk prog w hB h ι σ)(o:Obj):StoreOk prog w hB (h.push o) ι σ:=
 ⟨S.len,S.nodup,fun a ha=>by obtain ⟨o',e⟩:=S.there a ha;exact ⟨o',Heap.get?_push_of_some _ e⟩,fun a ha=>by obtain ⟨o',e,f⟩:=S.hthere a ha;exact ⟨o',Heap.get?_push_of_some _ e,f⟩,S.apart,S.base,S.hbase,S.sys,fun i a c e e'=>(S.ok i a c e e').push o⟩
theorem Evo.push(h:Heap)(ι:Ad)(σ:zaa)(o:Obj):Evo [] h ι σ (h.push o) ι σ:=
 ⟨fun _ _ e=>e,fun i a e e'=>(by rw [e] at e';cases e'),fun _ e=>e,fun b o' e=>⟨o',Heap.get?_push_of_some _ e⟩,fun b o' e _ _=>⟨⟨o'.slots,Heap.get?_push_of_some _ e⟩,fun _=>Heap.get?_push_of_some _ e⟩,fun _ h=>h,fun _ h=>.inl h⟩
theorem StaysIn.push(B:hB.StaysIn h)(o:Obj):hB.StaysIn (h.push o):=fun b o' e=>Heap.get?_push_of_some _ (B b o' e)
theorem Step.push(S:StoreOk prog w hB h ι σ)(B:hB.StaysIn h)(o:Obj):Step prog w hB h ι σ (h.push o) ι σ:=⟨Evo.push h ι σ o,S.push o,StaysIn.push B o⟩
theorem zbH(S:StoreOk prog w hB h ι σ):¬ Live ι σ h.objs.size:=by
 rintro (⟨i,c,hi,_⟩ | q)
 ·obtain ⟨o,ho⟩:=S.there _ (List.mem_of_getElem? hi)
  exact absurd (Heap.lt_size ho) (Nat.lt_irrefl _)
 ·obtain ⟨o,ho,_⟩:=S.hthere _ q
  exact absurd (Heap.lt_size ho) (Nat.lt_irrefl _)
theorem Rep.newTup(S:StoreOk prog w hB h ι σ){xs:List PV}{vs:List Value}(r:RepL h ι σ xs vs) :
  Rep (h.push { cls:=.type "tuple",data:=.seq vs.toArray }) ι σ (.tup xs) (.ref h.objs.size):=
 .tup (Heap.get?_push_size _ rfl) (zbH S) (by simpa using r.push _)
end
section
variable {prog:Program} {w:World} {hB h h':Heap} {ι:Ad} {σ:zaa}
theorem zgv{ι:List Addr}(hn:ι.Nodup){i j:Nat}{a:Addr}(hi:ι[i]?=some a)(hj:ι[j]?=some a):i=j:=by
 obtain ⟨h1,e1⟩:=List.getElem?_eq_some_iff.mp hi
 obtain ⟨h2,e2⟩:=List.getElem?_eq_some_iff.mp hj
 have hp:=List.pairwise_iff_getElem.mp hn
 rcases Nat.lt_trichotomy i j with q | q | q
 ·exact absurd (e1.trans e2.symm) (hp i j h1 h2 q)
 ·exact q
 ·exact absurd (e2.trans e1.symm) (hp j i h2 h1 q)
theorem CelOk.evo{ι':Ad}{σ':zaa}(hl:ι.vis.length=σ.length)(X:Evo [] h ι σ h' ι' σ'){a:Addr}{c:Cel}(x:CelOk prog w h ι σ a c)(hs:∀ o,h.get? a=some o→h'.get? a=some o):CelOk prog w h' ι' σ' a c:=by
 cases c with
 | list xs=>obtain ⟨vs,⟨n,e⟩,r⟩:=x;exact ⟨vs,⟨n,hs _ e⟩,r.evo hl X (NoSeq.nil _)⟩
 | dict kvs=>
  obtain ⟨ys,⟨o,es,ep,e,k⟩,k2,r⟩:=x
  exact ⟨ys,⟨o,es,ep,hs _ e,k⟩,k2,r.evo hl X (NoSeq.nil _)⟩
 | dead=>trivial
theorem zk6{i:Nat}{a:Addr}{c c₀:Cel}(hi:ι.vis[i]?=some a)(hc:σ[i]?=some c₀)(hd:c₀≠.dead)(hs:Heap.SameBut a h h')(ha:∃ o',h'.get? a=some o'):Evo [] h ι σ h' ι (σ.set i c) where
 pre:=fun _ _ e=>e
 fresh:=fun j b e e'=>by rw [e] at e';cases e'
 dead:=fun j e=>by
  have hj:i≠j:=fun q=>by subst q;rw [hc] at e;cases e;exact hd rfl
  rw [List.getElem?_set_ne hj];exact e
 alive:=fun b o e=>by
  by_cases hb:b=a
  ·subst hb;exact ha
  ·exact ⟨o,(hs.2 b hb).trans e⟩
 keep:=fun b o e hn _=>by
  have hb:b≠a:=fun q=>hn (q▸⟨i,c₀,hi,hc,hd⟩)
  exact ⟨⟨o.slots,(hs.2 b hb).trans e⟩,fun _=>(hs.2 b hb).trans e⟩
 hid:=fun _ h=>h
 hfresh:=fun _ h=>.inl h
theorem Step.set{i:Nat}{a:Addr}{c c₀:Cel}(S:StoreOk prog w hB h ι σ)(B:hB.StaysIn h')(hi:ι.vis[i]?=some a)(hc:σ[i]?=some c₀)(hd:c₀≠.dead)(hs:Heap.SameBut a h h')
  (hk:CelOk prog w h' ι (σ.set i c) a c) (ha:∃ o',h'.get? a=some o'):Step prog w hB h ι σ h' ι (σ.set i c):=by
 have X:=zk6 (c:=c) hi hc hd hs ha
 refine ⟨X,⟨by rw [List.length_set];exact S.len,S.nodup,fun b hb=>by obtain ⟨o,ho⟩:=S.there b hb;exact X.alive b o ho,fun b hb=>by obtain ⟨o,ho,f⟩:=S.hthere b hb;exact ⟨o,(hs.2 b (fun q=>S.apart a (List.mem_of_getElem? hi) (q▸hb))).trans ho,f⟩,S.apart,S.base,S.hbase,S.sys,fun j b c' e e'=>?_⟩,B⟩
 by_cases hj:i=j
 ·subst hj
  rw [hi] at e;cases e
  rw [List.getElem?_set_self (List.getElem?_eq_some_iff.mp hc).1] at e';cases e'
  exact hk
 ·rw [List.getElem?_set_ne hj] at e'
  have hba:b≠a:=fun q=>hj (zgv S.nodup hi (q▸e))
  exact (S.ok j b c' e e').evo S.len X fun o ho=>(hs.2 b hba).trans ho
theorem zgu(S:StoreOk prog w hB h ι σ){a:Addr}(ha:a∈ι.vis):(a==sysModules)=false:=by
 cases q:a==sysModules with
 | false=>rfl
 | true=>
  have:=eq_of_beq q
  subst this
  obtain ⟨o,ho⟩:=S.sys
  rw [S.base _ ha] at ho;cases ho
theorem zfz{a:Addr}(B:hB.StaysIn h)(ha:hB.get? a=none)(hs:Heap.SameBut a h h'):hB.StaysIn h':=fun b o e=>by
 have hb:b≠a:=fun q=>by rw [q,ha] at e;cases e
 exact (hs.2 b hb).trans (B b o e)
theorem Live.append{c:Cel}{a b:Addr}(hl:ι.vis.length=σ.length):Live (ι.add a) (σ++[c]) b→Live ι σ b∨b=a:=by
 rintro (⟨i,c',hi,hc,hd⟩ | q)
 rotate_left
 ·exact .inl (.inr q)
 simp only [Ad.add] at hi
 by_cases q:i<ι.vis.length
 ·rw [List.getElem?_append_left q] at hi
  rw [List.getElem?_append_left (hl▸q)] at hc
  exact .inl (.inl ⟨i,c',hi,hc,hd⟩)
 ·rw [List.getElem?_append_right (Nat.le_of_not_lt q)] at hi
  have:i-ι.vis.length=0:=by
   have:=(List.getElem?_eq_some_iff.mp hi).1
   simp at this;lia
  rw [this] at hi;simp at hi;exact .inr hi.symm
theorem zie{a:Addr}(c:Cel)(hk:∀ b o,h.get? b=some o→h'.get? b=some o)(ha:h.get? a=none):Evo [] h ι σ h' (ι.add a) (σ++[c]) where
 pre:=fun i a e=>by simp only [Ad.add];rw [List.getElem?_append_left (List.getElem?_eq_some_iff.mp e).1];exact e
 fresh:=fun i b e e'=>by
  simp only [Ad.add] at e
  have hi:ι.vis.length≤i:=List.getElem?_eq_none_iff.mp e'
  rw [List.getElem?_append_right hi] at e
  have:i-ι.vis.length=0:=by
   have:=(List.getElem?_eq_some_iff.mp e).1
   simp at this;lia
  rw [this] at e;simp at e;rw [← e];exact ha
 dead:=fun i e=>by rw [List.getElem?_append_left (List.getElem?_eq_some_iff.mp e).1];exact e
 alive:=fun b o e=>⟨o,hk b o e⟩
 keep:=fun b o' e _ _=>⟨⟨o'.slots,hk _ _ e⟩,fun _=>hk _ _ e⟩
 hid:=fun _ h=>h
 hfresh:=fun _ h=>.inl h
theorem Step.newAt{a:Addr}(S:StoreOk prog w hB h ι σ)(B:hB.StaysIn h)(c:Cel)(hk:∀ b o,h.get? b=some o→h'.get? b=some o)(ha:h.get? a=none)(ht:∃ o,h'.get? a=some o)
  (hc:CelOk prog w h' (ι.add a) (σ++[c]) a c):Step prog w hB h ι σ h' (ι.add a) (σ++[c]):=by
 have X:=zie (ι:=ι) (σ:=σ) c hk ha
 refine ⟨X,⟨by simp [Ad.add,S.len],?_,fun b hb=>?_,fun b hb=>?_,fun b hb=>?_,fun b hb=>?_,S.hbase,S.sys,fun j b c' e e'=>?_⟩,fun b o e=>hk b o (B b o e)⟩
 ·simp only [Ad.add]
  rw [List.nodup_append]
  refine ⟨S.nodup,by simp,fun x hx b hb q=>?_⟩
  rw [List.mem_singleton] at hb
  obtain ⟨o,ho⟩:=S.there x hx
  rw [q,hb,ha] at ho;cases ho
 ·rcases List.mem_append.mp hb with hb | hb
  ·obtain ⟨o,ho⟩:=S.there b hb;exact ⟨o,hk b o ho⟩
  ·rw [List.mem_singleton.mp hb];exact ht
 ·obtain ⟨o,ho,f⟩:=S.hthere b hb;exact ⟨o,hk b o ho,f⟩
 ·rcases List.mem_append.mp hb with hb | hb
  ·exact S.apart b hb
  ·rw [List.mem_singleton.mp hb];intro q;obtain ⟨o,ho,_⟩:=S.hthere _ q;rw [ha] at ho;cases ho
 ·rcases List.mem_append.mp hb with hb | hb
  ·exact S.base b hb
  ·rw [List.mem_singleton.mp hb];exact za5 (fun b o e=>⟨o,B b o e⟩) ha
 ·simp only [Ad.add] at e
  by_cases q:j<ι.vis.length
  ·rw [List.getElem?_append_left q] at e
   rw [List.getElem?_append_left (S.len▸q)] at e'
   exact (S.ok j b c' e e').evo S.len X fun o' ho=>hk _ _ ho
  ·rw [List.getElem?_append_right (Nat.le_of_not_lt q)] at e
   rw [List.getElem?_append_right (by rw [← S.len];exact Nat.le_of_not_lt q)] at e'
   have h0:j-ι.vis.length=0:=by
    have:=(List.getElem?_eq_some_iff.mp e).1
    simp at this;lia
   rw [h0] at e;rw [← S.len,h0] at e'
   simp at e e'
   subst e;subst e';exact hc
theorem zaB(h:Heap):h.get? h.objs.size=none:=by
 cases q:h.get? h.objs.size with
 | none=>rfl
 | some o=>exact absurd (Heap.lt_size q) (Nat.lt_irrefl _)
theorem Step.keeps(S:StoreOk prog w hB h ι σ)(B:hB.StaysIn h)(hk:∀ b o,h.get? b=some o→h'.get? b=some o):Step prog w hB h ι σ h' ι σ:=by
 have X:Evo [] h ι σ h' ι σ:=⟨fun _ _ e=>e,fun i a e e'=>(by rw [e] at e';cases e'),fun _ e=>e,fun b o e=>⟨o,hk b o e⟩,fun b o e _ _=>⟨⟨o.slots,hk b o e⟩,fun _=>hk b o e⟩,fun _ h=>h,fun _ h=>.inl h⟩
 exact ⟨X,⟨S.len,S.nodup,fun a ha=>by obtain ⟨o,ho⟩:=S.there a ha;exact ⟨o,hk _ _ ho⟩,fun a ha=>by obtain ⟨o,ho,f⟩:=S.hthere a ha;exact ⟨o,hk _ _ ho,f⟩,S.apart,S.base,S.hbase,S.sys,fun i a c e e'=>(S.ok i a c e e').evo S.len X fun o ho=>hk _ _ ho⟩,fun b o e=>hk b o (B b o e)⟩
theorem zdw(S:StoreOk prog w hB h ι σ){a:Addr}(ha:h.get? a=none):¬ Live ι σ a:=by
 rintro (⟨i,c,hi,_⟩ | q)
 ·obtain ⟨o,ho⟩:=S.there _ (List.mem_of_getElem? hi)
  rw [ha] at ho;cases ho
 ·obtain ⟨o,ho,_⟩:=S.hthere _ q
  rw [ha] at ho;cases ho
theorem zeo(S:StoreOk prog w hB h ι σ)(a:Addr):(ι.add a).vis[σ.length]?=some a:=by
 simp only [Ad.add]
 rw [List.getElem?_append_right (by rw [S.len];exact Nat.le_refl _)];simp [S.len]
theorem SameBut.refl(a:Addr)(h:Heap):Heap.SameBut a h h:=⟨rfl,fun _ _=>rfl⟩
theorem Step.kill{i:Nat}{a:Addr}{c₀:Cel}(S:StoreOk prog w hB h ι σ)(B:hB.StaysIn h)(hi:ι.vis[i]?=some a)(hc:σ[i]?=some c₀)(hd:c₀≠.dead):Step prog w hB h ι σ h ι (σ.set i .dead):=
 Step.set S B hi hc hd (SameBut.refl a h) trivial (S.there a (List.mem_of_getElem? hi))
theorem zeH{i:Nat}{a:Addr}{c₀:Cel}(S:StoreOk prog w hB h ι σ)(hi:ι.vis[i]?=some a)(hc:σ[i]?=some c₀):¬ Live ι (σ.set i .dead) a:=by
 rintro (⟨j,c,hj,hcj,hd⟩ | q)
 ·obtain rfl:=zgv S.nodup hi hj
  rw [List.getElem?_set_self (List.getElem?_eq_some_iff.mp hc).1] at hcj;cases hcj;exact hd rfl
 ·exact S.apart a (List.mem_of_getElem? hi) q
end
section
variable {prog:Program} {w:World} {hB:Heap} {A:Around} {s:Shared} {ι:Ad} {σ:zaa}
noncomputable abbrev SimV(prog:Program)(w:World)(hB:Heap)(A:Around)(t:Sem Value)(r:M PV)(s:Shared)(ι:Ad)(σ:zaa):Prop:=Sim prog w hB A Rep t r s ι σ
theorem zd7{t:Sem Value}{cx:Cx}{p:Pos}{xs:List PV}{vs:List Value}(S:StoreOk prog w hB s.heap ι σ)(B:hB.StaysIn s.heap)(r:RepL s.heap ι σ xs vs)
  (mk:∀(Q:Value→Shared→Prop)(E:Value→Shared→Prop),(∀ D h' n tk,s.heap.get? D=none→(∀ b o,s.heap.get? b=some o→h'.get? b=some o)→h'.get? D=some { cls:=.type "list",data:=.seq vs.toArray n }→Q (.ref D) { s with heap:=h',toks:=tk })→wpAny (model prog w) A t Q E s) :
  SimV prog w hB A t (zaD cx p xs) s ι σ:=by
 refine Sim.cond (fun _=>?_) (fun _=>?_)
 ·intro Q E _ hok _
  refine mk _ _ fun D h' n tk hD hk hd=>hok (.ref σ.length) (σ++[.list xs]) rfl _ _ tk (ι.add D) ?_ (.ref (zeo S D))
  have X:=zie (ι:=ι) (σ:=σ) (.list xs) hk hD
  exact Step.newAt S B _ hk hD ⟨_,hd⟩ ⟨vs.toArray,⟨n,hd⟩,by simpa using r.evo S.len X (NoSeq.nil _)⟩
 ·intro Q E _ hok _
  refine mk _ _ fun D h' n tk hD hk hd=>hok _ _ rfl _ _ tk ι (Step.keeps S B hk) ?_
  have X:=(Step.keeps (prog:=prog) (w:=w) S B hk).evo
  exact .lst hd (zdw S hD) (by simpa using r.evo S.len X (NoSeq.nil _))
theorem zbx{t:Sem Value}{cx:Cx}{p:Pos}{xs:List PV}{vs:List Value}(S:StoreOk prog w hB s.heap ι σ)(B:hB.StaysIn s.heap)(r:RepL s.heap ι σ xs vs)
  (mk:∀(Q:Value→Shared→Prop)(E:Value→Shared→Prop),(∀ tk,Q (.ref s.heap.objs.size) { s with heap:=s.heap.push { cls:=.type "list",data:=.seq vs.toArray },toks:=tk })→wpAny (model prog w) A t Q E s) :
  SimV prog w hB A t (zaD cx p xs) s ι σ:=
 zd7 S B r fun Q E h=>mk Q E fun tk=>h _ _ 0 tk (zaB _) (fun _ _ e=>Heap.get?_push_of_some _ e) (Heap.get?_push_size _ rfl)
theorem ziF{cx:Cx}{p:Pos}{xs:List PV}{vs:List Value}(S:StoreOk prog w hB s.heap ι σ)(B:hB.StaysIn s.heap)(r:RepL s.heap ι σ xs vs)(hsz:vs.length≤sizeLine) :
  SimV prog w hB A (newList vs) (zaD cx p xs) s ι σ:=
 zbx S B r fun _ _ h=>wpAny_newObj_type (h s.toks) (by show vs.toArray.size≤sizeLine;rw [List.size_toArray];exact hsz)
theorem znk{xs:List PV}{vs:List Value}(S:StoreOk prog w hB s.heap ι σ)(B:hB.StaysIn s.heap)(r:RepL s.heap ι σ xs vs)(hsz:vs.length≤sizeLine) :
  SimV prog w hB A (newTuple vs) (M.ret (.tup xs)) s ι σ:=by
 intro Q E _ hok _
 exact wpAny_newObj_type (hok _ _ rfl _ _ s.toks ι (Step.push S B _) (Rep.newTup S r)) (by show vs.toArray.size≤sizeLine;rw [List.size_toArray];exact hsz)
theorem zbQ(S:StoreOk prog w hB s.heap ι σ){i:Nat}{a:Addr}(hi:ι.vis[i]?=some a):(∃ xs vs n,lget i σ=.ok xs σ∧σ[i]?=some (.list xs)∧s.heap.get? a=some { cls:=.type "list",data:=.seq vs n }∧RepL s.heap ι σ xs vs.toList)∨lget i σ=.stuck:=by
 unfold lget M.bind cget
 cases hc:σ[i]? with
 | none=>exact .inr rfl
 | some c=>
  cases c with
  | list xs=>obtain ⟨vs,⟨n,hp⟩,rl⟩:=S.ok _ _ _ hi hc;exact .inl ⟨xs,vs,n,rfl,rfl,hp,rl⟩
  | dict kvs=>exact .inr rfl
  | dead=>exact .inr rfl
theorem zhh{v:PV}{t:Sem Value}(S:StoreOk prog w hB s.heap ι σ)(B:hB.StaysIn s.heap)(h:∀ Q E,(∀ y,Rep s.heap ι σ v y→Q y s)→wpAny (model prog w) A t Q E s):SimV prog w hB A t (zfd v) s ι σ:=by
 intro Q E hns hok herr
 refine h Q E fun y r=>?_
 cases v with
 | ref i=>
  obtain ⟨a,rfl,e⟩:=r.inv
  rcases zbQ S e with ⟨xs,vs,n,h1,hc,hp,rl⟩ | h1
  ·have X:=Step.kill S B e hc (fun q=>nomatch q)
   exact hok (.lst xs) (σ.set i .dead) (zab h1) (.ref a) s.heap s.toks ι X (.lst hp (zeH S e hc) (rl.evo S.len X.evo (NoSeq.nil _)))
  ·exact (hns (zae h1)).elim
 | _=>exact (hns rfl).elim
section
variable {α β:Type} {R:Heap→Ad→zaa→α→β→Prop}
theorem Sim.cel{t:Sem β}{f:Cel→M α}{i:Nat}{a:Addr}(S:StoreOk prog w hB s.heap ι σ)(hi:ι.vis[i]?=some a)
  (k:∀ c,σ[i]?=some c→CelOk prog w s.heap ι σ a c→Sim prog w hB A R t (f c) s ι σ):Sim prog w hB A R t ((cget i).bind f) s ι σ:=by
 cases hc:σ[i]? with
 | none=>exact Sim.bstuck (by unfold cget;rw [hc])
 | some c=>exact (k c hc (S.ok _ _ _ hi hc)).res (zab (by unfold cget;rw [hc]))
theorem Sim.lget{t:Sem β}{f:List PV→M α}{i:Nat}{a:Addr}(S:StoreOk prog w hB s.heap ι σ)(hi:ι.vis[i]?=some a)
  (k:∀ xs vs n,σ[i]?=some (.list xs)→s.heap.get? a=some { cls:=.type "list",data:=.seq vs n }→RepL s.heap ι σ xs vs.toList→Sim prog w hB A R t (f xs) s ι σ):Sim prog w hB A R t ((lget i).bind f) s ι σ:=by
 rcases zbQ S hi with ⟨xs,vs,n,h1,hc,hp,rl⟩ | h1
 ·exact (k xs vs n hc hp rl).res (zab h1)
 ·exact Sim.bstuck h1
theorem zdz(S:StoreOk prog w hB s.heap ι σ){v:PV}{x:Value}(r:Rep s.heap ι σ v x) :
  (∃ xs vs n a,litems v σ=.ok xs σ∧x=.ref a∧s.heap.get? a=some { cls:=.type "list",data:=.seq vs n }∧RepL s.heap ι σ xs vs.toList)∨litems v σ=.stuck:=by
 cases v with
 | lst xs=>obtain ⟨a,vs,n,e,e',_,rl⟩:=r.inv;exact .inl ⟨_,_,_,_,rfl,e,e',rl⟩
 | ref i=>
  obtain ⟨a,e,hi⟩:=r.inv
  rcases zbQ S hi with ⟨xs,vs,n,h1,hc,hp,rl⟩ | h1
  ·exact .inl ⟨_,_,_,_,h1,e,hp,rl⟩
  ·exact .inr h1
 | _=>exact .inr rfl
theorem Sim.litems{t:Value→Sem β}{f:List PV→M α}{v:PV}{x:Value}(S:StoreOk prog w hB s.heap ι σ)(r:Rep s.heap ι σ v x)
  (k:∀ xs a vs n,s.heap.get? a=some { cls:=.type "list",data:=.seq vs n }→RepL s.heap ι σ xs vs.toList→Sim prog w hB A R (t (.ref a)) (f xs) s ι σ):Sim prog w hB A R (t x) ((litems v).bind f) s ι σ:=by
 rcases zdz S r with ⟨xs,vs,n,a,h1,e,hp,rl⟩ | h1
 ·rw [e];exact (k xs a vs n hp rl).res (zab h1)
 ·exact Sim.bstuck h1
noncomputable def zhN(h:Heap)(ι:Ad)(σ:zaa)(a:Addr)(vs:Array Value)(n:Nat):Prop:=h.get? a=some { cls:=.type "list",data:=.seq vs n }∨h.get? a=some { cls:=.type "tuple",data:=.seq vs n }∧¬ Live ι σ a
theorem zhy(S:StoreOk prog w hB s.heap ι σ){v:PV}{x:Value}(r:Rep s.heap ι σ v x) :
  (∃ xs vs n a,items v σ=.ok xs σ∧x=.ref a∧zhN s.heap ι σ a vs n∧RepL s.heap ι σ xs vs.toList)∨items v σ=.stuck:=by
 have o:items v=litems v→(∃ xs vs n a,items v σ=.ok xs σ∧x=.ref a∧zhN s.heap ι σ a vs n∧RepL s.heap ι σ xs vs.toList)∨items v σ=.stuck:=by
  intro q
  rw [q]
  rcases zdz S r with ⟨xs,vs,n,a,h1,e,hp,rl⟩ | h1
  ·exact .inl ⟨xs,vs,n,a,h1,e,.inl hp,rl⟩
  ·exact .inr h1
 cases v with
 | tup xs=>obtain ⟨a,vs,n,e,e',nl,rl⟩:=r.inv;exact .inl ⟨_,_,_,_,rfl,e,.inr ⟨e',nl⟩,rl⟩
 | _=>exact o rfl
theorem Sim.items{t:Value→Sem β}{f:List PV→M α}{v:PV}{x:Value}(S:StoreOk prog w hB s.heap ι σ)(r:Rep s.heap ι σ v x)
  (k:∀ xs a vs n,zhN s.heap ι σ a vs n→RepL s.heap ι σ xs vs.toList→Sim prog w hB A R (t (.ref a)) (f xs) s ι σ):Sim prog w hB A R (t x) ((items v).bind f) s ι σ:=by
 rcases zhy S r with ⟨xs,vs,n,a,h1,e,hp,rl⟩ | h1
 ·rw [e];exact (k xs a vs n hp rl).res (zab h1)
 ·exact Sim.bstuck h1
end
end
theorem zdL:fillsNumberSlot (.type "tuple") "mul"=pure false:=
 PySem.fillsNumberSlot_seq (id:="tuple.__mul__") (r:=some (.builtin "tuple.__rmul__")) F.slot_tuple_mul.lookup (by decide +kernel) F.slot_tuple_rmul.lookup (by decide +kernel)
theorem zgq:seqRepeat? (.type "tuple")=pure (some (.builtin "tuple.__mul__")):=by
 unfold seqRepeat?
 rw [PySem.seqSlot_of (T:="tuple") (name:="__mul__") (id:="tuple.__mul__") F.slot_tuple_mul.lookup (by decide +kernel),PySem.seqSlot_of (T:="tuple") (name:="__rmul__") (id:="tuple.__rmul__") F.slot_tuple_rmul.lookup (by decide +kernel)]
 rfl
theorem zeK(a:Int)(t:Tok)(l:Addr)(items:Array Value)(n:Nat) :
  Meets (Builtin.«int.__rmul__» ⟨[.int a t,.ref l],[]⟩) (fun _ R s=>s.heap.get? l=some { cls:=.type "tuple",dict:=none,data:=.seq items n,slots:=#[] }∧R (.ok (.ret Value.notImplemented)) s):=
 .of_wp fun prog w A R s h=>by obtain ⟨hp,g,d,tk,os⟩:=s;obtain ⟨hl,h⟩:=h;wp_walk;exact ⟨_,rfl,h⟩
theorem zg9(t:Tok)(l:Addr)(items:Array Value)(n:Nat) :
  Meets (Builtin.«tuple.__mul__» ⟨[.ref l,.int 1 t],[]⟩) (fun _ R s=>s.heap.get? l=some { cls:=.type "tuple",dict:=none,data:=.seq items n,slots:=#[] }∧R (.ok (.ret (.ref l))) s):=
 .of_wp fun prog w A R s h=>by obtain ⟨hp,g,d,tk,os⟩:=s;obtain ⟨hl,h⟩:=h;wp_walk;exact ⟨_,rfl,h⟩
theorem zg8(t:Tok)(l:Addr)(items:Array Value)(n:Nat)(h1:items.isEmpty=false)(h2:items.size≤1000) :
  Meets (Builtin.«tuple.__mul__» ⟨[.ref l,.int 2 t],[]⟩) (fun _ R s=>s.heap.get? l=some { cls:=.type "tuple",dict:=none,data:=.seq items n,slots:=#[] }∧R (.ok (.ret (.ref s.heap.objs.size))) { s with heap:=s.heap.push { cls:=.type "tuple",data:=.seq (items++items) } }):=
 .of_wp fun prog w A R s h=>by
  obtain ⟨hp,g,d,tk,os⟩:=s;obtain ⟨hl,h⟩:=h
  wp_walk
  rw [if_neg (by lia)]
  show wpAny _ _ (if Builtin.Tuple.tupleTooMany (items.size*2)=true then _ else _) _ _ _
  rw [if_neg (by unfold Builtin.Tuple.tupleTooMany;simp [sizeLine];lia)]
  have e:List.foldl (fun x1 x2=>x1++x2) #[] (List.replicate (Int.toNat 2) items)=items++items:=by
   show (#[]++items)++items=_
   rw [Array.empty_append]
  rw [e]
  refine wpAny_bind (m:=Builtin.Tuple.tupleExact _) (wpAny_newObj_type (wpAny_pure ⟨_,rfl,h⟩) ?_)
  show (items++items).size≤sizeLine
  rw [Array.size_append];simp [sizeLine];lia
section
variable {prog:Program} {w:World} {hB:Heap} {A:Around} {s:Shared} {ι:Ad} {σ:zaa}
theorem small_iff{i:Int}:zbN i=true↔-(2 ^ 62)≤i∧i≤2 ^ 62:=by simp [zbN]
theorem zcW{i:Int}(h:zbN i=true):Builtin.Int.intBits i≤64:=by
 have:=small_iff.mp h
 unfold Builtin.Int.intBits
 split
 ·lia
 ·rename_i h0
  have hn:i.natAbs≠0:=by simpa using h0
  have:i.natAbs<2 ^ 63:=by lia
  have:=(Nat.log2_lt hn).mpr this
  lia
theorem zby{α:Type}(xs:Array α):∀(n:Nat)(acc:Array α),((List.replicate n xs).foldl (·++·) acc).toList=acc.toList++(List.replicate n xs.toList).flatten
 | 0,acc=>by simp
 | n+1,acc=>by rw [List.replicate_succ,List.foldl_cons,zby xs n,List.replicate_succ,List.flatten_cons,Array.toList_append,List.append_assoc]
theorem zhX{h:Heap}{xs:List PV}{vs:List Value}(r:RepL h ι σ xs vs):∀ n:Nat,RepL h ι σ (zcx xs n) (List.replicate n vs).flatten
 | 0=>.nil
 | n+1=>by unfold zcx;rw [List.replicate_succ,List.flatten_cons,List.replicate_succ,List.flatten_cons];exact r.append (zhX r n)
theorem zfx{x:Str}(h:(x.length==0)=true):x=⟨#[]⟩:=by
 obtain ⟨xs⟩:=x
 exact congrArg Str.mk (Array.eq_empty_of_size_eq_zero (eq_of_beq h))
theorem zhd(x y:Str):(x++y).length=x.length+y.length:=Array.size_append
theorem ziP{x y:Str}{t u:Tok}(S:StoreOk prog w hB s.heap ι σ)(B:hB.StaysIn s.heap)(hb:x.length+y.length≤2 ^ 20):SimV prog w hB A (binaryOp .Add (.str x t) (.str y u)) (M.ret (.str (x++y))) s ι σ:=by
 refine Sim.val S B rfl fun Q E h=>P.add_str ?_
 have e1:x=⟨#[]⟩→x++y=y:=fun q=>by rw [q];exact congrArg Str.mk Array.empty_append
 have e2:y=⟨#[]⟩→x++y=x:=fun q=>by rw [q];exact congrArg Str.mk Array.append_empty
 split
 ·rename_i h0;exact h _ _ (by rw [e1 (zfx h0)];exact .str _ _)
 ·split
  ·rename_i h0;exact h _ _ (by rw [e2 (zfx h0)];exact .str _ _)
  ·exact ⟨by rw [zhd];exact Nat.le_trans hb (by decide),h _ _ (.str _ _)⟩
theorem zcv(vs ws:Array Value):(vs.toList++ws.toList).toArray=vs++ws:=Array.toList_inj.mp Array.toList_append.symm
theorem zeW{xs:List PV}{vs:Array Value}(r:RepL s.heap ι σ xs vs.toList)(h:vs.isEmpty=true):xs=[]:=List.length_eq_zero_iff.mp (r.length.trans (Array.isEmpty_iff_size_eq_zero.mp h))
theorem ziO{xs ys:List PV}{l l':Addr}{vs ws:Array Value}{n n':Nat}(S:StoreOk prog w hB s.heap ι σ)(B:hB.StaysIn s.heap) (e:s.heap.get? l=some { cls:=.type "tuple",data:=.seq vs n }) (nl:¬ Live ι σ l) (rl:RepL s.heap ι σ xs vs.toList)
  (e':s.heap.get? l'=some { cls:=.type "tuple",data:=.seq ws n' }) (nl':¬ Live ι σ l') (rl':RepL s.heap ι σ ys ws.toList) (hb:xs.length+ys.length≤2 ^ 20):SimV prog w hB A (binaryOp .Add (.ref l) (.ref l')) (M.ret (.tup (xs++ys))) s ι σ:=by
 have hsz:vs.size+ws.size≤sizeLine:=Nat.le_trans (Nat.le_of_eq (congr (congrArg _ rl.length.symm) rl'.length.symm)) (Nat.le_trans hb (by decide))
 by_cases hv:vs.isEmpty=true
 ·rw [zeW rl hv]
  exact Sim.val S B rfl fun Q E h=>concat_meets ⟨_,e,rfl⟩ ⟨_,e',rfl⟩ noFill_tuple_add seq_tuple_add PySem.F.slot_tuple_add PySem.F.entry_tuple_add (PySem.F.args_tuple_add_2 _ _) (PyProof.Rows.tuple_addW0 _ _ vs ws n n' none none #[] #[] hv) ⟨e,e',h _ _ (.tup e' nl' rl')⟩
 ·by_cases hw:ws.isEmpty=true
  ·rw [zeW rl' hw,List.append_nil]
   exact Sim.val S B rfl fun Q E h=>concat_meets ⟨_,e,rfl⟩ ⟨_,e',rfl⟩ noFill_tuple_add seq_tuple_add PySem.F.slot_tuple_add PySem.F.entry_tuple_add (PySem.F.args_tuple_add_2 _ _) (PyProof.Rows.tuple_addW1 _ _ vs ws n n' none none #[] #[] hv hw) ⟨e,e',h _ _ (.tup e nl rl)⟩
  ·intro Q E _ hok _
   refine concat_meets ⟨_,e,rfl⟩ ⟨_,e',rfl⟩ noFill_tuple_add seq_tuple_add PySem.F.slot_tuple_add PySem.F.entry_tuple_add (PySem.F.args_tuple_add_2 _ _) (PyProof.Rows.tuple_addW2 _ _ vs ws n n' none none #[] #[] hv hw hsz) ⟨e,e',?_⟩
   have r:=Rep.newTup S (rl.append rl')
   rw [zcv] at r
   exact hok _ _ rfl _ _ s.toks ι (Step.push S B _) r
theorem ziQ{cx:Cx}{p:Pos}{xs ys:List PV}{l l':Addr}{vs ws:Array Value}{n n':Nat}(S:StoreOk prog w hB s.heap ι σ)(B:hB.StaysIn s.heap) (e:s.heap.get? l=some { cls:=.type "list",data:=.seq vs n }) (rl:RepL s.heap ι σ xs vs.toList)
  (e':s.heap.get? l'=some { cls:=.type "list",data:=.seq ws n' }) (rl':RepL s.heap ι σ ys ws.toList) (hb:xs.length+ys.length≤2 ^ 20):SimV prog w hB A (binaryOp .Add (.ref l) (.ref l')) (zaD cx p (xs++ys)) s ι σ:=by
 have hsz:vs.size+ws.size≤sizeLine:=Nat.le_trans (Nat.le_of_eq (congr (congrArg _ rl.length.symm) rl'.length.symm)) (Nat.le_trans hb (by decide))
 refine zbx S B (rl.append rl') fun Q E k=>P.add_list e e' ?_ hsz
 rw [← zcv]
 exact k s.toks
theorem zeT(x:Str)(n:Nat):(zcK x n).length=n*x.length:=by
 unfold zcK Str.length;simp [List.length_flatten,List.map_replicate]
theorem ziv(x:Str):zcK x 1=x:=congrArg Str.mk (by rw [List.replicate_one,List.flatten_singleton,Array.toArray_toList])
theorem ziw(n:Nat):zcK ⟨#[]⟩ n=⟨#[]⟩:=zfx (by rw [zeT];exact beq_of_eq (Nat.mul_zero n))
theorem zhe(x:Str)(n:Nat):zcK x n=⟨(List.replicate n x.cps).foldl (·++·) #[]⟩:=congrArg Str.mk (Array.toList_inj.mp ((zby x.cps n #[]).symm))
theorem znZ{n:Int}(h0:0<n)(h1:n≤1000):1000≤((2:Int) ^ 63-1) / n:=Int.le_ediv_of_mul_le h0 (by lia)
theorem ziD{x:Str}{n:Int}{t u:Tok}(S:StoreOk prog w hB s.heap ι σ)(B:hB.StaysIn s.heap)(h0:0≤n)(h1:n≤1000)(h2:x.length≤1000):SimV prog w hB A (binaryOp .Mult (.str x t) (.int n u)) (M.ret (.str (zcK x n.toNat))) s ι σ:=by
 have hmul:x.length*n.toNat≤1000*1000:=Nat.mul_le_mul h2 (by lia)
 refine Sim.val S B rfl fun Q E h=>P.mul_str (by rw [decide_eq_false (by lia),decide_eq_false (by lia)];rfl) (fun h3 h4 h5=>?_) (fun _ _=>decide_eq_false (Nat.not_lt.mpr (Nat.le_trans hmul (by decide)))) ?_
 ·have:=znZ (n:=n) (by lia) h1
  lia
 ·split
  ·rename_i h3
   exact ⟨by decide,h _ _ (by rw [show n.toNat=0 by lia];exact .str _ _)⟩
  ·split
   ·rename_i h3 h4
    have:zcK x n.toNat=x:=by
     rcases Bool.or_eq_true_iff.mp h4 with q | q
     ·rw [show n.toNat=1 by have:=eq_of_beq q;lia,ziv]
     ·rw [zfx q,ziw]
    exact h _ _ (by rw [this];exact .str _ _)
   ·rw [← zhe]
    exact ⟨by rw [zeT,Nat.mul_comm];exact Nat.le_trans hmul (by decide),h _ _ (.str _ _)⟩
theorem ziE{cx:Cx}{p:Pos}{m:Int}{u:Tok}{xs:List PV}{l:Addr}{vs:Array Value}{n:Nat}(S:StoreOk prog w hB s.heap ι σ)(B:hB.StaysIn s.heap) (e:s.heap.get? l=some { cls:=.type "list",data:=.seq vs n }) (rl:RepL s.heap ι σ xs vs.toList)
  (h0:0≤m) (h1:m≤1000) (h2:xs.length≤1000):SimV prog w hB A (binaryOp .Mult (.ref l) (.int m u)) (zaD cx p (zcx xs m.toNat)) s ι σ:=by
 have hx:xs.length=vs.size:=rl.length
 have hmul:vs.size*m.toNat≤1000*1000:=Nat.mul_le_mul (by lia) (by lia)
 have q:(List.replicate m.toNat vs.toList).flatten.toArray=List.foldl (fun x1 x2=>x1++x2) #[] (List.replicate (if vs.isEmpty=true then 0 else m.toNat) vs):=by
  apply Array.toList_inj.mp
  rw [zby]
  by_cases hv:vs.isEmpty=true
  ·rw [if_pos hv]
   have:vs=#[]:=Array.isEmpty_iff.mp hv
   subst this;simp
  ·rw [if_neg hv];simp
 refine zbx S B (zhX rl m.toNat) fun Q E k=>?_
 refine wpAny_binaryOp_repeat_ref (T:="list") (U:="int") (by decide) ⟨_,e,rfl⟩ (fun s'=>typeIs_int s' m u) noFill_list_mul F.fills_int_mul F.slot_int_rmul repeat_list F.slot_int_index.lookup
  (call_meets F.slot_int_rmul (typeIs_int s m u) F.entry_int_rmul (F.args_int_rmul_2 _ _) (int___rmul___int_list m u _ vs n)
   ⟨e,rfl,⟨_,e,rfl⟩,call_meets F.slot_list_mul ⟨_,e,rfl⟩ F.entry_list_mul (F.args_list_mul_2 _ _)
    (AutoListH.list___mul___list_int_3 _ vs n m u (by simp [Builtin.List.listFitsIndex];lia) (by lia) (by simp [Builtin.List.listTooLong,sizeLine];lia))
    ⟨e,?_⟩⟩)
 rw [← q]
 exact k s.toks
theorem ziC{m:Int}{u:Tok}{xs:List PV}{l:Addr}{vs:Array Value}{n:Nat}(S:StoreOk prog w hB s.heap ι σ)(B:hB.StaysIn s.heap)(ra:Rep s.heap ι σ (.tup xs) (.ref l)) (e:s.heap.get? l=some { cls:=.type "tuple",data:=.seq vs n }) (rl:RepL s.heap ι σ xs vs.toList)
  (h2:xs.length≤1000):SimV prog w hB A (binaryOp .Mult (.ref l) (.int m u)) (M.cond (decide (m=1)) (M.ret (.tup xs)) (M.cond (decide (m=2)&&!xs.isEmpty) (M.ret (.tup (xs++xs))) M.fail)) s ι σ:=by
 have hx:xs.length=vs.size:=rl.length
 have road:∀{Q:Value→Shared→Prop}{E:Value→Shared→Prop},wpAny (model prog w) A (call (.builtin "tuple.__mul__") [.ref l,.int m u]) Q E s→wpAny (model prog w) A (binaryOp .Mult (.ref l) (.int m u)) Q E s:=fun h=>
  wpAny_binaryOp_repeat_ref (T:="tuple") (U:="int") (by decide) ⟨_,e,rfl⟩ (fun s'=>typeIs_int s' m u) zdL F.fills_int_mul F.slot_int_rmul zgq F.slot_int_index.lookup
   (call_meets F.slot_int_rmul (typeIs_int s m u) F.entry_int_rmul (F.args_int_rmul_2 _ _) (zeK m u _ vs n) ⟨e,rfl,⟨_,e,rfl⟩,h⟩)
 refine Sim.cond (fun hm=>?_) fun _=>Sim.cond (fun hm=>?_) fun _=>Sim.fail
 ·have hm:m=1:=of_decide_eq_true hm
  subst hm
  intro Q E _ hok _
  exact road (call_meets F.slot_tuple_mul ⟨_,e,rfl⟩ F.entry_tuple_mul (F.args_tuple_mul_2 _ _) (zg9 u _ vs n) ⟨e,hok _ _ rfl _ _ s.toks ι (Step.refl S B) ra⟩)
 ·rw [Bool.and_eq_true] at hm
  have hm1:m=2:=of_decide_eq_true hm.1
  subst hm1
  have he:vs.isEmpty=false:=by
   cases q:vs.isEmpty with
   | false=>rfl
   | true=>
    have:vs=#[]:=Array.isEmpty_iff.mp q
    subst this
    have:xs=[]:=List.length_eq_zero_iff.mp hx
    subst this
    exact nomatch hm.2
  intro Q E _ hok _
  refine road (call_meets F.slot_tuple_mul ⟨_,e,rfl⟩ F.entry_tuple_mul (F.args_tuple_mul_2 _ _) (zg8 u _ vs n he (by lia)) ⟨e,?_⟩)
  have q:(vs++vs)=(vs.toList++vs.toList).toArray:=by simp
  rw [q]
  exact hok _ _ rfl _ _ s.toks ι (Step.push S B _) (Rep.newTup S (rl.append rl))
theorem rep3{n:Int}{k:Nat} (h:(decide (0≤n)&&decide (n≤1000)&&decide (k≤1000))=true):0≤n∧n≤1000∧k≤1000:=by
 rw [Bool.and_eq_true,Bool.and_eq_true] at h
 exact ⟨of_decide_eq_true h.1.1,of_decide_eq_true h.1.2,of_decide_eq_true h.2⟩
theorem znu{cx:Cx}{p:Pos}{a b:PV}{x y:Value}(S:StoreOk prog w hB s.heap ι σ)(B:hB.StaysIn s.heap)(ra:Rep s.heap ι σ a x)(rb:Rep s.heap ι σ b y):SimV prog w hB A (binaryOp .Add x y) (addV cx p a b) s ι σ:=by
 cases a with
 | int i=>obtain ⟨t,rfl⟩:=ra.inv;exact Sim.onInt rb fun j u=>Sim.val S B rfl fun Q E h=>P.add_int (h _ _ (.int _ _))
 | str x=>obtain ⟨t,rfl⟩:=ra.inv;exact Sim.onStr rb fun y u=>Sim.cond (fun hb=>ziP S B (of_decide_eq_true hb)) fun _=>Sim.fail
 | tup xs=>obtain ⟨l,vs,n,rfl,e,nl,rl⟩:=ra.inv;exact Sim.onTup rb fun ys l' ws n' e' nl' rl'=>Sim.cond (fun hb=>ziO S B e nl rl e' nl' rl' (of_decide_eq_true hb)) fun _=>Sim.fail
 | lst xs=>obtain ⟨l,vs,n,rfl,e,nl,rl⟩:=ra.inv;exact Sim.onLst rb fun ys l' ws n' e' nl' rl'=>Sim.cond (fun hb=>ziQ S B e rl e' rl' (of_decide_eq_true hb)) fun _=>Sim.fail
 | _=>exact Sim.fail
theorem znn{cx:Cx}{p:Pos}{a b:PV}{x y:Value}(S:StoreOk prog w hB s.heap ι σ)(B:hB.StaysIn s.heap)(ra:Rep s.heap ι σ a x)(rb:Rep s.heap ι σ b y):SimV prog w hB A (binaryOp .Mult x y) (mulV cx p a b) s ι σ:=by
 refine Sim.onInt rb fun n u=>?_
 cases a with
 | int i=>obtain ⟨t,rfl⟩:=ra.inv;exact Sim.cond (fun hb=>Sim.val S B rfl fun Q E h=>P.mul_int (h _ _ (.int _ _)) ((Bool.or_eq_true_iff.mp hb).elim (fun q=>IntMulOk.of_left (zcW q)) fun q=>IntMulOk.of_right (zcW q))) fun _=>Sim.fail
 | str x=>obtain ⟨t,rfl⟩:=ra.inv;exact Sim.cond (fun hb=>ziD S B (rep3 hb).1 (rep3 hb).2.1 (rep3 hb).2.2) fun _=>Sim.fail
 | tup xs=>obtain ⟨l,vs,m,rfl,e,nl,rl⟩:=id ra.inv;exact Sim.cond (fun hb=>ziC S B ra e rl (of_decide_eq_true hb)) fun _=>Sim.fail
 | lst xs=>obtain ⟨l,vs,m,rfl,e,nl,rl⟩:=ra.inv;exact Sim.cond (fun hb=>ziE S B e rl (rep3 hb).1 (rep3 hb).2.1 (rep3 hb).2.2) fun _=>Sim.fail
 | _=>exact Sim.fail
theorem zj5{cx:Cx}{p:Pos}{op:Operator}{a b:PV}{x y:Value}(S:StoreOk prog w hB s.heap ι σ)(B:hB.StaysIn s.heap)(ra:Rep s.heap ι σ a x)(rb:Rep s.heap ι σ b y) :
  SimV prog w hB A (binaryOp op x y) (zmu cx p op a b) s ι σ:=by
 cases op with
 | Add=>exact znu S B ra rb
 | Mult=>exact znn S B ra rb
 | Sub=>exact Sim.onInt (t:=fun x=>binaryOp .Sub x y) ra fun i t=>Sim.onInt rb fun j u=>Sim.val S B rfl fun Q E h=>P.sub_int (h _ _ (.int _ _))
 | FloorDiv=>
  refine Sim.onInt (t:=fun x=>binaryOp .FloorDiv x y) ra fun i t=>Sim.onInt rb fun j u=>Sim.cond (fun hb=>?_) (fun _=>Sim.fail)
  have h1:=of_decide_eq_true (Bool.and_eq_true_iff.mp hb).1
  have h2:=of_decide_eq_true (Bool.and_eq_true_iff.mp hb).2
  refine Sim.val S B rfl fun Q E h=>AutoIntOps.floordiv_1 (fun q=>Int.ne_of_gt h1 (eq_of_beq q)) ?_ (h _ _ (.int _ _))
  rw [PyProof.noPylong_small (by lia)];exact Bool.false_ne_true
 | Mod=>
  refine Sim.onInt (t:=fun x=>binaryOp .Mod x y) ra fun i t=>Sim.onInt rb fun j u=>Sim.cond (fun hb=>?_) (fun _=>Sim.fail)
  exact Sim.val S B rfl fun Q E h=>AutoIntOps.mod_1 (fun q=>Int.ne_of_gt (of_decide_eq_true hb) (eq_of_beq q)) (h _ _ (.int _ _))
 | _=>exact Sim.fail
end
end Mine
namespace Mine
open PySem PySem.SeqAt
theorem zaL{α β:Type}{f:α→Option β}{x:α}{xs:List α}{zs:List β}(h:zan f (x::xs)=some zs):∃ y ys,f x=some y∧zan f xs=some ys∧zs=y::ys:=by
 simp only [zan] at h
 cases hf:f x with
 | none=>rw [hf] at h;cases h
 | some y=>
  rw [hf] at h
  cases hr:zan f xs with
  | none=>rw [hr] at h;cases h
  | some ys=>rw [hr] at h;cases h;exact ⟨y,ys,rfl,rfl,rfl⟩
theorem zax{α β:Type}{f:α→Option β}:∀{xs:List α}{zs:List β},zan f xs=some zs→zs.length=xs.length
 | [],_,h=>by cases h;rfl
 | _::xs,_,h=>by obtain ⟨y,ys,_,h2,rfl⟩:=zaL h;simp [zax h2]
noncomputable def zgt(xs ys:List PV)(j:Nat):Bool:=match xs[j]?,ys[j]? with
 | some a,some b=>eqv a b
 | _,_=>true
theorem zes:∀ xs ys:List PV,((List.range (min xs.length ys.length)).all (zgt xs ys)&&xs.length==ys.length)=eqvs xs ys
 | [],[]=>rfl
 | [],_::_=>Bool.and_false _
 | _::_,[]=>Bool.and_false _
 | x::xs,y::ys=>by
  have ih:=zes xs ys
  have e1:min (x::xs).length (y::ys).length=min xs.length ys.length+1:=by simp only [List.length_cons];lia
  have e2:((x::xs).length==(y::ys).length)=(xs.length==ys.length):=by simp
  have e3:(List.range (min xs.length ys.length+1)).all (zgt (x::xs) (y::ys))=(eqv x y&&(List.range (min xs.length ys.length)).all (zgt xs ys)):=by
   rw [List.range_succ_eq_map,List.all_cons,List.all_map]
   congr 1
  rw [e1,e2,e3,Bool.and_assoc,ih];rfl
theorem zb7{xs ys:List PV}(h:xs.length=ys.length):(List.range xs.length).all (zgt xs ys)=eqvs xs ys:=by
 have:=zes xs ys
 rw [← h,Nat.min_self] at this
 simpa using this
theorem zbV{xs ys:List PV}(h:xs.length≠ys.length):eqvs xs ys=false:=by
 rw [← zes xs ys];simp [h]
section
variable {prog:Program} {w:World} {hB:Heap} {h:Heap} {ι:Ad} {σ:zaa}
inductive View (h:Heap) (ι:Ad) (σ:zaa) (n:Nat):PV→Value→Prop
 | none:View h ι σ n .none .none
 | bool (b:Bool):View h ι σ n (.bool b) (.bool b)
 | int (i:Int) (t:Tok):View h ι σ n (.int i) (.int i t)
 | str (x:Str) (t:Tok):View h ι σ n (.str x) (.str x t)
 | lst {l:Addr} {vs:Array Value} {k:Nat} {xs zs:List PV}:h.get? l=some { cls:=.type "list",data:=.seq vs k }→RepL h ι σ xs vs.toList→zan (whole σ n) xs=some zs→View h ι σ n (.lst zs) (.ref l)
 | tup {l:Addr} {vs:Array Value} {k:Nat} {xs zs:List PV}:h.get? l=some { cls:=.type "tuple",data:=.seq vs k }→RepL h ι σ xs vs.toList→zan (whole σ n) xs=some zs→View h ι σ n (.tup zs) (.ref l)
theorem view(S:StoreOk prog w hB h ι σ){n:Nat}{a x:PV}{v:Value}(r:Rep h ι σ a v)(e:whole σ (n+1) a=some x):View h ι σ n x v:=by
 cases r with
 | none=>cases e;exact .none
 | bool b=>cases e;exact .bool b
 | int i t=>cases e;exact .int i t
 | str y t=>cases e;exact .str y t
 | tup e' _ rl=>
  simp only [whole] at e
  obtain ⟨zs,h1,rfl⟩:=Option.map_eq_some_iff.mp e
  exact .tup e' rl h1
 | lst e' _ rl=>
  simp only [whole] at e
  obtain ⟨zs,h1,rfl⟩:=Option.map_eq_some_iff.mp e
  exact .lst e' rl h1
 | ref hi=>
  simp only [whole] at e
  split at e
  ·rename_i xs hc
   obtain ⟨zs,h1,rfl⟩:=Option.map_eq_some_iff.mp e
   obtain ⟨vs,⟨k,hp⟩,rl⟩:=S.ok _ _ _ hi hc
   exact .lst hp rl h1
  ·cases e
 | exc=>cases e
theorem zlO{n m:Nat} (ih:∀{x y:PV}{v:Value},View h ι σ n x v→View h ι σ m y v→x=y) (S:StoreOk prog w hB h ι σ) {xs:List PV} {vs:List Value} (r:RepL h ι σ xs vs) :
  ∀{ys zs us:List PV},RepL h ι σ ys vs→zan (whole σ (n+1)) xs=some zs→zan (whole σ (m+1)) ys=some us→zs=us:=by
 induction vs generalizing xs with
 | nil=>intro ys zs us r' e e';cases r;cases r';cases e;cases e';rfl
 | cons v vs ihv=>
  intro ys zs us r' e e'
  cases r with
  | cons r rs=>
   cases r' with
   | cons r' rs'=>
    obtain ⟨y,ys,h1,h2,rfl⟩:=zaL e
    obtain ⟨u,us,k1,k2,rfl⟩:=zaL e'
    rw [ih (view S r h1) (view S r' k1),ihv rs rs' h2 k2]
theorem zeR{n:Nat}(hn:n=0){xs zs:List PV}(e:zan (whole σ n) xs=some zs):xs=[]∧zs=[]:=by
 subst hn
 cases xs with
 | nil=>cases e;exact ⟨rfl,rfl⟩
 | cons x xs=>obtain ⟨y,ys,h1,_⟩:=zaL e;cases h1
theorem zhU{n m:Nat} (ih:∀ k,n=k+1→∀ l,m=l+1→∀{x y:PV}{v:Value},View h ι σ k x v→View h ι σ l y v→x=y) (S:StoreOk prog w hB h ι σ) {xs ys zs us:List PV} {vs:List Value} (r:RepL h ι σ xs vs) (r':RepL h ι σ ys vs)
  (e:zan (whole σ n) xs=some zs) (e':zan (whole σ m) ys=some us):zs=us:=by
 have hlen:xs.length=ys.length:=r.length.trans r'.length.symm
 cases n with
 | zero=>
  obtain ⟨rfl,rfl⟩:=zeR rfl e
  have:ys=[]:=List.length_eq_zero_iff.mp hlen.symm
  subst this;cases e';rfl
 | succ n=>
  cases m with
  | zero=>
   obtain ⟨rfl,rfl⟩:=zeR rfl e'
   have:xs=[]:=List.length_eq_zero_iff.mp hlen
   subst this;cases e;rfl
  | succ m=>exact zlO (ih n rfl m rfl) S r r' e e'
theorem zf9{n m:Nat} (ih:∀ k,n=k+1→∀ l,m=l+1→∀{x y:PV}{v:Value},View h ι σ k x v→View h ι σ l y v→x=y) (S:StoreOk prog w hB h ι σ) {x y:PV} {v:Value} (a:View h ι σ n x v) (b:View h ι σ m y v):x=y:=by
 cases a with
 | lst e r o=>cases b with
  | lst e' r' o'=>rw [e] at e';cases e';rw [zhU ih S r r' o o']
  | tup e'=>rw [e] at e';simp at e'
 | tup e r o=>cases b with
  | lst e'=>rw [e] at e';simp at e'
  | tup e' r' o'=>rw [e] at e';cases e';rw [zhU ih S r r' o o']
 | _=>cases b;rfl
theorem zga(S:StoreOk prog w hB h ι σ)(n:Nat):∀(m:Nat){x y:PV}{v:Value},View h ι σ n x v→View h ι σ m y v→x=y:=by
 induction n with
 | zero=>exact fun m _ _ _ a b=>zf9 (fun k q=>absurd q (by lia)) S a b
 | succ n ih=>exact fun m _ _ _ a b=>zf9 (fun k q l _=>by cases q;exact ih l) S a b
theorem zdf{α β:Type}{f:α→Option β}{P:β→Prop}(hP:∀ x y,f x=some y→P y):∀{xs:List α}{zs:List β},zan f xs=some zs→∀ z∈zs,P z
 | [],_,e=>by cases e;intro z hz;cases hz
 | x::xs,_,e=>by
  obtain ⟨y,ys,h1,h2,rfl⟩:=zaL e
  intro z hz
  rcases List.mem_cons.mp hz with rfl | hz
  ·exact hP x z h1
  ·exact zdf hP h2 z hz
theorem zfP:∀{zs:List PV},(∀ z∈zs,eqv z z=true)→eqvs zs zs=true
 | [],_=>rfl
 | z::zs,h=>Bool.and_eq_true_iff.mpr ⟨h z (.head _),zfP fun y hy=>h y (.tail _ hy)⟩
theorem zhE(n:Nat):∀{x a:PV},whole σ n a=some x→eqv x x=true:=by
 induction n with
 | zero=>intro x a e;cases e
 | succ n ih=>
  have sq:∀{xs:List PV}{x:PV}{c:List PV→PV}(_:∀ zs,eqv (c zs) (c zs)=eqvs zs zs),(zan (whole σ n) xs).map c=some x→eqv x x=true:=by
   intro xs x c hc e
   obtain ⟨zs,h1,rfl⟩:=Option.map_eq_some_iff.mp e
   rw [hc];exact zfP (zdf (fun x y q=>ih q) h1)
  intro x a e
  cases a with
  | none=>cases e;rfl
  | bool b=>cases e;exact beq_self_eq_true b
  | int b=>cases e;exact beq_self_eq_true b
  | str b=>cases e;exact beq_self_eq_true b
  | tup xs=>exact sq (c:=.tup) (fun _=>rfl) e
  | lst xs=>exact sq (c:=.lst) (fun _=>rfl) e
  | ref i=>
   change (match σ[i]? with | some (Cel.list xs)=>(zan (whole σ n) xs).map PV.lst | _=>Option.none)=some x at e
   cases hc:σ[i]? with
   | none=>rw [hc] at e;cases e
   | some c=>rw [hc] at e;cases c with
    | list xs=>exact sq (c:=.lst) (fun _=>rfl) e
    | dict _=>cases e
    | dead=>cases e
  | exc _=>cases e
theorem zdD(n:Nat){xs zs:List PV}(e:zan (whole σ n) xs=some zs):eqvs zs zs=true:=zfP (zdf (fun _ _ q=>zhE n q) e)
theorem zjv{n:Nat}{x:PV}{v:Value}(V:View h ι σ n x v):eqv x x=true:=by
 cases V with
 | none=>rfl
 | bool b=>exact beq_self_eq_true b
 | int b t=>exact beq_self_eq_true b
 | str b t=>exact beq_self_eq_true b
 | lst e r o=>exact zdD n o
 | tup e r o=>exact zdD n o
end
section
variable {prog:Program} {w:World} {hB:Heap} {s:Shared} {ι:Ad} {σ:zaa}
theorem zec{n m:Nat}{P:PV→PV→Value→Value→Prop} (hp:∀{a b x y:PV}{u v:Value},Rep s.heap ι σ a u→Rep s.heap ι σ b v→whole σ n a=some x→whole σ m b=some y→P x y u v) :
  ∀{xs ys zs us:List PV}{vs ws:List Value},RepL s.heap ι σ xs vs→RepL s.heap ι σ ys ws→zan (whole σ n) xs=some zs→zan (whole σ m) ys=some us→
   ∀ j (h1:j<vs.length) (h2:j<ws.length),∃ x y,zs[j]?=some x∧us[j]?=some y∧P x y vs[j] ws[j]
 | _,_,_,_,_,_,.nil,_,_,_,j,h1,_=>absurd h1 (Nat.not_lt_zero _)
 | _,_,_,_,_,_,.cons _ _,.nil,_,_,j,_,h2=>absurd h2 (Nat.not_lt_zero _)
 | _,_,_,_,_,_,.cons r rs,.cons r' rs',e,e',j,h1,h2=>by
  obtain ⟨y,ys,k1,k2,rfl⟩:=zaL e
  obtain ⟨u,us,l1,l2,rfl⟩:=zaL e'
  cases j with
  | zero=>exact ⟨y,u,rfl,rfl,hp r r' k1 l1⟩
  | succ j=>exact zec hp rs rs' k2 l2 j (Nat.lt_of_succ_lt_succ h1) (Nat.lt_of_succ_lt_succ h2)
theorem zdR{zs us:List PV}{j:Nat}{x y:PV}(h1:zs[j]?=some x)(h2:us[j]?=some y):zgt zs us j=eqv x y:=by simp only [zgt,h1,h2]
variable {A:Around} {n m:Nat}
theorem zdE(S:StoreOk prog w hB s.heap ι σ){x y:PV}{l l':Addr}(e:l=l')(vx:View s.heap ι σ n x (.ref l))(vy:View s.heap ι σ m y (.ref l')):EqAt A s (.ref l) (.ref l') (eqv x y):=by
 subst e
 rw [zga S n m vx vy,zjv vy]
 exact EqAt.same _
theorem zgs{l l':Addr}{vs vs':Array Value}{k k':Nat}{xs zs xs' zs':List PV} (e:s.heap.get? l=some { cls:=.type "list",data:=.seq vs k }) (r:RepL s.heap ι σ xs vs.toList) (o:zan (whole σ n) xs=some zs)
  (e':s.heap.get? l'=some { cls:=.type "list",data:=.seq vs' k' }) (r':RepL s.heap ι σ xs' vs'.toList) (o':zan (whole σ m) xs'=some zs') (hu:A.units<cLine)
  (he:∀{a b x y:PV}{u v:Value},Rep s.heap ι σ a u→Rep s.heap ι σ b v→whole σ n a=some x→whole σ m b=some y→EqAt A.in1 s u v (eqv x y)):RcAt A s (.ref l) (.ref l') (eqv (.lst zs) (.lst zs')):=by
 have hl:s.heap.IsList l vs:=⟨_,e,rfl,_,rfl⟩
 have hl':s.heap.IsList l' vs':=⟨_,e',rfl,_,rfl⟩
 have n1:zs.length=vs.size:=(zax o).trans r.length
 have n2:zs'.length=vs'.size:=(zax o').trans r'.length
 show RcAt A s (.ref l) (.ref l') (eqvs zs zs')
 by_cases hsz:vs.size=vs'.size
 ·rw [← zb7 (by lia:zs.length=zs'.length),n1]
  refine RcAt.lists hl hl' hsz hu fun j j1 j2=>?_
  obtain ⟨x,y,h1,h2,h3⟩:=zec (s:=s) (P:=fun x y u v=>EqAt A.in1 s u v (eqv x y)) he r r' o o' j (by simpa using j1) (by simpa using j2)
  rw [zdR h1 h2];simpa using h3
 ·rw [zbV (by lia:zs.length≠zs'.length)]
  exact RcAt.lists_lengths hl hl' (by simpa using hsz) hu
theorem zeX{l l':Addr}{vs vs':Array Value}{k k':Nat}{xs zs xs' zs':List PV} (e:s.heap.get? l=some { cls:=.type "tuple",data:=.seq vs k }) (r:RepL s.heap ι σ xs vs.toList) (o:zan (whole σ n) xs=some zs)
  (e':s.heap.get? l'=some { cls:=.type "tuple",data:=.seq vs' k' }) (r':RepL s.heap ι σ xs' vs'.toList) (o':zan (whole σ m) xs'=some zs') (hu:A.units<cLine)
  (he:∀{a b x y:PV}{u v:Value},Rep s.heap ι σ a u→Rep s.heap ι σ b v→whole σ n a=some x→whole σ m b=some y→EqAt A.in1 s u v (eqv x y)):RcAt A s (.ref l) (.ref l') (eqv (.tup zs) (.tup zs')):=by
 have hl:s.heap.IsTuple l vs:=⟨_,e,rfl,_,rfl⟩
 have hl':s.heap.IsTuple l' vs':=⟨_,e',rfl,_,rfl⟩
 have n1:zs.length=vs.size:=(zax o).trans r.length
 have n2:zs'.length=vs'.size:=(zax o').trans r'.length
 show RcAt A s (.ref l) (.ref l') (eqvs zs zs')
 rw [← zes zs zs',n1,n2]
 refine RcAt.tuples hl hl' hu fun j j1 j2=>?_
 obtain ⟨x,y,h1,h2,h3⟩:=zec (s:=s) (P:=fun x y u v=>EqAt A.in1 s u v (eqv x y)) he r r' o o' j (by simpa using j1) (by simpa using j2)
 rw [zdR h1 h2];simpa using h3
theorem zk9(S:StoreOk prog w hB s.heap ι σ){x y:PV}{u v:Value}(vx:View s.heap ι σ n x u)(vy:View s.heap ι σ m y v)(hu:A.units<cLine)
  (he:∀{a b x y:PV}{u v:Value},Rep s.heap ι σ a u→Rep s.heap ι σ b v→whole σ n a=some x→whole σ m b=some y→EqAt A.in1 s u v (eqv x y)):EqAt A s u v (eqv x y):=by
  cases vx with
  | none=>cases vy with
   | none=>exact EqAt.same _
   | bool y=>exact EqAt.none_bool  y
   | int y u=>exact EqAt.none_int  y u
   | str y u=>exact EqAt.none_str  y u
   | lst e r o=>exact EqAt.none_list  ⟨_,e,rfl,_,rfl⟩ hu
   | tup e r o=>exact EqAt.none_tuple  ⟨_,e,rfl,_,rfl⟩ hu
  | bool x=>cases vy with
   | none=>exact EqAt.bool_none x
   | bool y=>exact EqAt.bool_bool x y
   | int y u=>exact EqAt.bool_int x y u
   | str y u=>exact EqAt.bool_str x y u
   | lst e r o=>exact EqAt.bool_list x ⟨_,e,rfl,_,rfl⟩ hu
   | tup e r o=>exact EqAt.bool_tuple x ⟨_,e,rfl,_,rfl⟩ hu
  | int x t=>cases vy with
   | none=>exact EqAt.int_none x t
   | bool y=>exact EqAt.int_bool x t y
   | int y u=>exact EqAt.int_int x t y u
   | str y u=>exact EqAt.int_str x t y u
   | lst e r o=>exact EqAt.int_list x t ⟨_,e,rfl,_,rfl⟩ hu
   | tup e r o=>exact EqAt.int_tuple x t ⟨_,e,rfl,_,rfl⟩ hu
  | str x t=>cases vy with
   | none=>exact EqAt.str_none x t
   | bool y=>exact EqAt.str_bool x t y
   | int y u=>exact EqAt.str_int x t y u
   | str y u=>exact EqAt.str_str x t y u
   | lst e r o=>exact EqAt.str_list x t ⟨_,e,rfl,_,rfl⟩ hu
   | tup e r o=>exact EqAt.str_tuple x t ⟨_,e,rfl,_,rfl⟩ hu
  | @lst l1 _ _ _ _ e r o=>cases vy with
   | none=>exact EqAt.list_none  ⟨_,e,rfl,_,rfl⟩ hu
   | bool y=>exact EqAt.list_bool y ⟨_,e,rfl,_,rfl⟩ hu
   | int y u=>exact EqAt.list_int y u ⟨_,e,rfl,_,rfl⟩ hu
   | str y u=>exact EqAt.list_str y u ⟨_,e,rfl,_,rfl⟩ hu
   | tup e' r' o'=>exact EqAt.list_tuple ⟨_,e,rfl,_,rfl⟩ ⟨_,e',rfl,_,rfl⟩ hu
   | @lst l2 _ _ _ _ e' r' o'=>
    by_cases hll:l1=l2
    ·exact zdE S hll (.lst e r o) (.lst e' r' o')
    ·exact EqAt.of_refs hll (zgs e r o e' r' o' hu he)
  | @tup l1 _ _ _ _ e r o=>cases vy with
   | none=>exact EqAt.tuple_none  ⟨_,e,rfl,_,rfl⟩ hu
   | bool y=>exact EqAt.tuple_bool y ⟨_,e,rfl,_,rfl⟩ hu
   | int y u=>exact EqAt.tuple_int y u ⟨_,e,rfl,_,rfl⟩ hu
   | str y u=>exact EqAt.tuple_str y u ⟨_,e,rfl,_,rfl⟩ hu
   | lst e' r' o'=>exact EqAt.tuple_list ⟨_,e,rfl,_,rfl⟩ ⟨_,e',rfl,_,rfl⟩ hu
   | @tup l2 _ _ _ _ e' r' o'=>
    by_cases hll:l1=l2
    ·exact zdE S hll (.tup e r o) (.tup e' r' o')
    ·exact EqAt.of_refs hll (zeX e r o e' r' o' hu he)
theorem zke{x y:PV}{u v:Value}(vx:View s.heap ι σ n x u)(vy:View s.heap ι σ m y v)(hu:A.units<cLine)
  (he:∀{a b x y:PV}{u v:Value},Rep s.heap ι σ a u→Rep s.heap ι σ b v→whole σ n a=some x→whole σ m b=some y→EqAt A.in1 s u v (eqv x y)):RcAt A s u v (eqv x y):=by
  cases vx with
  | none=>cases vy with
   | none=>exact RcAt.none_none
   | bool y=>exact RcAt.none_bool  y
   | int y u=>exact RcAt.none_int  y u
   | str y u=>exact RcAt.none_str  y u
   | lst e r o=>exact RcAt.none_list  ⟨_,e,rfl,_,rfl⟩ hu
   | tup e r o=>exact RcAt.none_tuple  ⟨_,e,rfl,_,rfl⟩ hu
  | bool x=>cases vy with
   | none=>exact RcAt.bool_none x
   | bool y=>exact RcAt.bool_bool x y
   | int y u=>exact RcAt.bool_int x y u
   | str y u=>exact RcAt.bool_str x y u
   | lst e r o=>exact RcAt.bool_list x ⟨_,e,rfl,_,rfl⟩ hu
   | tup e r o=>exact RcAt.bool_tuple x ⟨_,e,rfl,_,rfl⟩ hu
  | int x t=>cases vy with
   | none=>exact RcAt.int_none x t
   | bool y=>exact RcAt.int_bool x t y
   | int y u=>exact RcAt.int_int x t y u
   | str y u=>exact RcAt.int_str x t y u
   | lst e r o=>exact RcAt.int_list x t ⟨_,e,rfl,_,rfl⟩ hu
   | tup e r o=>exact RcAt.int_tuple x t ⟨_,e,rfl,_,rfl⟩ hu
  | str x t=>cases vy with
   | none=>exact RcAt.str_none x t
   | bool y=>exact RcAt.str_bool x t y
   | int y u=>exact RcAt.str_int x t y u
   | str y u=>exact RcAt.str_str x t y u
   | lst e r o=>exact RcAt.str_list x t ⟨_,e,rfl,_,rfl⟩ hu
   | tup e r o=>exact RcAt.str_tuple x t ⟨_,e,rfl,_,rfl⟩ hu
  | lst e r o=>cases vy with
   | none=>exact RcAt.list_none  ⟨_,e,rfl,_,rfl⟩ hu
   | bool y=>exact RcAt.list_bool y ⟨_,e,rfl,_,rfl⟩ hu
   | int y u=>exact RcAt.list_int y u ⟨_,e,rfl,_,rfl⟩ hu
   | str y u=>exact RcAt.list_str y u ⟨_,e,rfl,_,rfl⟩ hu
   | tup e' r' o'=>exact RcAt.list_tuple ⟨_,e,rfl,_,rfl⟩ ⟨_,e',rfl,_,rfl⟩ hu
   | lst e' r' o'=>exact zgs e r o e' r' o' hu he
  | tup e r o=>cases vy with
   | none=>exact RcAt.tuple_none  ⟨_,e,rfl,_,rfl⟩ hu
   | bool y=>exact RcAt.tuple_bool y ⟨_,e,rfl,_,rfl⟩ hu
   | int y u=>exact RcAt.tuple_int y u ⟨_,e,rfl,_,rfl⟩ hu
   | str y u=>exact RcAt.tuple_str y u ⟨_,e,rfl,_,rfl⟩ hu
   | lst e' r' o'=>exact RcAt.tuple_list ⟨_,e,rfl,_,rfl⟩ ⟨_,e',rfl,_,rfl⟩ hu
   | tup e' r' o'=>exact zeX e r o e' r' o' hu he
theorem zkd{l l':Addr}{vs vs':Array Value}{k k':Nat}{xs zs xs' zs':List PV} (e:s.heap.get? l=some { cls:=.type "list",data:=.seq vs k }) (r:RepL s.heap ι σ xs vs.toList) (o:zan (whole σ n) xs=some zs)
  (e':s.heap.get? l'=some { cls:=.type "list",data:=.seq vs' k' }) (r':RepL s.heap ι σ xs' vs'.toList) (o':zan (whole σ m) xs'=some zs') (hu:A.units<cLine)
  (he:∀{a b x y:PV}{u v:Value},Rep s.heap ι σ a u→Rep s.heap ι σ b v→whole σ n a=some x→whole σ m b=some y→EqAt A.in1 s u v (eqv x y)):RcNeAt A s (.ref l) (.ref l') (!eqv (.lst zs) (.lst zs')):=by
 have hl:s.heap.IsList l vs:=⟨_,e,rfl,_,rfl⟩
 have hl':s.heap.IsList l' vs':=⟨_,e',rfl,_,rfl⟩
 have n1:zs.length=vs.size:=(zax o).trans r.length
 have n2:zs'.length=vs'.size:=(zax o').trans r'.length
 show RcNeAt A s (.ref l) (.ref l') (!eqvs zs zs')
 have he':∀ j (j1:j<vs.size) (j2:j<vs'.size),EqAt A.in1 s vs[j] vs'[j] (zgt zs zs' j):=fun j j1 j2=>by
  obtain ⟨x,y,h1,h2,h3⟩:=zec (s:=s) (P:=fun x y u v=>EqAt A.in1 s u v (eqv x y)) he r r' o o' j (by simpa using j1) (by simpa using j2)
  rw [zdR h1 h2];simpa using h3
 by_cases hsz:vs.size=vs'.size
 ·rw [← zb7 (by lia:zs.length=zs'.length),n1]
  exact RcNeAt.lists hl hl' hsz hu he'
 ·rw [zbV (by lia:zs.length≠zs'.length)]
  exact RcNeAt.lists_lengths hl hl' (by simpa using hsz) hu
theorem ziT{l l':Addr}{vs vs':Array Value}{k k':Nat}{xs zs xs' zs':List PV} (e:s.heap.get? l=some { cls:=.type "tuple",data:=.seq vs k }) (r:RepL s.heap ι σ xs vs.toList) (o:zan (whole σ n) xs=some zs)
  (e':s.heap.get? l'=some { cls:=.type "tuple",data:=.seq vs' k' }) (r':RepL s.heap ι σ xs' vs'.toList) (o':zan (whole σ m) xs'=some zs') (hu:A.units<cLine)
  (he:∀{a b x y:PV}{u v:Value},Rep s.heap ι σ a u→Rep s.heap ι σ b v→whole σ n a=some x→whole σ m b=some y→EqAt A.in1 s u v (eqv x y)):RcNeAt A s (.ref l) (.ref l') (!eqv (.tup zs) (.tup zs')):=by
 have hl:s.heap.IsTuple l vs:=⟨_,e,rfl,_,rfl⟩
 have hl':s.heap.IsTuple l' vs':=⟨_,e',rfl,_,rfl⟩
 have n1:zs.length=vs.size:=(zax o).trans r.length
 have n2:zs'.length=vs'.size:=(zax o').trans r'.length
 show RcNeAt A s (.ref l) (.ref l') (!eqvs zs zs')
 have he':∀ j (j1:j<vs.size) (j2:j<vs'.size),EqAt A.in1 s vs[j] vs'[j] (zgt zs zs' j):=fun j j1 j2=>by
  obtain ⟨x,y,h1,h2,h3⟩:=zec (s:=s) (P:=fun x y u v=>EqAt A.in1 s u v (eqv x y)) he r r' o o' j (by simpa using j1) (by simpa using j2)
  rw [zdR h1 h2];simpa using h3
 rw [← zes zs zs',n1,n2]
 exact RcNeAt.tuples hl hl' hu he'
theorem zkc{x y:PV}{u v:Value}(vx:View s.heap ι σ n x u)(vy:View s.heap ι σ m y v)(hu:A.units<cLine)
  (he:∀{a b x y:PV}{u v:Value},Rep s.heap ι σ a u→Rep s.heap ι σ b v→whole σ n a=some x→whole σ m b=some y→EqAt A.in1 s u v (eqv x y)):RcNeAt A s u v (!eqv x y):=by
  cases vx with
  | none=>cases vy with
   | none=>exact RcNeAt.none_none
   | bool y=>exact RcNeAt.none_bool  y
   | int y u=>exact RcNeAt.none_int  y u
   | str y u=>exact RcNeAt.none_str  y u
   | lst e r o=>exact RcNeAt.none_list  ⟨_,e,rfl,_,rfl⟩ hu
   | tup e r o=>exact RcNeAt.none_tuple  ⟨_,e,rfl,_,rfl⟩ hu
  | bool x=>cases vy with
   | none=>exact RcNeAt.bool_none x
   | bool y=>exact RcNeAt.bool_bool x y
   | int y u=>exact RcNeAt.bool_int x y u
   | str y u=>exact RcNeAt.bool_str x y u
   | lst e r o=>exact RcNeAt.bool_list x ⟨_,e,rfl,_,rfl⟩ hu
   | tup e r o=>exact RcNeAt.bool_tuple x ⟨_,e,rfl,_,rfl⟩ hu
  | int x t=>cases vy with
   | none=>exact RcNeAt.int_none x t
   | bool y=>exact RcNeAt.int_bool x t y
   | int y u=>exact RcNeAt.int_int x t y u
   | str y u=>exact RcNeAt.int_str x t y u
   | lst e r o=>exact RcNeAt.int_list x t ⟨_,e,rfl,_,rfl⟩ hu
   | tup e r o=>exact RcNeAt.int_tuple x t ⟨_,e,rfl,_,rfl⟩ hu
  | str x t=>cases vy with
   | none=>exact RcNeAt.str_none x t
   | bool y=>exact RcNeAt.str_bool x t y
   | int y u=>exact RcNeAt.str_int x t y u
   | str y u=>exact RcNeAt.str_str x t y u
   | lst e r o=>exact RcNeAt.str_list x t ⟨_,e,rfl,_,rfl⟩ hu
   | tup e r o=>exact RcNeAt.str_tuple x t ⟨_,e,rfl,_,rfl⟩ hu
  | lst e r o=>cases vy with
   | none=>exact RcNeAt.list_none  ⟨_,e,rfl,_,rfl⟩ hu
   | bool y=>exact RcNeAt.list_bool y ⟨_,e,rfl,_,rfl⟩ hu
   | int y u=>exact RcNeAt.list_int y u ⟨_,e,rfl,_,rfl⟩ hu
   | str y u=>exact RcNeAt.list_str y u ⟨_,e,rfl,_,rfl⟩ hu
   | tup e' r' o'=>exact RcNeAt.list_tuple ⟨_,e,rfl,_,rfl⟩ ⟨_,e',rfl,_,rfl⟩ hu
   | lst e' r' o'=>exact zkd e r o e' r' o' hu he
  | tup e r o=>cases vy with
   | none=>exact RcNeAt.tuple_none  ⟨_,e,rfl,_,rfl⟩ hu
   | bool y=>exact RcNeAt.tuple_bool y ⟨_,e,rfl,_,rfl⟩ hu
   | int y u=>exact RcNeAt.tuple_int y u ⟨_,e,rfl,_,rfl⟩ hu
   | str y u=>exact RcNeAt.tuple_str y u ⟨_,e,rfl,_,rfl⟩ hu
   | lst e' r' o'=>exact RcNeAt.tuple_list ⟨_,e,rfl,_,rfl⟩ ⟨_,e',rfl,_,rfl⟩ hu
   | tup e' r' o'=>exact ziT e r o e' r' o' hu he
theorem zbW(S:StoreOk prog w hB s.heap ι σ):∀(n m:Nat)(A:Around){a b x y:PV}{u v:Value},Rep s.heap ι σ a u→Rep s.heap ι σ b v→whole σ n a=some x→whole σ m b=some y→A.units+n<cLine+1→EqAt A s u v (eqv x y)
 | 0,_,_,_,_,_,_,_,_,_,_,e,_,_=>by simp only [whole] at e;cases e
 | _+1,0,_,_,_,_,_,_,_,_,_,_,e,_=>by simp only [whole] at e;cases e
 | n+1,m+1,A,_,_,_,_,_,_,ra,rb,ea,eb,hu=>zk9 S (view S ra ea) (view S rb eb) (by lia) fun r1 r2 e1 e2=>zbW S n m A.in1 r1 r2 e1 e2 (by rw [Around.in1_units];lia)
theorem ziU(S:StoreOk prog w hB s.heap ι σ):∀(n m:Nat)(A:Around){a b x y:PV}{u v:Value},Rep s.heap ι σ a u→Rep s.heap ι σ b v→whole σ n a=some x→whole σ m b=some y→A.units+n<cLine+1→RcAt A s u v (eqv x y)
 | 0,_,_,_,_,_,_,_,_,_,_,e,_,_=>by simp only [whole] at e;cases e
 | _+1,0,_,_,_,_,_,_,_,_,_,_,e,_=>by simp only [whole] at e;cases e
 | n+1,m+1,A,_,_,_,_,_,_,ra,rb,ea,eb,hu=>zke (view S ra ea) (view S rb eb) (by lia) fun r1 r2 e1 e2=>zbW S n m A.in1 r1 r2 e1 e2 (by rw [Around.in1_units];lia)
theorem ziS(S:StoreOk prog w hB s.heap ι σ):∀(n m:Nat)(A:Around){a b x y:PV}{u v:Value},Rep s.heap ι σ a u→Rep s.heap ι σ b v→whole σ n a=some x→whole σ m b=some y→A.units+n<cLine+1→RcNeAt A s u v (!eqv x y)
 | 0,_,_,_,_,_,_,_,_,_,_,e,_,_=>by simp only [whole] at e;cases e
 | _+1,0,_,_,_,_,_,_,_,_,_,_,e,_=>by simp only [whole] at e;cases e
 | n+1,m+1,A,_,_,_,_,_,_,ra,rb,ea,eb,hu=>zkc (view S ra ea) (view S rb eb) (by lia) fun r1 r2 e1 e2=>zbW S n m A.in1 r1 r2 e1 e2 (by rw [Around.in1_units];lia)
end
end Mine
namespace Mine
open PySem PySem.SeqAt PySem.W
section
variable {prog:Program} {w:World} {hB:Heap} {A:Around} {s:Shared} {ι:Ad} {σ:zaa}
theorem zbk(a:PV):(∃ x,wholeM a σ=.ok x σ∧whole σ zaj a=some x)∨wholeM a σ=.stuck:=by
 unfold wholeM
 cases h:whole σ zaj a with
 | none=>exact .inr rfl
 | some x=>exact .inl ⟨x,rfl,rfl⟩
theorem zbX(a:List PV):(∃ x,zbY a σ=.ok x σ∧zan (whole σ zaj) a=some x)∨zbY a σ=.stuck:=by
 unfold zbY
 cases h:zan (whole σ zaj) a with
 | none=>exact .inr rfl
 | some x=>exact .inl ⟨x,rfl,rfl⟩
theorem zaf{α β γ:Type}(x:M α)(f:α→M β)(g:β→M γ):((x.bind f).bind g) σ=(x.bind fun a=>(f a).bind g) σ:=by
 unfold M.bind
 cases x σ <;> rfl
open Classical in
noncomputable def hitE(h:Heap)(ι:Ad)(σ:zaa)(n:Nat)(x':PV)(y:Value):Bool:=decide (∃ a z,Rep h ι σ a y∧whole σ n a=some z∧eqv z x'=true)
open Classical in
theorem zkZ(S:StoreOk prog w hB s.heap ι σ){n:Nat}{x' a z:PV}{y:Value}(r:Rep s.heap ι σ a y)(e:whole σ n a=some z):hitE s.heap ι σ n x' y=eqv z x':=by
 unfold hitE
 cases n with
 | zero=>cases e
 | succ n=>
  by_cases h:eqv z x'=true
  ·rw [h];exact decide_eq_true ⟨a,z,r,e,h⟩
  ·rw [Bool.not_eq_true] at h
   rw [h]
   refine decide_eq_false ?_
   rintro ⟨b,u,r',e',h'⟩
   rw [zga S n n (view S r' e') (view S r e),h] at h'
   cases h'
theorem hits(S:StoreOk prog w hB s.heap ι σ){n:Nat}{x':PV}:∀{xs zs:List PV}{vs:List Value},RepL s.heap ι σ xs vs→zan (whole σ n) xs=some zs→vs.map (hitE s.heap ι σ n x')=zs.map fun z=>eqv z x'
 | _,_,_,.nil,e=>by cases e;rfl
 | _,_,_,.cons r rs,e=>by
  obtain ⟨y,ys,h1,h2,rfl⟩:=zaL e
  rw [List.map_cons,List.map_cons,zkZ S r h1,hits S rs h2]
theorem zia(S:StoreOk prog w hB s.heap ι σ){n m:Nat}{x x':PV}{u:Value}(rx:Rep s.heap ι σ x u)(ex:whole σ m x=some x')(hu:A.units+n<cLine+1) :
  ∀{xs zs:List PV}{vs:List Value},RepL s.heap ι σ xs vs→zan (whole σ n) xs=some zs→∀ y∈vs,EqAt A s y u (hitE s.heap ι σ n x' y)
 | _,_,_,.nil,_,_,h=>nomatch h
 | _,_,_,.cons r rs,e,y,h=>by
  obtain ⟨z,zs,h1,h2,rfl⟩:=zaL e
  rcases List.mem_cons.mp h with rfl | h
  ·rw [zkZ S r h1];exact zbW S n m A r rx h1 ex hu
  ·exact zia S rx ex hu rs h2 y h
theorem zmz(S:StoreOk prog w hB s.heap ι σ){n:Nat}{x':PV}{xs zs:List PV}{vs:Array Value}(r:RepL s.heap ι σ xs vs.toList)(e:zan (whole σ n) xs=some zs):vs.any (hitE s.heap ι σ n x')=zs.any fun z=>eqv z x':=by
 have:=hits S (x':=x') r e
 rw [← Array.any_toList]
 have h1:vs.toList.any (hitE s.heap ι σ n x')=(vs.toList.map (hitE s.heap ι σ n x')).any id:=by rw [List.any_map];rfl
 have h2:(zs.any fun z=>eqv z x')=(zs.map fun z=>eqv z x').any id:=by rw [List.any_map];rfl
 rw [h1,h2,this]
theorem zgn{x:PV}{ys:List PV}{u:Value}{t:Sem Value}{f:Bool→Bool}(S:StoreOk prog w hB s.heap ι σ)(B:hB.StaysIn s.heap)(rx:Rep s.heap ι σ x u){vs:Array Value}(ry:RepL s.heap ι σ ys vs.toList)(hu:A.units+600<cLine)
  (h:∀(e:Value→Bool),(∀ y,y∈vs→EqAt A.in1 s y u (e y))→∀ Q E,Q (.bool (f (vs.any e))) s→wpAny (model prog w) A t Q E s) :
  SimV prog w hB A t ((zhK x ys).bind fun r=>M.ret (.bool (f r))) s ι σ:=by
 refine Sim.res ?_ (zaf _ _ _)
 refine Sim.part (fun x'=>whole σ zaj x=some x') (zbk x) fun x' h1=>?_
 refine Sim.res ?_ (zaf _ _ _)
 refine Sim.part (fun zs=>zan (whole σ zaj) ys=some zs) (zbX ys) fun zs k1=>?_
 refine Sim.val S B rfl fun Q E hq=>h (hitE s.heap ι σ zaj x') (fun y hy=>?_) Q E ?_
 ·exact zia S rx h1 (by rw [Around.in1_units];show A.units+1+500<cLine+1;lia) ry k1 y (Array.mem_def.mp hy)
 ·rw [zmz S ry k1];exact hq _ s.toks (.bool _)
theorem znp{x c:PV}{u v:Value}(S:StoreOk prog w hB s.heap ι σ)(B:hB.StaysIn s.heap)(rx:Rep s.heap ι σ x u)(rc:Rep s.heap ι σ c v)(hu:A.units+600<cLine) :
  SimV prog w hB A (compareOp .In u v) ((items c).bind fun xs=>(zhK x xs).bind fun r=>M.ret (.bool r)) s ι σ∧SimV prog w hB A (compareOp .NotIn u v) ((items c).bind fun xs=>(zhK x xs).bind fun r=>M.ret (.bool !r)) s ι σ:=by
 constructor
 ·refine Sim.items S rc fun xs l vs n e rl=>zgn (f:=id) S B rx rl hu fun e' he Q E hq=>?_
  exact e.elim (fun e=>in_listAt e' ⟨_,e,rfl,_,rfl⟩ he hq) fun e=>in_tupleAt e' ⟨_,e.1,rfl,_,rfl⟩ he hq
 ·refine Sim.items S rc fun xs l vs n e rl=>zgn (f:=not) S B rx rl hu fun e' he Q E hq=>?_
  exact e.elim (fun e=>notIn_listAt e' ⟨_,e,rfl,_,rfl⟩ he hq) fun e=>notIn_tupleAt e' ⟨_,e.1,rfl,_,rfl⟩ he hq
theorem ze0{α β:Type}(x:PV)(k:Str→M α)(f:α→M β):(onStr x k).bind f σ=onStr x (fun y=>(k y).bind f) σ:=by cases x <;> rfl
theorem zmJ{x c:PV}{u v:Value}(S:StoreOk prog w hB s.heap ι σ)(B:hB.StaysIn s.heap)(rx:Rep s.heap ι σ x u)(rc:Rep s.heap ι σ c v)(hu:A.units+600<cLine) :
  SimV prog w hB A (compareOp .In u v) ((inOp x c).bind fun r=>M.ret (.bool r)) s ι σ∧SimV prog w hB A (compareOp .NotIn u v) ((inOp x c).bind fun r=>M.ret (.bool !r)) s ι σ:=by
 have o:=znp S B rx rc hu
 have o:inOp x c=(items c).bind (fun xs=>zhK x xs)→SimV prog w hB A (compareOp .In u v) ((inOp x c).bind fun r=>M.ret (.bool r)) s ι σ∧SimV prog w hB A (compareOp .NotIn u v) ((inOp x c).bind fun r=>M.ret (.bool !r)) s ι σ:=fun q=>And.intro (o.1.res (by rw [q];exact zaf _ _ _)) (o.2.res (by rw [q];exact zaf _ _ _))
 cases c with
 | str y=>
  obtain ⟨t,rfl⟩:=rc.inv
  constructor
  ·refine Sim.res ?_ (ze0 x (fun s=>M.ret (zix s y)) _)
   exact Sim.onStr (t:=fun u=>compareOp .In u (.str y t)) rx fun z t'=>Sim.val S B rfl fun Q E h=>P.in_str (h _ s.toks (.bool _))
  ·refine Sim.res ?_ (ze0 x (fun s=>M.ret (zix s y)) _)
   exact Sim.onStr (t:=fun u=>compareOp .NotIn u (.str y t)) rx fun z t'=>Sim.val S B rfl fun Q E h=>P.notIn_str (h _ s.toks (.bool _))
 | _=>exact o rfl
theorem zfJ{b:PV}{y:Value}(rb:Rep s.heap ι σ b y):plainIs .none y=true∧(Value.none==y)=zfL b∧plainIs y .none=true∧(y==Value.none)=zfL b:=by
 cases b with
 | none=>cases rb.inv;exact ⟨rfl,rfl,rfl,rfl⟩
 | bool _=>cases rb.inv;exact ⟨rfl,rfl,rfl,rfl⟩
 | int _=>obtain ⟨_,rfl⟩:=rb.inv;exact ⟨rfl,rfl,rfl,rfl⟩
 | str _=>obtain ⟨_,rfl⟩:=rb.inv;exact ⟨rfl,rfl,rfl,rfl⟩
 | tup _=>obtain ⟨_,_,_,rfl,_⟩:=rb.inv;exact ⟨rfl,rfl,rfl,rfl⟩
 | lst _=>obtain ⟨_,_,_,rfl,_⟩:=rb.inv;exact ⟨rfl,rfl,rfl,rfl⟩
 | ref _=>obtain ⟨_,rfl,_⟩:=rb.inv;exact ⟨rfl,rfl,rfl,rfl⟩
 | exc _=>obtain ⟨_,_,_,rfl,_⟩:=rb.inv;exact ⟨rfl,rfl,rfl,rfl⟩
theorem zfK{b:PV}{y:Value}(p:Bool)(rb:Rep s.heap ι σ b y):plainIs (.bool p) y=true∧(Value.bool p==y)=zfN p b∧plainIs y (.bool p)=true∧(y==Value.bool p)=zfN p b:=by
 cases b with
 | none=>cases rb.inv;exact ⟨rfl,rfl,rfl,rfl⟩
 | bool q=>cases rb.inv;cases p <;> cases q <;> exact ⟨rfl,rfl,rfl,rfl⟩
 | int _=>obtain ⟨_,rfl⟩:=rb.inv;exact ⟨rfl,rfl,rfl,rfl⟩
 | str _=>obtain ⟨_,rfl⟩:=rb.inv;exact ⟨rfl,rfl,rfl,rfl⟩
 | tup _=>obtain ⟨_,_,_,rfl,_⟩:=rb.inv;exact ⟨rfl,rfl,rfl,rfl⟩
 | lst _=>obtain ⟨_,_,_,rfl,_⟩:=rb.inv;exact ⟨rfl,rfl,rfl,rfl⟩
 | ref _=>obtain ⟨_,rfl,_⟩:=rb.inv;exact ⟨rfl,rfl,rfl,rfl⟩
 | exc _=>obtain ⟨_,_,_,rfl,_⟩:=rb.inv;exact ⟨rfl,rfl,rfl,rfl⟩
theorem zdV{a b:PV}{x y:Value}{r:Bool}(ra:Rep s.heap ι σ a x)(rb:Rep s.heap ι σ b y)(e:zdW a b=some r):plainIs x y=true∧(x==y)=r:=by
 have o:zdW a b=zh7 b→zfL a=false→(∀ p,zfN p a=false)→plainIs x y=true∧(x==y)=r:=by
  intro q h1 h2
  rw [q] at e
  cases b with
  | none=>cases rb.inv;cases e;exact ⟨(zfJ ra).2.2.1,(zfJ ra).2.2.2.trans h1⟩
  | bool p=>cases rb.inv;cases e;exact ⟨(zfK p ra).2.2.1,(zfK p ra).2.2.2.trans (h2 p)⟩
  | _=>cases e
 cases a with
 | none=>cases ra.inv;cases e;exact ⟨(zfJ rb).1,(zfJ rb).2.1⟩
 | bool p=>cases ra.inv;cases e;exact ⟨(zfK p rb).1,(zfK p rb).2.1⟩
 | _=>exact o rfl rfl fun _=>rfl
theorem zfQ{h:Heap}{k:Str}:∀{kvs:List (Str×PV)}{ys:List (Str×Value)}{z:PV},ys.map (·.1)=kvs.map (·.1)→RepL h ι σ (kvs.map (·.2)) (ys.map (·.2))→dat kvs k=some z→∃ v,valueAt ys k=some v∧Rep h ι σ z v
 | [],_,_,_,_,e=>by simp [dat] at e
 | (k',v')::r,[],_,e,_,_=>by simp at e
 | (k',v')::r,(j,y)::ys,z,e,rl,hz=>by
  simp only [List.map_cons,List.cons.injEq] at e rl
  obtain ⟨rfl,e⟩:=e
  cases rl with
  | cons r1 rs=>
   by_cases q:j=k
   ·subst q
    simp [dat] at hz;subst hz
    exact ⟨y,by simp [valueAt],r1⟩
   ·have:dat r k=some z:=by simpa [dat,q] using hz
    obtain ⟨v,h1,h2⟩:=zfQ e rs this
    exact ⟨v,by simpa [valueAt,q] using h1,h2⟩
theorem zfR{k:Str}:∀{kvs:List (Str×PV)}{ys:List (Str×Value)},ys.map (·.1)=kvs.map (·.1)→dat kvs k=none→valueAt ys k=none
 | [],[],_,_=>rfl
 | [],_::_,e,_=>by simp at e
 | (k',v')::r,[],e,_=>by simp at e
 | (k',v')::r,(j,y)::ys,e,hz=>by
  simp only [List.map_cons,List.cons.injEq] at e
  obtain ⟨rfl,e⟩:=e
  by_cases q:j=k
  ·subst q;simp [dat] at hz
  ·have:dat r k=none:=by simpa [dat,q] using hz
   simpa [valueAt,q] using zfR e this
theorem zfi(S:StoreOk prog w hB s.heap ι σ){a:PV}{x:Value}{kvs:List (Str×PV)}(r:Rep s.heap ι σ a x)(h:zld σ a=some kvs) :
  ∃ d ys,x=.ref d∧(d==sysModules)=false∧s.heap.DictOf (PySem.strKind prog w) d ys∧ys.map (·.1)=kvs.map (·.1)∧RepL s.heap ι σ (kvs.map (·.2)) (ys.map (·.2)):=by
 cases a with
 | ref i=>
  obtain ⟨d,e,hi⟩:=r.inv
  have h:zm0 σ[i]?=some kvs:=h
  cases hc:σ[i]? with
  | none=>rw [hc] at h;cases h
  | some c=>
   cases c with
   | dict kvs'=>
    rw [hc] at h;cases h
    obtain ⟨ys,hd,h1,h2⟩:=S.ok _ _ _ hi hc
    exact ⟨d,ys,e,zgu S (List.mem_of_getElem? hi),hd,h1,h2⟩
   | _=>rw [hc] at h;cases h
 | _=>cases h
theorem zeQ{v:PV}(h:zeL v=true):whole σ 1 v=some v:=by
 cases v <;> first | rfl | cases h
theorem zfh(S:StoreOk prog w hB s.heap ι σ){b:List (Str×PV)}{yb:List (Str×Value)}(kb:yb.map (·.1)=b.map (·.1)) (rb:RepL s.heap ι σ (b.map (·.2)) (yb.map (·.2))) (fb:b.all (fun kv=>zeL kv.2)=true) (hu:A.units+1<cLine+1) :
  ∀(a:List (Str×PV))(ya:List (Str×Value)),ya.map (·.1)=a.map (·.1)→RepL s.heap ι σ (a.map (·.2)) (ya.map (·.2))→a.all (fun kv=>zeL kv.2)=true→KeqHits A s yb ya (zhF b a)
 | [],ya,k,_,_=>by
  have:ya=[]:=by simpa using k
  subst this;exact .nil
 | (k,v)::a,ya,hk,hr,hf=>by
  cases ya with
  | nil=>simp at hk
  | cons y ya=>
   obtain ⟨k',x⟩:=y
   simp only [List.map_cons,List.cons.injEq] at hk
   obtain ⟨hkk,hk⟩:=hk
   subst k'
   simp only [List.all_cons,Bool.and_eq_true] at hf
   cases hr with
   | cons r rs=>
    have ih:=zfh S kb rb fb hu a ya hk rs hf.2
    unfold zhF
    cases hd:dat b k with
    | none=>exact .miss (zfR kb hd)
    | some z=>
     obtain ⟨u,h1,h2⟩:=zfQ kb rb hd
     have hz:zeL z=true:=by
      unfold dat at hd
      cases q:b.find? fun kv=>decide (kv.1=k) with
      | none=>rw [q] at hd;cases hd
      | some kv=>rw [q] at hd;cases hd;exact List.all_eq_true.mp fb kv (List.mem_of_find?_eq_some q)
     exact .hit h1 (zbW S 1 1 A r h2 (zeQ hf.1) (zeQ hz) hu) ih
theorem znr{a b:PV}{t:Sem Value}{f:Bool→Bool}(S:StoreOk prog w hB s.heap ι σ)(B:hB.StaysIn s.heap)
  (h:∀ x' y',whole σ zaj a=some x'→whole σ zaj b=some y'→∀ Q E,Q (.bool (f (eqv x' y'))) s→wpAny (model prog w) A t Q E s):SimV prog w hB A t ((eqM a b).bind fun r=>M.ret (.bool (f r))) s ι σ:=by
 refine Sim.res ?_ (zaf _ _ _)
 refine Sim.part (fun x'=>whole σ zaj a=some x') (zbk a) fun x' h1=>?_
 refine Sim.res ?_ (zaf _ _ _)
 refine Sim.part (fun x'=>whole σ zaj b=some x') (zbk b) fun y' h2=>?_
 exact Sim.val S B rfl fun Q E hq=>h x' y' h1 h2 Q E (hq _ s.toks (.bool _))
theorem zns{x' y':List (Str×PV)}{d e:Addr}{yx yy:List (Str×Value)}{t:Sem Value}{f:Bool→Bool}(S:StoreOk prog w hB s.heap ι σ)(B:hB.StaysIn s.heap)(hu:A.units+600<cLine)(kx:yx.map (·.1)=x'.map (·.1)) (rx:RepL s.heap ι σ (x'.map (·.2)) (yx.map (·.2))) (ky:yy.map (·.1)=y'.map (·.1)) (ry:RepL s.heap ι σ (y'.map (·.2)) (yy.map (·.2)))
  (h:KeqHits A.in1 s yy yx (zhF y' x')→∀ Q E,Q (.bool (f (yx.length==yy.length&&zhF y' x'))) s→wpAny (model prog w) A t Q E s):SimV prog w hB A t ((eqD x' y').bind fun r=>M.ret (.bool (f r))) s ι σ:=by
 have l1:yx.length=x'.length:=by have:=congrArg List.length kx;rwa [List.length_map,List.length_map] at this
 have l2:yy.length=y'.length:=by have:=congrArg List.length ky;rwa [List.length_map,List.length_map] at this
 rw [l1,l2] at h
 by_cases hf:(x'.all (fun kv=>zeL kv.2)&&y'.all (fun kv=>zeL kv.2))=true
 ·have hf':=Bool.and_eq_true_iff.mp hf
  have e1:eqD x' y' σ=.ok (x'.length==y'.length&&zhF y' x') σ:=by unfold eqD;rw [hf];rfl
  exact Sim.val S B (zab e1) fun Q E hq=>h (zfh (A:=A.in1) S ky ry hf'.2 (by rw [Around.in1_units];lia) x' yx kx rx hf'.1) Q E (hq _ s.toks (.bool _))
 ·exact Sim.bstuck (by unfold eqD;rw [eq_false_of_ne_true hf];rfl)
theorem zjX{a b:PV}{x y:Value}{t:Sem Value}{f:Bool→Bool}(S:StoreOk prog w hB s.heap ι σ)(B:hB.StaysIn s.heap)(ra:Rep s.heap ι σ a x)(rb:Rep s.heap ι σ b y)(hu:A.units+600<cLine)
  (h:∀ x' y',whole σ zaj a=some x'→whole σ zaj b=some y'→∀ Q E,Q (.bool (f (eqv x' y'))) s→wpAny (model prog w) A t Q E s)
  (hd:∀{d e:Addr}{yx yy:List (Str×Value)}{r:Bool},x=.ref d→y=.ref e→(d==sysModules)=false→(e==sysModules)=false→s.heap.DictOf (PySem.strKind prog w) d yx→s.heap.DictOf (PySem.strKind prog w) e yy→KeqHits A.in1 s yy yx r→∀ Q E,Q (.bool (f (yx.length==yy.length&&r))) s→wpAny (model prog w) A t Q E s) :
  SimV prog w hB A t ((eqX a b).bind fun r=>M.ret (.bool (f r))) s ι σ:=by
 have o:eqX a b σ=eqM a b σ→SimV prog w hB A t ((eqX a b).bind fun r=>M.ret (.bool (f r))) s ι σ:=fun q=>(znr S B h).res (by unfold M.bind;rw [q])
 cases hx:zld σ a with
 | none=>exact o (by unfold eqX;rw [hx])
 | some x'=>
  cases hy:zld σ b with
  | none=>exact o (by unfold eqX;rw [hx,hy])
  | some y'=>
   obtain ⟨dx,yx,ex,lx,ddx,kx,rx⟩:=zfi S ra hx
   obtain ⟨dy,yy,ey,ly,ddy,ky,ry⟩:=zfi S rb hy
   exact (zns (d:=dx) (e:=dy) S B hu kx rx ky ry fun hh Q E hq=>hd ex ey lx ly ddx ddy hh Q E hq).res (by unfold M.bind;rw [show eqX a b σ=eqD x' y' σ by unfold eqX;rw [hx,hy]])
theorem zhj{op:CmpOp}{a b:PV}{x y:Value}(S:StoreOk prog w hB s.heap ι σ)(B:hB.StaysIn s.heap)(ra:Rep s.heap ι σ a x)(rb:Rep s.heap ι σ b y)(hu:A.units+600<cLine) :
  SimV prog w hB A (compareOp op x y) (zac op a b) s ι σ:=by
 have num:∀{op:CmpOp}{f:Int→Int→Bool},(∀{i j:Int}{t u:Tok} {Q E},Q (.bool (f i j)) s→wpAny (model prog w) A (compareOp op (.int i t) (.int j u)) Q E s)→
   SimV prog w hB A (compareOp op x y) (onInt a fun i=>onInt b fun j=>M.ret (.bool (f i j))) s ι σ:=fun {op f} hw=>
  Sim.onInt (t:=fun x=>compareOp op x y) ra fun i t=>Sim.onInt rb fun j u=>Sim.val S B rfl fun Q E h=>hw (h _ s.toks (.bool _))
 have fuel:A.units+zaj<cLine+1:=by show A.units+500<cLine+1;lia
 have hu1:A.units+1<cLine:=by lia
 cases op with
 | Eq=>exact zjX (f:=id) S B ra rb hu (fun x' y' h1 h2 Q E hq=>ziU S zaj zaj A ra rb h1 h2 fuel prog w E Q hq) (fun ex ey lx ly ddx ddy hh Q E hq=>by rw [ex,ey];exact keq_eq lx ly ddx ddy (by lia) (fun _=>hh) hq)
 | NotEq=>exact zjX (f:=not) S B ra rb hu (fun x' y' h1 h2 Q E hq=>ziS S zaj zaj A ra rb h1 h2 fuel prog w E Q hq) (fun ex ey lx ly ddx ddy hh Q E hq=>by rw [ex,ey];exact keq_ne lx ly ddx ddy (by lia) (fun _=>hh) hq)
 | Lt=>exact num (f:=fun i j=>decide (i<j)) P.lt_int
 | LtE=>exact num (f:=fun i j=>decide (i≤j)) P.le_int
 | Gt=>exact num (f:=fun i j=>decide (j<i)) P.gt_int
 | GtE=>exact num (f:=fun i j=>decide (j≤i)) P.ge_int
 | Is=>exact Sim.lift fun r h=>Sim.val S B rfl fun Q E hq=>wpAny_is_plain (zdV ra rb h).1 (by rw [(zdV ra rb h).2];exact hq _ s.toks (.bool _))
 | IsNot=>exact Sim.lift fun r h=>Sim.val S B rfl fun Q E hq=>wpAny_isNot_plain (zdV ra rb h).1 (by rw [(zdV ra rb h).2];exact hq _ s.toks (.bool _))
 | In=>exact (zmJ S B ra rb hu).1
 | NotIn=>exact (zmJ S B ra rb hu).2
noncomputable abbrev RB:Heap→Ad→zaa→Bool→Bool→Prop:=fun _ _ _ a b=>a=b
theorem zcc{a:PV}{x:Value}(S:StoreOk prog w hB s.heap ι σ)(B:hB.StaysIn s.heap)(ra:Rep s.heap ι σ a x):Sim prog w hB A RB (truthy x) (zar a) s ι σ:=by
 cases a with
 | bool b=>cases ra.inv;exact Sim.val S B rfl fun Q E h=>wpAny_truthy_bool (h b s.toks rfl)
 | _=>exact Sim.fail
end
end Mine
namespace Mine
open PySem PySem.SeqAt PyProof.Rows
section
variable {prog:Program} {w:World} {hB:Heap} {A:Around} {s:Shared} {ι:Ad} {σ:zaa}
theorem zjG(slice:Expr)(o i:Value):subscripted slice false o i=operate [i,o] (getItem o i)∨subscripted slice false o i=operate [o,i] (getItem o i):=by
 cases slice with
 | Slice _ _ st _=>cases st with
  | none=>exact .inl rfl
  | some _=>exact .inr rfl
 | _=>exact .inr rfl
theorem zaV{E:Value→Shared→Prop}{value slice:Expr}{o i:Value}{T id:String}{Q:Value→Shared→Prop}(hT:s.TypeIs o T)
  (hl:typeLookup (.type T) "__getitem__"=pure (some (.builtin id))) (h:wpAny (model prog w) A (getItem o i) Q E s) :
  wpAny (model prog w) A (subscriptTail value slice o i) Q E s:=by
 unfold subscriptTail
 refine wpAny_bind ?_
 rw [getitemInPython_of_ne hT.not_modules]
 refine wpAny_bind (wpAny_specialOf hT hl ?_)
 have fin:wpAny (model prog w) A (subscripted slice false o i) (fun r s₃=>wpAny (model prog w) A (letTemporaryGo value o r >>= fun _=>pure r) Q E s₃) E s:=by
  have h':=wpAny_mono (Q':=fun r s₃=>wpAny (model prog w) A (letTemporaryGo value o r >>= fun _=>pure r) Q E s₃) h (fun r s₃ h₃=>wpAny_bind (wpAny_letTemporaryGo (wpAny_pure h₃))) fun _ _ x=>x
  exact (zjG slice o i).elim (fun q=>by rw [q];exact zc7 h') fun q=>by rw [q];exact zc7 h'
 exact wpAny_pure (wpAny_bind fin)
theorem zim{α:Type}{xs:List α}{i:Int}{x:α}(e:atI xs i=some x):∃ k,seqIndex? i xs.length=some k∧xs[k]?=some x∧-(2 ^ 62)≤i∧i≤2 ^ 62:=by
 unfold atI at e
 split at e
 ·rename_i h
  obtain ⟨k,h1,h2⟩:=Option.bind_eq_some_iff.mp e
  exact ⟨k,h1,h2,(small_iff.mp h).1,(small_iff.mp h).2⟩
 ·cases e
theorem zeG{i:Int}{n k:Nat}(h:seqIndex? i n=some k):(0≤i∧k=i.toNat)∨(i<0∧-(n:Int)≤i∧k=(i+n).toNat):=by
 have f:∀{j:Int},(if (decide (0≤j)&&decide (j<n))=true then some j.toNat else none)=some k→0≤j∧k=j.toNat:=by
  intro j h
  by_cases c:(decide (0≤j)&&decide (j<n))=true
  ·rw [if_pos c] at h;cases h;exact ⟨of_decide_eq_true (Bool.and_eq_true_iff.mp c).1,rfl⟩
  ·rw [if_neg c] at h;cases h
 have h':=f h
 by_cases q:i<0
 ·rw [if_pos q] at h';exact .inr ⟨q,by lia,h'.2⟩
 ·rw [if_neg q] at h';exact .inl h'
theorem zd0{E:Value→Shared→Prop}{l:Addr}{vs:Array Value}{n:Nat}{k:Nat}{i:Int}{t:Tok}{x:Value}{Q:Value→Shared→Prop} (e:s.heap.get? l=some { cls:=.type "list",data:=.seq vs n })
  (hk:seqIndex? i vs.size=some k) (hx:vs[k]?=some x) (h1:-(2 ^ 62)≤i) (h2:i≤2 ^ 62) (h:Q x s):wpAny (model prog w) A (getItem (.ref l) (.int i t)) Q E s:=by
 have hl:s.heap.IsList l vs:=⟨_,e,rfl,_,rfl⟩
 rcases zeG hk with ⟨q,rfl⟩ | ⟨q,q2,rfl⟩
 ·exact wpAny_getItem_list hl q (by lia) hx h
 ·exact wpAny_getItem_list_neg hl q q2 (by lia) hx h
theorem Sim.ofLift{o:Option PV}{t:Sem Value}(h:∀ z,o=some z→SimV prog w hB A t (M.ret z) s ι σ):SimV prog w hB A t (M.lift o) s ι σ:=by
 cases o with
 | none=>exact Sim.stuck rfl
 | some z=>exact h z rfl
theorem zog{vs:Array Value}{k:Nat}{v:Value}(h:vs.toList[k]?=some v):vs[k]?=some v:=(Array.getElem?_toList ..).symm.trans h
theorem ziI{value slice:Expr}{a:PV}{x:Value}{i:Int}{t:Tok}(S:StoreOk prog w hB s.heap ι σ)(B:hB.StaysIn s.heap)(ra:Rep s.heap ι σ a x) :
  SimV prog w hB A (subscriptTail value slice x (.int i t)) (zmT a i) s ι σ:=by
 have seq:SimV prog w hB A (subscriptTail value slice x (.int i t)) ((items a).bind fun xs=>M.lift (atI xs i)) s ι σ:=by
  refine Sim.items (t:=fun x=>subscriptTail value slice x (.int i t)) S ra fun xs l vs n e rl=>Sim.ofLift fun z hz=>?_
  obtain ⟨k,h1,h2,h3,h4⟩:=zim hz
  obtain ⟨v,hv,rv⟩:=rl.get h2
  have hv:=zog hv
  rw [rl.length] at h1
  refine Sim.val S B rfl fun Q E hq=>?_
  rcases e with e | ⟨e,_⟩
  ·exact zaV ⟨_,e,rfl⟩ slot_list_getitem.lookup (zd0 e h1 hv h3 h4 (hq _ s.toks rv))
  ·exact zaV ⟨_,e,rfl⟩ slot_tuple_getitem.lookup (PyProof.Rows.getItem_tuple ⟨_,e,rfl,_,rfl⟩ (by lia) (by lia) h1 hv (hq _ s.toks rv))
 cases a with
 | str z=>
  obtain ⟨u,rfl⟩:=ra.inv
  refine Sim.lift fun c hz=>?_
  obtain ⟨k,h1,h2,h3,h4⟩:=zim hz
  refine Sim.val S B rfl fun Q E hq=>zaV (typeIs_str s z u) F.slot_str_getitem.lookup (P.getItem_str (by rw [decide_eq_false (by lia),decide_eq_false (by lia)];rfl) ?_ (hq _ _ (.str _ _)))
  rw [show z.length=z.cps.toList.length from rfl,h1]
  exact (Array.getElem?_toList ..).symm.trans h2
 | _=>exact seq
theorem zjV{value slice:Expr}{a b:PV}{x y:Value}(S:StoreOk prog w hB s.heap ι σ)(B:hB.StaysIn s.heap)(ra:Rep s.heap ι σ a x)(rb:Rep s.heap ι σ b y) :
  SimV prog w hB A (subscriptTail value slice x y) (index a b) s ι σ:=by
 cases b with
 | int i=>obtain ⟨t,rfl⟩:=rb.inv;exact ziI S B ra
 | str k=>
  obtain ⟨t,rfl⟩:=rb.inv
  refine Sim.onRef (t:=fun x=>subscriptTail value slice x (.str k t)) ra fun i l hi=>Sim.res (Sim.cel S hi fun c hc ok=>?_) (zaf _ _ _)
  cases c with
  | dict kvs=>
   obtain ⟨ys,hd,hk,rl⟩:=ok
   refine Sim.ofLift (o:=dat kvs k) fun z hz=>?_
   obtain ⟨v,hv,rv⟩:=zfQ hk rl hz
   exact Sim.val S B rfl fun Q E hq=>zaV hd.typeIs F.slot_dict_getitem.lookup (wpAny_getItem_of (strKind_is prog w k t) hd.mapOf hv (hq _ _ rv))
  | _=>exact Sim.fail
 | _=>exact Sim.fail
end
section
variable {prog:Program} {w:World} {hB:Heap} {A:Around} {E:Value→Shared→Prop} {s:Shared} {ι:Ad} {σ:zaa}
theorem zcl(n:Nat)(i:Int):((clip n i:Nat):Int)=max 0 (min (if i<0 then i+n else i) n):=clipAt_cast n i
theorem zlp(n:Nat)(i:Int):clip n i≤n:=by have:=zcl n i;lia
theorem zoz(lo hi:Option Int)(n:Nat):Builtin.Str.strSliceIndices lo hi 1 n=(List.range (hi.elim n (clip n)-lo.elim 0 (clip n))).map ((lo.elim 0 (clip n))+·):=by
 rw [← sliceRange_one]
 unfold Builtin.Str.strSliceIndices
 cases lo with
 | none=>
  cases hi with
  | none=>simp
  | some j=>simp only [Option.elim,zcl];simp
 | some i=>
  cases hi with
  | none=>simp only [Option.elim,zcl];simp
  | some j=>simp only [Option.elim,zcl];simp
theorem zgj{α:Type}{lo hi:Option Int}{xs:List α}(h:hi.elim xs.length (clip xs.length)-lo.elim 0 (clip xs.length)=xs.length):slc lo hi xs=xs:=by
 unfold slc
 have h1:hi.elim xs.length (clip xs.length)≤xs.length:=by cases hi with | none=>exact Nat.le_refl _ | some j=>exact zlp _ _
 by_cases h0:xs.length=0
 ·have:xs=[]:=List.length_eq_zero_iff.mp h0
  subst this;simp
 ·have h2:lo.elim 0 (clip xs.length)=0:=by lia
  rw [h,h2];simp
theorem zjd{sl:Addr}{vl vu:Value}{lo hi:Option Int}(hs:s.heap.IsSliceOf sl vl vu .none)(pl:IsPart vl lo)(pu:IsPart vu hi) :
  ∃ l u:Option (Int×Tok),s.heap.IsSlice sl l u none∧l.map (·.1)=lo∧u.map (·.1)=hi:=by
 cases pl with
 | none=>cases pu with
  | none=>exact ⟨none,none,hs,rfl,rfl⟩
  | int j u=>exact ⟨none,some (j,u),hs,rfl,rfl⟩
 | int i t=>cases pu with
  | none=>exact ⟨some (i,t),none,hs,rfl,rfl⟩
  | int j u=>exact ⟨some (i,t),some (j,u),hs,rfl,rfl⟩
theorem RepL.slc{h:Heap}{xs:List PV}{vs:List Value}(r:RepL h ι σ xs vs)(lo hi:Option Int):RepL h ι σ (slc lo hi xs) (slc lo hi vs):=by
 unfold Mine.slc
 rw [r.length]
 exact (r.drop _).take _
theorem zl1{value slice:Expr}{cx:Cx}{p:Pos}{sl:Addr}{vl vu:Value}{lo hi:Option Int}{l:Addr}{vs:Array Value}{n:Nat}{xs:List PV}(S:StoreOk prog w hB s.heap ι σ)(B:hB.StaysIn s.heap)
  (hs:s.heap.IsSliceOf sl vl vu .none) (pl:IsPart vl lo) (pu:IsPart vu hi) (e:s.heap.get? l=some { cls:=.type "list",data:=.seq vs n }) (rl:RepL s.heap ι σ xs vs.toList) (hb:xs.length≤2 ^ 20) :
  SimV prog w hB A (subscriptTail value slice (.ref l) (.ref sl)) (zaD cx p (Mine.slc lo hi xs)) s ι σ:=by
 have hsz:vs.size≤sizeLine:=Nat.le_trans (Nat.le_of_eq rl.length.symm) (Nat.le_trans hb (by decide))
 refine zbx S B (rl.slc lo hi) fun Q E k=>zaV ⟨_,e,rfl⟩ slot_list_getitem.lookup ?_
 refine wpAny_getItem_list_slice ⟨_,e,rfl,_,rfl⟩ hs pl pu .none (fun q=>nomatch q) ?_ hsz
 have q:slicePick vs lo hi none=(Mine.slc lo hi vs.toList).toArray:=by
  rw [slicePick_plain];unfold Mine.slc;rw [Array.length_toList];rfl
 rw [q]
 exact k s.toks
theorem ziB{value slice:Expr}{cx:Cx}{p:Pos}{sl:Addr}{vl vu vk:Value}{l:Addr}{vs:Array Value}{n:Nat}{xs:List PV}(S:StoreOk prog w hB s.heap ι σ)(B:hB.StaysIn s.heap)
  (hs:s.heap.IsSliceOf sl vl vu vk) (pl:IsPart vl none) (pu:IsPart vu none) (pk:IsPart vk (some (-1))) (e:s.heap.get? l=some { cls:=.type "list",data:=.seq vs n }) (rl:RepL s.heap ι σ xs vs.toList) (hb:xs.length≤2 ^ 20) :
  SimV prog w hB A (subscriptTail value slice (.ref l) (.ref sl)) (zaD cx p xs.reverse) s ι σ:=by
 have hsz:vs.size≤sizeLine:=Nat.le_trans (Nat.le_of_eq rl.length.symm) (Nat.le_trans hb (by decide))
 refine zbx S B rl.reverse fun Q E k=>zaV ⟨_,e,rfl⟩ slot_list_getitem.lookup ?_
 refine wpAny_getItem_list_slice ⟨_,e,rfl,_,rfl⟩ hs pl pu pk (by decide) ?_ hsz
 rw [PySem.W.krv_pick]
 exact k s.toks
theorem zcb{v:Value}{o:Option Int}{Q:Option Int→Shared→Prop}(p:IsPart v o)(h:Q o s):wpAny (model prog w) A (Builtin.Slice.slicePartIndex v) Q E s:=by
 cases p with
 | none=>exact slicePart_none h
 | int i t=>exact slicePart_int h
theorem zdJ{sl:Addr}{vl vu vk:Value}{lo hi k:Option Int}{n:Nat}{r:Int×Int}{Q:Int×Int×Nat→Shared→Prop}(hs:s.heap.IsSliceOf sl vl vu vk)(pl:IsPart vl lo)(pu:IsPart vu hi)(pk:IsPart vk k)(h0:(k.getD 1==0)=false)(hr:Builtin.Slice.sliceAdjust lo hi (k.getD 1) n=r)
  (h:Q (r.1,k.getD 1,Builtin.Slice.slicePlaces r.1 r.2 (k.getD 1)) s):wpAny (model prog w) A (Builtin.Slice.sliceApplied (.ref sl) (pure (n:Int))) Q E s:=by
 obtain ⟨os,hos,hcs,hds⟩:=id hs
 unfold Builtin.Slice.sliceApplied Builtin.Slice.sliceFields
 refine wpAny_bind (wpAny_bind (wpAny_field hos hds (x:=vl) rfl (wpAny_bind (wpAny_field hos hds (x:=vu) rfl (wpAny_bind (wpAny_field hos hds (x:=vk) rfl (wpAny_pure ?_)))))))
 refine wpAny_bind (zcb pk ?_)
 show wpAny _ _ (if (k.getD 1==0)=true then _ else _) _ _ s
 rw [if_neg (by rw [h0];exact Bool.false_ne_true)]
 refine wpAny_bind (zcb pl (wpAny_bind (zcb pu (wpAny_bind (wpAny_pure ?_)))))
 subst hr
 exact wpAny_pure h
theorem zbU{t sl:Addr}{items:Array Value}{vl vu vk:Value}{lo hi k:Option Int}{r:Int×Int}{cnt:Nat}{Q:Value→Shared→Prop}(ht:IsTup s.heap t items)(hs:s.heap.IsSliceOf sl vl vu vk)(pl:IsPart vl lo)(pu:IsPart vu hi)(pk:IsPart vk k)(h0:(k.getD 1==0)=false)
  (hr:Builtin.Slice.sliceAdjust lo hi (k.getD 1) items.size=r) (hc:Builtin.Slice.slicePlaces r.1 r.2 (k.getD 1)=cnt) (hle:cnt≤items.size)
  (h1:(r.1==0&&k.getD 1==1&&cnt==items.size)=true→Q (.ref t) s)
  (h2:(r.1==0&&k.getD 1==1&&cnt==items.size)=false→Q (.ref s.heap.objs.size) { s with heap:=s.heap.push { cls:=.type "tuple",data:=.seq ((List.range cnt).filterMap fun(j:Nat)=>items[(r.1+(j:Int)*k.getD 1).toNat]?).toArray } })
  (hsz:items.size≤sizeLine):wpAny (model prog w) A (getItem (.ref t) (.ref sl)) Q E s:=by
 have hpick:sizeOk (.seq ((List.range cnt).filterMap fun(j:Nat)=>items[(r.1+(j:Int)*k.getD 1).toNat]?).toArray):=by
  show (List.toArray _).size≤sizeLine
  rw [List.size_toArray]
  exact Nat.le_trans (List.length_filterMap_le _ _) (by rw [List.length_range];exact Nat.le_trans hle hsz)
 obtain ⟨os,hos,hcs,hds⟩:=id hs
 have hTs:s.TypeIs (.ref sl) "slice":=⟨os,hos,hcs⟩
 unfold getItem
 try with_reducible refine wpAny_holding ?_
 first | refine wpAny_bind (wpAny_pure ?_) | skip
 refine wpAny_bind (wpAny_sequenceKey ht.typeIs (by decide) ?_)
 refine wpAny_bind (wpAny_callSpecial?_slot (name:=Str.ofString "__getitem__") ht.typeIs slot_tuple_getitem
  (wpAny_call_entry slot_tuple_getitem ht.typeIs entry_tuple_getitem ?_ (args_tuple_getitem _ _)))
 show wpAny _ _ (Builtin.Tuple.tupleItemsOf (.ref t) >>= _) _ _ s
 refine wpAny_bind (tupleItemsOf_ ht ?_)
 refine wpAny_bind (wpAny_typeOf hTs ?_)
 rw [if_pos (by decide)]
 refine wpAny_bind (zdJ hs pl pu pk h0 hr ?_)
 show wpAny _ _ (if (r.1==0&&k.getD 1==1&&Builtin.Slice.slicePlaces r.1 r.2 (k.getD 1)==items.size)=true then _ else _) _ _ s
 rw [hc]
 cases q:(r.1==0&&k.getD 1==1&&cnt==items.size) with
 | true=>
  rw [if_pos rfl]
  have h:=h1 q
  refine wpAny_bind (m:=Builtin.Tuple.tupleIsExact (.ref t)) ?_
  unfold Builtin.Tuple.tupleIsExact
  refine wpAny_bind (m:=typeOf (.ref t)) (wpAny_typeOf ht.typeIs (wpAny_pure ?_))
  rw [if_pos (by decide)]
  refine wpAny_bind (wpAny_rule ?_)
  exact wpAny_pure (a:=Fin.done (Flow.ret (Value.ref t))) ⟨Value.ref t,rfl,wpAny_pure h⟩
 | false=>
  rw [if_neg Bool.false_ne_true]
  have h:=h2 q
  first
   | exact wpAny_bind (m:=Builtin.Tuple.tupleExact _) (wpAny_newObj_type (wpAny_pure ⟨_,rfl,wpAny_pure h⟩) hpick)
   | exact wpAny_bind (m:=Builtin.Tuple.tupleExact _) (wpAny_newObj_type (wpAny_bind (wpAny_pure (wpAny_pure ⟨_,rfl,wpAny_pure h⟩))) hpick)
   | exact wpAny_bind (wpAny_bind (m:=Builtin.Tuple.tupleExact _) (wpAny_newObj_type (wpAny_pure (wpAny_pure ⟨_,rfl,wpAny_pure h⟩)) hpick))
   | exact wpAny_bind (wpAny_bind (m:=Builtin.Tuple.tupleExact _) (wpAny_newObj_type (wpAny_pure ⟨_,rfl,wpAny_pure h⟩) hpick))
theorem zoi(lo hi:Option Int)(n:Nat):Builtin.Slice.sliceAdjust lo hi 1 (n:Int)=(((lo.elim 0 (clip n):Nat):Int),((hi.elim n (clip n):Nat):Int)):=by
 have c:∀ v:Int,(if v<0 then max (v+(n:Int)) 0 else min v (n:Int))=((clip n v:Nat):Int):=fun v=>by
  rw [zcl];split <;> lia
 unfold Builtin.Slice.sliceAdjust
 simp only [show ¬ ((1:Int)<0) by decide,if_false,c]
 cases lo <;> cases hi <;> rfl
theorem ziX(a b:Nat):Builtin.Slice.slicePlaces (a:Int) (b:Int) 1=b-a:=by
 unfold Builtin.Slice.slicePlaces
 simp only [show (1:Int)>0 by decide,if_true,Int.ediv_one]
 split <;> lia
theorem zl3(xs:Array Value)(a k:Nat):((List.range k).filterMap fun(j:Nat)=>xs[((a:Int)+(j:Int)*1).toNat]?)=(xs.toList.drop a).take k:=by
 have e:(fun(j:Nat)=>xs[((a:Int)+(j:Int)*1).toNat]?)=fun j=>xs[a+j]?:=by
  funext j
  rw [show ((a:Int)+(j:Int)*1).toNat=a+j by lia]
 rw [e]
 have:=pick_run xs a k
 rwa [List.filterMap_map] at this
theorem zoh(n:Nat):Builtin.Slice.sliceAdjust none (some 0) (-1) (n:Int)=((n:Int)-1,min 0 ((n:Int)-1)):=by
 unfold Builtin.Slice.sliceAdjust
 simp only [show ((-1:Int)<0) by decide,show ¬ ((0:Int)<0) by decide,if_true,if_false]
theorem ziW(n:Nat):Builtin.Slice.slicePlaces ((n:Int)-1) (min 0 ((n:Int)-1)) (-1)=n-1:=by
 unfold Builtin.Slice.slicePlaces
 simp only [show ¬ ((-1:Int)>0) by decide,if_false,show (- -1:Int)=1 from rfl,Int.ediv_one]
 split <;> lia
theorem fmc{α β:Type}{f g:α→Option β}:∀{l:List α},(∀ x∈l,f x=g x)→l.filterMap f=l.filterMap g
 | [],_=>rfl
 | x::l,h=>by rw [List.filterMap_cons,List.filterMap_cons,h x (.head _),fmc fun y hy=>h y (.tail _ hy)]
theorem zl2(xs:Array Value):((List.range (xs.size-1)).filterMap fun(j:Nat)=>xs[(((xs.size:Int)-1)+(j:Int)*(-1)).toNat]?)=(xs.toList.drop 1).reverse:=by
 have e:((List.range (xs.size-1)).filterMap fun(j:Nat)=>xs[(((xs.size:Int)-1)+(j:Int)*(-1)).toNat]?)=(List.range (xs.size-1)).filterMap fun j=>(xs.toList.drop 1).reverse[j]?:=by
  refine fmc fun j hj=>?_
  have hj:j<xs.size-1:=List.mem_range.mp hj
  rw [show (((xs.size:Int)-1)+(j:Int)*(-1)).toNat=xs.size-1-j by lia,List.getElem?_reverse (by rw [List.length_drop,Array.length_toList];exact hj),List.getElem?_drop,List.length_drop,Array.length_toList,← Array.getElem?_toList]
  congr 1
  lia
 rw [e]
 have hl:(xs.toList.drop 1).reverse.length=xs.size-1:=by rw [List.length_reverse,List.length_drop,Array.length_toList]
 rw [← hl]
 generalize (xs.toList.drop 1).reverse=l
 induction l with
 | nil=>rfl
 | cons x l ih=>rw [List.length_cons,List.range_succ_eq_map,List.filterMap_cons];simp only [List.getElem?_cons_zero,List.filterMap_map];exact congrArg (x::·) ih
theorem zj0{value slice:Expr}{sl:Addr}{vl vu:Value}{lo hi:Option Int}{l:Addr}{vs:Array Value}{n:Nat}{xs:List PV}(S:StoreOk prog w hB s.heap ι σ)(B:hB.StaysIn s.heap)(ra:Rep s.heap ι σ (.tup xs) (.ref l))
  (hs:s.heap.IsSliceOf sl vl vu .none) (pl:IsPart vl lo) (pu:IsPart vu hi) (e:s.heap.get? l=some { cls:=.type "tuple",data:=.seq vs n }) (rl:RepL s.heap ι σ xs vs.toList) (hb:xs.length≤2 ^ 20):SimV prog w hB A (subscriptTail value slice (.ref l) (.ref sl)) (M.ret (.tup (Mine.slc lo hi xs))) s ι σ:=by
 have hlen:xs.length=vs.size:=rl.length
 have hsz:vs.size≤sizeLine:=Nat.le_trans (Nat.le_of_eq hlen.symm) (Nat.le_trans hb (by decide))
 have hhi:hi.elim vs.size (clip vs.size)≤vs.size:=by cases hi with | none=>exact Nat.le_refl _ | some j=>exact zlp _ _
 intro Q E _ hok _
 refine zaV ⟨_,e,rfl⟩ slot_tuple_getitem.lookup (zbU (k:=none) ⟨_,e,rfl,_,rfl⟩ hs pl pu .none rfl (zoi lo hi vs.size) (ziX _ _) (Nat.le_trans (Nat.sub_le _ _) hhi) (fun q=>?_) (fun _=>?_) hsz)
 ·rw [Bool.and_eq_true] at q
  have q2:=eq_of_beq q.2
  exact hok _ _ rfl _ _ s.toks ι (Step.refl S B) (by rw [zgj (xs:=xs) (by rw [hlen];exact q2)];exact ra)
 ·have e2:(List.range (hi.elim vs.size (clip vs.size)-lo.elim 0 (clip vs.size))).filterMap (fun(j:Nat)=>vs[((((lo.elim 0 (clip vs.size):Nat):Int),((hi.elim vs.size (clip vs.size):Nat):Int)).1+(j:Int)*(none:Option Int).getD 1).toNat]?)=Mine.slc lo hi vs.toList:=by
   refine (zl3 vs _ _).trans ?_
   unfold Mine.slc;rw [Array.length_toList]
  rw [e2]
  exact hok _ _ rfl _ _ s.toks ι (Step.push S B _) (Rep.newTup S (rl.slc lo hi))
theorem zlU{value slice:Expr}{sl:Addr}{vl vu vk:Value}{l:Addr}{vs:Array Value}{n:Nat}{xs:List PV}(S:StoreOk prog w hB s.heap ι σ)(B:hB.StaysIn s.heap)
  (hs:s.heap.IsSliceOf sl vl vu vk) (pl:IsPart vl none) (pu:IsPart vu (some 0)) (pk:IsPart vk (some (-1))) (e:s.heap.get? l=some { cls:=.type "tuple",data:=.seq vs n }) (rl:RepL s.heap ι σ xs vs.toList) (hb:xs.length≤2 ^ 20):SimV prog w hB A (subscriptTail value slice (.ref l) (.ref sl)) (M.ret (.tup (xs.drop 1).reverse)) s ι σ:=by
 have hlen:xs.length=vs.size:=rl.length
 have hsz:vs.size≤sizeLine:=Nat.le_trans (Nat.le_of_eq hlen.symm) (Nat.le_trans hb (by decide))
 intro Q E _ hok _
 refine zaV ⟨_,e,rfl⟩ slot_tuple_getitem.lookup (zbU (k:=some (-1)) ⟨_,e,rfl,_,rfl⟩ hs pl pu pk rfl (zoh vs.size) (ziW _) (Nat.sub_le _ _) (fun q=>?_) (fun _=>?_) hsz)
 ·rw [show ((some (-1):Option Int).getD 1==1)=false from rfl,Bool.and_false,Bool.false_and] at q;cases q
 ·rw [show ((List.range (vs.size-1)).filterMap fun(j:Nat)=>vs[((((vs.size:Int)-1,min 0 ((vs.size:Int)-1)):Int×Int).1+(j:Int)*(some (-1):Option Int).getD 1).toNat]?)=(vs.toList.drop 1).reverse from zl2 vs]
  exact hok _ _ rfl _ _ s.toks ι (Step.push S B _) (Rep.newTup S (rl.drop 1).reverse)
theorem znm{value slice:Expr}{cx:Cx}{p:Pos}{a:PV}{x:Value}{sl:Addr}{vl vu vk:Value}{h k:Option Int}(S:StoreOk prog w hB s.heap ι σ)(B:hB.StaysIn s.heap)(ra:Rep s.heap ι σ a x)
  (hs:s.heap.IsSliceOf sl vl vu vk) (pl:IsPart vl none) (pu:IsPart vu h) (pk:IsPart vk k) :
  SimV prog w hB A (subscriptTail value slice x (.ref sl)) (revL cx p a h k) s ι σ:=by
 cases k with
 | none=>exact Sim.fail
 | some i=>exact Sim.cond (fun hi=>by
   have hi:i=-1:=of_decide_eq_true hi
   subst hi
   cases h with
   | none=>exact Sim.litems (t:=fun x=>subscriptTail value slice x (.ref sl)) S ra fun xs l vs n e rl=>Sim.cond (fun hb=>ziB S B hs pl pu pk e rl (of_decide_eq_true hb)) fun _=>Sim.fail
   | some j=>exact Sim.cond (fun hj=>by
     have hj:j=0:=of_decide_eq_true hj
     subst hj
     exact Sim.onTup (t:=fun x=>subscriptTail value slice x (.ref sl)) ra fun xs l vs n e nl rl=>Sim.cond (fun hb=>zlU S B hs pl pu pk e rl (of_decide_eq_true hb)) fun _=>Sim.fail) fun _=>Sim.fail) fun _=>Sim.fail
theorem zl0{value slice:Expr}{z:Str}{t:Tok}{sl:Addr}{vl vu:Value}{lo hi:Option Int}(S:StoreOk prog w hB s.heap ι σ)(B:hB.StaysIn s.heap)(hs:s.heap.IsSliceOf sl vl vu .none)(pl:IsPart vl lo)(pu:IsPart vu hi)(hb:z.length≤2 ^ 20) :
  SimV prog w hB A (subscriptTail value slice (.str z t) (.ref sl)) (M.ret (.str ⟨(Mine.slc lo hi z.cps.toList).toArray⟩)) s ι σ:=by
 obtain ⟨l,u,h1,rfl,rfl⟩:=zjd hs pl pu
 refine Sim.val S B rfl fun Q E hq=>zaV (typeIs_str s z t) F.slot_str_getitem.lookup (wpAny_getItem_str_slice h1 (by decide) ?_)
 have hn:z.cps.toList.length=z.length:=rfl
 have e1:slicePicked z l u none=(List.range ((u.map (·.1)).elim z.length (clip z.length)-(l.map (·.1)).elim 0 (clip z.length))).map (((l.map (·.1)).elim 0 (clip z.length))+·):=zoz _ _ _
 have e2:(slicePicked z l u none).filterMap (z.cps[·]?)=Mine.slc (l.map (·.1)) (u.map (·.1)) z.cps.toList:=by
  rw [e1,pick_run];rfl
 unfold sliceMade
 split
 ·rename_i hc
  have hc':(slicePicked z l u none).length=z.length:=eq_of_beq hc
  rw [e1,List.length_map,List.length_range] at hc'
  exact hq _ s.toks (by rw [zgj (xs:=z.cps.toList) hc'];exact .str _ _)
 ·rw [e2]
  refine ⟨?_,hq _ _ (.str _ _)⟩
  show (Mine.slc _ _ _).toArray.size≤sizeLine
  unfold Mine.slc
  rw [List.size_toArray,List.length_take,List.length_drop]
  exact Nat.le_trans (Nat.min_le_right _ _) (Nat.le_trans (Nat.sub_le _ _) (Nat.le_trans hb (by decide)))
theorem znt{value slice:Expr}{cx:Cx}{p:Pos}{a:PV}{x:Value}{sl:Addr}{vl vu:Value}{lo hi:Option Int}(S:StoreOk prog w hB s.heap ι σ)(B:hB.StaysIn s.heap)(ra:Rep s.heap ι σ a x)
  (hs:s.heap.IsSliceOf sl vl vu .none) (pl:IsPart vl lo) (pu:IsPart vu hi) :
  SimV prog w hB A (subscriptTail value slice x (.ref sl)) (cut cx p false a lo hi) s ι σ:=by
 have lst:SimV prog w hB A (subscriptTail value slice x (.ref sl)) ((litems a).bind fun xs=>M.cond (decide (xs.length≤2 ^ 20)) (zaD cx p (slc lo hi xs)) M.fail) s ι σ:=
  Sim.litems (t:=fun x=>subscriptTail value slice x (.ref sl)) S ra fun xs l vs n e rl=>Sim.cond (fun hb=>zl1 S B hs pl pu e rl (of_decide_eq_true hb)) fun _=>Sim.fail
 cases a with
 | str z=>obtain ⟨t,rfl⟩:=ra.inv;exact Sim.cond (fun hb=>zl0 S B hs pl pu (of_decide_eq_true hb)) fun _=>Sim.fail
 | tup xs=>obtain ⟨l,vs,n,rfl,e,nl,rl⟩:=id ra.inv;exact Sim.cond (fun hb=>zj0 S B ra hs pl pu e rl (of_decide_eq_true hb)) fun _=>Sim.fail
 | _=>exact lst
end
section
variable {prog:Program} {w:World} {hB:Heap} {A:Around} {s:Shared} {ι:Ad} {σ:zaa}
theorem zfI{A':Around}(hh:A'.handled=none){l:Addr}{vs:Array Value}{n:Nat}
  (e:zhN s.heap ι σ l vs n)
  (Q:Value→Shared→Prop) (E:Value→Shared→Prop)
  (h:∀(o:Obj)(St:Nat→Heap→Prop),Walks prog w A' s.heap.objs.size [s.heap.objs.size,l] [s.heap.objs.size] vs.size (fun i v=>vs[i]?=some v) St→St 0 (s.heap.push o)→Q (.ref s.heap.objs.size) { s with heap:=s.heap.push o }) :
  wpAny (model prog w) A' (pyIter (.ref l)) Q E s:=by
 rcases e with e | ⟨e,_⟩
 ·have hne:l≠s.heap.objs.size:=Nat.ne_of_lt (Heap.lt_size e)
  exact wpAny_pyIter_list ⟨_,e,rfl,_,rfl⟩ (h _ _ (Walks.list hh _ l hne vs) ⟨⟨_,Heap.get?_push_size _ rfl,rfl,rfl⟩,⟨_,Heap.get?_push_of_some _ e,rfl,_,rfl⟩⟩)
 ·have hne:l≠s.heap.objs.size:=Nat.ne_of_lt (Heap.lt_size e)
  exact wpAny_pyIter_tuple ⟨_,e,rfl,_,rfl⟩ (h _ _ (Walks.tuple hh _ l hne vs) ⟨⟨_,Heap.get?_push_size _ rfl,rfl,rfl⟩,⟨_,Heap.get?_push_of_some _ e,rfl,_,rfl⟩⟩)
theorem zdj{o:Obj}{h':Heap}(hk:∀ b o',b∉[s.heap.objs.size]→(s.heap.push o).get? b=some o'→h'.get? b=some o'):∀ b o',s.heap.get? b=some o'→h'.get? b=some o':=fun b o' e=>
 hk b o' (fun hm=>absurd (Heap.lt_size e) (by rw [List.mem_singleton.mp hm];exact Nat.lt_irrefl _)) (Heap.get?_push_of_some _ e)
theorem zfC{α:Type}{o:Option (List α)}{b:α}{bs:List α}(h:zjj b o=some bs):∃ r,o=some r∧bs=b::r:=by
 cases o with
 | none=>cases h
 | some r=>cases h;exact ⟨r,rfl,rfl⟩
theorem zil{h:Heap}:∀{xs:List PV}{vs:List Value}{bs:List Bool},RepL h ι σ xs vs→zbE xs=some bs→bs.length=vs.length∧∀(i:Nat)(v:Value),vs[i]?=some v→v=.bool ((bs[i]?).getD false)
 | [],_,_,r,e=>by cases r;cases e;exact ⟨rfl,fun i v h=>nomatch h⟩
 | x::xs,_,bs,r,e=>by
  cases r with
  | cons r rs=>
   cases x with
   | bool b=>
    obtain ⟨r',h1,rfl⟩:=zfC (o:=zbE xs) (b:=b) (bs:=bs) e
    obtain ⟨h2,h3⟩:=zil rs h1
    refine ⟨congrArg Nat.succ h2,fun i v h=>?_⟩
    cases i with
    | zero=>exact (Option.some.inj h).symm.trans r.inv
    | succ i=>exact h3 i v h
   | _=>cases e
theorem zkW{h:Heap}:∀{xs:List PV}{vs:List Value}{bs:List Int},RepL h ι σ xs vs→zdI xs=some bs→bs.length=vs.length∧∀(i:Nat)(v:Value),vs[i]?=some v→∃(t:Tok),v=.int ((bs[i]?).getD 0) t
 | [],_,_,r,e=>by cases r;cases e;exact ⟨rfl,fun i v h=>nomatch h⟩
 | x::xs,_,bs,r,e=>by
  cases r with
  | cons r rs=>
   cases x with
   | int b=>
    obtain ⟨r',h1,rfl⟩:=zfC (o:=zdI xs) (b:=b) (bs:=bs) e
    obtain ⟨h2,h3⟩:=zkW rs h1
    refine ⟨congrArg Nat.succ h2,fun i v h=>?_⟩
    cases i with
    | zero=>obtain ⟨t,q⟩:=r.inv;exact ⟨t,(Option.some.inj h).symm.trans q⟩
    | succ i=>exact h3 i v h
   | _=>cases e
theorem zhc{h:Heap}:∀{xs:List PV}{vs:List Value}{ss:List Str},RepL h ι σ xs vs→zg2 xs=some ss→StrsAre vs ss
 | [],_,_,r,e=>by cases r;cases e;exact .nil
 | x::xs,_,bs,r,e=>by
  cases r with
  | cons r rs=>
   cases x with
   | str b=>
    obtain ⟨r',h1,rfl⟩:=zfC (o:=zg2 xs) (b:=b) (bs:=bs) e
    obtain ⟨t,rfl⟩:=r.inv
    exact .cons _ _ (zhc rs h1)
   | _=>cases e
theorem zkf{bs:List Bool}(f:Nat→Bool)(hf:∀ i b,bs[i]?=some b→f i=b):(List.range bs.length).map f=bs:=by
 apply List.ext_getElem?
 intro i
 simp only [List.getElem?_map]
 by_cases h:i<bs.length
 ·rw [List.getElem?_range h,List.getElem?_eq_getElem h];simp [hf i _ (List.getElem?_eq_getElem h)]
 ·rw [List.getElem?_eq_none (by simpa using h),List.getElem?_eq_none (by simpa using h)];rfl
theorem zeb:∀(ns:List Int)(val:Nat→Int)(acc:Int),(∀ i b,ns[i]?=some b→val i=b)→zd5 acc ns=true→
  ∀ j,j≤ns.length→acc+preSum val j=acc+(ns.take j).sum:=by
 intro ns val acc hv hok j hj
 congr 1
 induction j with
 | zero=>rfl
 | succ j ih=>
  have hlt:j<ns.length:=hj
  rw [preSum,ih (Nat.le_of_lt hlt),hv j ns[j] (List.getElem?_eq_getElem hlt),List.take_succ_eq_append_getElem hlt,List.sum_append,List.sum_cons,List.sum_nil,Int.add_zero]
theorem zgf:∀(ns:List Int)(acc:Int),zd5 acc ns=true→∀ j,(h:j<ns.length)→zbN ns[j]=true∧zbN (acc+(ns.take (j+1)).sum)=true
 | [],_,_,j,h=>absurd h (Nat.not_lt_zero _)
 | x::r,acc,e,j,h=>by
  simp only [zd5,Bool.and_eq_true] at e
  cases j with
  | zero=>simp only [List.getElem_cons_zero,Nat.zero_add,List.take_succ_cons,List.take_zero,List.sum_cons,List.sum_nil,Int.add_zero];exact ⟨e.1.1,e.1.2⟩
  | succ j=>
   have:=zgf r (acc+x) e.2 j (by simpa using h)
   simp only [List.getElem_cons_succ,List.take_succ_cons,List.sum_cons]
   rw [← Int.add_assoc];exact this
theorem zno{v:PV}{x:Value}(S:StoreOk prog w hB s.heap ι σ)(B:hB.StaysIn s.heap)(r:Rep s.heap ι σ v x):SimV prog w hB A (call (.builtin "len") [x]) ((znK v).bind fun n=>M.ret (.int n)) s ι σ:=by
 have core:∀{n:Nat},(∀ Q E,(∀ t tk,Q (.int n t) { s with toks:=tk })→n≤2 ^ 20→wpAny (model prog w) A (call (.builtin "len") [x]) Q E s)→SimV prog w hB A (call (.builtin "len") [x]) ((zgz n).bind fun n=>M.ret (.int n)) s ι σ:=by
  intro n h
  unfold zgz
  by_cases hn:n≤2 ^ 20
  ·rw [decide_eq_true hn]
   exact Sim.val S B rfl fun Q E hq=>h Q E (fun t tk=>hq _ tk (.int _ _)) hn
  ·rw [decide_eq_false hn];exact Sim.stuck rfl
 have big:∀{n:Nat},n≤2 ^ 20→(n:Int)<2 ^ 63:=fun h=>by lia
 cases v with
 | str y=>obtain ⟨t,rfl⟩:=r.inv;exact core fun Q E hq hn=>P.len_str (by have:=big hn;lia) (hq _ _)
 | tup xs=>obtain ⟨l,vs,n,rfl,e,nl,rl⟩:=r.inv;exact core fun Q E hq hn=>by rw [rl.length] at hq hn;exact PyProof.Rows.len_tuple ⟨_,e,rfl,_,rfl⟩ (big hn) (hq _ _)
 | lst xs=>obtain ⟨l,vs,n,rfl,e,nl,rl⟩:=r.inv;exact core fun Q E hq hn=>by rw [rl.length] at hq hn;exact Calls.call_len_list ⟨_,e,rfl,_,rfl⟩ (big hn) (hq _ _)
 | ref i=>
  obtain ⟨a,rfl,hi⟩:=r.inv
  refine Sim.res (Sim.cel S hi fun c hc ok=>?_) (zaf _ _ _)
  cases c with
  | list xs=>
   obtain ⟨vs,⟨n,hp⟩,rl⟩:=ok
   exact core (n:=xs.length) fun Q E hq hn=>by rw [rl.length] at hq hn;exact Calls.call_len_list ⟨_,hp,rfl,_,rfl⟩ (big hn) (hq _ _)
  | dict kvs=>
   obtain ⟨ys,hd,hk,rl⟩:=ok
   have hlen:ys.length=kvs.length:=by have:=congrArg List.length hk;rwa [List.length_map,List.length_map] at this
   refine core (n:=kvs.length) fun Q E hq hn=>?_
   rw [← hlen] at hq hn
   exact call_len_dict (zgu S (List.mem_of_getElem? hi)) hd (big hn) (hq _ _)
  | dead=>exact Sim.fail
 | _=>exact Sim.fail
theorem zj6{v:PV}{x:Value}(S:StoreOk prog w hB s.heap ι σ)(B:hB.StaysIn s.heap)(hh:A.handled=none)(r:Rep s.heap ι σ v x) :
  SimV prog w hB A (call (.builtin "all") [x]) ((items v).bind fun xs=>(M.lift (zbE xs)).bind fun bs=>M.ret (.bool (bs.all id))) s ι σ∧SimV prog w hB A (call (.builtin "any") [x]) ((items v).bind fun xs=>(M.lift (zbE xs)).bind fun bs=>M.ret (.bool (bs.any id))) s ι σ:=by
 have core:∀{l:Addr}{vs:Array Value}{n:Nat}{xs:List PV}{bs:List Bool},zhN s.heap ι σ l vs n→RepL s.heap ι σ xs vs.toList→zbE xs=some bs→
   SimV prog w hB A (call (.builtin "all") [.ref l]) (M.ret (.bool (bs.all id))) s ι σ∧SimV prog w hB A (call (.builtin "any") [.ref l]) (M.ret (.bool (bs.any id))) s ι σ:=by
  intro l vs n xs bs e rl hb
  obtain ⟨h1,h2⟩:=zil rl hb
  have tr:TruthOf prog w A.in1 (fun i v=>vs[i]?=some v) (fun i=>(bs[i]?).getD false):=fun i v s' Q E hv hq=>by
   rw [h2 i v ((Array.getElem?_toList ..).trans hv)]
   exact wpAny_truthy_bool hq
  have hmap:(List.range vs.size).map (fun i=>(bs[i]?).getD false)=bs:=by
   rw [← Array.length_toList,← h1]
   exact zkf _ fun i b hib=>by rw [hib];rfl
  constructor
  ·intro Q E _ hok _
   refine call_all_walk (zfI (A':=A.in1) hh e _ _ fun o St W st=>⟨_,_,_,_,_,_,_,rfl,W,st,tr,fun h' tk hk=>?_⟩)
   rw [show (List.range vs.size).all (fun i=>(bs[i]?).getD false)=bs.all id from (List.all_map (f:=fun i=>(bs[i]?).getD false) (p:=id) (l:=List.range vs.size)).symm.trans (by rw [hmap])]
   exact hok _ σ rfl _ h' tk ι (Step.keeps S B (zdj hk)) (.bool _)
  ·intro Q E _ hok _
   refine call_any_walk (zfI (A':=A.in1) hh e _ _ fun o St W st=>⟨_,_,_,_,_,_,_,rfl,W,st,tr,fun h' tk hk=>?_⟩)
   rw [show (List.range vs.size).any (fun i=>(bs[i]?).getD false)=bs.any id from (List.any_map (f:=fun i=>(bs[i]?).getD false) (p:=id) (l:=List.range vs.size)).symm.trans (by rw [hmap])]
   exact hok _ σ rfl _ h' tk ι (Step.keeps S B (zdj hk)) (.bool _)
 exact ⟨Sim.items (t:=fun x=>call (.builtin "all") [x]) S r fun xs l vs n e rl=>Sim.lift fun bs hb=>(core e rl hb).1,Sim.items (t:=fun x=>call (.builtin "any") [x]) S r fun xs l vs n e rl=>Sim.lift fun bs hb=>(core e rl hb).2⟩
theorem znl{v:PV}{x:Value}(S:StoreOk prog w hB s.heap ι σ)(B:hB.StaysIn s.heap)(hh:A.handled=none)(r:Rep s.heap ι σ v x) :
  SimV prog w hB A (call (.builtin "sum") [x]) ((items v).bind fun xs=>(M.lift (zdI xs)).bind fun ns=>M.cond (zd5 0 ns) (M.ret (.int ns.sum)) M.fail) s ι σ:=by
 refine Sim.items (t:=fun x=>call (.builtin "sum") [x]) S r fun xs l vs n e rl=>Sim.lift fun ns hb=>Sim.cond (fun hok'=>?_) fun _=>Sim.fail
 obtain ⟨h1,h2⟩:=zkW rl hb
 have hv:∀(i:Nat)(b:Int),ns[i]?=some b→(ns[i]?).getD 0=b:=fun i b q=>by rw [q];rfl
 have hn:ns.length=vs.size:=h1
 intro Q E _ hok _
 refine call_sum_walk (zfI (A':=A.in1) hh e _ _ fun o St W st=>⟨_,_,_,_,_,_,fun i=>(ns[i]?).getD 0,rfl,W,st,fun b hb'=>?_,fun i v hv'=>h2 i v ((Array.getElem?_toList ..).trans hv'),fun j hj=>?_,fun h' tk t' hk=>?_⟩)
 ·rw [size_push]
  rcases List.mem_cons.mp hb' with rfl | hb'
  ·exact Nat.lt_succ_self _
  ·rw [List.mem_singleton.mp hb'];exact Nat.lt_succ_of_lt (e.elim Heap.lt_size fun e=>Heap.lt_size e.1)
 ·have hj':j<ns.length:=by lia
  obtain ⟨a1,a2⟩:=zgf ns 0 hok' j hj'
  have e1:=zeb ns _ 0 hv hok' (j+1) hj'
  rw [Int.zero_add,Int.zero_add] at e1
  rw [Int.zero_add] at a2
  have b1:=small_iff.mp a1;have b2:=small_iff.mp a2
  rw [e1]
  have e2:(ns[j]?).getD 0=ns[j]:=hv j _ (List.getElem?_eq_getElem hj')
  simp only [e2]
  unfold InLong
  lia
 ·have e1:=zeb ns _ 0 hv hok' ns.length (Nat.le_refl _)
  rw [Int.zero_add,Int.zero_add,List.take_length] at e1
  rw [← hn,e1]
  exact hok _ σ rfl _ h' tk ι (Step.keeps S B (zdj hk)) (.int _ _)
theorem zjQ{v:PV}{x:Value}(S:StoreOk prog w hB s.heap ι σ)(B:hB.StaysIn s.heap)(r:Rep s.heap ι σ v x) :
  SimV prog w hB A (call (.type "tuple") [x]) ((items v).bind fun xs=>M.cond (decide (xs.length≤2 ^ 20)) (M.ret (.tup xs)) M.fail) s ι σ:=by
 refine Sim.items (t:=fun x=>call (.type "tuple") [x]) S r fun xs l vs n e rl=>Sim.cond (fun hn=>?_) fun _=>Sim.fail
 have hsz:vs.size≤sizeLine:=Nat.le_trans (Nat.le_of_eq rl.length.symm) (Nat.le_trans (of_decide_eq_true hn) (by decide))
 rcases e with e | ⟨e,nl⟩
 ·intro Q E _ hok _
  refine call_tuple_list ⟨_,e,rfl,_,rfl⟩ (fun h' hk=>?_) hsz
  have X:=Step.keeps (prog:=prog) (w:=w) S B hk
  exact hok _ _ rfl _ _ s.toks ι (X.trans S.len (Step.push X.store X.stays _)) (Rep.newTup X.store (rl.step S.len X))
 ·exact Sim.val S B rfl fun Q E hq=>call_tuple_same ⟨_,e,rfl,_,rfl⟩ (hq _ s.toks (.tup e nl rl))
theorem zhR{cx:Cx}{p:Pos}{l:Addr}{vs:Array Value}{n:Nat}{xs:List PV}(S:StoreOk prog w hB s.heap ι σ)(B:hB.StaysIn s.heap)(e:zhN s.heap ι σ l vs n)(rl:RepL s.heap ι σ xs vs.toList)(hn:xs.length≤2 ^ 20) :
  SimV prog w hB A (call (.type "list") [.ref l]) (zaD cx p xs) s ι σ:=by
 refine zd7 S B rl fun Q E h=>?_
 have hsz:vs.size≤sizeLine:=Nat.le_trans (Nat.le_of_eq rl.length.symm) (Nat.le_trans hn (by decide))
 rcases e with e | ⟨e,_⟩
 ·exact call_list_seq l (.inl rfl) e rfl rfl (fun h' c' hk hd=>h _ h' c' s.toks (zaB _) hk hd) hsz
 ·exact call_list_seq l (.inr rfl) e rfl rfl (fun h' c' hk hd=>h _ h' c' s.toks (zaB _) hk hd) hsz
end
end Mine
namespace Mine
open PySem
noncomputable section
noncomputable def arg0{β:Type}(vs:List PV)(k:M β):M β:=match vs with
 | []=>k
 | _::_=>M.fail
noncomputable def arg1{β:Type}(vs:List PV)(k:PV→M β):M β:=match vs with
 | []=>M.fail
 | v::r=>arg0 r (k v)
noncomputable def arg2{β:Type}(vs:List PV)(k:PV→PV→M β):M β:=match vs with
 | []=>M.fail
 | v::r=>arg1 r (k v)
noncomputable def zpQ:PV→M PV
 | .bool b=>M.ret (.int (if b then 1 else 0))
 | _=>M.fail
noncomputable def znH(cx:Cx)(p:Pos):PV→M PV
 | .ref i=>(cget i).bind fun c=>match c with
  | .list xs=>M.cond (decide (xs.length≤2 ^ 20)) (zaD cx p xs) M.fail
  | .dict kvs=>M.cond (cx.md.lp&&decide (kvs.length≤2 ^ 20)) (zaD cx p (kvs.map fun kv=>.str kv.1)) M.fail
  | .dead=>M.fail
 | v=>(items v).bind fun xs=>M.cond (decide (xs.length≤2 ^ 20)) (zaD cx p xs) M.fail
noncomputable def zpb(v:PV):M PV:=onRef v fun i=>(dget i).bind fun kvs=>M.cond (decide (kvs.length<1000)) (cnew (.dict kvs)) M.fail
inductive Bi where
 | len | all | any | sum | list | tuple | int | min | dict
noncomputable def zfX(cx:Cx)(p:Pos)(f:Bi)(vs:List PV):M PV:=match f with
 | .len=>arg1 vs fun v=>(znK v).bind fun n=>M.ret (.int n)
 | .all=>arg1 vs fun v=>M.cond cx.md.lp ((items v).bind fun xs=>(M.lift (zbE xs)).bind fun bs=>M.ret (.bool (bs.all id))) M.fail
 | .any=>arg1 vs fun v=>M.cond cx.md.lp ((items v).bind fun xs=>(M.lift (zbE xs)).bind fun bs=>M.ret (.bool (bs.any id))) M.fail
 | .sum=>arg1 vs fun v=>M.cond cx.md.lp ((items v).bind fun xs=>(M.lift (zdI xs)).bind fun ns=>M.cond (zd5 0 ns) (M.ret (.int ns.sum)) M.fail) M.fail
 | .list=>arg1 vs (znH cx p)
 | .tuple=>arg1 vs fun v=>(items v).bind fun xs=>M.cond (decide (xs.length≤2 ^ 20)) (M.ret (.tup xs)) M.fail
 | .int=>arg1 vs zpQ
 | .min=>arg2 vs fun a b=>onInt a fun a=>onInt b fun b=>M.cond cx.md.lp (M.ret (.int (if b<a then b else a))) M.fail
 | .dict=>arg1 vs zpb
noncomputable def biTab:List (Str×Bi):=[("len",.len),("all",.all),("any",.any),("sum",.sum),("list",.list),("tuple",.tuple),("int",.int),("min",.min),("dict",.dict)
 ]
noncomputable def builtin(cx:Cx)(p:Pos)(f:Str)(vs:List PV):M PV:=(M.lift (biTab.lookup f)).bind fun b=>zfX cx p b vs
noncomputable def zbp(x:PV):List PV→Nat→Option Nat
 | [],_=>Option.none
 | y::ys,i=>if eqv y x then some i else zbp x ys (i+1)
noncomputable def zdk(x:PV)(ys:List PV):M Nat:=(wholeM x).bind fun x'=>(zbY ys).bind fun ys'=>M.lift (zbp x' ys' 0)
noncomputable def zfT(x:PV)(ys:List PV):M Nat:=(wholeM x).bind fun x'=>(zbY ys).bind fun ys'=>M.ret (ys'.countP fun y=>eqv y x')
noncomputable def tnOf:PV→M Tn
 | .none=>M.ret .none
 | .bool _=>M.ret .bool
 | .int _=>M.ret .int
 | .str _=>M.ret .str
 | .tup _=>M.ret .tuple
 | .lst _=>M.ret .list
 | .ref i=>(cget i).bind fun c=>match c with
  | .list _=>M.ret .list
  | .dict _=>M.ret .dict
  | .dead=>M.fail
 | .exc _=>M.fail
inductive Mt where
 | append | clear | extend | index | count
 | join
 | get
noncomputable def zl9:Tn→List (Str×Mt)
 | .list=>[("append",.append),("clear",.clear),("extend",.extend),("index",.index),("count",.count)]
 | .str=>[("join",.join)
  ]
 | .dict=>[("get",.get)]
 | _=>[]
noncomputable def mtOf(T:Tn)(f:Str):Option Mt:=(zl9 T).lookup f
noncomputable def zpU(kvs:List (Str×PV))(vs:List PV):M PV:=match vs with
 | []=>M.fail
 | k::r=>onStr k fun k=>match r with
  | []=>M.ret ((dat kvs k).getD .none)
  | d::r=>arg0 r (M.ret ((dat kvs k).getD d))
noncomputable def zgO(a b:List (Str×PV)):List (Str×PV):=b.foldl (fun d kv=>dput kv.1 kv.2 d) a
noncomputable def zdy(cx:Cx)(p:Pos)(m:Mt)(o:PV)(vs:List PV):M PV:=
 match m with
 | .get=>onRef o fun i=>(dget i).bind fun kvs=>zpU kvs vs
 | .append=>onRef o fun i=>arg1 vs fun v=>(lget i).bind fun xs=>M.cond (decide (xs.length<2 ^ 20)) ((cset i (.list (xs++[v]))).bind fun _=>M.ret .none) M.fail
 | .clear=>onRef o fun i=>arg0 vs ((lget i).bind fun xs=>M.cond (decide (xs.length<2 ^ 20)) ((cset i (.list [])).bind fun _=>M.ret .none) M.fail)
 | .extend=>onRef o fun i=>arg1 vs fun v=>onLst v fun ys=>(lget i).bind fun xs=>M.cond (decide (xs.length+ys.length<2 ^ 20)) ((cset i (.list (xs++ys))).bind fun _=>M.ret .none) M.fail
 | .index=>arg1 vs fun v=>(litems o).bind fun xs=>M.cond (decide (xs.length<2 ^ 20)) ((zdk v xs).bind fun n=>M.ret (.int n)) M.fail
 | .count=>arg1 vs fun v=>(litems o).bind fun xs=>(zfT v xs).bind fun n=>M.ret (.int n)
 | .join=>onStr o fun s=>arg1 vs fun v=>(items v).bind fun xs=>(M.lift (zg2 xs)).bind fun ss=>M.cond (decide ((ss.map (·.length)).sum+ss.length*s.length≤16777216)) (M.ret (.str (Str.join s ss))) M.fail
structure Src where
 xs:List PV
 watch:List (Nat×List PV)
open Classical in
noncomputable def chkW:List (Nat×List PV)→M Unit
 | []=>M.ret ()
 | (i,xs)::r=>fun σ=>if σ[i]?=some (.list xs) then chkW r σ else .stuck
noncomputable def zaJ(a:Int):Nat→List PV
 | 0=>[]
 | n+1=>.int a::zaJ (a+1) n
noncomputable def zdN:List Nat→List PV
 | []=>[]
 | c::r=>.str ⟨#[c]⟩::zdN r
noncomputable def zbr:PV→M Src
 | .tup xs=>M.ret ⟨xs,[]⟩
 | .lst xs=>M.ret ⟨xs,[]⟩
 | .str s=>M.ret ⟨zdN s.cps.toList,[]⟩
 | .ref i=>(lget i).bind fun xs=>M.ret ⟨xs,[(i,xs)]⟩
 | _=>M.fail
noncomputable def zch:Expr→Nat
 | .Name ..=>1
 | .Tuple ..=>2
 | .Starred ..=>3
 | .Set ..=>4
 | .Constant ..=>5
 | .Subscript ..=>6
 | .Slice ..=>7
 | .ListComp ..=>8
 | _=>0
noncomputable def nmOf(e:Expr):Option { x:Str×Pos // e=.Name x.1 x.2 }:=match e with
 | .Name x p=>some ⟨(x,p),rfl⟩
 | _=>Option.none
noncomputable def zcG(sc:Scope)(ρ:Loc)(v:PV)(x:Str):Option Loc:=match sc.names.lookup x with
 | some .local=>some (ρ.set x v)
 | some .cell=>some (ρ.set x v)
 | _=>Option.none
noncomputable def zdq(sc:Scope)(ρ:Loc)(v:PV)(t:Expr):Option Loc:=(nmOf t).bind fun x=>zcG sc ρ v x.1.1
noncomputable def zbf(sc:Scope)(ρ:Loc):List Expr→List PV→Option Loc
 | [],vs=>match vs with
  | []=>some ρ
  | _::_=>Option.none
 | t::ts,vs=>match vs with
  | []=>Option.none
  | v::vs=>(zdq sc ρ v t).bind fun ρ'=>zbf sc ρ' ts vs
noncomputable def zpp:PV→Option (List PV)
 | .tup vs=>some vs
 | _=>Option.none
noncomputable def zfY(sc:Scope)(ρ:Loc)(t:Expr)(v:PV):Option Loc:=
 match t with
 | .Tuple ts _ _=>(zpp v).bind (zbf sc ρ ts)
 | t=>zdq sc ρ v t
noncomputable def zfZ{α:Type}(sc:Scope):Loc→List Expr→List PV→(Loc→M α)→M α
 | ρ,[],vs,k=>match vs with
  | []=>k ρ
  | _::_=>M.fail
 | ρ,t::ts,vs,k=>match vs with
  | []=>M.fail
  | v::vs=>(M.lift (zdq sc ρ v t)).bind fun ρ'=>zfZ sc ρ' ts vs k
noncomputable def tupC{α:Type}(v:PV)(f:List PV→M α):M α:=match v with
 | .tup vs=>f vs
 | _=>M.fail
noncomputable def zmZ{α:Type}(sc:Scope)(ρ:Loc)(t:Expr)(v:PV)(k:Loc→M α):M α:=
 match t with
 | .Tuple ts _ _=>tupC v fun vs=>zfZ sc ρ ts vs k
 | t=>(M.lift (zdq sc ρ v t)).bind k
section
variable (E:Expr→M PV)
noncomputable def evs:List Expr→M (List PV)
 | []=>M.ret []
 | e::r=>(E e).bind fun v=>(evs r).bind fun vs=>M.ret (v::vs)
noncomputable def zff(op:BoolOp):List Expr→M PV
 | []=>M.fail
 | [e]=>E e
 | e::r=>(E e).bind fun v=>(zar v).bind fun b=>match op,b with
  | .And,false=>M.ret v
  | .Or,true=>M.ret v
  | _,_=>zff op r
noncomputable def zhC(a:PV):List CmpOp→List Expr→M PV
 | [],_=>M.fail
 | op::ops,es=>match es with
  | []=>M.fail
  | e::es=>match ops with
   | []=>match es with
    | []=>(E e).bind fun b=>zac op a b
    | _::_=>M.fail
   | op₂::ops₂=>(E e).bind fun b=>(zac op a b).bind fun c=>(zar c).bind fun t=>M.cond t (zhC b (op₂::ops₂) es) (M.ret c)
noncomputable def zbv:Option Expr→M (Option Int)
 | Option.none=>M.ret Option.none
 | some e=>(E e).bind fun v=>M.lift (zkp v)
end
noncomputable def zli:Const→Option PV
 | .none=>some .none
 | .bool b=>some (.bool b)
 | .int i=>some (.int i)
 | .str s=>some (.str s)
 | _=>Option.none
noncomputable def zmX(e:Expr):Option { x:Const×Nat×Pos // e=.Constant x.1 x.2.1 x.2.2 }:=match e with
 | .Constant c k p=>some ⟨(c,k,p),rfl⟩
 | _=>Option.none
noncomputable def strK(c:Const):Option { s:Str // c=.str s }:=match c with
 | .str s=>some ⟨s,rfl⟩
 | _=>Option.none
noncomputable def zdT:List (Option Expr)→List Expr→Option (List (Str×PV))
 | [],vs=>match vs with
  | []=>some []
  | _::_=>Option.none
 | k::ks,vs=>match vs with
  | []=>Option.none
  | v::vs=>k.bind fun k=>(zmX k).bind fun k=>(strK k.1.1).bind fun k=>(zmX v).bind fun c=>(zli c.1.1).bind fun x=>(zdT ks vs).bind fun r=>some ((k.1,x)::r)
noncomputable def za6(chk:M Unit)(f:PV→M (Option PV)):List PV→M (List PV)
 | []=>chk.bind fun _=>M.ret []
 | x::xs=>chk.bind fun _=>(f x).bind fun o=>(za6 chk f xs).bind fun ys=>M.ret (match o with | some y=>y::ys | Option.none=>ys)
noncomputable def inner(csc:Scope)(ρ:Loc):Loc:=fun y=>match csc.names.lookup y with
 | some .free=>ρ y
 | _=>Option.none
noncomputable def zln(sc csc:Scope)(it:Expr):Bool:=
 decide (csc.kind=.function) &&
 (csc.names.all fun x=>match x.2 with
  | .local=>decide (csc.names.lookup x.1=some .local)&&decide (x.1≠"__debug__")
  | .free=>decide (sc.names.lookup x.1=some .cell)&&decide (csc.names.lookup x.1=some .free)
  | .globalImplicit=>decide (x.1≠"__debug__")
  | _=>false) &&
 decide ((csc.names.map (·.1)).Nodup) &&
 (zch it != 4)
noncomputable def isTg(e:Expr):Bool:=zch e==1 || zch e==2
noncomputable def zmj(cx:Cx)(sc:Scope)(ρ:Loc)(v:PV)(x:Str):M Bool:=(M.lift (tyOf cx sc ρ x)).bind fun t=>zbT cx.G t v
noncomputable def zjc(G:Gl)(v:PV):List Ty→M Bool
 | []=>M.ret false
 | t::r=>(zbT G t v).bind fun b=>M.cond b (M.ret true) (zjc G v r)
noncomputable def ziu(cx:Cx)(sc:Scope)(ρ:Loc):List Expr→Option (List Ty)
 | []=>some []
 | e::r=>(nmOf e).bind fun x=>(tyOf cx sc ρ x.1.1).bind fun t=>(ziu cx sc ρ r).bind fun ts=>some (t::ts)
noncomputable def isTy(cx:Cx)(sc:Scope)(ρ:Loc)(v:PV)(es:List Expr):M Bool:=(M.lift (ziu cx sc ρ es)).bind fun ts=>M.cond ts.isEmpty M.fail (zjc cx.G v ts)
noncomputable def zau(args:List Expr):Bool:=decide (args.length≤10)&&args.all fun e=>zch e != 3
noncomputable def za4(k:Int):Bool:=decide (-1000000≤k)&&decide (k≤1000000)
noncomputable def zaF(vs:List PV):M Src:=match vs with
 | []=>M.fail
 | v::r=>onInt v fun k=>match r with
  | []=>M.cond (za4 k) (M.ret ⟨zaJ 0 k.toNat,[]⟩) M.fail
  | v::r=>arg0 r (onInt v fun l=>M.cond (za4 k&&za4 l) (M.ret ⟨zaJ k (l-k).toNat,[]⟩) M.fail)
noncomputable def zmY(e:Expr):Option { x:Expr×List Expr×Pos // e=.Call x.1 x.2.1 [] x.2.2 }:=match e with
 | .Call f args kws p=>match kws with
  | []=>some ⟨(f,args,p),rfl⟩
  | _::_=>Option.none
 | _=>Option.none
noncomputable def zpP(y:Str):Callee→Bool
 | .bi z=>decide (z=y)
 | _=>false
noncomputable def zcr(g:Str)(cx:Cx)(sc:Scope)(ρ:Loc)(e:Expr):Option (List Expr):=
 (zmY e).bind fun c=>(nmOf c.1.1).bind fun f=>(zat cx sc ρ f.1.1).bind fun y=>bif zpP g y then some c.1.2.1 else Option.none
noncomputable def lsrc:PV→M Src
 | .lst xs=>M.ret ⟨xs,[]⟩
 | .ref i=>(lget i).bind fun xs=>M.ret ⟨xs,[(i,xs)]⟩
 | _=>M.fail
noncomputable def zb2:Nat→List PV→List PV
 | _,[]=>[]
 | i,x::r=>.tup [.int i,x]::zb2 (i+1) r
noncomputable def zc2(vs:List PV):M Src:=arg1 vs fun v=>(lsrc v).bind fun s=>M.ret ⟨zb2 0 s.xs,s.watch⟩
noncomputable def zc1(E:Expr→M PV)(args:List Expr)(F:List PV→M Src):M Src:=M.cond (zau args) ((evs E args).bind F) M.fail
noncomputable def zcu(cx:Cx)(sc:Scope)(ρ:Loc)(E:Expr→M PV)(t it:Expr):M Src:=
 match zcr "range" cx sc ρ it with
 | some args=>zc1 E args zaF
 | Option.none=>match zcr "enumerate" cx sc ρ it with
  | some args=>M.cond (zch t==2) (zc1 E args zc2) M.fail
  | Option.none=>
    (E it).bind zbr
noncomputable def zpT(cx:Cx)(sc:Scope)(ρ:Loc)(E:Expr→M PV)(x t:Expr):M PV:=match t with
 | .Tuple ts _ _=>M.cond (decide (ts.length≤10)) ((E x).bind fun v=>(isTy cx sc ρ v ts).bind fun b=>M.ret (.bool b)) M.fail
 | .Name t _=>(E x).bind fun v=>(zmj cx sc ρ v t).bind fun b=>M.ret (.bool b)
 | _=>M.fail
noncomputable def evIs(cx:Cx)(sc:Scope)(ρ:Loc)(E:Expr→M PV)(es:List Expr):M PV:=match es with
 | [x,t]=>zpT cx sc ρ E x t
 | _=>M.fail
noncomputable def zkA(o:Expr)(ap p:Pos)(args:List Expr):Bool:=
 decide (ap.endLine=p.line)&&zau args&&(zch o==1 || zch o==5 || zch o==6)
section
variable (cx:Cx) (sc:Scope) (ρ:Loc) (E:Expr→M PV)
noncomputable def zk7(x:Str)(p:Pos):M PV:=match zat cx sc ρ x with
 | some (.val v)=>M.cond (cx.G.fz.contains (p.line,p.col)) (zfd v) (M.ret v)
 | _=>M.fail
noncomputable def evUn(op:UnaryOp)(x:Expr):M PV:=match op with
 | .Not=>(E x).bind fun a=>(zar a).bind fun b=>M.ret (.bool !b)
 | .USub=>(E x).bind fun a=>onInt a fun i=>M.ret (.int (-i))
 | _=>M.fail
noncomputable def zmq(v i:Expr)(p:Pos):M PV:=match i with
 | .Slice lo hi st _=>match st with
  | Option.none=>(E v).bind fun o=>(zbv E lo).bind fun l=>(zbv E hi).bind fun h=>cut cx p false o l h
  | some st=>match lo with
   | Option.none=>(E v).bind fun o=>(zbv E hi).bind fun h=>(zbv E (some st)).bind fun k=>revL cx p o h k
   | some _=>M.fail
 | i=>(E v).bind fun o=>(E i).bind fun k=>index o k
noncomputable def evFn(f:Str)(args:List Expr)(p:Pos):M PV:=(M.lift (zat cx sc ρ f)).bind fun c=>match c with
 | .fn a=>(evs E args).bind fun vs=>cx.call cx.md a vs
 | .bi y=>M.cond (decide (y="isinstance")) (evIs cx sc ρ E args) ((M.lift (biTab.lookup y)).bind fun b=>(evs E args).bind fun vs=>zfX cx p b vs)
 | _=>M.fail
noncomputable def zpa(f:Expr)(args:List Expr)(p:Pos):M PV:=match f with
 | .Attribute o m ap=>M.cond (zkA o ap p args) ((E o).bind fun ov=>(tnOf ov).bind fun T=>(M.lift (mtOf T m)).bind fun k=>(evs E args).bind fun vs=>zdy cx p k ov vs) M.fail
 | .Name f _=>M.cond (zau args) (evFn cx sc ρ E f args p) M.fail
 | _=>M.fail
noncomputable def zpc(csc:Scope)(E:Loc→Expr→M PV)(t elt:Expr)(ifs:List Expr)(x:PV):M (Option PV):=M.noErr <|
 zmZ csc (inner csc ρ) t x fun ρ'=>match ifs with
  | []=>(E ρ' elt).bind fun y=>M.ret (some y)
  | c::r=>match r with
   | []=>(E ρ' c).bind fun cv=>(zar cv).bind fun b=>M.cond b ((E ρ' elt).bind fun y=>M.ret (some y)) (M.ret Option.none)
   | _::_=>M.fail
noncomputable def zif(csc:Scope)(Ei:Loc→Expr→M PV)(elt:Expr)(gens:List Comprehension)(p:Pos):M PV:=match gens with
 | []=>M.fail
 | g::r=>match r with
  | _::_=>M.fail
  | []=>M.cond (decide (g.is_async=0)&&(cx.md.lp&&zln sc csc g.iter&&isTg g.target))
   ((zcu cx sc ρ E g.target g.iter).bind fun src=>M.cond (decide (src.xs.length≤2 ^ 20)) ((za6 (chkW src.watch) (zpc ρ csc Ei g.target elt g.ifs) src.xs).bind fun ys=>zaD cx p ys) M.fail) M.fail
end
noncomputable def ev(cx:Cx):Nat→Scope→Loc→Expr→M PV
 | 0,_,_,_=>M.fail
 | n+1,sc,ρ,e=>match e with
  | .Constant c _ _=>M.lift (zli c)
  | .Name x p=>zk7 cx sc ρ x p
  | .BoolOp op vs _=>zff (ev cx n sc ρ) op vs
  | .BinOp l op r p=>(ev cx n sc ρ l).bind fun a=>(ev cx n sc ρ r).bind fun b=>zmu cx p op a b
  | .UnaryOp op x _=>evUn (ev cx n sc ρ) op x
  | .IfExp t a b _=>(ev cx n sc ρ t).bind fun v=>(zar v).bind fun c=>M.cond c (ev cx n sc ρ a) (ev cx n sc ρ b)
  | .Compare l ops cs _=>(ev cx n sc ρ l).bind fun a=>zhC (ev cx n sc ρ) a ops cs
  | .Tuple es _ _=>M.cond (decide (es.length≤100)) ((evs (ev cx n sc ρ) es).bind fun vs=>M.ret (.tup vs)) M.fail
  | .List es p=>M.cond (decide (es.length≤100)) ((evs (ev cx n sc ρ) es).bind fun vs=>zaD cx p vs) M.fail
  | .Dict ks vs _=>(M.lift (zdT ks vs)).bind fun l=>M.cond (decide (l.length≤15)) (cnew (.dict (zgO [] l))) M.fail
  | .Subscript v i p=>zmq cx (ev cx n sc ρ) v i p
  | .ListComp elt gens csc p=>zif cx sc ρ (ev cx n sc ρ) csc (fun ρ' e=>ev { cx with md:=⟨false,cx.md.lp⟩ } n csc ρ' e) elt gens p
  | .Call f args kws p=>match kws with
   | []=>zpa cx sc ρ (ev cx n sc ρ) f args p
   | _::_=>M.fail
  | _=>M.fail
inductive Fl where
 | next (ρ:Loc)
 | ret (v:PV)
noncomputable def zh8(e:Expr):Bool:=zch e==8
noncomputable def zpo(md:Md)(t e:Expr):Bool:=
 match t with
 | .Name ..=>true
 | .Tuple ..=>md.lp&&zch e != 2
 | _=>false
noncomputable def asg(E:Expr→M PV)(sc:Scope)(ρ:Loc)(t:Expr)(v:PV):M Loc:=
 match t with
 | t=>M.lift (zfY sc ρ t v)
noncomputable def flK(k:Loc→M Fl):Fl→M Fl
 | .next ρ=>k ρ
 | .ret v=>M.ret (.ret v)
noncomputable def exs(X:Loc→Stmt→M Fl)(ρ:Loc):List Stmt→M Fl
 | []=>M.ret (.next ρ)
 | s::r=>(X ρ s).bind (flK fun ρ'=>exs X ρ' r)
noncomputable def forL(chk:M Unit)(sc:Scope)(t:Expr)(X:Loc→M Fl):List PV→Loc→M Fl
 | [],ρ=>chk.bind fun _=>M.ret (.next ρ)
 | x::xs,ρ=>chk.bind fun _=>(M.lift (zfY sc ρ t x)).bind fun ρ'=>(X ρ').bind (flK fun ρ''=>forL chk sc t X xs ρ'')
noncomputable def zaA{α:Type}(x:M α)(h:Addr→M α):M α:=fun σ=>
 match x σ with
 | .ok a σ'=>.ok a σ'
 | .err C σ'=>h C σ'
 | .stuck=>.stuck
noncomputable def Loc.drop(ρ:Loc)(x:Str):Loc:=fun y=>if y=x then Option.none else ρ y
noncomputable def zcE(x:Str):Fl→Fl
 | .next ρ=>.next (ρ.drop x)
 | .ret v=>.ret v
noncomputable def zo1(e:Expr):Option { x:Str×Nat×Pos // e=.Constant (.str x.1) x.2.1 x.2.2 }:=match e with
 | .Constant c k p=>match c with
  | .str s=>some ⟨(s,k,p),rfl⟩
  | _=>Option.none
 | _=>Option.none
noncomputable def zkg(e c:Option Expr):Option { x:Str×(Pos×Pos)×Str×Nat×Pos // e=some (.Call (.Name x.1 x.2.1.1) [.Constant (.str x.2.2.1) x.2.2.2.1 x.2.2.2.2] [] x.2.1.2)∧c=Option.none }:=match c with
 | some _=>Option.none
 | Option.none=>match e with
  | Option.none=>Option.none
  | some e=>match zmY e with
   | Option.none=>Option.none
   | some ⟨(f,args,p),h⟩=>match args,h with
    | [],_=>Option.none
    | a::r,h=>match zo1 a,nmOf f,r,h with
     | some ⟨(s,k,q),h1⟩,some ⟨(x,fp),h2⟩,[],h=>some ⟨(x,(fp,p),s,k,q),by rw [h,h1,h2],rfl⟩
     | _,_,_,_=>Option.none
noncomputable def zoy(hs:List ExceptHandler)(o f:List Stmt):Option { x:Str×Str×List Stmt×Pos×Pos // hs=[.ExceptHandler (some (.Name x.1 x.2.2.2.1)) (some x.2.1) x.2.2.1 x.2.2.2.2]∧o=[]∧f=[] }:=match o,f with
 | [],[]=>match hs with
  | []=>Option.none
  | h::r=>match h,r with
   | .ExceptHandler t y hb hp,[]=>match t,y with
    | some t,some y=>match nmOf t with
     | some ⟨(x,xp),h1⟩=>some ⟨(x,y,hb,xp,hp),by rw [h1],rfl,rfl⟩
     | Option.none=>Option.none
    | _,_=>Option.none
   | _,_::_=>Option.none
 | _,_=>Option.none
section
variable (cx:Cx) (sc:Scope) (ρ:Loc) (X:Loc→Stmt→M Fl) (Xh:Loc→Stmt→M Fl)
noncomputable def zer(x:Str):M Fl:=match zat cx sc ρ x with
 | some (.cls C)=>M.raise C
 | _=>M.fail
noncomputable def zc0(C:Addr)(x y:Str)(hb:List Stmt):M Fl:=match zat cx sc (fun _=>Option.none) x with
 | some (.cls D)=>M.cond (cx.G.sub.contains (C,D)&&decide (sc.names.lookup y=some .local)&&!hb.isEmpty)
   (M.noErr ((M.lift (zdq sc (fun _=>Option.none) (.exc C) (.Name y ⟨0,0,0,0⟩))).bind fun ρ'=>(exs Xh ρ' hb).bind fun f=>M.ret (zcE y f))) M.fail
 | _=>M.fail
end
noncomputable def ex(cx:Cx):Nat→Scope→Loc→Stmt→M Fl
 | 0,_,_,_=>M.fail
 | n+1,sc,ρ,s=>match s with
  | .Return e _=>match e with
   | some e=>(ev cx n sc ρ e).bind fun v=>M.ret (.ret v)
   | Option.none=>M.fail
  | .Assign ts e _=>match ts with
   | []=>M.fail
   | t::r=>M.cond (r.isEmpty&&zpo cx.md t e) ((ev cx n sc ρ e).bind fun v=>(asg (ev cx n sc ρ) sc ρ t v).bind fun ρ'=>M.ret (.next ρ')) M.fail
  | .If t a b _=>(ev cx n sc ρ t).bind fun v=>(zar v).bind fun c=>M.cond c (exs (ex cx n sc) ρ a) (exs (ex cx n sc) ρ b)
  | .For t it b o _=>M.cond (o.isEmpty&&(cx.md.lp&&isTg t)) ((zcu cx sc ρ (ev cx n sc ρ) t it).bind fun src=>
    forL (chkW src.watch) sc t (fun ρ'=>exs (ex cx n sc) ρ' b) src.xs ρ) M.fail
  | .Expr e _=>M.cond (zh8 e) M.fail ((ev cx n sc ρ e).bind fun _=>M.ret (.next ρ))
  | .Pass _=>M.ret (.next ρ)
  | .Raise e c _=>(M.lift (zkg e c)).bind fun x=>M.cond cx.md.rz (zer cx sc ρ x.1.1) M.fail
  | .Try b hs o f _=>(M.lift (zoy hs o f)).bind fun r=>M.cond cx.md.rz (zaA (exs (ex cx n sc) ρ b) fun C=>zc0 cx sc (ex { cx with md:=⟨false,false⟩ } n sc) C r.1.1 r.1.2.1 r.1.2.2.1) M.fail
  | _=>M.fail
noncomputable def nest:Nat:=60
noncomputable def params(ps:List Str)(vs:List PV):Loc:=fun y=>(ps.zip vs).lookup y
noncomputable def zad(G:Gl):Nat→Md→Addr→List PV→M PV
 | 0,_,_,_=>M.fail
 | d+1,md,a,vs=>match G.fns.lookup a with
  | some f=>M.cond (decide (f.params.length=vs.length))
    ((exs (ex { G:=G,call:=zad G d,md:=md } nest f.scope) (params f.params vs) f.body).bind fun r=>match r with
     | .ret v=>M.ret v
     | .next _=>M.ret .none) M.fail
  | Option.none=>M.fail
end
end Mine
namespace Mine
open PySem PySem.SeqAt PyProof.Rows
theorem M.bind_assoc{α β γ:Type}(x:M α)(f:α→M β)(g:β→M γ):(x.bind f).bind g=x.bind fun a=>(f a).bind g:=funext fun _=>zaf x f g
theorem M.ret_bind{α β:Type}(a:α)(f:α→M β):(M.ret a).bind f=f a:=rfl
theorem M.cond_bind{α β:Type}(b:Bool)(x y:M α)(f:α→M β):(M.cond b x y).bind f=M.cond b (x.bind f) (y.bind f):=by cases b <;> rfl
structure EnvOk (env:Env) (sc:Scope):Prop where
 kind:env.scope.kind=.function
 globals:env.globals=mainGlobals
 builtins:env.builtins=builtinsNs
 loc:∀ x,sc.names.lookup x=some .local→env.kindOf x=some .local
 cel:∀ x,sc.names.lookup x=some .cell→env.kindOf x=some .cell
 glob:∀ x,sc.names.lookup x=some .globalImplicit→env.kindOf x=some .globalImplicit
 nodebug:env.kindOf "__debug__"=none
theorem EnvOk.dbg{env:Env}{sc:Scope}(H:EnvOk env sc){x:Str}{k:NameKind}(h:env.kindOf x=some k):(x==("__debug__":Str))=false:=by
 cases q:x==("__debug__":Str) with
 | false=>rfl
 | true=>rw [eq_of_beq q,H.nodebug] at h;cases h
noncomputable def bis:List (Str×Value):=[("len",.builtin "len"),("all",.builtin "all"),("any",.builtin "any"),("sum",.builtin "sum"),("isinstance",.builtin "isinstance"),("sorted",.builtin "sorted"),("min",.builtin "min"),
 ("list",.type "list"),("tuple",.type "tuple"),("int",.type "int"),("dict",.type "dict"),("str",.type "str"),("bool",.type "bool"),("range",.type "range"),("enumerate",.type "enumerate"),("zip",.type "zip"),
 ("set",.type "set"),("ValueError",.type "ValueError")]
structure GOk (hB:Heap) (G:Gl):Prop where
 ns:∃ mg mb,hB.Ns mainGlobals mg∧hB.Ns builtinsNs mb∧
  (∀ x a,G.names.lookup x=some (.fn a)→mg x=some (.ref a))∧(∀ x a,G.names.lookup x=some (.cls a)→mg x=some (.ref a))∧
  (∀ x v,G.names.lookup x=some (.val v)→∃ y,mg x=some y∧Rep hB Ad.nil [] v y)∧
  (∀ x v,G.names.lookup x=none→bis.lookup x=some v→mg x=none∧mb x=some v)
section
variable {prog:Program} {w:World} {hB:Heap} {A:Around} {s:Shared} {ι:Ad} {σ:zaa} {env:Env} {ρ:Loc} {fl:List Env} {sc:Scope}
theorem StoreOk.notBase(S:StoreOk prog w hB s.heap ι σ){a:Addr}{o:Obj}(e:hB.get? a=some o):¬ Live ι σ a:=by
 rintro (⟨i,c,hi,_⟩ | q)
 ·rw [S.base _ (List.mem_of_getElem? hi)] at e;cases e
 ·rw [S.hbase _ q] at e;cases e
theorem Rep.base(S:StoreOk prog w hB s.heap ι σ)(B:hB.StaysIn s.heap){x:PV}{v:Value}(r:Rep hB Ad.nil [] x v):Rep s.heap ι σ x v:=
 r.to ⟨fun e _=>⟨B _ _ e,S.notBase e⟩,fun e=>absurd e (by simp [Ad.nil]),fun e c d k _=>.exc (B _ _ e) c d k (S.notBase e)⟩
theorem zl5{x:Str}{pos:Pos}{v:PV}(H:EnvOk env sc)(I:Inv prog w hB env ρ fl s.heap ι σ)(hv:ρ x=some v)(Q:Value→Shared→Prop)(E:Value→Shared→Prop)
  (h:∀ y,Rep s.heap ι σ v y→Q y s):wpAny (model prog w) A (eval (.Name x pos) env) Q E s:=by
 rcases I.fr.kinds x v hv with k | k
 ·obtain ⟨m,hn,hm⟩:=I.fr.ns
  obtain ⟨y,hy,r⟩:=hm x v hv k
  exact wpAny_Name (wpAny_loadName_local H.kind k hn hy (h y r)) (H.dbg k)
 ·obtain ⟨c,y,hc,hy,r⟩:=I.fr.cel x v hv k
  exact wpAny_Name (wpAny_loadName_cell H.kind k hc hy (h y r)) (H.dbg k)
theorem zce{x:Str}{pos:Pos}{mg:Str→Option Value}{v:Value}(H:EnvOk env sc)(hB':hB.StaysIn s.heap)(k:sc.names.lookup x=some .globalImplicit)(hg:hB.Ns mainGlobals mg)(hv:mg x=some v)(Q:Value→Shared→Prop)(E:Value→Shared→Prop)
  (h:Q v s):wpAny (model prog w) A (eval (.Name x pos) env) Q E s:=
 Calls.Name_function_global H.kind (H.glob x k) (Calls.loadGlobal_global (H.globals▸hg.keeps hB') hv h) (H.dbg (H.glob x k))
theorem znD{x:Str}{pos:Pos}{mg mb:Str→Option Value}{v:Value}(H:EnvOk env sc)(hB':hB.StaysIn s.heap)(k:sc.names.lookup x=some .globalImplicit)(hg:hB.Ns mainGlobals mg)(hm:mg x=none)(hb:hB.Ns builtinsNs mb)(hv:mb x=some v)
  (Q:Value→Shared→Prop) (E:Value→Shared→Prop) (h:Q v s):wpAny (model prog w) A (eval (.Name x pos) env) Q E s:=
 Calls.Name_function_global H.kind (H.glob x k) (Calls.loadGlobal_builtin (H.globals▸hg.keeps hB') hm (H.builtins▸hb.keeps hB') hv h) (H.dbg (H.glob x k))
noncomputable def zgT:Callee→Value→Prop
 | .fn a,v=>v=.ref a
 | .cls a,v=>v=.ref a
 | .bi x,v=>bis.lookup x=some v
 | .val _,_=>False
theorem zbw{cx:Cx}{x:Str}{c:Callee}(hr:zat cx sc ρ x=some c):(∃ v,c=.val v∧ρ x=some v)∨(ρ x=none∧sc.names.lookup x=some .globalImplicit∧
  ((∃ a,c=.fn a∧cx.G.names.lookup x=some (.fn a))∨(∃ a,c=.cls a∧cx.G.names.lookup x=some (.cls a))∨(∃ v,c=.val v∧cx.G.names.lookup x=some (.val v))∨(c=.bi x∧cx.G.names.lookup x=none))):=by
 unfold zat at hr
 cases h1:ρ x with
 | some v=>rw [h1] at hr;cases hr;exact .inl ⟨v,rfl,rfl⟩
 | none=>
  rw [h1] at hr
  cases h2:sc.names.lookup x with
  | none=>rw [h2] at hr;cases hr
  | some k=>
   rw [h2] at hr
   cases k with
   | globalImplicit=>
    refine .inr ⟨rfl,rfl,?_⟩
    cases h3:cx.G.names.lookup x with
    | none=>rw [h3] at hr;cases hr;exact .inr (.inr (.inr ⟨rfl,rfl⟩))
    | some g=>
     rw [h3] at hr
     cases g with
     | fn a=>cases hr;exact .inl ⟨a,rfl,rfl⟩
     | cls a=>cases hr;exact .inr (.inl ⟨a,rfl,rfl⟩)
     | val v=>cases hr;exact .inr (.inr (.inl ⟨v,rfl,rfl⟩))
   | _=>cases hr
theorem zbc{cx:Cx}{x:Str}{pos:Pos}{c:Callee}(hG:GOk hB cx.G)(H:EnvOk env sc)(hB':hB.StaysIn s.heap)(hr:zat cx sc ρ x=some c)(hc:∃ v,zgT c v)(Q:Value→Shared→Prop)(E:Value→Shared→Prop)
  (h:∀ v,zgT c v→Q v s):wpAny (model prog w) A (eval (.Name x pos) env) Q E s:=by
 obtain ⟨mg,mb,g1,g2,g3,g4,g5,g6⟩:=hG.ns
 rcases zbw hr with ⟨v,rfl,_⟩ | ⟨_,k,⟨a,rfl,e⟩ | ⟨a,rfl,e⟩ | ⟨v,rfl,e⟩ | ⟨rfl,e⟩⟩
 ·exact hc.elim fun v hv=>hv.elim
 ·exact zce H hB' k g1 (g3 x a e) Q E (h _ rfl)
 ·exact zce H hB' k g1 (g4 x a e) Q E (h _ rfl)
 ·exact hc.elim fun v hv=>hv.elim
 ·obtain ⟨v,hv⟩:=hc
  obtain ⟨m1,m2⟩:=g6 x v e hv
  exact znD H hB' k g1 m1 g2 m2 Q E (h v hv)
theorem zlV{cx:Cx}{x:Str}{pos:Pos}(hG:GOk hB cx.G)(H:EnvOk env sc)(I:Inv prog w hB env ρ fl s.heap ι σ):SimV prog w hB A (eval (.Name x pos) env) (zk7 cx sc ρ x pos) s ι σ:=by
 have fin:∀{v:PV},(∀ Q E,(∀ y,Rep s.heap ι σ v y→Q y s)→wpAny (model prog w) A (eval (.Name x pos) env) Q E s)→SimV prog w hB A (eval (.Name x pos) env) (M.cond (cx.G.fz.contains (pos.line,pos.col)) (zfd v) (M.ret v)) s ι σ:=
  fun h=>Sim.cond (fun _=>zhh I.store I.stays h) fun _=>Sim.val I.store I.stays rfl fun Q E hq=>h Q E fun y r=>hq y s.toks r
 unfold zk7
 cases hr:zat cx sc ρ x with
 | none=>exact Sim.fail
 | some c=>
  rcases zbw hr with ⟨v,rfl,hρ⟩ | ⟨_,k,⟨a,rfl,e⟩ | ⟨a,rfl,e⟩ | ⟨v,rfl,e⟩ | ⟨rfl,e⟩⟩
  ·exact fin fun Q E h=>zl5 H I hρ Q E h
  ·exact Sim.fail
  ·exact Sim.fail
  ·obtain ⟨mg,mb,g1,g2,g3,g4,g5,g6⟩:=hG.ns
   obtain ⟨y,hy,r⟩:=g5 x v e
   exact fin fun Q E h=>zce H I.stays k g1 hy Q E (h y (r.base I.store I.stays))
  ·exact Sim.fail
end
noncomputable abbrev EvIH(prog:Program)(w:World)(hB:Heap)(A:Around)(env:Env)(ρ:Loc)(fl:List Env)(E:Expr→M PV):Prop:=
 ∀ e s ι σ,Inv prog w hB env ρ fl s.heap ι σ→SimV prog w hB A (eval e env) (E e) s ι σ
section
variable {prog:Program} {w:World} {hB:Heap} {A:Around} {s:Shared} {ι:Ad} {σ:zaa} {env:Env} {ρ:Loc} {fl:List Env} {sc:Scope} {E:Expr→M PV}
theorem Sim.map{α β γ δ:Type}{R:Heap→Ad→zaa→α→β→Prop}{R':Heap→Ad→zaa→γ→δ→Prop}{t:Sem β}{f:β→δ}{r:M α}{g:α→γ}(h:Sim prog w hB A R t r s ι σ)
  (hr:∀ h' ι' σ' a x,R h' ι' σ' a x→R' h' ι' σ' (g a) (f x)):Sim prog w hB A R' (t >>= fun x=>Pure.pure (f x)) (r.bind fun a=>M.ret (g a)) s ι σ:=by
 intro Q E hns hok herr
 have hne:r σ≠.stuck:=fun q=>hns (zae q)
 refine wpAny_bind (h _ _ hne (fun a σ₁ e₁ x h₁ tk₁ ι₁ X₁ r₁=>wpAny_pure ?_) (fun C σ₁ e₁ e h₁ tk₁ ι₁ X₁ F₁=>?_))
 ·exact hok _ σ₁ (zab e₁) _ h₁ tk₁ ι₁ X₁ (hr _ _ _ _ _ r₁)
 ·exact herr C σ₁ (zap e₁) e h₁ tk₁ ι₁ X₁ F₁
theorem zaX(e:Expr)(r:List Expr)(hne:∀ x p,e≠.Starred x p):starEach (e::r) env=(false,eval e env)::starEach r env:=by
 cases e with
 | Starred x p=>exact absurd rfl (hne x p)
 | _=>rfl
theorem zbZ(IH:EvIH prog w hB A env ρ fl E)(hst:∀ e p,E (.Starred e p)=M.fail)(pos:Pos):∀(es:List Expr)(s:Shared)(ι:Ad)(σ:zaa),Inv prog w hB env ρ fl s.heap ι σ→
  Sim prog w hB A RepL (spliced (backTo pos (starEach es env))) (evs E es) s ι σ
 | [],s,ι,σ,I=>Sim.pure I.store I.stays .nil
 | e::r,s,ι,σ,I=>by
  by_cases q:∃ x p,e=.Starred x p
  ·obtain ⟨x,p,rfl⟩:=q
   exact Sim.bstuck (by rw [hst];rfl)
  ·rw [zaX e r fun x p q'=>q ⟨x,p,q'⟩]
   intro Q Er hns hok herr
   show wpAny _ _ (spliced ((false,eval e env)::backTo pos (starEach r env))) _ _ _
   refine Calls.spliced_cons ?_
   have hne:E e σ≠.stuck:=fun q=>hns (zae q)
   refine IH e s ι σ I _ _ hne (fun v σ₁ e₁ x h₁ tk₁ ι₁ X₁ r₁=>?_) (fun C σ₁ e₁ e h₁ tk₁ ι₁ X₁ F₁=>herr C σ₁ (zap e₁) e h₁ tk₁ ι₁ X₁ F₁)
   have I₁:=I.step X₁
   have hne₂:evs E r σ₁≠.stuck:=fun q=>hns ((zab e₁).trans (zae q))
   refine zbZ IH hst pos r { s with heap:=h₁,toks:=tk₁ } ι₁ σ₁ I₁ _ _ hne₂ (fun vs σ₂ e₂ ys h₂ tk₂ ι₂ X₂ r₂=>?_) (fun C σ₂ e₂ e h₂ tk₂ ι₂ X₂ F₂=>?_)
   ·exact hok (v::vs) σ₂ ((zab e₁).trans (zab e₂)) (x::ys) h₂ tk₂ ι₂ (X₁.trans I.store.len X₂) (.cons (r₁.step I₁.store.len X₂) r₂)
   ·exact herr C σ₂ ((zab e₁).trans (zap e₂)) e h₂ tk₂ ι₂ (X₁.trans I.store.len X₂) (F₂.older X₁.evo.alive)
theorem zb4{α β:Type}{x:M α}{f:α→M β}{σ':zaa}{b:β}(h:x.bind f σ=.ok b σ'):∃ a σ₁,x σ=.ok a σ₁∧f a σ₁=.ok b σ':=by
 unfold M.bind at h
 cases q:x σ with
 | ok a σ₁=>rw [q] at h;exact ⟨a,σ₁,rfl,h⟩
 | err C σ₁=>rw [q] at h;cases h
 | stuck=>rw [q] at h;cases h
theorem zdl(E:Expr→M PV):∀(es:List Expr)(σ σ':zaa)(vs:List PV),evs E es σ=.ok vs σ'→vs.length=es.length
 | [],σ,σ',vs,h=>by cases h;rfl
 | e::r,σ,σ',vs,h=>by
  obtain ⟨a,σ₁,_,h2⟩:=zb4 h
  obtain ⟨b,σ₂,h3,h4⟩:=zb4 h2
  cases h4
  exact congrArg Nat.succ (zdl E r _ _ _ h3)
theorem zj2{cx:Cx}{n:Nat}{c:Const}{k:Nat}{pos:Pos}(I:Inv prog w hB env ρ fl s.heap ι σ):SimV prog w hB A (eval (.Constant c k pos) env) (ev cx (n+1) sc ρ (.Constant c k pos)) s ι σ:=by
 cases c with
 | none=>exact Sim.val I.store I.stays rfl fun Q E h=>Constant_none (h _ s.toks .none)
 | bool b=>exact Sim.val I.store I.stays rfl fun Q E h=>Constant_bool (h _ s.toks (.bool b))
 | int i=>exact Sim.val I.store I.stays rfl fun Q E h=>wpAny_mkInt (h _ _ (.int _ _))
 | str x=>exact Sim.val I.store I.stays rfl fun Q E h=>Calls.Constant_str (h _ _ (.str _ _))
 | _=>exact Sim.fail
theorem zeV(IH:EvIH prog w hB A env ρ fl E)(pos:Pos)(op:BoolOp):∀(es:List Expr)(s:Shared)(ι:Ad)(σ:zaa),Inv prog w hB env ρ fl s.heap ι σ→
  SimV prog w hB A (boolOp pos op (evalEach es env)) (zff E op es) s ι σ
 | [],s,ι,σ,I=>Sim.fail
 | [e],s,ι,σ,I=>IH e s ι σ I
 | e::f₂::r,s,ι,σ,I=>by
  show SimV prog w hB A (eval e env >>= fun v=>standAt pos >>= fun _=>holding [v] (truthy v) >>= fun t=>_) _ s ι σ
  refine Sim.bind I.store.len (IH e s ι σ I) fun v σ₁ x h₁ tk₁ ι₁ e₁ X₁ r₁=>Sim.standAt pos ?_
  have I₁:=I.step X₁
  refine Sim.bind I₁.store.len ((zcc I₁.store I₁.stays r₁).holding [x]) fun b σ₂ t h₂ tk₂ ι₂ e₂ X₂ r₂=>?_
  have I₂:=I₁.step X₂
  have r₁':=r₁.step I₁.store.len X₂
  subst r₂
  have go:=zeV IH pos op (f₂::r) { s with heap:=h₂,toks:=tk₂ } ι₂ σ₂ I₂
  cases op <;> cases b
  ·exact Sim.pure I₂.store I₂.stays r₁'
  ·exact go
  ·exact go
  ·exact Sim.pure I₂.store I₂.stays r₁'
theorem zkC(op:CmpOp)(e:Expr)(t:Sem Value)(h:∀ a b c,e≠.Set a b c):markedBehindIn op e t=t:=by
 have:behindInMarks op e=false:=by
  cases e with
  | Set a b c=>exact absurd rfl (h a b c)
  | _=>rfl
 unfold markedBehindIn;rw [this]
theorem zi1(x:M PV)(f:PV→M PV)(g:PV→M PV):(x.bind fun b=>(f b).bind fun c=>(zar c).bind fun t=>M.cond t (g b) (M.ret c)).bind zar σ=(x.bind fun b=>(f b).bind fun c=>(zar c).bind fun t=>M.cond t ((g b).bind zar) (zar c)) σ:=by
 rw [M.bind_assoc]
 refine congrFun (congrArg (M.bind x) (funext fun b=>?_)) σ
 rw [M.bind_assoc]
 refine congrArg (M.bind _) (funext fun c=>?_)
 rw [M.bind_assoc]
 exact congrArg (M.bind _) (funext fun t=>M.cond_bind _ _ _ _)
theorem zhS{α β:Type}{R:Heap→Ad→zaa→α→β→Prop}{T:Value→Sem β}{U:Value→Sem β}{F:PV→M α}{G:PV→M α}{op:CmpOp}{e:Expr}{a:PV}{x:Value}(IH:EvIH prog w hB A env ρ fl E)(hu:A.units+600<cLine)(pos:Pos)(I:Inv prog w hB env ρ fl s.heap ι σ)(r:Rep s.heap ι σ a x)
  (hT:∀ b y h' tk ι' σ',Inv prog w hB env ρ fl h' ι' σ'→Rep h' ι' σ' b y→Sim prog w hB A R (T y) (F b) { s with heap:=h',toks:=tk } ι' σ')
  (hU:∀ z h' tk ι' σ',StoreOk prog w hB h' ι' σ'→hB.StaysIn h'→Rep h' ι' σ' (.bool false) z→Sim prog w hB A R (U z) (G (.bool false)) { s with heap:=h',toks:=tk } ι' σ') :
  Sim prog w hB A R (holding [x] (eval e env) >>= fun rv=>standAt pos >>= fun _=>holding [x,rv] (compareOp op x rv) >>= fun c=>release [x,rv] [c] >>= fun _=>holding [c,rv] (truthy c) >>= fun t=>if t then T rv else U c)
   ((E e).bind fun b=>(zac op a b).bind fun c=>(zar c).bind fun t=>M.cond t (F b) (G c)) s ι σ:=by
 refine Sim.bind I.store.len ((IH e s ι σ I).holding [x]) fun b σ₁ y h₁ tk₁ ι₁ e₁ X₁ r₁=>Sim.standAt pos ?_
 have I₁:=I.step X₁
 refine Sim.bind I₁.store.len (Sim.holding _ (zhj I₁.store I₁.stays (r.step I.store.len X₁) r₁ hu)) fun c σ₂ z h₂ tk₂ ι₂ e₂ X₂ r₂=>?_
 have I₂:=I₁.step X₂
 refine Sim.tree (t:=holding [z,y] (truthy z) >>= fun t=>if t then T y else U z) ?_ fun Q E k=>wpAny_bind (zde _ _ k)
 refine Sim.bind I₂.store.len (Sim.holding _ (zcc I₂.store I₂.stays r₂)) fun t σ₃ u h₃ tk₃ ι₃ e₃ X₃ r₃=>?_
 subst r₃
 refine Sim.iff (fun _=>hT b y h₃ tk₃ ι₃ σ₃ (I₂.step X₃) ((r₁.step I₁.store.len X₂).step I₂.store.len X₃)) fun hu'=>?_
 cases c with
 | bool b'=>cases e₃;cases hu';exact hU z h₃ tk₃ ι₃ _ X₃.store X₃.stays (r₂.step I₂.store.len X₃)
 | _=>cases e₃
theorem zgm(IH:EvIH prog w hB A env ρ fl E)(hset:∀ a b c,E (.Set a b c)=M.fail)(hu:A.units+600<cLine)(pos:Pos):∀(ops:List CmpOp)(es:List Expr)(a:PV)(x:Value)(s:Shared)(ι:Ad)(σ:zaa),Inv prog w hB env ρ fl s.heap ι σ→Rep s.heap ι σ a x→
  SimV prog w hB A (compareChain pos x ops (markedEach ops es (evalEach es env))) (zhC E a ops es) s ι σ∧
  Sim prog w hB A RB (testChain pos x ops (markedEach ops es (evalEach es env))) ((zhC E a ops es).bind zar) s ι σ:=by
 intro ops
 induction ops with
 | nil=>intro es a x s ι σ I r;exact ⟨Sim.fail,Sim.bstuck rfl⟩
 | cons op ops ih=>
  intro es a x s ι σ I r
  cases es with
  | nil=>exact ⟨Sim.fail,Sim.bstuck rfl⟩
  | cons e es=>
   cases ops with
   | nil=>
    cases es with
    | cons _ _=>exact ⟨Sim.fail,Sim.bstuck rfl⟩
    | nil=>
     have go:markedEach [op] [e] (evalEach [e] env)=[eval e env]→SimV prog w hB A (compareChain pos x [op] (markedEach [op] [e] (evalEach [e] env))) (zhC E a [op] [e]) s ι σ∧Sim prog w hB A RB (testChain pos x [op] (markedEach [op] [e] (evalEach [e] env))) ((zhC E a [op] [e]).bind zar) s ι σ:=by
      intro hm
      rw [hm]
      refine ⟨?_,Sim.res ?_ (zaf _ _ _)⟩
      ·exact Sim.bind I.store.len ((IH e s ι σ I).holding [x]) fun b σ₁ y h₁ tk₁ ι₁ e₁ X₁ r₁=>Sim.standAt pos (Sim.operate _ (zhj X₁.store X₁.stays (r.step I.store.len X₁) r₁ hu))
      ·exact Sim.bind I.store.len ((IH e s ι σ I).holding [x]) fun b σ₁ y h₁ tk₁ ι₁ e₁ X₁ r₁=>Sim.standAt pos
        (Sim.bind X₁.store.len (Sim.operate _ (zhj X₁.store X₁.stays (r.step I.store.len X₁) r₁ hu)) fun c σ₂ z h₂ tk₂ ι₂ e₂ X₂ r₂=>Sim.holding _ (zcc X₂.store X₂.stays r₂))
     by_cases q:zch e=4
     ·have hs:E e=M.fail:=by
       cases e with
       | Set b c d=>exact hset b c d
       | _=>cases q
      exact ⟨Sim.bstuck (by rw [hs];rfl),Sim.bstuck (zae (by rw [hs];rfl))⟩
     ·exact go (congrArg (·::[]) (zkC op e _ fun a b c q'=>q (by rw [q'];rfl)))
   | cons op₂ ops=>
    refine ⟨?_,Sim.res ?_ (zi1 _ _ _)⟩
    ·exact zhS (T:=fun y=>compareChain pos y (op₂::ops) (markedEach (op₂::ops) es (evalEach es env))) (U:=Pure.pure) (G:=M.ret) IH hu pos I r (fun b y h' tk ι' σ' I' r'=>(ih es b y _ ι' σ' I' r').1) fun z h' tk ι' σ' S B r'=>Sim.pure S B r'
    ·exact zhS (T:=fun y=>testChain pos y (op₂::ops) (markedEach (op₂::ops) es (evalEach es env))) (U:=fun _=>Pure.pure false) (G:=zar) IH hu pos I r (fun b y h' tk ι' σ' I' r'=>(ih es b y _ ι' σ' I' r').2) fun z h' tk ι' σ' S B r'=>Sim.pure S B rfl
end
section
variable {prog:Program} {w:World} {hB:Heap} {A:Around} {s:Shared} {ι:Ad} {σ:zaa} {env:Env} {ρ:Loc} {fl:List Env} {sc:Scope} {E:Expr→M PV}
theorem M.bind_ret{α:Type}(x:M α)(σ:zaa):x σ=(x.bind fun a=>M.ret a) σ:=by
 unfold M.bind;cases x σ <;> rfl
theorem zjO{e:Expr}{r:M PV}{t:Sem Value}(hl:ι.vis.length=σ.length)(h:SimV prog w hB A t r s ι σ):Sim prog w hB A RB (t >>= fun v=>standAt e.pos >>= fun _=>holding [v] (truthy v)) (r.bind zar) s ι σ:=
 Sim.bind hl h fun _ _ _ _ _ _ _ X₁ r₁=>Sim.standAt _ (Sim.holding _ (zcc X₁.store X₁.stays r₁))
noncomputable def zpz(op:BoolOp)(b:Bool):Bool:=match op with
 | .And=>!b
 | .Or=>b
theorem zlF(op:BoolOp)(x:M PV)(g:M PV):((x.bind fun v=>(zar v).bind fun b=>match op,b with | .And,false=>M.ret v | .Or,true=>M.ret v | _,_=>g).bind zar) σ=((x.bind zar).bind fun b=>M.cond (zpz op b) (M.ret b) (g.bind zar)) σ:=by
 rw [zaf,zaf]
 refine congrFun (congrArg (M.bind x) (funext fun v=>?_)) σ
 cases v with
 | bool b=>cases op <;> cases b <;> rfl
 | _=>rfl
theorem zd8 (T:∀ e s ι σ,Inv prog w hB env ρ fl s.heap ι σ→Sim prog w hB A RB (isTrue e env (eval e env)) ((E e).bind zar) s ι σ) (op:BoolOp):∀(es:List Expr)(s:Shared)(ι:Ad)(σ:zaa),Inv prog w hB env ρ fl s.heap ι σ→es≠[]→
  Sim prog w hB A RB (allTrue op es env) ((zff E op es).bind zar) s ι σ
 | [],s,ι,σ,I,h=>absurd rfl h
 | [e],s,ι,σ,I,_=>by
  show Sim prog w hB A RB (isTrue e env (eval e env) >>= fun t=>match op,t with | .And,false=>Pure.pure false | .Or,true=>Pure.pure true | _,_=>allTrue op [] env) ((E e).bind zar) s ι σ
  have:(E e).bind zar=((E e).bind zar).bind fun b=>M.ret b:=by
   funext σ;exact M.bind_ret _ σ
  rw [this]
  refine Sim.bind I.store.len (T e s ι σ I) fun b σ₁ t h₁ tk₁ ι₁ e₁ X₁ r₁=>?_
  subst r₁
  cases op <;> cases b <;> exact Sim.pure X₁.store X₁.stays rfl
 | e::f::r,s,ι,σ,I,_=>by
  show Sim prog w hB A RB (isTrue e env (eval e env) >>= fun t=>match op,t with | .And,false=>Pure.pure false | .Or,true=>Pure.pure true | _,_=>allTrue op (f::r) env)
   (((E e).bind fun v=>(zar v).bind fun b=>match op,b with | .And,false=>M.ret v | .Or,true=>M.ret v | _,_=>zff E op (f::r)).bind zar) s ι σ
  refine Sim.res ?_ (zlF op _ _)
  refine Sim.bind I.store.len (T e s ι σ I) fun b σ₁ t h₁ tk₁ ι₁ e₁ X₁ r₁=>?_
  subst r₁
  have go:=zd8 T op (f::r) { s with heap:=h₁,toks:=tk₁ } ι₁ σ₁ (I.step X₁) (by simp)
  cases op <;> cases b
  ·exact Sim.pure X₁.store X₁.stays rfl
  ·exact go
  ·exact go
  ·exact Sim.pure X₁.store X₁.stays rfl
theorem zku(x:M PV):((x.bind fun a=>(zar a).bind fun b=>M.ret (PV.bool !b)).bind zar) σ=((x.bind zar).bind fun b=>M.ret (!b)) σ:=by
 rw [M.bind_assoc,M.bind_assoc]
 exact congrFun (congrArg (M.bind x) (funext fun a=>M.bind_assoc _ _ _)) σ
theorem zml{α:Type}(x:M PV)(f:Bool→M α):(x.bind fun v=>(zar v).bind f) σ=((x.bind zar).bind f) σ:=(zaf x zar f).symm
theorem zkX(x a b:M PV):((x.bind fun v=>(zar v).bind fun c=>M.cond c a b).bind zar) σ=((x.bind zar).bind fun c=>M.cond c (a.bind zar) (b.bind zar)) σ:=by
 rw [zaf,zaf]
 refine congrFun (congrArg (M.bind x) (funext fun v=>?_)) σ
 rw [M.bind_assoc]
 exact congrArg (M.bind _) (funext fun c=>M.cond_bind _ _ _ _)
theorem zdb{cx:Cx}(hu:A.units+600<cLine):∀(n:Nat),(∀ k,k≤n→EvIH prog w hB A env ρ fl (ev cx k sc ρ))→∀(e:Expr)(s:Shared)(ι:Ad)(σ:zaa),Inv prog w hB env ρ fl s.heap ι σ→
  Sim prog w hB A RB (isTrue e env (eval e env)) ((ev cx n sc ρ e).bind zar) s ι σ:=by
 intro n
 induction n with
 | zero=>intro _ e s ι σ I;exact Sim.stuck rfl
 | succ n ih=>
  intro IH e s ι σ I
  have T:=ih fun k hk=>IH k (Nat.le_succ_of_le hk)
  have IHn:=IH n (Nat.le_succ n)
  have W:∀ e',e'=e→Sim prog w hB A RB (eval e' env >>= fun v=>standAt e'.pos >>= fun _=>holding [v] (truthy v)) ((ev cx (n+1) sc ρ e').bind zar) s ι σ:=fun e' q=>zjO I.store.len (IH (n+1) (Nat.le_refl _) e' s ι σ I)
  cases e with
  | UnaryOp op x p=>
   cases op with
   | Not=>
    show Sim prog w hB A RB (isTrue x env (eval x env) >>= fun b=>Pure.pure (!b)) _ s ι σ
    refine Sim.res ?_ (zku _)
    exact Sim.map (T x s ι σ I) fun _ _ _ a b q=>by rw [show a=b from q]
   | _=>exact W _ rfl
  | BoolOp op vs p=>
   show Sim prog w hB A RB (allTrue op vs env) ((zff (ev cx n sc ρ) op vs).bind zar) s ι σ
   cases vs with
   | nil=>exact Sim.stuck rfl
   | cons v vs=>exact zd8 T op (v::vs) s ι σ I (by simp)
  | IfExp t a b p=>
   show Sim prog w hB A RB (isTrue t env (eval t env) >>= fun c=>if c then isTrue a env (eval a env) else isTrue b env (eval b env)) _ s ι σ
   refine Sim.res ?_ (zkX _ _ _)
   refine Sim.bind I.store.len (T t s ι σ I) fun c σ₁ x h₁ tk₁ ι₁ e₁ X₁ r₁=>?_
   subst r₁
   exact Sim.iff (fun _=>T a _ _ _ (I.step X₁)) fun _=>T b _ _ _ (I.step X₁)
  | Compare l ops cs p=>
   show Sim prog w hB A RB (eval l env >>= fun v=>testChain p v ops (markedEach ops cs (evalEach cs env))) _ s ι σ
   refine Sim.res ?_ (zaf _ _ _)
   refine Sim.bind I.store.len (IHn l s ι σ I) fun a σ₁ x h₁ tk₁ ι₁ e₁ X₁ r₁=>?_
   exact (zgm IHn (fun a b c=>by cases n <;> rfl) hu p ops cs a x _ ι₁ σ₁ (I.step X₁) r₁).2
  | _=>exact W _ rfl
theorem zjP{op:UnaryOp}{x:Expr}{p:Pos}{cx:Cx}{n:Nat}(IH:EvIH prog w hB A env ρ fl (ev cx n sc ρ))(I:Inv prog w hB env ρ fl s.heap ι σ) :
  SimV prog w hB A (eval (.UnaryOp op x p) env) (ev cx (n+1) sc ρ (.UnaryOp op x p)) s ι σ:=by
 cases op with
 | Not=>
  show SimV prog w hB A (eval x env >>= fun v=>standAt p >>= fun _=>holding [v] (unaryOp .Not v)) ((ev cx n sc ρ x).bind fun a=>(zar a).bind fun b=>M.ret (.bool !b)) s ι σ
  refine Sim.bind I.store.len (IH x s ι σ I) fun a σ₁ y h₁ tk₁ ι₁ e₁ X₁ r₁=>Sim.standAt p (Sim.holding _ ?_)
  refine Sim.tree (t:=truthy y >>= fun b=>Pure.pure (.bool (!b))) (Sim.map (f:=fun b=>Value.bool (!b)) (zcc X₁.store X₁.stays r₁) fun _ _ _ a b q=>by rw [show a=b from q];exact .bool _) fun Q E k=>?_
  unfold unaryOp
  exact wpAny_holding k
 | USub=>
  show SimV prog w hB A (eval x env >>= fun v=>standAt p >>= fun _=>holding [v] (unaryOp .USub v)) ((ev cx n sc ρ x).bind fun a=>onInt a fun i=>M.ret (.int (-i))) s ι σ
  refine Sim.bind I.store.len (IH x s ι σ I) fun a σ₁ y h₁ tk₁ ι₁ e₁ X₁ r₁=>Sim.standAt p (Sim.holding _ ?_)
  exact Sim.onInt r₁ fun i t=>Sim.val X₁.store X₁.stays rfl fun Q E h=>P.neg_int (h _ _ (.int _ _))
 | _=>exact Sim.stuck rfl
theorem ziM{op:Operator}{l r:Expr}{p:Pos}{cx:Cx}{n:Nat}(IH:EvIH prog w hB A env ρ fl (ev cx n sc ρ))(I:Inv prog w hB env ρ fl s.heap ι σ) :
  SimV prog w hB A (eval (.BinOp l op r p) env) (ev cx (n+1) sc ρ (.BinOp l op r p)) s ι σ:=by
 show SimV prog w hB A (eval l env >>= fun a=>holding [a] (eval r env) >>= fun b=>standAt p >>= fun _=>operate [a,b] (binaryOp op a b)) ((ev cx n sc ρ l).bind fun a=>(ev cx n sc ρ r).bind fun b=>zmu cx p op a b) s ι σ
 refine Sim.bind I.store.len (IH l s ι σ I) fun a σ₁ x h₁ tk₁ ι₁ e₁ X₁ r₁=>?_
 have I₁:=I.step X₁
 refine Sim.bind I₁.store.len (Sim.holding _ (IH r _ ι₁ σ₁ I₁)) fun b σ₂ y h₂ tk₂ ι₂ e₂ X₂ r₂=>Sim.standAt p (Sim.operate _ ?_)
 exact zj5 X₂.store X₂.stays (r₁.step I₁.store.len X₂) r₂
theorem zjW{t a b:Expr}{p:Pos}{cx:Cx}{n:Nat}(hu:A.units+600<cLine)(IH:∀ k,k≤n→EvIH prog w hB A env ρ fl (ev cx k sc ρ))(I:Inv prog w hB env ρ fl s.heap ι σ) :
  SimV prog w hB A (eval (.IfExp t a b p) env) (ev cx (n+1) sc ρ (.IfExp t a b p)) s ι σ:=by
 show SimV prog w hB A (isTrue t env (eval t env) >>= fun c=>if c then eval a env else eval b env) _ s ι σ
 refine Sim.res ?_ (zml _ _)
 refine Sim.bind I.store.len (zdb hu n IH t s ι σ I) fun c σ₁ x h₁ tk₁ ι₁ e₁ X₁ r₁=>?_
 subst r₁
 exact Sim.iff (fun _=>IH n (Nat.le_refl _) a _ _ _ (I.step X₁)) fun _=>IH n (Nat.le_refl _) b _ _ _ (I.step X₁)
theorem zhi{l:Expr}{ops:List CmpOp}{cs:List Expr}{p:Pos}{cx:Cx}{n:Nat}(hu:A.units+600<cLine)(IH:EvIH prog w hB A env ρ fl (ev cx n sc ρ))(I:Inv prog w hB env ρ fl s.heap ι σ) :
  SimV prog w hB A (eval (.Compare l ops cs p) env) (ev cx (n+1) sc ρ (.Compare l ops cs p)) s ι σ:=by
 show SimV prog w hB A (eval l env >>= fun v=>compareChain p v ops (markedEach ops cs (evalEach cs env))) ((ev cx n sc ρ l).bind fun a=>zhC (ev cx n sc ρ) a ops cs) s ι σ
 refine Sim.bind I.store.len (IH l s ι σ I) fun a σ₁ x h₁ tk₁ ι₁ e₁ X₁ r₁=>?_
 exact (zgm IH (fun a b c=>by cases n <;> rfl) hu p ops cs a x _ ι₁ σ₁ (I.step X₁) r₁).1
theorem zaR{cx:Cx}{n:Nat}(e:Expr)(p:Pos):ev cx n sc ρ (.Starred e p)=M.fail:=by cases n <;> rfl
theorem ziz{es:List Expr}{b:Nat}{p:Pos}{cx:Cx}{n:Nat}(IH:EvIH prog w hB A env ρ fl (ev cx n sc ρ))(I:Inv prog w hB env ρ fl s.heap ι σ) :
  SimV prog w hB A (eval (.Tuple es b p) env) (ev cx (n+1) sc ρ (.Tuple es b p)) s ι σ:=by
 show SimV prog w hB A (standAt p >>= fun _=>spliced (backTo p (starEach es env)) >>= fun vs=>newTuple vs) (M.cond (decide (es.length≤100)) ((evs (ev cx n sc ρ) es).bind fun vs=>M.ret (.tup vs)) M.fail) s ι σ
 refine Sim.standAt p (Sim.cond (fun hl=>?_) fun _=>Sim.fail)
 refine Sim.bind I.store.len (zbZ IH zaR p es s ι σ I) fun vs σ₁ ys h₁ tk₁ ι₁ e₁ X₁ r₁=>znk X₁.store X₁.stays r₁ ?_
 rw [← r₁.length,zdl _ _ _ _ _ e₁]
 exact Nat.le_trans (of_decide_eq_true hl) (by decide)
theorem zjT{es:List Expr}{p:Pos}{cx:Cx}{n:Nat}(IH:EvIH prog w hB A env ρ fl (ev cx n sc ρ))(I:Inv prog w hB env ρ fl s.heap ι σ) :
  SimV prog w hB A (eval (.List es p) env) (ev cx (n+1) sc ρ (.List es p)) s ι σ:=by
 show SimV prog w hB A (standAt p >>= fun _=>spliced (backTo p (starEach es env)) >>= fun vs=>newList vs) (M.cond (decide (es.length≤100)) ((evs (ev cx n sc ρ) es).bind fun vs=>zaD cx p vs) M.fail) s ι σ
 refine Sim.standAt p (Sim.cond (fun hl=>?_) fun _=>Sim.fail)
 refine Sim.bind I.store.len (zbZ IH zaR p es s ι σ I) fun vs σ₁ ys h₁ tk₁ ι₁ e₁ X₁ r₁=>ziF X₁.store X₁.stays r₁ ?_
 rw [← r₁.length,zdl _ _ _ _ _ e₁]
 exact Nat.le_trans (of_decide_eq_true hl) (by decide)
theorem zcL(IH:EvIH prog w hB A env ρ fl E)(I:Inv prog w hB env ρ fl s.heap ι σ)(o:Option Expr):Sim prog w hB A (fun _ _ _ a x=>IsPart x a) (valueOrNone (evalOpt o env)) (zbv E o) s ι σ:=by
 cases o with
 | none=>exact Sim.pure I.store I.stays .none
 | some e=>
  show Sim prog w hB A _ (eval e env) ((E e).bind fun v=>M.lift (zkp v)) s ι σ
  intro Q Er hns hok herr
  have hne:E e σ≠.stuck:=fun q=>hns (zae q)
  refine IH e s ι σ I Q Er hne (fun v σ₁ e₁ x h₁ tk₁ ι₁ X₁ r₁=>?_) (fun C σ₁ e₁ e h₁ tk₁ ι₁ X₁ F₁=>herr C σ₁ (zap e₁) e h₁ tk₁ ι₁ X₁ F₁)
  cases v with
  | none=>cases r₁.inv;exact hok _ σ₁ (zab e₁) _ h₁ tk₁ ι₁ X₁ .none
  | int i=>obtain ⟨t,rfl⟩:=r₁.inv;exact hok _ σ₁ (zab e₁) _ h₁ tk₁ ι₁ X₁ (.int i t)
  | _=>exact (hns (zab e₁)).elim
theorem zjR(IH:EvIH prog w hB A env ρ fl E)(I:Inv prog w hB env ρ fl s.heap ι σ)(lo hi:Option Expr):Sim prog w hB A (fun h _ _ (c:Option Int×Option Int) k=>∃ sl vl vu,k=.ref sl∧h.IsSliceOf sl vl vu .none∧IsPart vl c.1∧IsPart vu c.2)
  (valueOrNone (evalOpt lo env) >>= fun l=>holding [l] (valueOrNone (evalOpt hi env)) >>= fun u=>holding [l,u] (Pure.pure .none) >>= fun st=>newFields "slice" [l,u,st])
  ((zbv E lo).bind fun l=>(zbv E hi).bind fun h=>M.ret (l,h)) s ι σ:=by
 refine Sim.bind I.store.len (zcL IH I lo) fun l σ₂ vl h₂ tk₂ ι₂ e₂ X₂ pl=>?_
 have I₂:=I.step X₂
 refine Sim.bind I₂.store.len (Sim.holding _ (zcL IH I₂ hi)) fun u σ₃ vu h₃ tk₃ ι₃ e₃ X₃ pu=>?_
 refine Sim.tree (t:=newFields "slice" [vl,vu,.none]) ?_ fun Q E k=>wpAny_bind (wpAny_holding (wpAny_pure k))
 intro Q Er hns hok herr
 exact wpAny_newObj_type (hok _ σ₃ rfl _ _ tk₃ ι₃ (Step.push X₃.store X₃.stays _) ⟨_,vl,vu,rfl,Heap.IsSliceOf.new _ _ _ _,pl,pu⟩)
theorem ziA(IH:EvIH prog w hB A env ρ fl E)(I:Inv prog w hB env ρ fl s.heap ι σ)(hi:Option Expr)(st:Expr):Sim prog w hB A (fun h _ _ (c:Option Int×Option Int) k=>∃ sl vl vu vk,k=.ref sl∧h.IsSliceOf sl vl vu vk∧IsPart vl none∧IsPart vu c.1∧IsPart vk c.2)
  (valueOrNone (evalOpt none env) >>= fun l=>holding [l] (valueOrNone (evalOpt hi env)) >>= fun u=>holding [l,u] (valueOrNone (evalOpt (some st) env)) >>= fun st=>newFields "slice" [l,u,st])
  ((zbv E hi).bind fun h=>(zbv E (some st)).bind fun k=>M.ret (h,k)) s ι σ:=by
 refine Sim.res ?_ (show _=((zbv E none).bind fun l=>(zbv E hi).bind fun h=>(zbv E (some st)).bind fun k=>M.ret (h,k)) σ from rfl)
 refine Sim.bind I.store.len (zcL IH I none) fun l σ₂ vl h₂ tk₂ ι₂ e₂ X₂ pl=>?_
 have I₂:=I.step X₂
 refine Sim.bind I₂.store.len (Sim.holding _ (zcL IH I₂ hi)) fun u σ₃ vu h₃ tk₃ ι₃ e₃ X₃ pu=>?_
 have I₃:=I₂.step X₃
 refine Sim.bind I₃.store.len (Sim.holding _ (zcL IH I₃ (some st))) fun k σ₄ vk h₄ tk₄ ι₄ e₄ X₄ pk=>?_
 have hl:l=none:=by injection e₂ with q;exact q.symm
 subst hl
 intro Q Er hns hok herr
 exact wpAny_newObj_type (hok _ σ₄ rfl _ _ tk₄ ι₄ (Step.push X₄.store X₄.stays _) ⟨_,vl,vu,vk,rfl,Heap.IsSliceOf.new _ _ _ _,pl,pu,pk⟩)
theorem zd6{α β γ:Type}(a:M α)(b:M β)(f:α→β→M γ):(a.bind fun l=>b.bind fun h=>f l h) σ=((a.bind fun l=>b.bind fun h=>M.ret (l,h)).bind fun c=>f c.1 c.2) σ:=by
 rw [zaf]
 exact congrFun (congrArg (M.bind a) (funext fun l=>(M.bind_assoc b (fun h=>M.ret (l,h)) (fun c=>f c.1 c.2)).symm)) σ
theorem zlT{v i:Expr}{p:Pos}{cx:Cx}(IH:EvIH prog w hB A env ρ fl E)(I:Inv prog w hB env ρ fl s.heap ι σ) :
  SimV prog w hB A (eval (.Subscript v i p) env) (zmq cx E v i p) s ι σ:=by
 have plain:zmq cx E v i p=((E v).bind fun o=>(E i).bind fun k=>index o k)→eval (.Subscript v i p) env=(eval v env >>= fun o=>holding [o] (eval i env) >>= fun k=>standAt p >>= fun _=>subscriptTail v i o k)→SimV prog w hB A (eval (.Subscript v i p) env) (zmq cx E v i p) s ι σ:=by
  intro q q'
  rw [q,q']
  refine Sim.bind I.store.len (IH v s ι σ I) fun o σ₁ x h₁ tk₁ ι₁ e₁ X₁ r₁=>?_
  exact Sim.bind X₁.store.len (Sim.holding _ (IH i _ ι₁ σ₁ (I.step X₁))) fun k σ₂ y h₂ tk₂ ι₂ e₂ X₂ r₂=>Sim.standAt p (zjV X₂.store X₂.stays (r₁.step X₁.store.len X₂) r₂)
 cases i with
 | Slice lo hi st q=>
  cases st with
  | some st=>
   cases lo with
   | some _=>exact Sim.fail
   | none=>
    show SimV prog w hB A (eval v env >>= fun o=>holding [o] (valueOrNone (evalOpt none env) >>= fun l=>holding [l] (valueOrNone (evalOpt hi env)) >>= fun u=>holding [l,u] (valueOrNone (evalOpt (some st) env)) >>= fun st=>newFields "slice" [l,u,st]) >>= fun k=>standAt p >>= fun _=>subscriptTail v (.Slice none hi (some st) q) o k)
     ((E v).bind fun o=>(zbv E hi).bind fun h=>(zbv E (some st)).bind fun k=>revL cx p o h k) s ι σ
    refine Sim.bind I.store.len (IH v s ι σ I) fun o σ₁ x h₁ tk₁ ι₁ e₁ X₁ r₁=>?_
    refine Sim.res ?_ (zd6 _ _ _)
    refine Sim.bind X₁.store.len (Sim.holding _ (ziA IH (I.step X₁) hi st)) fun c σ₂ k h₂ tk₂ ι₂ e₂ X₂ r₂=>Sim.standAt p ?_
    obtain ⟨sl,vl,vu,vk,rfl,hs,pl,pu,pk⟩:=r₂
    exact znm X₂.store X₂.stays (r₁.step X₁.store.len X₂) hs pl pu pk
  | none=>
   show SimV prog w hB A (eval v env >>= fun o=>holding [o] (valueOrNone (evalOpt lo env) >>= fun l=>holding [l] (valueOrNone (evalOpt hi env)) >>= fun u=>holding [l,u] (Pure.pure .none) >>= fun st=>newFields "slice" [l,u,st]) >>= fun k=>standAt p >>= fun _=>subscriptTail v (.Slice lo hi none q) o k)
    ((E v).bind fun o=>(zbv E lo).bind fun l=>(zbv E hi).bind fun h=>cut cx p false o l h) s ι σ
   refine Sim.bind I.store.len (IH v s ι σ I) fun o σ₁ x h₁ tk₁ ι₁ e₁ X₁ r₁=>?_
   refine Sim.res ?_ (zd6 _ _ _)
   refine Sim.bind X₁.store.len (Sim.holding _ (zjR IH (I.step X₁) lo hi)) fun c σ₂ k h₂ tk₂ ι₂ e₂ X₂ r₂=>Sim.standAt p ?_
   obtain ⟨sl,vl,vu,rfl,hs,pl,pu⟩:=r₂
   exact znt X₂.store X₂.stays (r₁.step X₁.store.len X₂) hs pl pu
 | _=>exact plain rfl rfl
end
end Mine
namespace Mine
open PySem PySem.SeqAt PyProof.Rows PySem.W
noncomputable def zhb:Tn→String
 | .none=>"NoneType" | .bool=>"bool" | .int=>"int" | .str=>"str" | .tuple=>"tuple" | .list=>"list" | .dict=>"dict"
noncomputable def zd3:Ty→Value
 | .bi T=>.type (zhb T)
 | .valueError=>.type "ValueError"
 | .own C=>.ref C
structure OwnCls (K:Frag) (D:Addr):Prop where
 hga:findIn K (.ref D) "__getattribute__"=some (some (.builtin "BaseException.__getattribute__"))
 hgt:findIn K (.ref D) "__getattr__"=some none
 hbe:mroIn K D (.type "BaseException")=some true
 hdct:hasDictIn K D=true
 ha:findIn K (.ref D) "__class__"=some (some (.builtin "object.__class__"))
 hn:specialIn K (.builtin "object.__class__") "__get__"=some (some (.builtin "getset_descriptor.__get__"))
 htk:takesIn K (.builtin "object.__class__")=some true
 hm:mroIn K D (.type "object")=some true
structure ClsOk (K:Frag) (G:Gl):Prop where
 own:∀ C∈G.clss,OwnCls K C
 sub:∀ C∈G.clss,∀ D∈G.clss,kitOne K (.ref C) (.ref D)=some (G.sub.contains (C,D))
 val:∀ C∈G.clss,kitOne K (.ref C) (.type "ValueError")=some true
section
variable {K:Frag}
theorem zi8{prog:Program}{w:World}{A:Around}{E:Value→Shared→Prop}{s:Shared}{x D:Addr}{ox:Obj}{Q:Option Value→Shared→Prop}(O:OwnCls K D)(X:K.In s.heap)(I:InstAt s.heap x ox D none) (h:Q (some (.ref D)) { s with toks:=s.toks+1 }):wpAny (model prog w) A (getAttr? (.ref x) "__class__") Q E s:=by
 have hf:findObj K D none "__class__"=some (.bind (.builtin "getset_descriptor.__get__") (.builtin "object.__class__")):=by
  obtain ⟨cd,hc,_⟩:=any_some O.hdct
  unfold findObj
  rw [hc,Option.bind_some,O.ha,Option.bind_some]
  simp [O.hn,O.htk]
 obtain ⟨hh,g,d,t,os⟩:=s
 have L0:=I.type (M:=model prog w)
 have L1:=looks_findIn (M:=model prog w) X O.hga
 have L2:=looks_findIn (M:=model prog w) X O.hgt
 have L3:=looks_mroIn (M:=model prog w) X O.hbe
 have L4:=looks_find (M:=model prog w) X I hf
 have FB:=F.excAttr_ValueError
 have hk:builtinKind "BaseException.__getattribute__"=some .slot:=by decide +kernel
 have hsplit:splitId "BaseException.__getattribute__"=some ("BaseException","__getattribute__"):=by decide +kernel
 have hx2:(Value.builtin "BaseException.__getattribute__"==Value.builtin "object.__getattribute__")=false:=by decide +kernel
 unfold getAttr? getAttrBy? getAttrBy
 refine wpAny_bind (wpAny_mkText (wpAny_bind (wpAny_attempt (wpAny_holding (wpAny_bind (L0.at (wpAny_bind (L1.at ?_))))))))
 simp only [onTheHeap,hx2,Bool.and_false,Bool.false_eq_true,if_false]
 unfold getAttrByItsOwn hookBefore
 simp only [onTheHeap,if_true]
 refine wpAny_bind (L2.at (wpAny_bind (wpAny_attempt (wpAny_holding ?_))))
 unfold callGetattribute boundAndCalled
 simp only [Bool.false_and,Bool.false_eq_true,if_false]
 rw [FB.ga.bind (.ref x)]
 refine wpAny_bind (wpAny_pure ?_)
 refine wpAny_call (codeAny_call_builtin FB.ga.plain F.entry_bexc_ga ?_)
 have ha:=F.args_bexc_ga (.ref x) (.str "__class__" t)
 show wpAny _ _ (checkBuiltinCall "BaseException.__getattribute__" ⟨[.ref x,.str "__class__" t],[]⟩) _ _ _
 have hchk:∀{Q':Unit→Shared→Prop}{E':Value→Shared→Prop}{A':Around}{t':Nat},Q' () ⟨hh,g,d,t',os⟩→wpAny (model prog w) A' (checkBuiltinCall "BaseException.__getattribute__" ⟨[.ref x,.str "__class__" t],[]⟩) Q' E' ⟨hh,g,d,t',os⟩:=by
  intro Q' E' A' t' hq
  simp only [checkBuiltinCall,hk,hsplit]
  unfold isInstance
  refine wpAny_bind (wpAny_bind (L0.at (L3.at ?_)))
  repeat (first | exact hq | wp_step)
 refine hchk ?_
 have hgo:∀{Q':Fin→Shared→Prop}{E':Value→Shared→Prop}{A':Around}{t':Nat},Q' (.done (.ret (.ref D))) ⟨hh,g,d,t',os⟩→wpAny (model prog w) A' (Builtin.«object.__getattribute__» ⟨[.ref x,.str "__class__" t],[]⟩) Q' E' ⟨hh,g,d,t',os⟩:=by
  intro Q' E' A' t' hq
  refine wpAny_bind (wpAny_pure (wpAny_bind (wpAny_pure (wpAny_bind (L0.at (wpAny_bind (L4.at ?_)))))))
  show wpAny _ _ (holding [_] (call _ [_,.ref x,.ref D]) >>= ret) _ _ _
  refine wpAny_bind (wpAny_holding (wpAny_call (class_get (s:=⟨hh,g,d,t',os⟩) (ox:=ox) (od:=none) X I O.hm (wpAny_pure hq))))
 refine hgo ?_
 exact handed_on rfl (wpAny_pure h)
theorem zmg{x D:Addr}{ox:Obj}(O:OwnCls K D):KitX K (.ref x) (.ref D) (fun h=>InstAt h x ox D none) where
 ty:=fun _ _ _ I=>I.type
 it:=fun _ _ X _=>by
  obtain ⟨cdD,hcD,_⟩:=any_some O.hdct
  unfold clsIn at hcD
  split at hcD
  ·rename_i c' d' cd' sl' ho
   intro A' Q' E' s' k q
   unfold isType loadHead
   exact wpAny_bind (wpAny_loadPart (k _ _ (X _ _ ho)) (wpAny_pure q))
  ·cases hcD
 ne:=fun h tp dd its n sl X htp=>by
  obtain ⟨cdD,hcD,_⟩:=any_some O.hdct
  refine Bool.eq_false_iff.mpr fun q=>?_
  have e:D=tp:=Value.ref.inj (beq_iff_eq.mp q)
  subst e
  unfold clsIn at hcD
  split at hcD
  ·rename_i c' d' cd' sl' ho
   have z:=(X _ _ ho).symm.trans htp
   cases z
  ·cases hcD
 ca:=fun X I k=>zi8 O X I k
theorem zoV(T U:Tn):kitOne K (.type (zhb T)) (.type (zhb U))=some (subT T U):=by
 cases T <;> cases U <;> first | rfl | decide +kernel
variable {prog:Program} {w:World} {hB:Heap} {A:Around} {s:Shared} {ι:Ad} {σ:zaa} {env:Env} {ρ:Loc} {fl:List Env} {sc:Scope} {G:Gl}
theorem zhG{i:Nat}{c:Cel}{σ':zaa}(h:cget i σ=.ok c σ'):σ'=σ∧σ[i]?=some c:=by
 unfold cget at h
 cases q:σ[i]? with
 | none=>rw [q] at h;cases h
 | some c=>rw [q] at h;cases h;exact ⟨rfl,rfl⟩
theorem zcs{i:Nat}{C:Addr}{σ':zaa}(h:cget i σ=.err C σ'):False:=by
 unfold cget at h
 cases q:σ[i]? with
 | none=>rw [q] at h;cases h
 | some c=>rw [q] at h;cases h
theorem zcj{T:Tn}{t:Ty}{b:Bool}{σ':zaa}(h:isBi T t σ=.ok b σ'):σ'=σ∧kitOne K (.type (zhb T)) (zd3 t)=some b:=by
 cases t with
 | bi U=>cases h;exact ⟨rfl,zoV T U⟩
 | _=>cases h
theorem zkQ{v:PV}{x:Value}{t₀:Ty}(C:ClsOk K G)(S:StoreOk prog w hB s.heap ι σ)(r:Rep s.heap ι σ v x)(hne:zbT G t₀ v σ≠.stuck) :
  ∃ tv H,KitX K x tv H∧H s.heap∧x≠.builtin "__main__.__loader__#opaque"∧∀ t b σ',zbT G t v σ=.ok b σ'→σ'=σ∧kitOne K tv (zd3 t)=some b:=by
 cases v with
 | none=>cases r.inv;exact ⟨_,_,kitx_none,trivial,(fun q=>nomatch q),fun t b σ' h=>zcj (T:=.none) h⟩
 | bool b=>cases r.inv;exact ⟨_,_,kitx_bool,trivial,(fun q=>nomatch q),fun t b σ' h=>zcj (T:=.bool) h⟩
 | int i=>obtain ⟨_,rfl⟩:=r.inv;exact ⟨_,_,kitx_int,trivial,(fun q=>nomatch q),fun t b σ' h=>zcj (T:=.int) h⟩
 | str i=>obtain ⟨_,rfl⟩:=r.inv;exact ⟨_,_,kitx_str,trivial,(fun q=>nomatch q),fun t b σ' h=>zcj (T:=.str) h⟩
 | tup xs=>obtain ⟨_,_,_,rfl,e,_⟩:=r.inv;exact ⟨_,_,kitx_tuple,⟨_,e,rfl⟩,(fun q=>nomatch q),fun t b σ' h=>zcj (T:=.tuple) h⟩
 | lst xs=>obtain ⟨_,_,_,rfl,e,_⟩:=r.inv;exact ⟨_,_,kitx_list,⟨_,e,rfl⟩,(fun q=>nomatch q),fun t b σ' h=>zcj (T:=.list) h⟩
 | ref i=>
  obtain ⟨a,rfl,hi⟩:=r.inv
  cases hc:cget i σ with
  | err=>exact (zcs hc).elim
  | stuck=>exact (hne (zae hc)).elim
  | ok c σ₁=>
   obtain ⟨rfl,hc'⟩:=zhG hc
   cases c with
   | list xs=>
    obtain ⟨vs,⟨n,hp⟩,_⟩:=S.ok _ _ _ hi hc'
    exact ⟨_,_,kitx_list,⟨_,hp,rfl⟩,(fun q=>nomatch q),fun t b σ' h=>zcj (T:=.list) ((zab hc).symm.trans h)⟩
   | dict kvs=>
    obtain ⟨ys,hd,_⟩:=S.ok _ _ _ hi hc'
    exact ⟨_,_,kitx_dict,hd.typeIs (s:=s),(fun q=>nomatch q),fun t b σ' h=>zcj (T:=.dict) ((zab hc).symm.trans h)⟩
   | dead=>exact (hne (zab hc)).elim
 | exc D=>
  obtain ⟨a,o,fs,rfl,e,c,d,k,nl⟩:=r.inv
  by_cases hD:G.clss.contains D=true
  ·have hm:=List.contains_iff_mem.mp hD
   refine ⟨_,_,zmg (ox:=o) (C.own D hm),⟨e,c,by unfold notCls;rw [d],by rw [k];trivial⟩,(fun q=>nomatch q),fun t b σ' h=>?_⟩
   have h:zhA G D t σ=.ok b σ':=h
   unfold zhA at h
   rw [hD] at h
   cases t with
   | bi U=>cases h
   | valueError=>cases h;exact ⟨rfl,C.val D hm⟩
   | own F=>
    have h:M.cond (G.clss.contains F) (M.ret (G.sub.contains (D,F))) M.fail σ=.ok b σ':=h
    by_cases hF:G.clss.contains F=true
    ·rw [hF] at h;cases h;exact ⟨rfl,C.sub D hm F (List.contains_iff_mem.mp hF)⟩
    ·rw [eq_false_of_ne_true hF] at h;cases h
  ·exact (hne (by show zhA G D t₀ σ=.stuck;unfold zhA;rw [eq_false_of_ne_true hD];rfl)).elim
theorem zcT{β:Type}{x:Str}{v:β}:∀{l:List (Str×β)},l.lookup x=some v→(x,v)∈l
 | (y,w)::l,h=>by
  rw [List.lookup_cons] at h
  cases q:x==y with
  | true=>rw [q] at h;cases h;rw [eq_of_beq q];exact .head _
  | false=>rw [q] at h;exact .tail _ (zcT h)
theorem zjw:∀ e∈tyTab,bis.lookup e.1=some (zd3 e.2):=by decide +kernel
theorem zhQ{cx:Cx}{x:Str}{pos:Pos}{t:Ty}(hG:GOk hB cx.G)(H:EnvOk env sc)(hB':hB.StaysIn s.heap)(ht:tyOf cx sc ρ x=some t)(Q:Value→Shared→Prop)(E:Value→Shared→Prop)(h:Q (zd3 t) s) :
  wpAny (model prog w) A (eval (.Name x pos) env) Q E s:=by
 unfold tyOf at ht
 cases hr:zat cx sc ρ x with
 | none=>rw [hr] at ht;cases ht
 | some c=>
  rw [hr] at ht
  cases c with
  | cls a=>cases ht;exact zbc hG H hB' hr ⟨_,rfl⟩ Q E fun v hv=>by cases hv;exact h
  | bi y=>
   have hb:bis.lookup y=some (zd3 t):=zjw _ (zcT ht)
   exact zbc hG H hB' hr ⟨_,hb⟩ Q E fun v' hv=>by
    have hv':bis.lookup y=some v':=hv
    rw [hb] at hv';cases hv';exact h
  | _=>cases ht
end
section
variable {prog:Program} {w:World} {hB:Heap} {A:Around} {s:Shared} {ι:Ad} {σ:zaa} {env:Env} {ρ:Loc} {fl:List Env} {sc:Scope} {E:Expr→M PV} {K:Frag}
theorem Sim.nest{α β γ δ:Type}{R:Heap→Ad→zaa→α→β→Prop}{R':Heap→Ad→zaa→δ→γ→Prop}{t:Sem β}{k:β→Sem γ}{r:M α}{f:α→M δ}(hl:ι.vis.length=σ.length)
  (h1:Sim prog w hB A R t r s ι σ)
  (h2:∀ a σ' x h' tk ι',r σ=.ok a σ'→Step prog w hB s.heap ι σ h' ι' σ'→R h' ι' σ' a x→Sim prog w hB A R' (k x) (f a) { s with heap:=h',toks:=tk } ι' σ')
  (Q:γ→Shared→Prop) (E:Value→Shared→Prop) (hns:(r.bind f) σ≠.stuck)
  (hok:∀ a σ',(r.bind f) σ=.ok a σ'→∀ x h' tk ι',Step prog w hB s.heap ι σ h' ι' σ'→R' h' ι' σ' a x→Q x { s with heap:=h',toks:=tk })
  (herr:∀ C σ',(r.bind f) σ=.err C σ'→∀ e h' tk ι',Step prog w hB s.heap ι σ h' ι' σ'→Fly s.heap h' e C→E (.ref e) { s with heap:=h',toks:=tk }) :
  wpAny (model prog w) A t (fun x s₁=>wpAny (model prog w) A (k x) Q E s₁) E s:=by
 have hne:r σ≠.stuck:=fun q=>hns (zae q)
 refine h1 _ _ hne (fun a σ₁ e₁ x h₁ tk₁ ι₁ X₁ r₁=>?_) (fun C σ₁ e₁ e h₁ tk₁ ι₁ X₁ F₁=>?_)
 ·have hb:(r.bind f) σ=f a σ₁:=zab e₁
  refine h2 a σ₁ x h₁ tk₁ ι₁ e₁ X₁ r₁ Q E (by rw [← hb];exact hns) (fun b σ₂ e₂ y h₂ tk₂ ι₂ X₂ r₂=>?_) (fun C σ₂ e₂ e h₂ tk₂ ι₂ X₂ F₂=>?_)
  ·exact hok b σ₂ (hb.trans e₂) y h₂ tk₂ ι₂ (X₁.trans hl X₂) r₂
  ·exact herr C σ₂ (hb.trans e₂) e h₂ tk₂ ι₂ (X₁.trans hl X₂) (F₂.older X₁.evo.alive)
 ·exact herr C σ₁ (zap e₁) e h₁ tk₁ ι₁ X₁ F₁
theorem Sim.arg0{α β:Type}{R:Heap→Ad→zaa→α→β→Prop}{t:List Value→Sem β}{k:M α}{vs:List PV}{xs:List Value}(r:RepL s.heap ι σ vs xs)(h:Sim prog w hB A R (t []) k s ι σ):Sim prog w hB A R (t xs) (arg0 vs k) s ι σ:=by
 cases r with
 | nil=>exact h
 | cons=>exact Sim.fail
theorem Sim.arg1{α β:Type}{R:Heap→Ad→zaa→α→β→Prop}{t:List Value→Sem β}{k:PV→M α}{vs:List PV}{xs:List Value}(r:RepL s.heap ι σ vs xs)(h:∀ v x,Rep s.heap ι σ v x→Sim prog w hB A R (t [x]) (k v) s ι σ):Sim prog w hB A R (t xs) (arg1 vs k) s ι σ:=by
 cases r with
 | nil=>exact Sim.fail
 | cons r rs=>exact Sim.arg0 (t:=fun xs=>t (_::xs)) rs (h _ _ r)
theorem Sim.arg2{α β:Type}{R:Heap→Ad→zaa→α→β→Prop}{t:List Value→Sem β}{k:PV→PV→M α}{vs:List PV}{xs:List Value}(r:RepL s.heap ι σ vs xs)(h:∀ v x u y,Rep s.heap ι σ v x→Rep s.heap ι σ u y→Sim prog w hB A R (t [x,y]) (k v u) s ι σ):Sim prog w hB A R (t xs) (arg2 vs k) s ι σ:=by
 cases r with
 | nil=>exact Sim.fail
 | cons r rs=>exact Sim.arg1 (t:=fun xs=>t (_::xs)) rs fun u y r'=>h _ _ u y r r'
theorem za0{e:Expr}{r:List Expr}(h:zau (e::r)=true):zau r=true∧∀ x p,e≠.Starred x p:=by
 unfold zau at h ⊢
 rw [Bool.and_eq_true,List.all_cons,Bool.and_eq_true] at h
 exact ⟨Bool.and_eq_true_iff.mpr ⟨decide_eq_true (Nat.le_of_succ_le (of_decide_eq_true h.1)),h.2.2⟩,fun x p q=>by have:=h.2.1;rw [q] at this;cases this⟩
theorem zaK(pos:Pos):∀{es:List Expr},zau es=true→(backTo pos (starEach es env)).any (·.1)=false
 | [],_=>rfl
 | e::r,h=>by
  obtain ⟨h1,h2⟩:=za0 h
  rw [zaX e r h2]
  show (false || (backTo pos (starEach r env)).any (·.1))=false
  rw [zaK pos h1];rfl
theorem zcM{f:Value}(IH:EvIH prog w hB A env ρ fl E)(hst:∀ e p,E (.Starred e p)=M.fail)(pos:Pos){es:List Expr}(hp:zau es=true)(I:Inv prog w hB env ρ fl s.heap ι σ) :
  Sim prog w hB A (fun h ι σ vs (a:Args)=>RepL h ι σ vs a.pos∧a.kw=[]) (evalArgs f true (backTo pos (starEach es env)) []) (evs E es) s ι σ:=by
 have X:=zbZ IH hst pos es s ι σ I
 cases es with
 | nil=>exact Sim.val I.store I.stays rfl fun Q E h=>PySem.evalArgs_none (h _ s.toks ⟨.nil,rfl⟩)
 | cons e r=>
  rw [zaX e r (za0 hp).2] at X ⊢
  intro Q Er hns hok herr
  exact Calls.evalArgs_plain (X _ _ hns (fun a σ' q x h' tk ι' Y r=>hok a σ' q ⟨x,[]⟩ h' tk ι' Y ⟨r,rfl⟩) herr)
theorem ziL{cv:Value}{cx:Cx}{f y:Str}{fp p:Pos}{args:List Expr}{r:List PV→M PV}(hG:GOk hB cx.G)(H:EnvOk env sc)(IH:EvIH prog w hB A env ρ fl E)(hst:∀ e p,E (.Starred e p)=M.fail)(I:Inv prog w hB env ρ fl s.heap ι σ)
  (hp:zau args=true) (hr:zat cx sc ρ f=some (.bi y)) (hb:bis.lookup y=some cv) (hcv:(∃ i,cv=.builtin i)∨∃ i,cv=.type i)
  (hc:∀ vs xs s' ι' σ',Inv prog w hB env ρ fl s'.heap ι' σ'→RepL s'.heap ι' σ' vs xs→SimV prog w hB A (call cv xs) (r vs) s' ι' σ') :
  SimV prog w hB A (eval (.Call (.Name f fp) args [] p) env) ((evs E args).bind r) s ι σ:=by
 intro Q Er hns hok herr
 refine Call_Name rfl (zbc hG H I.stays hr ⟨cv,hb⟩ _ _ fun v hv=>?_)
 have hv':bis.lookup y=some v:=hv
 rw [hb] at hv';cases hv'
 have Z:=Sim.nest (k:=fun(a:Args)=>call cv ([]++a.pos) a.kw) (f:=r) I.store.len (zcM (f:=cv) IH hst p hp I) (fun vs σ₁ a h₁ tk₁ ι₁ e₁ X₁ r₁=>by
  obtain ⟨a,kw⟩:=a
  obtain ⟨r₁,q⟩:=r₁
  cases q
  exact hc vs a _ ι₁ σ₁ (I.step X₁) r₁) Q Er hns hok herr
 rcases hcv with ⟨i,rfl⟩ | ⟨i,rfl⟩
 ·exact Calls.callWith_builtin (zaK p hp) Z
 ·exact PyProof.Rows.callWith_type (zaK p hp) Z
theorem zmi{G:Gl}{v:PV}{tv:Value}(hk:∀ t b σ',zbT G t v σ=.ok b σ'→σ'=σ∧kitOne K tv (zd3 t)=some b)(hne:∀ t C σ',zbT G t v σ≠.err C σ')(ts:List Ty) :
  (∃ b,zjc G v ts σ=.ok b σ∧kitAny K tv (ts.map zd3)=some b)∨zjc G v ts σ=.stuck:=by
 induction ts with
 | nil=>exact .inl ⟨false,rfl,rfl⟩
 | cons t r ih=>
  cases h:zbT G t v σ with
  | ok b σ'=>
   obtain ⟨rfl,hk'⟩:=hk t b σ' h
   cases b with
   | true=>exact .inl ⟨true,zab h,by rw [List.map_cons];unfold kitAny;rw [hk']⟩
   | false=>
    rcases ih with ⟨b,h1,h2⟩ | h1
    ·exact .inl ⟨b,(zab h).trans h1,by rw [List.map_cons];unfold kitAny;rw [hk',h2]⟩
    ·exact .inr ((zab h).trans h1)
  | err C σ'=>exact absurd h (hne t C σ')
  | stuck=>exact .inr (zae h)
theorem zdC{G:Gl}{v:PV}(t:Ty)(C:Addr)(σ':zaa):zbT G t v σ≠.err C σ':=by
 intro h
 have b:∀ T t,isBi T t σ≠.err C σ':=fun T t h=>by cases t <;> cases h
 cases v with
 | ref i=>
  cases hc:cget i σ with
  | stuck=>rw [show zbT G t (.ref i) σ=_ from zae hc] at h;cases h
  | err=>exact zcs hc
  | ok c σ₁=>
   obtain ⟨rfl,_⟩:=zhG hc
   rw [show zbT G t (.ref i) σ₁=_ from zab hc] at h
   cases c with
   | list _=>exact b _ _ h
   | dict _=>exact b _ _ h
   | dead=>cases h
 | exc D=>
  have h:zhA G D t σ=.err C σ':=h
  unfold zhA at h
  cases hD:G.clss.contains D with
  | false=>rw [hD] at h;cases h
  | true=>
   rw [hD] at h
   cases t with
   | own F=>
    have h:M.cond (G.clss.contains F) (M.ret (G.sub.contains (D,F))) M.fail σ=.err C σ':=h
    cases hF:G.clss.contains F <;> rw [hF] at h <;> cases h
   | _=>cases h
 | _=>exact b _ _ h
theorem zit{cx:Cx}{e:Expr}{r:List Expr}{ts:List Ty}(h:ziu cx sc ρ (e::r)=some ts):∃ x p t ts',e=.Name x p∧tyOf cx sc ρ x=some t∧ziu cx sc ρ r=some ts'∧ts=t::ts':=by
 obtain ⟨x,h1,q⟩:=Option.bind_eq_some_iff.mp h
 obtain ⟨t,h2,q₂⟩:=Option.bind_eq_some_iff.mp q
 obtain ⟨ts',h3,q₃⟩:=Option.bind_eq_some_iff.mp q₂
 cases q₃
 exact ⟨_,_,t,ts',x.2,h2,h3,rfl⟩
theorem zcJ{cx:Cx}{pos:Pos}(hG:GOk hB cx.G)(H:EnvOk env sc)(B:hB.StaysIn s.heap):∀{es:List Expr}{ts:List Ty},ziu cx sc ρ es=some ts→ts.length=es.length∧∀(Q:List Value→Shared→Prop)(E:Value→Shared→Prop),Q (ts.map zd3) s→
  wpAny (model prog w) A (spliced (backTo pos (starEach es env))) Q E s
 | [],ts,h=>by cases h;exact ⟨rfl,fun Q E q=>Calls.spliced_nil q⟩
 | e::r,ts,h=>by
  obtain ⟨x,p,t,ts',rfl,h1,h2,rfl⟩:=zit h
  have ih:=zcJ (pos:=pos) hG H B h2
  exact ⟨congrArg Nat.succ ih.1,fun Q E q=>Calls.spliced_cons (zhQ hG H B h1 _ _ (ih.2 _ _ q))⟩
theorem zcB:bis.lookup ("isinstance":Str)=some (.builtin "isinstance"):=by decide +kernel
theorem zgk{cx:Cx}{f:Str}{fp p:Pos}{x te:Expr}{g:PV→M Bool}(hG:GOk hB cx.G)(H:EnvOk env sc)(IH:EvIH prog w hB A env ρ fl E)(I:Inv prog w hB env ρ fl s.heap ι σ)
  (hp:zau [x,te]=true) (hr:zat cx sc ρ f=some (.bi "isinstance"))
  (hg:∀ v xv s' ι' σ',Inv prog w hB env ρ fl s'.heap ι' σ'→Rep s'.heap ι' σ' v xv→g v σ'=.stuck∨∃ b,g v σ'=.ok b σ'∧∀(Q:Value→Shared→Prop)(E:Value→Shared→Prop),(∀ h' tk,(∀ a o,s'.heap.get? a=some o→h'.get? a=some o)→Q (.bool b) { s' with heap:=h',toks:=tk })→
    wpAny (model prog w) A (eval te env) (fun tv s₁=>wpAny (model prog w) A (call (.builtin "isinstance") [xv,tv]) Q E s₁) E s') :
  SimV prog w hB A (eval (.Call (.Name f fp) [x,te] [] p) env) ((E x).bind fun v=>(g v).bind fun b=>M.ret (.bool b)) s ι σ:=by
 intro Q Er hns hok herr
 refine Call_Name rfl (zbc hG H I.stays hr ⟨_,zcB⟩ _ _ fun v hv=>?_)
 have hv':bis.lookup ("isinstance":Str)=some v:=hv
 rw [zcB] at hv';cases hv'
 obtain ⟨h1,h2⟩:=za0 hp
 obtain ⟨_,h3⟩:=za0 h1
 refine Calls.callWith_builtin (zaK p hp) ?_
 rw [zaX x [te] h2,zaX te [] h3]
 refine Calls.evalArgs_plain (Calls.spliced_cons ?_)
 refine IH x s ι σ I _ _ (fun q=>hns (zae q)) (fun v σ₁ e₁ xv h₁ tk₁ ι₁ X₁ r₁=>?_) (fun C σ₁ e₁ e h₁ tk₁ ι₁ X₁ F₁=>herr C σ₁ (zap e₁) e h₁ tk₁ ι₁ X₁ F₁)
 rcases hg v xv { s with heap:=h₁,toks:=tk₁ } ι₁ σ₁ (I.step X₁) r₁ with q | ⟨b,e₂,k⟩
 ·exact (hns ((zab e₁).trans (zae q))).elim
 ·refine Calls.spliced_cons (wpAny_mono (k Q Er fun h₂ tk₂ hk=>?_) (fun tv s₁ h'=>Calls.spliced_nil h') fun _ _ e=>e)
  have X₂:=Step.keeps (prog:=prog) (w:=w) X₁.store X₁.stays hk
  exact hok _ σ₁ ((zab e₁).trans (zab e₂)) _ _ _ ι₁ (X₁.trans I.store.len X₂) (.bool b)
theorem zoZ{cx:Cx}{t:Str}{q:Pos}{v:PV}{xv:Value}(C:ClsOk K cx.G)(hG:GOk hB cx.G)(hK:K.In hB)(H:EnvOk env sc)(S:StoreOk prog w hB s.heap ι σ)(B:hB.StaysIn s.heap)(r:Rep s.heap ι σ v xv) :
  zmj cx sc ρ v t σ=.stuck∨∃ b,zmj cx sc ρ v t σ=.ok b σ∧∀(Q:Value→Shared→Prop)(E:Value→Shared→Prop),(∀ h' tk,(∀ a o,s.heap.get? a=some o→h'.get? a=some o)→Q (.bool b) { s with heap:=h',toks:=tk })→
   wpAny (model prog w) A (eval (.Name t q) env) (fun tv s₁=>wpAny (model prog w) A (call (.builtin "isinstance") [xv,tv]) Q E s₁) E s:=by
 unfold zmj
 cases ht:tyOf cx sc ρ t with
 | none=>exact .inl rfl
 | some t'=>
  cases hi:zbT cx.G t' v σ with
  | stuck=>exact .inl hi
  | err D σ'=>exact absurd hi (zdC _ _ _)
  | ok b σ'=>
   obtain ⟨tv,Hh,Z,hH,hx,hk⟩:=zkQ (K:=K) (t₀:=t') C S r (by rw [hi];exact fun q=>nomatch q)
   obtain ⟨rfl,hk'⟩:=hk t' b σ' hi
   exact .inr ⟨b,hi,fun Q E hq=>zhQ hG H B ht _ _ (kia_one Z (hK.keeps B) hH hk' hx fun tk=>hq s.heap tk fun _ _ e=>e)⟩
theorem znP{cx:Cx}{es:List Expr}{k:Nat}{q:Pos}{v:PV}{xv:Value}(hl:es.length≤10)(C:ClsOk K cx.G)(hG:GOk hB cx.G)(hK:K.In hB)(H:EnvOk env sc)(S:StoreOk prog w hB s.heap ι σ)(B:hB.StaysIn s.heap)(r:Rep s.heap ι σ v xv) :
  isTy cx sc ρ v es σ=.stuck∨∃ b,isTy cx sc ρ v es σ=.ok b σ∧∀(Q:Value→Shared→Prop)(E:Value→Shared→Prop),(∀ h' tk,(∀ a o,s.heap.get? a=some o→h'.get? a=some o)→Q (.bool b) { s with heap:=h',toks:=tk })→
   wpAny (model prog w) A (eval (.Tuple es k q) env) (fun tv s₁=>wpAny (model prog w) A (call (.builtin "isinstance") [xv,tv]) Q E s₁) E s:=by
 unfold isTy
 cases hts:ziu cx sc ρ es with
 | none=>exact .inl rfl
 | some tys=>
  cases tys with
  | nil=>exact .inl rfl
  | cons t tys=>
   show zjc cx.G v (t::tys) σ=.stuck∨∃ b,zjc cx.G v (t::tys) σ=.ok b σ∧_
   by_cases hne:zbT cx.G t v σ=.stuck
   ·exact .inl (zae hne)
   ·have X:=Step.push (prog:=prog) (w:=w) S B { cls:=.type "tuple",data:=.seq ((t::tys).map zd3).toArray }
    obtain ⟨tv,Hh,Z,hH,hx,hk⟩:=zkQ (K:=K) (s:={ s with heap:=s.heap.push { cls:=.type "tuple",data:=.seq ((t::tys).map zd3).toArray } }) C X.store (r.step S.len X) hne
    rcases zmi (K:=K) hk (fun t C σ'=>zdC _ _ _) (t::tys) with ⟨b,h1,h2⟩ | h1
    ·have sp:=zcJ (prog:=prog) (w:=w) (A:=A) (pos:=q) hG H B hts
     refine .inr ⟨b,h1,fun Q E hq=>wpAny_bind (wpAny_standAt (wpAny_bind (sp.2 _ _ (wpAny_newObj_type ?_ ?_))))⟩
     ·exact kia_tup Z (hK.keeps X.stays) hH (Heap.get?_push_size _ rfl) h2 hx fun tk=>hq _ tk fun _ _ e=>Heap.get?_push_of_some _ e
     ·show ((t::tys).map zd3).toArray.size≤sizeLine
      rw [List.size_toArray,List.length_map,sp.1]
      exact Nat.le_trans hl (by decide)
    ·exact .inl h1
theorem ziH{cx:Cx}{f:Str}{fp p:Pos}{args:List Expr}(C:ClsOk K cx.G)(hG:GOk hB cx.G)(hK:K.In hB)(H:EnvOk env sc)(IH:EvIH prog w hB A env ρ fl E)(I:Inv prog w hB env ρ fl s.heap ι σ)
  (hp:zau args=true) (hr:zat cx sc ρ f=some (.bi "isinstance")) :
  SimV prog w hB A (eval (.Call (.Name f fp) args [] p) env) (evIs cx sc ρ E args) s ι σ:=by
 match args,hp with
 | [],_=>exact Sim.fail
 | [x],_=>exact Sim.fail
 | x::y::z::r,_=>exact Sim.fail
 | [x,te],hp=>
  cases te with
  | Name t q=>exact zgk hG H IH I hp hr fun v xv s' ι' σ' I' r'=>zoZ C hG hK H I'.store I'.stays r'
  | Tuple es k q=>exact Sim.cond (fun hl=>zgk hG H IH I hp hr fun v xv s' ι' σ' I' r'=>znP (of_decide_eq_true hl) C hG hK H I'.store I'.stays r') fun _=>Sim.fail
  | _=>exact Sim.fail
end
section
variable {prog:Program} {w:World} {hB:Heap} {A:Around} {s:Shared} {ι:Ad} {σ:zaa} {h h':Heap} {env:Env} {ρ:Loc} {fl:List Env} {sc:Scope}
noncomputable def PR(h:Heap)(ι:Ad)(σ:zaa)(kvs:List (Str×PV))(ys:List (Str×Value)):Prop:=
 ys.map (·.1)=kvs.map (·.1)∧RepL h ι σ (kvs.map (·.2)) (ys.map (·.2))
theorem PR.nil:PR h ι σ [] []:=⟨rfl,.nil⟩
theorem PR.cons{k:Str}{v:PV}{x:Value}{kvs:List (Str×PV)}{ys:List (Str×Value)}(r:Rep h ι σ v x)(p:PR h ι σ kvs ys):PR h ι σ ((k,v)::kvs) ((k,x)::ys):=⟨by simp [p.1],.cons r p.2⟩
theorem PR.inv{kv:Str×PV}{kvs:List (Str×PV)}{ys:List (Str×Value)}(p:PR h ι σ (kv::kvs) ys):∃ x ys',ys=(kv.1,x)::ys'∧Rep h ι σ kv.2 x∧PR h ι σ kvs ys':=by
 obtain ⟨h1,h2⟩:=p
 cases ys with
 | nil=>simp at h1
 | cons y ys'=>
  obtain ⟨k,x⟩:=y
  simp only [List.map_cons,List.cons.injEq] at h1
  obtain ⟨rfl,h1⟩:=h1
  cases h2 with
  | cons r rs=>exact ⟨x,ys',rfl,r,h1,rs⟩
theorem PR.nil_inv{ys:List (Str×Value)}(p:PR h ι σ [] ys):ys=[]:=by
 have:=p.1;simpa using this
theorem PR.append{a b:List (Str×PV)}{xs ys:List (Str×Value)}(p:PR h ι σ a xs)(q:PR h ι σ b ys):PR h ι σ (a++b) (xs++ys):=⟨by simp [p.1,q.1],by simpa using p.2.append q.2⟩
theorem PR.length{kvs:List (Str×PV)}{ys:List (Str×Value)}(p:PR h ι σ kvs ys):ys.length=kvs.length:=by
 have:=congrArg List.length p.1;simpa using this
theorem PR.any(k:Str):∀{kvs:List (Str×PV)}{ys:List (Str×Value)},PR h ι σ kvs ys→(ys.any fun kv=>decide (kv.1=k))=kvs.any fun kv=>decide (kv.1=k)
 | [],_,p=>by rw [p.nil_inv];rfl
 | kv::kvs,_,p=>by
  obtain ⟨x,ys',rfl,_,q⟩:=p.inv
  simp only [List.any_cons,PR.any k q]
theorem PR.mapPut{k:Str}{v:PV}{x:Value}(r:Rep h ι σ v x):∀{kvs:List (Str×PV)}{ys:List (Str×Value)},PR h ι σ kvs ys→
  PR h ι σ (kvs.map fun kv=>if kv.1=k then (kv.1,v) else kv) (ys.map fun kv=>if kv.1=k then (kv.1,x) else kv)
 | [],_,p=>by rw [p.nil_inv];exact PR.nil
 | (k',v')::kvs,_,p=>by
  obtain ⟨y,ys',rfl,r',q⟩:=p.inv
  simp only [List.map_cons]
  by_cases hk:k'=k
  ·simp only [hk,if_true];exact PR.cons r (PR.mapPut r q)
  ·simp only [hk,if_false];exact PR.cons r' (PR.mapPut r q)
theorem PR.put{k:Str}{v:PV}{x:Value}{kvs:List (Str×PV)}{ys:List (Str×Value)}(p:PR h ι σ kvs ys)(r:Rep h ι σ v x):PR h ι σ (dput k v kvs) (stored ys k x):=by
 unfold dput stored
 rw [p.any k]
 split
 ·exact PR.mapPut r p
 ·exact p.append (PR.cons r PR.nil)
theorem PR.merge:∀{b:List (Str×PV)}{ys:List (Str×Value)}{a:List (Str×PV)}{xs:List (Str×Value)},PR h ι σ a xs→PR h ι σ b ys→PR h ι σ (zgO a b) (merged xs ys)
 | [],_,_,_,p,q=>by rw [q.nil_inv];exact p
 | kv::b,_,a,xs,p,q=>by
  obtain ⟨y,ys',rfl,r',q'⟩:=q.inv
  show PR h ι σ (zgO (dput kv.1 kv.2 a) b) (merged (stored xs kv.1 y) ys')
  exact PR.merge (p.put r') q'
theorem PR.evo{ι':Ad}{σ':zaa}{kvs:List (Str×PV)}{ys:List (Str×Value)}(hl:ι.vis.length=σ.length)(X:Evo [] h ι σ h' ι' σ')(p:PR h ι σ kvs ys):PR h' ι' σ' kvs ys:=⟨p.1,p.2.evo hl X (NoSeq.nil _)⟩
theorem DictOf.there{K:Type} [DecidableEq K] {knd:PySem.KeyKind prog w K} {a:Addr} {ys:List (K×Value)} (d:h.DictOf knd a ys):∃ o,h.get? a=some o:=by
 obtain ⟨o,_,_,ho,_⟩:=d;exact ⟨o,ho⟩
theorem zfE{D:Addr}{kvs:List (Str×PV)}{ys:List (Str×Value)}(S:StoreOk prog w hB s.heap ι σ)(B:hB.StaysIn s.heap)(hk:∀ b o,s.heap.get? b=some o→h'.get? b=some o)(hD:s.heap.get? D=none)
  (hp:h'.DictOf (PySem.strKind prog w) D ys) (r:PR s.heap ι σ kvs ys):Step prog w hB s.heap ι σ h' (ι.add D) (σ++[.dict kvs]):=by
 have X:=zie (ι:=ι) (σ:=σ) (.dict kvs) hk hD
 have r':=r.evo S.len X
 exact Step.newAt S B _ hk hD (DictOf.there hp) ⟨ys,hp,r'.1,r'.2⟩
theorem zji(S:StoreOk prog w hB s.heap ι σ){i:Nat}{a:Addr}(hi:ι.vis[i]?=some a):(∃ kvs ys,dget i σ=.ok kvs σ∧σ[i]?=some (.dict kvs)∧s.heap.DictOf (PySem.strKind prog w) a ys∧PR s.heap ι σ kvs ys)∨dget i σ=.stuck:=by
 unfold dget M.bind cget
 cases hc:σ[i]? with
 | none=>exact .inr rfl
 | some c=>
  cases c with
  | list xs=>exact .inr rfl
  | dict kvs=>obtain ⟨ys,hd,h1,h2⟩:=S.ok _ _ _ hi hc;exact .inl ⟨kvs,ys,rfl,rfl,hd,h1,h2⟩
  | dead=>exact .inr rfl
theorem zlS{n:Nat}(h:n<1000):n≤sizeLine:=Nat.le_trans (Nat.le_of_lt h) (by decide)
theorem Sim.dget{α β:Type}{R:Heap→Ad→zaa→α→β→Prop}{t:Sem β}{f:List (Str×PV)→M α}{i:Nat}{a:Addr}(S:StoreOk prog w hB s.heap ι σ)(hi:ι.vis[i]?=some a)
  (k:∀ kvs ys,σ[i]?=some (.dict kvs)→s.heap.DictOf (PySem.strKind prog w) a ys→PR s.heap ι σ kvs ys→Sim prog w hB A R t (f kvs) s ι σ):Sim prog w hB A R t ((dget i).bind f) s ι σ:=by
 rcases zji S hi with ⟨kvs,ys,h1,hc,hd,p⟩ | h1
 ·exact (k kvs ys hc hd p).res (zab h1)
 ·exact Sim.bstuck h1
theorem zjZ{v:PV}{x:Value}(S:StoreOk prog w hB s.heap ι σ)(B:hB.StaysIn s.heap)(r:Rep s.heap ι σ v x):SimV prog w hB A (call (.type "dict") [x]) (zpb v) s ι σ:=by
 refine Sim.onRef (t:=fun x=>call (.type "dict") [x]) r fun i a hi=>Sim.dget S hi fun kvs ys hc hd p=>Sim.cond (fun hn=>?_) fun _=>Sim.fail
 intro Q Er _ hok _
 refine kt_call_dict (zgu S (List.mem_of_getElem? hi)) hd (zlS (by rw [p.length];exact of_decide_eq_true hn)) fun h' hd' hs=>?_
 have hk:∀ b o,s.heap.get? b=some o→h'.get? b=some o:=fun b o e=>(hs.2 b (Nat.ne_of_lt (Heap.lt_size e))).trans (Heap.get?_push_of_some _ e)
 exact hok (.ref σ.length) (σ++[.dict kvs]) rfl _ h' s.toks _ (zfE S B hk (zaB _) hd' p) (.ref (zeo S _))
theorem zf5{c:Const}{kc:Nat}{cp:Pos}{v:PV}(hc:zli c=some v)(Q:Value→Shared→Prop)(E:Value→Shared→Prop) (hq:∀ x tk,(∀ h,Rep h ι σ v x)→Q x { s with toks:=tk }) :
  wpAny (model prog w) A (eval (.Constant c kc cp) env) Q E s:=by
 cases c with
 | none=>cases hc;exact Constant_none (hq _ s.toks fun _=>.none)
 | bool b=>cases hc;exact Constant_bool (hq _ s.toks fun _=>.bool _)
 | int i=>cases hc;exact wpAny_mkInt (hq _ _ fun _=>.int _ _)
 | str x=>cases hc;exact Calls.Constant_str (hq _ _ fun _=>.str _ _)
 | _=>cases hc
theorem zmc{pos:Pos}:∀(ks:List (Option Expr))(vs:List Expr)(l:List (Str×PV)),zdT ks vs=some l→ks.all (·.isSome)=true∧ks.length=vs.length∧ks.length=l.length∧
  ∀(s:Shared)(Q:List (Value×Value)→Shared→Prop)(E:Value→Shared→Prop),(∀ xs ys tk,Carries (PySem.strKind prog w) xs ys→(∀ h,PR h ι σ l ys)→Q xs { s with toks:=tk })→wpAny (model prog w) A (evalPairs (pairTrees ks vs env pos)) Q E s:=by
 intro ks
 induction ks with
 | nil=>
  intro vs l h
  cases vs with
  | nil=>cases h;exact ⟨rfl,rfl,rfl,fun s Q E hq=>pairTrees_nil_walk (hq [] [] s.toks trivial fun _=>PR.nil)⟩
  | cons _ _=>cases h
 | cons k ks ih=>
  intro vs l h
  cases vs with
  | nil=>cases h
  | cons v vs=>
   obtain ⟨k,rfl,q⟩:=Option.bind_eq_some_iff.mp h
   obtain ⟨c,h1,q₁⟩:=Option.bind_eq_some_iff.mp q
   obtain ⟨k',h2,q₂⟩:=Option.bind_eq_some_iff.mp q₁
   obtain ⟨cv,h3,q₃⟩:=Option.bind_eq_some_iff.mp q₂
   obtain ⟨x,h4,q₄⟩:=Option.bind_eq_some_iff.mp q₃
   obtain ⟨r,h5,q₅⟩:=Option.bind_eq_some_iff.mp q₄
   obtain ⟨⟨c,ck,cp⟩,rfl⟩:=c
   obtain ⟨k',hk⟩:=k'
   have hk':c=.str k':=hk
   subst hk'
   obtain ⟨⟨cv,vk,vp⟩,rfl⟩:=cv
   cases q₅
   obtain ⟨a1,a2,a3,a4⟩:=ih vs r h5
   refine ⟨a1,congrArg Nat.succ a2,congrArg Nat.succ a3,fun s Q E hq=>?_⟩
   refine pairTrees_cons_walk ?_
   refine zf5 (ι:=ι) (σ:=σ) (c:=.str k') rfl _ _ fun kx tk₁ rk=>?_
   refine zf5 (ι:=ι) (σ:=σ) (c:=cv) h4 _ _ fun vx tk₂ rv=>?_
   refine a4 _ _ _ fun xs ys tk hcar hpr=>?_
   obtain ⟨kt,rfl⟩:=(rk s.heap).inv
   exact hq ((.str k' kt,vx)::xs) ((k',vx)::ys) tk ⟨strKind_is _ _ _ _,rfl,hcar⟩ fun h=>PR.cons (rv h) (hpr h)
theorem zkS{o:Obj}{a:Addr}(ha:a=s.heap.objs.size)(hs:Heap.SameBut a (s.heap.push o) h'):∀ b o',s.heap.get? b=some o'→h'.get? b=some o':=fun b o' e=>
 (hs.2 b (by rw [ha];exact Nat.ne_of_lt (Heap.lt_size e))).trans (Heap.get?_push_of_some _ e)
theorem zjY{ks:List (Option Expr)}{vs:List Expr}{p:Pos}(I:Inv prog w hB env ρ fl s.heap ι σ) :
  SimV prog w hB A (eval (.Dict ks vs p) env) ((M.lift (zdT ks vs)).bind fun l=>M.cond (decide (l.length≤15)) (cnew (.dict (zgO [] l))) M.fail) s ι σ:=by
  refine Sim.lift fun l hl=>Sim.cond (fun hn=>?_) fun _=>Sim.fail
  have hn:=of_decide_eq_true hn
  obtain ⟨a1,a2,a3,a4⟩:=zmc (prog:=prog) (w:=w) (ι:=ι) (σ:=σ) (env:=env) (A:=A) (pos:=p) ks vs l hl
  intro Q Er _ hok _
  by_cases h0:ks=[]
  ·subst h0
   have:vs=[]:=List.length_eq_zero_iff.mp a2.symm
   subst this
   have:l=[]:=List.length_eq_zero_iff.mp a3.symm
   subst this
   refine wpAny_Dict_empty ?_
   exact hok (.ref σ.length) (σ++[.dict []]) rfl _ _ s.toks _ (zfE I.store I.stays (fun b o e=>Heap.get?_push_of_some _ e) (zaB _) (Heap.DictOf.new s.heap) PR.nil) (.ref (zeo I.store _))
  ·refine wpAny_Dict_walk (knd:=PySem.strKind prog w) a1 a2 h0 (by rw [a3];exact hn) (a4 _ _ _ fun xs ys tk hcar hpr=>⟨ys,hcar,Heap.DictOf.new s.heap,fun h' hd hs=>?_⟩)
   exact hok (.ref σ.length) (σ++[.dict (zgO [] l)]) rfl _ h' _ _ (zfE I.store I.stays (zkS rfl hs) (zaB _) hd (PR.merge PR.nil (hpr _))) (.ref (zeo I.store _))
end
section
variable {prog:Program} {w:World} {hB:Heap} {A:Around} {s:Shared} {ι:Ad} {σ:zaa} {h h':Heap} {env:Env} {ρ:Loc} {fl:List Env} {sc:Scope}
theorem zgr:∀{vs:List Value}{ss:List Str},StrsAre vs ss→RepL h ι σ (ss.map .str) vs
 | _,_,.nil=>.nil
 | _,_,.cons x t r=>.cons (.str x t) (zgr r)
theorem zdv:∀{ys:List (Str×Value)}{vs:List Value},vs.length=ys.length→(∀(j:Nat)(v:Value),vs[j]?=some v→∃ k x,ys[j]?=some (k,x)∧(PySem.strKind prog w).is k v=true)→StrsAre vs (ys.map (·.1))
 | [],[],_,_=>.nil
 | (k,x)::ys,v::vs,hl,h=>by
  obtain ⟨k',x',h1,h2⟩:=h 0 v rfl
  simp at h1
  obtain ⟨rfl,rfl⟩:=h1
  obtain ⟨t,rfl⟩:∃ t,v=.str k t:=by
   cases v <;> simp [PySem.strKind,Value.isStrOf] at h2
   exact ⟨_,by rw [h2]⟩
  exact .cons k t (zdv (by simpa using hl) fun j u hu=>by simpa using h (j+1) u (by simpa using hu))
 | [],_::_,hl,_=>by simp at hl
 | _::_,[],hl,_=>by simp at hl
theorem zhg{t:Sem Value}{cx:Cx}{p:Pos}{xs:List PV}(S:StoreOk prog w hB s.heap ι σ)(B:hB.StaysIn s.heap)
  (mk:∀(Q:Value→Shared→Prop)(E:Value→Shared→Prop),(∀ D h' n tk (vs:List Value),RepL s.heap ι σ xs vs→s.heap.get? D=none→(∀ b o,s.heap.get? b=some o→h'.get? b=some o)→h'.get? D=some { cls:=.type "list",data:=.seq vs.toArray n }→Q (.ref D) { s with heap:=h',toks:=tk })→wpAny (model prog w) A t Q E s) :
  SimV prog w hB A t (zaD cx p xs) s ι σ:=by
 refine Sim.cond (fun _=>?_) (fun _=>?_)
 ·intro Q E _ hok _
  refine mk _ _ fun D h' n tk vs r hD hk hd=>hok (.ref σ.length) (σ++[.list xs]) rfl _ _ tk (ι.add D) ?_ (.ref (zeo S D))
  have X:=zie (ι:=ι) (σ:=σ) (.list xs) hk hD
  exact Step.newAt S B _ hk hD ⟨_,hd⟩ ⟨vs.toArray,⟨n,hd⟩,by simpa using r.evo S.len X (NoSeq.nil _)⟩
 ·intro Q E _ hok _
  refine mk _ _ fun D h' n tk vs r hD hk hd=>hok _ _ rfl _ _ tk ι (Step.keeps S B hk) ?_
  have X:=(Step.keeps (prog:=prog) (w:=w) S B hk).evo
  exact .lst hd (zdw S hD) (by simpa using r.evo S.len X (NoSeq.nil _))
end
section
variable {prog:Program} {w:World} {hB:Heap} {A:Around} {s:Shared} {ι:Ad} {σ:zaa} {h h':Heap} {env:Env} {ρ:Loc} {fl:List Env} {sc:Scope} {cx:Cx} {p:Pos} {o:PV} {x:Value} {vs:List PV} {xs:List Value}
theorem zjU{v:PV}(hlp:cx.md.lp=true→A.handled=none)(S:StoreOk prog w hB s.heap ι σ)(B:hB.StaysIn s.heap)(r:Rep s.heap ι σ v x):SimV prog w hB A (call (.type "list") [x]) (znH cx p v) s ι σ:=by
 have seq:SimV prog w hB A (call (.type "list") [x]) ((items v).bind fun xs=>M.cond (decide (xs.length≤2 ^ 20)) (zaD cx p xs) M.fail) s ι σ:=
  Sim.items (t:=fun x=>call (.type "list") [x]) S r fun xs l vs n e rl=>Sim.cond (fun hn=>zhR S B e rl (of_decide_eq_true hn)) fun _=>Sim.fail
 cases v with
 | ref i=>
  obtain ⟨a,rfl,hi⟩:=r.inv
  refine Sim.cel S hi fun c hc ok=>?_
  cases c with
  | list xs=>obtain ⟨vs,⟨n,hp⟩,rl⟩:=ok;exact Sim.cond (fun hn=>zhR S B (.inl hp) rl (of_decide_eq_true hn)) fun _=>Sim.fail
  | dict kvs=>
   obtain ⟨ys,hd,p1,p2⟩:=ok
   refine Sim.cond (fun hn=>?_) fun _=>Sim.fail
   have hn':=Bool.and_eq_true_iff.mp hn
   have hlen:ys.length≤sizeLine:=by rw [← List.length_map (f:=(·.1)),p1,List.length_map];exact Nat.le_trans (of_decide_eq_true hn'.2) (by decide)
   refine zhg (cx:=cx) (p:=p) (xs:=kvs.map fun kv=>.str kv.1) S B fun Q E hq=>?_
   obtain ⟨ep,hat⟩:=hd.dictAt
   refine kdl_call (kdl_dict (knd:=PySem.strKind prog w) (kvs:=ys) (ep:=ep) (zgu S (List.mem_of_getElem? hi))) (hlp hn'.1) hat hlen fun h' tk acc c' hk hD hacc=>?_
   have hS:StrsAre acc.toList (ys.map (·.1)):=zdv (prog:=prog) (w:=w) hacc.1 fun j v e=>hacc.2 j v ((Array.getElem?_toList ..).symm.trans e)
   rw [p1] at hS
   have r2:=zgr (h:=s.heap) (ι:=ι) (σ:=σ) hS
   rw [List.map_map] at r2
   exact hq _ h' c' tk acc.toList r2 (zaB _) hk (by rw [Array.toArray_toList];exact hD)
  | dead=>exact Sim.fail
 | _=>exact seq
theorem repD{kvs:List (Str×PV)}{ys:List (Str×Value)}(q:PR h ι σ kvs ys){k:Str}{d:PV}{y:Value}(r:Rep h ι σ d y):Rep h ι σ ((dat kvs k).getD d) ((valueAt ys k).getD y):=by
 cases hd:dat kvs k with
 | none=>rw [zfR q.1 hd];exact r
 | some z=>obtain ⟨v,h1,h2⟩:=zfQ q.1 q.2 hd;rw [h1];exact h2
theorem zlZ(S:StoreOk prog w hB s.heap ι σ)(B:hB.StaysIn s.heap)(r:Rep s.heap ι σ o x)(rs:RepL s.heap ι σ vs xs) :
  SimV prog w hB A (call (.builtin "dict.get") (x::xs)) (zdy cx p .get o vs) s ι σ:=by
 refine Sim.onRef (t:=fun x=>call (.builtin "dict.get") (x::xs)) r fun i a hi=>Sim.dget S hi fun kvs ys hc hd q=>?_
 have lo:=zgu S (List.mem_of_getElem? hi)
 cases rs with
 | nil=>exact Sim.fail
 | cons rk rs=>
  refine Sim.onStr (t:=fun y=>call (.builtin "dict.get") (.ref a::y::_)) rk fun k t=>?_
  cases rs with
  | nil=>exact Sim.val S B rfl fun Q E hq=>call_meetsIn F.slot_dict_get hd.typeIs F.entry_dict_get (F.args_dict_get_2 _ _) (meets_dict_get (PySem.strKind prog w) a (strKind_is _ _ k t) lo) ⟨_,hd.mapOf,hq _ _ (repD q .none)⟩
  | cons rd rs=>exact Sim.arg0 (t:=fun l=>call (.builtin "dict.get") (.ref a::.str k t::_::l)) rs (Sim.val S B rfl fun Q E hq=>call_meetsIn F.slot_dict_get hd.typeIs F.entry_dict_get (F.args_dict_get_3 _ _ _) (meets_dict_get_default (PySem.strKind prog w) a (strKind_is _ _ k t) lo _) ⟨_,hd.mapOf,hq _ _ (repD q rd)⟩)
end
section
variable {prog:Program} {w:World} {hB:Heap} {A:Around} {s:Shared} {ι:Ad} {σ:zaa} {env:Env} {ρ:Loc} {fl:List Env} {sc:Scope} {E:Expr→M PV} {K:Frag}
theorem zkE{md:Md}{d:Nat}(H:Ar md d fl A)(h:md.lp=true):A.handled=none:=H.quiet (.inr h)
noncomputable def zmw:Bi→Value
 | .len=>.builtin "len" | .all=>.builtin "all" | .any=>.builtin "any" | .sum=>.builtin "sum" | .list=>.type "list" | .tuple=>.type "tuple" | .int=>.type "int" | .min=>.builtin "min" | .dict=>.type "dict"
theorem zlB:∀ e∈biTab,bis.lookup e.1=some (zmw e.2):=by decide +kernel
theorem zjq(b:Bi):(∃ i,zmw b=.builtin i)∨∃ i,zmw b=.type i:=by
 cases b <;> first | exact .inl ⟨_,rfl⟩ | exact .inr ⟨_,rfl⟩
theorem zhk{d:Nat}{cx:Cx}{p:Pos}{b:Bi}{vs:List PV}{xs:List Value}(H:Ar cx.md d fl A)(S:StoreOk prog w hB s.heap ι σ)(B:hB.StaysIn s.heap)(r:RepL s.heap ι σ vs xs) :
  SimV prog w hB A (call (zmw b) xs) (zfX cx p b vs) s ι σ:=by
 have lp:∀{t:Sem Value}{m:M PV},(A.handled=none→SimV prog w hB A t m s ι σ)→SimV prog w hB A t (M.cond cx.md.lp m M.fail) s ι σ:=fun h=>Sim.cond (fun q=>h (zkE H q)) fun _=>Sim.fail
 cases b with
 | len=>exact Sim.arg1 (t:=fun l=>call (.builtin "len") l) r fun v x r=>zno S B r
 | all=>exact Sim.arg1 (t:=fun l=>call (.builtin "all") l) r fun v x r=>lp fun hh=>(zj6 S B hh r).1
 | any=>exact Sim.arg1 (t:=fun l=>call (.builtin "any") l) r fun v x r=>lp fun hh=>(zj6 S B hh r).2
 | sum=>exact Sim.arg1 (t:=fun l=>call (.builtin "sum") l) r fun v x r=>lp fun hh=>znl S B hh r
 | list=>exact Sim.arg1 (t:=fun l=>call (.type "list") l) r fun v x r=>zjU (zkE H) S B r
 | tuple=>exact Sim.arg1 (t:=fun l=>call (.type "tuple") l) r fun v x r=>zjQ S B r
 | int=>
  refine Sim.arg1 (t:=fun l=>call (.type "int") l) r fun v x r=>?_
  cases v with
  | bool b=>cases r.inv;exact Sim.val S B rfl fun Q E h=>call_int_bool (h _ _ (.int _ _))
  | _=>exact Sim.fail
 | min=>
  refine Sim.arg2 (t:=fun l=>call (.builtin "min") l) r fun v x v' x' ra rb=>Sim.onInt (t:=fun x=>call (.builtin "min") [x,x']) ra fun a t=>Sim.onInt (t:=fun x=>call (.builtin "min") [.int a t,x]) rb fun b u=>lp fun hh=>?_
  intro Q E hns hok _
  refine min_two_ints hh fun h' tk hk=>?_
  exact hok _ σ rfl (if b<a then .int b u else .int a t) h' tk ι (Step.keeps S B hk) (by split <;> exact .int _ _)
 | dict=>exact Sim.arg1 (t:=fun l=>call (.type "dict") l) r fun v x r=>zjZ S B r
end
section
variable {prog:Program} {w:World} {hB:Heap} {A:Around} {s:Shared} {ι:Ad} {σ:zaa} {env:Env} {ρ:Loc} {fl:List Env} {sc:Scope} {E:Expr→M PV} {K:Frag}
noncomputable def mtId:Mt→String
 | .append=>"list.append" | .clear=>"list.clear" | .extend=>"list.extend" | .index=>"list.index" | .count=>"list.count" | .join=>"str.join"
 | .get=>"dict.get"
noncomputable def zh3:Mt→Str
 | .append=>"append" | .clear=>"clear" | .extend=>"extend" | .index=>"index" | .count=>"count" | .join=>"join"
 | .get=>"get"
noncomputable def mtTn:Mt→Tn
 | .join=>.str
 | .get=>.dict
 | _=>.list
theorem zl8(k:Mt):PlainAttrs (zhb (mtTn k))∧Slot (zhb (mtTn k)) (zh3 k) (mtId k)∧typeOf (.builtin (mtId k))=pure (.type "method_descriptor"):=by
 cases k with
 | append=>exact ⟨F.plainAttrs_list,F.slot_list_append,F.type_list_append⟩
 | clear=>exact ⟨F.plainAttrs_list,F.slot_list_clear,F.type_list_clear⟩
 | extend=>exact ⟨F.plainAttrs_list,F.slot_list_extend,F.type_list_extend⟩
 | index=>exact ⟨F.plainAttrs_list,F.slot_list_index,F.type_list_index⟩
 | count=>exact ⟨F.plainAttrs_list,F.slot_list_count,F.type_list_count⟩
 | join=>exact ⟨F.plainAttrs_str,F.slot_str_join,F.type_str_join⟩
 | get=>exact ⟨F.plainAttrs_dict,F.slot_dict_get,F.type_dict_get⟩
theorem zoO{T:Tn}{m:Str}{k:Mt}(h:mtOf T m=some k):T=mtTn k∧m=zh3 k:=by
 have go:∀ T,(∀ e∈zl9 T,T=mtTn e.2∧e.1=zh3 e.2):=fun T=>by cases T <;> decide +kernel
 exact go T _ (zcT h)
theorem zjB{v:PV}{x:Value}{T:Tn}{σ':zaa}(S:StoreOk prog w hB s.heap ι σ)(r:Rep s.heap ι σ v x)(h:tnOf v σ=.ok T σ'):σ'=σ∧((zl9 T).isEmpty=false→s.TypeIs x (zhb T)∧∀ a,x=.ref a→∃ ob,s.heap.get? a=some ob∧ob.dict=none):=by
 cases v with
 | str y=>obtain ⟨t,rfl⟩:=r.inv;cases h;exact ⟨rfl,fun _=>⟨typeIs_str _ _ _,fun a q=>nomatch q⟩⟩
 | lst xs=>obtain ⟨l,vs,n,rfl,e,_⟩:=r.inv;cases h;exact ⟨rfl,fun _=>⟨⟨_,e,rfl⟩,fun a q=>by cases q;exact ⟨_,e,rfl⟩⟩⟩
 | ref i=>
  obtain ⟨a,rfl,hi⟩:=r.inv
  cases hc:cget i σ with
  | stuck=>rw [show tnOf (.ref i) σ=_ from zae hc] at h;cases h
  | err=>exact (zcs hc).elim
  | ok c σ₁=>
   obtain ⟨rfl,hc'⟩:=zhG hc
   rw [show tnOf (.ref i) σ₁=_ from zab hc] at h
   cases c with
   | list xs=>
    cases h
    obtain ⟨vs,⟨n,hp⟩,_⟩:=S.ok _ _ _ hi hc'
    exact ⟨rfl,fun _=>⟨⟨_,hp,rfl⟩,fun a q=>by cases q;exact ⟨_,hp,rfl⟩⟩⟩
   | dict kvs=>
    cases h
    obtain ⟨ys,hd,_⟩:=S.ok _ _ _ hi hc'
    exact ⟨rfl,fun _=>⟨hd.typeIs,fun a q=>by cases q;obtain ⟨o,es,ep,ho,hdd,_⟩:=hd;exact ⟨_,ho,hdd.2.1⟩⟩⟩
   | dead=>cases h
 | exc=>cases h
 | none=>cases h;exact ⟨rfl,fun q=>nomatch q⟩
 | bool=>cases h;exact ⟨rfl,fun q=>nomatch q⟩
 | int=>cases h;exact ⟨rfl,fun q=>nomatch q⟩
 | tup=>cases h;exact ⟨rfl,fun q=>nomatch q⟩
theorem mt_T(k:Mt):(zl9 (mtTn k)).isEmpty=false:=by cases k <;> rfl
theorem zfA{i:Nat}{a:Addr}{xs ys:List PV}{us:Array Value}{m:Nat}{h':Heap}(S:StoreOk prog w hB s.heap ι σ)(B:hB.StaysIn s.heap)(hi:ι.vis[i]?=some a)(hc:σ[i]?=some (.list xs))(hs:Heap.SameBut a s.heap h')
  (hp:h'.get? a=some { cls:=.type "list",data:=.seq us m }) (r:RepL s.heap ι σ ys us.toList):Step prog w hB s.heap ι σ h' ι (σ.set i (.list ys)):=by
 have B':=zfz B (S.base a (List.mem_of_getElem? hi)) hs
 have X:=zk6 (c:=.list ys) hi hc (by intro q;cases q) hs ⟨_,hp⟩
 exact Step.set S B' hi hc (by intro q;cases q) hs ⟨us,⟨m,hp⟩,r.evo S.len X (NoSeq.nil _)⟩ ⟨_,hp⟩
theorem zcA(x:PV):∀(zs:List PV)(i j:Nat),zbp x zs i=some j→∃ k,j=i+k∧∃ z,zs[k]?=some z∧eqv z x=true∧∀ m,m<k→∀ z',zs[m]?=some z'→eqv z' x=false
 | [],i,j,h=>by cases h
 | z::zs,i,j,h=>by
  unfold zbp at h
  cases q:eqv z x with
  | true=>rw [q] at h;cases h;exact ⟨0,rfl,z,rfl,q,fun m hm=>absurd hm (Nat.not_lt_zero _)⟩
  | false=>
   rw [q] at h
   obtain ⟨k,rfl,u,h1,h2,h3⟩:=zcA x zs (i+1) j h
   refine ⟨k+1,by lia,u,h1,h2,fun m hm z' hz=>?_⟩
   cases m with
   | zero=>cases hz;exact q
   | succ m=>exact h3 m (Nat.lt_of_succ_lt_succ hm) z' hz
theorem zho{n:Nat}(h:n<2 ^ 20):n<sizeLine:=Nat.lt_of_lt_of_le h (by decide)
theorem ziN{i:Nat}{a:Addr}{v:PV}{y:Value}(S:StoreOk prog w hB s.heap ι σ)(B:hB.StaysIn s.heap)(hi:ι.vis[i]?=some a)(r:Rep s.heap ι σ v y) :
  SimV prog w hB A (call (.builtin "list.append") [.ref a,y]) ((lget i).bind fun xs=>M.cond (decide (xs.length<2 ^ 20)) ((cset i (.list (xs++[v]))).bind fun _=>M.ret .none) M.fail) s ι σ:=by
 refine Sim.lget S hi fun ys us n hc hp rl=>Sim.cond (fun hn=>?_) fun _=>Sim.fail
 intro Q Er hns hok _
 refine wpAny_list_append_plain ⟨n,hp⟩ (fun h' ⟨m,hp'⟩ hs=>?_) (Nat.le_of_lt (Nat.lt_of_le_of_lt (Nat.le_of_eq rl.length.symm) (zho (of_decide_eq_true hn))))
 refine hok .none (σ.set i (.list (ys++[v]))) rfl _ h' s.toks ι (zfA S B hi hc hs hp' ?_) .none
 rw [Array.toList_push];exact rl.append (.cons r .nil)
theorem zj4{i:Nat}{a:Addr}(S:StoreOk prog w hB s.heap ι σ)(B:hB.StaysIn s.heap)(hi:ι.vis[i]?=some a) :
  SimV prog w hB A (call (.builtin "list.clear") [.ref a]) ((lget i).bind fun xs=>M.cond (decide (xs.length<2 ^ 20)) ((cset i (.list [])).bind fun _=>M.ret .none) M.fail) s ι σ:=by
 refine Sim.lget S hi fun ys us n hc hp rl=>Sim.cond (fun hn=>?_) fun _=>Sim.fail
 intro Q Er hns hok _
 refine call_meets F.slot_list_clear ⟨_,hp,rfl⟩ F.entry_list_clear (F.args_list_clear_1 _) (AutoSeq1.list_clear_list_0 a us n (Nat.le_of_lt (Nat.lt_of_le_of_lt (Nat.le_of_eq rl.length.symm) (zho (of_decide_eq_true hn))))) ⟨hp,?_⟩
 exact hok .none (σ.set i (.list [])) rfl _ _ s.toks ι (zfA S B hi hc (Heap.SameBut.update ..) (IsL.update hp _) .nil) .none
theorem ziJ{i:Nat}{a b:Addr}{ws:Array Value}{m:Nat}{zs:List PV}(S:StoreOk prog w hB s.heap ι σ)(B:hB.StaysIn s.heap)(hi:ι.vis[i]?=some a) (e:s.heap.get? b=some { cls:=.type "list",data:=.seq ws m }) (rb:RepL s.heap ι σ zs ws.toList) :
  SimV prog w hB A (call (.builtin "list.extend") [.ref a,.ref b]) ((lget i).bind fun xs=>M.cond (decide (xs.length+zs.length<2 ^ 20)) ((cset i (.list (xs++zs))).bind fun _=>M.ret .none) M.fail) s ι σ:=by
 refine Sim.lget S hi fun ys us n hc hp rl=>Sim.cond (fun hn=>?_) fun _=>Sim.fail
 intro Q Er hns hok _
 have hsz:us.size+ws.size<sizeLine:=Nat.lt_of_le_of_lt (Nat.le_of_eq (congr (congrArg _ rl.length.symm) rb.length.symm)) (zho (of_decide_eq_true hn))
 refine call_meets F.slot_list_extend ⟨_,hp,rfl⟩ F.entry_list_extend (F.args_list_extend_2 _ _) (AutoSeq1.list_extend_list_list_0 a us n b ws m ?_ (by lia) (by lia)) ⟨hp,e,?_⟩
 ·unfold Builtin.List.listTooLong
  rw [show decide (us.size+ws.size>sizeLine)=false from decide_eq_false (by lia),Bool.and_false]
  exact fun q=>nomatch q
 ·exact hok .none (σ.set i (.list (ys++zs))) rfl _ _ s.toks ι (zfA S B hi hc (Heap.SameBut.update ..) (IsL.update hp _) (by rw [Array.toList_append];exact rl.append rb)) .none
theorem zh9(hu:A.units+600<cLine):A.in1.units+zaj<cLine+1:=by rw [Around.in1_units];show A.units+1+500<cLine+1;lia
theorem zlX{l:Addr}{us:Array Value}{n:Nat}{ys:List PV}{v:PV}{y:Value}(hu:A.units+600<cLine)(S:StoreOk prog w hB s.heap ι σ)(B:hB.StaysIn s.heap) (hp:s.heap.get? l=some { cls:=.type "list",data:=.seq us n }) (rl:RepL s.heap ι σ ys us.toList) (rv:Rep s.heap ι σ v y) (hn:ys.length<2 ^ 20) :
  SimV prog w hB A (call (.builtin "list.index") [.ref l,y]) ((zdk v ys).bind fun n=>M.ret (.int n)) s ι σ:=by
 refine Sim.res ?_ (zaf _ _ _)
 refine Sim.part (fun x'=>whole σ zaj v=some x') (zbk v) fun x' h1=>?_
 refine Sim.res ?_ (zaf _ _ _)
 refine Sim.part (fun zs=>zan (whole σ zaj) ys=some zs) (zbX ys) fun zs k1=>Sim.lift fun j hf=>?_
 refine Sim.val S B rfl fun Q E hq=>?_
 obtain ⟨k,hk,z,g1,g2,g3⟩:=zcA x' zs 0 j hf
 rw [Nat.zero_add] at hk;subst hk
 have hh:=hits S (x':=x') rl k1
 have hlen:us.size=zs.length:=by have:=congrArg List.length hh;rwa [List.length_map,List.length_map] at this
 have at_:∀ m (hm:m<us.size) z',zs[m]?=some z'→hitE s.heap ι σ zaj x' us[m]=eqv z' x':=fun m hm z' hz=>by
  have:=congrArg (fun l=>l[m]?) hh
  rw [List.getElem?_map,List.getElem?_map,hz,Array.getElem?_toList,Array.getElem?_eq_getElem hm] at this
  exact Option.some.inj this
 have hj:j<us.size:=hlen▸(List.getElem?_eq_some_iff.mp g1).1
 refine call_meets F.slot_list_index ⟨_,hp,rfl⟩ F.entry_list_index (F.args_list_index_2 _ _) (list_indexAt l us n none #[] y (hitE s.heap ι σ zaj x') j hj ?_ ?_ ?_) ⟨hp,fun u hu'=>zia S rv h1 (zh9 hu) rl k1 u (Array.mem_def.mp hu'),hq _ _ (.int _ _)⟩
 ·have:us.size=ys.length:=rl.length.symm
  lia
 ·rw [at_ j hj z g1];exact g2
 ·intro m hm hmj
  have:m<zs.length:=hlen▸hm
  rw [at_ m hm _ (List.getElem?_eq_getElem this)]
  exact g3 m hmj _ (List.getElem?_eq_getElem this)
theorem zj1{l:Addr}{us:Array Value}{n:Nat}{ys:List PV}{v:PV}{y:Value}(hu:A.units+600<cLine)(S:StoreOk prog w hB s.heap ι σ)(B:hB.StaysIn s.heap) (hp:s.heap.get? l=some { cls:=.type "list",data:=.seq us n }) (rl:RepL s.heap ι σ ys us.toList) (rv:Rep s.heap ι σ v y) :
  SimV prog w hB A (call (.builtin "list.count") [.ref l,y]) ((zfT v ys).bind fun n=>M.ret (.int n)) s ι σ:=by
 refine Sim.res ?_ (zaf _ _ _)
 refine Sim.part (fun x'=>whole σ zaj v=some x') (zbk v) fun x' h1=>?_
 refine Sim.res ?_ (zaf _ _ _)
 refine Sim.part (fun zs=>zan (whole σ zaj) ys=some zs) (zbX ys) fun zs k1=>?_
 refine Sim.val S B rfl fun Q E hq=>?_
 have hc:us.toList.countP (hitE s.heap ι σ zaj x')=zs.countP fun z=>eqv z x':=by
  have hh:=congrArg (List.countP id) (hits S (x':=x') rl k1)
  rwa [List.countP_map,List.countP_map] at hh
 refine call_meets F.slot_list_count ⟨_,hp,rfl⟩ F.entry_list_count (F.args_list_count_2 _ _) (list_countAt l us n none #[] y (hitE s.heap ι σ zaj x')) ⟨hp,fun u hu'=>zia S rv h1 (zh9 hu) rl k1 u (Array.mem_def.mp hu'),?_⟩
 rw [hc];exact hq _ _ (.int _ _)
theorem zlW{z:Str}{t:Tok}{l:Addr}{us:Array Value}{n:Nat}{ys:List PV}(S:StoreOk prog w hB s.heap ι σ)(B:hB.StaysIn s.heap)(e:zhN s.heap ι σ l us n)(rl:RepL s.heap ι σ ys us.toList) :
  SimV prog w hB A (call (.builtin "str.join") [.str z t,.ref l]) ((M.lift (zg2 ys)).bind fun ss=>M.cond (decide ((ss.map (·.length)).sum+ss.length*z.length≤16777216)) (M.ret (.str (Str.join z ss))) M.fail) s ι σ:=by
 refine Sim.lift fun ss hb=>Sim.cond (fun hn=>?_) fun _=>Sim.fail
 refine Sim.val S B rfl fun Q E hq=>?_
 have hj:∀ t' k,Q (.str (Txt.join z ss) t') { s with toks:=k }:=fun t' k=>by
  show Q (.str (Builtin.Str.glued z ss) t') _
  rw [StrLaws.glued_eq_join];exact hq _ k (.str _ _)
 rcases e with e | ⟨e,_⟩
 ·exact join_list ⟨_,e,rfl,_,rfl⟩ (zhc rl hb) (of_decide_eq_true hn) hj
 ·exact join_tuple ⟨_,e,rfl,_,rfl⟩ (zhc rl hb) (of_decide_eq_true hn) hj
theorem ziG{cx:Cx}{p:Pos}{k:Mt}{o:PV}{x:Value}{vs:List PV}{xs:List Value}(hu:A.units+600<cLine)(S:StoreOk prog w hB s.heap ι σ)(B:hB.StaysIn s.heap)(r:Rep s.heap ι σ o x)(rs:RepL s.heap ι σ vs xs) :
  SimV prog w hB A (call (.builtin (mtId k)) (x::xs)) (zdy cx p k o vs) s ι σ:=by
 cases k with
 | get=>exact zlZ S B r rs
 | append=>exact Sim.onRef (t:=fun x=>call (.builtin "list.append") (x::xs)) r fun i a hi=>Sim.arg1 (t:=fun xs=>call (.builtin "list.append") (.ref a::xs)) rs fun v y rv=>ziN S B hi rv
 | clear=>exact Sim.onRef (t:=fun x=>call (.builtin "list.clear") (x::xs)) r fun i a hi=>Sim.arg0 (t:=fun xs=>call (.builtin "list.clear") (.ref a::xs)) rs (zj4 S B hi)
 | extend=>exact Sim.onRef (t:=fun x=>call (.builtin "list.extend") (x::xs)) r fun i a hi=>Sim.arg1 (t:=fun xs=>call (.builtin "list.extend") (.ref a::xs)) rs fun v y rv=>Sim.onLst (t:=fun y=>call (.builtin "list.extend") [.ref a,y]) rv fun zs b ws m e _ rb=>ziJ S B hi e rb
 | index=>exact Sim.arg1 (t:=fun xs=>call (.builtin "list.index") (x::xs)) rs fun v y rv=>Sim.litems (t:=fun x=>call (.builtin "list.index") [x,y]) S r fun ys l us n hp rl=>Sim.cond (fun hn=>zlX hu S B hp rl rv (of_decide_eq_true hn)) fun _=>Sim.fail
 | count=>exact Sim.arg1 (t:=fun xs=>call (.builtin "list.count") (x::xs)) rs fun v y rv=>Sim.litems (t:=fun x=>call (.builtin "list.count") [x,y]) S r fun ys l us n hp rl=>zj1 hu S B hp rl rv
 | join=>exact Sim.onStr (t:=fun x=>call (.builtin "str.join") (x::xs)) r fun z t=>Sim.arg1 (t:=fun xs=>call (.builtin "str.join") (.str z t::xs)) rs fun v y rv=>Sim.items (t:=fun y=>call (.builtin "str.join") [.str z t,y]) S rv fun ys l us n e rl=>zlW S B e rl
end
section
variable {prog:Program} {w:World} {hB:Heap} {A:Around} {s:Shared} {ι:Ad} {σ:zaa} {env:Env} {ρ:Loc} {fl:List Env} {sc:Scope} {E:Expr→M PV} {K:Frag}
theorem zcO(pos:Pos):∀{es:List Expr},zau es=true→(backTo pos (starEach es env)).all (fun x=>!x.1)=true
 | [],_=>rfl
 | e::r,h=>by
  obtain ⟨h1,h2⟩:=za0 h
  rw [zaX e r h2]
  show (true&&(backTo pos (starEach r env)).all (fun x=>!x.1))=true
  rw [zcO pos h1];rfl
theorem zjS{cx:Cx}{o:Expr}{m:Str}{ap p:Pos}{args:List Expr}(hu:A.units+600<cLine)(IH:EvIH prog w hB A env ρ fl E)(hst:∀ e p,E (.Starred e p)=M.fail)(I:Inv prog w hB env ρ fl s.heap ι σ) :
  SimV prog w hB A (eval (.Call (.Attribute o m ap) args [] p) env) (M.cond (zkA o ap p args) ((E o).bind fun ov=>(tnOf ov).bind fun T=>(M.lift (mtOf T m)).bind fun k=>(evs E args).bind fun vs=>zdy cx p k ov vs) M.fail) s ι σ:=by
 refine Sim.cond (fun hm=>?_) fun _=>Sim.fail
 unfold zkA at hm
 rw [Bool.and_eq_true,Bool.and_eq_true] at hm
 obtain ⟨⟨hline,hp⟩,ho⟩:=hm
 have hbase:attributeBase o m env (eval o env)=eval o env:=by
  cases o with
  | _=>first | rfl | cases ho
 intro Q Er hns hok herr
 refine wpAny_Call_method_lateS hbase ?_ (beq_iff_eq.mpr (of_decide_eq_true hline)) ?_
 ·rw [zcO p hp,Bool.true_and]
  have:=of_decide_eq_true (Bool.and_eq_true_iff.mp hp).1
  exact decide_eq_true (Nat.lt_of_le_of_lt this (by decide))
 ·have hne:E o σ≠.stuck:=fun q=>hns (zae q)
  refine IH o s ι σ I _ _ hne (fun ov σ₁ e₁ x h₁ tk₁ ι₁ X₁ r₁=>?_) (fun C σ₁ e₁ e h₁ tk₁ ι₁ X₁ F₁=>herr C σ₁ (zap e₁) e h₁ tk₁ ι₁ X₁ F₁)
  have I₁:=I.step X₁
  cases hT:tnOf ov σ₁ with
  | stuck=>exact (hns ((zab e₁).trans (zae hT))).elim
  | err C σ₂=>exact (noErr_tnOf hT).elim
  | ok T σ₂=>
   obtain ⟨rfl,hty⟩:=zjB (s:={ s with heap:=h₁,toks:=tk₁ }) I₁.store r₁ hT
   cases hk:mtOf T m with
   | none=>exact (hns ((zab e₁).trans ((zab hT).trans (by rw [hk];rfl)))).elim
   | some k=>
    obtain ⟨rfl,rfl⟩:=zoO hk
    obtain ⟨pa,sl,ty⟩:=zl8 k
    obtain ⟨t1,t2⟩:=hty (mt_T k)
    refine ⟨_,_,pa,sl,ty,t1,t2,Calls.callWith_builtin (zaK p hp) ?_⟩
    have eq:((E o).bind fun ov=>(tnOf ov).bind fun T=>(M.lift (mtOf T (zh3 k))).bind fun k=>(evs E args).bind fun vs=>zdy cx p k ov vs) σ=((evs E args).bind fun vs=>zdy cx p k ov vs) σ₂:=(zab e₁).trans ((zab hT).trans (by rw [hk];rfl))
    refine Sim.nest (R':=Rep) (s:={ s with heap:=h₁,toks:=tk₁ }) (k:=fun(a:Args)=>call (.builtin (mtId k)) ([x]++a.pos) a.kw) (f:=fun vs=>zdy cx p k ov vs) I₁.store.len (zcM (f:=.builtin (mtId k)) IH hst p hp I₁) (fun vs σ₃ a h₃ tk₃ ι₃ e₃ X₃ r₃=>?_) Q Er (eq▸hns) (fun a σ' q y h' tk ι' X r=>?_) (fun C σ' q e h' tk ι' X F=>?_)
    ·obtain ⟨a,kw⟩:=a
     obtain ⟨r₃,q⟩:=r₃
     cases q
     exact ziG hu X₃.store X₃.stays (r₁.step I₁.store.len X₃) r₃
    ·exact hok a σ' (eq.trans q) y h' tk ι' (X₁.trans I.store.len X) r
    ·exact herr C σ' (eq.trans q) e h' tk ι' (X₁.trans I.store.len X) (F.older X₁.evo.alive)
where
 noErr_tnOf {ov:PV} {σ σ':zaa} {C:Addr} (h:tnOf ov σ=.err C σ'):False:=by
  cases ov with
  | ref i=>
   cases hc:cget i σ with
   | stuck=>rw [show tnOf (.ref i) σ=_ from zae hc] at h;cases h
   | err=>exact zcs hc
   | ok c σ₁=>rw [show tnOf (.ref i) σ=_ from zab hc] at h;cases c <;> cases h
  | _=>cases h
structure FnOk (hB:Heap) (a:Addr) (f:FnD):Prop where
 fd:∃ o fd,hB.get? a=some o∧o.data=.func fd∧fd.body=.stmts f.body∧fd.scope=f.scope∧fd.closure=[]∧fd.globals=mainGlobals∧fd.builtins=builtinsNs∧hB.CodeRec fd.code fd.qualname∧
  ∀ vals:List Value,f.params.length=vals.length→bindArgs fd ⟨vals,[]⟩=pure (f.params.zip vals)
 gen:f.scope.isGenerator=false
 cor:f.scope.isCoroutine=false
 kind:f.scope.kind=.function
 nodebug:f.scope.names.lookup ("__debug__":Str)=none
 nodup:f.params.Nodup
 nodupN:(f.scope.names.map (·.1)).Nodup
 pars:∀ x∈f.params,f.scope.names.lookup x=some .local∨f.scope.names.lookup x=some .cell
structure GlobOk (hB:Heap) (K:Frag) (G:Gl):Prop where
 g:GOk hB G
 cls:ClsOk K G
 inK:K.In hB
 nolimit:hB.NoLimit
 fnObj:∀ x a,G.names.lookup x=some (.fn a)→∃ o fd,hB.get? a=some o∧o.data=.func fd
 fns:∀ a f,G.fns.lookup a=some f→FnOk hB a f
noncomputable abbrev zg3(prog:Program)(w:World)(hB:Heap)(d:Nat)(call:Md→Addr→List PV→M PV):Prop:=
 ∀(md:Md)(A:Around)(fl:List Env)(a:Addr)(vs:List PV)(xs:List Value)(s:Shared)(ι:Ad)(σ:zaa),Ar md d fl A→StoreOk prog w hB s.heap ι σ→hB.StaysIn s.heap→Stk hB fl s.heap ι σ→RepL s.heap ι σ vs xs→
  SimV prog w hB A (PySem.call (.ref a) xs) (call md a vs) s ι σ
theorem ziR{cx:Cx}{f:Str}{a:Addr}(hr:zat cx sc ρ f=some (.fn a)):cx.G.names.lookup f=some (.fn a):=by
 rcases zbw hr with ⟨v,q,_⟩ | ⟨_,k,⟨a,q,e⟩ | ⟨a,q,e⟩ | ⟨v,q,e⟩ | ⟨q,e⟩⟩
 ·cases q
 ·cases q;exact e
 ·cases q
 ·cases q
 ·cases q
theorem znq{cx:Cx}{d:Nat}{f:Str}{fp p:Pos}{args:List Expr}{a:Addr}(hG:GlobOk hB K cx.G)(hA:Ar cx.md d fl A)(hc:zg3 prog w hB d cx.call)(H:EnvOk env sc)(IH:EvIH prog w hB A env ρ fl E)(hst:∀ e p,E (.Starred e p)=M.fail)(I:Inv prog w hB env ρ fl s.heap ι σ)
  (hp:zau args=true) (hr:zat cx sc ρ f=some (.fn a)) :
  SimV prog w hB A (eval (.Call (.Name f fp) args [] p) env) ((evs E args).bind fun vs=>cx.call cx.md a vs) s ι σ:=by
 intro Q Er hns hok herr
 refine Call_Name rfl (zbc hG.g H I.stays hr ⟨_,rfl⟩ _ _ fun v hv=>?_)
 cases hv
 obtain ⟨o,fd,ho,hd⟩:=hG.fnObj f a (ziR hr)
 refine Calls.callWith_function (o:=o) (fd:=fd) ?_
 have hne:evs E args σ≠.stuck:=fun q=>hns (zae q)
 refine zcM (f:=.ref a) IH hst p hp I _ _ hne (fun vs σ₁ e₁ x h₁ tk₁ ι₁ X₁ r₁=>?_) (fun C σ₁ e₁ e h₁ tk₁ ι₁ X₁ F₁=>herr C σ₁ (zap e₁) e h₁ tk₁ ι₁ X₁ F₁)
 obtain ⟨x,kw⟩:=x
 obtain ⟨r₁,q⟩:=r₁
 cases q
 have I₁:=I.step X₁
 have eq:((evs E args).bind fun vs=>cx.call cx.md a vs) σ=cx.call cx.md a vs σ₁:=zab e₁
 refine ⟨⟨I₁.stays _ _ ho,hd⟩,hc cx.md A fl a vs x { s with heap:=h₁,toks:=tk₁ } ι₁ σ₁ hA I₁.store I₁.stays I₁.stk r₁ Q Er (eq▸hns) (fun b σ₂ e₂ y h₂ tk₂ ι₂ X₂ r₂=>?_) (fun C σ₂ e₂ e h₂ tk₂ ι₂ X₂ F₂=>?_)⟩
 ·exact hok b σ₂ (eq.trans e₂) y h₂ tk₂ ι₂ (X₁.trans I.store.len X₂) r₂
 ·exact herr C σ₂ (eq.trans e₂) e h₂ tk₂ ι₂ (X₁.trans I.store.len X₂) (F₂.older X₁.evo.alive)
end
structure Itr (prog:Program) (w:World) (hB:Heap) (A:Around) (t:Expr) (I:Addr) (fp own hd:List Addr) (src:Src) (St:Nat→Heap→Prop) (h₁:Heap) (ι₁:Ad) (σ₁:zaa):Prop where
 notLive:∀ b∈fp,¬ zco ι₁ σ₁ b
 there:∀ i h,St i h→∀ b∈fp,∃ o,h.get? b=some o∧∀ es n,o.data≠.dict es n
 sub:∀ b∈own,b∈fp
 fresh:∀ b∈own,b∉ι₁.vis∧(b∈ι₁.hid→b∈hd)
 hdIn:∀ b∈hd,b∈ι₁.hid
 hdT:∀ i h,St i h→∀ b∈hd,∃ o,h.get? b=some o∧∀ vs,o.data≠.fields vs
 ownOk:∀ i h ι,St i h→(∀ b∈hd,b∈ι.hid)→Off ι own h
 frame:∀ i h h',St i h→(∀ b∈fp,∀ o,h.get? b=some o→h'.get? b=some o)→St i h'
 item:∀(D:List Addr)(i:Nat)(s:Shared)(ι:Ad)(σ:zaa)(x:PV),NoSeq D h₁→Evo (own++D) h₁ ι₁ σ₁ s.heap ι σ→StoreOk prog w hB s.heap ι σ→St i s.heap→chkW src.watch σ=.ok () σ→src.xs[i]?=some x→
  ∀(P:Option Value→Shared→Prop)(Q:Value→Shared→Prop)(E:Value→Shared→Prop),(∀ v s₁,wpAny (model prog w) A (letOwnedTupleGo t (.ref I) v) (fun _ s₂=>Q v s₂) E s₁→P (some v) s₁)→
   (∀ v h' tk,Rep h' ι σ x v→St (i+1) h'→(∀ b o,b∉own→s.heap.get? b=some o→h'.get? b=some o)→Q v { s with heap:=h',toks:=tk })→wpAny (model prog w) A (pyNext (.ref I)) P E s
 done:∀(D:List Addr)(s:Shared)(ι:Ad)(σ:zaa),NoSeq D h₁→Evo (own++D) h₁ ι₁ σ₁ s.heap ι σ→StoreOk prog w hB s.heap ι σ→St src.xs.length s.heap→chkW src.watch σ=.ok () σ→
  ∀(Q:Option Value→Shared→Prop)(E:Value→Shared→Prop),(∀ h' tk,(∀ b o,b∉own→s.heap.get? b=some o→h'.get? b=some o)→(∀ b∈hd,∃ o,h'.get? b=some o∧∀ vs,o.data≠.fields vs)→Q none { s with heap:=h',toks:=tk })→wpAny (model prog w) A (pyNext (.ref I)) Q E s
 self:∀(i:Nat)(s:Shared)(Q:Value→Shared→Prop)(E:Value→Shared→Prop),St i s.heap→Q (.ref I) s→wpAny (model prog w) A (pyIter (.ref I)) Q E s
section
variable {prog:Program} {w:World} {hB:Heap} {A:Around} {s:Shared} {ι:Ad} {σ:zaa} {t:Expr}
noncomputable def ownTs:List String:=["enumerate","zip","dict_itemiterator","dict_reverseitemiterator","odict_iterator","itertools.zip_longest","itertools.pairwise"]
noncomputable def zf1(h:Heap)(I:Addr):Prop:=∃ o T,h.get? I=some o∧o.cls=.type T∧ownTs.contains T=false
theorem zjt{I:Addr}{v:Value}{Q:Unit→Shared→Prop}{E:Value→Shared→Prop}(hI:zf1 s.heap I)(hQ:Q () s):wpAny (model prog w) A (letOwnedTupleGo t (.ref I) v) Q E s:=by
 obtain ⟨o,T,ho,hc,hT⟩:=hI
 obtain ⟨c,d,dt,sl⟩:=o
 have hc:c=.type T:=hc
 subst hc
 have go:∀(a:Addr)(vs:Array Value)(m:Sem Unit),wpAny (model prog w) A (if (ownTs.contains T&&vs[0]?==some (rawInt a))=true then m else Pure.pure ()) Q E s:=fun a vs m=>by
  rw [hT,Bool.false_and,if_neg Bool.false_ne_true];exact wpAny_pure hQ
 have two:∀ ts c p,wpAny (model prog w) A (letOwnedTupleGo (.Tuple ts c p) (.ref I) v) Q E s:=fun ts c p=>by
  cases v with
  | ref a=>
   refine wpAny_bind (wpAny_load ho ?_)
   cases dt with
   | fields vs=>exact go a vs _
   | _=>exact wpAny_pure hQ
  | _=>exact wpAny_pure hQ
 cases t with
 | Tuple ts c p=>exact two ts c p
 | List ts p=>exact two ts 0 p
 | _=>exact wpAny_pure hQ
theorem zfB{h:Heap}{a:Addr}{T:String}{fs:Array Value}(p:∃ o,h.get? a=some o∧o.cls=.type T∧o.data=.fields fs)(hT:ownTs.contains T=false):zf1 h a:=by
 obtain ⟨o,ho,hc,_⟩:=p;exact ⟨o,T,ho,hc,hT⟩
theorem Evo.but{own:List Addr}{h h':Heap}(hk:∀ b o,b∉own→h.get? b=some o→h'.get? b=some o)(ht:∀ b∈own,∃ o,h'.get? b=some o):Evo own h ι σ h' ι σ where
 pre:=fun _ _ e=>e
 fresh:=fun i a e e'=>by rw [e] at e';cases e'
 dead:=fun _ e=>e
 alive:=fun b o e=>by
  by_cases hb:b∈own
  ·exact ht b hb
  ·exact ⟨o,hk b o hb e⟩
 keep:=fun b o e _ hb=>⟨⟨o.slots,hk b o hb e⟩,fun _=>hk b o hb e⟩
 hid:=fun _ h=>h
 hfresh:=fun _ h=>.inl h
theorem NoSeq.append{D E:List Addr}{h:Heap}(a:NoSeq D h)(b:NoSeq E h):NoSeq (D++E) h:=fun c hc=>by
 rcases List.mem_append.mp hc with hc | hc
 ·exact a c hc
 ·exact b c hc
theorem zfc{h:Heap}(S:StoreOk prog w hB h ι σ):∀ b∈[h.objs.size],b∉ι.vis∧b∉ι.hid:=fun b hb=>by
 rw [List.mem_singleton.mp hb]
 exact ⟨fun q=>by obtain ⟨o,ho⟩:=S.there _ q;exact absurd (Heap.lt_size ho) (Nat.lt_irrefl _),fun q=>by obtain ⟨o,ho,_⟩:=S.hthere _ q;exact absurd (Heap.lt_size ho) (Nat.lt_irrefl _)⟩
theorem zee{h:Heap}{a:Addr}{o:Obj}{T:String}(ho:h.get? a=some o)(hc:o.cls=.type T)(hd:∀ vs n,o.data≠.seq vs n):NoSeq [a] h:=by
 intro b hb o' ho'
 rw [List.mem_singleton.mp hb,ho] at ho'
 cases ho'
 exact ⟨hd,.inr fun C q=>(by rw [hc] at q;cases q)⟩
theorem Itr.ofWalks{I:Addr}{fp own:List Addr}{n:Nat}{P:Nat→Value→Prop}{St:Nat→Heap→Prop}{xs:List PV}{h₁:Heap}{ι₁:Ad}{σ₁:zaa}(W:Walks prog w A I fp own n P St)(hn:n=xs.length)(hl:ι₁.vis.length=σ₁.length)
  (hnl:∀ b∈fp,¬ Live ι₁ σ₁ b) (ht:∀ i h,St i h→∀ b∈fp,∃ o,h.get? b=some o∧∀ es n,o.data≠.dict es n) (ho:∀ i h,St i h→NoSeq own h) (h0:St 0 h₁) (hfr:∀ b∈own,b∉ι₁.vis∧b∉ι₁.hid) (hgo:∀ i h,St i h→zf1 h I) (hP:∀ i v x,P i v→xs[i]?=some x→Rep h₁ ι₁ σ₁ x v) :
  Itr prog w hB A t I fp own [] ⟨xs,[]⟩ St h₁ ι₁ σ₁ where
 notLive:=fun b hb=>zaI (hnl b hb)
 there:=ht
 sub:=W.sub
 fresh:=fun b hb=>⟨(hfr b hb).1,fun q=>((hfr b hb).2 q).elim⟩
 hdIn:=fun _ hb=>nomatch hb
 hdT:=fun _ _ _ _ hb=>nomatch hb
 ownOk:=fun i h _ st _=>(ho i h st).off
 frame:=W.frame
 item:=fun D i s ι σ x hD X S st _ hx P Q E hp h=>by
  refine W.item i s P E (by rw [hn];exact (List.getElem?_eq_some_iff.mp hx).1) st fun v h' tk hv st' hk=>hp v _ (zjt (hgo _ _ st') (h v h' tk ?_ st' hk))
  have Y:Evo own s.heap ι σ h' ι σ:=Evo.but hk fun b hb=>by obtain ⟨o,ho,_⟩:=ht _ _ st' b (W.sub b hb);exact ⟨o,ho⟩
  exact (hP i v x hv hx).evo hl (X.trans hl Y fun b hb o e=>List.mem_append_left _ hb) ((ho 0 _ h0).append hD)
 done:=fun D s ι σ hD X S st _ Q E h=>W.done s Q E (by rw [hn];exact st) fun h' tk hk=>h h' tk hk fun _ hb=>nomatch hb
 self:=W.self
theorem zfW{i:Nat}{xs:List PV}{σ':zaa}(h:chkW [(i,xs)] σ=.ok () σ'):σ[i]?=some (.list xs):=by
 unfold chkW at h
 by_cases q:σ[i]?=some (.list xs)
 ·exact q
 ·rw [if_neg q] at h;cases h
theorem Itr.live{I l:Addr}{j:Nat}{xs:List PV}{h₁:Heap}{ι₁:Ad}{σ₁:zaa}(hh:A.handled=none)(hj:ι₁.vis[j]?=some l)(hne:I≠l)(hnl:¬ Live ι₁ σ₁ I)(hit:h₁.IsListIter I l 0)(hfr:∀ b∈[I],b∉ι₁.vis∧b∉ι₁.hid) :
  Itr prog w hB A t I [I] [I] [] ⟨xs,[(j,xs)]⟩ (fun i h=>h.IsListIter I l i) h₁ ι₁ σ₁ where
 notLive:=fun b hb=>by rw [List.mem_singleton.mp hb];exact zaI hnl
 there:=fun i h st b hb=>by
  rw [List.mem_singleton.mp hb]
  obtain ⟨o,ho,_,hd⟩:=st
  exact ⟨o,ho,fun es n q=>by rw [hd] at q;cases q⟩
 sub:=fun _ hb=>hb
 fresh:=fun b hb=>⟨(hfr b hb).1,fun q=>((hfr b hb).2 q).elim⟩
 hdIn:=fun _ hb=>nomatch hb
 hdT:=fun _ _ _ _ hb=>nomatch hb
 ownOk:=fun i h _ st _=>by
  obtain ⟨o',ho',hc,hd⟩:=st
  exact (zee ho' hc fun vs n q=>by rw [hd] at q;cases q).off
 frame:=fun i h h' st hk=>by obtain ⟨o,ho,r⟩:=st;exact ⟨o,hk I (.head _) o ho,r⟩
 item:=fun D i s ι σ x hD X S st hc hx P Q E hP h=>by
  have hcel:=zfW hc
  have hl:ι.vis[j]?=some l:=X.pre _ _ hj
  obtain ⟨vs,⟨n,hp⟩,rl⟩:=S.ok _ _ _ hl hcel
  obtain ⟨v,hv,r⟩:=rl.get hx
  refine wpAny_pyNext_list_item st ⟨_,hp,rfl,n,rfl⟩ (x:=v) (by rw [← Array.getElem?_toList];exact hv) fun h' hit' hs=>hP v _ (zjt (zfB hit' (by decide +kernel)) (h v h' s.toks ?_ hit' fun b o hb e=>(hs.2 b (fun q=>hb (by rw [q];exact .head _))).trans e))
  have Y:Evo [I] s.heap ι σ h' ι σ:=Evo.but (fun b o hb e=>(hs.2 b (fun q=>hb (by rw [q];exact .head _))).trans e) fun b hb=>by rw [List.mem_singleton.mp hb];obtain ⟨o,ho,_⟩:=hit';exact ⟨o,ho⟩
  refine r.evo S.len Y fun b hb o ho=>?_
  rw [List.mem_singleton.mp hb] at ho
  obtain ⟨o',ho',hc',hd'⟩:=st
  rw [ho] at ho';cases ho'
  exact ⟨fun vs n q=>(by rw [hd'] at q;cases q),.inr fun C q=>(by rw [hc'] at q;cases q)⟩
 done:=fun D s ι σ hD X S st hc Q E h=>by
  have hcel:=zfW hc
  have hl:ι.vis[j]?=some l:=X.pre _ _ hj
  obtain ⟨vs,⟨n,hp⟩,rl⟩:=S.ok _ _ _ hl hcel
  refine wpAny_pyNext_list_end hh st ⟨_,hp,rfl,n,rfl⟩ ?_ fun h' he=>h h' s.toks (fun b o hb e=>he b o (fun q=>hb (by rw [q];exact .head _)) e) fun _ hb=>nomatch hb
  rw [← Array.getElem?_toList]
  exact List.getElem?_eq_none (by rw [rl.length];exact Nat.le_refl _)
 self:=fun _ _ _ _ st hq=>wpAny_pyIter_listiter st hq
theorem zlt(x:List Nat)(i:Nat):(zdN x)[i]?=(x[i]?).map fun c=>PV.str ⟨#[c]⟩:=by
 induction x generalizing i with
 | nil=>simp [zdN]
 | cons c r ih=>cases i with
  | zero=>simp [zdN]
  | succ i=>simp [zdN,ih]
theorem zls(x:List Nat):(zdN x).length=x.length:=by
 induction x with
 | nil=>rfl
 | cons c r ih=>simp [zdN,ih]
theorem zis(a:Int)(n i:Nat)(h:i<n):(zaJ a n)[i]?=some (PV.int (a+i)):=by
 induction n generalizing a i with
 | zero=>lia
 | succ n ih=>cases i with
  | zero=>simp [zaJ]
  | succ i=>simp only [zaJ,List.getElem?_cons_succ];rw [ih (a+1) i (by lia)];congr 2;push_cast;lia
theorem zeS(a:Int)(n:Nat):(zaJ a n).length=n:=by
 induction n generalizing a with
 | zero=>rfl
 | succ n ih=>simp [zaJ,ih]
noncomputable def Made(prog:Program)(w:World)(hB:Heap)(A:Around)(t:Expr)(D:List Addr)(h₀:Heap)(src:Src)(h₁:Heap)(ι₁:Ad)(σ₁:zaa)(it:Value):Prop:=
 ∃ I fp own hd St,it=.ref I∧Itr prog w hB A t I fp own hd src St h₁ ι₁ σ₁∧St 0 h₁∧(∀ b∈own,h₀.get? b=none)∧∀ b∈D,b∉fp
theorem zdS{D:List Addr}{o₁:Obj}{n:Nat}{P:Nat→Value→Prop}{St:Nat→Heap→Prop}{xs:List PV}{fp:List Addr}(hDt:∀ b∈D,∃ o,s.heap.get? b=some o)(S:StoreOk prog w hB s.heap ι σ)
  (W:Walks prog w A s.heap.objs.size (s.heap.objs.size::fp) [s.heap.objs.size] n P St) (hn:n=xs.length) (hfp:∀ b∈fp,¬ Live ι σ b∧b∉D) (ht:∀ i h,St i h→∀ b∈s.heap.objs.size::fp,∃ o,h.get? b=some o∧∀ es n,o.data≠.dict es n)
  (ho:∀ i h,St i h→NoSeq [s.heap.objs.size] h) (hgo:∀ i h,St i h→zf1 h s.heap.objs.size) (h0:St 0 (s.heap.push o₁)) (hP:∀ i v x,P i v→xs[i]?=some x→Rep s.heap ι σ x v):Made prog w hB A t D s.heap ⟨xs,[]⟩ (s.heap.push o₁) ι σ (.ref s.heap.objs.size):=by
 refine ⟨_,_,_,_,St,rfl,Itr.ofWalks W hn S.len (fun b hb=>?_) ht ho h0 (zfc S) hgo (fun i v x hv hx=>(hP i v x hv hx).push _),h0,fun b hb=>?_,fun b hb hm=>?_⟩
 ·rcases List.mem_cons.mp hb with rfl | hb
  ·exact zbH S
  ·exact (hfp b hb).1
 ·rw [List.mem_singleton.mp hb];exact zaB _
 ·rcases List.mem_cons.mp hm with q | hm
  ·obtain ⟨o,ho⟩:=hDt b hb;rw [q,zaB] at ho;cases ho
  ·exact (hfp b hm).2 hb
theorem zgc{h:Heap}{a b:Addr}{T U:String}{x y:Value}{vs:Array Value}{n:Nat}(p:∃ o,h.get? a=some o∧o.cls=.type T∧o.data=.fields #[x,y])(q:∃ o,h.get? b=some o∧o.cls=.type U∧∃ n,o.data=.seq vs n):∀ c∈[a,b],∃ o,h.get? c=some o∧∀ es n,o.data≠.dict es n:=by
 obtain ⟨o,ho,_,hd⟩:=p
 obtain ⟨o',ho',_,n',hd'⟩:=q
 intro c hc
 rcases List.mem_cons.mp hc with rfl | hc
 ·exact ⟨o,ho,fun es n q=>by rw [hd] at q;cases q⟩
 ·rw [List.mem_singleton.mp hc];exact ⟨o',ho',fun es n q=>by rw [hd'] at q;cases q⟩
theorem zaS{h:Heap}{a:Addr}{T:String}{fs:Array Value}(p:∃ o,h.get? a=some o∧o.cls=.type T∧o.data=.fields fs):NoSeq [a] h:=by
 obtain ⟨o,ho,hc,hd⟩:=p
 exact zee ho hc fun vs n q=>by rw [hd] at q;cases q
theorem zhV{h:Heap}{xs:List PV}{vs:Array Value}(rl:RepL h ι σ xs vs.toList)(i:Nat)(v:Value)(x:PV)(hv:vs[i]?=some v)(hx:xs[i]?=some x):Rep h ι σ x v:=by
 obtain ⟨v',hv',r'⟩:=rl.get hx
 rw [← Array.getElem?_toList,hv'] at hv;cases hv
 exact r'
theorem zlL{D:List Addr}{v:PV}{x:Value}(hh:A.handled=none)(hD:NoSeq D s.heap)(hDt:∀ b∈D,∃ o,s.heap.get? b=some o)(S:StoreOk prog w hB s.heap ι σ)(B:hB.StaysIn s.heap)(r:Rep s.heap ι σ v x)(Q:Value→Shared→Prop)(E:Value→Shared→Prop)
  (hns:zbr v σ≠.stuck) (h:∀ src it h₁,zbr v σ=.ok src σ→Step prog w hB s.heap ι σ h₁ ι σ→Made prog w hB A t D s.heap src h₁ ι σ it→Q it { s with heap:=h₁ }) :
  wpAny (model prog w) A (pyIter x) Q E s:=by
 have fresh:∀ b∈D,b≠s.heap.objs.size:=fun b hb q=>by obtain ⟨o,ho⟩:=hDt b hb;rw [q,zaB] at ho;cases ho
 cases v with
 | tup xs=>
  obtain ⟨a,vs,n,rfl,e,nl,rl⟩:=r.inv
  exact wpAny_pyIter_tuple ⟨_,e,rfl,_,rfl⟩ (h ⟨xs,[]⟩ _ _ rfl (Step.push S B _) (zdS hDt S (Walks.tuple hh _ a (Nat.ne_of_lt (Heap.lt_size e)) vs) rl.length.symm (fun b hb=>by rw [List.mem_singleton.mp hb];exact ⟨nl,fun q=>(hD a q _ e).1 _ _ rfl⟩)
   (fun i h st=>zgc (n:=0) st.1 st.2) (fun i h st=>zaS st.1) (fun i h st=>zfB st.1 (by decide +kernel)) ⟨⟨_,Heap.get?_push_size _ rfl,rfl,rfl⟩,⟨_,Heap.get?_push_of_some _ e,rfl,_,rfl⟩⟩ (zhV rl)))
 | lst xs=>
  obtain ⟨a,vs,n,rfl,e,nl,rl⟩:=r.inv
  exact wpAny_pyIter_list ⟨_,e,rfl,_,rfl⟩ (h ⟨xs,[]⟩ _ _ rfl (Step.push S B _) (zdS hDt S (Walks.list hh _ a (Nat.ne_of_lt (Heap.lt_size e)) vs) rl.length.symm (fun b hb=>by rw [List.mem_singleton.mp hb];exact ⟨nl,fun q=>(hD a q _ e).1 _ _ rfl⟩)
   (fun i h st=>zgc (n:=0) st.1 st.2) (fun i h st=>zaS st.1) (fun i h st=>zfB st.1 (by decide +kernel)) ⟨⟨_,Heap.get?_push_size _ rfl,rfl,rfl⟩,⟨_,Heap.get?_push_of_some _ e,rfl,_,rfl⟩⟩ (zhV rl)))
 | str y=>
  obtain ⟨u,rfl⟩:=r.inv
  have key:∀{T:String}(_:ownTs.contains T=false)(_:Walks prog w A s.heap.objs.size [s.heap.objs.size] [s.heap.objs.size] y.cps.size (SignAt y) (fun i h=>h.IsStrIter s.heap.objs.size T y u i)),
    Q (.ref s.heap.objs.size) { s with heap:=s.heap.push { cls:=.type T,data:=.fields #[.str y u,.int 0 0] } }:=fun hT Ws=>
   h ⟨zdN y.cps.toList,[]⟩ _ _ rfl (Step.push S B _) (zdS hDt S Ws ((zls _).symm▸rfl) (fun b hb=>nomatch hb)
    (fun i h st b hb=>by obtain ⟨o,ho,_,hd⟩:=st;rw [List.mem_singleton.mp hb];exact ⟨o,ho,fun es n q=>(by rw [hd] at q;cases q)⟩) (fun i h st=>zaS st) (fun i h st=>zfB st hT) ⟨_,Heap.get?_push_size _ rfl,rfl,rfl⟩
    (fun i v x hv hx=>by
     obtain ⟨c,u',hc,rfl⟩:=hv
     rw [zlt,Array.getElem?_toList,hc] at hx
     cases hx
     exact .str _ _))
  cases ha:y.cps.all (·<128) with
  | false=>exact wpAny_pyIter_wide ha (key (by decide +kernel) (Walks.strWide hh _ y u))
  | true=>exact wpAny_pyIter_ascii ha (key (by decide +kernel) (Walks.strAscii hh _ y u))
 | ref j=>
  obtain ⟨a,rfl,hi⟩:=r.inv
  rcases zbQ S hi with ⟨xs,vs,n,h1,hc,hp,rl⟩ | h1
  ·have hne:s.heap.objs.size≠a:=(Nat.ne_of_lt (Heap.lt_size hp)).symm
   have hit:(s.heap.push { cls:=.type "list_iterator",data:=.fields #[.ref a,.int 0 0] }).IsListIter s.heap.objs.size a 0:=⟨_,Heap.get?_push_size _ rfl,rfl,rfl⟩
   exact wpAny_pyIter_list ⟨_,hp,rfl,_,rfl⟩ (h ⟨xs,[(j,xs)]⟩ _ _ (zab h1) (Step.push S B _) ⟨_,_,_,_,_,rfl,Itr.live hh hi hne (zbH S) hit (zfc S),hit,fun b hb=>by rw [List.mem_singleton.mp hb];exact zaB _,fun b hb hm=>fresh b hb (List.mem_singleton.mp hm)⟩)
  ·exact (hns (zae h1)).elim
 | _=>exact (hns rfl).elim
theorem zid{h h':Heap}{a:Addr}(hk:∀ b o,h.get? b=some o→h'.get? b=some o)(ha:h.get? a=none):Evo [] h ι σ h' (ι.hide a) σ where
 pre:=fun _ _ e=>e
 fresh:=fun i b e e'=>by simp only [Ad.hide] at e;rw [e] at e';cases e'
 dead:=fun _ e=>e
 alive:=fun b o e=>⟨o,hk b o e⟩
 keep:=fun b o e _ _=>⟨⟨o.slots,hk b o e⟩,fun _=>hk b o e⟩
 hid:=fun _ h=>.tail _ h
 hfresh:=fun b hb=>by
  rcases List.mem_cons.mp hb with rfl | hb
  ·exact .inr ha
  ·exact .inl hb
theorem StoreOk.hide{h h':Heap}{a:Addr}(S:StoreOk prog w hB h ι σ)(hk:∀ b o,h.get? b=some o→h'.get? b=some o)(ha:h.get? a=none)(ht:∃ o,h'.get? a=some o∧∀ vs,o.data≠.fields vs)(hb:hB.get? a=none):StoreOk prog w hB h' (ι.hide a) σ:=by
 have X:=zid (ι:=ι) (σ:=σ) hk ha
 refine ⟨S.len,S.nodup,fun b hb=>?_,fun b hb=>?_,fun b hb=>?_,S.base,fun b hb'=>?_,S.sys,fun i b c e e'=>(S.ok i b c e e').evo S.len X fun o ho=>hk _ _ ho⟩
 ·obtain ⟨o,ho⟩:=S.there b hb;exact ⟨o,hk _ _ ho⟩
 ·rcases List.mem_cons.mp hb with rfl | hb
  ·exact ht
  ·obtain ⟨o,ho,f⟩:=S.hthere b hb;exact ⟨o,hk _ _ ho,f⟩
 ·intro q
  rcases List.mem_cons.mp q with rfl | q
  ·obtain ⟨o,ho⟩:=S.there _ hb;rw [ha] at ho;cases ho
  ·exact S.apart b hb q
 ·rcases List.mem_cons.mp hb' with rfl | hb'
  ·exact hb
  ·exact S.hbase b hb'
theorem zba{h:Heap}(B:hB.StaysIn h){a:Addr}(ha:h.get? a=none):hB.get? a=none:=za5 (fun b o e=>⟨o,B b o e⟩) ha
end
section
variable {prog:Program} {w:World} {hB:Heap} {A:Around} {s:Shared} {ι:Ad} {σ:zaa} {env:Env} {ρ:Loc} {fl:List Env} {sc:Scope} {E:Expr→M PV} {K:Frag} {t:Expr}
theorem zfM{g:Str}{cx:Cx}{it:Expr}{args:List Expr}(h:zcr g cx sc ρ it=some args):∃ f fp p,it=.Call (.Name f fp) args [] p∧zat cx sc ρ f=some (.bi g):=by
 obtain ⟨c,h1,q₁⟩:=Option.bind_eq_some_iff.mp h
 obtain ⟨f,h2,q₂⟩:=Option.bind_eq_some_iff.mp q₁
 obtain ⟨y,h3,q₃⟩:=Option.bind_eq_some_iff.mp q₂
 obtain ⟨⟨g,as,p⟩,rfl⟩:=c
 obtain ⟨⟨f,fp⟩,hf⟩:=f
 have hf':g=.Name f fp:=hf
 subst hf'
 cases y with
 | bi z=>
  have q₃:(bif decide (z=g) then some as else none)=some args:=q₃
  cases q:decide (z=g) with
  | true=>rw [q] at q₃;cases q₃;rw [of_decide_eq_true q] at h3;exact ⟨f,fp,p,rfl,h3⟩
  | false=>rw [q] at q₃;cases q₃
 | _=>cases q₃
theorem Made.older{D:List Addr}{src:Src}{h₀ h₁ h₂:Heap}{v:Value}(X:Made prog w hB A t D h₁ src h₂ ι σ v)(hal:∀ b o,h₀.get? b=some o→∃ o',h₁.get? b=some o'):Made prog w hB A t D h₀ src h₂ ι σ v:=by
 obtain ⟨I,fp,own,hh,St,e,X,st,hn,hd⟩:=X
 exact ⟨I,fp,own,hh,St,e,X,st,fun b hb=>za5 hal (hn b hb),hd⟩
theorem ze2{D:List Addr}{a b:Int}{t' u v:Tok}{tk:Nat}(hh:A.handled=none)(hDt:∀ b∈D,∃ o,s.heap.get? b=some o)(S:StoreOk prog w hB s.heap ι σ)(B:hB.StaysIn s.heap)(Q:Value→Shared→Prop)(E:Value→Shared→Prop)(ha:za4 a=true)(hb:za4 b=true)
  (h:∀ it h₁,Step prog w hB s.heap ι σ h₁ ι σ→Made prog w hB A t D s.heap ⟨zaJ a (b-a).toNat,[]⟩ h₁ ι σ it→Q it { s with heap:=h₁,toks:=tk }) :
  wpAny (model prog w) A (pyIter (.ref s.heap.objs.size)) Q E { s with heap:=s.heap.push { cls:=.type "range",data:=.fields #[.int a t',.int b u,.int 1 v] },toks:=tk }:=by
 unfold za4 at ha hb
 rw [Bool.and_eq_true,decide_eq_true_eq,decide_eq_true_eq] at ha hb
 have X₁:Step prog w hB s.heap ι σ (s.heap.push { cls:=.type "range",data:=.fields #[.int a t',.int b u,.int 1 v] }) ι σ:=Step.push S B _
 have hd:∀ c∈D,∃ o,(s.heap.push { cls:=.type "range",data:=.fields #[.int a t',.int b u,.int 1 v] }).get? c=some o:=fun c hc=>by obtain ⟨o,ho⟩:=hDt c hc;exact ⟨o,Heap.get?_push_of_some _ ho⟩
 have hrs:=rangeSize_one a b
 have hsize:Builtin.Range.rangeSize a b 1=(((b-a).toNat:Nat):Int):=by rw [hrs];split <;> lia
 refine wpAny_pyIter_range (IsRange.new s.heap a b 1 t' u v) (small_one (by lia) (by lia) (by lia) (by lia)) ?_
 generalize hH:s.heap.push { cls:=.type "range",data:=.fields #[.int a t',.int b u,.int 1 v] }=H at X₁ hd
 refine h _ _ (X₁.trans S.len (Step.push X₁.store X₁.stays _)) ?_
 have M:=zdS (s:={ s with heap:=H }) (A:=A) (t:=t) (D:=D) (xs:=zaJ a (b-a).toNat) hd X₁.store (Walks.range hh H.objs.size a 1 (b-a).toNat) (zeS _ _).symm (fun b hb=>nomatch hb)
  (fun i h st b hb=>by rw [List.mem_singleton.mp hb];exact ⟨_,st,fun es n q=>nomatch q⟩) (fun i h st=>zee st rfl fun vs n q=>nomatch q) (fun i h st=>⟨_,_,st,rfl,by decide +kernel⟩) (o₁:={ cls:=.type "range_iterator",data:=.fields #[.int a 0,.int (((b-a).toNat:Nat):Int) 0,.int 1 0] })
  (by
   show IsRangeIter _ _ _ _ _
   rw [Int.ofNat_zero,Int.zero_mul,Int.add_zero,Int.sub_zero]
   exact Heap.get?_push_size _ rfl)
  (fun i v x hv hx=>by
   obtain ⟨t',rfl⟩:=hv
   have hi:i<(b-a).toNat:=by have:=(List.getElem?_eq_some_iff.mp hx).1;rwa [zeS] at this
   rw [zis a _ i hi] at hx;cases hx
   rw [Int.mul_one];exact .int _ _)
 rw [hsize]
 exact M.older fun b o e=>⟨o,by rw [← hH];exact Heap.get?_push_of_some _ e⟩
theorem zlK{D:List Addr}{vs:List PV}{xs:List Value}(hh:A.handled=none)(hDt:∀ b∈D,∃ o,s.heap.get? b=some o)(S:StoreOk prog w hB s.heap ι σ)(B:hB.StaysIn s.heap)(r:RepL s.heap ι σ vs xs)(Q:Value→Shared→Prop)(E:Value→Shared→Prop)
  (hns:zaF vs σ≠.stuck) (h:∀ src it h₁ tk,zaF vs σ=.ok src σ→Step prog w hB s.heap ι σ h₁ ι σ→Made prog w hB A t D s.heap src h₁ ι σ it→Q it { s with heap:=h₁,toks:=tk }) :
  wpAny (model prog w) A (call (.type "range") xs) (fun x s₁=>wpAny (model prog w) A (pyIter x) Q E s₁) E s:=by
 cases r with
 | nil=>exact (hns rfl).elim
 | cons r rs=>
  rename_i v xv vs xs
  cases v with
  | int k=>
   obtain ⟨t,rfl⟩:=r.inv
   cases rs with
   | nil=>
    have hns:M.cond (za4 k) (M.ret (Src.mk (zaJ 0 k.toNat) [])) M.fail σ≠.stuck:=hns
    cases hk:za4 k with
    | false=>rw [hk] at hns;exact (hns rfl).elim
    | true=>
     refine call_range_1 (ze2 hh hDt S B Q E (by decide) hk fun it h₁ X Md=>h _ it h₁ _ ?_ X Md)
     rw [Int.sub_zero]
     show M.cond (za4 k) (M.ret (Src.mk (zaJ 0 k.toNat) [])) M.fail σ=_
     rw [hk];rfl
   | cons r rs=>
    cases rs with
    | cons _ _=>exact (hns rfl).elim
    | nil=>
     rename_i v₂ xv₂
     cases v₂ with
     | int l=>
      obtain ⟨u,rfl⟩:=r.inv
      have hns:M.cond (za4 k&&za4 l) (M.ret (Src.mk (zaJ k (l-k).toNat) [])) M.fail σ≠.stuck:=hns
      cases hk:za4 k&&za4 l with
      | false=>rw [hk] at hns;exact (hns rfl).elim
      | true=>
       refine call_range_2 (ze2 hh hDt S B Q E (Bool.and_eq_true_iff.mp hk).1 (Bool.and_eq_true_iff.mp hk).2 fun it h₁ X Md=>h _ it h₁ _ ?_ X Md)
       show M.cond (za4 k&&za4 l) (M.ret (Src.mk (zaJ k (l-k).toNat) [])) M.fail σ=_
       rw [hk];rfl
     | _=>exact (hns rfl).elim
  | _=>exact (hns rfl).elim
theorem zgN:∀(xs:List PV)(a i:Nat),(zb2 a xs)[i]?=(xs[i]?).map fun x=>.tup [.int ((a+i:Nat):Int),x]
 | [],_,_=>rfl
 | x::r,a,0=>rfl
 | x::r,a,i+1=>(zgN r (a+1) i).trans (by rw [Nat.add_right_comm];rfl)
theorem zgM:∀(xs:List PV)(a:Nat),(zb2 a xs).length=xs.length
 | [],_=>rfl
 | _::r,a=>congrArg Nat.succ (zgM r (a+1))
theorem zi7{e:Expr}(h:zch e=2):∃ a b c,e=.Tuple a b c:=by
 cases e with
 | Tuple a b c=>exact ⟨a,b,c,rfl⟩
 | _=>cases h
theorem zcV{h:Heap}{e it:Addr}{i:Int}{old:Value}(he:IsEnum h e it i old):∃ o,h.get? e=some o∧o.cls=.type "enumerate"∧o.data=.fields #[.none,.bool false,.ref it,rawInt i,.none,old]:=⟨_,he,rfl,rfl⟩
theorem Itr.enum{e it l:Addr}{xs:List PV}{wt:List (Nat×List PV)}{fp:List Addr}{Pl:Heap→Prop}{h₁:Heap}{ι₁:Ad}{σ₁:zaa}(hh:A.handled=none)(ht:zch t=2)(hne:e≠it)(hnl:∀ b∈e::it::fp,¬ Live ι₁ σ₁ b)(hth:∀ h,Pl h→∀ b∈fp,∃ o,h.get? b=some o∧∀ es n,o.data≠.dict es n)
  (hfr:∀ b∈[e,it],b∉ι₁.vis∧b∉ι₁.hid) (hPl:∀ h h',Pl h→(∀ b∈fp,∀ o,h.get? b=some o→h'.get? b=some o)→Pl h') (hfp:∀ b∈fp,b∉[e,it])
  (get:∀(D:List Addr)(s:Shared)(ι:Ad)(σ:zaa),NoSeq D h₁→Evo ([e,it]++D) h₁ ι₁ σ₁ s.heap ι σ→StoreOk prog w hB s.heap ι σ→NoSeq [e,it] s.heap→Pl s.heap→chkW wt σ=.ok () σ→∃ items,s.heap.IsList l items∧RepL s.heap ι σ xs items.toList) :
  Itr prog w hB A t e (e::it::fp) [e,it] [] ⟨zb2 0 xs,wt⟩ (fun i h=>(∃ old,IsEnum h e it (i:Nat) old)∧h.IsListIter it l i∧Pl h) h₁ ι₁ σ₁:=by
 have own:∀{b:Addr},b∉[e,it]→b≠e∧b≠it:=fun hb=>⟨fun q=>hb (q▸.head _),fun q=>hb (q▸.tail _ (.head _))⟩
 have ok:∀(i:Nat)(h:Heap),((∃ old,IsEnum h e it (i:Nat) old)∧h.IsListIter it l i∧Pl h)→NoSeq [e,it] h:=fun i h st=>by
  obtain ⟨⟨old,he⟩,hit,_⟩:=st
  exact NoSeq.append (D:=[e]) (zaS (zcV he)) (zaS hit)
 have th:∀(i:Nat)(h:Heap),((∃ old,IsEnum h e it (i:Nat) old)∧h.IsListIter it l i∧Pl h)→∀ b∈e::it::fp,∃ o,h.get? b=some o∧∀ es n,o.data≠.dict es n:=fun i h st b hb=>by
  obtain ⟨⟨old,he⟩,⟨o,ho,_,hd⟩,hp⟩:=st
  rcases List.mem_cons.mp hb with rfl | hb
  ·exact ⟨_,he,fun es n q=>nomatch q⟩
  ·rcases List.mem_cons.mp hb with rfl | hb
   ·exact ⟨o,ho,fun es n q=>by rw [hd] at q;cases q⟩
   ·exact hth h hp b hb
 have sub:∀ b∈[e,it],b∈e::it::fp:=fun b hb=>by
  rcases List.mem_cons.mp hb with rfl | hb
  ·exact .head _
  ·rw [List.mem_singleton.mp hb];exact .tail _ (.head _)
 refine ⟨fun b hb=>zaI (hnl b hb),th,sub,fun b hb=>⟨(hfr b hb).1,fun q=>((hfr b hb).2 q).elim⟩,fun _ hb=>(nomatch hb),fun _ _ _ _ hb=>(nomatch hb),fun i h _ st _=>(ok i h st).off,fun i h h' st hk=>?_,fun D i s ι σ x hD X S st hc hx P Q E hP h=>?_,fun D s ι σ hD X S st hc Q E h=>?_,fun i s Q E st hq=>?_⟩
 ·obtain ⟨⟨old,he⟩,hit,hp⟩:=st
  exact ⟨⟨old,hk e (.head _) _ he⟩,hit.at fun o e=>hk it (.tail _ (.head _)) o e,hPl h h' hp fun b hb=>hk b (.tail _ (.tail _ hb))⟩
 ·obtain ⟨items,hl,rl⟩:=get D s ι σ hD X S (ok _ _ st) st.2.2 hc
  have hx:(zb2 0 xs)[i]?=some x:=hx
  rw [zgN] at hx
  obtain ⟨y,hy,rfl⟩:=Option.map_eq_some_iff.mp hx
  obtain ⟨v,hv,r⟩:=rl.get hy
  obtain ⟨⟨old,he⟩,hit,hp⟩:=id st
  obtain ⟨ta,tb,tc,rfl⟩:=zi7 ht
  refine wpAny_pyNext_enum_item he hit hl (x:=v) (by rw [← Array.getElem?_toList];exact hv) hne fun h' ho hit' hT hsz hk=>hP _ _ (wpAny_letOwnedTupleGo_enum ho fun h'' he'' hs=>?_)
  have keep:∀ b o,b∉[e,it]→s.heap.get? b=some o→h''.get? b=some o:=fun b o hb q=>(hs.2 b (own hb).1).trans (hk b o (own hb).1 (own hb).2 q)
  have st':(∃ old,IsEnum h'' e it ((i+1:Nat):Int) old)∧h''.IsListIter it l (i+1)∧Pl h'':=⟨⟨v,he''⟩,hit'.at fun o q=>(hs.2 it hne.symm).trans q,hPl _ _ hp fun b hb o q=>keep b o (hfp b hb) q⟩
  have Y:Evo [e,it] s.heap ι σ h'' ι σ:=Evo.but keep fun b hb=>by obtain ⟨o,ho,_⟩:=th _ _ st' b (sub b hb);exact ⟨o,ho⟩
  have hTe:s.heap.objs.size≠e:=fun q=>by have:=Heap.lt_size he;rw [q] at this;exact Nat.lt_irrefl _ this
  refine h (.ref s.heap.objs.size) h'' _ (.tup ((hs.2 _ hTe).trans hT) (zbH S) (.cons ?_ (.cons (r.evo S.len Y (ok _ _ st)) .nil))) st' keep
  rw [Nat.zero_add];exact .int _ _
 ·obtain ⟨items,hl,rl⟩:=get D s ι σ hD X S (ok _ _ st) st.2.2 hc
  obtain ⟨⟨old,he⟩,hit,hp⟩:=st
  refine wpAny_pyNext_enum_end hh he hit hl ?_ fun h' hx=>h h' s.toks (fun b o hb q=>hx b o (own hb).2 q) fun _ hb=>nomatch hb
  rw [← Array.getElem?_toList]
  exact List.getElem?_eq_none (by rw [← rl.length];exact Nat.le_of_eq (zgM xs 0).symm)
 ·obtain ⟨⟨old,he⟩,_⟩:=st
  exact wpAny_pyIter_enum he hq
theorem zm5{h:Heap}(S:StoreOk prog w hB h ι σ):(∀ b∈[h.objs.size+1,h.objs.size],b∉ι.vis∧b∉ι.hid)∧(∀ b∈[h.objs.size+1,h.objs.size],h.get? b=none):=by
 have n:∀ b∈[h.objs.size+1,h.objs.size],∀ o,h.get? b≠some o:=fun b hb o q=>by
  have:=Heap.lt_size q
  rcases List.mem_cons.mp hb with rfl | hb
  ·exact absurd this (Nat.not_lt.mpr (Nat.le_succ _))
  ·rw [List.mem_singleton.mp hb] at this;exact Nat.lt_irrefl _ this
 exact ⟨fun b hb=>⟨fun q=>by obtain ⟨o,ho⟩:=S.there _ q;exact n b hb o ho,fun q=>by obtain ⟨o,ho,_⟩:=S.hthere _ q;exact n b hb o ho⟩,fun b hb=>by
  cases q:h.get? b with
  | none=>rfl
  | some o=>exact (n b hb o q).elim⟩
theorem zm4{D:List Addr}{vs:List PV}{xs:List Value}(hh:A.handled=none)(ht:zch t=2)(hD:NoSeq D s.heap)(hDt:∀ b∈D,∃ o,s.heap.get? b=some o)(S:StoreOk prog w hB s.heap ι σ)(B:hB.StaysIn s.heap)(r:RepL s.heap ι σ vs xs)(Q:Value→Shared→Prop)(E:Value→Shared→Prop)
  (hns:zc2 vs σ≠.stuck) (h:∀ src it h₁ tk,zc2 vs σ=.ok src σ→Step prog w hB s.heap ι σ h₁ ι σ→Made prog w hB A t D s.heap src h₁ ι σ it→Q it { s with heap:=h₁,toks:=tk }) :
  wpAny (model prog w) A (call (.type "enumerate") xs) (fun x s₁=>wpAny (model prog w) A (pyIter x) Q E s₁) E s:=by
 obtain ⟨fr,nw⟩:=zm5 S
 have nl2:∀ b∈[s.heap.objs.size+1,s.heap.objs.size],¬ Live ι σ b:=fun b hb q=>q.elim (fun ⟨i,c,hi,_⟩=>(fr b hb).1 (List.mem_of_getElem? hi)) (fr b hb).2
 have hDf:∀ b∈D,b∉[s.heap.objs.size+1,s.heap.objs.size]:=fun b hb q=>by obtain ⟨o,ho⟩:=hDt b hb;rw [nw b q] at ho;cases ho
 cases r with
 | nil=>exact (hns rfl).elim
 | cons r rs=>
  cases rs with
  | cons _ _=>exact (hns rfl).elim
  | nil=>
   rename_i v xv
   cases v with
   | lst ys=>
    obtain ⟨a,as,n,rfl,e,nl,rl⟩:=r.inv
    refine call_enumerate_list ⟨_,e,rfl,_,rfl⟩ fun h' he hit hsz hk=>wpAny_pyIter_enum he ?_
    have X:=Step.keeps S B hk
    have ha:a∉[s.heap.objs.size+1,s.heap.objs.size]:=fun q=>by rw [nw a q] at e;cases e
    refine h ⟨zb2 0 ys,[]⟩ _ h' s.toks rfl X ⟨_,_,_,_,_,rfl,Itr.enum (l:=a) (fp:=[a]) (Pl:=fun h=>h.get? a=some { cls:=.type "list",data:=.seq as n }) hh ht (Nat.succ_ne_self _) (fun b hb=>?_) (fun h hp b hb=>by rw [List.mem_singleton.mp hb];exact ⟨_,hp,fun es n q=>nomatch q⟩) fr
     (fun h h' hp hk=>hk a (.head _) _ hp) (fun b hb=>by rw [List.mem_singleton.mp hb];exact ha) (fun D s' ι' σ' hD X' S' ho hp _=>⟨as,⟨_,hp,rfl,_,rfl⟩,(rl.step S.len X).evo S.len X' (NoSeq.append (fun b hb o q=>?_) hD)⟩),⟨⟨.none,he⟩,hit,hk _ _ e⟩,nw,fun b hb q=>?_⟩
    ·rcases List.mem_cons.mp hb with rfl | hb
     ·exact nl2 _ (.head _)
     ·rcases List.mem_cons.mp hb with rfl | hb
      ·exact nl2 _ (.tail _ (.head _))
      ·rw [List.mem_singleton.mp hb];exact nl
    ·exact (NoSeq.append (D:=[s.heap.objs.size+1]) (zaS (zcV he)) (zaS hit)) b hb o q
    ·rcases List.mem_cons.mp q with rfl | q
     ·exact hDf _ hb (.head _)
     ·rcases List.mem_cons.mp q with rfl | q
      ·exact hDf _ hb (.tail _ (.head _))
      ·rw [List.mem_singleton.mp q] at hb;exact (hD a hb _ e).1 _ _ rfl
   | ref j=>
    obtain ⟨a,rfl,hi⟩:=r.inv
    rcases zbQ S hi with ⟨ys,as,n,h1,hc,e,rl⟩ | h1
    ·refine call_enumerate_list ⟨_,e,rfl,_,rfl⟩ fun h' he hit hsz hk=>wpAny_pyIter_enum he ?_
     have X:=Step.keeps S B hk
     refine h ⟨zb2 0 ys,[(j,ys)]⟩ _ h' s.toks (show (lsrc (.ref j)).bind (fun s=>M.ret (Src.mk (zb2 0 s.xs) s.watch)) σ=_ from zab (show lsrc (.ref j) σ=.ok ⟨ys,[(j,ys)]⟩ σ from zab h1)) X ⟨_,_,_,_,_,rfl,Itr.enum (l:=a) (fp:=[]) (Pl:=fun _=>True) hh ht (Nat.succ_ne_self _) nl2 (fun h hp b hb=>nomatch hb) fr
      (fun h h' hp hk=>trivial) (fun b hb=>nomatch hb) (fun D s' ι' σ' hD X' S' ho hp hc'=>?_),⟨⟨.none,he⟩,hit,trivial⟩,nw,hDf⟩
     obtain ⟨vs,⟨n,hp⟩,rl⟩:=S'.ok _ _ _ (X'.pre _ _ hi) (zfW hc')
     exact ⟨vs,⟨_,hp,rfl,n,rfl⟩,rl⟩
    ·exact (hns (show (lsrc (.ref j)).bind (fun s=>M.ret (Src.mk (zb2 0 s.xs) s.watch)) σ=_ from zae (show lsrc (.ref j) σ=.stuck from zae h1))).elim
   | _=>exact (hns rfl).elim
theorem FrOk.dynT{h':Heap}{ι':Ad}{σ':zaa}(F:FrOk hB env ρ h' ι' σ'):∀ b∈dyn env,∃ o,h'.get? b=some o:=fun b hb=>by
 rcases List.mem_cons.mp hb with rfl | hb
 ·obtain ⟨m,⟨o,_,_,ho,_⟩,_⟩:=F.ns;exact ⟨o,ho⟩
 ·obtain ⟨y,o,ho,_⟩:=F.cellsAt b hb;exact ⟨o,ho⟩
theorem zeN{cx:Cx}{g:Str}{T:String}{it:Expr}{args:List Expr}{F:List PV→M Src}(hg:bis.lookup g=some (.type T))(hc:zcr g cx sc ρ it=some args)
  (hF:∀(s:Shared)(ι:Ad)(vs:List PV)(xs:List Value)(σ:zaa),NoSeq (dyn env) s.heap→(∀ b∈dyn env,∃ o,s.heap.get? b=some o)→StoreOk prog w hB s.heap ι σ→hB.StaysIn s.heap→RepL s.heap ι σ vs xs→∀(Q:Value→Shared→Prop)(E:Value→Shared→Prop),F vs σ≠.stuck→
   (∀ src it h₁ tk ι₁,F vs σ=.ok src σ→Step prog w hB s.heap ι σ h₁ ι₁ σ→Made prog w hB A t (dyn env) s.heap src h₁ ι₁ σ it→Q it { s with heap:=h₁,toks:=tk })→wpAny (model prog w) A (call (.type T) xs) (fun x s₁=>wpAny (model prog w) A (pyIter x) Q E s₁) E s)
  (hG:GlobOk hB K cx.G) (H:EnvOk env sc) (IH:EvIH prog w hB A env ρ fl E) (hst:∀ e p,E (.Starred e p)=M.fail) (I:Inv prog w hB env ρ fl s.heap ι σ) (Q:Value→Shared→Prop) (Er:Value→Shared→Prop)
  (hns:zc1 E args F σ≠.stuck)
  (hok:∀ src σ₁,zc1 E args F σ=.ok src σ₁→∀ itv h₁ tk ι₁,Step prog w hB s.heap ι σ h₁ ι₁ σ₁→Made prog w hB A t (dyn env) s.heap src h₁ ι₁ σ₁ itv→Q itv { s with heap:=h₁,toks:=tk })
  (herr:∀ C σ',zc1 E args F σ=.err C σ'→∀ e h' tk ι',Step prog w hB s.heap ι σ h' ι' σ'→Fly s.heap h' e C→Er (.ref e) { s with heap:=h',toks:=tk }) :
  wpAny (model prog w) A (eval it env) (fun x s₁=>wpAny (model prog w) A (pyIter x) Q Er s₁) Er s:=by
 obtain ⟨f,fp,p,rfl,hres⟩:=zfM hc
 have hns:M.cond (zau args) ((evs E args).bind F) M.fail σ≠.stuck:=hns
 cases hp:zau args with
 | false=>rw [hp] at hns;exact (hns rfl).elim
 | true=>
  have eq:zc1 E args F σ=((evs E args).bind F) σ:=by unfold zc1;rw [hp];rfl
  have hns:((evs E args).bind F) σ≠.stuck:=by rw [hp] at hns;exact hns
  refine Call_Name rfl (zbc hG.g H I.stays hres ⟨_,hg⟩ _ _ fun v hv=>?_)
  have hv':bis.lookup g=some v:=hv
  rw [hg] at hv';cases hv'
  refine PyProof.Rows.callWith_type (zaK p hp) ?_
  refine zcM (f:=.type T) IH hst p hp I _ _ (fun q=>hns (zae q)) (fun vs σ₁ e₁ x h₁ tk₁ ι₁ X₁ r₁=>?_) (fun C σ₁ e₁ e h₁ tk₁ ι₁ X₁ F₁=>herr C σ₁ (eq.trans (zap e₁)) e h₁ tk₁ ι₁ X₁ F₁)
  obtain ⟨x,kw⟩:=x
  obtain ⟨r₁,q⟩:=r₁
  cases q
  have I₁:=I.step X₁
  refine hF { s with heap:=h₁,toks:=tk₁ } ι₁ vs _ σ₁ I₁.fr.noSeq I₁.fr.dynT I₁.store I₁.stays r₁ Q Er (fun q=>hns ((zab e₁).trans q)) fun src itv h₂ tk₂ ι₂ e₂ X₂ Md=>?_
  exact hok src σ₁ (eq.trans ((zab e₁).trans e₂)) itv h₂ tk₂ ι₂ (X₁.trans I.store.len X₂) (Md.older X₁.evo.alive)
theorem zmD{cx:Cx}{it:Expr}(hG:GlobOk hB K cx.G)(hh:A.handled=none)(H:EnvOk env sc)(IH:EvIH prog w hB A env ρ fl E)(hst:∀ e p,E (.Starred e p)=M.fail)(I:Inv prog w hB env ρ fl s.heap ι σ)(Q:Value→Shared→Prop)(Er:Value→Shared→Prop)
  (hns:zcu cx sc ρ E t it σ≠.stuck)
  (hok:∀ src σ₁,zcu cx sc ρ E t it σ=.ok src σ₁→∀ itv h₁ tk ι₁,Step prog w hB s.heap ι σ h₁ ι₁ σ₁→Made prog w hB A t (dyn env) s.heap src h₁ ι₁ σ₁ itv→Q itv { s with heap:=h₁,toks:=tk })
  (herr:∀ C σ',zcu cx sc ρ E t it σ=.err C σ'→∀ e h' tk ι',Step prog w hB s.heap ι σ h' ι' σ'→Fly s.heap h' e C→Er (.ref e) { s with heap:=h',toks:=tk }) :
  wpAny (model prog w) A (eval it env) (fun x s₁=>wpAny (model prog w) A (pyIter x) Q Er s₁) Er s:=by
 cases hr:zcr "range" cx sc ρ it with
 | some args=>
  have e:zcu cx sc ρ E t it=zc1 E args zaF:=by unfold zcu;rw [hr]
  rw [e] at hns hok herr
  exact zeN (by decide +kernel) hr (fun s ι vs xs σ hD hDt S B r Q E hns h=>zlK hh hDt S B r Q E hns fun src it h₁ tk=>h src it h₁ tk ι) hG H IH hst I Q Er hns hok herr
 | none=>
  cases he:zcr "enumerate" cx sc ρ it with
  | some args=>
   have e:zcu cx sc ρ E t it=M.cond (zch t==2) (zc1 E args zc2) M.fail:=by unfold zcu;rw [hr];dsimp only;rw [he]
   rw [e] at hns hok herr
   cases ht:zch t==2 with
   | false=>rw [ht] at hns;exact (hns rfl).elim
   | true=>
    rw [ht] at hns hok herr
    exact zeN (by decide +kernel) he (fun s ι vs xs σ hD hDt S B r Q E hns h=>zm4 hh (eq_of_beq ht) hD hDt S B r Q E hns fun src it h₁ tk=>h src it h₁ tk ι) hG H IH hst I Q Er hns hok herr
  | none=>
   have e:zcu cx sc ρ E t it=(E it).bind zbr:=by
    unfold zcu;rw [hr];dsimp only;rw [he]
   rw [e] at hns hok herr
   refine IH it s ι σ I _ _ (fun q=>hns (zae q)) (fun v σ₁ e₁ x h₁ tk₁ ι₁ X₁ r₁=>?_) (fun C σ₁ e₁ e h₁ tk₁ ι₁ X₁ F₁=>herr C σ₁ (zap e₁) e h₁ tk₁ ι₁ X₁ F₁)
   have I₁:=I.step X₁
   refine zlL (t:=t) (s:={ s with heap:=h₁,toks:=tk₁ }) hh I₁.fr.noSeq I₁.fr.dynT I₁.store I₁.stays r₁ Q Er (fun q=>hns ((zab e₁).trans q)) fun src itv h₂ e₂ X₂ Md=>?_
   exact hok src σ₁ ((zab e₁).trans e₂) itv h₂ tk₁ ι₁ (X₁.trans I.store.len X₂) (Md.older X₁.evo.alive)
end
section
variable {prog:Program} {w:World} {hB:Heap} {A:Around} {s:Shared} {ι:Ad} {σ:zaa} {env:Env} {ρ:Loc} {fl:List Env} {sc:Scope} {h h':Heap}
theorem StoreOk.but{D:List Addr}(S:StoreOk prog w hB h ι σ)(hk:∀ b o,b∉D→h.get? b=some o→h'.get? b=some o)(ht:∀ b∈D,∃ o,h'.get? b=some o)(hO:Off ι D h)(hn:∀ b∈D,¬ zco ι σ b)(hh:∀ b∈D,b∈ι.hid→∃ o,h'.get? b=some o∧∀ vs,o.data≠.fields vs):StoreOk prog w hB h' ι σ:=by
 have X:Evo D h ι σ h' ι σ:=Evo.but hk ht
 refine ⟨S.len,S.nodup,fun a ha=>?_,fun a ha=>?_,S.apart,S.base,S.hbase,S.sys,fun i a c e e'=>?_⟩
 ·obtain ⟨o,ho⟩:=S.there a ha;exact X.alive a o ho
 ·by_cases hD:a∈D
  ·exact hh a hD ha
  ·obtain ⟨o,ho,f⟩:=S.hthere a ha;exact ⟨o,hk a o hD ho,f⟩
 ·have x:=S.ok i a c e e'
  cases c with
  | dead=>trivial
  | list xs=>
   have ha:a∉D:=fun q=>hn a q ⟨i,_,e,e',by intro q;cases q⟩
   obtain ⟨vs,⟨n,hp⟩,r⟩:=x
   exact ⟨vs,⟨n,hk a _ ha hp⟩,r.evo' S.len X hO⟩
  | dict kvs=>
   have ha:a∉D:=fun q=>hn a q ⟨i,_,e,e',by intro q;cases q⟩
   obtain ⟨ys,⟨o,es,ep,ho,k⟩,k2,r⟩:=x
   exact ⟨ys,⟨o,es,ep,hk a _ ha ho,k⟩,k2,r.evo' S.len X hO⟩
theorem Inv.but{D:List Addr}(I:Inv prog w hB env ρ fl h ι σ)(hk:∀ b o,b∉D→h.get? b=some o→h'.get? b=some o)(ht:∀ b∈D,∃ o,h'.get? b=some o)(hb:∀ b∈D,hB.get? b=none)(hO:Off ι D h)(hn:∀ b∈D,¬ zco ι σ b)(hh:∀ b∈D,b∈ι.hid→∃ o,h'.get? b=some o∧∀ vs,o.data≠.fields vs)
  (hnd:∀ b∈D,∀ o,h.get? b=some o→∀ es n,o.data≠.dict es n) (hD:∀ b∈dyn env,b∉D):Inv prog w hB env ρ fl h' ι σ:=by
 have X:Evo D h ι σ h' ι σ:=Evo.but hk ht
 refine ⟨fun b o e=>hk b o (fun q=>by rw [hb b q] at e;cases e) (I.stays b o e),I.store.but hk ht hO hn hh,I.fr.evo I.store.len X hO hD,I.stk.evo I.store.len X fun b hbD hf=>?_⟩
 obtain ⟨o,es,n,ho,hd⟩:=I.stk.dicts b hf
 exact (hnd b hbD o ho es n hd).elim
theorem EvoW.but{D:List Addr}(hk:∀ b o,b∉D→h.get? b=some o→h'.get? b=some o):EvoW D h ι σ h' ι σ:=
 ⟨fun _ _ e=>e,fun i a e e'=>(by rw [e] at e';cases e'),fun _ e=>e,fun b o e _ hb=>⟨⟨o.slots,hk b o hb e⟩,fun _=>hk b o hb e⟩,fun _ h=>.inl h⟩
theorem Evo.lost{D own:List Addr}{h₀:Heap}{ι₀:Ad}{σ₀:zaa}(X:Evo D h₀ ι₀ σ₀ h ι σ)(hk:∀ b o,b∉own→h.get? b=some o→h'.get? b=some o)(hf:∀ b∈own,h₀.get? b=none):Evo D h₀ ι₀ σ₀ h' ι σ where
 pre:=X.pre
 fresh:=X.fresh
 dead:=X.dead
 alive:=fun b o e=>by
  obtain ⟨o',e'⟩:=X.alive b o e
  exact ⟨o',hk b o' (fun q=>by rw [hf b q] at e;cases e) e'⟩
 keep:=fun b o e hn hD=>by
  have hb:b∉own:=fun q=>by rw [hf b q] at e;cases e
  obtain ⟨⟨sl,e₂⟩,k⟩:=X.keep b o e hn hD
  exact ⟨⟨sl,hk b _ hb e₂⟩,fun q=>hk b _ hb (k q)⟩
 hid:=X.hid
 hfresh:=X.hfresh
theorem StoreOk.lost{D:List Addr}(S:StoreOk prog w hB h ι σ)(hk:∀ b o,b∉D→h.get? b=some o→h'.get? b=some o)(hO:Off ι D h)(hv:∀ b∈D,b∉ι.vis∧(b∈ι.hid→∃ o,h'.get? b=some o∧∀ vs,o.data≠.fields vs)):StoreOk prog w hB h' ι σ:=by
 have X:EvoW D h ι σ h' ι σ:=EvoW.but hk
 refine ⟨S.len,S.nodup,fun a ha=>?_,fun a ha=>?_,S.apart,S.base,S.hbase,S.sys,fun i a c e e'=>?_⟩
 ·obtain ⟨o,ho⟩:=S.there a ha;exact ⟨o,hk a o (fun q=>(hv a q).1 ha) ho⟩
 ·by_cases hD:a∈D
  ·exact (hv a hD).2 ha
  ·obtain ⟨o,ho,f⟩:=S.hthere a ha;exact ⟨o,hk a o hD ho,f⟩
 ·have x:=S.ok i a c e e'
  have ha:a∉D:=fun q=>(hv a q).1 (List.mem_of_getElem? e)
  cases c with
  | dead=>trivial
  | list xs=>obtain ⟨vs,⟨n,hp⟩,r⟩:=x;exact ⟨vs,⟨n,hk a _ ha hp⟩,r.evoW S.len X hO⟩
  | dict kvs=>obtain ⟨ys,⟨o,es,ep,ho,k⟩,k2,r⟩:=x;exact ⟨ys,⟨o,es,ep,hk a _ ha ho,k⟩,k2,r.evoW S.len X hO⟩
theorem Inv.lost{D:List Addr}(I:Inv prog w hB env ρ fl h ι σ)(hk:∀ b o,b∉D→h.get? b=some o→h'.get? b=some o)(hb:∀ b∈D,hB.get? b=none)(hO:Off ι D h)(hv:∀ b∈D,b∉ι.vis∧(b∈ι.hid→∃ o,h'.get? b=some o∧∀ vs,o.data≠.fields vs))
  (hnd:∀ b∈D,∀ o,h.get? b=some o→∀ es n,o.data≠.dict es n) (hD:∀ b∈dyn env,b∉D):Inv prog w hB env ρ fl h' ι σ:=by
 have X:EvoW D h ι σ h' ι σ:=EvoW.but hk
 refine ⟨fun b o e=>hk b o (fun q=>by rw [hb b q] at e;cases e) (I.stays b o e),I.store.lost hk hO hv,I.fr.evoW I.store.len X hO hD,I.stk.evoW I.store.len X fun b hbD hf=>?_⟩
 obtain ⟨o,es,n,ho,hd⟩:=I.stk.dicts b hf
 exact (hnd b hbD o ho es n hd).elim
theorem Inv.lost'{D:List Addr}(I:Inv prog w hB env ρ fl h ι σ)(hk:∀ b o,b∉D→h.get? b=some o→h'.get? b=some o)(hb:∀ b∈D,hB.get? b=none)(hO:Off ι D h)(hv:∀ b∈D,b∉ι.vis∧(b∈ι.hid→∃ o,h'.get? b=some o∧∀ vs,o.data≠.fields vs))
  (hnf:∀ b∈D,b∉fl.filterMap (·.frame)) (hD:∀ b∈dyn env,b∉D):Inv prog w hB env ρ fl h' ι σ:=by
 have X:EvoW D h ι σ h' ι σ:=EvoW.but hk
 exact ⟨fun b o e=>hk b o (fun q=>by rw [hb b q] at e;cases e) (I.stays b o e),I.store.lost hk hO hv,I.fr.evoW I.store.len X hO hD,I.stk.evoW I.store.len X fun b hbD hf=>(hnf b hbD hf).elim⟩
theorem Itr.freshAt{t:Expr}{I:Addr}{fp own hd:List Addr}{src:Src}{St:Nat→Heap→Prop}{h₁:Heap}{ι₁:Ad}{σ₁:zaa}{D:List Addr}(Z:Itr prog w hB A t I fp own hd src St h₁ ι₁ σ₁)(st₀:St 0 h₁)(X:Evo D h₁ ι₁ σ₁ h ι σ)(hh:∀ b∈hd,∃ o,h'.get? b=some o∧∀ vs,o.data≠.fields vs):∀ b∈own,b∉ι.vis∧(b∈ι.hid→∃ o,h'.get? b=some o∧∀ vs,o.data≠.fields vs):=fun b hb=>by
 obtain ⟨o,ho,_⟩:=Z.there 0 h₁ st₀ b (Z.sub b hb)
 refine ⟨fun q=>?_,fun q=>hh b ((Z.fresh b hb).2 ((X.hfresh b q).resolve_right fun e=>by rw [ho] at e;cases e))⟩
 obtain ⟨i,hi⟩:=List.getElem?_of_mem q
 cases q':ι₁.vis[i]? with
 | none=>have:=X.fresh i b hi q';rw [ho] at this;cases this
 | some a=>have:=X.pre i a q';rw [hi] at this;cases this;exact (Z.fresh b hb).1 (List.mem_of_getElem? q')
theorem Itr.okAt{t:Expr}{I:Addr}{fp own hd:List Addr}{src:Src}{St:Nat→Heap→Prop}{h₁:Heap}{ι₁:Ad}{σ₁:zaa}{D:List Addr}{i:Nat}(Z:Itr prog w hB A t I fp own hd src St h₁ ι₁ σ₁)(X:Evo D h₁ ι₁ σ₁ h ι σ)(st:St i h):Off ι own h:=Z.ownOk _ _ ι st fun b hb=>X.hid b (Z.hdIn b hb)
theorem zdt{a c:Addr}{m:Str→Option Value}{y:Option Value}(hn:h.Ns a m)(hc:h.IsCell c y):a≠c:=by
 rintro rfl
 obtain ⟨o,es,ep,ho,hd,_⟩:=hn
 obtain ⟨o',ho',hd'⟩:=hc
 rw [ho] at ho';cases ho'
 rw [hd] at hd';cases hd'
theorem IsCell.sameBut{a c:Addr}{y:Option Value}(hc:h.IsCell c y)(hs:Heap.SameBut a h h')(hne:c≠a):h'.IsCell c y:=by
 obtain ⟨o,ho,hd⟩:=hc;exact ⟨o,(hs.2 c hne).trans ho,hd⟩
theorem zbI{x z:Str}{c d:Addr}:∀{l:List (Str×Addr)},(l.Pairwise fun x y=>x.2≠y.2)→l.lookup x=some c→l.lookup z=some d→z≠x→d≠c
 | [],_,h,_,_=>by simp at h
 | (n,e)::r,hp,hx,hz,hne=>by
  rw [List.pairwise_cons] at hp
  rw [List.lookup_cons] at hx hz
  cases qx:x==n with
  | true=>
   rw [qx] at hx;cases hx
   have:(z==n)=false:=by
    cases qz:z==n with
    | false=>rfl
    | true=>exact (hne ((eq_of_beq qz).trans (eq_of_beq qx).symm)).elim
   rw [this] at hz
   exact fun q=>hp.1 (z,d) (mem_of_lookup hz) q.symm
  | false=>
   rw [qx] at hx
   cases qz:z==n with
   | true=>rw [qz] at hz;cases hz;exact hp.1 (x,c) (mem_of_lookup hx)
   | false=>rw [qz] at hz;exact zbI hp.2 hx hz hne
theorem Inv.setLocal{x:Str}{v:PV}{y:Value}{m:Str→Option Value}(I:Inv prog w hB env ρ fl h ι σ)(hx:env.kindOf x=some .local)(hm:h.Ns env.locals m)(hv:∀ x v,ρ x=some v→env.kindOf x=some .local→∃ y,m x=some y∧Rep h ι σ v y)
  (hn:h'.Ns env.locals (fun z=>if z=x then some y else m z)) (hs:Heap.SameBut env.locals h h') (r:Rep h ι σ v y):Inv prog w hB env (ρ.set x v) fl h' ι σ:=by
 have F:=I.fr
 have hk:∀ b o,b∉[env.locals]→h.get? b=some o→h'.get? b=some o:=fun b o hb e=>(hs.2 b (fun q=>hb (by rw [q];exact .head _))).trans e
 have ht:∀ b∈[env.locals],∃ o,h'.get? b=some o:=fun b hb=>by rw [List.mem_singleton.mp hb];obtain ⟨o,_,_,ho,_⟩:=hn;exact ⟨o,ho⟩
 have X:Evo [env.locals] h ι σ h' ι σ:=Evo.but hk ht
 have hO:Off ι [env.locals] h:=fun b hb=>.inr (F.noSeq b (by rw [List.mem_singleton.mp hb];exact .head _))
 have hnl:∀ b∈[env.locals],¬ zco ι σ b:=fun b hb=>by rw [List.mem_singleton.mp hb];exact zaI (F.own _ (.head _)).1
 have cne:∀ c y,h.IsCell c y→c≠env.locals:=fun c y hc=>(zdt hm hc).symm
 have up:∀ {c y},h.IsCell c y→h'.IsCell c y:=fun hc=>IsCell.sameBut hc hs (cne _ _ hc)
 refine ⟨fun b o e=>hk b o (fun q=>by rw [List.mem_singleton.mp q,(F.own _ (.head _)).2] at e;cases e) (I.stays b o e),I.store.but hk ht hO hnl (fun b hb q=>by rw [List.mem_singleton.mp hb] at q;exact ((F.off _ (.head _)).2 q).elim),?_,I.stk.evo I.store.len X fun b hb _=>?_⟩
 ·refine ⟨⟨_,hn,fun z u e k=>?_⟩,fun z u e k=>?_,fun z u e=>?_,fun z k=>?_,F.apart,F.own,fun b hb=>?_,F.off⟩
  ·by_cases hz:z=x
   ·subst hz
    simp only [Loc.set,if_true] at e;cases e
    exact ⟨y,by simp,r.evo' I.store.len X hO⟩
   ·simp only [Loc.set,hz,if_false] at e
    obtain ⟨y',hy,r'⟩:=hv z u e k
    exact ⟨y',by simp only [hz,if_false];exact hy,r'.evo' I.store.len X hO⟩
  ·have hz:z≠x:=fun q=>by rw [q,hx] at k;cases k
   simp only [Loc.set,hz,if_false] at e
   obtain ⟨c,y',hc,hy,r'⟩:=F.cel z u e k
   exact ⟨c,y',hc,up hy,r'.evo' I.store.len X hO⟩
  ·by_cases hz:z=x
   ·subst hz;exact .inl hx
   ·simp only [Loc.set,hz,if_false] at e;exact F.kinds z u e
  ·obtain ⟨c,y',hc,hy⟩:=F.cells z k;exact ⟨c,y',hc,up hy⟩
  ·obtain ⟨y',hy⟩:=F.cellsAt b hb;exact ⟨y',up hy⟩
 ·rw [List.mem_singleton.mp hb];obtain ⟨o,es,ep,ho,hd,_⟩:=hn;exact ⟨o,es,ep,ho,hd⟩
theorem Inv.setCell{x:Str}{v:PV}{y:Value}{c:Addr}{y₀:Option Value}(I:Inv prog w hB env ρ fl h ι σ)(hx:env.kindOf x=some .cell)(hc:env.cells.lookup x=some c)(hc₀:h.IsCell c y₀)
  (hn:h'.IsCell c (some y)) (hs:Heap.SameBut c h h') (r:Rep h ι σ v y):Inv prog w hB env (ρ.set x v) fl h' ι σ:=by
 have F:=I.fr
 have hmem:c∈dyn env:=.tail _ (List.mem_map_of_mem (f:=Prod.snd) (mem_of_lookup hc))
 have hk:∀ b o,b∉[c]→h.get? b=some o→h'.get? b=some o:=fun b o hb e=>(hs.2 b (fun q=>hb (by rw [q];exact .head _))).trans e
 have ht:∀ b∈[c],∃ o,h'.get? b=some o:=fun b hb=>by rw [List.mem_singleton.mp hb];obtain ⟨o,ho,_⟩:=hn;exact ⟨o,ho⟩
 have X:Evo [c] h ι σ h' ι σ:=Evo.but hk ht
 have hO:Off ι [c] h:=fun b hb=>.inr (F.noSeq b (by rw [List.mem_singleton.mp hb];exact hmem))
 have hnl:∀ b∈[c],¬ zco ι σ b:=fun b hb=>by rw [List.mem_singleton.mp hb];exact zaI (F.own _ hmem).1
 refine ⟨fun b o e=>hk b o (fun q=>by rw [List.mem_singleton.mp q,(F.own _ hmem).2] at e;cases e) (I.stays b o e),I.store.but hk ht hO hnl (fun b hb q=>by rw [List.mem_singleton.mp hb] at q;exact ((F.off _ hmem).2 q).elim),?_,I.stk.evo I.store.len X fun b hb hf=>?_⟩
 ·refine ⟨?_,fun z u e k=>?_,fun z u e=>?_,fun z k=>?_,F.apart,F.own,fun b hb=>?_,F.off⟩
  ·obtain ⟨m,hm,hv⟩:=F.ns
   refine ⟨m,hm.sameBut hs (zdt hm hc₀),fun z u e k=>?_⟩
   have hz:z≠x:=fun q=>by rw [q,hx] at k;cases k
   simp only [Loc.set,hz,if_false] at e
   obtain ⟨y',hy,r'⟩:=hv z u e k
   exact ⟨y',hy,r'.evo' I.store.len X hO⟩
  ·by_cases hz:z=x
   ·subst hz
    simp only [Loc.set,if_true] at e;cases e
    exact ⟨c,y,hc,hn,r.evo' I.store.len X hO⟩
   ·simp only [Loc.set,hz,if_false] at e
    obtain ⟨c',y',hc',hy,r'⟩:=F.cel z u e k
    exact ⟨c',y',hc',IsCell.sameBut hy hs (zbI F.apart hc hc' hz),r'.evo' I.store.len X hO⟩
  ·by_cases hz:z=x
   ·subst hz;exact .inr hx
   ·simp only [Loc.set,hz,if_false] at e;exact F.kinds z u e
  ·by_cases hz:z=x
   ·subst hz;exact ⟨c,_,hc,hn⟩
   ·obtain ⟨c',y',hc',hy⟩:=F.cells z k;exact ⟨c',y',hc',IsCell.sameBut hy hs (zbI F.apart hc hc' hz)⟩
  ·by_cases hbc:b=c
   ·subst hbc;exact ⟨_,hn⟩
   ·obtain ⟨y',hy⟩:=F.cellsAt b hb;exact ⟨y',IsCell.sameBut hy hs hbc⟩
 ·rw [List.mem_singleton.mp hb] at hf
  obtain ⟨o,es,n,ho,hd⟩:=I.stk.dicts c hf
  obtain ⟨o',ho',hd'⟩:=hc₀
  rw [ho] at ho';cases ho'
  rw [hd] at hd';cases hd'
theorem zfy(H:EnvOk env sc):(env.scope.kind==.class || (env.scope.kind==.module&&env.locals != env.globals))=false:=by rw [H.kind];rfl
theorem zbF{x:Str}{v:PV}{y:Value}(H:EnvOk env sc)(I:Inv prog w hB env ρ fl s.heap ι σ)(hx:env.kindOf x=some .local∨env.kindOf x=some .cell)(r:Rep s.heap ι σ v y)(Q:Unit→Shared→Prop)(E:Value→Shared→Prop)
  (hQ:∀ h' tk,(∀ b o,b∉dyn env→s.heap.get? b=some o→h'.get? b=some o)→Inv prog w hB env (ρ.set x v) fl h' ι σ→Q () { s with heap:=h',toks:=tk }) :
  wpAny (model prog w) A (storeName env x y) Q E s:=by
 rcases hx with hx | hx
 ·obtain ⟨m,hm,hv⟩:=I.fr.ns
  exact wpAny_storeName_local hx hm (fun h' hn hs=>hQ h' _ (fun b o hb e=>(hs.2 b (fun q=>hb (by rw [q];exact .head _))).trans e) (I.setLocal hx hm hv hn hs r)) (zfy H)
 ·obtain ⟨c,y₀,hc,hy⟩:=I.fr.cells x hx
  have hmem:c∈dyn env:=.tail _ (List.mem_map_of_mem (f:=Prod.snd) (mem_of_lookup hc))
  exact wpAny_storeName_cell H.kind hx hc hy fun h' hn hs=>hQ h' s.toks (fun b o hb e=>(hs.2 b (fun q=>hb (by rw [q];exact hmem))).trans e) (I.setCell hx hc hy hn hs r)
theorem zfv{x:Str}{v:PV}{y:Value}(H:EnvOk env sc)(I:Inv prog w hB env ρ fl s.heap ι σ)(hx:env.kindOf x=some .local)(r:Rep s.heap ι σ v y)(Q:Unit→Shared→Prop)(E:Value→Shared→Prop)
  (hQ:∀ h' tk,Heap.SameBut env.locals s.heap h'→Inv prog w hB env (ρ.set x v) fl h' ι σ→Q () { s with heap:=h',toks:=tk }) :
  wpAny (model prog w) A (storeName env x y) Q E s:=by
 obtain ⟨m,hm,hv⟩:=I.fr.ns
 exact wpAny_storeName_local hx hm (fun h' hn hs=>hQ h' _ hs (I.setLocal hx hm hv hn hs r)) (zfy H)
theorem FrOk.sub{ρ':Loc}(F:FrOk hB env ρ h ι σ)(hs:∀ x v,ρ' x=some v→ρ x=some v):FrOk hB env ρ' h ι σ:=by
 refine ⟨?_,fun x v e=>F.cel x v (hs x v e),fun x v e=>F.kinds x v (hs x v e),F.cells,F.apart,F.own,F.cellsAt,F.off⟩
 obtain ⟨m,hn,hv⟩:=F.ns
 exact ⟨m,hn,fun x v e=>hv x v (hs x v e)⟩
theorem Inv.sub{ρ':Loc}(I:Inv prog w hB env ρ fl h ι σ)(hs:∀ x v,ρ' x=some v→ρ x=some v):Inv prog w hB env ρ' fl h ι σ:=⟨I.stays,I.store,I.fr.sub hs,I.stk⟩
theorem zck(F:FrOk hB env ρ h ι σ):∀ b∈dyn env,∃ o,h.get? b=some o:=fun b hb=>by
 rcases List.mem_cons.mp hb with rfl | hb
 ·obtain ⟨m,⟨o,_,_,ho,_⟩,_⟩:=F.ns;exact ⟨o,ho⟩
 ·obtain ⟨y,o,ho,_⟩:=F.cellsAt b hb;exact ⟨o,ho⟩
end
noncomputable def clOf(env:Env):List (Str×NameKind)→List (Str×Addr)→List (Str×Addr)
 | [],acc=>acc
 | (x,k)::r,acc=>if (k==NameKind.free)=true then clOf env r ((x,(env.cells.lookup x).getD 0)::acc) else clOf env r acc
theorem zeA{scope:Scope}{env:Env}(hfree:∀ x∈scope.names,x.2=.free→∃ c,env.cells.lookup x.1=some c):closureFor scope env=pure (clOf env scope.names []):=by
 simp only [closureFor]
 generalize ([]:List (Str×Addr))=acc
 revert hfree
 generalize scope.names=l
 intro hfree
 induction l generalizing acc with
 | nil=>simp [clOf]
 | cons x r ih=>
  obtain ⟨n,k⟩:=x
  simp only [List.forIn_cons]
  cases hk:k==NameKind.free with
  | true=>
   obtain ⟨c,hc⟩:=hfree (n,k) (.head _) (eq_of_beq hk)
   have:cellOf env n=pure c:=by unfold cellOf;rw [hc]
   simp only [hk,if_true,this,pure_bind,clOf,hc,Option.getD_some]
   exact ih _ fun x hx=>hfree x (.tail _ hx)
  | false=>
   simp only [hk,Bool.false_eq_true,if_false,pure_bind,clOf]
   exact ih _ fun x hx=>hfree x (.tail _ hx)
theorem zdZ{env:Env}{c:Str×Addr}:∀{l:List (Str×NameKind)}{acc:List (Str×Addr)},(∀ x∈l,x.2=.free→∃ c,env.cells.lookup x.1=some c)→c∈clOf env l acc→c∈acc∨((c.1,NameKind.free)∈l∧env.cells.lookup c.1=some c.2)
 | [],_,_,h=>.inl h
 | (x,k)::r,acc,hf,h=>by
  unfold clOf at h
  split at h
  ·rename_i hk
   have hk:=eq_of_beq hk;subst hk
   obtain ⟨d,hd⟩:=hf (x,.free) (.head _) rfl
   rcases zdZ (fun y hy=>hf y (.tail _ hy)) h with h | ⟨h1,h2⟩
   ·rcases List.mem_cons.mp h with rfl | h
    ·exact .inr ⟨.head _,by simp only [hd,Option.getD_some]⟩
    ·exact .inl h
   ·exact .inr ⟨.tail _ h1,h2⟩
  ·rcases zdZ (fun y hy=>hf y (.tail _ hy)) h with h | ⟨h1,h2⟩
   ·exact .inl h
   ·exact .inr ⟨.tail _ h1,h2⟩
theorem zfV{env:Env}{x:Str}{c:Addr}:∀{l:List (Str×NameKind)}{acc:List (Str×Addr)},(x,NameKind.free)∈l→env.cells.lookup x=some c→(x,c)∈clOf env l acc
 | (y,k)::r,acc,hm,hc=>by
  have sub:∀{l:List (Str×NameKind)}{acc:List (Str×Addr)},(x,c)∈acc→(x,c)∈clOf env l acc:=by
   intro l
   induction l with
   | nil=>intro acc h;exact h
   | cons z r ih=>intro acc h;obtain ⟨z,kz⟩:=z;unfold clOf;split;exact ih (.tail _ h);exact ih h
  unfold clOf
  rcases List.mem_cons.mp hm with q | hm
  ·cases q
   simp only [beq_self_eq_true,if_true]
   exact sub (by rw [hc];exact .head _)
  ·split
   ·exact zfV hm hc
   ·exact zfV hm hc
theorem zdo{env:Env}:∀{l:List (Str×NameKind)}{acc:List (Str×Addr)},(l.map (·.1)).Nodup→(acc.map (·.1)).Nodup→(∀ x∈l,x.1∉acc.map (·.1))→((clOf env l acc).map (·.1)).Nodup
 | [],_,_,h,_=>h
 | (x,k)::r,acc,hl,ha,hd=>by
  rw [List.map_cons,List.nodup_cons] at hl
  unfold clOf
  split
  ·refine zdo hl.2 ?_ fun y hy=>?_
   ·rw [List.map_cons,List.nodup_cons];exact ⟨hd (x,k) (.head _),ha⟩
   ·rw [List.map_cons,List.mem_cons]
    rintro (q | q)
    ·exact hl.1 (q▸List.mem_map_of_mem (f:=Prod.fst) hy)
    ·exact hd y (.tail _ hy) q
  ·exact zdo hl.2 ha fun y hy=>hd y (.tail _ hy)
theorem zaY{β:Type}{x:Str}{c:β}:∀{l:List (Str×β)},(l.map (·.1)).Nodup→(x,c)∈l→l.lookup x=some c
 | (y,d)::r,hn,hm=>by
  rw [List.map_cons,List.nodup_cons] at hn
  rw [List.lookup_cons]
  rcases List.mem_cons.mp hm with q | hm'
  ·cases q;simp
  ·have:(x==y)=false:=by
    cases q:x==y with
    | false=>rfl
    | true=>
     have e:=eq_of_beq q
     subst e
     exact (hn.1 (List.mem_map.mpr ⟨_,hm',rfl⟩)).elim
   rw [this];exact zaY hn.2 hm'
theorem zeZ{env:Env}(ha:env.cells.Pairwise fun x y=>x.2≠y.2):∀{l:List (Str×Addr)},(l.map (·.1)).Nodup→(∀ x∈l,env.cells.lookup x.1=some x.2)→l.Pairwise fun x y=>x.2≠y.2
 | [],_,_=>.nil
 | x::r,hn,hc=>by
  rw [List.map_cons,List.nodup_cons] at hn
  refine List.pairwise_cons.mpr ⟨fun y hy=>?_,zeZ ha hn.2 fun z hz=>hc z (.tail _ hz)⟩
  exact zbI ha (hc y (.tail _ hy)) (hc x (.head _)) fun q=>hn.1 (q▸List.mem_map_of_mem (f:=Prod.fst) hy)
structure CompOk (sc csc:Scope) (it:Expr):Prop where
 kind:csc.kind=.function
 loc:∀ x,(x,NameKind.local)∈csc.names→csc.names.lookup x=some .local∧x≠"__debug__"
 free:∀ x,(x,NameKind.free)∈csc.names→sc.names.lookup x=some .cell∧csc.names.lookup x=some .free
 glob:∀ x,(x,NameKind.globalImplicit)∈csc.names→x≠"__debug__"
 kinds:∀ x k,(x,k)∈csc.names→k=.local∨k=.free∨k=.globalImplicit
 nodup:(csc.names.map (·.1)).Nodup
 it:∀(env:Env)(x:Value),foldedSetIterable it env x=pure x
theorem zez{sc csc:Scope}{it:Expr}(h:zln sc csc it=true):CompOk sc csc it:=by
 simp only [zln,Bool.and_eq_true,decide_eq_true_eq,List.all_eq_true] at h
 obtain ⟨⟨⟨hk,hn⟩,hd⟩,hi⟩:=h
 refine ⟨hk,fun x hx=>?_,fun x hx=>?_,fun x hx=>?_,fun x k hx=>?_,hd,fun env x=>?_⟩
 ·have:=hn _ hx;simpa using this
 ·have:=hn _ hx;simpa using this
 ·have:=hn _ hx;simpa using this
 ·have:=hn _ hx
  cases k <;> simp at this ⊢
 ·cases it <;> first | rfl | cases hi
section
variable {prog:Program} {w:World} {hB:Heap} {A:Around} {s:Shared} {ι:Ad} {σ:zaa} {env:Env} {ρ:Loc} {fl:List Env} {sc csc:Scope} {K:Frag}
theorem zcz{env:Env}{x:Str}:∀{names:List (Str×NameKind)},
  (names.map fun (n,k)=>if (k==NameKind.free&&env.scope.kind==.function&&env.kindOf n==some .cell) then (n,NameKind.cell) else (n,k)).lookup x =
   (names.lookup x).map fun k=>if (k==NameKind.free&&env.scope.kind==.function&&env.kindOf x==some .cell) then NameKind.cell else k
 | []=>rfl
 | (n,k)::r=>by
  have ih:=@zcz env x r
  show List.lookup x ((if (k==NameKind.free&&env.scope.kind==.function&&env.kindOf n==some .cell)=true then (n,NameKind.cell) else (n,k))::_)=_
  cases hx:x==n with
  | true=>
   have:=eq_of_beq hx;subst this
   by_cases hc:(k==NameKind.free&&env.scope.kind==.function&&env.kindOf x==some .cell)=true
   ·rw [if_pos hc];simp only [List.lookup_cons,hx,Option.map_some,hc,if_true]
   ·rw [if_neg hc];simp only [List.lookup_cons,hx,Option.map_some,hc]
    rfl
  | false=>
   by_cases hc:(k==NameKind.free&&env.scope.kind==.function&&env.kindOf n==some .cell)=true
   ·rw [if_pos hc];simp only [List.lookup_cons,hx];exact ih
   ·rw [if_neg hc];simp only [List.lookup_cons,hx];exact ih
theorem zaU{cl:List (Str×Addr)}{C:Addr}(x:Str):(compEnvC csc cl C env).kindOf x=(csc.names.lookup x).map fun k=>if (k==NameKind.free&&env.scope.kind==.function&&env.kindOf x==some .cell) then NameKind.cell else k:=
 zcz
theorem CompOk.envOk{it:Expr}(O:CompOk sc csc it)(H:EnvOk env sc)(cl:List (Str×Addr))(C:Addr):EnvOk (compEnvC csc cl C env) csc where
 kind:=O.kind
 globals:=H.globals
 builtins:=H.builtins
 loc:=fun x hx=>by rw [zaU,hx];rfl
 cel:=fun x hx=>by rw [zaU,hx];rfl
 glob:=fun x hx=>by rw [zaU,hx];rfl
 nodebug:=by
  rw [zaU]
  cases hx:csc.names.lookup ("__debug__":Str) with
  | none=>rfl
  | some k=>
   have hm:=mem_of_lookup hx
   rcases O.kinds _ _ hm with rfl | rfl | rfl
   ·exact ((O.loc _ hm).2 rfl).elim
   ·have:=H.cel _ (O.free _ hm).1;rw [H.nodebug] at this;cases this
   ·exact (O.glob _ hm rfl).elim
theorem CompOk.frame{it:Expr}{h':Heap}{ι':Ad}{C:Addr}{m:Str→Option Value}(O:CompOk sc csc it)(H:EnvOk env sc)(F:FrOk hB env ρ h' ι' σ)(hn:h'.Ns C m)(hnl:C∉ι'.vis∧C∉ι'.hid)(hb:hB.get? C=none) :
  FrOk hB (compEnvC csc (clOf env csc.names []) C env) (inner csc ρ) h' ι' σ:=by
 have hfree:∀ x∈csc.names,x.2=.free→∃ c,env.cells.lookup x.1=some c:=fun x hx hk=>by
  obtain ⟨x,k⟩:=x
  dsimp only at hk;subst hk
  obtain ⟨c,_,hc,_⟩:=F.cells x (H.cel _ (O.free x hx).1)
  exact ⟨c,hc⟩
 have hmem:∀ c∈clOf env csc.names [],(c.1,NameKind.free)∈csc.names∧env.cells.lookup c.1=some c.2:=fun c hc=>(zdZ hfree hc).elim (fun q=>nomatch q) id
 have hnd:((clOf env csc.names []).map (·.1)).Nodup:=zdo O.nodup .nil fun _ _=>List.not_mem_nil
 have isFree:∀ x v,inner csc ρ x=some v→csc.names.lookup x=some .free∧ρ x=some v:=fun x v e=>by
  unfold inner at e
  split at e
  ·rename_i q;exact ⟨q,e⟩
  ·cases e
 have kCell:∀ x,(compEnvC csc (clOf env csc.names []) C env).kindOf x=some .cell→(x,NameKind.free)∈csc.names:=fun x hx=>by
  rw [zaU] at hx
  cases q:csc.names.lookup x with
  | none=>rw [q] at hx;cases hx
  | some k=>
   have hm:=mem_of_lookup q
   rw [q] at hx
   rcases O.kinds _ _ hm with rfl | rfl | rfl
   ·cases hx
   ·exact hm
   ·cases hx
 have look:∀ x c,(x,NameKind.free)∈csc.names→env.cells.lookup x=some c→(clOf env csc.names []).lookup x=some c:=fun x c hx hc=>zaY hnd (zfV hx hc)
 refine ⟨⟨m,hn,fun x v e k=>?_⟩,fun x v e k=>?_,fun x v e=>?_,fun x k=>?_,?_,fun b hb'=>?_,fun b hb'=>?_,fun b hb'=>?_⟩
 ·obtain ⟨q,_⟩:=isFree x v e
  rw [zaU,q] at k
  have:=H.cel _ (O.free x (mem_of_lookup q)).1
  simp [this,H.kind] at k
 ·obtain ⟨q,e'⟩:=isFree x v e
  obtain ⟨c,y,hc,hy,r⟩:=F.cel x v e' (H.cel _ (O.free x (mem_of_lookup q)).1)
  exact ⟨c,y,look x c (mem_of_lookup q) hc,hy,r⟩
 ·obtain ⟨q,_⟩:=isFree x v e
  have:=H.cel _ (O.free x (mem_of_lookup q)).1
  right;rw [zaU,q];simp [this,H.kind]
 ·have hx:=kCell x k
  obtain ⟨c,y,hc,hy⟩:=F.cells x (H.cel _ (O.free x hx).1)
  exact ⟨c,y,look x c hx hc,hy⟩
 ·exact zeZ F.apart hnd fun x hx=>(hmem x hx).2
 ·rcases List.mem_cons.mp hb' with rfl | hb'
  ·exact ⟨fun q=>q.elim (fun ⟨i,c,hi,_⟩=>hnl.1 (List.mem_of_getElem? hi)) hnl.2,hb⟩
  ·obtain ⟨c,hc,rfl⟩:=List.mem_map.mp hb'
   exact F.own _ (.tail _ (List.mem_map_of_mem (f:=Prod.snd) (mem_of_lookup (hmem c hc).2)))
 ·obtain ⟨c,hc,rfl⟩:=List.mem_map.mp hb'
  exact F.cellsAt _ (List.mem_map_of_mem (f:=Prod.snd) (mem_of_lookup (hmem c hc).2))
 ·rcases List.mem_cons.mp hb' with rfl | hb'
  ·exact hnl
  ·obtain ⟨c,hc,rfl⟩:=List.mem_map.mp hb'
   exact F.off _ (.tail _ (List.mem_map_of_mem (f:=Prod.snd) (mem_of_lookup (hmem c hc).2)))
theorem CompOk.dyn{it:Expr}{h':Heap}{ι':Ad}{C:Addr}(O:CompOk sc csc it)(H:EnvOk env sc)(F:FrOk hB env ρ h' ι' σ):∀ b∈dyn (compEnvC csc (clOf env csc.names []) C env),b=C∨b∈Mine.dyn env:=by
 have hfree:∀ x∈csc.names,x.2=.free→∃ c,env.cells.lookup x.1=some c:=fun x hx hk=>by
  obtain ⟨x,k⟩:=x
  dsimp only at hk;subst hk
  obtain ⟨c,_,hc,_⟩:=F.cells x (H.cel _ (O.free x hx).1)
  exact ⟨c,hc⟩
 intro b hb
 rcases List.mem_cons.mp hb with rfl | hb
 ·exact .inl rfl
 ·obtain ⟨c,hc,rfl⟩:=List.mem_map.mp hb
  rcases zdZ hfree hc with q | ⟨_,q⟩
  ·exact nomatch q
  ·exact .inr (.tail _ (List.mem_map_of_mem (f:=Prod.snd) (mem_of_lookup q)))
structure CompEnd (prog:Program) (w:World) (hB:Heap) (h₁:Heap) (ι₁:Ad) (σ₁:zaa) (D C:Addr) (H:Heap) (ι':Ad) (σ':zaa) (ys:List PV):Prop where
 evo:Evo [] h₁ ι₁ σ₁ H ι' σ'
 store:StoreOk prog w hB H ι' σ'
 stays:hB.StaysIn H
 hid:D∈ι'.hid
 newD:h₁.get? D=none
 newC:h₁.get? C=none
 ne:D≠C
 ns:∃ m,H.Ns C m
 offC:C∉ι'.vis∧C∉ι'.hid
 baseC:hB.get? C=none
 lst:∃ vs,H.PlainList D vs∧RepL H ι' σ' ys vs.toList
noncomputable abbrev zdF(cx:Cx)(n:Nat)(csc:Scope)(ρ:Loc)(t elt:Expr)(ifs:List Expr):PV→M (Option PV):=zpc ρ csc (fun ρ' e=>ev { cx with md:=⟨false,cx.md.lp⟩ } n csc ρ' e) t elt ifs
end
section
variable {prog:Program} {w:World} {hB:Heap} {A:Around} {s:Shared} {ι:Ad} {σ:zaa} {env:Env} {ρ:Loc} {fl:List Env} {sc:Scope} {D:List Addr}
theorem zdp{ρ':Loc}{v:PV}{t:Expr}(hb:zdq sc ρ v t=some ρ'):∃ x p,t=.Name x p∧(sc.names.lookup x=some .local∨sc.names.lookup x=some .cell)∧ρ'=ρ.set x v:=by
 obtain ⟨x,_,hb⟩:=Option.bind_eq_some_iff.mp hb
 unfold zcG at hb
 refine ⟨x.1.1,x.1.2,x.2,?_⟩
 cases q:sc.names.lookup x.1.1 with
 | none=>rw [q] at hb;cases hb
 | some k=>
  rw [q] at hb
  cases k with
  | «local»=>cases hb;exact ⟨.inl rfl,rfl⟩
  | cell=>cases hb;exact ⟨.inr rfl,rfl⟩
  | _=>cases hb
theorem zkR(H:EnvOk env sc){x:Str}(h:sc.names.lookup x=some .local∨sc.names.lookup x=some .cell):env.kindOf x=some .local∨env.kindOf x=some .cell:=h.imp (H.loc x) (H.cel x)
theorem zdH{t:Expr}{ts:List Expr}{vs:List PV}{ρ':Loc}(hb:zbf sc ρ (t::ts) vs=some ρ'):∃ v vs' y py,vs=v::vs'∧t=.Name y py∧(sc.names.lookup y=some .local∨sc.names.lookup y=some .cell)∧zbf sc (ρ.set y v) ts vs'=some ρ':=by
 cases vs with
 | nil=>cases hb
 | cons v vs=>
  obtain ⟨ρ₁,h1,h2⟩:=Option.bind_eq_some_iff.mp hb
  obtain ⟨y,py,e,hk,rfl⟩:=zdp h1
  exact ⟨v,vs,y,py,rfl,e,hk,h2⟩
noncomputable def zio(prog:Program)(w:World)(hB:Heap)(A:Around)(ι:Ad)(σ:zaa)(env:Env)(fl:List Env)(sc:Scope)(D:List Addr):Prop:=
 ∀(y:Str)(v:PV)(yv:Value)(ρ:Loc)(s:Shared),(sc.names.lookup y=some .local∨sc.names.lookup y=some .cell)→Inv prog w hB env ρ fl s.heap ι σ→Rep s.heap ι σ v yv→∀(Q:Unit→Shared→Prop)(E:Value→Shared→Prop),
  (∀ h' tk,(∀ b o,b∉D→s.heap.get? b=some o→h'.get? b=some o)→Inv prog w hB env (ρ.set y v) fl h' ι σ→Q () { s with heap:=h',toks:=tk })→wpAny (model prog w) A (storeName env y yv) Q E s
theorem zgg(H:EnvOk env sc):zio prog w hB A ι σ env fl sc (dyn env):=fun y v yv ρ s hk I r Q E hQ=>zbF H I (zkR H hk) r Q E hQ
theorem zjJ(H:EnvOk env sc)(hc:∀ y,sc.names.lookup y≠some .cell):zio prog w hB A ι σ env fl sc [env.locals]:=fun y v yv ρ s hk I r Q E hQ=>
 zfv H I (H.loc y (hk.resolve_right (hc y))) r Q E fun h' tk hs I'=>hQ h' tk (fun b o hb e=>(hs.2 b fun q=>hb (by rw [q];exact .head _)).trans e) I'
theorem zeO(hD:∀ b∈D,b∈dyn env)(hS:zio prog w hB A ι σ env fl sc D){ρ':Loc}(Q:Unit→Shared→Prop)(E:Value→Shared→Prop)(ts:List Expr):∀(vs:List PV)(xs:List Value)(ρ:Loc)(s:Shared),zbf sc ρ ts vs=some ρ'→Inv prog w hB env ρ fl s.heap ι σ→RepL s.heap ι σ vs xs→
  (∀ h' tk,(∀ b o,b∉D→s.heap.get? b=some o→h'.get? b=some o)→Inv prog w hB env ρ' fl h' ι σ→Q () { s with heap:=h',toks:=tk })→
  wpAny (model prog w) A (assignInOrder ((assignEach ts env).map (·.2)) xs) Q E s:=by
 induction ts with
 | nil=>
  intro vs xs ρ s hb I r hQ
  cases vs with
  | nil=>cases hb;cases r;exact wpAny_pure (hQ s.heap s.toks (fun _ _ _ e=>e) I)
  | cons _ _=>cases hb
 | cons t ts ih=>
  intro vs xs ρ s hb I r hQ
  obtain ⟨v,vs,y,py,rfl,rfl,hk,hb₂⟩:=zdH hb
  cases r with
  | cons r rs=>
   refine wpAny_bind (wpAny_holding (wpAny_assign_Name (hS y v _ ρ s hk I r _ _ fun h₁ tk₁ hk₁ I₁=>?_)))
   have X₁:Evo D s.heap ι σ h₁ ι σ:=Evo.but hk₁ fun b hb=>zck I₁.fr b (hD b hb)
   exact ih vs _ _ { s with heap:=h₁,toks:=tk₁ } hb₂ I₁ (rs.evo I.store.len X₁ fun b hb=>I.fr.noSeq b (hD b hb)) fun h₂ tk₂ hk₂ I₂=>hQ h₂ tk₂ (fun b o hb e=>hk₂ b o hb (hk₁ b o hb e)) I₂
theorem zc5{ρ':Loc}(ts:List Expr):∀{vs:List PV}{ρ:Loc},zbf sc ρ ts vs=some ρ'→ts.length=vs.length∧(assignEach ts env).length=ts.length∧(assignEach ts env).findIdx? (·.1)=none:=by
 induction ts with
 | nil=>
  intro vs ρ hb
  cases vs with
  | nil=>exact ⟨rfl,rfl,rfl⟩
  | cons _ _=>cases hb
 | cons t ts ih=>
  intro vs ρ hb
  obtain ⟨v,vs,y,py,rfl,rfl,hk,hb₂⟩:=zdH hb
  obtain ⟨h1,h2,h3⟩:=ih hb₂
  refine ⟨congrArg Nat.succ h1,congrArg Nat.succ h2,?_⟩
  show List.findIdx? _ ((false,assign (.Name y py) env)::assignEach ts env)=_
  rw [List.findIdx?_cons,h3];rfl
theorem zhO{t:Expr}{v:PV}{y:Value}{ρ':Loc}(hh:A.handled=none)(hD:∀ b∈D,b∈dyn env)(hS:zio prog w hB A ι σ env fl sc D)(hb:zfY sc ρ t v=some ρ')(I:Inv prog w hB env ρ fl s.heap ι σ)(r:Rep s.heap ι σ v y)(Q:Unit→Shared→Prop)(E:Value→Shared→Prop)
  (hQ:∀ h' tk,(∀ b o,b∉D→s.heap.get? b=some o→h'.get? b=some o)→Inv prog w hB env ρ' fl h' ι σ→Q () { s with heap:=h',toks:=tk }):wpAny (model prog w) A (assign t env y) Q E s:=by
 have one:zdq sc ρ v t=some ρ'→wpAny (model prog w) A (assign t env y) Q E s:=fun hb=>by
  obtain ⟨x,p,rfl,hk,rfl⟩:=zdp hb
  exact wpAny_assign_Name (hS x v y ρ s hk I r Q E hQ)
 cases t with
 | Tuple ts k p=>
  obtain ⟨xs,hv,hb⟩:=Option.bind_eq_some_iff.mp hb
  cases v with
  | tup ys=>
   cases hv
   obtain ⟨a,vs,m,rfl,hp,nl,rl⟩:=r.inv
   obtain ⟨b1,b2,b3⟩:=zc5 (env:=env) ts hb
   refine wpAny_assign_Tuple hh ⟨_,hp,rfl,_,rfl⟩ ((b2.trans b1).trans rl.length) b3 fun h₂ hx=>?_
   have hk:∀ b o,s.heap.get? b=some o→h₂.get? b=some o:=fun b o e=>hx b o (Nat.ne_of_lt (Heap.lt_size e)) e
   have X₂:Step prog w hB s.heap ι σ h₂ ι σ:=Step.keeps I.store I.stays hk
   exact zeO hD hS Q E ts xs vs.toList ρ { s with heap:=h₂ } hb (I.step X₂) (rl.step I.store.len X₂) fun h₃ tk₃ hk₃ I₃=>hQ h₃ tk₃ (fun b o hb e=>hk₃ b o hb (hk b o e)) I₃
  | _=>cases hv
 | _=>exact one hb
theorem zfo{t:Expr}{v:PV}{ρ':Loc}(hb:zdq sc ρ v t=some ρ'){z:Str}(hz:sc.names.lookup z≠some .local∧sc.names.lookup z≠some .cell):ρ' z=ρ z:=by
 obtain ⟨x,p,rfl,hk,rfl⟩:=zdp hb
 have:z≠x:=fun q=>by rw [q] at hz;exact hk.elim hz.1 hz.2
 unfold Loc.set;rw [if_neg this]
theorem zdG{z:Str}(hz:sc.names.lookup z≠some .local∧sc.names.lookup z≠some .cell):∀(ts:List Expr){vs:List PV}{ρ ρ':Loc},zbf sc ρ ts vs=some ρ'→ρ' z=ρ z
 | [],vs,ρ,ρ',hb=>by
  cases vs with
  | nil=>cases hb;rfl
  | cons _ _=>cases hb
 | t::ts,vs,ρ,ρ',hb=>by
  cases vs with
  | nil=>cases hb
  | cons v vs=>
   obtain ⟨ρ₁,h1,h2⟩:=Option.bind_eq_some_iff.mp hb
   exact (zdG hz ts h2).trans (zfo h1 hz)
theorem zjo{t:Expr}{v:PV}{ρ':Loc}(hb:zfY sc ρ t v=some ρ'){z:Str}(hz:sc.names.lookup z≠some .local∧sc.names.lookup z≠some .cell):ρ' z=ρ z:=by
 have one:zdq sc ρ v t=some ρ'→ρ' z=ρ z:=fun hb=>zfo hb hz
 cases t with
 | Tuple ts k p=>
  obtain ⟨xs,_,hb⟩:=Option.bind_eq_some_iff.mp hb
  exact zdG hz ts hb
 | _=>exact one hb
end
noncomputable def zpV(E:Expr→M PV)(elt:Expr)(ifs:List Expr):M (Option PV):=
 match ifs with
 | []=>(E elt).bind fun y=>M.ret (some y)
 | c::r=>match r with
  | []=>(E c).bind fun cv=>(zar cv).bind fun b=>M.cond b ((E elt).bind fun y=>M.ret (some y)) (M.ret Option.none)
  | _::_=>M.fail
theorem znI{α β γ:Type}(o:Option β)(f:β→Option γ)(g:γ→M α):(M.lift (o.bind f)).bind g=(M.lift o).bind fun a=>(M.lift (f a)).bind g:=by cases o <;> rfl
theorem zeE{α:Type}(sc:Scope)(k:Loc→M α):∀(ts:List Expr)(vs:List PV)(ρ:Loc),zfZ sc ρ ts vs k=(M.lift (zbf sc ρ ts vs)).bind k
 | [],vs,ρ=>by cases vs <;> rfl
 | t::ts,vs,ρ=>by
  cases vs with
  | nil=>rfl
  | cons v vs=>exact Eq.trans (congrArg (M.bind (M.lift (zdq sc ρ v t))) (funext fun ρ'=>zeE sc k ts vs ρ')) (znI _ _ _).symm
theorem zly{α:Type}(sc:Scope)(ρ:Loc)(t:Expr)(v:PV)(k:Loc→M α):zmZ sc ρ t v k=(M.lift (zfY sc ρ t v)).bind k:=by
 cases t with
 | Tuple ts a p=>cases v with
  | tup vs=>exact zeE sc k ts vs ρ
  | _=>rfl
 | _=>rfl
theorem zgw{α:Type}{x:M α}{σ:zaa}(h:M.noErr x σ≠.stuck):∃ a σ',x σ=.ok a σ'∧M.noErr x σ=.ok a σ':=by
 unfold M.noErr at h ⊢
 cases q:x σ with
 | ok a σ'=>exact ⟨a,σ',rfl,rfl⟩
 | err=>rw [q] at h;exact (h rfl).elim
 | stuck=>rw [q] at h;exact (h rfl).elim
theorem zfk(l:List (Nat×List PV))(σ:zaa):chkW l σ=.ok () σ∨chkW l σ=.stuck:=by
 induction l with
 | nil=>exact .inl rfl
 | cons p r ih=>
  obtain ⟨i,xs⟩:=p
  unfold chkW
  by_cases q:σ[i]?=some (.list xs)
  ·rw [if_pos q];exact ih
  ·rw [if_neg q];exact .inr rfl
section
variable {prog:Program} {w:World} {hB:Heap} {A:Around} {s:Shared} {ι:Ad} {σ:zaa} {env cenv:Env} {ρ:Loc} {fl:List Env} {sc csc:Scope} {K:Frag}
theorem zmE{E:Expr→M PV}{elt:Expr}{ρ':Loc}{o:Option PV}{σ₂:zaa}(IH:EvIH prog w hB A cenv ρ' fl E)(I:Inv prog w hB cenv ρ' fl s.heap ι σ) (hr:((E elt).bind fun y=>M.ret (some y)) σ=.ok o σ₂) (Qs:Value→Shared→Prop) (Er:Value→Shared→Prop)
  (hs:∀ y x h' tk ι',o=some y→Step prog w hB s.heap ι σ h' ι' σ₂→Rep h' ι' σ₂ y x→Qs x { s with heap:=h',toks:=tk }):wpAny (model prog w) A (eval elt cenv) Qs Er s:=by
 obtain ⟨y,σ',e,e'⟩:=zb4 hr
 cases e'
 refine IH elt s ι σ I _ _ (fun q=>?_) (fun y' σ'' q x h' tk ι' X r=>?_) (fun C σ' q _ _ _ _ _ _=>?_)
 ·rw [e] at q;cases q
 ·rw [e] at q;cases q;exact hs y x h' tk ι' rfl X r
 ·rw [e] at q;cases q
theorem zg6{cx:Cx}{n:Nat}{elt:Expr}{ifs:List Expr}{ρ':Loc}(hu:A.units+600<cLine)(IH:∀ k,k≤n→EvIH prog w hB A cenv ρ' fl (ev cx k csc ρ'))(I:Inv prog w hB cenv ρ' fl s.heap ι σ)
  {o:Option PV} {σ₂:zaa} (hr:zpV (ev cx n csc ρ') elt ifs σ=.ok o σ₂) (Qs:Value→Shared→Prop) (Qn:Shared→Prop) (E:Value→Shared→Prop)
  (hs:∀ y x h' tk ι',o=some y→Step prog w hB s.heap ι σ h' ι' σ₂→Rep h' ι' σ₂ y x→Qs x { s with heap:=h',toks:=tk })
  (hn:∀ h' tk ι',o=none→Step prog w hB s.heap ι σ h' ι' σ₂→Qn { s with heap:=h',toks:=tk }) :
  wpAny (model prog w) A (forIn ifs true fun c r=>if r=true then do let ok ← isTrue c cenv (eval c cenv);pure (ForInStep.yield ok) else pure (ForInStep.yield r)) (fun ok s₃=>
   if ok=true then wpAny (model prog w) A (eval elt cenv) Qs E s₃ else Qn s₃) E s:=by
 cases ifs with
 | nil=>exact wpAny_tests_nil (by rw [if_pos rfl];exact zmE (IH n (Nat.le_refl _)) I hr Qs E hs)
 | cons c r=>
  cases r with
  | cons _ _=>cases hr
  | nil=>
   refine wpAny_tests_one ?_
   have hr:(((ev cx n csc ρ' c).bind zar).bind fun b=>M.cond b ((ev cx n csc ρ' elt).bind fun y=>M.ret (some y)) (M.ret Option.none)) σ=.ok o σ₂:=(zaf _ _ _).trans hr
   obtain ⟨b,σ',e,hr'⟩:=zb4 hr
   refine zdb (A:=A) (prog:=prog) (w:=w) (hB:=hB) (env:=cenv) (fl:=fl) (sc:=csc) hu n IH c s ι σ I _ _ (fun q=>?_) (fun b' τ q x h' tk ι' X r=>?_) (fun C τ q _ _ _ _ _ _=>?_)
   ·rw [e] at q;cases q
   ·rw [e] at q;cases q;cases r
    cases b with
    | true=>rw [if_pos rfl];exact zmE (s:={ s with heap:=h',toks:=tk }) (IH n (Nat.le_refl _)) (I.step X) hr' Qs E fun y x' h'' tk' ι'' ho X' r'=>hs y x' h'' tk' ι'' ho (X.trans I.store.len X') r'
    | false=>rw [if_neg Bool.false_ne_true];cases hr';exact hn h' tk ι' rfl X
   ·rw [e] at q;cases q
structure CompFix (prog:Program) (w:World) (hB:Heap) (A:Around) (t:Expr) (cenv:Env) (I D C:Addr) (fp own hd:List Addr) (src:Src) (St:Nat→Heap→Prop) (h₁:Heap) (ι₁:Ad) (σ₁:zaa):Prop where
 loc:cenv.locals=C
 len:ι₁.vis.length=σ₁.length
 Z:Itr prog w hB A t I fp own hd src St h₁ ι₁ σ₁
 st₀:St 0 h₁
 own:∀ b∈own,hB.get? b=none
 dyn:∀ b∈dyn cenv,b∉fp
 newD:h₁.get? D=none
 newC:h₁.get? C=none
 ne:D≠C
 notDyn:D∉Mine.dyn cenv
 baseD:hB.get? D=none
structure CompAt (prog:Program) (w:World) (hB:Heap) (cenv:Env) (ρi:Loc) (fl:List Env) (own:List Addr) (St:Nat→Heap→Prop) (h₁:Heap) (ι₁:Ad) (σ₁:zaa) (D:Addr) (H:Heap) (ι':Ad) (σ':zaa) (ys:List PV) (vs:Array Value) (j:Nat):Prop where
 inv:Inv prog w hB cenv ρi fl H ι' σ'
 evo:Evo own h₁ ι₁ σ₁ H ι' σ'
 hid:D∈ι'.hid
 lst:H.PlainList D vs
 rep:RepL H ι' σ' ys vs.toList
 st:St j H
section
variable {t:Expr} {I D C:Addr} {fp own hd:List Addr} {src:Src} {St:Nat→Heap→Prop} {h₁ H h':Heap} {ι₁ ι' ι'':Ad} {σ₁ σ' σ'':zaa} {ρi:Loc} {ys:List PV} {vs:Array Value} {j:Nat}
theorem CompFix.fpT(F:CompFix prog w hB A t cenv I D C fp own hd src St h₁ ι₁ σ₁):∀ b∈fp,∃ o,h₁.get? b=some o:=fun b hb=>by obtain ⟨o,ho,_⟩:=F.Z.there 0 h₁ F.st₀ b hb;exact ⟨o,ho⟩
theorem CompFix.D_fp(F:CompFix prog w hB A t cenv I D C fp own hd src St h₁ ι₁ σ₁):D∉fp:=fun q=>by obtain ⟨o,ho⟩:=F.fpT D q;rw [F.newD] at ho;cases ho
theorem CompFix.C_fp(F:CompFix prog w hB A t cenv I D C fp own hd src St h₁ ι₁ σ₁):C∉fp:=fun q=>by obtain ⟨o,ho⟩:=F.fpT C q;rw [F.newC] at ho;cases ho
theorem CompAt.notL(F:CompFix prog w hB A t cenv I D C fp own hd src St h₁ ι₁ σ₁)(V:CompAt prog w hB cenv ρi fl own St h₁ ι₁ σ₁ D H ι' σ' ys vs j):∀ b∈fp,¬ zco ι' σ' b:=fun b hb=>by obtain ⟨o,ho⟩:=F.fpT b hb;exact V.evo.weak.notLiveV F.len ho (F.Z.notLive b hb)
theorem CompAt.noDict(F:CompFix prog w hB A t cenv I D C fp own hd src St h₁ ι₁ σ₁)(V:CompAt prog w hB cenv ρi fl own St h₁ ι₁ σ₁ D H ι' σ' ys vs j):∀ b∈fp,∀ o,H.get? b=some o→∀ es n,o.data≠.dict es n:=fun b hb o ho=>by
 obtain ⟨o',ho',hd⟩:=F.Z.there _ _ V.st b hb;rw [ho] at ho';cases ho';exact hd
theorem CompAt.vnotD(V:CompAt prog w hB cenv ρi fl own St h₁ ι₁ σ₁ D H ι' σ' ys vs j):¬ zco ι' σ' D:=by
 rintro ⟨i,c,hi,_⟩;exact V.inv.store.apart D (List.mem_of_getElem? hi) V.hid
theorem CompAt.item(F:CompFix prog w hB A t cenv I D C fp own hd src St h₁ ι₁ σ₁)(V:CompAt prog w hB cenv ρi fl own St h₁ ι₁ σ₁ D H ι' σ' ys vs j)(hk:∀ b o,b∉own→H.get? b=some o→h'.get? b=some o)(st:St (j+1) h'):CompAt prog w hB cenv ρi fl own St h₁ ι₁ σ₁ D h' ι' σ' ys vs (j+1):=by
 have ht:∀ b∈own,∃ o,h'.get? b=some o:=fun b hb=>by obtain ⟨o,ho,_⟩:=F.Z.there _ _ st b (F.Z.sub b hb);exact ⟨o,ho⟩
 have Y:Evo own H ι' σ' h' ι' σ':=Evo.but hk ht
 have hO:=F.Z.okAt V.evo V.st
 have hfr:=F.Z.freshAt F.st₀ V.evo (F.Z.hdT _ _ st)
 refine ⟨V.inv.but hk ht F.own hO (fun b hb=>V.notL F b (F.Z.sub b hb)) (fun b hb q=>(hfr b hb).2 q) (fun b hb=>V.noDict F b (F.Z.sub b hb)) (fun b hb q=>F.dyn b hb (F.Z.sub b q)),V.evo.trans F.len Y fun b hb _ _=>hb,V.hid,?_,V.rep.evo' V.inv.store.len Y hO,st⟩
 obtain ⟨n,hp⟩:=V.lst
 exact ⟨n,hk D _ (fun q=>F.D_fp (F.Z.sub D q)) hp⟩
theorem CompAt.bound{ρj:Loc}(F:CompFix prog w hB A t cenv I D C fp own hd src St h₁ ι₁ σ₁)(V:CompAt prog w hB cenv ρi fl own St h₁ ι₁ σ₁ D H ι' σ' ys vs j)(hk:∀ b o,b∉[C]→H.get? b=some o→h'.get? b=some o)(I₃:Inv prog w hB cenv ρj fl h' ι' σ'):CompAt prog w hB cenv ρj fl own St h₁ ι₁ σ₁ D h' ι' σ' ys vs j:=by
 have hCd:C∈dyn cenv:=F.loc▸.head _
 have Y:Evo [C] H ι' σ' h' ι' σ':=Evo.but hk fun b hb=>by rw [List.mem_singleton.mp hb];exact I₃.fr.dynT C hCd
 have hO:NoSeq [C] H:=fun b hb=>V.inv.fr.noSeq b (by rw [List.mem_singleton.mp hb];exact hCd)
 refine ⟨I₃,V.evo.trans F.len Y (fun b hb o e=>by rw [List.mem_singleton.mp hb,F.newC] at e;cases e),V.hid,?_,V.rep.evo V.inv.store.len Y hO,F.Z.frame _ _ _ V.st fun b hb o e=>hk b o (fun q=>F.C_fp (by rw [← List.mem_singleton.mp q];exact hb)) e⟩
 obtain ⟨n,hp⟩:=V.lst
 exact ⟨n,hk D _ (fun q=>F.ne (List.mem_singleton.mp q)) hp⟩
theorem CompAt.step{ρj:Loc}(F:CompFix prog w hB A t cenv I D C fp own hd src St h₁ ι₁ σ₁)(V:CompAt prog w hB cenv ρi fl own St h₁ ι₁ σ₁ D H ι' σ' ys vs j)(Y:Step prog w hB H ι' σ' h' ι'' σ'')(hρ:∀ z u,ρj z=some u→ρi z=some u):CompAt prog w hB cenv ρj fl own St h₁ ι₁ σ₁ D h' ι'' σ'' ys vs j:=by
 refine ⟨(V.inv.step Y).sub hρ,V.evo.trans F.len Y.evo (fun b hb=>nomatch hb),Y.evo.hid D V.hid,?_,V.rep.step V.inv.store.len Y,F.Z.frame _ _ _ V.st fun b hb o e=>(Y.evo.keep b o e (V.notL F b hb) List.not_mem_nil).2 (V.noDict F b hb o e)⟩
 obtain ⟨n,hp⟩:=V.lst
 exact ⟨n,(Y.evo.keep D _ hp V.vnotD List.not_mem_nil).2 fun _ _ q=>nomatch q⟩
theorem CompAt.put{z:PV}{zx:Value}(F:CompFix prog w hB A t cenv I D C fp own hd src St h₁ ι₁ σ₁)(V:CompAt prog w hB cenv ρi fl own St h₁ ι₁ σ₁ D H ι' σ' ys vs j)(r:Rep H ι' σ' z zx)(hp:h'.PlainList D (vs.push zx))(hs:Heap.SameBut D H h'):CompAt prog w hB cenv ρi fl own St h₁ ι₁ σ₁ D h' ι' σ' (ys++[z]) (vs.push zx) j:=by
 have hk:∀ b o,b∉[D]→H.get? b=some o→h'.get? b=some o:=fun b o hb e=>(hs.2 b (fun q=>hb (by rw [q];exact .head _))).trans e
 have one:∀{P:Addr→Prop},P D→∀ b∈[D],P b:=fun p b hb=>by rw [List.mem_singleton.mp hb];exact p
 have ht:∃ o,h'.get? D=some o∧∀ vs,o.data≠.fields vs:=by obtain ⟨n,hp⟩:=hp;exact ⟨_,hp,fun _ q=>nomatch q⟩
 have ht':∀ b∈[D],∃ o,h'.get? b=some o:=one ⟨_,ht.choose_spec.1⟩
 have Y:Evo [D] H ι' σ' h' ι' σ':=Evo.but hk ht'
 have hO:Off ι' [D] H:=Off.hid V.hid
 refine ⟨V.inv.but hk ht' (one F.baseD) hO (one V.vnotD) (one fun _=>ht) (one fun o ho=>?_) (fun b hb q=>F.notDyn (by rw [← List.mem_singleton.mp q];exact hb)),V.evo.trans F.len Y (fun b hb o e=>by rw [List.mem_singleton.mp hb,F.newD] at e;cases e),V.hid,hp,?_,F.Z.frame _ _ _ V.st fun b hb o e=>hk b o (fun q=>F.D_fp (by rw [← List.mem_singleton.mp q];exact hb)) e⟩
 ·obtain ⟨n,hp⟩:=V.lst;rw [hp] at ho;cases ho;exact fun _ _ q=>nomatch q
 ·rw [Array.toList_push];exact (V.rep.append (.cons r .nil)).evo' V.inv.store.len Y hO
end
theorem zjl{chk:M Unit}{f:PV→M (Option PV)}{v:PV}{r:List PV}{ys:List PV}{o:Option PV}{σ₂:zaa}(hchk:chk σ=.ok () σ)(hf:f v σ=.ok o σ₂):((za6 chk f (v::r)).bind fun r=>M.ret (ys++r)) σ=((za6 chk f r).bind fun r=>M.ret ((ys++o.toList)++r)) σ₂:=by
 refine Eq.trans (zaf _ _ _) ((zab hchk).trans ((zaf _ _ _).trans ((zab hf).trans ((zaf _ _ _).trans ?_))))
 refine congrFun (congrArg (M.bind _) (funext fun a=>?_)) σ₂
 cases o with
 | none=>rw [Option.toList_none,List.append_nil];rfl
 | some y=>rw [Option.toList_some,List.append_assoc];rfl
theorem CompAt.done{t:Expr}{I D C:Addr}{fp own hd:List Addr}{src:Src}{St:Nat→Heap→Prop}{h₀ h₁ H h':Heap}{ι₀ ι₁ ι':Ad}{σ₀ σ₁ σ':zaa}{ρi:Loc}{ys:List PV}{vs:Array Value}{j:Nat}(F:CompFix prog w hB A t cenv I D C fp own hd src St h₁ ι₁ σ₁)(V:CompAt prog w hB cenv ρi fl own St h₁ ι₁ σ₁ D H ι' σ' ys vs j)
  (hl₀:ι₀.vis.length=σ₀.length) (XX:Evo [] h₀ ι₀ σ₀ h₁ ι₁ σ₁) (hown₀:∀ b∈own,h₀.get? b=none) (hk:∀ b o,b∉own→H.get? b=some o→h'.get? b=some o) (hh:∀ b∈hd,∃ o,h'.get? b=some o∧∀ vs,o.data≠.fields vs):CompEnd prog w hB h₀ ι₀ σ₀ D C h' ι' σ' ys:=by
 have hO:=F.Z.okAt V.evo V.st
 have I₂:=V.inv.lost hk F.own hO (F.Z.freshAt F.st₀ V.evo hh) (fun b hb=>V.noDict F b (F.Z.sub b hb)) (fun b hb q=>F.dyn b hb (F.Z.sub b q))
 obtain ⟨n',hp'⟩:=V.lst
 obtain ⟨m,hm,_⟩:=I₂.fr.ns
 exact ⟨(XX.trans hl₀ V.evo fun b hb o e=>by rw [hown₀ b hb] at e;cases e).lost hk hown₀,I₂.store,I₂.stays,V.hid,za5 XX.alive F.newD,za5 XX.alive F.newC,F.ne,⟨m,F.loc▸hm⟩,F.loc▸I₂.fr.off _ (.head _),F.loc▸(I₂.fr.own _ (.head _)).2,vs,⟨n',hk D _ (fun q=>F.D_fp (F.Z.sub D q)) hp'⟩,V.rep.evoW V.inv.store.len (EvoW.but hk) hO⟩
inductive CompI (P:Heap→Ad→zaa→List PV→Array Value→Nat→Prop) (chk:M Unit) (f:PV→M (Option PV)) (xs:List PV) (r:Rs (List PV)) (s:Shared):Nat→Shared→Prop
 | mk (H:Heap) (tk:Nat) (ι':Ad) (σ':zaa) (ys:List PV) (vs:Array Value) (j:Nat):P H ι' σ' ys vs j→j≤xs.length→ys.length≤j→r=((za6 chk f (xs.drop j)).bind fun r=>M.ret (ys++r)) σ'→CompI P chk f xs r s (xs.length+1-j) { s with heap:=H,toks:=tk }
theorem zmt{chk:M Unit}{f:PV→M (Option PV)}{xs:List PV}{k:List PV→M (List PV)}(hc:chk σ=.ok () σ∨chk σ=.stuck) (hns:((za6 chk f xs).bind k) σ≠.stuck):chk σ=.ok () σ:=by
 rcases hc with q | q
 ·exact q
 ·refine (hns (zae ?_)).elim
  cases xs <;> exact zae q
theorem zh4{α:Type}{o:Option α}{a:α}{τ:zaa}(h:M.lift o σ=.ok a τ):o=some a∧τ=σ:=by
 cases o with
 | none=>cases h
 | some b=>cases h;exact ⟨rfl,rfl⟩
theorem zlb{α:Type}{xs:List α}{j:Nat}{v:α}(hx:xs[j]?=some v):xs.drop j=v::xs.drop (j+1):=by
 have hj:=(List.getElem?_eq_some_iff.mp hx).1
 rw [List.drop_eq_getElem_cons hj,(List.getElem?_eq_some_iff.mp hx).2]
theorem zfb{t:Expr}{v:PV}{ρ':Loc}(hb:zfY csc (inner csc ρ) t v=some ρ'):∀ z u,inner csc ρ z=some u→ρ' z=some u:=fun z u e=>by
 have hz:csc.names.lookup z=some .free:=by
  unfold inner at e
  cases q:csc.names.lookup z with
  | none=>rw [q] at e;cases e
  | some k=>rw [q] at e;cases k with
   | free=>rfl
   | _=>cases e
 exact (zjo hb ⟨fun q=>(by rw [hz] at q;cases q),fun q=>(by rw [hz] at q;cases q)⟩).trans e
theorem zgQ{elt target iter:Expr}{ifs:List Expr}{scope:Scope}{pos:Pos}{it acc:Value}{R:Result→Shared→Prop}(I:Nat→Shared→Prop)
  (turn:∀ n s,I n s→wpAny (model prog w) A (pyNext it) (fun r s₁=>match r with
   | none=>R (.ok .next) s₁
   | some v=>wpAny (model prog w) A (letOwnedTupleGo target it v) (fun _ s₀=>wpAny (model prog w) A (assign target env v) (fun _ s₂=>
     wpAny (model prog w) A (forIn ifs true fun c r=>if r=true then do let ok ← isTrue c env (eval c env);pure (ForInStep.yield ok) else pure (ForInStep.yield r)) (fun ok s₃=>
      if ok=true then wpAny (model prog w) A (eval elt env) (fun x s₄=>
       wpAny (model prog w) A (call (.builtin "list.append") [acc,x]) (fun _ s₅=>∃ m,m<n∧I m s₅) (notedBy (model prog w) A env fun e s'=>R (.error e) s') s₄) (notedBy (model prog w) A env fun e s'=>R (.error e) s') s₃
      else ∃ m,m<n∧I m s₃) (notedBy (model prog w) A env fun e s'=>R (.error e) s') s₂) (notedBy (model prog w) A env fun e s'=>R (.error e) s') s₀) (notedBy (model prog w) A env fun e s'=>R (.error e) s') s₁) (notedBy (model prog w) A env fun e s'=>R (.error e) s') s)
  (n:Nat) (h:I n s):codeAny (model prog w) A (.compLoop (.ListComp elt [⟨target,iter,ifs,0⟩] scope pos) 0 it acc env) R s:=by
 have id':∀{X:Value→Shared→Prop},∀ e s,X e s→X e s:=fun _ _ h=>h
 refine codeAny_loop rfl I (fun n s hI=>?_) n h
 show wpAny _ A ((compTurn (.ListComp elt [⟨target,iter,ifs,0⟩] scope pos) 0 it acc env).onRaise (fun x=>do noteFrame x env;theTreesLotGoes x)) _ _ s
 refine wpAny_noted ?_
 rw [compTurn_list]
 refine wpAny_bind (wpAny_standAt (wpAny_bind (wpAny_mono (turn n s hI) (fun r s₁ h₁=>?_) id')))
 cases r with
 | none=>exact wpAny_pure h₁
 | some v=>
  refine wpAny_bind (wpAny_mono h₁ (fun _ s₀ h₀=>wpAny_bind (wpAny_mono h₀ (fun _ s₂ h₂=>wpAny_bind (wpAny_mono h₂ (fun ok s₃ h₃=>?_) id')) id')) id')
  cases ok with
  | false=>exact wpAny_pure ⟨rfl,h₃⟩
  | true=>exact wpAny_bind (wpAny_bind (wpAny_mono h₃ (fun x s₄ h₄=>wpAny_bind (wpAny_mono h₄ (fun _ s₅ h₅=>wpAny_pure (wpAny_pure ⟨rfl,h₅⟩)) id')) id'))
theorem zg5{cx:Cx}{n:Nat}{pos:Pos}{t elt it:Expr}{ifs:List Expr}{I D C:Addr}{fp own hd:List Addr}{src:Src}{St:Nat→Heap→Prop}{h₀ h₁:Heap}{ι₀ ι₁:Ad}{σ₀ σ₁:zaa}{R:Result→Shared→Prop}
  (hh:A.handled=none) (hu:A.units+600<cLine) (O:CompOk sc csc it) (H:EnvOk cenv csc) (F:CompFix prog w hB A t cenv I D C fp own hd src St h₁ ι₁ σ₁)
  (IH:∀ k,k≤n→∀ ρ',EvIH prog w hB A cenv ρ' fl (ev { cx with md:=⟨false,cx.md.lp⟩ } k csc ρ'))
  (hl₀:ι₀.vis.length=σ₀.length) (XX:Evo [] h₀ ι₀ σ₀ h₁ ι₁ σ₁) (hown₀:∀ b∈own,h₀.get? b=none) (hsz:src.xs.length≤2 ^ 20)
  (hns:za6 (chkW src.watch) (zdF cx n csc ρ t elt ifs) src.xs σ₁≠.stuck)
  (hR:∀ H tk ι' σ' ys,za6 (chkW src.watch) (zdF cx n csc ρ t elt ifs) src.xs σ₁=.ok ys σ'→CompEnd prog w hB h₀ ι₀ σ₀ D C H ι' σ' ys→R (.ok .next) { s with heap:=H,toks:=tk })
  (V₀:CompAt prog w hB cenv (inner csc ρ) fl own St h₁ ι₁ σ₁ D s.heap (ι₁.hide D) σ₁ [] #[] 0) :
  codeAny (model prog w) A (.compLoop (.ListComp elt [⟨t,it,ifs,0⟩] csc pos) 0 (.ref I) (.ref D) cenv) R s:=by
 refine zgQ (CompI (CompAt prog w hB cenv (inner csc ρ) fl own St h₁ ι₁ σ₁ D) (chkW src.watch) (zdF cx n csc ρ t elt ifs) src.xs (za6 (chkW src.watch) (zdF cx n csc ρ t elt ifs) src.xs σ₁) s) ?_ (src.xs.length+1)
  (.mk s.heap s.toks (ι₁.hide D) σ₁ [] #[] 0 V₀ (Nat.zero_le _) (Nat.zero_le _) (M.bind_ret _ _))
 intro k s' L
 cases L with
 | mk H' tk ι' σ' ys vs j V hj hlen eq=>
  rw [eq] at hns hR
  have hchk:=zmt (zfk src.watch σ') hns
  have X':Evo (own++[]) h₁ ι₁ σ₁ H' ι' σ':=(List.append_nil own).symm▸V.evo
  cases hx:src.xs[j]? with
  | none=>
   have hje:src.xs.length≤j:=List.getElem?_eq_none_iff.mp hx
   rw [List.drop_eq_nil_of_le hje] at hR
   have hst:St src.xs.length H':=Nat.le_antisymm hj hje▸V.st
   exact F.Z.done [] _ ι' σ' (NoSeq.nil _) X' V.inv.store hst hchk _ _ fun h₂ tk₂ hk hd₂=>hR h₂ tk₂ ι' σ' ys (((zaf _ _ _).trans (zab hchk)).trans (congrArg (Rs.ok · σ') (List.append_nil ys))) (V.done F hl₀ XX hown₀ hk hd₂)
  | some v=>
   rw [zlb hx] at eq hns
   obtain ⟨o,σ₂,hg,hfo⟩:=zgw fun q=>hns (zae ((zab hchk).trans (zae q)))
   rw [zjl hchk hfo] at eq
   obtain ⟨ρ',τ,hb,hg₂⟩:=zb4 ((congrFun (zly csc (inner csc ρ) t v _) _).symm.trans hg)
   obtain ⟨hb₂,rfl⟩:=zh4 hb
   have hcl:∀ y,csc.names.lookup y≠some .cell:=fun y q=>by rcases O.kinds _ _ (mem_of_lookup q) with q | q | q <;> cases q
   have hjl:j<src.xs.length:=(List.getElem?_eq_some_iff.mp hx).1
   refine F.Z.item [] j _ ι' τ v (NoSeq.nil _) X' V.inv.store V.st hchk hx _ _ _ (fun _ _ h=>h) fun y h₂ tk₂ r₂ st₂ hk₂=>?_
   have V₂:=V.item F hk₂ st₂
   refine zhO (s:={ s with heap:=h₂,toks:=tk₂ }) hh (fun b hb=>by rw [List.mem_singleton.mp hb];exact .head _) (zjJ H hcl) hb₂ V₂.inv r₂ _ _ fun h₃ tk₃ hk₃ I₃=>?_
   have V₃:=V₂.bound F (F.loc▸hk₃) I₃
   refine zg6 (s:={ s with heap:=h₃,toks:=tk₃ }) hu (fun k hk=>IH k hk _) I₃ hg₂ _ _ _ (fun z zx h₄ tk₄ ι₄ ho Y₄ r₄=>?_) (fun h₄ tk₄ ι₄ ho Y₄=>?_)
   ·subst ho
    have V₄:=V₃.step F Y₄ (zfb hb₂)
    refine wpAny_list_append_plain (s:={ s with heap:=h₄,toks:=tk₄ }) V₄.lst (fun h₅ hp₅ hs₅=>⟨_,Nat.sub_lt_sub_left (Nat.lt_succ_of_lt hjl) (Nat.lt_succ_self j),.mk h₅ _ ι₄ σ₂ _ _ (j+1) (V₄.put F r₄ hp₅ hs₅) hjl ?_ eq⟩) ?_
    ·rw [List.length_append];exact Nat.succ_le_succ hlen
    ·rw [show vs.size=ys.length from V₄.rep.length.symm]
     exact Nat.le_trans hlen (Nat.le_trans (Nat.le_of_lt hjl) (Nat.le_trans hsz (by decide)))
   ·subst ho
    exact ⟨_,Nat.sub_lt_sub_left (Nat.lt_succ_of_lt hjl) (Nat.lt_succ_self j),.mk h₄ _ ι₄ σ₂ ys vs (j+1) (V₃.step F Y₄ (zfb hb₂)) hjl (Nat.le_succ_of_le hlen) (by rw [eq,Option.toList_none,List.append_nil])⟩
end
section
variable {prog:Program} {w:World} {hB:Heap} {A:Around} {s:Shared} {ι:Ad} {σ:zaa} {env cenv:Env} {ρ:Loc} {fl:List Env} {sc csc:Scope} {K:Frag}
noncomputable def zey(cx:Cx)(n:Nat)(sc csc:Scope)(ρ:Loc)(t elt it:Expr)(ifs:List Expr):M (List PV):=
 (zcu cx sc ρ (ev cx n sc ρ) t it).bind fun src=>M.cond (decide (src.xs.length≤2 ^ 20)) (za6 (chkW src.watch) (zdF cx n csc ρ t elt ifs) src.xs) M.fail
theorem zju{cx:Cx}{n:Nat}{pos pos':Pos}{t elt it:Expr}{ifs:List Expr}{use:Option (Value→Sem Unit)}(hG:GlobOk hB K cx.G)(hh:A.handled=none)(hu:A.units+600<cLine)(O:CompOk sc csc it)(H:EnvOk env sc)
  (IHo:EvIH prog w hB A env ρ fl (ev cx n sc ρ)) (IHi:∀ cenv,EnvOk cenv csc→∀ k,k≤n→∀ ρ',EvIH prog w hB A cenv ρ' fl (ev { cx with md:=⟨false,cx.md.lp⟩ } k csc ρ')) (I:Inv prog w hB env ρ fl s.heap ι σ)
  (Q:Value→Shared→Prop) (Er:Value→Shared→Prop) (hns:zey cx n sc csc ρ t elt it ifs σ≠.stuck)
  (hok:∀ ys σ',zey cx n sc csc ρ t elt it ifs σ=.ok ys σ'→∀ D C H tk ι',CompEnd prog w hB s.heap ι σ D C H ι' σ' ys→compPost (model prog w) A Er use Q (.ref D) C (.ok .next) { s with heap:=H,toks:=tk })
  (herr:∀ C σ',zey cx n sc csc ρ t elt it ifs σ=.err C σ'→∀ e h' tk ι',Step prog w hB s.heap ι σ h' ι' σ'→Fly s.heap h' e C→Er (.ref e) { s with heap:=h',toks:=tk }) :
  wpAny (model prog w) A (comprehension (.ListComp elt [⟨t,it,ifs,0⟩] csc pos) csc env pos' (newList []) false (eval it env) use) Q Er s:=by
 have hfree:∀ x∈csc.names,x.2=.free→∃ c,env.cells.lookup x.1=some c:=fun x hx hk=>by
  obtain ⟨x,k⟩:=x
  dsimp only at hk;subst hk
  obtain ⟨c,_,hc,_⟩:=I.fr.cells x (H.cel _ (O.free x hx).1)
  exact ⟨c,hc⟩
 have hcell:∀ y∈csc.names,y.2≠.cell:=fun y hy q=>by
  obtain ⟨y,k⟩:=y
  dsimp only at q;subst q
  rcases O.kinds _ _ hy with q | q | q <;> cases q
 refine wpAny_comprehension_free (cl:=clOf env csc.names []) rfl (fun x=>O.it env x) (zeA hfree) O.kind (fun y hy hk=>by obtain ⟨y,k⟩:=y;dsimp only at hk;subst hk;exact (O.loc y hy).1) ?_
 refine zmD hG hh H IHo zaR I _ _ (fun q=>hns (zae q)) (fun src σ₁ e₁ itv h₁ tk₁ ι₁ X₁ Md=>?_) (fun C σ' e e' h' tk ι' X F=>herr C σ' (zap e) e' h' tk ι' X F)
 obtain ⟨Ia,fp,own,hd,St,rfl,Z,st,hown₀,hdyn⟩:=Md
 have I₁:=I.step X₁
 have eqc:zey cx n sc csc ρ t elt it ifs σ=(M.cond (decide (src.xs.length≤2 ^ 20)) (za6 (chkW src.watch) (zdF cx n csc ρ t elt ifs) src.xs) M.fail) σ₁:=zab e₁
 have hsz:src.xs.length≤2 ^ 20:=by
  by_cases q:src.xs.length≤2 ^ 20
  ·exact q
  ·exact (hns (by rw [eqc,decide_eq_false q];rfl)).elim
 rw [decide_eq_true hsz] at eqc
 refine wpAny_newObj_type (wpAny_newFunctionEnv hcell (by intro y hy;simp at hy) (fun h₃ hns₃ hsb₃=>?_) O.kind)
 dsimp only at hns₃ hsb₃ ⊢
 generalize hH2:h₁.push { cls:=.type "list",dict:=none,data:=.seq ([]:List Value).toArray }=H2 at hns₃ hsb₃ ⊢
 have hC:H2.objs.size=h₁.objs.size+1:=by rw [← hH2,Heap.size_push]
 have hDC:h₁.objs.size≠H2.objs.size:=by rw [hC];exact Nat.ne_of_lt (Nat.lt_succ_self _)
 have below:∀ b,b<h₁.objs.size→b≠H2.objs.size:=fun b hb=>by rw [hC];exact Nat.ne_of_lt (Nat.lt_succ_of_lt hb)
 have old:∀ b o,h₁.get? b=some o→h₃.get? b=some o:=fun b o e=>hsb₃.extBut b o (below b (Heap.lt_size e)) (Heap.get?_push_of_some _ (hH2▸Heap.get?_push_of_some _ e))
 have hacc:h₃.PlainList h₁.objs.size #[]:=⟨_,hsb₃.extBut _ _ hDC (Heap.get?_push_of_some _ (hH2▸Heap.get?_push_size _ rfl))⟩
 have hC₁:h₁.get? H2.objs.size=none:=by
  cases q:h₁.get? H2.objs.size with
  | none=>rfl
  | some o=>exact (below _ (Heap.lt_size q) rfl).elim
 have hB₁:=I₁.stays
 have S₃:=I₁.store.hide old (zaB h₁) (by obtain ⟨n,hp⟩:=hacc;exact ⟨_,hp,fun _ q=>nomatch q⟩) (zba hB₁ (zaB h₁))
 have XH:=zid (ι:=ι₁) (σ:=σ₁) old (zaB h₁)
 have F₃:=I₁.fr.step I₁.store.len XH
 have offC:H2.objs.size∉(ι₁.hide h₁.objs.size).vis∧H2.objs.size∉(ι₁.hide h₁.objs.size).hid:=by
  refine ⟨fun q=>?_,fun q=>?_⟩
  ·obtain ⟨o,ho⟩:=I₁.store.there _ q;rw [hC₁] at ho;cases ho
  ·rcases List.mem_cons.mp q with q | q
   ·exact hDC q.symm
   ·obtain ⟨o,ho,_⟩:=I₁.store.hthere _ q;rw [hC₁] at ho;cases ho
 have I₃:Inv prog w hB (compEnvC csc (clOf env csc.names []) H2.objs.size env) (inner csc ρ) fl h₃ (ι₁.hide h₁.objs.size) σ₁:=
  ⟨fun b o e=>old b o (hB₁ b o e),S₃,O.frame H F₃ hns₃ offC (zba hB₁ hC₁),I₁.stk.step I₁.store.len XH⟩
 have st₃:St 0 h₃:=Z.frame _ _ _ st fun b _ o e=>old b o e
 have hdc:=O.dyn (C:=H2.objs.size) H F₃
 have loop:∀ s₃:Shared,s₃={ s with heap:=h₃,toks:=tk₁+([]:List (Str×Value)).length }→
   codeAny (model prog w) A (.compLoop (.ListComp elt [⟨t,it,ifs,0⟩] csc pos) 0 (.ref Ia) (.ref h₁.objs.size) (compEnvC csc (clOf env csc.names []) H2.objs.size env))
    (compPost (model prog w) A Er use Q (.ref h₁.objs.size) H2.objs.size) s₃:=by
  rintro s₃ rfl
  refine zg5 (s:={ s with heap:=h₃,toks:=tk₁+([]:List (Str×Value)).length }) (ρ:=ρ) (C:=H2.objs.size) (fp:=fp) hh hu O (O.envOk H _ _) ⟨rfl,I₁.store.len,Z,st,fun b hb=>zba I.stays (hown₀ b hb),fun b hb q=>?_,zaB h₁,hC₁,hDC,fun q=>?_,zba hB₁ (zaB h₁)⟩ (IHi _ (O.envOk H _ _)) I.store.len X₁.evo hown₀ hsz
   (fun q=>hns (eqc.trans q)) (fun H tk ι' σ' ys e X=>hok ys σ' (eqc.trans e) _ _ H tk ι' X) ⟨I₃,XH.wide (fun _ hb=>nomatch hb),.head _,hacc,.nil,st₃⟩
  ·rcases hdc b hb with rfl | hb
   ·obtain ⟨o,ho,_⟩:=Z.there 0 h₁ st _ q;rw [hC₁] at ho;cases ho
   ·exact hdyn b hb q
  ·rcases hdc _ q with q | q
   ·exact hDC q
   ·obtain ⟨o,ho⟩:=zck I₁.fr _ q;rw [zaB] at ho;cases ho
 exact codeAny_compStart_list (loop _ rfl) (Z.self 0 _ _ _ st₃ (loop _ rfl))
theorem zcQ{c:Cel}{D a:Addr}{l:List Addr}(hl:ι.vis.length=σ.length)(hD:D∈ι.hid)(hs:∀ a∈l,a∈ι.hid)(h:¬ Live ι σ a):¬ Live ⟨ι.vis++[D],l⟩ (σ++[c]) a:=by
 intro q
 rcases Live.append (ι:=⟨ι.vis,l⟩) hl q with q | q
 ·exact zbg hs h q
 ·exact h (.inr (q▸hD))
theorem RepL.adopt{h:Heap}{c:Cel}{D:Addr}{l:List Addr}(hl:ι.vis.length=σ.length)(hD:D∈ι.hid)(hs:∀ a∈l,a∈ι.hid){xs:List PV}{vs:List Value}(r:RepL h ι σ xs vs):RepL h ⟨ι.vis++[D],l⟩ (σ++[c]) xs vs:=
 r.to ⟨fun e nl=>⟨e,zcQ hl hD hs nl⟩,fun e=>(List.getElem?_append_left (List.getElem?_eq_some_iff.mp e).1).trans e,fun e c d k nl=>.exc e c d k (zcQ hl hD hs nl)⟩
theorem CompEnd.go{h₀ H h':Heap}{ι₀ ι':Ad}{σ₀ σ':zaa}{D C:Addr}{ys:List PV}(X:CompEnd prog w hB h₀ ι₀ σ₀ D C H ι' σ' ys)(hs:Heap.SameBut C H h') :
  Evo [] h₀ ι₀ σ₀ h' ι' σ'∧StoreOk prog w hB h' ι' σ'∧hB.StaysIn h'∧∃ vs,h'.PlainList D vs∧RepL h' ι' σ' ys vs.toList:=by
 have hk:∀ b o,b∉[C]→H.get? b=some o→h'.get? b=some o:=fun b o hb e=>(hs.2 b (fun q=>hb (by rw [q];exact .head _))).trans e
 have hO:Off ι' [C] H:=fun b hb=>by
  rw [List.mem_singleton.mp hb]
  obtain ⟨m,o,es,ep,ho,hd,_⟩:=X.ns
  refine .inr fun o' ho'=>?_
  rw [ho] at ho';cases ho'
  exact ⟨fun vs n q=>(by rw [hd] at q;cases q),.inl fun vs q=>(by rw [hd] at q;cases q)⟩
 obtain ⟨vs,⟨n,hp⟩,rl⟩:=X.lst
 refine ⟨X.evo.lost hk fun b hb=>by rw [List.mem_singleton.mp hb];exact X.newC,X.store.lost hk hO fun b hb=>by rw [List.mem_singleton.mp hb];exact ⟨X.offC.1,fun q=>(X.offC.2 q).elim⟩,fun b o e=>hk b o (fun q=>?_) (X.stays b o e),vs,⟨n,hk D _ (by simpa using X.ne) hp⟩,rl.evoW X.store.len (EvoW.but hk) hO⟩
 rw [List.mem_singleton.mp q,X.baseC] at e;cases e
theorem zfj{h₀ H h':Heap}{ι₀ ι':Ad}{σ₀ σ':zaa}{D C:Addr}{ys:List PV}{cx:Cx}{p:Pos}(S₀:StoreOk prog w hB h₀ ι₀ σ₀)(X:CompEnd prog w hB h₀ ι₀ σ₀ D C H ι' σ' ys)(hs:Heap.SameBut C H h') :
  ∃ v ι'' σ'',zaD cx p ys σ'=.ok v σ''∧Step prog w hB h₀ ι₀ σ₀ h' ι'' σ''∧Rep h' ι'' σ'' v (.ref D)∧(C∉ι''.vis∧C∉ι''.hid):=by
 obtain ⟨Y,S,B,vs,⟨n,hp⟩,rl⟩:=X.go hs
 have hsub:∀ a∈ι₀.hid,a∈ι'.hid:=Y.hid
 have hD₀:D∉ι₀.hid:=fun q=>by obtain ⟨o,ho,_⟩:=S₀.hthere D q;rw [X.newD] at ho;cases ho
 have hDv:D∉ι'.vis:=fun q=>S.apart D q X.hid
 cases hm:cx.G.mu.contains (p.line,p.col) with
 | true=>
  refine ⟨.ref σ'.length,⟨ι'.vis++[D],ι₀.hid⟩,σ'++[.list ys],by unfold zaD;rw [hm];rfl,⟨⟨fun i a e=>?_,fun i a e e'=>?_,fun i e=>?_,Y.alive,Y.keep,fun _ h=>h,fun _ h=>.inl h⟩,⟨?_,?_,fun a ha=>?_,fun a ha=>S.hthere a (hsub a ha),fun a ha q=>?_,fun a ha=>?_,fun a ha=>S.hbase a (hsub a ha),S.sys,fun i a c e e'=>?_⟩,B⟩,.ref ?_,fun q=>?_,fun q=>X.offC.2 (hsub C q)⟩
  ·show (ι'.vis++[D])[i]?=_
   have:=Y.pre i a e
   rw [List.getElem?_append_left (List.getElem?_eq_some_iff.mp this).1];exact this
  ·change (ι'.vis++[D])[i]?=_ at e
   by_cases q:i<ι'.vis.length
   ·rw [List.getElem?_append_left q] at e;exact Y.fresh i a e e'
   ·rw [List.getElem?_append_right (Nat.le_of_not_lt q)] at e
    have:i-ι'.vis.length=0:=by
     have:=(List.getElem?_eq_some_iff.mp e).1
     simp at this;lia
    rw [this] at e;simp at e;rw [← e];exact X.newD
  ·have:=Y.dead i e
   rw [List.getElem?_append_left (List.getElem?_eq_some_iff.mp this).1];exact this
  ·show (ι'.vis++[D]).length=_
   simp [S.len]
  ·show (ι'.vis++[D]).Nodup
   rw [List.nodup_append]
   exact ⟨S.nodup,by simp,fun x hx b hb q=>hDv (by rw [List.mem_singleton] at hb;rw [← hb,← q];exact hx)⟩
  ·rcases List.mem_append.mp ha with ha | ha
   ·exact S.there a ha
   ·rw [List.mem_singleton.mp ha];exact ⟨_,hp⟩
  ·rcases List.mem_append.mp ha with ha | ha
   ·exact S.apart a ha (hsub a q)
   ·rw [List.mem_singleton.mp ha] at q;exact hD₀ q
  ·rcases List.mem_append.mp ha with ha | ha
   ·exact S.base a ha
   ·rw [List.mem_singleton.mp ha];exact S.hbase D X.hid
  ·change (ι'.vis++[D])[i]?=_ at e
   by_cases q:i<ι'.vis.length
   ·rw [List.getElem?_append_left q] at e
    rw [List.getElem?_append_left (S.len▸q)] at e'
    have x:=S.ok i a c e e'
    cases c with
    | dead=>trivial
    | list xs=>obtain ⟨vs,hp,r⟩:=x;exact ⟨vs,hp,r.adopt S.len X.hid hsub⟩
    | dict kvs=>obtain ⟨zs,d,k2,r⟩:=x;exact ⟨zs,d,k2,r.adopt S.len X.hid hsub⟩
   ·rw [List.getElem?_append_right (Nat.le_of_not_lt q)] at e
    rw [List.getElem?_append_right (by rw [← S.len];exact Nat.le_of_not_lt q)] at e'
    have h0:i-ι'.vis.length=0:=by
     have:=(List.getElem?_eq_some_iff.mp e).1
     simp at this;lia
    rw [h0] at e;rw [← S.len,h0] at e'
    simp at e e'
    subst e;subst e';exact ⟨vs,⟨n,hp⟩,rl.adopt S.len X.hid hsub⟩
  ·show (ι'.vis++[D])[σ'.length]?=_
   rw [List.getElem?_append_right (by rw [S.len];exact Nat.le_refl _)];simp [S.len]
  ·rcases List.mem_append.mp q with q | q
   ·exact X.offC.1 q
   ·exact X.ne (List.mem_singleton.mp q).symm
 | false=>
  refine ⟨.lst ys,⟨ι'.vis,ι₀.hid⟩,σ',by unfold zaD;rw [hm];rfl,⟨Y.unhide,S.unhide hsub,B⟩,.lst hp ?_ (rl.unhide hsub),X.offC.1,fun q=>X.offC.2 (hsub C q)⟩
  rintro (⟨i,c,hi,_⟩ | q)
  ·exact hDv (List.mem_of_getElem? hi)
  ·exact hD₀ q
theorem zex{cx:Cx}{n:Nat}{t elt it:Expr}{ifs:List Expr}{p:Pos}:((zcu cx sc ρ (ev cx n sc ρ) t it).bind fun src=>M.cond (decide (src.xs.length≤2 ^ 20)) ((za6 (chkW src.watch) (zdF cx n csc ρ t elt ifs) src.xs).bind fun ys=>zaD cx p ys) M.fail) σ=((zey cx n sc csc ρ t elt it ifs).bind fun ys=>zaD cx p ys) σ:=
 (congrFun (congrArg (M.bind _) (funext fun(src:Src)=>(M.cond_bind (decide (src.xs.length≤2 ^ 20)) (za6 (chkW src.watch) (zdF cx n csc ρ t elt ifs) src.xs) M.fail fun ys=>zaD cx p ys).symm)) σ).trans (zaf _ _ _).symm
theorem zj3{cx:Cx}{n:Nat}{p:Pos}{t elt it:Expr}{ifs:List Expr}(hG:GlobOk hB K cx.G)(hh:A.handled=none)(hu:A.units+600<cLine)(O:CompOk sc csc it)(H:EnvOk env sc)
  (IHo:EvIH prog w hB A env ρ fl (ev cx n sc ρ)) (IHi:∀ cenv,EnvOk cenv csc→∀ k,k≤n→∀ ρ',EvIH prog w hB A cenv ρ' fl (ev { cx with md:=⟨false,cx.md.lp⟩ } k csc ρ')) (I:Inv prog w hB env ρ fl s.heap ι σ) :
  SimV prog w hB A (eval (.ListComp elt [⟨t,it,ifs,0⟩] csc p) env) ((zey cx n sc csc ρ t elt it ifs).bind fun ys=>zaD cx p ys) s ι σ:=by
 intro Q Er hns hok herr
 rw [eval_ListComp]
 refine zju hG hh hu O H IHo IHi I Q Er (fun q=>hns (zae q)) (fun ys σ' e D C H' tk ι' X=>?_) (fun C σ' e e' h' tk ι' X F=>herr C σ' (zap e) e' h' tk ι' X F)
 refine ⟨X.ns.choose,X.ns.choose_spec,fun h' hs=>?_⟩
 obtain ⟨v,ι'',σ'',hm,Y,r,_⟩:=zfj (cx:=cx) (p:=p) I.store X hs
 exact hok v σ'' ((zab e).trans hm) _ h' tk ι'' Y r
end
section
variable {prog:Program} {w:World} {hB:Heap} {A:Around} {fl:List Env} {K:Frag}
theorem Ar.units600{md:Md}{d:Nat}(H:Ar md d fl A):A.units+600<cLine:=by have:=H.units;lia
theorem Ar.inner{md:Md}{d:Nat}(H:Ar md d fl A):Ar ⟨false,md.lp⟩ d fl A:=⟨H.frames,H.depth,H.units,fun q=>H.quiet (q.elim (fun q=>nomatch q) .inr)⟩
theorem ziK{cx:Cx}{env:Env}{sc csc:Scope}{ρ:Loc}{n:Nat}{elt:Expr}{gens:List Comprehension}{p:Pos}{s:Shared}{ι:Ad}{σ:zaa}(hG:GlobOk hB K cx.G)(hq:cx.md.lp=true→A.handled=none)(hu:A.units+600<cLine)(H:EnvOk env sc)
  (IHo:EvIH prog w hB A env ρ fl (ev cx n sc ρ)) (IHi:∀ cenv,EnvOk cenv csc→∀ k,k≤n→∀ ρ',EvIH prog w hB A cenv ρ' fl (ev { cx with md:=⟨false,cx.md.lp⟩ } k csc ρ')) (I:Inv prog w hB env ρ fl s.heap ι σ) :
  SimV prog w hB A (eval (.ListComp elt gens csc p) env) (zif cx sc ρ (ev cx n sc ρ) csc (fun ρ' e=>ev { cx with md:=⟨false,cx.md.lp⟩ } n csc ρ' e) elt gens p) s ι σ:=by
 cases gens with
 | nil=>exact Sim.fail
 | cons g r=>
  cases r with
  | cons _ _=>exact Sim.fail
  | nil=>
   obtain ⟨t,it,ifs,a⟩:=g
   refine Sim.cond (fun q=>?_) fun _=>Sim.fail
   rw [Bool.and_eq_true,Bool.and_eq_true,Bool.and_eq_true] at q
   obtain ⟨ha,⟨hlp,hco⟩,hnm⟩:=q
   have ha₂:a=0:=of_decide_eq_true ha
   subst ha₂
   exact (zj3 hG (hq hlp) hu (zez hco) H IHo IHi I).res zex
theorem zlY{cx:Cx}{d:Nat}{E:Expr→M PV}{env:Env}{sc:Scope}{ρ:Loc}{f:Str}{fp p:Pos}{args:List Expr}{s:Shared}{ι:Ad}{σ:zaa}(hG:GlobOk hB K cx.G)(hA:Ar cx.md d fl A)(hc:zg3 prog w hB d cx.call)(H:EnvOk env sc)(IH:EvIH prog w hB A env ρ fl E)(hst:∀ e p,E (.Starred e p)=M.fail)(I:Inv prog w hB env ρ fl s.heap ι σ)(hp:zau args=true) :
  SimV prog w hB A (eval (.Call (.Name f fp) args [] p) env) (evFn cx sc ρ E f args p) s ι σ:=by
 refine Sim.lift fun c hr=>?_
 cases c with
 | fn a=>exact znq hG hA hc H IH hst I hp hr
 | bi y=>
  refine Sim.cond (fun q=>?_) fun _=>?_
  ·have q:=of_decide_eq_true q
   subst q
   exact ziH hG.cls hG.g hG.inK H IH I hp hr
  ·refine Sim.lift fun b hb=>?_
   exact ziL hG.g H IH hst I hp hr (zlB _ (zcT hb)) (zjq b) fun vs xs s' ι' σ' I' r'=>zhk hA I'.store I'.stays r'
 | _=>exact Sim.fail
theorem zgl{cx:Cx}{d:Nat}(hG:GlobOk hB K cx.G)(hc:zg3 prog w hB d cx.call):∀(n:Nat)(md:Md)(_:Ar md d fl A)(env:Env)(sc:Scope)(_:EnvOk env sc)(ρ:Loc),EvIH prog w hB A env ρ fl (ev { cx with md:=md } n sc ρ):=by
 intro n
 induction n using Nat.strongRecOn with
 | _ n ih=>
  intro md hA env sc H ρ e s ι σ I
  cases n with
  | zero=>exact Sim.fail
  | succ n=>
   have IHk:∀ k,k≤n→EvIH prog w hB A env ρ fl (ev { cx with md:=md } k sc ρ):=fun k hk=>ih k (Nat.lt_succ_of_le hk) md hA env sc H ρ
   have IH:=IHk n (Nat.le_refl _)
   have hu:=hA.units600
   cases e with
   | Constant c k p=>exact zj2 I
   | Name x p=>exact zlV hG.g H I
   | BoolOp op vs p=>exact zeV IH p op vs s ι σ I
   | BinOp l op r p=>exact ziM IH I
   | UnaryOp op x p=>exact zjP IH I
   | IfExp t a b p=>exact zjW hu IHk I
   | Compare l ops cs p=>exact zhi hu IH I
   | Tuple es k p=>exact ziz IH I
   | List es p=>exact zjT IH I
   | Dict ks vs p=>exact zjY I
   | Subscript v i p=>exact zlT IH I
   | ListComp elt gens csc p=>exact ziK (cx:={ cx with md:=md }) hG (fun q=>hA.quiet (.inr q)) hu H IH (fun cenv Hc k hk ρ'=>ih k (Nat.lt_succ_of_le hk) _ hA.inner cenv csc Hc ρ') I
   | Call f args kws p=>
    cases kws with
    | cons k ks=>exact Sim.fail
    | nil=>
     cases f with
     | Attribute o m ap=>exact zjS hu IH zaR I
     | Name f fp=>exact Sim.cond (fun hp=>zlY (cx:={ cx with md:=md }) hG hA hc H IH zaR I hp) fun _=>Sim.fail
     | _=>exact Sim.fail
   | _=>exact Sim.fail
end
structure Soft (h₀:Heap) (fr:List Addr) (h h':Heap):Prop where
 soft:∀ b o,h.get? b=some o→∃ o',h'.get? b=some o'∧o'.cls=o.cls∧o'.dict=o.dict∧((∀ vs,o.data≠.fields vs)→o'.data=o.data∧(b∉fr→o'=o))∧(∀ vs,o.data=.fields vs→∃ vs',o'.data=.fields vs')
 hard:∀ b o,h.get? b=some o→h₀.get? b≠none→(∃ sl,h'.get? b=some { o with slots:=sl })∧(b∉fr→h'.get? b=some o)
theorem Soft.refl(h₀:Heap)(fr:List Addr)(h:Heap):Soft h₀ fr h h:=
 ⟨fun _ o e=>⟨o,e,rfl,rfl,fun _=>⟨rfl,fun _=>rfl⟩,fun vs q=>⟨vs,q⟩⟩,fun _ o e _=>⟨⟨o.slots,e⟩,fun _=>e⟩⟩
theorem Soft.trans{h₀ h₁ h₂ h₃:Heap}{fr:List Addr}(X:Soft h₀ fr h₁ h₂)(Y:Soft h₀ fr h₂ h₃):Soft h₀ fr h₁ h₃ where
 soft:=fun b o e=>by
  obtain ⟨o₂,e₂,a₂,b₂,c₂,d₂⟩:=X.soft b o e
  obtain ⟨o₃,e₃,a₃,b₃,c₃,d₃⟩:=Y.soft b o₂ e₂
  refine ⟨o₃,e₃,a₃.trans a₂,b₃.trans b₂,fun q=>?_,fun vs q=>?_⟩
  ·have hc:=c₂ q
   have hq:∀ vs,o₂.data≠.fields vs:=fun vs=>by rw [hc.1];exact q vs
   have hc':=c₃ hq
   exact ⟨hc'.1.trans hc.1,fun hb=>(hc'.2 hb).trans (hc.2 hb)⟩
  ·obtain ⟨vs',q'⟩:=d₂ vs q
   exact d₃ vs' q'
 hard:=fun b o e hn=>by
  obtain ⟨⟨sl,e₂⟩,k₂⟩:=X.hard b o e hn
  obtain ⟨⟨sl',e₃⟩,_⟩:=Y.hard b _ e₂ hn
  exact ⟨⟨sl',e₃⟩,fun hb=>(Y.hard b o (k₂ hb) hn).2 hb⟩
theorem Soft.slots{h₀ h h':Heap}{fr:List Addr}(X:Heap.SlotsOnly fr h h'):Soft h₀ fr h h' where
 soft:=fun b o e=>by
  obtain ⟨sl,e'⟩:=X.2.2 b o e
  refine ⟨_,e',rfl,rfl,fun _=>⟨rfl,fun hb=>?_⟩,fun vs q=>⟨vs,q⟩⟩
  have:=(X.2.1 b hb).trans e
  rw [e'] at this;exact Option.some.inj this
 hard:=fun b o e _=>⟨X.2.2 b o e,fun hb=>(X.2.1 b hb).trans e⟩
theorem Soft.push(h₀ h:Heap)(fr:List Addr)(o:Obj):Soft h₀ fr h (h.push o):=
 ⟨fun _ o' e=>⟨o',Heap.get?_push_of_some _ e,rfl,rfl,fun _=>⟨rfl,fun _=>rfl⟩,fun vs q=>⟨vs,q⟩⟩,fun _ o' e _=>⟨⟨o'.slots,Heap.get?_push_of_some _ e⟩,fun _=>Heap.get?_push_of_some _ e⟩⟩
theorem Obj.dict_mapFields(f:Array Value→Array Value)(o:Obj):(Obj.mapFields f o).dict=o.dict:=by
 obtain ⟨c,d,dt,sl⟩:=o;cases dt <;> rfl
theorem Soft.upd{h₀ h:Heap}{fr:List Addr}{a:Addr}{o:Obj}{vs:Array Value}(f:Array Value→Array Value)(ho:h.get? a=some o)(hd:o.data=.fields vs)(hn:h₀.get? a=none):Soft h₀ fr h (h.update a (Obj.mapFields f)) where
 soft:=fun b o' e=>by
  by_cases hb:b=a
  ·subst hb
   rw [ho] at e;cases e
   have hd':=Obj.data_mapFields hd f
   exact ⟨_,Heap.get?_update_self _ ho (Obj.isFreed_of_fields hd'),Obj.cls_mapFields _ _,Obj.dict_mapFields _ _,fun q=>(q _ hd).elim,fun _ _=>⟨_,hd'⟩⟩
  ·exact ⟨o',(Heap.get?_update_other _ _ (Ne.symm hb)).trans e,rfl,rfl,fun _=>⟨rfl,fun _=>rfl⟩,fun vs q=>⟨vs,q⟩⟩
 hard:=fun b o' e hb0=>by
  have hb:b≠a:=fun q=>hb0 (q▸hn)
  have:=(Heap.get?_update_other (h:=h) (Obj.mapFields f) (Ne.symm hb)).trans e
  exact ⟨⟨o'.slots,this⟩,fun _=>this⟩
section
variable {prog:Program} {w:World} {hB:Heap} {A:Around} {s:Shared} {ι:Ad} {σ:zaa} {env:Env} {ρ:Loc} {fl:List Env} {sc:Scope} {h₀ h h':Heap} {fr:List Addr}
theorem zjz(X:Soft h₀ fr h h')(hd:∀ b∈fr,∃ o es n,h.get? b=some o∧o.data=.dict es n):RepTo h ι σ h' ι σ where
 seq:=fun e nl=>by
  obtain ⟨o',e',_,_,c,_⟩:=X.soft _ _ e
  have hb:_∉fr:=fun q=>by obtain ⟨o,es,n,ho,hd⟩:=hd _ q;rw [e] at ho;cases ho;cases hd
  have:=(c fun _ q=>nomatch q).2 hb
  subst this
  exact ⟨e',nl⟩
 vis:=fun e=>e
 exc:=fun e c d k nl=>by
  obtain ⟨o',e',a,b,_,f⟩:=X.soft _ _ e
  obtain ⟨vs',q⟩:=f _ d
  exact .exc e' (a.trans c) q (b.trans k) nl
theorem Rep.soft(X:Soft h₀ fr h h')(hd:∀ b∈fr,∃ o es n,h.get? b=some o∧o.data=.dict es n){x:PV}{v:Value}(r:Rep h ι σ x v):Rep h' ι σ x v:=r.to (zjz X hd)
theorem RepL.soft(X:Soft h₀ fr h h')(hd:∀ b∈fr,∃ o es n,h.get? b=some o∧o.data=.dict es n){xs:List PV}{vs:List Value}(r:RepL h ι σ xs vs):RepL h' ι σ xs vs:=r.to (zjz X hd)
theorem Ns.soft{a:Addr}{m:Str→Option Value}(X:Soft h₀ fr h h')(hn:h.Ns a m):h'.Ns a m:=by
 obtain ⟨o,es,ep,ho,hd,r⟩:=hn
 obtain ⟨o',e',_,_,c,_⟩:=X.soft a o ho
 exact ⟨o',es,ep,e',(c fun vs q=>by rw [hd] at q;cases q).1.trans hd,r⟩
theorem IsCell.soft{a:Addr}{y:Option Value}(X:Soft h₀ fr h h')(hn:h.IsCell a y):h'.IsCell a y:=by
 obtain ⟨o,ho,hd⟩:=hn
 obtain ⟨o',e',_,_,c,_⟩:=X.soft a o ho
 exact ⟨o',e',(c fun vs q=>by rw [hd] at q;cases q).1.trans hd⟩
theorem StoreOk.soft(S:StoreOk prog w hB h ι σ)(X:Soft h₀ fr h h')(hd:∀ b∈fr,∃ o es n,h.get? b=some o∧o.data=.dict es n)(hnl:∀ b∈fr,¬ Live ι σ b):StoreOk prog w hB h' ι σ:=by
 refine ⟨S.len,S.nodup,fun a ha=>?_,fun a ha=>?_,S.apart,S.base,S.hbase,S.sys,fun i a c e e'=>?_⟩
 ·obtain ⟨o,ho⟩:=S.there a ha;obtain ⟨o',e,_⟩:=X.soft a o ho;exact ⟨o',e⟩
 ·obtain ⟨o,ho,f⟩:=S.hthere a ha;obtain ⟨o',e,_,_,c,_⟩:=X.soft a o ho;exact ⟨o',e,fun vs=>by rw [(c f).1];exact f vs⟩
 ·have x:=S.ok i a c e e'
  cases c with
  | dead=>trivial
  | list xs=>
   have hb:a∉fr:=fun q=>hnl a q (.inl ⟨i,_,e,e',by intro q;cases q⟩)
   obtain ⟨vs,⟨n,hp⟩,r⟩:=x
   obtain ⟨o',e',_,_,c,_⟩:=X.soft _ _ hp
   have:=(c fun _ q=>nomatch q).2 hb
   subst this
   exact ⟨vs,⟨n,e'⟩,r.soft X hd⟩
  | dict kvs=>
   have hb:a∉fr:=fun q=>hnl a q (.inl ⟨i,_,e,e',by intro q;cases q⟩)
   obtain ⟨ys,⟨o,es,ep,ho,hx,hdt,k⟩,k2,r⟩:=x
   obtain ⟨o',e',_,_,c,_⟩:=X.soft _ _ ho
   have:=(c fun vs q=>by rw [hdt] at q;cases q).2 hb
   subst this
   exact ⟨ys,⟨o',es,ep,e',hx,hdt,k⟩,k2,r.soft X hd⟩
theorem FrOk.soft(F:FrOk hB env ρ h ι σ)(X:Soft h₀ fr h h')(hd:∀ b∈fr,∃ o es n,h.get? b=some o∧o.data=.dict es n):FrOk hB env ρ h' ι σ:=by
 refine ⟨?_,fun x v e k=>?_,F.kinds,fun x k=>?_,F.apart,F.own,fun b hb=>?_,F.off⟩
 ·obtain ⟨m,hn,hv⟩:=F.ns
  refine ⟨m,Ns.soft X hn,fun x v e k=>?_⟩
  obtain ⟨y,hy,r⟩:=hv x v e k
  exact ⟨y,hy,r.soft X hd⟩
 ·obtain ⟨c,y,hc,hy,r⟩:=F.cel x v e k
  exact ⟨c,y,hc,IsCell.soft X hy,r.soft X hd⟩
 ·obtain ⟨c,y,hc,hy⟩:=F.cells x k
  exact ⟨c,y,hc,IsCell.soft X hy⟩
 ·obtain ⟨y,hy⟩:=F.cellsAt b hb
  exact ⟨y,IsCell.soft X hy⟩
theorem Stk.soft(S:Stk hB fl h ι σ)(X:Soft h₀ fr h h'):Stk hB fl h' ι σ:=by
 refine ⟨FunFrames.map S.fun_ fun b hb o ho hd=>?_,S.notLive,fun b hb=>?_⟩
 ·obtain ⟨o',e',_,_,c,_⟩:=X.soft b o ho
  exact ⟨o',e',fun vs=>by rw [(c hd).1];exact hd vs⟩
 ·obtain ⟨o,es,n,ho,hd⟩:=S.dicts b hb
  obtain ⟨o',e',_,_,c,_⟩:=X.soft b o ho
  exact ⟨o',es,n,e',(c fun vs q=>by rw [hd] at q;cases q).1.trans hd⟩
theorem Evo.soft{D:List Addr}{ι₀:Ad}{σ₀:zaa}(Y:Evo D h₀ ι₀ σ₀ h ι σ)(X:Soft h₀ fr h h')(hd:∀ b∈fr,∃ o es n,h.get? b=some o∧o.data=.dict es n):Evo D h₀ ι₀ σ₀ h' ι σ where
 pre:=Y.pre
 fresh:=Y.fresh
 dead:=Y.dead
 alive:=fun b o e=>by obtain ⟨o₁,e₁⟩:=Y.alive b o e;obtain ⟨o₂,e₂,_⟩:=X.soft b o₁ e₁;exact ⟨o₂,e₂⟩
 keep:=fun b o e hn hD=>by
  obtain ⟨⟨sl,e₁⟩,k⟩:=Y.keep b o e hn hD
  have hne:h₀.get? b≠none:=by rw [e];intro q;cases q
  obtain ⟨⟨sl',e₂⟩,_⟩:=X.hard b _ e₁ hne
  refine ⟨⟨sl',e₂⟩,fun q=>(X.hard b o (k q) hne).2 fun hb=>?_⟩
  obtain ⟨o',es,n,ho,hd'⟩:=hd b hb
  rw [k q] at ho;cases ho
  exact q es n hd'
 hid:=Y.hid
 hfresh:=Y.hfresh
theorem ziy(B:hB.StaysIn h)(X:Soft h₀ fr h h')(hb:∀ b o,hB.get? b=some o→h₀.get? b≠none)(hf:∀ b∈fr,hB.get? b=none):hB.StaysIn h':=fun b o e=>
 (X.hard b o (B b o e) (hb b o e)).2 fun q=>by rw [hf b q] at e;cases e
noncomputable def Fly'(h h':Heap)(e C:Addr):Prop:=h.get? e=Option.none∧∃ oe vs T oT ts,h'.get? e=some oe∧(oe.cls=.ref C∧oe.dict=Option.none)∧oe.data=.fields vs∧1<vs.size∧
  (vs[1]?=some (.ref T)∧T≠e∧h.get? T=Option.none∧h'.get? T=some oT∧oT.data=.fields ts∧3<ts.size)
theorem zdu{outer:List Env}{L e C:Addr}{head:Value}{hadNext:Bool}{Q:Unit→Shared→Prop}{E:Value→Shared→Prop}{oe:Obj}{vs:Array Value}(hfr:A.frames=some (env::outer))(S:Stk hB (env::outer) s.heap ι σ)(hf:env.frame=some L)
  (hn:h₀.get? e=none) (hn0:∀ b o,h₀.get? b=some o→∃ o',s.heap.get? b=some o') (he:s.heap.get? e=some oe) (hc:oe.cls=.ref C∧oe.dict=none) (hd:oe.data=.fields vs) (hsz:1<vs.size)
  (h:∀ h',Soft h₀ ((env::outer).filterMap (·.frame)) s.heap h'→Fly' h₀ h' e C→Q () { s with heap:=h' }) :
  wpAny (model prog w) A (do let a ← frameOf env;let pl ← entryPlaceOf L hadNext;let b ← EntryCells.newEntry head a .none (rawInt L) .none pl;setField (.ref e) 1 b) Q E s:=by
 have hene:e∉(env::outer).filterMap (·.frame):=fun hm=>by
  obtain ⟨_,o,ho,hnf⟩:=S.fun_.mem hm
  rw [he] at ho;cases ho;exact hnf vs hd
 refine wpAny_bind (wpAny_frameOf_fun hfr S.fun_ hf fun h₁ hs₁=>?_)
 refine wpAny_bind (wpAny_entryPlaceOf fun pl hpl=>?_)
 unfold EntryCells.newEntry newFields
 refine wpAny_bind (wpAny_newObj_type ?_ (hpl.sizeOk5 _ _ _ _ _))
 generalize hT:({ cls:=.type "traceback",dict:=none,data:=.fields ([head,.ref L,.none,rawInt L,.none]++(if pl.isEmpty then List.replicate 6 Value.none else pl)).toArray }:Obj)=oT
 have he₁:h₁.get? e=some oe:=(hs₁.2.1 e hene).trans he
 have he₂:=Heap.get?_push_of_some (h:=h₁) oT he₁
 have hX:Soft h₀ ((env::outer).filterMap (·.frame)) s.heap ((h₁.push oT).update e (Obj.mapFields (·.setIfInBounds 1 (Value.ref h₁.objs.size)))):=
  ((Soft.slots hs₁).trans (Soft.push _ _ _ oT)).trans (Soft.upd _ he₂ hd hn)
 have hTe:h₁.objs.size≠e:=Nat.ne_of_gt (Heap.lt_size he₁)
 have hfree:oT.isFreed=false:=by rw [← hT];rfl
 have hd₃:=Obj.data_mapFields hd (·.setIfInBounds 1 (Value.ref h₁.objs.size))
 refine wpAny_setField he₂ hd hsz (h _ hX ⟨hn,_,_,h₁.objs.size,oT,_,Heap.get?_update_self _ he₂ (Obj.isFreed_of_fields hd₃),⟨(Obj.cls_mapFields _ _).trans hc.1,(Obj.dict_mapFields _ _).trans hc.2⟩,hd₃,by simpa using hsz,⟨by simp [hsz],hTe,?_,(Heap.get?_update_other _ _ (Ne.symm hTe)).trans (Heap.get?_push_size h₁ hfree),by rw [← hT],?_⟩⟩)
 ·refine za5 (h₂:=h₁) (fun b o eb=>?_) (zaB h₁)
  obtain ⟨o',e'⟩:=hn0 b o eb
  obtain ⟨sl,e''⟩:=hs₁.2.2 b o' e'
  exact ⟨_,e''⟩
 ·simp only [List.size_toArray,List.length_append,List.length_cons,List.length_nil];lia
theorem zb9{outer:List Env}{L e C:Addr}{Q:Unit→Shared→Prop}{E:Value→Shared→Prop}(hfr:A.frames=some (env::outer))(S:Stk hB (env::outer) s.heap ι σ)(hf:env.frame=some L)
  (F:Fly h₀ s.heap e C) (hn0:∀ b o,h₀.get? b=some o→∃ o',s.heap.get? b=some o')
  (h:∀ h' oe vs T,Soft h₀ ((env::outer).filterMap (·.frame)) s.heap h'→Fly h₀ h' e C→h'.get? e=some oe→oe.data=.fields vs→vs[1]?=some (.ref T)→Q () { s with heap:=h' }) :
  wpAny (model prog w) A (noteFrame (.ref e) env) Q E s:=by
 have key:∀{h':Heap},Soft h₀ ((env::outer).filterMap (·.frame)) s.heap h'→Fly h₀ h' e C→(∃ oe vs T,h'.get? e=some oe∧oe.data=.fields vs∧vs[1]?=some (.ref T))→Q () { s with heap:=h' }:=by
  rintro h' X F' ⟨oe,vs,T,a,b,c⟩;exact h h' oe vs T X F' a b c
 obtain ⟨hn,oe,vs,he,hc,hd,hsz,ht⟩:=F
 have tb:∀{h':Heap},Soft h₀ ((env::outer).filterMap (·.frame)) s.heap h'→Fly' h₀ h' e C→Q () { s with heap:=h' }:=by
  rintro h' X ⟨hn,oe,vs,T,oT,ts,h1,h2,h3,h4,h5⟩
  exact key X ⟨hn,oe,vs,h1,h2,h3,h4,.inr ⟨T,oT,ts,h5⟩⟩ ⟨oe,vs,T,h1,h3,h5.1⟩
 unfold noteFrame
 simp only [hf]
 rcases ht with h1 | ⟨T,oT,ts,h1,hTe,hTn,hT,hdT,h3⟩
 ·refine wpAny_bind (wpAny_field he hd h1 ?_)
  rw [if_neg (by decide)]
  exact zdu hfr S hf hn hn0 he hc hd hsz fun h' X F'=>tb X F'
 ·refine wpAny_bind (wpAny_field he hd h1 ?_)
  rw [if_pos (show (Value.ref T != Value.none)=true from by simp)]
  obtain ⟨x,hx⟩:∃ x,ts[3]?=some x:=⟨_,Array.getElem?_eq_getElem h3⟩
  refine wpAny_bind (wpAny_field hT hdT hx ?_)
  cases q:x==rawInt L with
  | true=>exact wpAny_pure (tb (Soft.refl _ _ _) ⟨hn,oe,vs,T,oT,ts,he,hc,hd,hsz,h1,hTe,hTn,hT,hdT,h3⟩)
  | false=>
   refine wpAny_bind (wpAny_setField hT hdT h3 ?_)
   have X₁:Soft h₀ ((env::outer).filterMap (·.frame)) s.heap (s.heap.update T (Obj.mapFields (·.setIfInBounds 3 Value.none))):=Soft.upd _ hT hdT hTn
   refine zdu (s:={ s with heap:=s.heap.update T (Obj.mapFields (·.setIfInBounds 3 Value.none)) }) hfr (S.soft X₁) hf hn (fun b o eb=>?_) ((Heap.get?_update_other _ _ hTe).trans he) hc hd hsz fun h' X F'=>tb (X₁.trans X) F'
   obtain ⟨o',e'⟩:=hn0 b o eb
   obtain ⟨o'',e'',_⟩:=X₁.soft b o' e'
   exact ⟨o'',e''⟩
theorem zbG{e C:Addr}{L:Option Addr}{Q:Unit→Shared→Prop}{E:Value→Shared→Prop}(F:Fly h₀ s.heap e C) (h:∀ h',Soft h₀ fr s.heap h'→Fly h₀ h' e C→Q () { s with heap:=h' }):wpAny (model prog w) A (setFlight (.ref e) L) Q E s:=by
 obtain ⟨hn,oe,vs,he,hc,hd,hsz,ht⟩:=F
 unfold setFlight
 rcases ht with h1 | ⟨T,oT,ts,h1,hTe,hTn,hT,hdT,h3⟩
 ·refine wpAny_bind (wpAny_field he hd h1 ?_)
  rw [if_neg (by decide)]
  exact wpAny_pure (h s.heap (Soft.refl _ _ _) ⟨hn,oe,vs,he,hc,hd,hsz,.inl h1⟩)
 ·refine wpAny_bind (wpAny_field he hd h1 ?_)
  rw [if_pos (show (Value.ref T != Value.none)=true from by simp)]
  have hdT':=Obj.data_mapFields hdT (·.setIfInBounds 3 (L.elim Value.none fun f=>rawInt f))
  refine wpAny_setField hT hdT h3 (h _ (Soft.upd _ hT hdT hTn) ⟨hn,oe,vs,(Heap.get?_update_other _ _ hTe).trans he,hc,hd,hsz,.inr ⟨T,_,_,h1,hTe,hTn,Heap.get?_update_self _ hT (Obj.isFreed_of_fields hdT'),hdT',by simpa using h3⟩⟩)
theorem ziq{outer:List Env}{L e C:Addr}{Q:Unit→Shared→Prop}{E:Value→Shared→Prop}(hfr:A.frames=some (env::outer))(S:Stk hB (env::outer) s.heap ι σ)(hf:env.frame=some L)
  (F:Fly h₀ s.heap e C) (hn0:∀ b o,h₀.get? b=some o→∃ o',s.heap.get? b=some o')
  (h:∀ h',Soft h₀ ((env::outer).filterMap (·.frame)) s.heap h'→Fly h₀ h' e C→Q () { s with heap:=h' }) :
  wpAny (model prog w) A (leaving env (.ref e)) Q E s:=by
 unfold leaving
 refine wpAny_bind (zb9 hfr S hf F hn0 fun h₁ oe vs T X₁ F₁ _ _ _=>?_)
 exact zbG (s:={ s with heap:=h₁ }) (fr:=(env::outer).filterMap (·.frame)) F₁ fun h₂ X₂ F₂=>h h₂ (X₁.trans X₂) F₂
end
noncomputable def noLoc:Loc:=fun _=>Option.none
noncomputable def FlR(prog:Program)(w:World)(hB:Heap)(env:Env)(fl:List Env)(h':Heap)(ι':Ad)(σ':zaa)(f:Fl)(x:Flow):Prop:=
 match f with
 | .next ρ'=>x=.next∧Inv prog w hB env ρ' fl h' ι' σ'
 | .ret v=>∃ y,x=.ret y∧Rep h' ι' σ' v y∧Inv prog w hB env noLoc fl h' ι' σ'
noncomputable def SimX(prog:Program)(w:World)(hB:Heap)(A:Around)(env:Env)(fl:List Env)(t:Sem Flow)(r:M Fl)(s:Shared)(ι:Ad)(σ:zaa):Prop:=
 ∀(Q:Flow→Shared→Prop)(E:Value→Shared→Prop),r σ≠.stuck→
  (∀ f σ',r σ=.ok f σ'→∀ x h' tk ι',Evo (dyn env) s.heap ι σ h' ι' σ'→FlR prog w hB env fl h' ι' σ' f x→Q x { s with heap:=h',toks:=tk })→
  (∀ C σ',r σ=.err C σ'→∀ e h' tk ι',Evo (dyn env) s.heap ι σ h' ι' σ'→Inv prog w hB env noLoc fl h' ι' σ'→Fly s.heap h' e C→E (.ref e) { s with heap:=h',toks:=tk })→
  wpAny (model prog w) A t Q E s
section
variable {prog:Program} {w:World} {hB:Heap} {A:Around} {s:Shared} {ι:Ad} {σ:zaa} {env:Env} {ρ:Loc} {fl:List Env} {sc:Scope} {K:Frag}
theorem SimX.fail{t:Sem Flow}:SimX prog w hB A env fl t M.fail s ι σ:=fun _ _ h _ _=>(h rfl).elim
theorem SimX.cond{t:Sem Flow}{b:Bool}{x y:M Fl}(hx:b=true→SimX prog w hB A env fl t x s ι σ)(hy:b=false→SimX prog w hB A env fl t y s ι σ):SimX prog w hB A env fl t (M.cond b x y) s ι σ:=by
 cases b
 ·exact hy rfl
 ·exact hx rfl
theorem SimX.res{t:Sem Flow}{r r':M Fl}(h:SimX prog w hB A env fl t r s ι σ)(e:r' σ=r σ):SimX prog w hB A env fl t r' s ι σ:=
 fun Q E hns hok herr=>h Q E (e▸hns) (fun a σ' q=>hok a σ' (e.trans q)) (fun C σ' q=>herr C σ' (e.trans q))
theorem Inv.noRho'{h:Heap}(I:Inv prog w hB env ρ fl h ι σ):Inv prog w hB env noLoc fl h ι σ:=I.sub fun _ _ e=>nomatch e
theorem SimX.after{α β:Type}{R:Heap→Ad→zaa→α→β→Prop}{t:Sem β}{r:M α}{f:α→M Fl}{k:β→Sem Flow}(I:Inv prog w hB env ρ fl s.heap ι σ)(h1:Sim prog w hB A R t r s ι σ)
  (h2:∀ a σ' x h' tk ι',r σ=.ok a σ'→Step prog w hB s.heap ι σ h' ι' σ'→R h' ι' σ' a x→SimX prog w hB A env fl (k x) (f a) { s with heap:=h',toks:=tk } ι' σ') :
  SimX prog w hB A env fl (t >>= k) (r.bind f) s ι σ:=by
 intro Q E hns hok herr
 have hl:=I.store.len
 have hne:r σ≠.stuck:=fun q=>hns (zae q)
 refine wpAny_bind (h1 _ _ hne (fun a σ₁ e₁ x h₁ tk₁ ι₁ X₁ r₁=>?_) (fun C σ₁ e₁ e h₁ tk₁ ι₁ X₁ F₁=>?_))
 ·have hb:(r.bind f) σ=f a σ₁:=by simp only [M.bind,e₁]
  refine h2 a σ₁ x h₁ tk₁ ι₁ e₁ X₁ r₁ Q E (by rw [← hb];exact hns) (fun b σ₂ e₂ y h₂ tk₂ ι₂ X₂ r₂=>?_) (fun C σ₂ e₂ e h₂ tk₂ ι₂ X₂ I₂ F₂=>?_)
  ·exact hok b σ₂ (hb.trans e₂) y h₂ tk₂ ι₂ ((X₁.evo.wide fun _ q=>nomatch q).trans hl X₂ fun b hb _ _=>hb) r₂
  ·exact herr C σ₂ (hb.trans e₂) e h₂ tk₂ ι₂ ((X₁.evo.wide fun _ q=>nomatch q).trans hl X₂ fun b hb _ _=>hb) I₂ (F₂.older X₁.evo.alive)
 ·exact herr C σ₁ (zap e₁) e h₁ tk₁ ι₁ (X₁.evo.wide fun _ q=>nomatch q) (I.step X₁).noRho' F₁
theorem SimX.standAt{t:Sem Flow}{r:M Fl}(p:Pos)(h:SimX prog w hB A env fl t r s ι σ):SimX prog w hB A env fl (do standAt p;t) r s ι σ:=fun Q E hns hok herr=>wpAny_bind (wpAny_standAt (h Q E hns hok herr))
theorem SimX.pure{f:Fl}{x:Flow}(h:FlR prog w hB env fl s.heap ι σ f x):SimX prog w hB A env fl (pure x) (M.ret f) s ι σ:=by
 intro Q E _ hok _
 exact wpAny_pure (hok f σ rfl x s.heap s.toks ι ((Evo.refl _ _ _).wide fun _ q=>nomatch q) h)
noncomputable abbrev ExIH(prog:Program)(w:World)(hB:Heap)(A:Around)(env:Env)(fl:List Env)(X:Loc→Stmt→M Fl):Prop:=
 ∀ st ρ s ι σ,Inv prog w hB env ρ fl s.heap ι σ→SimX prog w hB A env fl (exec st env) (X ρ st) s ι σ
theorem zg4{X:Loc→Stmt→M Fl}(IH:ExIH prog w hB A env fl X):∀(l:List Stmt)(ρ:Loc)(s:Shared)(ι:Ad)(σ:zaa),Inv prog w hB env ρ fl s.heap ι σ→SimX prog w hB A env fl (execs l env) (exs X ρ l) s ι σ
 | [],ρ,s,ι,σ,I=>fun Q E _ hok _=>wpAny_execs_nil (hok _ σ rfl _ s.heap s.toks ι ((Evo.refl _ _ _).wide fun _ q=>nomatch q) ⟨rfl,I⟩)
 | st::rest,ρ,s,ι,σ,I=>by
  intro Q E hns hok herr
  have hne:X ρ st σ≠.stuck:=fun q=>hns (zae q)
  refine wpAny_execs_cons (IH st ρ s ι σ I _ _ hne (fun f σ₁ e₁ x h₁ tk₁ ι₁ X₁ r₁=>?_) (fun C σ₁ e₁ e h₁ tk₁ ι₁ X₁ I₁ F₁=>herr C σ₁ (zap e₁) e h₁ tk₁ ι₁ X₁ I₁ F₁))
  cases f with
  | next ρ'=>
   obtain ⟨rfl,I₁⟩:=r₁
   have hb:exs X ρ (st::rest) σ=exs X ρ' rest σ₁:=zab e₁
   refine zg4 IH rest ρ' { s with heap:=h₁,toks:=tk₁ } ι₁ σ₁ I₁ Q E (by rw [← hb];exact hns) (fun b σ₂ e₂ y h₂ tk₂ ι₂ X₂ r₂=>?_) (fun C σ₂ e₂ e h₂ tk₂ ι₂ X₂ I₂ F₂=>?_)
   ·exact hok b σ₂ (hb.trans e₂) y h₂ tk₂ ι₂ (X₁.trans I.store.len X₂ fun b hb _ _=>hb) r₂
   ·exact herr C σ₂ (hb.trans e₂) e h₂ tk₂ ι₂ (X₁.trans I.store.len X₂ fun b hb _ _=>hb) I₂ (F₂.older X₁.alive)
  | ret v=>
   obtain ⟨y,rfl,r₁,I₁⟩:=r₁
   exact hok (.ret v) σ₁ (zab e₁) _ h₁ tk₁ ι₁ X₁ ⟨y,rfl,r₁,I₁⟩
theorem zlI{E:Expr→M PV}{e:Expr}{p:Pos}(IH:EvIH prog w hB A env ρ fl E)(I:Inv prog w hB env ρ fl s.heap ι σ):SimX prog w hB A env fl (exec (.Return (some e) p) env) ((E e).bind fun v=>M.ret (.ret v)) s ι σ:=by
 rw [exec_Return_some]
 refine SimX.standAt p (SimX.after I (IH e s ι σ I) fun v σ₁ x h₁ tk₁ ι₁ e₁ X₁ r₁=>SimX.pure ⟨x,rfl,r₁,(I.step X₁).noRho'⟩)
theorem x_if{cx:Cx}{n:Nat}{t:Expr}{a b:List Stmt}{p:Pos}{X:Loc→Stmt→M Fl}(hu:A.units+600<cLine)(IHe:∀ k,k≤n→EvIH prog w hB A env ρ fl (ev cx k sc ρ))(IH:ExIH prog w hB A env fl X)(I:Inv prog w hB env ρ fl s.heap ι σ) :
  SimX prog w hB A env fl (exec (.If t a b p) env) ((ev cx n sc ρ t).bind fun v=>(zar v).bind fun c=>M.cond c (exs X ρ a) (exs X ρ b)) s ι σ:=by
 rw [exec_If,← M.bind_assoc]
 refine SimX.standAt p (SimX.after I (zdb hu n IHe t s ι σ I) fun c σ₁ x h₁ tk₁ ι₁ e₁ X₁ r₁=>?_)
 cases r₁
 cases c
 ·exact zg4 IH b ρ _ ι₁ σ₁ (I.step X₁)
 ·exact zg4 IH a ρ _ ι₁ σ₁ (I.step X₁)
theorem zol{E:Expr→M PV}{e:Expr}{p:Pos}(H:EnvOk env sc)(hc:zh8 e=false)(hE:∀ elt g s p,E (.SetComp elt g s p)=M.fail)(hE':∀ k v g s p,E (.DictComp k v g s p)=M.fail)(IH:EvIH prog w hB A env ρ fl E)(I:Inv prog w hB env ρ fl s.heap ι σ) :
  SimX prog w hB A env fl (exec (.Expr e p) env) ((E e).bind fun _=>M.ret (.next ρ)) s ι σ:=by
 have hi:interactive env=false:=by simp [interactive,H.kind]
 have go:swapsWith e none p.line env=Pure.pure false→SimX prog w hB A env fl (exec (.Expr e p) env) ((E e).bind fun _=>M.ret (.next ρ)) s ι σ:=by
  intro hs Q Er hns hok herr
  have hne:E e σ≠.stuck:=fun q=>hns (zae q)
  refine wpAny_Expr_any (IH e s ι σ I _ _ hne (fun v σ₁ e₁ x h₁ tk₁ ι₁ X₁ r₁=>?_) (fun C σ₁ e₁ e h₁ tk₁ ι₁ X₁ F₁=>?_)) hi hs
  ·exact hok (.next ρ) σ₁ (zab e₁) _ h₁ tk₁ ι₁ (X₁.evo.wide fun _ q=>nomatch q) ⟨rfl,I.step X₁⟩
  ·exact herr C σ₁ (zap e₁) e h₁ tk₁ ι₁ (X₁.evo.wide fun _ q=>nomatch q) (I.step X₁).noRho' F₁
 cases e with
 | ListComp=>cases hc
 | SetComp=>rw [hE];exact SimX.fail
 | DictComp=>rw [hE'];exact SimX.fail
 | _=>exact go rfl
theorem zdm{h':Heap}{ρ':Loc}(F':FrOk hB env ρ' h' ι σ)(hk:∀ b o,b∉dyn env→s.heap.get? b=some o→h'.get? b=some o):Evo (dyn env) s.heap ι σ h' ι σ:=Evo.but hk (zck F')
theorem zf3{cx:Cx}{n:Nat}{y:Str}{py p sp:Pos}{t elt it:Expr}{ifs:List Expr}{csc:Scope} (hsw:swapsWith (.ListComp elt [⟨t,it,ifs,0⟩] csc p) (some (.Name y py)) sp.line env=Pure.pure true)
  (hG:GlobOk hB K cx.G) (hh:A.handled=none) (hu:A.units+600<cLine) (O:CompOk sc csc it) (H:EnvOk env sc) (hy:env.kindOf y=some .local∨env.kindOf y=some .cell)
  (IHo:EvIH prog w hB A env ρ fl (ev cx n sc ρ)) (IHi:∀ cenv,EnvOk cenv csc→∀ k,k≤n→∀ ρ',EvIH prog w hB A cenv ρ' fl (ev { cx with md:=⟨false,cx.md.lp⟩ } k csc ρ')) (I:Inv prog w hB env ρ fl s.heap ι σ) :
  SimX prog w hB A env fl (exec (.Assign [.Name y py] (.ListComp elt [⟨t,it,ifs,0⟩] csc p) sp) env) (((zey cx n sc csc ρ t elt it ifs).bind fun ys=>zaD cx p ys).bind fun v=>M.ret (.next (ρ.set y v))) s ι σ:=by
 rw [exec_Assign_Name_used _ _ _ _ hsw]
 refine SimX.standAt sp ?_
 intro Q Er hns hok herr
 refine wpAny_bind ?_
 show wpAny _ A (comprehension (.ListComp elt [⟨t,it,ifs,0⟩] csc p) csc env _ (newList []) false (eval it env) (some (assign (.Name y py) env)) >>= fun _=>Pure.pure ()) _ _ _
 refine wpAny_bind (zju hG hh hu O H IHo IHi I _ Er (fun q=>hns (zae (zae q))) (fun ys σ' e D C H' tk ι' X=>?_) (fun C σ' e e' h' tk ι' X F=>herr C σ' (zap (zap e)) e' h' tk ι' (X.evo.wide fun _ q=>nomatch q) (I.step X).noRho' F))
 obtain ⟨v,ι'',σ'',hm,Y,r,offC⟩:=zfj (cx:=cx) (p:=p) I.store X (Heap.SameBut.refl C H')
 show wpAny _ A (assign (.Name y py) env (.ref D)) _ _ _
 have I₁:=I.step Y
 have hCf:C∉fl.filterMap (·.frame):=fun q=>by obtain ⟨o,ho⟩:=I.stk.there q;rw [X.newC] at ho;cases ho
 have hCd:C∉dyn env:=fun q=>by obtain ⟨o,ho⟩:=zck I.fr C q;rw [X.newC] at ho;cases ho
 refine wpAny_assign_Name (zbF (s:={ s with heap:=H',toks:=tk }) H I₁ hy r _ _ fun h₂ tk₂ hk₂ I₂=>?_)
 obtain ⟨m,hmC⟩:=X.ns
 have hm₂:h₂.Ns C m:=by obtain ⟨o,es,ep,ho,q⟩:=hmC;exact ⟨o,es,ep,hk₂ C o hCd ho,q⟩
 refine ⟨m,hm₂,fun h₃ hs₃=>wpAny_pure (wpAny_pure ?_)⟩
 have hk₃:∀ b o,b∉[C]→h₂.get? b=some o→h₃.get? b=some o:=fun b o hb e=>(hs₃.2 b (fun q=>hb (by rw [q];exact .head _))).trans e
 have hO:Off ι'' [C] h₂:=fun b hb=>by
  rw [List.mem_singleton.mp hb]
  obtain ⟨o,es,ep,ho,hd,_⟩:=hm₂
  refine .inr fun o' ho'=>?_
  rw [ho] at ho';cases ho'
  exact ⟨fun vs n q=>(by rw [hd] at q;cases q),.inl fun vs q=>(by rw [hd] at q;cases q)⟩
 have I₃:=I₂.lost' hk₃ (fun b hb=>by rw [List.mem_singleton.mp hb];exact X.baseC) hO (fun b hb=>by rw [List.mem_singleton.mp hb];exact ⟨offC.1,fun q=>(offC.2 q).elim⟩) (fun b hb=>by rw [List.mem_singleton.mp hb];exact hCf) (fun b hb q=>hCd (by rw [← List.mem_singleton.mp q];exact hb))
 have X₂:Evo (dyn env) s.heap ι σ h₂ ι'' σ'':=(Y.evo.wide fun _ q=>nomatch q).trans I.store.len (zdm (s:={ s with heap:=H',toks:=tk }) I₂.fr hk₂) fun b hb _ _=>hb
 refine hok (.next (ρ.set y v)) σ'' (zab ((zab e).trans hm)) _ h₃ tk₂ ι'' (X₂.lost hk₃ fun b hb=>by rw [List.mem_singleton.mp hb];exact X.newC) ⟨rfl,I₃⟩
end
section
variable {prog:Program} {w:World} {hB:Heap} {A:Around} {s:Shared} {ι:Ad} {σ:zaa} {env:Env} {ρ:Loc} {fl:List Env} {sc:Scope} {K:Frag}
theorem SimX.res'{t:Sem Flow}{r r':M Fl}(h:SimX prog w hB A env fl t r s ι σ)(e:r' σ≠.stuck→r' σ=r σ):SimX prog w hB A env fl t r' s ι σ:=
 fun Q E hns hok herr=>h Q E (e hns▸hns) (fun a σ' q=>hok a σ' ((e hns).trans q)) (fun C σ' q=>herr C σ' ((e hns).trans q))
theorem zm2{y:Str}{v:PV}{x:Value}{py:Pos}(H:EnvOk env sc)(I:Inv prog w hB env ρ fl s.heap ι σ)(hy:env.kindOf y=some .local∨env.kindOf y=some .cell)(r:Rep s.heap ι σ v x) :
  SimX prog w hB A env fl (do standAt py;bindName env y x;Pure.pure .next) (M.ret (.next (ρ.set y v))) s ι σ:=by
 intro Q E _ hok _
 refine wpAny_bind (wpAny_standAt (wpAny_bind (wpAny_bindName (zbF H I hy r _ _ fun h' tk hk I'=>wpAny_pure ?_))))
 exact hok (.next (ρ.set y v)) σ rfl _ h' tk ι (zdm I'.fr hk) ⟨rfl,I'⟩
theorem zcF(sc:Scope)(ρ:Loc)(y:Str):((sc.names.lookup y=some .local∨sc.names.lookup y=some .cell)∧∀ v,zcG sc ρ v y=some (ρ.set y v))∨∀ v,zcG sc ρ v y=none:=by
 unfold zcG
 cases sc.names.lookup y with
 | none=>exact .inr fun _=>rfl
 | some k=>
  cases k with
  | «local»=>exact .inl ⟨.inl rfl,fun _=>rfl⟩
  | cell=>exact .inl ⟨.inr rfl,fun _=>rfl⟩
  | _=>exact .inr fun _=>rfl
theorem zpn{r:M PV}{y:Str} (h:(r.bind fun v=>(M.lift (zcG sc ρ v y)).bind fun ρ'=>M.ret (Fl.next ρ')) σ≠.stuck):(r.bind fun v=>(M.lift (zcG sc ρ v y)).bind fun ρ'=>M.ret (Fl.next ρ')) σ=(r.bind fun v=>M.ret (.next (ρ.set y v))) σ:=by
 cases hr:r σ with
 | stuck=>exact (zae hr).trans (zae hr).symm
 | err C σ'=>exact (zap hr).trans (zap hr).symm
 | ok v σ'=>
  rw [zab hr] at h ⊢
  rw [zab hr]
  rcases zcF sc ρ y with ⟨_,hb⟩ | hb
  ·rw [hb];rfl
  ·rw [hb] at h;exact (h rfl).elim
theorem zfu{E:Expr→M PV}{y:Str}{py sp:Pos}{e:Expr} (hs:swapsWith e (some (.Name y py)) sp.line env=Pure.pure false) (IH:EvIH prog w hB A env ρ fl E) (H:EnvOk env sc) (I:Inv prog w hB env ρ fl s.heap ι σ) :
  SimX prog w hB A env fl (exec (.Assign [.Name y py] e sp) env) ((E e).bind fun v=>(M.lift (zcG sc ρ v y)).bind fun ρ'=>M.ret (.next ρ')) s ι σ:=by
 rw [exec_Assign_Name env y py e sp hs]
 refine SimX.standAt sp (SimX.after I (IH e s ι σ I) fun v σ₁ x h₁ tk₁ ι₁ e₁ X₁ r₁=>?_)
 rcases zcF sc ρ y with ⟨hk,hb⟩ | hb
 ·rw [hb];exact zm2 (s:={ s with heap:=h₁,toks:=tk₁ }) H (I.step X₁) (zkR H hk) r₁
 ·rw [hb];exact SimX.fail
theorem zjs{cx:Cx}{d n:Nat}{md:Md}{y:Str}{py sp p:Pos}{elt:Expr}{gens:List Comprehension}{csc:Scope} (hsw:swapsWith (.ListComp elt gens csc p) (some (.Name y py)) sp.line env=Pure.pure true) (hy:env.kindOf y=some .local) (hG:GlobOk hB K cx.G) (hc:zg3 prog w hB d cx.call) (hA:Ar md d fl A) (H:EnvOk env sc) (I:Inv prog w hB env ρ fl s.heap ι σ) :
  SimX prog w hB A env fl (exec (.Assign [.Name y py] (.ListComp elt gens csc p) sp) env) ((zif { cx with md:=md } sc ρ (ev { cx with md:=md } n sc ρ) csc (fun ρ' e=>ev { cx with md:=⟨false,md.lp⟩ } n csc ρ' e) elt gens p).bind fun v=>(M.lift (zcG sc ρ v y)).bind fun ρ'=>M.ret (.next ρ')) s ι σ:=by
 cases gens with
 | nil=>exact SimX.fail
 | cons g r=>
  cases r with
  | cons _ _=>exact SimX.fail
  | nil=>
   obtain ⟨t,it,ifs,a⟩:=g
   unfold zif
   rw [M.cond_bind]
   refine SimX.cond (fun q=>?_) fun _=>SimX.fail
   rw [Bool.and_eq_true,Bool.and_eq_true,Bool.and_eq_true] at q
   obtain ⟨ha,⟨hlp,hco⟩,hnm⟩:=q
   have ha₂:a=0:=of_decide_eq_true ha
   subst ha₂
   refine (zf3 (cx:={ cx with md:=md }) (n:=n) (t:=t) (ifs:=ifs) hsw hG (hA.quiet (.inr hlp)) hA.units600 (zez hco) H (.inl hy) (zgl (A:=A) (fl:=fl) hG hc n md hA env sc H ρ)
    (fun cenv Hc k hk ρ'=>zgl hG hc k _ hA.inner cenv csc Hc ρ') I).res' fun hns=>(zpn hns).trans ?_
   exact congrFun (congrArg (fun m=>M.bind m _) (funext fun τ=>zex)) σ
theorem zf2{cx:Cx}{d n:Nat}{md:Md}{y:Str}{py sp:Pos}{e:Expr}(hG:GlobOk hB K cx.G)(hc:zg3 prog w hB d cx.call)(hA:Ar md d fl A)(H:EnvOk env sc)(I:Inv prog w hB env ρ fl s.heap ι σ) :
  SimX prog w hB A env fl (exec (.Assign [.Name y py] e sp) env) ((ev { cx with md:=md } n sc ρ e).bind fun v=>(asg (ev { cx with md:=md } n sc ρ) sc ρ (.Name y py) v).bind fun ρ'=>M.ret (.next ρ')) s ι σ:=by
 have plain:swapsWith e (some (.Name y py)) sp.line env=Pure.pure false→SimX prog w hB A env fl (exec (.Assign [.Name y py] e sp) env) ((ev { cx with md:=md } n sc ρ e).bind fun v=>(asg (ev { cx with md:=md } n sc ρ) sc ρ (.Name y py) v).bind fun ρ'=>M.ret (.next ρ')) s ι σ:=
  fun hs=>zfu hs (zgl (A:=A) (fl:=fl) hG hc n md hA env sc H ρ) H I
 cases e with
 | SetComp=>cases n <;> exact SimX.fail
 | DictComp=>cases n <;> exact SimX.fail
 | ListComp elt gens csc p=>
  generalize hb:(env.blockKind==.function&&env.kindOf y==some .local&&py.line==p.line&&!(csc.names.any fun (m,k)=>m==y&&(k==.local || k==.cell)))=b
  have hsw:swapsWith (.ListComp elt gens csc p) (some (.Name y py)) sp.line env=Pure.pure b:=hb▸rfl
  cases b with
  | false=>exact plain hsw
  | true=>
   cases n with
   | zero=>exact SimX.fail
   | succ n=>
    rw [Bool.and_eq_true,Bool.and_eq_true,Bool.and_eq_true] at hb
    exact zjs hsw (eq_of_beq hb.1.1.2) hG hc hA H I
 | _=>exact plain rfl
theorem zft{E:Expr→M PV}{ts:List Expr}{k:Nat}{tp sp:Pos}{e:Expr}(hh:A.handled=none)(H:EnvOk env sc)(he:zch e≠2)(IH:EvIH prog w hB A env ρ fl E)(I:Inv prog w hB env ρ fl s.heap ι σ) :
  SimX prog w hB A env fl (exec (.Assign [.Tuple ts k tp] e sp) env) ((E e).bind fun v=>(asg E sc ρ (.Tuple ts k tp) v).bind fun ρ'=>M.ret (.next ρ')) s ι σ:=by
 intro Q Er hns hok herr
 refine Assign_Tuple (IH e s ι σ I _ _ (fun q=>hns (zae q)) (fun v σ₁ e₁ x h₁ tk₁ ι₁ X₁ r₁=>?_) (fun C σ₁ e₁ e h₁ tk₁ ι₁ X₁ F₁=>herr C σ₁ (zap e₁) e h₁ tk₁ ι₁ (X₁.evo.wide fun _ q=>nomatch q) (I.step X₁).noRho' F₁)) (by cases e <;> rfl) (by cases e <;> first | rfl | exact (he rfl).elim)
 rw [zab e₁] at hns hok
 have I₁:=I.step X₁
 cases v with
 | tup xs=>
  obtain ⟨a,vs,m,rfl,hp,nl,rl⟩:=r₁.inv
  have hns:(M.lift (zbf sc ρ ts xs)).bind (fun ρ'=>M.ret (Fl.next ρ')) σ₁≠.stuck:=hns
  cases hb:zbf sc ρ ts xs with
  | none=>rw [hb] at hns;exact (hns rfl).elim
  | some ρ'=>
   obtain ⟨b1,b2,b3⟩:=zc5 (env:=env) ts hb
   have hsz:(assignEach ts env).length=vs.size:=(b2.trans b1).trans rl.length
   refine wpAny_assign_Tuple (s:={ s with heap:=h₁,toks:=tk₁ }) hh ⟨_,hp,rfl,_,rfl⟩ hsz b3 fun h₂ hx=>?_
   have hk:∀ b o,h₁.get? b=some o→h₂.get? b=some o:=fun b o e=>hx b o (Nat.ne_of_lt (Heap.lt_size e)) e
   have X₂:Step prog w hB h₁ ι₁ σ₁ h₂ ι₁ σ₁:=Step.keeps I₁.store I₁.stays hk
   refine zeO (fun _ h=>h) (zgg H) _ _ ts xs vs.toList ρ { s with heap:=h₂,toks:=tk₁ } hb (I₁.step X₂) (rl.step I₁.store.len X₂) fun h₃ tk₃ hk₃ I₃=>?_
   exact hok (.next ρ') σ₁ (by show (M.lift (zbf sc ρ ts xs)).bind (fun ρ'=>M.ret (Fl.next ρ')) σ₁=_;rw [hb];rfl) _ h₃ tk₃ ι₁ (((X₁.trans I.store.len X₂).evo.wide fun _ q=>nomatch q).trans I.store.len (zdm (s:={ s with heap:=h₂,toks:=tk₁ }) I₃.fr hk₃) fun b hb _ _=>hb) ⟨rfl,I₃⟩
 | _=>exact (hns rfl).elim
end
section
variable {prog:Program} {w:World} {hB:Heap} {A:Around} {s:Shared} {ι:Ad} {σ:zaa} {env:Env} {ρ:Loc} {fl outer:List Env} {sc:Scope} {K:Frag}
theorem Inv.soft{h₀ h h':Heap}(I:Inv prog w hB env ρ fl h ι σ) (X:Soft h₀ (fl.filterMap (·.frame)) h h') (B₀:∀ b o,hB.get? b=some o→h₀.get? b≠none):Inv prog w hB env ρ fl h' ι σ:=
 ⟨ziy I.stays X B₀ fun b hb=>(I.stk.fun_.mem hb).1,I.store.soft X I.stk.dicts I.stk.notLive,I.fr.soft X I.stk.dicts,I.stk.soft X⟩
theorem zdO{h:Heap}(B:hB.StaysIn h):∀ b o,hB.get? b=some o→h.get? b≠Option.none:=fun b o e q=>by rw [B b o e] at q;cases q
theorem zg7{L e C:Addr}{h₀:Heap}{ι₀:Ad}{σ₀:zaa}{E:Value→Shared→Prop}(hfr:A.frames=some (env::outer))(hf:env.frame=some L)(I:Inv prog w hB env noLoc (env::outer) s.heap ι σ)(X:Evo (dyn env) h₀ ι₀ σ₀ s.heap ι σ)(F:Fly h₀ s.heap e C)(B₀:hB.StaysIn h₀)
  (hE:∀ h',Evo (dyn env) h₀ ι₀ σ₀ h' ι σ→Inv prog w hB env noLoc (env::outer) h' ι σ→Fly h₀ h' e C→E (.ref e) { s with heap:=h' }) :
  notedBy (model prog w) A env (fun e s'=>cameBackBy (model prog w) A env E e s') (.ref e) s:=by
 refine zb9 hfr I.stk hf F X.alive fun h₁ oe vs T X₁ F₁ he hd h1=>?_
 refine wpAny_bind (wpAny_field (s:={ s with heap:=h₁ }) he hd h1 ?_)
 rw [if_neg (by simp)]
 refine zbG (s:={ s with heap:=h₁ }) (fr:=(env::outer).filterMap (·.frame)) F₁ fun h₂ X₂ F₂=>?_
 have XX:=X₁.trans X₂
 exact hE h₂ (X.soft XX I.stk.dicts) (I.soft XX (zdO B₀)) F₂
structure ForFix (prog:Program) (w:World) (hB:Heap) (A:Around) (t:Expr) (env:Env) (I:Addr) (fp own hd:List Addr) (src:Src) (St:Nat→Heap→Prop) (h₀:Heap) (ι₀:Ad) (σ₀:zaa) (h₁:Heap) (ι₁:Ad) (σ₁:zaa):Prop where
 len₀:ι₀.vis.length=σ₀.length
 X:Evo [] h₀ ι₀ σ₀ h₁ ι₁ σ₁
 len:ι₁.vis.length=σ₁.length
 Z:Itr prog w hB A t I fp own hd src St h₁ ι₁ σ₁
 st₀:St 0 h₁
 own₀:∀ b∈own,h₀.get? b=none
 own:∀ b∈own,hB.get? b=none
 dyn:∀ b∈dyn env,b∉fp
structure ForAt (prog:Program) (w:World) (hB:Heap) (env:Env) (fl:List Env) (own:List Addr) (St:Nat→Heap→Prop) (h₁:Heap) (ι₁:Ad) (σ₁:zaa) (ρ':Loc) (H:Heap) (ι':Ad) (σ':zaa) (j:Nat):Prop where
 inv:Inv prog w hB env ρ' fl H ι' σ'
 evo:Evo (own++dyn env) h₁ ι₁ σ₁ H ι' σ'
 st:St j H
section
variable {t:Expr} {I:Addr} {fp own hd:List Addr} {src:Src} {St:Nat→Heap→Prop} {h₀ h₁ H h':Heap} {ι₀ ι₁ ι' ι'':Ad} {σ₀ σ₁ σ' σ'':zaa} {ρi ρj:Loc} {j:Nat}
theorem ForFix.base(F:ForFix prog w hB A t env I fp own hd src St h₀ ι₀ σ₀ h₁ ι₁ σ₁)(X:Evo (own++Mine.dyn env) h₁ ι₁ σ₁ h' ι' σ'):Evo (Mine.dyn env) h₀ ι₀ σ₀ h' ι' σ':=
 (F.X.wide fun _ q=>nomatch q).trans F.len₀ X fun b hb o e=>by
  rcases List.mem_append.mp hb with hb | hb
  ·rw [F.own₀ b hb] at e;cases e
  ·exact hb
theorem ForAt.notL(F:ForFix prog w hB A t env I fp own hd src St h₀ ι₀ σ₀ h₁ ι₁ σ₁)(V:ForAt prog w hB env fl own St h₁ ι₁ σ₁ ρi H ι' σ' j):∀ b∈fp,¬ zco ι' σ' b:=fun b hb=>by
 obtain ⟨o,ho,_⟩:=F.Z.there 0 h₁ F.st₀ b hb
 exact V.evo.weak.notLiveV F.len ho (F.Z.notLive b hb)
theorem ForAt.noDict(F:ForFix prog w hB A t env I fp own hd src St h₀ ι₀ σ₀ h₁ ι₁ σ₁)(V:ForAt prog w hB env fl own St h₁ ι₁ σ₁ ρi H ι' σ' j):∀ b∈fp,∀ o,H.get? b=some o→∀ es n,o.data≠.dict es n:=fun b hb o ho=>by
 obtain ⟨o',ho',hd⟩:=F.Z.there _ _ V.st b hb;rw [ho] at ho';cases ho';exact hd
theorem ForAt.item(F:ForFix prog w hB A t env I fp own hd src St h₀ ι₀ σ₀ h₁ ι₁ σ₁)(V:ForAt prog w hB env fl own St h₁ ι₁ σ₁ ρi H ι' σ' j)(hk:∀ b o,b∉own→H.get? b=some o→h'.get? b=some o)(st:St (j+1) h'):ForAt prog w hB env fl own St h₁ ι₁ σ₁ ρi h' ι' σ' (j+1):=by
 have ht:∀ b∈own,∃ o,h'.get? b=some o:=fun b hb=>by obtain ⟨o,ho,_⟩:=F.Z.there _ _ st b (F.Z.sub b hb);exact ⟨o,ho⟩
 have hfr:=F.Z.freshAt F.st₀ V.evo (F.Z.hdT _ _ st)
 exact ⟨V.inv.but hk ht F.own (F.Z.okAt V.evo V.st) (fun b hb=>V.notL F b (F.Z.sub b hb)) (fun b hb q=>(hfr b hb).2 q) (fun b hb=>V.noDict F b (F.Z.sub b hb)) (fun b hb q=>F.dyn b hb (F.Z.sub b q)),V.evo.trans F.len (Evo.but hk ht) fun b hb _ _=>List.mem_append_left _ hb,st⟩
theorem ForAt.bound(F:ForFix prog w hB A t env I fp own hd src St h₀ ι₀ σ₀ h₁ ι₁ σ₁)(V:ForAt prog w hB env fl own St h₁ ι₁ σ₁ ρi H ι' σ' j)(hk:∀ b o,b∉Mine.dyn env→H.get? b=some o→h'.get? b=some o)(I₃:Inv prog w hB env ρj fl h' ι' σ'):ForAt prog w hB env fl own St h₁ ι₁ σ₁ ρj h' ι' σ' j:=
 ⟨I₃,V.evo.trans F.len (Evo.but hk (zck I₃.fr)) fun b hb _ _=>List.mem_append_right _ hb,F.Z.frame _ _ _ V.st fun b hb o e=>hk b o (fun q=>F.dyn b q hb) e⟩
theorem ForAt.step(F:ForFix prog w hB A t env I fp own hd src St h₀ ι₀ σ₀ h₁ ι₁ σ₁)(V:ForAt prog w hB env fl own St h₁ ι₁ σ₁ ρi H ι' σ' j)(X:Evo (Mine.dyn env) H ι' σ' h' ι'' σ'')(I₃:Inv prog w hB env ρj fl h' ι'' σ''):ForAt prog w hB env fl own St h₁ ι₁ σ₁ ρj h' ι'' σ'' j:=
 ⟨I₃,V.evo.trans F.len X fun b hb _ _=>List.mem_append_right _ hb,F.Z.frame _ _ _ V.st fun b hb o e=>(X.keep b o e (V.notL F b hb) fun q=>F.dyn b q hb).2 (V.noDict F b hb o e)⟩
end
inductive ForI (P:Loc→Heap→Ad→zaa→Nat→Prop) (k:List PV→Loc→M Fl) (xs:List PV) (r:Rs Fl) (s:Shared):Nat→Shared→Prop
 | mk (H:Heap) (tk:Nat) (ρ':Loc) (ι':Ad) (σ':zaa) (j:Nat):P ρ' H ι' σ' j→j≤xs.length→r=k (xs.drop j) ρ' σ'→ForI P k xs r s (xs.length+1-j) { s with heap:=H,toks:=tk }
theorem znU{chk:M Unit}{t:Expr}{X:Loc→M Fl}{xs:List PV}(hc:chk σ=.ok () σ∨chk σ=.stuck)(hns:forL chk sc t X xs ρ σ≠.stuck):chk σ=.ok () σ:=by
 rcases hc with q | q
 ·exact q
 ·refine (hns ?_).elim
  cases xs <;> exact zae q
theorem zjr{X:Loc→M Fl}{L Ia:Addr}{t:Expr}{b:List Stmt}{fp own hd:List Addr}{src:Src}{St:Nat→Heap→Prop}{h₀:Heap}{ι₀:Ad}{σ₀:zaa}{R:Result→Shared→Prop}{Q:Flow→Shared→Prop}{E:Value→Shared→Prop}(F:ForFix prog w hB A t env Ia fp own hd src St h₀ ι₀ σ₀ s.heap ι σ)(B₀:hB.StaysIn h₀)(hh:A.handled=none)(H:EnvOk env sc)(hfr:A.frames=some (env::outer))(hf:env.frame=some L)
  (hR:∀ f s',Q f s'→R (.ok f) s') (hRe:∀ e s',cameBackBy (model prog w) A env E e s'→R (.error e) s')
  (hX:∀ ρ s ι σ,Inv prog w hB env ρ (env::outer) s.heap ι σ→SimX prog w hB A env (env::outer) (execs b env) (X ρ) s ι σ) (I:Inv prog w hB env ρ (env::outer) s.heap ι σ)
  (hns:forL (chkW src.watch) sc t X src.xs ρ σ≠.stuck)
  (hok:∀ a σ',forL (chkW src.watch) sc t X src.xs ρ σ=.ok a σ'→∀ x h' tk ι',Evo (dyn env) h₀ ι₀ σ₀ h' ι' σ'→FlR prog w hB env (env::outer) h' ι' σ' a x→Q x { s with heap:=h',toks:=tk })
  (herr:∀ C σ',forL (chkW src.watch) sc t X src.xs ρ σ=.err C σ'→∀ e h' tk ι',Evo (dyn env) h₀ ι₀ σ₀ h' ι' σ'→Inv prog w hB env noLoc (env::outer) h' ι' σ'→Fly h₀ h' e C→E (.ref e) { s with heap:=h',toks:=tk }) :
  codeAny (model prog w) A (.forLoop t (.ref Ia) b [] env) R s:=by
 have hD:NoSeq (dyn env) s.heap:=I.fr.noSeq
 refine codeAny_forLoop_any (ForI (ForAt prog w hB env (env::outer) own St s.heap ι σ) (forL (chkW src.watch) sc t X) src.xs (forL (chkW src.watch) sc t X src.xs ρ σ) s) ?_ (src.xs.length+1)
  (.mk s.heap s.toks ρ ι σ 0 ⟨I,(Evo.refl _ _ _).wide (fun _ q=>nomatch q),F.st₀⟩ (Nat.zero_le _) rfl)
 intro k s' V
 cases V with
 | mk H' tk ρ' ι' σ' j V hj eq=>
  rw [eq] at hns hok herr
  have hchk:=znU (zfk src.watch σ') hns
  cases hx:src.xs[j]? with
  | none=>
   have hje:src.xs.length≤j:=List.getElem?_eq_none_iff.mp hx
   rw [List.drop_eq_nil_of_le hje] at hok
   have hst:St src.xs.length H':=Nat.le_antisymm hj hje▸V.st
   refine F.Z.done (dyn env) { s with heap:=H',toks:=tk } ι' σ' hD V.evo V.inv.store hst hchk _ _ fun h₂ tk₂ hk hd₂=>?_
   have I₂:=V.inv.lost hk F.own (F.Z.okAt V.evo V.st) (F.Z.freshAt F.st₀ V.evo hd₂) (fun b hb=>V.noDict F b (F.Z.sub b hb)) (fun b hb q=>F.dyn b hb (F.Z.sub b q))
   exact wpAny_execs_nil (hR _ _ (hok (.next ρ') σ' (zab hchk) _ h₂ tk₂ ι' ((F.base V.evo).lost hk F.own₀) ⟨rfl,I₂⟩))
  | some v=>
   rw [zlb hx] at eq hns hok herr
   have e1:forL (chkW src.watch) sc t X (v::src.xs.drop (j+1)) ρ' σ'=((M.lift (zfY sc ρ' t v)).bind fun ρ₂=>(X ρ₂).bind (flK fun ρ''=>forL (chkW src.watch) sc t X (src.xs.drop (j+1)) ρ'')) σ':=zab hchk
   cases hb:zfY sc ρ' t v with
   | none=>exact (hns (e1.trans (by rw [hb];rfl))).elim
   | some ρ₂=>
    have e2:forL (chkW src.watch) sc t X (v::src.xs.drop (j+1)) ρ' σ'=(X ρ₂).bind (flK fun ρ''=>forL (chkW src.watch) sc t X (src.xs.drop (j+1)) ρ'') σ':=e1.trans (by rw [hb];rfl)
    rw [e2] at eq hns hok herr
    have hjl:j<src.xs.length:=(List.getElem?_eq_some_iff.mp hx).1
    refine F.Z.item (dyn env) j { s with heap:=H',toks:=tk } ι' σ' v hD V.evo V.inv.store V.st hchk hx _ _ _ (fun _ _ h=>h) fun y h₂ tk₂ r₂ st₂ hk₂=>?_
    have V₂:=V.item F hk₂ st₂
    refine zhO (s:={ s with heap:=h₂,toks:=tk₂ }) hh (fun _ h=>h) (zgg H) hb V₂.inv r₂ _ _ fun h₃ tk₃ hk₃ I₃=>?_
    have V₃:=V₂.bound F hk₃ I₃
    refine hX ρ₂ { s with heap:=h₃,toks:=tk₃ } ι' σ' I₃ _ _ (fun q=>hns (zae q)) (fun f σ₂ e₂ z h₄ tk₄ ι₄ X₄ r₄=>?_) (fun C σ₂ e₂ e h₄ tk₄ ι₄ X₄ I₄ F₄=>?_)
    ·cases f with
     | next ρ''=>obtain ⟨rfl,I₄⟩:=r₄;exact ⟨_,Nat.sub_lt_sub_left (Nat.lt_succ_of_lt hjl) (Nat.lt_succ_self j),.mk h₄ tk₄ ρ'' ι₄ σ₂ (j+1) (V₃.step F X₄ I₄) hjl (eq.trans (zab e₂))⟩
     | ret u=>
      obtain ⟨z,rfl,r₄,I₄⟩:=r₄
      exact hR _ _ (hok (.ret u) σ₂ (zab e₂) _ h₄ tk₄ ι₄ (F.base (V₃.step F X₄ I₄).evo) ⟨z,rfl,r₄,I₄⟩)
    ·have V₄:=V₃.step F X₄ I₄
     have cb:=zg7 (s:={ s with heap:=h₄,toks:=tk₄ }) hfr hf I₄ (F.base V₄.evo) (F₄.older (F.base V₃.evo).alive) B₀ fun h' X₅ I₅ F₅=>herr C σ₂ (zap e₂) e h' tk₄ ι₄ X₅ I₅ F₅
     exact wpAny_mono cb (fun _ _ h=>hRe _ _ h) fun _ _ h=>hRe _ _ h
theorem znv{cx:Cx}{E:Expr→M PV}{t it:Expr}(hE:∀ a b c,E (.Set a b c)=M.fail)(hns:zcu cx sc ρ E t it σ≠.stuck)(v:Value):foldedSetIterable it env v=Pure.pure v:=by
 cases it with
 | Set a b c=>exact (hns (zae (by rw [hE];rfl))).elim
 | _=>rfl
theorem zpu{cx:Cx}{E:Expr→M PV}{X:Loc→M Fl}{L:Addr}{p:Pos}{t it:Expr}{b:List Stmt}(hG:GlobOk hB K cx.G)(hh:A.handled=none)(H:EnvOk env sc)(hfr:A.frames=some (env::outer))(hf:env.frame=some L)
  (IHe:EvIH prog w hB A env ρ (env::outer) E) (hst:∀ e p,E (.Starred e p)=M.fail) (hE:∀ a b c,E (.Set a b c)=M.fail)
  (hX:∀ ρ s ι σ,Inv prog w hB env ρ (env::outer) s.heap ι σ→SimX prog w hB A env (env::outer) (execs b env) (X ρ) s ι σ)
  (I:Inv prog w hB env ρ (env::outer) s.heap ι σ) :
  SimX prog w hB A env (env::outer) (exec (.For t it b [] p) env) ((zcu cx sc ρ E t it).bind fun src=>forL (chkW src.watch) sc t X src.xs ρ) s ι σ:=by
 intro Q Er hns hok herr
 refine wpAny_For (zmD hG hh H IHe hst I _ _ (fun q=>hns (zae q)) (fun src σ₁ e₁ itv h₁ tk₁ ι₁ X₁ Md=>?_) (fun C σ' e e' h' tk ι' X F=>herr C σ' (zap e) e' h' tk ι' (X.evo.wide fun _ q=>nomatch q) (I.step X).noRho' F)) (znv hE fun q=>hns (zae q))
 obtain ⟨Ia,fp,own,hd,St,rfl,Z,st₀,hown₀,hdyn⟩:=Md
 rw [zab e₁] at hns hok herr
 have I₁:=I.step X₁
 exact zjr (s:={ s with heap:=h₁,toks:=tk₁ }) ⟨I.store.len,X₁.evo,I₁.store.len,Z,st₀,hown₀,fun b hb=>zba I.stays (hown₀ b hb),hdyn⟩ I.stays hh H hfr hf (fun _ _ h=>h) (fun _ _ h=>h) hX I₁ hns hok herr
end
structure ExcOk (hB:Heap) (K:Frag) (G:Gl):Prop where
 raises:∀ x C,G.names.lookup x=some (.cls C)→∃ Bn newId inN bmN B nid initId bmB,ExcBaseFacts Bn newId inN bmN∧bmB.contains (.type Bn)=true∧ExcBaseFacts B nid initId bmB∧
  ∃ bm N nm q bs hdct sn sub ab col dd k0 k1 k2 k3 k5 mN,hB.get? C=some (excClassObj nm q C N bs bm hdct sn sub ab col dd k0 k1 k2 k3 k5 newId)∧hB.Ns N mN∧mN "__init__"=none∧OwnTail hB bmB bm
 exm:∀ C D,G.sub.contains (C,D)=true→exmOne K (.ref C) (.ref D)=some true
section
variable {prog:Program} {w:World} {hB:Heap} {A:Around} {s:Shared} {ι:Ad} {σ:zaa} {env:Env} {ρ:Loc} {fl outer:List Env} {sc:Scope} {K:Frag} {h h':Heap}
theorem zea{cx:Cx}{x:Str}{C:Addr}(hr:zat cx sc ρ x=some (.cls C)):sc.names.lookup x=some .globalImplicit∧cx.G.names.lookup x=some (.cls C):=by
 rcases zbw hr with ⟨v,q,_⟩ | ⟨_,k,⟨a,q,e⟩ | ⟨a,q,e⟩ | ⟨v,q,e⟩ | ⟨q,e⟩⟩
 ·cases q
 ·cases q
 ·cases q;exact ⟨k,e⟩
 ·cases q
 ·cases q
theorem zm3{cx:Cx}{d:Nat}{x:Str}{np cp cpos pos:Pos}{t:Str}{k:Nat}(hG:GlobOk hB K cx.G)(hX:ExcOk hB K cx.G)(hc:zg3 prog w hB d cx.call)(hA:Ar cx.md d fl A)(H:EnvOk env sc)(I:Inv prog w hB env ρ fl s.heap ι σ) :
  SimX prog w hB A env fl (exec (.Raise (some (.Call (.Name x np) [.Constant (.str t) k cp] [] cpos)) none pos) env)
   (M.cond cx.md.rz (zer cx sc ρ x) M.fail) s ι σ:=by
 refine SimX.cond (fun hrz=>?_) fun _=>SimX.fail
 unfold zer
 cases hr:zat cx sc ρ x with
 | none=>exact SimX.fail
 | some v=>
  cases v with
  | cls C=>
   intro Q E hns hok herr
   obtain ⟨hl,hn⟩:=zea hr
   obtain ⟨Bn,newId,inN,bmN,B,nid,initId,bmB,Fn,hBn,FB,bm,N,nm,q,bs,hdct,sn,sub,ab,col,dd,k0,k1,k2,k3,k5,mN,hC,hN,hni,T⟩:=hX.raises x C hn
   obtain ⟨mg,mb,hg,hb,_,hcl,_⟩:=hG.g.ns
   have hp:zau [.Constant (.str t) k cp]=true:=rfl
   refine wpAny_Raise_call_subU (C:=C) (nm:=nm) (q:=q) (N:=N) (bs:=bs) (bm:=bm) (hdct:=hdct) (sn:=sn) (sub:=sub) (ab:=ab) (col:=col) (dd:=dd) (k0:=k0) (k1:=k1) (k2:=k2) (k3:=k3) (k5:=k5)
    Fn hBn FB (mN:=mN) (T.hasType FB.hasBase) (hA.quiet (.inl hrz)) (zaK cpos hp) hni (zce H I.stays hl hg (hcl x C hn) _ _ ⟨rfl,?_⟩)
   refine zcM (f:=.ref C) (zgl (cx:=cx) hG hc 1 cx.md hA env sc H ρ) zaR cpos hp I _ _ (by intro q;cases q) (fun vs σ₁ e₁ a h₁ tk₁ ι₁ X₁ r₁=>?_) (fun C' σ₁ e₁=>by cases e₁)
   cases e₁
   have I₁:=I.step X₁
   refine ⟨r₁.2,?_,I₁.stays _ _ hC,hN.keeps I₁.stays,T.keeps I₁.stays,fun h' e hm=>?_⟩
   ·rw [← r₁.1.length];show 1≤sizeLine;decide
   ·have X₂:Step prog w hB h₁ ι₁ σ h' ι₁ σ:=Step.keeps I₁.store I₁.stays hm.keeps
    obtain ⟨t',ht,_⟩:=hm.there
    exact herr C σ rfl e h' tk₁ ι₁ ((X₁.trans I.store.len X₂).evo.wide fun _ q=>nomatch q) (I₁.step X₂).noRho' ⟨za5 X₁.evo.alive hm.new,_,_,ht,⟨rfl,rfl⟩,rfl,(show 1<6 by decide),.inl rfl⟩
  | fn=>exact SimX.fail
  | val=>exact SimX.fail
  | bi=>exact SimX.fail
theorem Inv.unset{x:Str}{u:Option Value}{m:Str→Option Value}(I:Inv prog w hB env ρ fl h ι σ)(hm:h.Ns env.locals m)(hv:∀ x v,ρ x=some v→env.kindOf x=some .local→∃ y,m x=some y∧Rep h ι σ v y)
  (hn:h'.Ns env.locals (fun z=>if z=x then u else m z)) (hs:Heap.SameBut env.locals h h'):Inv prog w hB env (ρ.drop x) fl h' ι σ:=by
 have F:=I.fr
 have hk:∀ b o,b∉[env.locals]→h.get? b=some o→h'.get? b=some o:=fun b o hb e=>(hs.2 b (fun q=>hb (by rw [q];exact .head _))).trans e
 have ht:∀ b∈[env.locals],∃ o,h'.get? b=some o:=fun b hb=>by rw [List.mem_singleton.mp hb];obtain ⟨o,_,_,ho,_⟩:=hn;exact ⟨o,ho⟩
 have X:Evo [env.locals] h ι σ h' ι σ:=Evo.but hk ht
 have hO:Off ι [env.locals] h:=fun b hb=>.inr (F.noSeq b (by rw [List.mem_singleton.mp hb];exact .head _))
 have hnl:∀ b∈[env.locals],¬ zco ι σ b:=fun b hb=>by rw [List.mem_singleton.mp hb];exact zaI (F.own _ (.head _)).1
 have up:∀ {c y},h.IsCell c y→h'.IsCell c y:=fun hc=>IsCell.sameBut hc hs (zdt hm hc).symm
 have get:∀ {z v},(ρ.drop x) z=some v→z≠x∧ρ z=some v:=fun {z v} e=>by
  unfold Loc.drop at e
  split at e
  ·cases e
  ·rename_i q;exact ⟨q,e⟩
 refine ⟨fun b o e=>hk b o (fun q=>by rw [List.mem_singleton.mp q,(F.own _ (.head _)).2] at e;cases e) (I.stays b o e),I.store.but hk ht hO hnl (fun b hb q=>by rw [List.mem_singleton.mp hb] at q;exact ((F.off _ (.head _)).2 q).elim),?_,I.stk.evo I.store.len X fun b hb _=>?_⟩
 ·refine ⟨⟨_,hn,fun z v e k=>?_⟩,fun z v e k=>?_,fun z v e=>F.kinds z v (get e).2,fun z k=>?_,F.apart,F.own,fun b hb=>?_,F.off⟩
  ·obtain ⟨hz,e⟩:=get e
   obtain ⟨y',hy,r'⟩:=hv z v e k
   exact ⟨y',by simp only [hz,if_false];exact hy,r'.evo' I.store.len X hO⟩
  ·obtain ⟨c,y',hc,hy,r'⟩:=F.cel z v (get e).2 k
   exact ⟨c,y',hc,up hy,r'.evo' I.store.len X hO⟩
  ·obtain ⟨c,y',hc,hy⟩:=F.cells z k;exact ⟨c,y',hc,up hy⟩
  ·obtain ⟨y',hy⟩:=F.cellsAt b hb;exact ⟨y',up hy⟩
 ·rw [List.mem_singleton.mp hb];obtain ⟨o,es,ep,ho,hd,_⟩:=hn;exact ⟨o,es,ep,ho,hd⟩
theorem zf4{x:Str}{pos:Pos}(H:EnvOk env sc)(hx:env.kindOf x=some .local)(I:Inv prog w hB env ρ fl s.heap ι σ)(Q:Unit→Shared→Prop)(E:Value→Shared→Prop)
  (hQ:∀ h' tk,(∀ b o,b∉dyn env→s.heap.get? b=some o→h'.get? b=some o)→Inv prog w hB env (ρ.drop x) fl h' ι σ→Q () { s with heap:=h',toks:=tk }) :
  wpAny (model prog w) A (do bindName env x .none;unbindBehindTheSuite env x pos) Q E s:=by
 refine wpAny_bind (wpAny_bindName ?_)
 obtain ⟨m,hm,hv⟩:=I.fr.ns
 refine wpAny_storeName_local hx hm (fun h₁ hn₁ hs₁=>?_) (zfy H)
 have I₁:=I.setLocal (v:=.none) hx hm hv hn₁ hs₁ .none
 unfold unbindBehindTheSuite
 refine wpAny_onRaise ?_
 obtain ⟨m₁,hm₁,hv₁⟩:=I₁.fr.ns
 obtain ⟨y,hy,_⟩:=hv₁ x .none (by simp [Loc.set]) hx
 refine wpAny_unbindName_local (s:={ s with heap:=h₁,toks:=s.toks+1 }) hx hm₁ hy (zfy H) fun h₂ u hn₂ hs₂=>?_
 refine hQ h₂ _ (fun b o hb e=>?_) ((I₁.unset hm₁ hv₁ hn₂ hs₂).sub fun z v e=>?_)
 ·have hne:b≠env.locals:=fun q=>hb (by rw [q];exact .head _)
  exact (hs₂.2 b hne).trans ((hs₁.2 b hne).trans e)
 ·unfold Loc.drop at e ⊢
  split at e
  ·cases e
  ·rename_i q;simp only [q,if_false,Loc.set];exact e
theorem FlR.drop{x:Str}{f:Fl}{y:Flow}{h h':Heap}{ι:Ad}{σ:zaa}(hl:ι.vis.length=σ.length)(X:Evo (dyn env) h ι σ h' ι σ)(hD:NoSeq (dyn env) h)(r:FlR prog w hB env fl h ι σ f y)(hI:∀ ρ',Inv prog w hB env ρ' fl h ι σ→Inv prog w hB env (ρ'.drop x) fl h' ι σ):FlR prog w hB env fl h' ι σ (zcE x f) y:=by
 cases f with
 | next ρ'=>obtain ⟨rfl,I⟩:=r;exact ⟨rfl,hI ρ' I⟩
 | ret v=>obtain ⟨z,rfl,rz,I⟩:=r;exact ⟨z,rfl,rz.evo hl X hD,(hI _ I).noRho'⟩
end
section
variable {prog:Program} {w:World} {hB:Heap} {A:Around} {s:Shared} {ι:Ad} {σ:zaa} {env:Env} {ρ:Loc} {fl outer:List Env} {sc:Scope} {K:Frag} {h h':Heap}
theorem Fly.rep{h₀:Heap}{e C:Addr}(S:StoreOk prog w hB h ι σ)(F:Fly h₀ h e C):Rep h ι σ (.exc C) (.ref e):=by
 obtain ⟨_,oe,vs,he,⟨hc,hk⟩,hd,_⟩:=F
 refine .exc he hc hd hk ?_
 rintro (⟨i,c,hi,hci,hdd⟩ | q)
 ·have x:=S.ok i e c hi hci
  cases c with
  | dead=>exact hdd rfl
  | list xs=>obtain ⟨us,⟨n,hp⟩,_⟩:=x;rw [he] at hp;cases hp;cases hd
  | dict kvs=>obtain ⟨ys,⟨o,es,ep,ho,_,hdt,_⟩,_⟩:=x;rw [he] at ho;cases ho;rw [hd] at hdt;cases hdt
 ·obtain ⟨o,ho,hf⟩:=S.hthere e q
  rw [he] at ho;cases ho;exact hf vs hd
theorem Ar.handler{md:Md}{d:Nat}{v:Option Value}(H:Ar md d fl A):Ar ⟨false,false⟩ d fl (A.mark v):=⟨H.frames,H.depth,H.units,fun q=>q.elim (fun q=>nomatch q) fun q=>nomatch q⟩
theorem zjh{cx:Cx}{Xh:Loc→Stmt→M Fl}{C:Addr}{x y:Str}{hb:List Stmt}(hns:zc0 cx sc Xh C x y hb σ≠.stuck):∃ D b₀ suite f' σ₂,zat cx sc (fun _=>Option.none) x=some (.cls D)∧cx.G.sub.contains (C,D)=true∧sc.names.lookup y=some .local∧hb=b₀::suite∧
  exs Xh (noLoc.set y (.exc C)) hb σ=.ok f' σ₂∧zc0 cx sc Xh C x y hb σ=.ok (zcE y f') σ₂:=by
 unfold zc0 at hns ⊢
 cases hr:zat cx sc (fun _=>Option.none) x with
 | none=>rw [hr] at hns;exact (hns rfl).elim
 | some v=>
  rw [hr] at hns
  cases v with
  | cls D=>
   have hns:M.cond (cx.G.sub.contains (C,D)&&decide (sc.names.lookup y=some .local)&&!hb.isEmpty) (M.noErr ((M.lift (zdq sc (fun _=>Option.none) (.exc C) (.Name y ⟨0,0,0,0⟩))).bind fun ρ'=>(exs Xh ρ' hb).bind fun f=>M.ret (zcE y f))) M.fail σ≠.stuck:=hns
   cases hq:cx.G.sub.contains (C,D)&&decide (sc.names.lookup y=some .local)&&!hb.isEmpty with
   | false=>rw [hq] at hns;exact (hns rfl).elim
   | true=>
    rw [hq] at hns
    have hq₀:=hq
    rw [Bool.and_eq_true,Bool.and_eq_true] at hq
    have hy:=of_decide_eq_true hq.1.2
    obtain ⟨g,σ₂,hg,hg'⟩:=zgw hns
    obtain ⟨ρ',τ,h1,h2⟩:=zb4 hg
    obtain ⟨h3,rfl⟩:=zh4 h1
    have h3:zcG sc (fun _=>Option.none) (.exc C) y=some ρ':=h3
    rcases zcF sc (fun _=>Option.none) y with ⟨_,hbn⟩ | hbn
    ·rw [hbn] at h3;cases h3
     obtain ⟨f',τ',h4,h5⟩:=zb4 h2
     cases h5
     cases hb with
     | nil=>exact nomatch hq.2
     | cons b₀ suite=>exact ⟨D,b₀,suite,f',σ₂,rfl,hq.1.1,hy,rfl,h4,(congrArg (fun q=>M.cond q _ M.fail _) hq₀).trans hg'⟩
    ·rw [hbn] at h3;cases h3
  | _=>exact (hns rfl).elim
theorem zlJ{cx:Cx}{n:Nat}{C:Addr}{y:Str}{hp:Pos}{b₀:Stmt}{suite:List Stmt}{h₀:Heap}{ι₀:Ad}{σ₀:zaa}{f':Fl}{σ₂:zaa}{A':Around}(hl:ι₀.vis.length=σ₀.length)(H:EnvOk env sc)(hy:sc.names.lookup y=some .local)
  (IHh:ExIH prog w hB A' env fl (ex cx n sc)) (I:Inv prog w hB env (noLoc.set y (.exc C)) fl s.heap ι σ) (X:Evo (dyn env) h₀ ι₀ σ₀ s.heap ι σ) (hg:exs (ex cx n sc) (noLoc.set y (.exc C)) (b₀::suite) σ=.ok f' σ₂) (Q:Flow→Shared→Prop) (E₁ E₂:Value→Shared→Prop)
  (hok:∀ z h' tk ι',Evo (dyn env) h₀ ι₀ σ₀ h' ι' σ₂→FlR prog w hB env fl h' ι' σ₂ (zcE y f') z→Q z { s with heap:=h',toks:=tk }) :
  wpAny (model prog w) A' (execs (b₀::suite) env) (fun f s₁=>wpAny (model prog w) A (do bindName env y .none;unbindBehindTheSuite env y hp) (fun _ s₂=>Q f s₂) E₁ s₁) E₂ s:=by
 refine zg4 IHh (b₀::suite) (noLoc.set y (.exc C)) s ι σ I _ _ (fun q=>?_) (fun f σ₆ e₆ z h₆ tk₆ ι₆ X₆ r₆=>?_) (fun C' σ₆ e₆=>?_)
 ·rw [hg] at q;cases q
 ·rw [hg] at e₆;cases e₆
  have XX:=X.trans hl X₆ fun b hb _ _=>hb
  cases f' with
  | next ρ'=>
   obtain ⟨rfl,J⟩:=r₆
   refine zf4 (s:={ s with heap:=h₆,toks:=tk₆ }) H (H.loc y hy) J _ _ fun h₇ tk₇ hk₇ I₇=>?_
   exact hok _ h₇ tk₇ ι₆ (XX.trans hl (zdm (s:={ s with heap:=h₆,toks:=tk₆ }) I₇.fr hk₇) fun b hb _ _=>hb) ⟨rfl,I₇⟩
  | ret v=>
   obtain ⟨u,rfl,ru,J⟩:=r₆
   refine zf4 (s:={ s with heap:=h₆,toks:=tk₆ }) H (H.loc y hy) J _ _ fun h₇ tk₇ hk₇ I₇=>?_
   have Z:=zdm (s:={ s with heap:=h₆,toks:=tk₆ }) I₇.fr hk₇
   exact hok _ h₇ tk₇ ι₆ (XX.trans hl Z fun b hb _ _=>hb) ⟨u,rfl,ru.evo J.store.len Z J.fr.noSeq,I₇.noRho'⟩
 ·rw [hg] at e₆;cases e₆
theorem zpt{cx:Cx}{d n:Nat}{L:Addr}{x y:Str}{xp hp p:Pos}{b hb:List Stmt}(hG:GlobOk hB K cx.G)(hX:ExcOk hB K cx.G)(hA:Ar cx.md d (env::outer) A)(H:EnvOk env sc)(hf:env.frame=some L)
  (IH:ExIH prog w hB A env (env::outer) (ex cx n sc)) (IHh:∀ v,ExIH prog w hB (A.mark v) env (env::outer) (ex { cx with md:=⟨false,false⟩ } n sc)) (I:Inv prog w hB env ρ (env::outer) s.heap ι σ) :
  SimX prog w hB A env (env::outer) (exec (.Try b [.ExceptHandler (some (.Name x xp)) (some y) hb hp] [] [] p) env) (M.cond cx.md.rz (zaA (exs (ex cx n sc) ρ b) fun C=>zc0 cx sc (ex { cx with md:=⟨false,false⟩ } n sc) C x y hb) M.fail) s ι σ:=by
 refine SimX.cond (fun hrz=>?_) fun _=>SimX.fail
 intro Q E hns hok herr
 have hl:=I.store.len
 refine wpAny_Try_except ?_
 refine zg4 IH b ρ s ι σ I _ _ (fun q=>hns (by unfold zaA;rw [q])) (fun f σ₁ e₁ z h₁ tk₁ ι₁ X₁ r₁=>?_) (fun C σ₁ e₁ e h₁ tk₁ ι₁ X₁ I₁ F₁=>?_)
 ·have hok:=hok f σ₁ (by unfold zaA;rw [e₁]) z h₁ tk₁ ι₁ X₁ r₁
  cases f with
  | next ρ'=>obtain ⟨rfl,I₁⟩:=r₁;exact wpAny_execs_nil hok
  | ret v=>obtain ⟨u,rfl,ru,I₁⟩:=r₁;exact hok
 ·have eqr:zaA (exs (ex cx n sc) ρ b) (fun C=>zc0 cx sc (ex { cx with md:=⟨false,false⟩ } n sc) C x y hb) σ=zc0 cx sc (ex { cx with md:=⟨false,false⟩ } n sc) C x y hb σ₁:=by unfold zaA;rw [e₁]
  rw [eqr] at hns hok
  obtain ⟨D,b₀,suite,f',σ₂,hr,hsub,hy,rfl,hg,hgo⟩:=zjh hns
  have hok':=hok _ σ₂ hgo
  obtain ⟨hlk,hnm⟩:=zea hr
  obtain ⟨mg,mb,hgl,_,_,hcl,_⟩:=hG.g.ns
  refine zb9 (s:={ s with heap:=h₁,toks:=tk₁ }) hA.frames I₁.stk hf F₁ X₁.alive fun h₂ oe vs T Y₂ F₂ _ _ _=>?_
  refine zbG (s:={ s with heap:=h₂,toks:=tk₁ }) (fr:=(env::outer).filterMap (·.frame)) F₂ fun h₃ Y₃ F₃=>?_
  have Y₂₃:=Y₂.trans Y₃
  have I₃:=I₁.soft Y₂₃ (zdO I.stays)
  have X₃:=X₁.soft Y₂₃ I₁.stk.dicts
  refine wpAny_handleBy_cons (codeAny_handlers_test (zce (s:={ s with heap:=h₃,toks:=tk₁ }) H I₃.stays hlk hgl (hcl x D hnm) _ _ ?_)) (fun q=>nomatch q)
  obtain ⟨_,oe₃,vs₃,he₃,⟨hc₃,hk₃⟩,hd₃,_⟩:=id F₃
  have LT:Looks (model prog w) h₃ (typeOf (.ref e)) (.ref C):=by
   have:=(Looks.ld (M:=model prog w) (part:=none) he₃).andThen (f:=fun o=>pure o.cls) .now
   rw [hc₃] at this;exact this
  refine (exm_one (hG.inK.keeps I₃.stays) LT (hX.exm C D hsub)).here (s:={ s with heap:=h₃,toks:=tk₁ }) ?_
  refine codeAny_handlers_suite_as ?_
  refine zbG (s:={ s with heap:=h₃,toks:=tk₁ }) (fr:=(env::outer).filterMap (·.frame)) F₃ fun h₄ Y₄ F₄=>?_
  have I₄:=I₃.soft Y₄ (zdO I.stays)
  have X₄:=X₃.soft Y₄ I₃.stk.dicts
  refine zbF (s:={ s with heap:=h₄,toks:=tk₁ }) H I₄ (.inl (H.loc y hy)) (F₄.rep I₄.store) _ _ fun h₅ tk₅ hk₅ I₅=>?_
  have X₅:Evo (dyn env) s.heap ι σ h₅ ι₁ σ₁:=X₄.trans hl (zdm (s:={ s with heap:=h₄,toks:=tk₁ }) I₅.fr hk₅) fun b hb _ _=>hb
  exact zlJ (s:={ s with heap:=h₅,toks:=tk₅ }) hl H hy (IHh _) I₅ X₅ hg Q _ _ hok'
end
section
variable {prog:Program} {w:World} {hB:Heap} {A:Around} {s:Shared} {ι:Ad} {σ:zaa} {env:Env} {ρ:Loc} {fl outer:List Env} {sc:Scope} {K:Frag} {h h':Heap}
theorem SimX.lift{γ:Type}{t:Sem Flow}{o:Option γ}{f:γ→M Fl}(k:∀ a,o=some a→SimX prog w hB A env fl t (f a) s ι σ):SimX prog w hB A env fl t ((M.lift o).bind f) s ι σ:=by
 cases o with
 | none=>exact SimX.fail
 | some a=>exact k a rfl
theorem zoB{cx:Cx}{d:Nat}{L:Addr}(hG:GlobOk hB K cx.G)(hX:ExcOk hB K cx.G)(hc:zg3 prog w hB d cx.call)(H:EnvOk env sc)(hf:env.frame=some L):∀(n:Nat)(md:Md)(A:Around),Ar md d (env::outer) A→
  ExIH prog w hB A env (env::outer) (ex { cx with md:=md } n sc):=by
 intro n
 induction n with
 | zero=>intro md A hA st ρ s ι σ I;exact SimX.fail
 | succ n ih=>
  intro md A hA st ρ s ι σ I
  have IH:=ih md A hA
  have EV:∀ ρ k,EvIH prog w hB A env ρ (env::outer) (ev { cx with md:=md } k sc ρ):=fun ρ k=>zgl hG hc k md hA env sc H ρ
  have hu:=hA.units600
  cases st with
  | Return v p=>
   cases v with
   | none=>exact SimX.fail
   | some e=>exact zlI (EV ρ n) I
  | Assign ts e p=>
   cases ts with
   | nil=>exact SimX.fail
   | cons t r=>
    refine SimX.cond (fun q=>?_) fun _=>SimX.fail
    rw [Bool.and_eq_true] at q
    obtain ⟨hr,q⟩:=q
    cases r with
    | cons _ _=>cases hr
    | nil=>
    cases t with
    | Name y py=>exact zf2 hG hc hA H I
    | Tuple ts k tp=>
     have q:=Bool.and_eq_true_iff.mp q
     exact zft (hA.quiet (.inr q.1)) H (fun h=>by have:=q.2;rw [h] at this;cases this) (EV ρ n) I
    | _=>cases q
  | If t a b p=>exact x_if hu (fun k _=>EV ρ k) IH I
  | For t it b orelse p=>
   refine SimX.cond (fun q=>?_) fun _=>SimX.fail
   rw [Bool.and_eq_true,Bool.and_eq_true] at q
   obtain ⟨ho,hlp,hnm⟩:=q
   cases orelse with
   | cons _ _=>cases ho
   | nil=>exact zpu (cx:={ cx with md:=md }) hG (hA.quiet (.inr hlp)) H hA.frames hf (EV ρ n) zaR (fun a b c=>by cases n <;> rfl) (fun ρ s ι σ I=>zg4 IH b ρ s ι σ I) I
  | Expr e p=>
   show SimX prog w hB A env (env::outer) _ (M.cond (zh8 e) M.fail ((ev { cx with md:=md } n sc ρ e).bind fun _=>M.ret (.next ρ))) s ι σ
   refine SimX.cond (fun _=>SimX.fail) fun q=>?_
   exact zol H q (fun _ _ _ _=>by cases n <;> rfl) (fun _ _ _ _ _=>by cases n <;> rfl) (EV ρ n) I
  | Pass p=>exact fun Q E _ hok _=>wpAny_Pass (hok (.next ρ) σ rfl _ s.heap s.toks ι ((Evo.refl _ _ _).wide (fun _ q=>nomatch q)) ⟨rfl,I⟩)
  | Raise e c p=>
   refine SimX.lift fun r hr=>?_
   obtain ⟨⟨x,⟨np,cpos⟩,t,k,cp⟩,rfl,rfl⟩:=r
   exact zm3 (cx:={ cx with md:=md }) hG hX hc hA H I
  | Try b hs orelse fin p=>
   refine SimX.lift fun r hr=>?_
   obtain ⟨⟨x,y,hb,xp,hp⟩,rfl,rfl,rfl⟩:=r
   exact zpt (cx:={ cx with md:=md }) hG hX hA H hf IH (fun v=>ih ⟨false,false⟩ (A.mark v) hA.handler) I
  | _=>exact SimX.fail
end
theorem zb3:∀{names:List (Str×NameKind)}{n:Nat}{acc:List (Str×Addr)}{p:Str×Addr},p∈acc→p∈cellsFrom n names acc
 | [],_,_,_,h=>h
 | (x,k)::r,n,acc,p,h=>by
  unfold cellsFrom
  split
  ·exact zb3 (.tail _ h)
  ·exact zb3 h
theorem za8{x:Str}:∀{names:List (Str×NameKind)}{n:Nat}{acc:List (Str×Addr)},(x,NameKind.cell)∈names→∃ c,(x,c)∈cellsFrom n names acc
 | (y,k)::r,n,acc,h=>by
  unfold cellsFrom
  rcases List.mem_cons.mp h with q | h
  ·cases q
   simp only [beq_self_eq_true,if_true]
   exact ⟨n,zb3 (.head _)⟩
  ·split
   ·exact za8 h
   ·exact za8 h
theorem za7:∀{names:List (Str×NameKind)}{n:Nat}{acc:List (Str×Addr)},(names.map (·.1)).Nodup→(acc.map (·.1)).Nodup→(∀ x∈names,x.1∉acc.map (·.1))→((cellsFrom n names acc).map (·.1)).Nodup
 | [],_,_,_,h,_=>h
 | (x,k)::r,n,acc,hl,ha,hd=>by
  rw [List.map_cons,List.nodup_cons] at hl
  unfold cellsFrom
  split
  ·refine za7 hl.2 ?_ fun y hy=>?_
   ·rw [List.map_cons,List.nodup_cons];exact ⟨hd (x,k) (.head _),ha⟩
   ·rw [List.map_cons,List.mem_cons]
    rintro (q | q)
    ·exact hl.1 (q▸List.mem_map_of_mem (f:=Prod.fst) hy)
    ·exact hd y (.tail _ hy) q
  ·exact za7 hl.2 ha fun y hy=>hd y (.tail _ hy)
theorem zeC{kd:Str→Option NameKind}{x:Str}:∀{ps:List Str}{xs:List Value}{m:Str→Option Value},x∉ps→bindL kd (ps.zip xs) m x=m x
 | [],_,_,_=>rfl
 | _::_,[],_,_=>rfl
 | p::ps,y::xs,m,h=>by
  show bindL kd (ps.zip xs) _ x=_
  rw [zeC fun q=>h (.tail _ q)]
  split
  ·have:x≠p:=fun q=>h (q▸.head _)
   simp only [this,if_false]
  ·rfl
theorem zeD{kd:Str→Option NameKind}{x:Str}:∀{ps:List Str}{xs:List Value}{m:Str→Option Value},x∉ps→bindC kd (ps.zip xs) m x=m x
 | [],_,_,_=>rfl
 | _::_,[],_,_=>rfl
 | p::ps,y::xs,m,h=>by
  show bindC kd (ps.zip xs) _ x=_
  rw [zeD fun q=>h (.tail _ q)]
  split
  ·rfl
  ·have:x≠p:=fun q=>h (q▸.head _)
   simp only [this,if_false]
section
variable {prog:Program} {w:World} {hB:Heap} {A:Around} {s:Shared} {ι:Ad} {σ:zaa} {env:Env} {ρ:Loc} {fl outer:List Env} {sc:Scope} {K:Frag} {h h':Heap}
theorem zgX{kd:Str→Option NameKind}{x:Str}{v:PV}(hk:kd x=some .local):∀{ps:List Str}{vs:List PV}{xs:List Value}{m:Str→Option Value},ps.Nodup→RepL h ι σ vs xs→(ps.zip vs).lookup x=some v→∃ y,bindL kd (ps.zip xs) m x=some y∧Rep h ι σ v y
 | [],_,_,_,_,_,e=>by simp at e
 | _::_,_,_,_,_,.nil,e=>by simp at e
 | p::ps,_,_,m,hn,.cons (v:=y) (xs:=vs) (vs:=xs) r rs,e=>by
  rw [List.nodup_cons] at hn
  rw [List.zip_cons_cons,List.lookup_cons] at e
  cases q:x==p with
  | true=>
   rw [q] at e
   cases e
   have:=eq_of_beq q;subst this
   refine ⟨y,?_,r⟩
   show bindL kd (ps.zip xs) _ x=_
   rw [zeC hn.1,if_pos hk];simp
  | false=>
   rw [q] at e
   show ∃ z,bindL kd (ps.zip xs) _ x=some z∧_
   exact zgX (ps:=ps) (xs:=xs) hk hn.2 rs e
theorem zgY{kd:Str→Option NameKind}{x:Str}{v:PV}(hk:kd x=some .cell):∀{ps:List Str}{vs:List PV}{xs:List Value}{m:Str→Option Value},ps.Nodup→RepL h ι σ vs xs→(ps.zip vs).lookup x=some v→∃ y,bindC kd (ps.zip xs) m x=some y∧Rep h ι σ v y
 | [],_,_,_,_,_,e=>by simp at e
 | _::_,_,_,_,_,.nil,e=>by simp at e
 | p::ps,_,_,m,hn,.cons (v:=y) (xs:=vs) (vs:=xs) r rs,e=>by
  rw [List.nodup_cons] at hn
  rw [List.zip_cons_cons,List.lookup_cons] at e
  cases q:x==p with
  | true=>
   rw [q] at e
   cases e
   have:=eq_of_beq q;subst this
   refine ⟨y,?_,r⟩
   show bindC kd (ps.zip xs) _ x=_
   rw [zeD hn.1,if_neg (by rw [hk];decide)];simp
  | false=>
   rw [q] at e
   show ∃ z,bindC kd (ps.zip xs) _ x=some z∧_
   exact zgY (ps:=ps) (xs:=xs) hk hn.2 rs e
theorem zcy{x:Str}{v:PV}:∀{ps:List Str}{vs:List PV},(ps.zip vs).lookup x=some v→x∈ps
 | [],_,e=>by simp at e
 | _::_,[],e=>by simp at e
 | p::ps,_::vs,e=>by
  rw [List.zip_cons_cons,List.lookup_cons] at e
  cases q:x==p with
  | true=>rw [eq_of_beq q];exact .head _
  | false=>rw [q] at e;exact .tail _ (zcy e)
theorem zjm{a:Addr}{f:FnD}{fd:FuncData}{vs:List PV}{xs:List Value}{s₁:Shared}(O:FnOk hB a f)(hs:fd.scope=f.scope)(S:StoreOk prog w hB s.heap ι σ)(B:hB.StaysIn s.heap)(T:Stk hB fl s.heap ι σ)(r:RepL s.heap ι σ vs xs)
  (x:InCallC s (callEnvC fd s.heap.objs.size a).locals (bindL (callEnvC fd s.heap.objs.size a).kindOf (f.params.zip xs) fun _=>none) (callEnvC fd s.heap.objs.size a).cells
    (bindC (callEnvC fd s.heap.objs.size a).kindOf (f.params.zip xs) fun _=>none) s₁) :
  Inv prog w hB (callEnvC fd s.heap.objs.size a) (params f.params vs) (callEnvC fd s.heap.objs.size a::fl) s₁.heap ι σ:=by
 have hk:=x.toInCall.keep
 have X:Step prog w hB s.heap ι σ s₁.heap ι σ:=Step.keeps S B hk
 have r₁:=r.step S.len X
 have kind:∀ y,(callEnvC fd s.heap.objs.size a).kindOf y=f.scope.names.lookup y:=fun y=>by rw [← hs];rfl
 have hcs:(callEnvC fd s.heap.objs.size a).cells=cellsFrom (s.heap.objs.size+1) f.scope.names []:=by rw [← hs];rfl
 have hnd:((callEnvC fd s.heap.objs.size a).cells.map (·.1)).Nodup:=by rw [hcs];exact za7 O.nodupN .nil fun _ _=>List.not_mem_nil
 have new:∀ b,s.heap.objs.size≤b→s.heap.get? b=none:=fun b hb=>by
  cases q:s.heap.get? b with
  | none=>rfl
  | some o=>exact absurd (Heap.lt_size q) (Nat.not_lt.mpr hb)
 have newD:∀ b∈dyn (callEnvC fd s.heap.objs.size a),s.heap.get? b=none:=fun b hb=>by
  rcases List.mem_cons.mp hb with rfl | hb
  ·exact new _ (Nat.le_refl _)
  ·obtain ⟨c,hc,rfl⟩:=List.mem_map.mp hb
   exact new _ (Nat.le_of_lt (x.above c.1 c.2 hc))
 have offD:∀ b∈dyn (callEnvC fd s.heap.objs.size a),b∉ι.vis∧b∉ι.hid:=fun b hb=>by
  refine ⟨fun q=>?_,fun q=>?_⟩
  ·obtain ⟨o,ho⟩:=S.there b q;rw [newD b hb] at ho;cases ho
  ·obtain ⟨o,ho,_⟩:=S.hthere b q;rw [newD b hb] at ho;cases ho
 have za9:∀ y c,(y,c)∈(callEnvC fd s.heap.objs.size a).cells→∃ z,s₁.heap.IsCell c z:=fun y c hc=>⟨_,x.cell y c (zaY hnd hc)⟩
 have lt:Inv prog w hB (callEnvC fd s.heap.objs.size a) (params f.params vs) fl s₁.heap ι σ:=by
  refine ⟨X.stays,X.store,⟨⟨_,x.toInCall.ns,fun y v e k=>?_⟩,fun y v e k=>?_,fun y v e=>?_,fun y k=>?_,x.apart,fun b hb=>⟨?_,zba B (newD b hb)⟩,fun b hb=>?_,offD⟩,T.step S.len X.evo⟩
  ·exact zgX k O.nodup r₁ e
  ·obtain ⟨z,hz,rz⟩:=zgY (m:=fun _=>none) k O.nodup r₁ e
   have hm:(y,NameKind.cell)∈f.scope.names:=mem_of_lookup (by rw [← kind];exact k)
   obtain ⟨c,hc⟩:=za8 (n:=s.heap.objs.size+1) (acc:=[]) hm
   rw [← hcs] at hc
   have hl:=zaY hnd hc
   exact ⟨c,z,hl,by rw [← hz];exact x.cell y c hl,rz⟩
  ·rw [kind];exact O.pars y (zcy e)
  ·have hm:(y,NameKind.cell)∈f.scope.names:=mem_of_lookup (by rw [← kind];exact k)
   obtain ⟨c,hc⟩:=za8 (n:=s.heap.objs.size+1) (acc:=[]) hm
   rw [← hcs] at hc
   have hl:=zaY hnd hc
   exact ⟨c,_,hl,x.cell y c hl⟩
  ·rintro (⟨i,c,hi,_⟩ | q)
   ·exact (offD b hb).1 (List.mem_of_getElem? hi)
   ·exact (offD b hb).2 q
  ·obtain ⟨c,hc,rfl⟩:=List.mem_map.mp hb
   exact za9 c.1 c.2 hc
 obtain ⟨o,es,ep,ho,hd,_⟩:=x.toInCall.ns
 have hL:(callEnvC fd s.heap.objs.size a).frame=some (callEnvC fd s.heap.objs.size a).locals:=rfl
 refine ⟨lt.stays,lt.store,lt.fr,⟨⟨?_,⟨_,o,hL,zba B (newD _ (.head _)),ho,fun us q=>by rw [hd] at q;cases q⟩,lt.stk.fun_⟩,fun b hb=>?_,fun b hb=>?_⟩⟩
 ·show fd.scope.kind≠.module
  rw [hs,O.kind];decide
 ·rw [List.filterMap_cons,hL] at hb
  rcases List.mem_cons.mp hb with rfl | hb
  ·exact (lt.fr.own _ (.head _)).1
  ·exact lt.stk.notLive b hb
 ·rw [List.filterMap_cons,hL] at hb
  rcases List.mem_cons.mp hb with rfl | hb
  ·exact ⟨o,es,ep,ho,hd⟩
  ·exact lt.stk.dicts b hb
theorem zhT{G:Gl}(hG:GlobOk hB K G)(hX:ExcOk hB K G):∀ d,zg3 prog w hB d (zad G d)
 | 0=>fun _ _ _ _ _ _ _ _ _ _ _ _ _ _=>Sim.fail
 | d+1=>by
  intro md A fl a vs xs s ι σ hA S B T r
  have IH:=zhT hG hX d
  cases hf:G.fns.lookup a with
  | none=>simp only [zad,hf];exact Sim.fail
  | some f=>
   simp only [zad,hf]
   refine Sim.cond (fun hlen=>?_) fun _=>Sim.fail
   have hlen:f.params.length=vs.length:=of_decide_eq_true hlen
   intro Q E hns hok herr
   have O:=hG.fns a f hf
   obtain ⟨o,fd,ho,hd,hbody,hs,hclo,hgl,hbi,hcr,hba⟩:=O.fd
   have hxl:f.params.length=xs.length:=hlen.trans r.length
   have hfr:(A.deeper (callEnvC fd s.heap.objs.size a)).frames=some (callEnvC fd s.heap.objs.size a::fl):=by simp [Around.deeper,hA.frames]
   have hA':Ar md d (callEnvC fd s.heap.objs.size a::fl) (A.deeper (callEnvC fd s.heap.objs.size a)):=
    ⟨hfr,by have:=hA.depth;show A.depth+1+d<_;lia,by have:=hA.units;show A.units+3+8*d+2000<_;lia,hA.quiet⟩
   have H:EnvOk (callEnvC fd s.heap.objs.size a) f.scope:=⟨by show fd.scope.kind=_;rw [hs];exact O.kind,hgl,hbi,fun y hy=>by show fd.scope.names.lookup y=_;rw [hs];exact hy,
    fun y hy=>by show fd.scope.names.lookup y=_;rw [hs];exact hy,fun y hy=>by show fd.scope.names.lookup y=_;rw [hs];exact hy,by show fd.scope.names.lookup _=_;rw [hs];exact O.nodebug⟩
   refine wpAny_call (codeAny_call_cells (binds:=f.params.zip xs) (by have:=hA.depth;lia) (B _ _ ho) hd (hG.nolimit.keeps B) (hcr.keeps B) hbody (hba xs hxl) hclo (fun y hy=>?_) (fun s₁ x=>?_) (by rw [hs];exact O.cor) (by rw [hs];exact O.gen) (by rw [hs];exact O.kind))
   ·have hm:y.1∈f.params:=(List.of_mem_zip (a:=y.1) (b:=y.2) hy).1
    rw [hs]
    rcases O.pars y.1 hm with q | q
    ·exact .inl q
    ·refine .inr ⟨q,?_⟩
     obtain ⟨c,hc⟩:=za8 (n:=s.heap.objs.size+1) (acc:=[]) (mem_of_lookup q)
     rw [zaY (za7 (acc:=[]) O.nodupN .nil fun _ _=>List.not_mem_nil) hc];rfl
   ·have I:=zjm O hs S B T r x
    obtain ⟨h₁,tk₁,rfl⟩:=x.toInCall.same
    have hk:=x.toInCall.keep
    have newD:∀ b∈dyn (callEnvC fd s.heap.objs.size a),s.heap.get? b=none:=fun b hb=>by
     have new:∀ b,s.heap.objs.size≤b→s.heap.get? b=none:=fun b hb=>by
      cases q:s.heap.get? b with
      | none=>rfl
      | some o=>exact absurd (Heap.lt_size q) (Nat.not_lt.mpr hb)
     rcases List.mem_cons.mp hb with rfl | hb
     ·exact new _ (Nat.le_refl _)
     ·obtain ⟨c,hc,rfl⟩:=List.mem_map.mp hb
      exact new _ (Nat.le_of_lt (x.above c.1 c.2 hc))
    have X₁:Step prog w hB s.heap ι σ h₁ ι σ:=Step.keeps S B hk
    have base:∀ {h₂ ι₂ σ₂},Evo (dyn (callEnvC fd s.heap.objs.size a)) h₁ ι σ h₂ ι₂ σ₂→Evo [] s.heap ι σ h₂ ι₂ σ₂:=fun X=>X₁.evo.trans S.len X fun b hb o e=>by rw [newD b hb] at e;cases e
    have EX:=zg4 (zoB (cx:={ G:=G,call:=zad G d,md:=md }) hG hX IH H rfl nest md _ hA') f.body (params f.params vs) { s with heap:=h₁,toks:=tk₁ } ι σ I
    refine EX _ _ (fun q=>hns (by simp only [M.bind,q])) (fun fl' σ₂ e₂ z h₂ tk₂ ι₂ X₂ r₂=>?_) (fun C σ₂ e₂ e h₂ tk₂ ι₂ X₂ I₂ F₂=>?_)
    ·cases fl' with
     | next ρ'=>
      obtain ⟨rfl,I₂⟩:=r₂
      exact hok .none σ₂ (by simp only [M.bind,e₂,M.ret]) _ h₂ tk₂ ι₂ ⟨base X₂,I₂.store,I₂.stays⟩ .none
     | ret v=>
      obtain ⟨y,rfl,ry,I₂⟩:=r₂
      exact hok v σ₂ (by simp only [M.bind,e₂,M.ret]) _ h₂ tk₂ ι₂ ⟨base X₂,I₂.store,I₂.stays⟩ ry
    ·have F:=F₂.older X₁.evo.alive
     refine ziq (s:={ s with heap:=h₂,toks:=tk₂ }) hfr I₂.stk rfl F (base X₂).alive fun h₃ Y F₃=>?_
     have I₃:=I₂.soft Y (zdO B)
     exact herr C σ₂ (by simp only [M.bind,e₂]) e h₃ tk₂ ι₂ ⟨(base X₂).soft Y I₂.stk.dicts,I₃.store,I₃.stays⟩ F₃
end
theorem zb8{α:Type}{n:Str}:∀{ps:List Str}{vs:List α},ps.length=vs.length→n∈ps→∃ v,(ps.zip vs).lookup n=some v
 | p::ps,v::vs,hl,hm=>by
  rw [List.zip_cons_cons,List.lookup_cons]
  cases q:n==p with
  | true=>exact ⟨v,rfl⟩
  | false=>
   rcases List.mem_cons.mp hm with rfl | hm
   ·simp at q
   ·exact zb8 (by simpa using hl) hm
theorem zib{α β:Type}{f g:α→Option β}:∀{l:List α},(∀ x∈l,f x=g x)→l.filterMap f=l.filterMap g
 | [],_=>rfl
 | x::r,h=>by
  rw [List.filterMap_cons,List.filterMap_cons,h x (.head _),zib fun y hy=>h y (.tail _ hy)]
theorem zcZ{α:Type}:∀{ps:List Str}{vs:List α},ps.Nodup→ps.length=vs.length→ps.filterMap (fun n=>((ps.zip vs).lookup n).map (n,·))=ps.zip vs
 | [],[],_,_=>rfl
 | p::ps,v::vs,hn,hl=>by
  rw [List.nodup_cons] at hn
  rw [List.filterMap_cons,List.zip_cons_cons]
  simp only [List.lookup_cons,beq_self_eq_true,Option.map_some]
  congr 1
  refine Eq.trans (zib fun n hm=>?_) (zcZ hn.2 (by simpa using hl))
  have:(n==p)=false:=by
   cases q:n==p with
   | false=>rfl
   | true=>exact (hn.1 (eq_of_beq q▸hm)).elim
  rw [this]
theorem zjn{fd:FuncData}{ps:List Arg}(hp:fd.params=⟨[],ps,none,[],[],none,[]⟩)(hdf:fd.defaults=.none) (hn:(ps.map (·.arg)).Nodup) (vals:List Value) (hl:(ps.map (·.arg)).length=vals.length) :
  bindArgs fd ⟨vals,[]⟩=pure ((ps.map (·.arg)).zip vals):=by
 have hsq:(seqItems? .none:Sem _)=pure none:=rfl
 have hmiss:((ps.map (·.arg)).filter fun n=>(((ps.map (·.arg)).zip vals).lookup n).isNone)=[]:=by
  rw [List.filter_eq_nil_iff]
  intro n hm
  obtain ⟨v,hv⟩:=zb8 hl hm
  rw [hv];simp
 unfold bindArgs
 simp only [hp,hdf,hsq,List.map_nil,List.nil_append,List.append_nil,List.forIn_nil,pure_bind,Option.getD_none,List.drop_nil,List.length_nil,Nat.sub_zero,Nat.zero_sub]
 rw [← hl,List.take_length,List.drop_length]
 have hz:=zcZ hn hl
 rw [List.filterMap_map] at hz
 simp [hmiss,hz]
noncomputable def fnOf(d:DefRec):FnD:=⟨d.params.args.map (·.arg),d.scope,d.body⟩
noncomputable def zkm(p:Arguments):Bool:=p.posonlyargs.isEmpty&&p.vararg.isNone&&p.kwonlyargs.isEmpty&&p.kw_defaults.isEmpty&&p.kwarg.isNone&&p.defaults.isEmpty
theorem zkl{p:Arguments}(h:zkm p=true):p=⟨[],p.args,none,[],[],none,[]⟩:=by
 obtain ⟨a,b,c,d,e,f,g⟩:=p
 simp only [zkm,Bool.and_eq_true,List.isEmpty_iff,Option.isNone_iff_eq_none] at h
 obtain ⟨⟨⟨⟨⟨rfl,rfl⟩,rfl⟩,rfl⟩,rfl⟩,rfl⟩:=h
 rfl
noncomputable def znX(d:DefRec):Bool:=zkm d.params&&!d.scope.isGenerator&&!d.scope.isCoroutine&&decide (d.scope.kind=.function)&&decide (d.scope.names.lookup ("__debug__":Str)=none)&&decide ((d.params.args.map (·.arg)).Nodup) &&
 decide ((d.scope.names.map (·.1)).Nodup)&&(d.params.args.map (·.arg)).all fun x=>decide (d.scope.names.lookup x=some .local) || decide (d.scope.names.lookup x=some .cell)
theorem znW{p:Program}{loose:List Str}{mean:ExcName→Option Value}{mg mb:Str→Option Value}{h:Heap}(T:Top p loose mean mg mb h){d:DefRec}(hd:d∈recsOf p)(hc:znX d=true){a:Addr}(ha:mg d.name=some (.ref a)):FnOk h a (fnOf d):=by
 simp only [znX,Bool.and_eq_true,Bool.not_eq_true',decide_eq_true_eq,List.all_eq_true,Bool.or_eq_true] at hc
 obtain ⟨⟨⟨⟨⟨⟨⟨hp,hg⟩,hco⟩,hk⟩,hdb⟩,hn⟩,hnn⟩,hpar⟩:=hc
 obtain ⟨a',o,pm,code,doc,hm,ho,hdt,hcr⟩:=T.fn d hd
 rw [ha] at hm;cases hm
 exact ⟨⟨o,_,ho,hdt,rfl,rfl,rfl,rfl,rfl,hcr,fun vals hl=>zjn (zkl hp) rfl hn vals hl⟩,hg,hco,hk,hdb,hn,hnn,fun x hx=>hpar x hx⟩
noncomputable def zjx(K:Frag)(a:Addr):Option (List Value):=match K.lookup a with
 | some o=>match o.data with
  | .seq vs _=>if (o.cls==.type "tuple"&&o.dict.isNone&&o.slots.size==0)=true then some vs.toList else none
  | _=>none
 | none=>none
theorem zlP{K:Frag}{a:Addr}{vs:List Value}(h:zjx K a=some vs):∃ ar n,K.lookup a=some { cls:=.type "tuple",data:=.seq ar n }∧ar.toList=vs:=by
 unfold zjx at h
 split at h
 ·rename_i o ho
  split at h
  ·rename_i ar n hd
   split at h
   ·rename_i q
    simp only [Bool.and_eq_true,beq_iff_eq,Option.isNone_iff_eq_none] at q
    obtain ⟨⟨q1,q2⟩,q3⟩:=q
    cases h
    obtain ⟨c,d,dt,sl⟩:=o
    dsimp only at q1 q2 q3 hd
    subst q1 q2 hd
    have:sl=#[]:=Array.eq_empty_of_size_eq_zero q3
    subst this
    exact ⟨ar,n,ho,rfl⟩
   ·cases h
  ·cases h
 ·cases h
noncomputable def zo2(i:Int):Value→Bool
 | .int j _=>i==j
 | _=>false
noncomputable def zo0(x:Str):Value→Bool
 | .str y _=>x==y
 | _=>false
noncomputable def zhB(x:PV)(v:Value):Bool:=match x with
 | .int i=>zo2 i v
 | .str s=>zo0 s v
 | _=>false
noncomputable def zdX:List PV→List Value→Bool
 | [],vs=>vs.isEmpty
 | x::xs,vs=>match vs with
  | []=>false
  | v::vs=>zhB x v&&zdX xs vs
noncomputable def refV:Value→Option Addr
 | .ref a=>some a
 | _=>none
noncomputable def zow(K:Frag)(xs:List PV)(v:Value):Bool:=match (refV v).bind (zjx K) with
 | some vs=>zdX xs vs
 | none=>false
noncomputable def zmL(K:Frag)(x:PV)(v:Value):Bool:=match x with
 | .tup xs=>zow K xs v
 | x=>zhB x v
theorem zed{a:Addr}:¬ Live Ad.nil [] a:=by
 rintro (⟨i,c,hi,_⟩ | q)
 ·simp [Ad.nil] at hi
 ·exact nomatch q
theorem zfe{h:Heap}{x:PV}{v:Value}(e:zhB x v=true):Rep h Ad.nil [] x v:=by
 cases x with
 | int i=>cases v with
  | int j t=>rw [show i=j from eq_of_beq e];exact .int _ _
  | _=>cases e
 | str s=>cases v with
  | str u t=>rw [show s=u from eq_of_beq e];exact .str _ _
  | _=>cases e
 | _=>cases e
theorem zep{h:Heap}:∀(xs:List PV)(vs:List Value),zdX xs vs=true→RepL h Ad.nil [] xs vs
 | [],vs,e=>by
  cases vs with
  | nil=>exact .nil
  | cons _ _=>cases e
 | x::xs,vs,e=>by
  cases vs with
  | nil=>cases e
  | cons v vs=>exact .cons (zfe (Bool.and_eq_true_iff.mp e).1) (zep xs vs (Bool.and_eq_true_iff.mp e).2)
theorem znw{v:Value}{a:Addr}(h:refV v=some a):v=.ref a:=by
 cases v with
 | ref b=>cases h;rfl
 | _=>cases h
theorem zkb{K:Frag}{h:Heap}(X:K.In h){x:PV}{v:Value}(e:zmL K x v=true):Rep h Ad.nil [] x v:=by
 cases x with
 | tup xs=>
  have e:(match (refV v).bind (zjx K) with | some vs=>zdX xs vs | none=>false)=true:=e
  cases q:(refV v).bind (zjx K) with
  | none=>rw [q] at e;cases e
  | some vs=>
   rw [q] at e
   obtain ⟨a,h1,h2⟩:=Option.bind_eq_some_iff.mp q
   obtain ⟨ar,n,hk,rfl⟩:=zlP h2
   rw [znw h1]
   exact .tup (X _ _ hk) zed (zep xs ar.toList e)
 | _=>exact zfe e
noncomputable def zhn(K:Frag)(fns:List (Addr×FnD))(q:Str×GV):Bool:=match q.2 with
 | .fn a=>(nsIn K mainGlobals q.1==some (some (.ref a)))&&(fns.lookup a).isSome
 | .cls C=>(nsIn K mainGlobals q.1==some (some (.ref C)))&&excIn K C [.type "ValueError",.type "Exception",.type "BaseException",.type "object"] "ValueError.__new__"
 | .val v=>match nsIn K mainGlobals q.1 with
  | some (some y)=>zmL K v y
  | _=>false
noncomputable def zod(K:Frag)(names:List (Str×GV))(q:Str×Value):Bool:=(names.lookup q.1).isSome || ((nsIn K mainGlobals q.1==some none)&&(bootBuiltins q.1==some q.2)&&decide (q.1≠"__name__"))
noncomputable def zlo(K:Frag)(D:Addr):Bool:=(findIn K (.ref D) "__getattribute__"==some (some (.builtin "BaseException.__getattribute__")))&&(findIn K (.ref D) "__getattr__"==some none)&&(mroIn K D (.type "BaseException")==some true)&&hasDictIn K D&&(findIn K (.ref D) "__class__"==some (some (.builtin "object.__class__"))) &&
 (specialIn K (.builtin "object.__class__") "__get__"==some (some (.builtin "getset_descriptor.__get__")))&&(takesIn K (.builtin "object.__class__")==some true)&&(mroIn K D (.type "object")==some true)
noncomputable def zjH(K:Frag)(G:Gl):Bool:=(G.clss.all fun C=>(G.clss.all fun D=>kitOne K (.ref C) (.ref D)==some (G.sub.contains (C,D)))&&(kitOne K (.ref C) (.type "ValueError")==some true)) &&
 G.sub.all fun q=>exmOne K (.ref q.1) (.ref q.2)==some true
noncomputable def zmM(K:Frag)(AL:List Addr)(rs:List DefRec):Bool:=(AL.zip rs).all fun q=>znX q.2&&(nsIn K mainGlobals q.2.name==some (some (.ref q.1)))
noncomputable def znV(AL:List Addr)(rs:List DefRec):List (Addr×FnD):=(AL.zip rs).map fun q=>(q.1,fnOf q.2)
section
variable {p:Program} {loose:List Str} {mean:ExcName→Option Value} {mg mb:Str→Option Value} {h:Heap} {K:Frag} {G:Gl} {AL:List Addr}
theorem ze3{β:Type}{f:Str×β→Bool}{l:List (Str×β)}(h:l.all f=true){x:Str}{b:β}(e:l.lookup x=some b):f (x,b)=true:=List.all_eq_true.mp h _ (mem_of_lookup e)
theorem zcw{β:Type}:∀{l:List (Addr×β)}{n:Addr}{c:β},l.lookup n=some c→(n,c)∈l
 | (k,v)::r,n,c,h=>by
  rw [List.lookup_cons] at h
  cases hb:n==k with
  | true=>rw [hb] at h;cases h;rw [beq_iff_eq.mp hb];exact List.mem_cons_self
  | false=>rw [hb] at h;exact List.mem_cons_of_mem _ (zcw h)
theorem zk0(T:Top p loose mean mg mb h)(X:K.In h)(hf:G.fns=znV AL (recsOf p))(c1:G.names.all (zhn K G.fns)=true)(c2:bis.all (zod K G.names)=true)(c3:G.clss.all (zlo K)=true)(c4:zjH K G=true)(c5:zmM K AL (recsOf p)=true) :
  GlobOk h K G∧ExcOk h K G:=by
 have fns:∀ a f,G.fns.lookup a=some f→FnOk h a f:=fun a f e=>by
  have hm:=zcw e
  rw [hf,znV] at hm
  obtain ⟨q,hq,he⟩:=List.mem_map.mp hm
  cases he
  have:=List.all_eq_true.mp c5 q hq
  rw [Bool.and_eq_true,beq_iff_eq] at this
  exact znW T (List.of_mem_zip (a:=q.1) (b:=q.2) hq).2 this.1 (mg_of X T.g this.2)
 have nm:=fun {x b} (e:G.names.lookup x=some b)=>ze3 c1 e
 simp only [zjH,Bool.and_eq_true,List.all_eq_true,beq_iff_eq] at c4
 refine ⟨⟨⟨mg,mb,T.g,T.b,fun x a e=>?_,fun x a e=>?_,fun x v e=>?_,fun x v e e'=>?_⟩,?_,X,T.nolimit,fun x a e=>?_,fns⟩,?_⟩
 ·have:=nm e;simp only [zhn,Bool.and_eq_true,beq_iff_eq] at this;exact mg_of X T.g this.1
 ·have:=nm e;simp only [zhn,Bool.and_eq_true,beq_iff_eq] at this;exact mg_of X T.g this.1
 ·have:=nm e
  simp only [zhn] at this
  split at this
  ·rename_i y hy;exact ⟨y,mg_of X T.g hy,zkb X this⟩
  ·cases this
 ·have:=ze3 c2 e'
  simp only [zod,e,Option.isSome_none,Bool.false_or,Bool.and_eq_true,beq_iff_eq,decide_eq_true_eq] at this
  exact ⟨mg_none_of X T.g this.1.1,(T.builtins x this.2).trans this.1.2⟩
 ·refine ⟨fun C hC=>?_,fun C hC D hD=>(c4.1 C hC).1 D hD,fun C hC=>(c4.1 C hC).2⟩
  have:=List.all_eq_true.mp c3 C hC
  simp only [zlo,Bool.and_eq_true,beq_iff_eq] at this
  exact ⟨this.1.1.1.1.1.1.1,this.1.1.1.1.1.1.2,this.1.1.1.1.1.2,this.1.1.1.1.2,this.1.1.1.2,this.1.1.2,this.1.2,this.2⟩
 ·have:=nm e
  simp only [zhn,Bool.and_eq_true] at this
  obtain ⟨f,hff⟩:=Option.isSome_iff_exists.mp this.2
  obtain ⟨o,fd,ho,hd,_⟩:=(fns a f hff).fd
  exact ⟨o,fd,ho,hd⟩
 ·refine ⟨fun x C e=>?_,fun C D e=>c4.2 _ (List.contains_iff_mem.mp e)⟩
  have:=nm e
  simp only [zhn,Bool.and_eq_true,beq_iff_eq] at this
  exact ⟨_,_,_,_,_,_,_,_,PySem.F.excBase_ValueError,by decide,PySem.F.excBase_ValueError,(own_of_in X (topRead_of T) this.1 this.2).obj⟩
theorem zf8{P:Params}:∀{vs:List Value}{xs:List WData},WellAll P h vs xs→(∀ x∈xs,∃ i,x=.int i)→∃ is:List Int,xs=is.map .int∧RepL h Ad.nil [] (is.map .int) vs
 | _,_,.nil,_=>⟨[],rfl,.nil⟩
 | _,_,.cons a b,hx=>by
  obtain ⟨i,hi⟩:=hx _ (.head _)
  subst hi
  obtain ⟨is,rfl,r⟩:=zf8 b fun x hx'=>hx x (.tail _ hx')
  cases a with
  | int _ t=>exact ⟨i::is,rfl,.cons (.int i t) r⟩
theorem zoT{prog:Program}{w:World}{s:Shared}{a:Addr}{is:List Int}{xs:List Value}{D:Nat}{σ':zaa}(hG:GlobOk s.heap K G)(hX:ExcOk s.heap K G)(hsys:∃ o,s.heap.get? sysModules=some o)(hD:D≤600)(r:RepL s.heap Ad.nil [] [.lst (is.map .int)] xs)
  (hL:zad G D ⟨true,true⟩ a [.lst (is.map .int)] []=.ok (.bool true) σ') (Q:Value→Shared→Prop) (E:Value→Shared→Prop) (hQ:∀ h' tk,(∀ b o,s.heap.get? b=some o→h'.get? b=some o)→Q (.bool true) { s with heap:=h',toks:=tk }) :
  wpAny (model prog w) callerA (PySem.call (.ref a) xs) Q E s:=by
 have S:StoreOk prog w s.heap s.heap Ad.nil []:=⟨rfl,.nil,(fun _ q=>nomatch q),(fun _ q=>nomatch q),(fun _ q=>nomatch q),(fun _ q=>nomatch q),(fun _ q=>nomatch q),hsys,fun i a c e=>by simp [Ad.nil] at e⟩
 refine zhT (prog:=prog) (w:=w) hG hX D ⟨true,true⟩ callerA [] a _ xs s Ad.nil [] ⟨rfl,(by show 301+D<1000;lia),(by show 4+8*D+2000<9900;lia),fun _=>rfl⟩ S (fun _ _ e=>e) ⟨trivial,(fun _ q=>nomatch q),(fun _ q=>nomatch q)⟩ r Q E (by rw [hL];intro q;cases q) (fun v σ₁ e₁ x h₁ tk₁ ι₁ X₁ r₁=>?_) (fun C σ₁ e₁=>by rw [hL] at e₁;cases e₁)
 rw [hL] at e₁;cases e₁
 cases r₁
 exact hQ h₁ tk₁ X₁.stays
theorem zcY{R:WRecords}:∀{xs:List WData},WShape.hasItems R xs .int=true→∀ x∈xs,∃ i,x=.int i
 | [],_,_,hx=>nomatch hx
 | a::r,h,x,hx=>by
  simp only [WShape.hasItems,Bool.and_eq_true] at h
  rcases List.mem_cons.mp hx with rfl | hx
  ·exact hasW_int h.1
  ·exact zcY h.2 x hx
theorem zmf{l:OpenLaw}(hm:l.most=some 63){args:List WData}(hpre:l.row.toRowW.claim.pre args=true):∃ xs,args=[.list xs]∧(∀ x∈xs,∃ i,x=.int i)∧xs.length≤63:=by
 obtain ⟨h1,h2⟩:=pre_splitW hpre
 obtain ⟨d,r,rfl,hd,hr⟩:=hasAllW_cons h1
 obtain rfl:=hasAllW_nil hr
 obtain ⟨xs,rfl,hx⟩:=hasW_list hd
 refine ⟨xs,rfl,zcY hx,?_⟩
 have h3:l.pre.holds [] { args:=[WData.list xs] }=true:=h2
 unfold OpenLaw.pre at h3
 rw [hm] at h3
 by_cases q:xs.length≤63
 ·exact q
 ·exfalso
  revert h3
  simp only [WTm.holds,WTm.value,List.getElem?_cons_zero]
  have:(63:Int)<(xs.length:Int):=by lia
  have hl:less? (WData.int 63) (WData.int (xs.length:Int))=some true:=by
   show (Num.less? (WData.int 63) (WData.int (xs.length:Int)))=some true
   simp [Num.less?,this]
  simp [hl]
theorem zme{l:OpenLaw}{args:List WData}:l.row.toRowW.claim.post args (.bool true) args=true:=by
 show (WShape.has [] (.bool true) .bool&&WTm.holds [] (.eq .res (.lit (.bool true))) { args:=args,res:=some (.bool true),after:=args })=true
 have h1:WShape.has [] (.bool true) .bool=true:=by simp [WShape.has,WShape.arms]
 rw [h1,Bool.true_and]
 have h2:W.same (WData.bool true) (WData.bool true)=true:=by first | decide +kernel | kernel_rfl | simp [W.same]
 simp [WTm.holds,WTm.value,h2]
theorem znL{l:OpenLaw}(hm:l.most=some 63){D:Nat}{A₀:Addr}(hD:D≤600)(hL:∀ is:List Int,is.length≤63→∃ σ',zad G D ⟨true,true⟩ A₀ [.lst (is.map .int)] []=.ok (.bool true) σ')
  {prog:Program} {w:World} {s:Shared} {cl:Str→Option Addr} {mn:ExcName→Option Value} (hG:GlobOk s.heap K G) (hX:ExcOk s.heap K G) (hsys:∃ o,s.heap.get? sysModules=some o) (hgens:s.gens=#[]) {args:List WData} {vals:List Value}
  (hpre:l.row.toRowW.claim.pre args=true) (wl:WellAll w.params s.heap vals args) :
  wpAny (model prog w) callerA (PySem.call (.ref A₀) vals) (fun v s'=>GoodWG l.row.toRowW.claim cl mn args s (.ok (.ret v)) s') (fun e s'=>GoodWG l.row.toRowW.claim cl mn args s (.error e) s') s:=by
 obtain ⟨xs,rfl,hi,hlen⟩:=zmf hm hpre
 cases wl with
 | cons a b=>
  cases b
  cases a with
  | list ho hw=>
   obtain ⟨is,rfl,r⟩:=zf8 hw hi
   obtain ⟨σ',hc⟩:=hL is (by simpa using hlen)
   refine zoT hG hX hsys hD (.cons (.lst ho zed (by simpa using r)) .nil) hc _ _ fun h' tk hk=>GoodW.toG ⟨.inl ⟨.bool true,.bool true,[],rfl,fun _=>rfl,.bool true,zme,fun _=>⟨.nil,fun _ q=>nomatch q⟩⟩,hk,rfl,hgens⟩
end
end Mine
namespace Mine
open PySem
noncomputable section
noncomputable def fnAt(p:Program)(k:Nat):FnD:=
 match p.main.body[k]? with
 | some (.FunctionDef _ a b _ _ _ sc _ _ _)=>⟨a.args.map (·.arg),sc,b⟩
 | _=>⟨[],⟨.function,[],false,false,[]⟩,[]⟩
theorem zao{α β γ:Type}(x:M α)(f:α→M β)(g:β→M γ):(x.bind f).bind g=x.bind fun a=>(f a).bind g:=M.bind_assoc x f g
theorem zbK{α β:Type}(b:Bool)(x y:M α)(f:α→M β):(M.cond b x y).bind f=M.cond b (x.bind f) (y.bind f):=M.cond_bind b x y f
theorem zpm{α:Type}(x:M α):x.bind M.ret=x:=by
 funext σ;unfold M.bind;cases x σ <;> rfl
theorem zaw{α β:Type}{x:M α}{f g:α→M β}(h:∀ a,f a=g a):x.bind f=x.bind g:=congrArg (M.bind x) (funext h)
theorem zpg{α:Type}{b:Bool}{x y x':M α}(h:b=true→x=x'):M.cond b x y=M.cond b x' y:=by
 cases b with
 | true=>exact h rfl
 | false=>rfl
theorem zbe{α:Type}{b:Bool}{x y x' y':M α}(h:x=x')(h':y=y'):M.cond b x y=M.cond b x' y':=by rw [h,h']
noncomputable abbrev LL:=List (Str×Option PV)
noncomputable def locN(l:LL):Loc:=fun y=>match l.lookup y with
 | some o=>o
 | Option.none=>Option.none
noncomputable def LL.put(x:Str)(v:PV):LL→LL
 | []=>[(x,some v)]
 | (y,o)::r=>match x==y with
  | true=>(y,some v)::r
  | false=>(y,o)::LL.put x v r
noncomputable def LL.drop(x:Str):LL→LL
 | []=>[]
 | (y,o)::r=>(y,match y==x with | true=>Option.none | false=>o)::LL.drop x r
theorem zbA(z:Str)(o:Option PV)(r:LL)(y:Str):locN ((z,o)::r) y=bif y==z then o else locN r y:=by
 unfold locN
 rw [List.lookup_cons]
 cases y==z <;> rfl
theorem zj8(ρ:Loc)(x:Str)(v:PV)(y:Str):ρ.set x v y=bif y==x then some v else ρ y:=by
 unfold Loc.set
 cases h:y==x with
 | true=>rw [if_pos (eq_of_beq h)];rfl
 | false=>rw [if_neg fun q=>by rw [beq_iff_eq.mpr q] at h;cases h];rfl
theorem zig(ρ:Loc)(x:Str)(y:Str):ρ.drop x y=bif y==x then Option.none else ρ y:=by
 unfold Loc.drop
 cases h:y==x with
 | true=>rw [if_pos (eq_of_beq h)];rfl
 | false=>rw [if_neg fun q=>by rw [beq_iff_eq.mpr q] at h;cases h];rfl
theorem zma(x:Str)(v:PV)(l:LL):locN (l.put x v)=(locN l).set x v:=by
 induction l with
 | nil=>funext y;rw [zj8];exact zbA x (some v) [] y
 | cons p r ih=>
  obtain ⟨z,o⟩:=p
  funext y
  have ihy:=congrFun ih y
  rw [zj8] at ihy ⊢
  unfold LL.put
  rw [zbA]
  cases hx:x==z with
  | true=>
   have hxz:=eq_of_beq hx
   subst hxz
   show locN ((x,some v)::r) y=_
   rw [zbA]
   cases y==x <;> rfl
  | false=>
   show locN ((z,o)::LL.put x v r) y=_
   rw [zbA,ihy]
   cases hz:y==z with
   | true=>
    rw [eq_of_beq hz]
    cases hq:z==x with
    | true=>rw [beq_iff_eq.mpr (eq_of_beq hq).symm] at hx;cases hx
    | false=>rfl
   | false=>cases y==x <;> rfl
theorem zkG(x:Str)(l:LL):locN (l.drop x)=(locN l).drop x:=by
 induction l with
 | nil=>funext y;rw [zig];cases y==x <;> rfl
 | cons p r ih=>
  obtain ⟨z,o⟩:=p
  funext y
  have ihy:=congrFun ih y
  rw [zig] at ihy ⊢
  show locN ((z,match z==x with | true=>Option.none | false=>o)::LL.drop x r) y=_
  rw [zbA,zbA,ihy]
  cases hz:y==z with
  | true=>rw [eq_of_beq hz];cases z==x <;> rfl
  | false=>cases y==x <;> rfl
section
variable {α:Type}
noncomputable def zfr(sc:Scope)(l:LL)(v:PV)(x:Str)(k:LL→M α):M α:=match sc.names.lookup x with
 | some .local=>k (l.put x v)
 | some .cell=>k (l.put x v)
 | _=>M.fail
noncomputable def zfq(sc:Scope)(l:LL)(v:PV)(t:Expr)(k:LL→M α):M α:=(M.lift (nmOf t)).bind fun x=>zfr sc l v x.1.1 k
noncomputable def nilL(vs:List PV)(m:M α):M α:=match vs with
 | []=>m
 | _::_=>M.fail
noncomputable def zjk(vs:List PV)(f:PV→List PV→M α):M α:=match vs with
 | []=>M.fail
 | v::vs=>f v vs
noncomputable def tupL(v:PV)(f:List PV→M α):M α:=match v with
 | .tup vs=>f vs
 | _=>M.fail
noncomputable def zc6(sc:Scope):LL→List Expr→List PV→(LL→M α)→M α
 | l,[],vs,k=>nilL vs (k l)
 | l,t::ts,vs,k=>zjk vs fun v vs=>zfq sc l v t fun l'=>zc6 sc l' ts vs k
noncomputable def zfn(sc:Scope)(l:LL)(t:Expr)(v:PV)(k:LL→M α):M α:=
 match t with
 | .Tuple ts _ _=>tupL v fun vs=>zc6 sc l ts vs k
 | t=>zfq sc l v t k
noncomputable def asgL(E:Expr→M PV)(sc:Scope)(l:LL)(t:Expr)(v:PV)(k:LL→M α):M α:=
 match t with
 | t=>zfn sc l t v k
noncomputable def exsL(X:Stmt→LL→(LL→M α)→M α):List Stmt→LL→(LL→M α)→M α
 | [],l,k=>k l
 | s::r,l,k=>X s l fun l'=>exsL X r l' k
noncomputable def zas(chk:M Unit)(sc:Scope)(t:Expr)(X:LL→(LL→M α)→M α):List PV→LL→(LL→M α)→M α
 | [],l,k=>chk.bind fun _=>k l
 | x::xs,l,k=>chk.bind fun _=>zfn sc l t x fun l'=>X l' fun l''=>zas chk sc t X xs l'' k
end
inductive FlL where
 | next (l:LL)
 | ret (v:PV)
noncomputable def toFl:FlL→Fl
 | .next l=>.next (locN l)
 | .ret v=>.ret v
noncomputable def FlL.drop(x:Str):FlL→FlL
 | .next l=>.next (l.drop x)
 | .ret v=>.ret v
noncomputable def fin{α:Type}(r:M PV→M α)(k:LL→M α):FlL→M α
 | .next l=>k l
 | .ret v=>r (M.ret v)
noncomputable def retF(m:M PV):M FlL:=m.bind fun v=>M.ret (.ret v)
noncomputable def ziZ(l:LL):M FlL:=M.ret (.next l)
noncomputable def zeY{α:Type}(cx:Cx)(sc:Scope)(ρ:Loc)(x:Str):M α:=match zat cx sc ρ x with
 | some (.cls C)=>M.raise C
 | _=>M.fail
noncomputable def znS(cx:Cx)(sc:Scope)(X:Stmt→LL→(LL→M FlL)→M FlL)(C:Addr)(x y:Str)(hb:List Stmt):M FlL:=match zat cx sc (fun _=>Option.none) x with
 | some (.cls D)=>M.cond (cx.G.sub.contains (C,D)&&decide (sc.names.lookup y=some .local)&&!hb.isEmpty) (M.noErr ((exsL X hb [(y,some (.exc C))] ziZ).bind fun f=>M.ret (f.drop y))) M.fail
 | _=>M.fail
noncomputable def exL(cx:Cx){α:Type}(r:M PV→M α):Nat→Scope→Stmt→LL→(LL→M α)→M α
 | 0,_,_,_,_=>M.fail
 | n+1,sc,s,l,k=>match s with
  | .Return e _=>match e with
   | some e=>r (ev cx n sc (locN l) e)
   | Option.none=>M.fail
  | .Assign ts e _=>match ts with
   | []=>M.fail
   | t::rs=>M.cond (rs.isEmpty&&zpo cx.md t e) ((ev cx n sc (locN l) e).bind fun v=>asgL (ev cx n sc (locN l)) sc l t v k) M.fail
  | .If t a b _=>(ev cx n sc (locN l) t).bind fun v=>(zar v).bind fun c=>M.cond c (exsL (exL cx r n sc) a l k) (exsL (exL cx r n sc) b l k)
  | .For t it b o _=>M.cond (o.isEmpty&&(cx.md.lp&&isTg t)) ((zcu cx sc (locN l) (ev cx n sc (locN l)) t it).bind fun src=>zas (chkW src.watch) sc t (exsL (exL cx r n sc) b) src.xs l k) M.fail
  | .Expr e _=>M.cond (zh8 e) M.fail ((ev cx n sc (locN l) e).bind fun _=>k l)
  | .Pass _=>k l
  | .Raise e c _=>(M.lift (zkg e c)).bind fun x=>M.cond cx.md.rz (zeY cx sc (locN l) x.1.1) M.fail
  | .Try b hs o f _=>(M.lift (zoy hs o f)).bind fun q=>M.cond cx.md.rz ((zaA (exsL (exL cx retF n sc) b l ziZ) fun C=>znS cx sc (exL { cx with md:=⟨false,false⟩ } retF n sc) C q.1.1 q.1.2.1 q.1.2.2.1).bind (fin r k)) M.fail
  | _=>M.fail
section
variable {α:Type}
noncomputable def zel(r0:PV→M α)(k:Loc→M α):Fl→M α
 | .next ρ=>k ρ
 | .ret v=>r0 v
theorem zic(r0:PV→M α)(k:Loc→M α)(g:Loc→M Fl)(f:Fl):(flK g f).bind (zel r0 k)=zel r0 (fun ρ=>(g ρ).bind (zel r0 k)) f:=by cases f <;> rfl
theorem zlz{k:LL→M α}{k':Loc→M α}(hk:∀ l,k l=k' (locN l))(sc:Scope)(l:LL)(v:PV)(x:Str):zfr sc l v x k=(M.lift (zcG sc (locN l) v x)).bind k':=by
 have h:k (l.put x v)=k' ((locN l).set x v):=(hk _).trans (congrArg k' (zma x v l))
 unfold zfr zcG
 cases sc.names.lookup x with
 | none=>rfl
 | some q=>
  cases q with
  | «local»=>exact h
  | cell=>exact h
  | _=>rfl
theorem zgy{β γ:Type}(o:Option β)(f:β→Option γ)(g:γ→M α):(M.lift (o.bind f)).bind g=(M.lift o).bind fun a=>(M.lift (f a)).bind g:=by cases o <;> rfl
theorem zgW{k:LL→M α}{k':Loc→M α}(hk:∀ l,k l=k' (locN l))(sc:Scope)(l:LL)(v:PV)(t:Expr):zfq sc l v t k=(M.lift (zdq sc (locN l) v t)).bind k':=
 (zaw (x:=M.lift (nmOf t)) fun x=>zlz hk sc l v x.1.1).trans (zgy (nmOf t) (fun x=>zcG sc (locN l) v x.1.1) k').symm
theorem zhH{k:LL→M α}{k':Loc→M α}(hk:∀ l,k l=k' (locN l))(sc:Scope)(ts:List Expr):∀(vs:List PV)(l:LL),zc6 sc l ts vs k=(M.lift (zbf sc (locN l) ts vs)).bind k':=by
 induction ts with
 | nil=>
  intro vs l
  cases vs with
  | nil=>exact hk l
  | cons _ _=>rfl
 | cons t ts ih=>
  intro vs l
  cases vs with
  | nil=>rfl
  | cons v vs=>exact (zgW (k':=fun ρ=>(M.lift (zbf sc ρ ts vs)).bind k') (fun l'=>ih vs l') sc l v t).trans (zgy _ _ _).symm
theorem zm6(v:PV)(f:List PV→Option Loc)(g:List PV→M α)(k':Loc→M α) (h:∀ vs,g vs=(M.lift (f vs)).bind k'):tupL v g=(M.lift ((zpp v).bind f)).bind k':=by
 cases v with
 | tup vs=>exact h vs
 | _=>rfl
theorem zgV{k:LL→M α}{k':Loc→M α}(hk:∀ l,k l=k' (locN l))(sc:Scope)(l:LL)(t:Expr)(v:PV):zfn sc l t v k=(M.lift (zfY sc (locN l) t v)).bind k':=by
 have o:=zgW hk sc l v t
 cases t with
 | Tuple ts a p=>exact zm6 v _ _ k' fun vs=>zhH hk sc ts vs l
 | _=>exact o
theorem zof{k:LL→M α}{k':Loc→M α}(hk:∀ l,k l=k' (locN l))(E:Expr→M PV)(sc:Scope)(l:LL)(t:Expr)(v:PV):asgL E sc l t v k=(asg E sc (locN l) t v).bind k':=by
 have o:=zgV hk sc l t v
 cases t with
 | _=>exact o
theorem zeq{X:Stmt→LL→(LL→M α)→M α}{Y:Loc→Stmt→M Fl}{r0:PV→M α} (h:∀ s l k k',(∀ l,k l=k' (locN l))→X s l k=(Y (locN l) s).bind (zel r0 k')) (b:List Stmt) :
  ∀(l:LL)(k:LL→M α)(k':Loc→M α),(∀ l,k l=k' (locN l))→exsL X b l k=(exs Y (locN l) b).bind (zel r0 k'):=by
 induction b with
 | nil=>exact fun l k k' hk=>hk l
 | cons s b ih=>exact fun l k k' hk=>(h s l _ (fun ρ=>(exs Y ρ b).bind (zel r0 k')) fun l'=>ih l' k k' hk).trans (Eq.symm ((zao _ _ _).trans (zaw fun f=>zic _ _ _ f)))
theorem zmo{chk:M Unit}{sc:Scope}{t:Expr}{X:LL→(LL→M α)→M α}{Y:Loc→M Fl}{r0:PV→M α} (h:∀ l k k',(∀ l,k l=k' (locN l))→X l k=(Y (locN l)).bind (zel r0 k')) (xs:List PV) :
  ∀(l:LL)(k:LL→M α)(k':Loc→M α),(∀ l,k l=k' (locN l))→zas chk sc t X xs l k=(forL chk sc t Y xs (locN l)).bind (zel r0 k'):=by
 induction xs with
 | nil=>exact fun l k k' hk=>Eq.symm ((zao _ _ _).trans (zaw fun _=>(hk l).symm))
 | cons x xs ih=>
  intro l k k' hk
  refine Eq.symm ((zao _ _ _).trans (zaw fun _=>((zao _ _ _).trans ?_)))
  refine Eq.trans (zaw fun ρ=>(zao _ _ _).trans (zaw fun f=>zic _ _ _ f)) (Eq.symm (zgV (fun l'=>h l' _ _ fun l''=>ih l'' k k' hk) sc l t x))
theorem zgG{α β:Type}(x:M α)(h:Addr→M α)(f:α→β):zaA (x.bind fun a=>M.ret (f a)) (fun C=>(h C).bind fun a=>M.ret (f a))=(zaA x h).bind fun a=>M.ret (f a):=by
 funext σ
 simp only [zaA,M.bind,M.ret]
 cases x σ <;> rfl
theorem zkv{α β:Type}(x:M α)(f:α→β):M.noErr (x.bind fun a=>M.ret (f a))=(M.noErr x).bind fun a=>M.ret (f a):=by
 funext σ
 simp only [M.noErr,M.bind,M.ret]
 cases x σ <;> rfl
theorem zi6:zel (fun v=>(M.ret (.ret v):M Fl)) (fun ρ=>M.ret (.next ρ))=M.ret:=by
 funext f;cases f <;> rfl
end
section
variable {α β:Type} (g:α→M β)
theorem zjp(sc:Scope)(l:LL)(v:PV)(x:Str)(k:LL→M α):(zfr sc l v x k).bind g=zfr sc l v x fun l=>(k l).bind g:=by
 unfold zfr
 cases sc.names.lookup x with
 | none=>rfl
 | some q=>cases q <;> rfl
theorem zfp(sc:Scope)(l:LL)(v:PV)(t:Expr)(k:LL→M α):(zfq sc l v t k).bind g=zfq sc l v t fun l=>(k l).bind g:=(zao _ _ _).trans (zaw (x:=M.lift (nmOf t)) fun x=>zjp g sc l v x.1.1 k)
theorem zgZ(sc:Scope)(ts:List Expr):∀(vs:List PV)(l:LL)(k:LL→M α),(zc6 sc l ts vs k).bind g=zc6 sc l ts vs fun l=>(k l).bind g:=by
 induction ts with
 | nil=>intro vs l k;cases vs <;> rfl
 | cons t ts ih=>
  intro vs l k
  cases vs with
  | nil=>rfl
  | cons v vs=>exact (zfp g sc l v t _).trans (congrArg (zfq sc l v t) (funext fun l'=>ih vs l' k))
theorem zfm(sc:Scope)(l:LL)(t:Expr)(v:PV)(k:LL→M α):(zfn sc l t v k).bind g=zfn sc l t v fun l=>(k l).bind g:=by
 have o:=zfp g sc l v t k
 cases t with
 | Tuple ts a p=>cases v with
  | tup vs=>exact zgZ g sc ts vs l k
  | _=>rfl
 | _=>exact o
theorem zmy(E:Expr→M PV)(sc:Scope)(l:LL)(t:Expr)(v:PV)(k:LL→M α):(asgL E sc l t v k).bind g=asgL E sc l t v fun l=>(k l).bind g:=by
 have o:=zfm g sc l t v k
 cases t with
 | _=>exact o
theorem zdY{X:Stmt→LL→(LL→M α)→M α}{Y:Stmt→LL→(LL→M β)→M β}(h:∀ s l k,(X s l k).bind g=Y s l fun l=>(k l).bind g)(b:List Stmt):∀(l:LL)(k:LL→M α),(exsL X b l k).bind g=exsL Y b l fun l=>(k l).bind g:=by
 induction b with
 | nil=>exact fun _ _=>rfl
 | cons s b ih=>exact fun l k=>(h s l _).trans (congrArg (Y s l) (funext fun l'=>ih l' k))
theorem zk4{chk:M Unit}{sc:Scope}{t:Expr}{X:LL→(LL→M α)→M α}{Y:LL→(LL→M β)→M β}(h:∀ l k,(X l k).bind g=Y l fun l=>(k l).bind g)(xs:List PV):∀(l:LL)(k:LL→M α),(zas chk sc t X xs l k).bind g=zas chk sc t Y xs l fun l=>(k l).bind g:=by
 induction xs with
 | nil=>exact fun _ _=>zao _ _ _
 | cons x xs ih=>exact fun l k=>(zao _ _ _).trans (zaw fun _=>(zfm g sc l t x _).trans (congrArg (zfn sc l t x) (funext fun l'=>(h l' _).trans (congrArg (Y l') (funext fun l''=>ih l'' k)))))
theorem ziV(cx:Cx)(sc:Scope)(ρ:Loc)(x:Str):(zeY (α:=α) cx sc ρ x).bind g=zeY cx sc ρ x:=by
 unfold zeY
 cases zat cx sc ρ x with
 | none=>rfl
 | some v=>cases v <;> rfl
theorem znY(cx:Cx)(r:M PV→M α)(n:Nat):∀(sc:Scope)(s:Stmt)(l:LL)(k:LL→M α),(exL cx r n sc s l k).bind g=exL cx (fun m=>(r m).bind g) n sc s l fun l=>(k l).bind g:=by
 induction n with
 | zero=>exact fun _ _ _ _=>rfl
 | succ n ih=>
  intro sc s l k
  have ih:=ih sc
  cases s with
  | Return e p=>cases e <;> rfl
  | Assign ts e p=>
   cases ts with
   | nil=>rfl
   | cons t rs=>exact (zbK _ _ _ _).trans (zbe ((zao _ _ _).trans (zaw fun v=>zmy g _ sc l t v k)) rfl)
  | If t a b p=>exact (zao _ _ _).trans (zaw fun v=>(zao _ _ _).trans (zaw fun c=>(zbK _ _ _ _).trans (zbe (zdY g ih a l k) (zdY g ih b l k))))
  | For t it b o p=>exact (zbK _ _ _ _).trans (zbe ((zao _ _ _).trans (zaw fun src=>zk4 g (fun l k=>zdY g ih b l k) src.xs l k)) rfl)
  | Expr e p=>exact (zbK _ _ _ _).trans (zbe rfl (zao _ _ _))
  | Raise e c p=>exact (zao _ _ _).trans (zaw fun x=>(zbK _ _ _ _).trans (zbe (ziV g _ _ _ _) rfl))
  | Try b hs o f p=>exact (zao _ _ _).trans (zaw fun q=>(zbK _ _ _ _).trans (zbe ((zao _ _ _).trans (zaw fun f=>by cases f <;> rfl)) rfl))
  | _=>rfl
end
theorem zmb(y:Str)(v:PV):locN [(y,some v)]=Loc.set (fun _=>Option.none) y v:=by
 funext z
 rw [zbA,zj8];rfl
theorem zla(y:Str)(f:FlL):zcE y (toFl f)=toFl (f.drop y):=by
 cases f with
 | next l=>exact congrArg Fl.next (zkG y l).symm
 | ret v=>rfl
theorem zkh{α:Type}(cx:Cx)(sc:Scope)(ρ:Loc)(x:Str)(f:Fl→M α):(zer cx sc ρ x).bind f=zeY cx sc ρ x:=by
 unfold zeY zer
 cases zat cx sc ρ x with
 | none=>rfl
 | some v=>cases v <;> rfl
theorem zmn{cx:Cx}{sc:Scope}{X:Stmt→LL→(LL→M FlL)→M FlL}{Y:Loc→Stmt→M Fl}(h:∀ b l,exs Y (locN l) b=(exsL X b l ziZ).bind fun f=>M.ret (toFl f))(C:Addr)(x y:Str)(hb:List Stmt):zc0 cx sc Y C x y hb=(znS cx sc X C x y hb).bind fun f=>M.ret (toFl f):=by
 unfold zc0 znS
 cases zat cx sc (fun _=>Option.none) x with
 | none=>rfl
 | some v=>
  cases v with
  | cls D=>
   refine Eq.trans (zpg fun hc=>?_) (zbK _ _ M.fail _).symm
   have hy:=of_decide_eq_true (Bool.and_eq_true_iff.mp (Bool.and_eq_true_iff.mp hc).1).2
   refine Eq.trans (congrArg M.noErr ?_) (zkv _ _)
   have hb2:zdq sc (fun _=>Option.none) (.exc C) (.Name y ⟨0,0,0,0⟩)=some (Loc.set (fun _=>Option.none) y (.exc C)):=by
    show zcG sc (fun _=>Option.none) (.exc C) y=_
    unfold zcG;rw [hy]
   have e:=h hb [(y,some (.exc C))]
   rw [zmb] at e
   rw [hb2]
   refine (congrArg (fun m=>M.bind m fun f=>M.ret (zcE y f)) e).trans ((zao _ _ _).trans (Eq.trans (zaw fun f=>?_) (zao _ _ _).symm))
   exact congrArg M.ret (zla y f)
  | _=>rfl
theorem zo9(cx:Cx)(n:Nat):∀(md:Md){α:Type}(r:M PV→M α)(r0:PV→M α)(_:∀ m,r m=m.bind r0)(sc:Scope)(s:Stmt)(l:LL)(k:LL→M α)(k':Loc→M α),(∀ l,k l=k' (locN l))→
  exL { cx with md:=md } r n sc s l k=(ex { cx with md:=md } n sc (locN l) s).bind (zel r0 k'):=by
 induction n with
 | zero=>exact fun _ _ _ _ _ _ _ _ _ _ _=>rfl
 | succ n ihn=>
  intro md α r r0 hr sc s l k k' hk
  have ih:=fun s l k k' hk=>ihn md r r0 hr sc s l k k' hk
  cases s with
  | Return e p=>
   cases e with
   | none=>rfl
   | some e=>exact (hr _).trans (Eq.symm (zao _ _ _))
  | Assign ts e p=>
   cases ts with
   | nil=>rfl
   | cons t rs=>exact Eq.symm ((zbK _ _ _ _).trans (zbe ((zao _ _ _).trans (zaw fun v=>(zao _ _ _).trans (zof hk _ sc l t v).symm)) rfl))
  | If t a b p=>exact Eq.symm ((zao _ _ _).trans (zaw fun v=>(zao _ _ _).trans (zaw fun c=>(zbK _ _ _ _).trans (zbe (zeq ih a l k k' hk).symm (zeq ih b l k k' hk).symm))))
  | For t it b o p=>exact Eq.symm ((zbK _ _ _ _).trans (zbe ((zao _ _ _).trans (zaw fun src=>(zmo (Y:=fun ρ'=>exs (ex { cx with md:=md } n sc) ρ' b) (fun l k k' hk=>zeq ih b l k k' hk) src.xs l k k' hk).symm)) rfl))
  | Expr e p=>exact Eq.symm ((zbK _ _ _ _).trans (zbe rfl ((zao _ _ _).trans (zaw fun _=>(hk l).symm))))
  | Pass p=>exact hk l
  | Raise e c p=>exact Eq.symm ((zao _ _ _).trans (zaw fun x=>(zbK _ _ _ _).trans (zbe (zkh _ _ _ _ _) rfl)))
  | Try b hs o f p=>
   have body:∀(md':Md)(b:List Stmt)(l:LL),exs (ex { cx with md:=md' } n sc) (locN l) b=(exsL (exL { cx with md:=md' } retF n sc) b l ziZ).bind fun f=>M.ret (toFl f):=by
    intro md' b l
    rw [zdY _ (znY _ _ _ _ _)]
    refine Eq.symm ((zeq (r0:=fun v=>M.ret (Fl.ret v)) (Y:=ex { cx with md:=md' } n sc) (fun s l k k' hk=>ihn md' (fun m=>(retF m).bind fun f=>M.ret (toFl f)) (fun v=>M.ret (Fl.ret v)) (fun m=>zao _ _ _) sc s l k k' hk) b l _ (fun ρ=>M.ret (Fl.next ρ)) (fun l=>rfl)).trans ?_)
    rw [zi6,zpm]
   refine Eq.symm ((zao _ _ _).trans (zaw fun q=>(zbK _ _ _ _).trans (zbe ?_ rfl)))
   refine (congrArg (fun z=>M.bind z (zel r0 k')) ((congr (congrArg zaA (body md b l)) (funext fun C=>zmn (body ⟨false,false⟩) C _ _ _)).trans (zgG _ _ _))).trans ((zao _ _ _).trans (zaw fun f=>?_))
   cases f with
   | next l'=>exact (hk l').symm
   | ret v=>exact (hr (M.ret v)).symm
  | _=>rfl
noncomputable def znQ(ps:List Str)(vs:List PV)(names:List (Str×NameKind)):LL:=
 (ps.zip vs).map (fun p=>(p.1,some p.2))++(names.filter fun n=>!ps.contains n.1&&(n.2==.local || n.2==.cell)).map fun n=>(n.1,Option.none)
theorem ze4:∀(l r:LL),(∀ p∈r,p.2=Option.none)→locN (l++r)=locN l
 | [],r,h=>by
  funext y
  simp only [List.nil_append,locN,List.lookup_nil]
  induction r with
  | nil=>rfl
  | cons p r ih=>
   obtain ⟨n,o⟩:=p
   have:=h _ (.head _)
   dsimp only at this;subst this
   rw [List.lookup_cons]
   cases y==n with
   | true=>rfl
   | false=>exact ih fun p hp=>h p (.tail _ hp)
 | (n,o)::l,r,h=>by
  have ih:=ze4 l r h
  funext y
  have ihy:=congrFun ih y
  simp only [List.cons_append,locN,List.lookup_cons] at ihy ⊢
  cases y==n with
  | true=>rfl
  | false=>exact ihy
theorem zkF(ps:List Str)(vs:List PV)(names:List (Str×NameKind)):locN (znQ ps vs names)=params ps vs:=by
 unfold znQ
 rw [ze4 _ _ (fun p hp=>by obtain ⟨n,_,rfl⟩:=List.mem_map.mp hp;rfl)]
 funext y
 unfold params locN
 generalize ps.zip vs=l
 induction l with
 | nil=>rfl
 | cons p r ih=>
  obtain ⟨n,o⟩:=p
  simp only [List.map_cons,List.lookup_cons]
  cases y==n with
  | true=>rfl
  | false=>exact ih
noncomputable def zal(G:Gl)(C:Md→Addr→List PV→M PV)(md:Md)(a:Addr)(vs:List PV):M PV:=
 match G.fns.lookup a with
 | some f=>M.cond (decide (f.params.length=vs.length)) (exsL (exL { G:=G,call:=C,md:=md } (fun m=>m) nest f.scope) f.body (znQ f.params vs f.scope.names) fun _=>M.ret .none) M.fail
 | Option.none=>M.fail
theorem zfl(G:Gl)(d:Nat)(md:Md)(a:Addr)(vs:List PV):zad G (d+1) md a vs=zal G (zad G d) md a vs:=by
 unfold zal
 show (match G.fns.lookup a with
  | some f=>M.cond (decide (f.params.length=vs.length)) ((exs (ex { G:=G,call:=zad G d,md:=md } nest f.scope) (params f.params vs) f.body).bind fun r=>match r with
   | .ret v=>M.ret v
   | .next _=>M.ret .none) M.fail
  | Option.none=>M.fail)=_
 cases G.fns.lookup a with
 | none=>rfl
 | some f=>
  refine zbe ?_ rfl
  rw [zeq (r0:=M.ret) (Y:=ex { G:=G,call:=zad G d,md:=md } nest f.scope) (fun s l k k' hk=>zo9 { G:=G,call:=zad G d,md:=md } nest md _ M.ret (fun m=>(zpm m).symm) f.scope s l k k' hk) _ _ _ (fun _=>M.ret .none) (fun _=>rfl),zkF]
  exact zaw fun r=>by cases r <;> rfl
noncomputable abbrev zai:=Md→Addr→List PV→M PV
set_option genInjectivity false in
set_option genSizeOf false in
structure Adr where
 (is_name:Addr:=0) (is_within:Addr:=0) (is_saying:Addr:=0) (halves:Addr:=0) (size_in:Addr:=0) (l_cell_at:Addr:=0) (l_names:Addr:=0) (l_saying:Addr:=0) (l_kind:Addr:=0) (law:Addr:=0) (l_changed:Addr:=0) (need_row:Addr:=0) (begun:Addr:=0) (parts:Addr:=0) (l_plain_row:Addr:=0) (l_comes:Addr:=0) (l_begun:Addr:=0) (is_whole:Addr:=0) (same_claim:Addr:=0) (without:Addr:=0) (clashes:Addr:=0) (stands_for:Addr:=0) (stands:Addr:=0) (l_row:Addr:=0) (l_clash:Addr:=0) (l_without:Addr:=0) (l_built:Addr:=0) (l_is_open:Addr:=0) (l_stands:Addr:=0) (l_claim_changed:Addr:=0) (l_here_changed:Addr:=0) (l_no_row:Addr:=0) (SayError:Addr:=0) (BadSaying:Addr:=0) (BadSetting:Addr:=0) (BadText:Addr:=0) (BadRow:Addr:=0) (BadTree:Addr:=0) (BadCut:Addr:=0) (BadNames:Addr:=0)
noncomputable def Md.inn(md:Md):Md:=⟨false,md.lp⟩
noncomputable def p0:Pos:=⟨0,0,0,0⟩
noncomputable def G0(mu:Bool):Gl:={ names:=[],fns:=[],sub:=[],clss:=[],mu:=match mu with | true=>[(0,0)] | false=>[],fz:=[] }
noncomputable def cxM(md:Md)(mu:Bool):Cx:={ G:=G0 mu,call:=fun _ _ _=>M.fail,md:=md }
noncomputable def mkL(mu:Bool)(xs:List PV):M PV:=M.cond mu (cnew (.list xs)) (M.ret (.lst xs))
noncomputable def opM(mu:Bool)(op:Operator)(a b:PV):M PV:=zmu (cxM ⟨false,false⟩ mu) p0 op a b
noncomputable def cutM(mu:Bool)(v:PV)(lo hi:Option Int):M PV:=cut (cxM ⟨false,false⟩ mu) p0 false v lo hi
noncomputable def cutR(mu:Bool)(v:PV)(h:Option Int):M PV:=revL (cxM ⟨false,false⟩ mu) p0 v h (some (-1))
noncomputable def biM(md:Md)(mu:Bool)(f:Str)(vs:List PV):M PV:=builtin (cxM md mu) p0 f vs
noncomputable def zbP(md:Md)(mu:Bool)(m:Str)(o:PV)(args:M (List PV)):M PV:=(tnOf o).bind fun T=>(M.lift (mtOf T m)).bind fun k=>args.bind fun vs=>zdy (cxM md mu) p0 k o vs
noncomputable def zbb(x:M PV):M (Option Int):=x.bind fun v=>M.lift (zkp v)
noncomputable def isM(G:Gl)(t:Ty)(v:PV):M PV:=(zbT G t v).bind fun b=>M.ret (.bool b)
noncomputable def zbu(md:Md)(mu:Bool)(src:M Src)(f:PV→M (Option PV)):M PV:=
 M.cond (md.lp&&true&&true) (src.bind fun s=>M.cond (decide (s.xs.length≤2 ^ 20)) ((za6 (chkW s.watch) (fun x=>M.noErr (f x)) s.xs).bind fun ys=>mkL mu ys) M.fail) M.fail
noncomputable def boM(op:BoolOp)(x y:M PV):M PV:=x.bind fun v=>(zar v).bind fun b=>match op,b with
 | .And,false=>M.ret v
 | .Or,true=>M.ret v
 | _,_=>y
noncomputable def orM(x y:M PV):M PV:=boM .Or x y
noncomputable def andM(x y:M PV):M PV:=boM .And x y
noncomputable def notM(x:M PV):M PV:=x.bind fun a=>(zar a).bind fun b=>M.ret (.bool !b)
noncomputable def seqM:List (M PV)→M (List PV)
 | []=>M.ret []
 | x::r=>x.bind fun v=>(seqM r).bind fun vs=>M.ret (v::vs)
noncomputable def ifM{α:Type}(x:M PV)(a b:M α):M α:=x.bind fun v=>(zar v).bind fun c=>M.cond c a b
noncomputable def tup2{α:Type}(v:PV)(f:PV→PV→M α):M α:=tupL v fun vs=>zjk vs fun a vs=>zjk vs fun b vs=>nilL vs (f a b)
noncomputable def tup3{α:Type}(v:PV)(f:PV→PV→PV→M α):M α:=tupL v fun vs=>zjk vs fun a vs=>zjk vs fun b vs=>zjk vs fun c vs=>nilL vs (f a b c)
noncomputable def stAt(b:List Stmt)(i:Nat):Stmt:=match b[i]? with
 | some s=>s
 | Option.none=>.Pass p0
noncomputable def forT:Stmt→Expr
 | .For t _ _ _ _=>t
 | _=>.Name "" p0
noncomputable def forB:Stmt→List Stmt
 | .For _ _ b _ _=>b
 | .While _ b _ _=>b
 | _=>[]
noncomputable def ifA:Stmt→List Stmt
 | .If _ a _ _=>a
 | _=>[]
noncomputable def tryB:Stmt→List Stmt
 | .Try b _ _ _ _=>b
 | _=>[]
noncomputable def tryH:Stmt→List Stmt
 | .Try _ [.ExceptHandler _ _ b _] _ _ _=>b
 | _=>[]
inductive TR (γ:Type) where
 | ret (v:PV)
 | next (g:γ)
noncomputable def tryK{γ:Type}(K:γ→M PV):TR γ→M PV
 | .ret v=>M.ret v
 | .next g=>K g
noncomputable def tryM{γ:Type}(rz:Bool)(body:M (TR γ))(sub:Addr→Bool)(H:Addr→M PV)(K:γ→M PV):M PV:=
 M.cond rz ((zaA body fun E=>M.cond (sub E) (M.noErr ((H E).bind fun v=>M.ret (TR.ret v))) M.fail).bind (tryK K)) M.fail
theorem ret_bind{α β:Type}(a:α)(f:α→M β):(M.ret a).bind f=f a:=rfl
theorem zmm{α β:Type}(x:M PV)(a b:M α)(g:α→M β):(ifM x a b).bind g=ifM x (a.bind g) (b.bind g):=by
 unfold ifM;rw [zao];congr 1;funext v;rw [zao];congr 1;funext c;rw [zbK]
theorem zox{γ:Type}(rz:Bool){B:M FlL}{b:M (TR γ)}(toL:TR γ→FlL)(hB:B=b.bind fun r=>M.ret (toL r)){c:Addr→Bool}{Hh:Addr→M FlL}{H:Addr→M PV}(hH:∀ E,Hh E=retF (H E))(y:Str){k:LL→M PV}{K:γ→M PV}
  (h1:∀ v,toL (.ret v)=.ret v) (h2:∀ g,fin (fun m=>m) k (toL (.next g))=K g) :
  M.cond rz ((zaA B fun E=>M.cond (c E) (M.noErr ((Hh E).bind fun f=>M.ret (f.drop y))) M.fail).bind (fin (fun m=>m) k)) M.fail=tryM rz b c H K:=by
 cases rz with
 | false=>rfl
 | true=>
  subst hB
  funext σ
  show M.bind (zaA _ _) _ σ=M.bind (zaA _ _) _ σ
  simp only [M.bind,zaA]
  cases b σ with
  | stuck=>rfl
  | ok r σ'=>
   cases r with
   | ret v=>simp only [M.ret,h1];rfl
   | next g=>simp only [M.ret];exact congrFun (h2 g) σ'
  | err C σ'=>
   simp only [hH]
   cases c C with
   | false=>rfl
   | true=>
    simp only [M.cond,M.noErr,M.bind,retF]
    cases H C σ' <;> rfl
noncomputable def PP:Program:=PySem.Challenge.pw_uf010027_06
noncomputable def GG:Gl where
 names:=([("is_whole",.fn 119),("is_name",.fn 124),("is_within",.fn 131),("is_saying",.fn 138),("halves",.fn 145),("size_in",.fn 150),("need_row",.fn 155),("begun",.fn 160),("parts",.fn 167),("same_claim",.fn 174),("without",.fn 181),("clashes",.fn 188),("stands_for",.fn 195),("stands",.fn 202),("_law_cell_at",.fn 209),("_law_names",.fn 214),("_law_saying",.fn 221),("_law_kind",.fn 228),("_law_plain_row",.fn 235),("_law_row",.fn 240)]:List (Str×GV))++([("_law_comes",.fn 247),("_law_clash",.fn 254),("_law_without",.fn 261),("_law_built",.fn 266),("_law_is_open",.fn 273),("_law_stands",.fn 280),("_law_begun",.fn 285),("_law_claim_changed",.fn 292),("_law_here_changed",.fn 299),("_law_changed",.fn 306),("_law_no_row",.fn 313),("law",.fn 320),("SayError",.cls 24),("BadSaying",.cls 37),("BadSetting",.cls 49),("BadText",.cls 61),("BadRow",.cls 73),("BadTree",.cls 85),("BadCut",.cls 97),("BadNames",.cls 109)]:List (Str×GV))++([("LETTERS",.val (.str "abcdefghijklmnopqrstuvwxyz")),("TOLD",.val (.tup [.str "yes",.str "no",.str "not",.str "and",.str "or"])),("MOST_LETTERS",.val (.int 6)),("MOST_DEEP",.val (.int 100)),("MOST_SAYINGS",.val (.int 6)),("MOST_SIZE",.val (.int 60))]:List (Str×GV))
 fns:=[(119,fnAt PP 14),(124,fnAt PP 15),(131,fnAt PP 16),(138,fnAt PP 17),(145,fnAt PP 18),(150,fnAt PP 19),(155,fnAt PP 23),(160,fnAt PP 24),(167,fnAt PP 25),(174,fnAt PP 27),(181,fnAt PP 28),(188,fnAt PP 29),(195,fnAt PP 30),(202,fnAt PP 31),(209,fnAt PP 33),(214,fnAt PP 34),(221,fnAt PP 35),(228,fnAt PP 36),(235,fnAt PP 37),(240,fnAt PP 38),(247,fnAt PP 39),(254,fnAt PP 40),(261,fnAt PP 41),(266,fnAt PP 42),(273,fnAt PP 43),(280,fnAt PP 44),(285,fnAt PP 45),(292,fnAt PP 46),(299,fnAt PP 47),(306,fnAt PP 48),(313,fnAt PP 49),(320,fnAt PP 50)]
 sub:=[(24,24),(37,37),(49,49),(61,61),(73,73),(85,85),(97,97),(109,109),(37,24),(49,24),(61,24),(73,24),(85,24),(97,24),(109,24)]
 clss:=[24,37,49,61,73,85,97,109]
 mu:=[(140,16),(146,20),(163,24)]
 fz:=[(152,11)]
noncomputable def ALL:List Addr:=[119,124,131,138,145,150,155,160,167,174,181,188,195,202,209,214,221,228,235,240,247,254,261,266,273,280,285,292,299,306,313,320]
noncomputable def AA:Adr:={ is_whole:=119,is_name:=124,is_within:=131,is_saying:=138,halves:=145,size_in:=150,need_row:=155,begun:=160,parts:=167,same_claim:=174,without:=181,clashes:=188,stands_for:=195,stands:=202,l_cell_at:=209,l_names:=214,l_saying:=221,l_kind:=228,l_plain_row:=235,l_row:=240,l_comes:=247,l_clash:=254,l_without:=261,l_built:=266,l_is_open:=273,l_stands:=280,l_begun:=285,l_claim_changed:=292,l_here_changed:=299,l_changed:=306,l_no_row:=313,law:=320,SayError:=24,BadSaying:=37,BadSetting:=49,BadText:=61,BadRow:=73,BadTree:=85,BadCut:=97,BadNames:=109 }
noncomputable def zja(A:Adr)(G:Gl)(C:zai)(md:Md)(v1:PV):M PV:=
 (andM (isM G (.bi .int) v1) (notM (isM G (.bi .bool) v1)))
theorem zi9(C:zai)(md:Md)(v1:PV):zal GG C md AA.is_whole [v1]=zja AA GG C md v1:=by kernel_rfl
noncomputable def FN(k:Nat):FnD:=fnAt PP k
noncomputable def XX(C:zai)(md:Md)(n k:Nat):Stmt→LL→(LL→M PV)→M PV:=exL { G:=GG,call:=C,md:=md } (fun m=>m) n (FN k).scope
noncomputable def XK(C:zai)(md:Md)(n k i:Nat):LL→M PV:=fun l=>exsL (XX C md n k) (List.drop i (FN k).body) l (fun _=>M.ret PV.none)
noncomputable def zkV(A:Adr)(G:Gl)(C:zai)(md:Md)(v1:PV):M PV:=
 (ifM (orM (notM (isM G (.bi .str) v1)) (orM (notM ((biM md false "len" [v1]).bind fun v2=>((zac .LtE (.int 1) v2).bind fun v3=>(zar v3).bind fun v4=>M.cond v4 (zac .LtE v2 (.int 6)) (M.ret v3)))) (zac .In v1 (.tup [.str "yes",.str "no",.str "not",.str "and",.str "or"]))))
 (M.ret (.bool false))
 ((seqM [(zbu md false (zbr v1) fun v5=>(zac .In v5 (.str "abcdefghijklmnopqrstuvwxyz")).bind fun v6=>M.ret (some v6))]).bind fun v7=>(biM md false "all" v7)))
theorem zkU(C:zai)(md:Md)(v1:PV):zal GG C md AA.is_name [v1]=zkV AA GG C md v1:=by kernel_rfl
noncomputable def zhz(A:Adr)(G:Gl)(C:zai)(md:Md)(v1:PV):M PV:=
 (C md A.is_within [v1,(.int 100)])
theorem zem(C:zai)(md:Md)(v1:PV):zal GG C md AA.is_saying [v1]=zhz AA GG C md v1:=by kernel_rfl
noncomputable def zjN(A:Adr)(G:Gl)(C:zai)(md:Md)(v1:PV):M PV:=
 (((seqM [(zbu md false ((C md A.halves [v1]).bind zbr) fun v2=>(C md.inn A.size_in [v2]).bind fun v3=>M.ret (some v3))]).bind fun v4=>(biM md false "sum" v4)).bind fun v5=>(opM false .Add (.int 1) v5))
theorem zjM(C:zai)(md:Md)(v1:PV):zal GG C md AA.size_in [v1]=zjN AA GG C md v1:=by kernel_rfl
noncomputable def zi0(A:Adr)(G:Gl)(C:zai)(md:Md)(v1:PV):M PV:=
 (ifM (orM (notM (isM G (.bi .list) v1)) (notM ((biM md false "len" [v1]).bind fun v2=>((zac .LtE (.int 1) v2).bind fun v3=>(zar v3).bind fun v4=>M.cond v4 (zac .LtE v2 (.int 6)) (M.ret v3)))))
 (M.cond md.rz (M.raise A.BadRow) M.fail)
 (ifM (notM ((seqM [(zbu md false (zbr v1) fun v5=>(C md.inn A.is_saying [v5]).bind fun v6=>M.ret (some v6))]).bind fun v7=>(biM md false "all" v7)))
 (M.cond md.rz (M.raise A.BadRow) M.fail)
 (ifM (((seqM [(zbu md false (zbr v1) fun v8=>(C md.inn A.size_in [v8]).bind fun v9=>M.ret (some v9))]).bind fun v10=>(biM md false "sum" v10)).bind fun v11=>(zac .Gt v11 (.int 60)))
 (M.cond md.rz (M.raise A.BadRow) M.fail)
 (M.ret PV.none))))
theorem zcp(C:zai)(md:Md)(v1:PV):zal GG C md AA.need_row [v1]=zi0 AA GG C md v1:=by kernel_rfl
noncomputable def zoe(A:Adr)(G:Gl)(C:zai)(md:Md)(v1:PV):M PV:=
 ((C md A.need_row [v1]).bind fun _=>
 (zbu md false (zc2 [v1]) fun v2=>tup2 v2 fun v3 v4=>M.ret (some (.tup [v3,(.bool true),v4]))))
theorem zlD(C:zai)(md:Md)(v1:PV):zal GG C md AA.begun [v1]=zoe AA GG C md v1:=by kernel_rfl
noncomputable def zgo(A:Adr)(G:Gl)(C:zai)(md:Md)(v1 v2:PV):M PV:=
 (ifM (orM (notM (isM G (.bi .tuple) v1)) (orM ((biM md false "len" [v1]).bind fun v3=>(zac .NotEq v3 (.int 3))) (orM (notM ((seqM [(index v1 (.int 0))]).bind fun v4=>(C md A.is_whole v4))) (notM ((index v1 (.int 1)).bind fun v5=>(isM G (.bi .bool) v5))))))
 (M.ret (.bool false))
 (zac .Eq v1 v2))
theorem zbm(C:zai)(md:Md)(v1 v2:PV):zal GG C md AA.same_claim [v1,v2]=zgo AA GG C md v1 v2:=by kernel_rfl
noncomputable def zeP(A:Adr)(G:Gl)(C:zai)(md:Md)(kk:PV→PV→Option PV→Option PV→M PV)(v1:PV)(v2:PV)(v3:Option PV)(v4:Option PV)(v5:PV):M PV:=
 (tup2 v5 fun v6 v7=>
 (ifM (C md A.same_claim [v2,v7])
 (((zbb (M.ret v6)).bind fun v8=>(cutM false v1 Option.none v8)).bind fun v9=>(((zbb (opM false .Add v6 (.int 1))).bind fun v10=>(cutM false v1 v10 Option.none)).bind fun v11=>(opM false .Add v9 v11)))
 (kk v1 v2 (some v6) (some v7))))
noncomputable def zc8(A:Adr)(G:Gl)(C:zai)(md:Md)  (v1:PV) (v2:PV) (v3:Option PV) (v4:Option PV):M PV:=
 (M.ret PV.none)
noncomputable def zaW(A:Adr)(G:Gl)(C:zai)(md:Md)(chk:M Unit):List PV→PV→PV→Option PV→Option PV→M PV
 | [],v1,v2,v3,v4=>chk.bind fun _=>zc8 A G C md v1 v2 v3 v4
 | x::xs,v1,v2,v3,v4=>chk.bind fun _=>zeP A G C md (zaW A G C md chk xs) v1 v2 v3 v4 x
noncomputable def zcH(A:Adr)(G:Gl)(C:zai)(md:Md)(F1:M Unit→List PV→PV→PV→Option PV→Option PV→M PV)(v1 v2:PV):M PV:=
 (M.cond (md.lp&&true) ((zc2 [v1]).bind fun v3=>F1 (chkW v3.watch) v3.xs v1 v2 Option.none Option.none) M.fail)
noncomputable def zd2(A:Adr)(G:Gl)(C:zai)(md:Md)(v1 v2:PV):M PV:=zcH A G C md (zaW A G C md) v1 v2
noncomputable def zbi(v1 v2 v3 v4:Option PV):LL:=[("claims",v1),("claim",v2),("place",v3),("other",v4)]
theorem zd1(C:zai)(md:Md)(chk:M Unit):∀(xs:List PV)(v1:PV)(v2:PV)(v3:Option PV)(v4:Option PV),zas chk (FN 28).scope (forT (stAt (FN 28).body 0)) (exsL (XX C md 59 28) (forB (stAt (FN 28).body 0))) xs (zbi (some v1) (some v2) v3 v4) (XK C md 60 28 1)=zaW AA GG C md  chk xs v1 v2 v3 v4:=by
 intro xs
 induction xs with
 | nil=>
  intro v1 v2 v3 v4
  have e:(XK C md 60 28 1) (zbi (some v1) (some v2) v3 v4)=zc8 AA GG C md  v1 v2 v3 v4:=by kernel_rfl
  show (chk.bind fun _=>(XK C md 60 28 1) (zbi (some v1) (some v2) v3 v4))=chk.bind fun _=>zc8 AA GG C md  v1 v2 v3 v4
  rw [e]
 | cons x xs ih=>
  intro v1 v2 v3 v4
  have k:(fun v1' v2' v3' v4'=>zas chk (FN 28).scope (forT (stAt (FN 28).body 0)) (exsL (XX C md 59 28) (forB (stAt (FN 28).body 0))) xs (zbi (some v1') (some v2') v3' v4') (XK C md 60 28 1))=zaW AA GG C md  chk xs:=by funext s0 s1 s2 s3;exact ih s0 s1 s2 s3
  have e:zas chk (FN 28).scope (forT (stAt (FN 28).body 0)) (exsL (XX C md 59 28) (forB (stAt (FN 28).body 0))) (x::xs) (zbi (some v1) (some v2) v3 v4) (XK C md 60 28 1)=chk.bind fun _=>zeP AA GG C md (fun v1' v2' v3' v4'=>zas chk (FN 28).scope (forT (stAt (FN 28).body 0)) (exsL (XX C md 59 28) (forB (stAt (FN 28).body 0))) xs (zbi (some v1') (some v2') v3' v4') (XK C md 60 28 1)) v1 v2 v3 v4 x:=by kernel_rfl
  rw [k] at e
  exact e
theorem zf6(C:zai)(md:Md)(v1 v2:PV):zal GG C md AA.without [v1,v2]=zd2 AA GG C md v1 v2:=by
 have r1:(fun chk' xs' v1' v2' v3' v4'=>zas chk' (FN 28).scope (forT (stAt (FN 28).body 0)) (exsL (XX C md 59 28) (forB (stAt (FN 28).body 0))) xs' (zbi (some v1') (some v2') v3' v4') (XK C md 60 28 1))=zaW AA GG C md:=by funext s0 s1 s2 s3 s4 s5;exact zd1 C md s0 s1 s2 s3 s4 s5
 have e:zal GG C md AA.without [v1,v2]=zcH AA GG C md (fun chk' xs' v1' v2' v3' v4'=>zas chk' (FN 28).scope (forT (stAt (FN 28).body 0)) (exsL (XX C md 59 28) (forB (stAt (FN 28).body 0))) xs' (zbi (some v1') (some v2') v3' v4') (XK C md 60 28 1)) v1 v2:=by kernel_rfl
 rw [r1] at e
 exact e
noncomputable def zlr(A:Adr)(G:Gl)(C:zai)(md:Md)(v1 v2:PV):M PV:=
 (andM (((index v1 (.int 2)).bind fun v3=>(index v3 (.int 0))).bind fun v4=>(zac .Eq v4 (.str "name"))) (andM (index v1 (.int 1)) (andM (notM (index v2 (.int 1))) ((index v1 (.int 2)).bind fun v5=>((index v2 (.int 2)).bind fun v6=>(zac .Eq v5 v6))))))
theorem zlq(C:zai)(md:Md)(v1 v2:PV):zal GG C md AA.clashes [v1,v2]=zlr AA GG C md v1 v2:=by kernel_rfl
noncomputable def zgi(A:Adr)(G:Gl)(C:zai)(md:Md)(v1 v2:PV):M PV:=
 (ifM (orM (notM (isM G (.bi .tuple) v2)) (orM ((biM md false "len" [v2]).bind fun v3=>(zac .Lt v3 (.int 2))) (notM ((index v2 (.int 0)).bind fun v4=>(isM G (.bi .str) v4)))))
 (M.ret (.bool false))
 (((seqM [(M.ret v1),(index v2 (.int 1))]).bind fun v5=>(C md A.without v5)).bind fun v6=>
 (ifM (zac .Is v6 PV.none)
 (M.ret (.bool false))
 (M.cond (md.lp&&true) (((seqM [(index v2 (.int 1))]).bind fun v7=>(C md A.parts v7)).bind fun v8=>(tup2 v8 fun v9 v10=>
 (ifM ((index v2 (.int 0)).bind fun v11=>(zac .Eq v11 (.str "shut")))
 (andM ((biM md false "len" [v2]).bind fun v12=>(zac .Eq v12 (.int 2))) (zac .Eq v9 (.str "shut")))
 (ifM ((index v2 (.int 0)).bind fun v13=>(zac .Eq v13 (.str "clash")))
 (andM ((biM md false "len" [v2]).bind fun v14=>(zac .Eq v14 (.int 3))) (andM (((seqM [(M.ret v1),(index v2 (.int 2))]).bind fun v15=>(C md A.without v15)).bind fun v16=>(zac .IsNot v16 PV.none)) ((seqM [(index v2 (.int 1)),(index v2 (.int 2))]).bind fun v17=>(C md A.clashes v17))))
 (ifM ((index v2 (.int 0)).bind fun v18=>(zac .Eq v18 (.str "apart")))
 (andM ((biM md false "len" [v2]).bind fun v19=>(zac .Eq v19 (.int 3))) (andM (zac .Eq v9 (.str "apart")) ((seqM [(opM false .Add v6 v10),(index v2 (.int 2))]).bind fun v20=>(C md A.stands_for v20))))
 (ifM (orM ((index v2 (.int 0)).bind fun v21=>(zac .NotEq v21 (.str "fork"))) (orM ((biM md false "len" [v2]).bind fun v22=>(zac .NotEq v22 (.int 4))) (zac .NotEq v9 (.str "fork"))))
 (M.ret (.bool false))
 (andM ((seqM [((cutM false v10 Option.none (some 1)).bind fun v23=>(opM false .Add v6 v23)),(index v2 (.int 2))]).bind fun v24=>(C md A.stands_for v24)) ((seqM [((cutM false v10 (some 1) Option.none).bind fun v25=>(opM false .Add v6 v25)),(index v2 (.int 3))]).bind fun v26=>(C md A.stands_for v26))))))))) M.fail))))
theorem zak(C:zai)(md:Md)(v1 v2:PV):zal GG C md AA.stands_for [v1,v2]=zgi AA GG C md v1 v2:=by kernel_rfl
noncomputable def zlR(A:Adr)(G:Gl)(C:zai)(md:Md)(v1 v2:PV):M PV:=
 ((seqM [(C md A.begun [v1]),(M.ret v2)]).bind fun v3=>(C md A.stands_for v3))
theorem zhP(C:zai)(md:Md)(v1 v2:PV):zal GG C md AA.stands [v1,v2]=zlR AA GG C md v1 v2:=by kernel_rfl
noncomputable def zhx(A:Adr)(G:Gl)(C:zai)(md:Md)(v1 v2:PV):M PV:=
 (ifM ((biM md false "len" [v1]).bind fun v3=>(zac .Lt v2 v3))
 (index v1 v2)
 (M.ret (.int 0)))
theorem zhw(C:zai)(md:Md)(v1 v2:PV):zal GG C md AA.l_cell_at [v1,v2]=zhx AA GG C md v1 v2:=by kernel_rfl
noncomputable def zkJ(A:Adr)(G:Gl)(C:zai)(md:Md)(v1 v2:PV):M PV:=
 ((opM false .FloorDiv v1 (.int 5)).bind fun v3=>
 (ifM ((opM false .Mod v1 (.int 5)).bind fun v4=>(zac .Eq v4 (.int 0)))
 ((zbP md false "join" (.str "") (seqM [(zbu md false (zaF [(.int 6)]) fun v5=>((((opM false .Mult (.int 5) v5).bind fun v6=>(opM false .Add v3 v6)).bind fun v7=>(opM false .Mod v7 (.int 26))).bind fun v8=>(index (.str "abcdefghijklmnopqrstuvwxyz") v8)).bind fun v9=>M.ret (some v9))])).bind fun v10=>
 (zbu md false (zaF [v2]) fun v11=>((zbb (opM false .Add v11 (.int 1))).bind fun v12=>(cutM false v10 Option.none v12)).bind fun v13=>M.ret (some v13)))
 (ifM ((opM false .Mod v1 (.int 5)).bind fun v14=>(zac .Eq v14 (.int 1)))
 (((opM false .Mod v3 (.int 5)).bind fun v15=>(index (.lst [(.str "yes"),(.str "no"),(.str "not"),(.str "and"),(.str "or")]) v15)).bind fun v16=>
 ((zbu md false (zaF [v2]) fun v17=>((((opM false .FloorDiv v3 (.int 5)).bind fun v18=>(opM false .Add v18 v17)).bind fun v19=>(opM false .Mod v19 (.int 26))).bind fun v20=>(index (.str "abcdefghijklmnopqrstuvwxyz") v20)).bind fun v21=>M.ret (some v21)).bind fun v22=>
 ((zbu md false (zbr v22) fun v23=>(((seqM [(opM false .Add v16 v23),(opM false .Add v23 v16),((opM false .Add v16 v23).bind fun v24=>(opM false .Add v24 v23))]).bind fun v25=>(M.ret (.lst v25))).bind fun v26=>(((opM false .FloorDiv v3 (.int 130)).bind fun v27=>(opM false .Mod v27 (.int 3))).bind fun v28=>(index v26 v28))).bind fun v29=>M.ret (some v29)).bind fun v30=>
 (zbu md false (zbr v30) fun v31=>(ifM (zac .Eq v31 (.str "not")) (M.ret (.str "notx")) (M.ret v31)).bind fun v32=>M.ret (some v32)))))
 ((opM false .Mod v3 (.int 6)).bind fun v33=>
 (((opM false .FloorDiv v3 (.int 6)).bind fun v34=>((opM false .Add v33 (.int 1)).bind fun v35=>(opM false .Mod v34 v35))).bind fun v36=>
 (((((opM false .FloorDiv v3 (.int 36)).bind fun v37=>(opM false .Mod v37 (.int 26))).bind fun v38=>(index (.str "abcdefghijklmnopqrstuvwxyz") v38)).bind fun v39=>(opM false .Mult v39 v33)).bind fun v40=>
 ((zbu md false (zaF [v2]) fun v41=>((((zbb (M.ret v36)).bind fun v42=>(cutM false v40 Option.none v42)).bind fun v43=>(((((opM false .FloorDiv v3 (.int 936)).bind fun v44=>(opM false .Add v44 v41)).bind fun v45=>(opM false .Mod v45 (.int 26))).bind fun v46=>(index (.str "abcdefghijklmnopqrstuvwxyz") v46)).bind fun v47=>(opM false .Add v43 v47))).bind fun v48=>(((zbb (M.ret v36)).bind fun v49=>(cutM false v40 v49 Option.none)).bind fun v50=>(opM false .Add v48 v50))).bind fun v51=>M.ret (some v51)).bind fun v52=>
 (zbu md false (zbr v52) fun v53=>(ifM (zac .In v53 (.tup [(.str "no"),(.str "or")])) (opM false .Add v53 v53) (M.ret v53)).bind fun v54=>M.ret (some v54)))))))))
theorem zeh(C:zai)(md:Md)(v1 v2:PV):zal GG C md AA.l_names [v1,v2]=zkJ AA GG C md v1 v2:=by kernel_rfl
noncomputable def zi3(A:Adr)(G:Gl)(C:zai)(md:Md)(v1 v2 v3:PV):M PV:=
 ((((opM false .Mult v1 (.int 48271)).bind fun v4=>(opM false .Add v4 (.int 11))).bind fun v5=>(opM false .Mod v5 (.int 2147483647))).bind fun v6=>
 (ifM (zac .Eq v2 (.int 1))
 (((opM false .FloorDiv v6 (.int 7)).bind fun v7=>((((biM md false "len" [v3]).bind fun v8=>(opM false .Mult (.int 3) v8)).bind fun v9=>(opM false .Add v9 (.int 2))).bind fun v10=>(opM false .Mod v7 v10))).bind fun v11=>
 (ifM (((biM md false "len" [v3]).bind fun v12=>(opM false .Mult (.int 3) v12)).bind fun v13=>(zac .Lt v11 v13))
 ((seqM [(M.ret (.str "name")),(((biM md false "len" [v3]).bind fun v14=>(opM false .Mod v11 v14)).bind fun v15=>(index v3 v15))]).bind fun v16=>(M.ret (.tup v16)))
 ((opM false .Mod v11 (.int 2)).bind fun v17=>(index (.lst [(.tup [(.str "yes")]),(.tup [(.str "no")])]) v17))))
 ((opM false .Mod v6 (.int 8)).bind fun v18=>
 (ifM (orM (zac .Eq v2 (.int 2)) (zac .Lt v18 (.int 2)))
 ((seqM [(M.ret (.str "not")),((seqM [(opM false .FloorDiv v6 (.int 8)),(opM false .Sub v2 (.int 1)),(M.ret v3)]).bind fun v19=>(C md A.l_saying v19))]).bind fun v20=>(M.ret (.tup v20)))
 ((((opM false .FloorDiv v6 (.int 8)).bind fun v21=>((opM false .Sub v2 (.int 2)).bind fun v22=>(opM false .Mod v21 v22))).bind fun v23=>(opM false .Add (.int 1) v23)).bind fun v24=>
 (((seqM [((opM false .FloorDiv v6 (.int 64)).bind fun v25=>(opM false .Add v25 (.int 7919))),(M.ret v24),(M.ret v3)]).bind fun v26=>(C md A.l_saying v26)).bind fun v27=>
 (((seqM [(((opM false .FloorDiv v6 (.int 64)).bind fun v28=>(opM false .Mult v28 (.int 3))).bind fun v29=>((opM false .Mult (.int 104729) v2).bind fun v30=>(opM false .Add v29 v30))),((opM false .Sub v2 (.int 1)).bind fun v31=>(opM false .Sub v31 v24)),(M.ret v3)]).bind fun v32=>(C md A.l_saying v32)).bind fun v33=>
 ((seqM [((opM false .Mod v18 (.int 2)).bind fun v34=>(index (.lst [(.str "and"),(.str "or")]) v34)),(M.ret v27),(M.ret v33)]).bind fun v35=>(M.ret (.tup v35))))))))))
theorem ze7(C:zai)(md:Md)(v1 v2 v3:PV):zal GG C md AA.l_saying [v1,v2,v3]=zi3 AA GG C md v1 v2 v3:=by kernel_rfl
noncomputable def zbh(A:Adr)(G:Gl)(C:zai)(md:Md)(kk:PV→PV→PV→PV→PV→Option PV→Option PV→Option PV→M PV)(v1:PV)(v2:PV)(v3:PV)(v4:PV)(v5:PV)(v6:Option PV)(v7:Option PV)(v8:Option PV)(v9:PV):M PV:=
 (((((opM false .Add v9 (.int 1)).bind fun v10=>(opM false .Mult v1 v10)).bind fun v11=>((opM false .Mult (.int 7919) v9).bind fun v12=>(opM false .Add v11 v12))).bind fun v13=>(opM false .Mod v13 (.int 1000003))).bind fun v14=>
 (((seqM [(((opM false .Sub v2 (.int 1)).bind fun v15=>(opM false .Sub v15 v9)).bind fun v16=>(opM false .Sub v3 v16)),((opM false .Mod v14 (.int 7)).bind fun v17=>(opM false .Add (.int 1) v17))]).bind fun v18=>(biM md false "min" v18)).bind fun v19=>
 ((opM false .Sub v3 v19).bind fun v20=>
 ((zbP md false "append" v5 (seqM [((seqM [((opM false .Mult (.int 31) v1).bind fun v21=>(opM false .Add v14 v21)),(M.ret v19),(M.ret v4)]).bind fun v22=>(C md A.l_saying v22))])).bind fun _=>
 (kk v1 v2 v20 v4 v5 (some v9) (some v14) (some v19))))))
noncomputable def zbL(A:Adr)(G:Gl)(C:zai)(md:Md)  (v1:PV) (v2:PV) (v3:PV) (v4:PV) (v5:PV) (v6:Option PV) (v7:Option PV) (v8:Option PV):M PV:=
 (zfd v5)
noncomputable def zaG(A:Adr)(G:Gl)(C:zai)(md:Md)(chk:M Unit):List PV→PV→PV→PV→PV→PV→Option PV→Option PV→Option PV→M PV
 | [],v1,v2,v3,v4,v5,v6,v7,v8=>chk.bind fun _=>zbL A G C md v1 v2 v3 v4 v5 v6 v7 v8
 | x::xs,v1,v2,v3,v4,v5,v6,v7,v8=>chk.bind fun _=>zbh A G C md (zaG A G C md chk xs) v1 v2 v3 v4 v5 v6 v7 v8 x
noncomputable def zb1(A:Adr)(G:Gl)(C:zai)(md:Md)(F1:M Unit→List PV→PV→PV→PV→PV→PV→Option PV→Option PV→Option PV→M PV)(v1 v2 v3 v4:PV):M PV:=
 ((cnew (.list [])).bind fun v5=>
 (M.cond (md.lp&&true) ((zaF [v2]).bind fun v6=>F1 (chkW v6.watch) v6.xs v1 v2 v3 v4 v5 Option.none Option.none Option.none) M.fail))
noncomputable def zcU(A:Adr)(G:Gl)(C:zai)(md:Md)(v1 v2 v3 v4:PV):M PV:=zb1 A G C md (zaG A G C md) v1 v2 v3 v4
noncomputable def zaE(v1 v2 v3 v4 v5 v6 v7 v8:Option PV):LL:=[("_law_cell",v1),("_law_many",v2),("_law_room",v3),("_law_names_here",v4),("_law_row_here",v5),("_law_k",v6),("_law_more",v7),("_law_size",v8)]
theorem zcD(C:zai)(md:Md)(chk:M Unit):∀(xs:List PV)(v1:PV)(v2:PV)(v3:PV)(v4:PV)(v5:PV)(v6:Option PV)(v7:Option PV)(v8:Option PV),zas chk (FN 37).scope (forT (stAt (FN 37).body 1)) (exsL (XX C md 59 37) (forB (stAt (FN 37).body 1))) xs (zaE (some v1) (some v2) (some v3) (some v4) (some v5) v6 v7 v8) (XK C md 60 37 2)=zaG AA GG C md  chk xs v1 v2 v3 v4 v5 v6 v7 v8:=by
 intro xs
 induction xs with
 | nil=>
  intro v1 v2 v3 v4 v5 v6 v7 v8
  have e:(XK C md 60 37 2) (zaE (some v1) (some v2) (some v3) (some v4) (some v5) v6 v7 v8)=zbL AA GG C md  v1 v2 v3 v4 v5 v6 v7 v8:=by kernel_rfl
  show (chk.bind fun _=>(XK C md 60 37 2) (zaE (some v1) (some v2) (some v3) (some v4) (some v5) v6 v7 v8))=chk.bind fun _=>zbL AA GG C md  v1 v2 v3 v4 v5 v6 v7 v8
  rw [e]
 | cons x xs ih=>
  intro v1 v2 v3 v4 v5 v6 v7 v8
  have k:(fun v1' v2' v3' v4' v5' v6' v7' v8'=>zas chk (FN 37).scope (forT (stAt (FN 37).body 1)) (exsL (XX C md 59 37) (forB (stAt (FN 37).body 1))) xs (zaE (some v1') (some v2') (some v3') (some v4') (some v5') v6' v7' v8') (XK C md 60 37 2))=zaG AA GG C md  chk xs:=by funext s0 s1 s2 s3 s4 s5 s6 s7;exact ih s0 s1 s2 s3 s4 s5 s6 s7
  have e:zas chk (FN 37).scope (forT (stAt (FN 37).body 1)) (exsL (XX C md 59 37) (forB (stAt (FN 37).body 1))) (x::xs) (zaE (some v1) (some v2) (some v3) (some v4) (some v5) v6 v7 v8) (XK C md 60 37 2)=chk.bind fun _=>zbh AA GG C md (fun v1' v2' v3' v4' v5' v6' v7' v8'=>zas chk (FN 37).scope (forT (stAt (FN 37).body 1)) (exsL (XX C md 59 37) (forB (stAt (FN 37).body 1))) xs (zaE (some v1') (some v2') (some v3') (some v4') (some v5') v6' v7' v8') (XK C md 60 37 2)) v1 v2 v3 v4 v5 v6 v7 v8 x:=by kernel_rfl
  rw [k] at e
  exact e
theorem zfH(C:zai)(md:Md)(v1 v2 v3 v4:PV):zal GG C md AA.l_plain_row [v1,v2,v3,v4]=zcU AA GG C md v1 v2 v3 v4:=by
 have r1:(fun chk' xs' v1' v2' v3' v4' v5' v6' v7' v8'=>zas chk' (FN 37).scope (forT (stAt (FN 37).body 1)) (exsL (XX C md 59 37) (forB (stAt (FN 37).body 1))) xs' (zaE (some v1') (some v2') (some v3') (some v4') (some v5') v6' v7' v8') (XK C md 60 37 2))=zaG AA GG C md:=by funext s0 s1 s2 s3 s4 s5 s6 s7 s8 s9;exact zcD C md s0 s1 s2 s3 s4 s5 s6 s7 s8 s9
 have e:zal GG C md AA.l_plain_row [v1,v2,v3,v4]=zb1 AA GG C md (fun chk' xs' v1' v2' v3' v4' v5' v6' v7' v8'=>zas chk' (FN 37).scope (forT (stAt (FN 37).body 1)) (exsL (XX C md 59 37) (forB (stAt (FN 37).body 1))) xs' (zaE (some v1') (some v2') (some v3') (some v4') (some v5') v6' v7' v8') (XK C md 60 37 2)) v1 v2 v3 v4:=by kernel_rfl
 rw [r1] at e
 exact e
noncomputable def zdU(A:Adr)(G:Gl)(C:zai)(md:Md)(kk:PV→PV→PV→PV→PV→PV→PV→PV→Option PV→M PV)(v1:PV)(v2:PV)(v3:PV)(v4:PV)(v5:PV)(v6:PV)(v7:PV)(v8:PV)(v9:Option PV)(v10:PV):M PV:=
 ((zbP md false "append" v8 (seqM [((seqM [(M.ret (.str "or")),((seqM [(M.ret (.str "not")),((seqM [(M.ret (.str "name")),((opM false .Sub v10 (.int 1)).bind fun v11=>(index v3 v11))]).bind fun v12=>(M.ret (.tup v12)))]).bind fun v13=>(M.ret (.tup v13))),((seqM [(M.ret (.str "name")),(index v3 v10)]).bind fun v14=>(M.ret (.tup v14)))]).bind fun v15=>(M.ret (.tup v15)))])).bind fun _=>
 (kk v1 v2 v3 v4 v5 v6 v7 v8 (some v10)))
noncomputable def zcq(A:Adr)(G:Gl)(C:zai)(md:Md)  (v1:PV) (v2:PV) (v3:PV) (v4:PV) (v5:PV) (v6:PV) (v7:PV) (v8:PV) (v9:Option PV):M PV:=
 (((cutM false v8 Option.none (some 5)).bind fun v16=>(((seqM [((seqM [(M.ret (.str "not")),((seqM [(M.ret (.str "name")),((((seqM [(cutM false v8 Option.none (some 5))]).bind fun v17=>(biM md false "len" v17)).bind fun v18=>(opM false .Sub v18 (.int 1))).bind fun v19=>(index v3 v19))]).bind fun v20=>(M.ret (.tup v20)))]).bind fun v21=>(M.ret (.tup v21)))]).bind fun v22=>(M.ret (.lst v22))).bind fun v23=>(opM false .Add v16 v23))).bind fun v24=>
 (zbu md false ((seqM [(biM md false "len" [v24])]).bind zaF) fun v25=>((((biM md.inn false "len" [v24]).bind fun v26=>(opM false .Mod v5 v26)).bind fun v27=>(opM false .Sub v25 v27)).bind fun v28=>(index v24 v28)).bind fun v29=>M.ret (some v29)))
noncomputable def zb0(A:Adr)(G:Gl)(C:zai)(md:Md)(chk:M Unit):List PV→PV→PV→PV→PV→PV→PV→PV→PV→Option PV→M PV
 | [],v1,v2,v3,v4,v5,v6,v7,v8,v9=>chk.bind fun _=>zcq A G C md v1 v2 v3 v4 v5 v6 v7 v8 v9
 | x::xs,v1,v2,v3,v4,v5,v6,v7,v8,v9=>chk.bind fun _=>zdU A G C md (zb0 A G C md chk xs) v1 v2 v3 v4 v5 v6 v7 v8 v9 x
noncomputable def zhr(A:Adr)(G:Gl)(C:zai)(md:Md)(F1:M Unit→List PV→PV→PV→PV→PV→PV→PV→PV→PV→Option PV→M PV)(v1 v2 v3:PV):M PV:=
 ((opM false .Mod v1 (.int 6)).bind fun v4=>
 ((opM false .FloorDiv v1 (.int 6)).bind fun v5=>
 (((seqM [(M.ret v5),((opM false .Mod v5 (.int 4)).bind fun v6=>(opM false .Add (.int 1) v6)),(M.ret v3)]).bind fun v7=>(C md A.l_saying v7)).bind fun v8=>
 (((seqM [((opM false .FloorDiv v5 (.int 5)).bind fun v9=>(opM false .Add v9 (.int 17))),(((opM false .FloorDiv v5 (.int 5)).bind fun v10=>(opM false .Mod v10 (.int 3))).bind fun v11=>(opM false .Add (.int 1) v11)),(M.ret v3)]).bind fun v12=>(C md A.l_saying v12)).bind fun v13=>
 (ifM (zac .Eq v4 (.int 0))
 ((seqM [(M.ret (.tup [(.str "and"),v8,v13])),((seqM [(M.ret (.str "not")),((seqM [(M.ret (.str "or")),(M.ret v8),((seqM [(M.ret (.str "name")),(index v3 (.int (-1)))]).bind fun v14=>(M.ret (.tup v14)))]).bind fun v15=>(M.ret (.tup v15)))]).bind fun v16=>(M.ret (.tup v16)))]).bind fun v17=>(M.ret (.lst v17)))
 (ifM (zac .Eq v4 (.int 1))
 ((zbb ((opM false .FloorDiv v5 (.int 20)).bind fun v18=>(opM false .Mod v18 (.int 2)))).bind fun v19=>(cutM false (.lst [v8,v13,(.tup [(.str "not"),(.tup [(.str "and"),v8,v13])])]) v19 Option.none))
 (ifM (zac .Eq v4 (.int 2))
 (((seqM [((seqM [(M.ret (.str "name")),(index v3 (.int 0))]).bind fun v20=>(M.ret (.tup v20)))]).bind fun v21=>(cnew (.list v21))).bind fun v22=>
 (M.cond (md.lp&&true) (((seqM [(M.ret (.int 1)),(biM md false "len" [v3])]).bind zaF).bind fun v23=>F1 (chkW v23.watch) v23.xs v1 v2 v3 v4 v5 v8 v13 v22 Option.none) M.fail))
 (ifM (zac .Eq v4 (.int 3))
 (((zbb ((opM false .FloorDiv v5 (.int 20)).bind fun v24=>(opM false .Mod v24 (.int 2)))).bind fun v25=>(cutM false (.lst [(.tup [(.str "not"),v13])]) Option.none v25)).bind fun v26=>(opM false .Add (.lst [(.tup [(.str "and"),v8,v8]),(.tup [(.str "or"),(.tup [(.str "not"),v8]),v13])]) v26))
 ((seqM [(M.ret v5),((opM false .Mod v5 (.int 6)).bind fun v27=>(opM false .Add (.int 1) v27)),(M.ret v2),(M.ret v3)]).bind fun v28=>(C md A.l_plain_row v28))))))))))
noncomputable def zhs(A:Adr)(G:Gl)(C:zai)(md:Md)(v1 v2 v3:PV):M PV:=zhr A G C md (zb0 A G C md) v1 v2 v3
noncomputable def zcg(v1 v2 v3 v4 v5 v6 v7 v8 v9:Option PV):LL:=[("_law_cell",v1),("_law_most",v2),("_law_names_here",v3),("_law_way",v4),("_law_more",v5),("_law_one",v6),("_law_other",v7),("_law_row_here",v8),("_law_k",v9)]
theorem zfG(C:zai)(md:Md)(chk:M Unit):∀(xs:List PV)(v1:PV)(v2:PV)(v3:PV)(v4:PV)(v5:PV)(v6:PV)(v7:PV)(v8:PV)(v9:Option PV),zas chk (FN 38).scope (forT (stAt (ifA (stAt (FN 38).body 6)) 1)) (exsL (XX C md 58 38) (forB (stAt (ifA (stAt (FN 38).body 6)) 1))) xs (zcg (some v1) (some v2) (some v3) (some v4) (some v5) (some v6) (some v7) (some v8) v9) (fun l=>exsL (XX C md 59 38) (List.drop 2 (ifA (stAt (FN 38).body 6))) l (XK C md 60 38 7))=zb0 AA GG C md  chk xs v1 v2 v3 v4 v5 v6 v7 v8 v9:=by
 intro xs
 induction xs with
 | nil=>
  intro v1 v2 v3 v4 v5 v6 v7 v8 v9
  have e:(fun l=>exsL (XX C md 59 38) (List.drop 2 (ifA (stAt (FN 38).body 6))) l (XK C md 60 38 7)) (zcg (some v1) (some v2) (some v3) (some v4) (some v5) (some v6) (some v7) (some v8) v9)=zcq AA GG C md  v1 v2 v3 v4 v5 v6 v7 v8 v9:=by kernel_rfl
  show (chk.bind fun _=>(fun l=>exsL (XX C md 59 38) (List.drop 2 (ifA (stAt (FN 38).body 6))) l (XK C md 60 38 7)) (zcg (some v1) (some v2) (some v3) (some v4) (some v5) (some v6) (some v7) (some v8) v9))=chk.bind fun _=>zcq AA GG C md  v1 v2 v3 v4 v5 v6 v7 v8 v9
  rw [e]
 | cons x xs ih=>
  intro v1 v2 v3 v4 v5 v6 v7 v8 v9
  have k:(fun v1' v2' v3' v4' v5' v6' v7' v8' v9'=>zas chk (FN 38).scope (forT (stAt (ifA (stAt (FN 38).body 6)) 1)) (exsL (XX C md 58 38) (forB (stAt (ifA (stAt (FN 38).body 6)) 1))) xs (zcg (some v1') (some v2') (some v3') (some v4') (some v5') (some v6') (some v7') (some v8') v9') (fun l=>exsL (XX C md 59 38) (List.drop 2 (ifA (stAt (FN 38).body 6))) l (XK C md 60 38 7)))=zb0 AA GG C md  chk xs:=by funext s0 s1 s2 s3 s4 s5 s6 s7 s8;exact ih s0 s1 s2 s3 s4 s5 s6 s7 s8
  have e:zas chk (FN 38).scope (forT (stAt (ifA (stAt (FN 38).body 6)) 1)) (exsL (XX C md 58 38) (forB (stAt (ifA (stAt (FN 38).body 6)) 1))) (x::xs) (zcg (some v1) (some v2) (some v3) (some v4) (some v5) (some v6) (some v7) (some v8) v9) (fun l=>exsL (XX C md 59 38) (List.drop 2 (ifA (stAt (FN 38).body 6))) l (XK C md 60 38 7))=chk.bind fun _=>zdU AA GG C md (fun v1' v2' v3' v4' v5' v6' v7' v8' v9'=>zas chk (FN 38).scope (forT (stAt (ifA (stAt (FN 38).body 6)) 1)) (exsL (XX C md 58 38) (forB (stAt (ifA (stAt (FN 38).body 6)) 1))) xs (zcg (some v1') (some v2') (some v3') (some v4') (some v5') (some v6') (some v7') (some v8') v9') (fun l=>exsL (XX C md 59 38) (List.drop 2 (ifA (stAt (FN 38).body 6))) l (XK C md 60 38 7))) v1 v2 v3 v4 v5 v6 v7 v8 v9 x:=by kernel_rfl
  rw [k] at e
  exact e
theorem znN(C:zai)(md:Md)(v1 v2 v3:PV):zal GG C md AA.l_row [v1,v2,v3]=zhs AA GG C md v1 v2 v3:=by
 have r1:(fun chk' xs' v1' v2' v3' v4' v5' v6' v7' v8' v9'=>zas chk' (FN 38).scope (forT (stAt (ifA (stAt (FN 38).body 6)) 1)) (exsL (XX C md 58 38) (forB (stAt (ifA (stAt (FN 38).body 6)) 1))) xs' (zcg (some v1') (some v2') (some v3') (some v4') (some v5') (some v6') (some v7') (some v8') v9') (fun l=>exsL (XX C md 59 38) (List.drop 2 (ifA (stAt (FN 38).body 6))) l (XK C md 60 38 7)))=zb0 AA GG C md:=by funext s0 s1 s2 s3 s4 s5 s6 s7 s8 s9 s10;exact zfG C md s0 s1 s2 s3 s4 s5 s6 s7 s8 s9 s10
 have e:zal GG C md AA.l_row [v1,v2,v3]=zhr AA GG C md (fun chk' xs' v1' v2' v3' v4' v5' v6' v7' v8' v9'=>zas chk' (FN 38).scope (forT (stAt (ifA (stAt (FN 38).body 6)) 1)) (exsL (XX C md 58 38) (forB (stAt (ifA (stAt (FN 38).body 6)) 1))) xs' (zcg (some v1') (some v2') (some v3') (some v4') (some v5') (some v6') (some v7') (some v8') v9') (fun l=>exsL (XX C md 59 38) (List.drop 2 (ifA (stAt (FN 38).body 6))) l (XK C md 60 38 7))) v1 v2 v3:=by kernel_rfl
 rw [r1] at e
 exact e
noncomputable def ze8(A:Adr)(G:Gl)(C:zai)(md:Md)(kk:PV→PV→Option PV→M PV)(v1:PV)(v2:PV)(v3:Option PV)(v4:PV):M PV:=
 (ifM (andM (notM (index v4 (.int 1))) ((index v4 (.int 2)).bind fun v5=>((index v2 (.int 2)).bind fun v6=>(zac .Eq v5 v6))))
 (M.ret (.tup [(.str "clash"),v2,v4]))
 (kk v1 v2 (some v4)))
noncomputable def zdg(A:Adr)(G:Gl)(C:zai)(md:Md)  (kk:PV→Option PV→Option PV→M PV) (v1:PV) (v2:PV) (v3:Option PV):M PV:=
 (kk v1 (some v2) v3)
noncomputable def zaP(A:Adr)(G:Gl)(C:zai)(md:Md)(kk:PV→Option PV→Option PV→M PV)(chk:M Unit):List PV→PV→PV→Option PV→M PV
 | [],v1,v2,v3=>chk.bind fun _=>zdg A G C md kk v1 v2 v3
 | x::xs,v1,v2,v3=>chk.bind fun _=>ze8 A G C md (zaP A G C md kk chk xs) v1 v2 v3 x
noncomputable def ze9(A:Adr)(G:Gl)(C:zai)(md:Md)(F2:M Unit→List PV→PV→PV→Option PV→M PV)(kk:PV→Option PV→Option PV→M PV)(v1:PV)(v2:Option PV)(v3:Option PV)(v4:PV):M PV:=
 (ifM (andM (index v4 (.int 1)) (((index v4 (.int 2)).bind fun v5=>(index v5 (.int 0))).bind fun v6=>(zac .Eq v6 (.str "name"))))
 (M.cond (md.lp&&true) ((zbr v1).bind fun v7=>F2 (chkW v7.watch) v7.xs v1 v4 v3) M.fail)
 (kk v1 (some v4) v3))
noncomputable def zdh(A:Adr)(G:Gl)(C:zai)(md:Md)  (v1:PV) (v2:Option PV) (v3:Option PV):M PV:=
 (M.ret PV.none)
noncomputable def zav(A:Adr)(G:Gl)(C:zai)(md:Md)(chk:M Unit):List PV→PV→Option PV→Option PV→M PV
 | [],v1,v2,v3=>chk.bind fun _=>zdh A G C md v1 v2 v3
 | x::xs,v1,v2,v3=>chk.bind fun _=>ze9 A G C md (zaP A G C md (zav A G C md chk xs)) (zav A G C md chk xs) v1 v2 v3 x
noncomputable def zgC(A:Adr)(G:Gl)(C:zai)(md:Md)(F1:M Unit→List PV→PV→Option PV→Option PV→M PV)(v1:PV):M PV:=
 (M.cond (md.lp&&true) ((zbr v1).bind fun v2=>F1 (chkW v2.watch) v2.xs v1 Option.none Option.none) M.fail)
noncomputable def zkL(A:Adr)(G:Gl)(C:zai)(md:Md)(v1:PV):M PV:=zgC A G C md (zav A G C md) v1
noncomputable def zaq(v1 v2 v3:Option PV):LL:=[("_law_claims",v1),("_law_one",v2),("_law_other",v3)]
theorem zei(C:zai)(md:Md)(kl:LL→M PV)(chk:M Unit):∀(xs:List PV)(v1:PV)(v2:PV)(v3:Option PV),zas chk (FN 40).scope (forT (stAt (ifA (stAt (forB (stAt (FN 40).body 0)) 0)) 0)) (exsL (XX C md 57 40) (forB (stAt (ifA (stAt (forB (stAt (FN 40).body 0)) 0)) 0))) xs (zaq (some v1) (some v2) v3) (fun l=>exsL (XX C md 58 40) (List.drop 1 (ifA (stAt (forB (stAt (FN 40).body 0)) 0))) l (fun l=>exsL (XX C md 59 40) (List.drop 1 (forB (stAt (FN 40).body 0))) l kl))=zaP AA GG C md (fun v1' v2' v3'=>kl (zaq (some v1') v2' v3')) chk xs v1 v2 v3:=by
 intro xs
 induction xs with
 | nil=>
  intro v1 v2 v3
  have e:(fun l=>exsL (XX C md 58 40) (List.drop 1 (ifA (stAt (forB (stAt (FN 40).body 0)) 0))) l (fun l=>exsL (XX C md 59 40) (List.drop 1 (forB (stAt (FN 40).body 0))) l kl)) (zaq (some v1) (some v2) v3)=zdg AA GG C md (fun v1' v2' v3'=>kl (zaq (some v1') v2' v3')) v1 v2 v3:=by kernel_rfl
  show (chk.bind fun _=>(fun l=>exsL (XX C md 58 40) (List.drop 1 (ifA (stAt (forB (stAt (FN 40).body 0)) 0))) l (fun l=>exsL (XX C md 59 40) (List.drop 1 (forB (stAt (FN 40).body 0))) l kl)) (zaq (some v1) (some v2) v3))=chk.bind fun _=>zdg AA GG C md (fun v1' v2' v3'=>kl (zaq (some v1') v2' v3')) v1 v2 v3
  rw [e]
 | cons x xs ih=>
  intro v1 v2 v3
  have k:(fun v1' v2' v3'=>zas chk (FN 40).scope (forT (stAt (ifA (stAt (forB (stAt (FN 40).body 0)) 0)) 0)) (exsL (XX C md 57 40) (forB (stAt (ifA (stAt (forB (stAt (FN 40).body 0)) 0)) 0))) xs (zaq (some v1') (some v2') v3') (fun l=>exsL (XX C md 58 40) (List.drop 1 (ifA (stAt (forB (stAt (FN 40).body 0)) 0))) l (fun l=>exsL (XX C md 59 40) (List.drop 1 (forB (stAt (FN 40).body 0))) l kl)))=zaP AA GG C md (fun v1' v2' v3'=>kl (zaq (some v1') v2' v3')) chk xs:=by funext s0 s1 s2;exact ih s0 s1 s2
  have e:zas chk (FN 40).scope (forT (stAt (ifA (stAt (forB (stAt (FN 40).body 0)) 0)) 0)) (exsL (XX C md 57 40) (forB (stAt (ifA (stAt (forB (stAt (FN 40).body 0)) 0)) 0))) (x::xs) (zaq (some v1) (some v2) v3) (fun l=>exsL (XX C md 58 40) (List.drop 1 (ifA (stAt (forB (stAt (FN 40).body 0)) 0))) l (fun l=>exsL (XX C md 59 40) (List.drop 1 (forB (stAt (FN 40).body 0))) l kl))=chk.bind fun _=>ze8 AA GG C md (fun v1' v2' v3'=>zas chk (FN 40).scope (forT (stAt (ifA (stAt (forB (stAt (FN 40).body 0)) 0)) 0)) (exsL (XX C md 57 40) (forB (stAt (ifA (stAt (forB (stAt (FN 40).body 0)) 0)) 0))) xs (zaq (some v1') (some v2') v3') (fun l=>exsL (XX C md 58 40) (List.drop 1 (ifA (stAt (forB (stAt (FN 40).body 0)) 0))) l (fun l=>exsL (XX C md 59 40) (List.drop 1 (forB (stAt (FN 40).body 0))) l kl))) v1 v2 v3 x:=by kernel_rfl
  rw [k] at e
  exact e
theorem zej(C:zai)(md:Md)(chk:M Unit):∀(xs:List PV)(v1:PV)(v2:Option PV)(v3:Option PV),zas chk (FN 40).scope (forT (stAt (FN 40).body 0)) (exsL (XX C md 59 40) (forB (stAt (FN 40).body 0))) xs (zaq (some v1) v2 v3) (XK C md 60 40 1)=zav AA GG C md  chk xs v1 v2 v3:=by
 intro xs
 induction xs with
 | nil=>
  intro v1 v2 v3
  have e:(XK C md 60 40 1) (zaq (some v1) v2 v3)=zdh AA GG C md  v1 v2 v3:=by kernel_rfl
  show (chk.bind fun _=>(XK C md 60 40 1) (zaq (some v1) v2 v3))=chk.bind fun _=>zdh AA GG C md  v1 v2 v3
  rw [e]
 | cons x xs ih=>
  intro v1 v2 v3
  have k:(fun v1' v2' v3'=>zas chk (FN 40).scope (forT (stAt (FN 40).body 0)) (exsL (XX C md 59 40) (forB (stAt (FN 40).body 0))) xs (zaq (some v1') v2' v3') (XK C md 60 40 1))=zav AA GG C md  chk xs:=by funext s0 s1 s2;exact ih s0 s1 s2
  have q2:(fun chk' xs' v1' v2' v3'=>zas chk' (FN 40).scope (forT (stAt (ifA (stAt (forB (stAt (FN 40).body 0)) 0)) 0)) (exsL (XX C md 57 40) (forB (stAt (ifA (stAt (forB (stAt (FN 40).body 0)) 0)) 0))) xs' (zaq (some v1') (some v2') v3') (fun l=>exsL (XX C md 58 40) (List.drop 1 (ifA (stAt (forB (stAt (FN 40).body 0)) 0))) l (fun l=>exsL (XX C md 59 40) (List.drop 1 (forB (stAt (FN 40).body 0))) l (fun l=>zas chk (FN 40).scope (forT (stAt (FN 40).body 0)) (exsL (XX C md 59 40) (forB (stAt (FN 40).body 0))) xs l (XK C md 60 40 1)))))=zaP AA GG C md (zav AA GG C md  chk xs):=by rw [← k];funext s0 s1 s2 s3 s4;exact zei C md (fun l=>zas chk (FN 40).scope (forT (stAt (FN 40).body 0)) (exsL (XX C md 59 40) (forB (stAt (FN 40).body 0))) xs l (XK C md 60 40 1)) s0 s1 s2 s3 s4
  have e:zas chk (FN 40).scope (forT (stAt (FN 40).body 0)) (exsL (XX C md 59 40) (forB (stAt (FN 40).body 0))) (x::xs) (zaq (some v1) v2 v3) (XK C md 60 40 1)=chk.bind fun _=>ze9 AA GG C md (fun chk' xs' v1' v2' v3'=>zas chk' (FN 40).scope (forT (stAt (ifA (stAt (forB (stAt (FN 40).body 0)) 0)) 0)) (exsL (XX C md 57 40) (forB (stAt (ifA (stAt (forB (stAt (FN 40).body 0)) 0)) 0))) xs' (zaq (some v1') (some v2') v3') (fun l=>exsL (XX C md 58 40) (List.drop 1 (ifA (stAt (forB (stAt (FN 40).body 0)) 0))) l (fun l=>exsL (XX C md 59 40) (List.drop 1 (forB (stAt (FN 40).body 0))) l (fun l=>zas chk (FN 40).scope (forT (stAt (FN 40).body 0)) (exsL (XX C md 59 40) (forB (stAt (FN 40).body 0))) xs l (XK C md 60 40 1))))) (fun v1' v2' v3'=>zas chk (FN 40).scope (forT (stAt (FN 40).body 0)) (exsL (XX C md 59 40) (forB (stAt (FN 40).body 0))) xs (zaq (some v1') v2' v3') (XK C md 60 40 1)) v1 v2 v3 x:=by kernel_rfl
  rw [k,q2] at e
  exact e
theorem zkK(C:zai)(md:Md)(v1:PV):zal GG C md AA.l_clash [v1]=zkL AA GG C md v1:=by
 have r1:(fun chk' xs' v1' v2' v3'=>zas chk' (FN 40).scope (forT (stAt (FN 40).body 0)) (exsL (XX C md 59 40) (forB (stAt (FN 40).body 0))) xs' (zaq (some v1') v2' v3') (XK C md 60 40 1))=zav AA GG C md:=by funext s0 s1 s2 s3 s4;exact zej C md s0 s1 s2 s3 s4
 have e:zal GG C md AA.l_clash [v1]=zgC AA GG C md (fun chk' xs' v1' v2' v3'=>zas chk' (FN 40).scope (forT (stAt (FN 40).body 0)) (exsL (XX C md 59 40) (forB (stAt (FN 40).body 0))) xs' (zaq (some v1') v2' v3') (XK C md 60 40 1)) v1:=by kernel_rfl
 rw [r1] at e
 exact e
noncomputable def zhq(A:Adr)(G:Gl)(C:zai)(md:Md)(v1 v2:PV):M PV:=
 ((zbP md false "index" v1 (M.ret [v2])).bind fun v3=>
 (((zbb (M.ret v3)).bind fun v4=>(cutM false v1 Option.none v4)).bind fun v5=>(((zbb (opM false .Add v3 (.int 1))).bind fun v6=>(cutM false v1 v6 Option.none)).bind fun v7=>(opM false .Add v5 v7))))
theorem zhp(C:zai)(md:Md)(v1 v2:PV):zal GG C md AA.l_without [v1,v2]=zhq AA GG C md v1 v2:=by kernel_rfl
noncomputable def zfa(A:Adr)(G:Gl)(C:zai)(md:Md)(kk:PV→PV→Option PV→Option PV→Option PV→Option PV→Option PV→Option PV→Option PV→M PV)(v1:PV)(v2:PV)(v3:Option PV)(v4:Option PV)(v5:Option PV)(v6:Option PV)(v7:Option PV)(v8:Option PV)(v9:Option PV)(v10:PV):M PV:=
 (ifM (((C md A.l_comes [v10]).bind fun v11=>(index v11 (.int 0))).bind fun v12=>(zac .Eq v12 (.str "shut")))
 (M.ret (.tup [(.str "shut"),v10]))
 (kk v1 v2 (some v10) v4 v5 v6 v7 v8 v9))
noncomputable def zbS(A:Adr)(G:Gl)(C:zai)(md:Md)  (v1:PV) (v2:PV) (v3:Option PV) (v4:Option PV) (v5:Option PV) (v6:Option PV) (v7:Option PV) (v8:Option PV) (v9:Option PV):M PV:=
 (ifM ((C md A.l_clash [v1]).bind fun v13=>(zac .IsNot v13 PV.none))
 (C md A.l_clash [v1])
 ((zbu md false (zbr v1) fun v14=>(((C md.inn A.l_comes [v14]).bind fun v15=>(index v15 (.int 0))).bind fun v16=>(zac .Eq v16 (.str "apart"))).bind fun v17=>(zar v17).bind fun v18=>M.cond v18 (M.ret (some v14)) (M.ret Option.none)).bind fun v19=>
 (ifM (orM (zac .Eq v19 (.lst [])) ((opM false .Mod v2 (.int 5)).bind fun v20=>(zac .Eq v20 (.int 0))))
 (((zbu md false (zbr v1) fun v21=>(((C md.inn A.l_comes [v21]).bind fun v22=>(index v22 (.int 0))).bind fun v23=>(zac .Eq v23 (.str "fork"))).bind fun v24=>(zar v24).bind fun v25=>M.cond v25 (M.ret (some v21)) (M.ret Option.none)).bind fun v26=>(opM false .Add v19 v26)).bind fun v27=>
 (ifM (zac .Eq v27 (.lst []))
 (M.ret PV.none)
 ((((opM false .FloorDiv v2 (.int 5)).bind fun v28=>((biM md false "len" [v27]).bind fun v29=>(opM false .Mod v28 v29))).bind fun v30=>(index v27 v30)).bind fun v31=>
 (M.cond (md.lp&&true) ((C md A.l_comes [v31]).bind fun v32=>(tup2 v32 fun v33 v34=>
 ((C md A.l_without [v1,v31]).bind fun v35=>
 ((((opM false .Mult v2 (.int 16807)).bind fun v36=>(opM false .Add v36 (.int 3))).bind fun v37=>(opM false .Mod v37 (.int 1000003))).bind fun v38=>
 (ifM (zac .Eq v33 (.str "apart"))
 (((seqM [(opM false .Add v35 v34),(M.ret v38)]).bind fun v39=>(C md A.l_built v39)).bind fun v40=>
 (ifM (zac .Is v40 PV.none) (M.ret PV.none) (M.ret (.tup [(.str "apart"),v31,v40]))))
 (((seqM [((cutM false v34 Option.none (some 1)).bind fun v41=>(opM false .Add v35 v41)),(M.ret v38)]).bind fun v42=>(C md A.l_built v42)).bind fun v43=>
 (ifM (zac .Is v43 PV.none)
 (M.ret PV.none)
 (((seqM [((cutM false v34 (some 1) Option.none).bind fun v44=>(opM false .Add v35 v44)),(opM false .Add v38 (.int 1))]).bind fun v45=>(C md A.l_built v45)).bind fun v46=>
 (ifM (zac .Is v46 PV.none) (M.ret PV.none) (M.ret (.tup [(.str "fork"),v31,v43,v46]))))))))))) M.fail))))
 (ifM (zac .Eq v19 (.lst []))
 (M.ret PV.none)
 ((((opM false .FloorDiv v2 (.int 5)).bind fun v47=>((biM md false "len" [v19]).bind fun v48=>(opM false .Mod v47 v48))).bind fun v49=>(index v19 v49)).bind fun v50=>
 (M.cond (md.lp&&true) ((C md A.l_comes [v50]).bind fun v51=>(tup2 v51 fun v52 v53=>
 ((C md A.l_without [v1,v50]).bind fun v54=>
 ((((opM false .Mult v2 (.int 16807)).bind fun v55=>(opM false .Add v55 (.int 3))).bind fun v56=>(opM false .Mod v56 (.int 1000003))).bind fun v57=>
 (ifM (zac .Eq v52 (.str "apart"))
 (((seqM [(opM false .Add v54 v53),(M.ret v57)]).bind fun v58=>(C md A.l_built v58)).bind fun v59=>
 (ifM (zac .Is v59 PV.none) (M.ret PV.none) (M.ret (.tup [(.str "apart"),v50,v59]))))
 (((seqM [((cutM false v53 Option.none (some 1)).bind fun v60=>(opM false .Add v54 v60)),(M.ret v57)]).bind fun v61=>(C md A.l_built v61)).bind fun v62=>
 (ifM (zac .Is v62 PV.none)
 (M.ret PV.none)
 (((seqM [((cutM false v53 (some 1) Option.none).bind fun v63=>(opM false .Add v54 v63)),(opM false .Add v57 (.int 1))]).bind fun v64=>(C md A.l_built v64)).bind fun v65=>
 (ifM (zac .Is v65 PV.none) (M.ret PV.none) (M.ret (.tup [(.str "fork"),v50,v62,v65]))))))))))) M.fail))))))
noncomputable def zaQ(A:Adr)(G:Gl)(C:zai)(md:Md)(chk:M Unit):List PV→PV→PV→Option PV→Option PV→Option PV→Option PV→Option PV→Option PV→Option PV→M PV
 | [],v1,v2,v3,v4,v5,v6,v7,v8,v9=>chk.bind fun _=>zbS A G C md v1 v2 v3 v4 v5 v6 v7 v8 v9
 | x::xs,v1,v2,v3,v4,v5,v6,v7,v8,v9=>chk.bind fun _=>zfa A G C md (zaQ A G C md chk xs) v1 v2 v3 v4 v5 v6 v7 v8 v9 x
noncomputable def zgD(A:Adr)(G:Gl)(C:zai)(md:Md)(F1:M Unit→List PV→PV→PV→Option PV→Option PV→Option PV→Option PV→Option PV→Option PV→Option PV→M PV)(v1 v2:PV):M PV:=
 (M.cond (md.lp&&true) ((zbr v1).bind fun v3=>F1 (chkW v3.watch) v3.xs v1 v2 Option.none Option.none Option.none Option.none Option.none Option.none Option.none) M.fail)
noncomputable def zkN(A:Adr)(G:Gl)(C:zai)(md:Md)(v1 v2:PV):M PV:=zgD A G C md (zaQ A G C md) v1 v2
noncomputable def zbo(v1 v2 v3 v4 v5 v6 v7 v8 v9:Option PV):LL:=[("_law_claims",v1),("_law_cell",v2),("_law_claim",v3),("_law_some",v4),("_law_word",v5),("_law_come",v6),("_law_left",v7),("_law_one",v8),("_law_other",v9)]
theorem zek(C:zai)(md:Md)(chk:M Unit):∀(xs:List PV)(v1:PV)(v2:PV)(v3:Option PV)(v4:Option PV)(v5:Option PV)(v6:Option PV)(v7:Option PV)(v8:Option PV)(v9:Option PV),zas chk (FN 42).scope (forT (stAt (FN 42).body 0)) (exsL (XX C md 59 42) (forB (stAt (FN 42).body 0))) xs (zbo (some v1) (some v2) v3 v4 v5 v6 v7 v8 v9) (XK C md 60 42 1)=zaQ AA GG C md  chk xs v1 v2 v3 v4 v5 v6 v7 v8 v9:=by
 intro xs
 induction xs with
 | nil=>
  intro v1 v2 v3 v4 v5 v6 v7 v8 v9
  have e:(XK C md 60 42 1) (zbo (some v1) (some v2) v3 v4 v5 v6 v7 v8 v9)=zbS AA GG C md  v1 v2 v3 v4 v5 v6 v7 v8 v9:=by kernel_rfl
  show (chk.bind fun _=>(XK C md 60 42 1) (zbo (some v1) (some v2) v3 v4 v5 v6 v7 v8 v9))=chk.bind fun _=>zbS AA GG C md  v1 v2 v3 v4 v5 v6 v7 v8 v9
  rw [e]
 | cons x xs ih=>
  intro v1 v2 v3 v4 v5 v6 v7 v8 v9
  have k:(fun v1' v2' v3' v4' v5' v6' v7' v8' v9'=>zas chk (FN 42).scope (forT (stAt (FN 42).body 0)) (exsL (XX C md 59 42) (forB (stAt (FN 42).body 0))) xs (zbo (some v1') (some v2') v3' v4' v5' v6' v7' v8' v9') (XK C md 60 42 1))=zaQ AA GG C md  chk xs:=by funext s0 s1 s2 s3 s4 s5 s6 s7 s8;exact ih s0 s1 s2 s3 s4 s5 s6 s7 s8
  have e:zas chk (FN 42).scope (forT (stAt (FN 42).body 0)) (exsL (XX C md 59 42) (forB (stAt (FN 42).body 0))) (x::xs) (zbo (some v1) (some v2) v3 v4 v5 v6 v7 v8 v9) (XK C md 60 42 1)=chk.bind fun _=>zfa AA GG C md (fun v1' v2' v3' v4' v5' v6' v7' v8' v9'=>zas chk (FN 42).scope (forT (stAt (FN 42).body 0)) (exsL (XX C md 59 42) (forB (stAt (FN 42).body 0))) xs (zbo (some v1') (some v2') v3' v4' v5' v6' v7' v8' v9') (XK C md 60 42 1)) v1 v2 v3 v4 v5 v6 v7 v8 v9 x:=by kernel_rfl
  rw [k] at e
  exact e
theorem zkM(C:zai)(md:Md)(v1 v2:PV):zal GG C md AA.l_built [v1,v2]=zkN AA GG C md v1 v2:=by
 have r1:(fun chk' xs' v1' v2' v3' v4' v5' v6' v7' v8' v9'=>zas chk' (FN 42).scope (forT (stAt (FN 42).body 0)) (exsL (XX C md 59 42) (forB (stAt (FN 42).body 0))) xs' (zbo (some v1') (some v2') v3' v4' v5' v6' v7' v8' v9') (XK C md 60 42 1))=zaQ AA GG C md:=by funext s0 s1 s2 s3 s4 s5 s6 s7 s8 s9 s10;exact zek C md s0 s1 s2 s3 s4 s5 s6 s7 s8 s9 s10
 have e:zal GG C md AA.l_built [v1,v2]=zgD AA GG C md (fun chk' xs' v1' v2' v3' v4' v5' v6' v7' v8' v9'=>zas chk' (FN 42).scope (forT (stAt (FN 42).body 0)) (exsL (XX C md 59 42) (forB (stAt (FN 42).body 0))) xs' (zbo (some v1') (some v2') v3' v4' v5' v6' v7' v8' v9') (XK C md 60 42 1)) v1 v2:=by kernel_rfl
 rw [r1] at e
 exact e
noncomputable def zht(A:Adr)(G:Gl)(C:zai)(md:Md)(v1 v2:PV):M PV:=
 (ifM (orM (notM (isM G (.bi .tuple) v2)) (orM ((biM md false "len" [v2]).bind fun v3=>(zac .NotEq v3 (.int 3))) (orM ((index v2 (.int 0)).bind fun v4=>(isM G (.bi .bool) v4)) (notM ((index v2 (.int 1)).bind fun v5=>(isM G (.bi .bool) v5))))))
 (M.ret (.bool false))
 (zac .In v2 v1))
theorem zbC(C:zai)(md:Md)(v1 v2:PV):zal GG C md AA.l_is_open [v1,v2]=zht AA GG C md v1 v2:=by kernel_rfl
noncomputable def zi2(A:Adr)(G:Gl)(C:zai)(md:Md)(v1 v2:PV):M PV:=
 ((cnew (.dict [("shut",(.int 2)),("clash",(.int 3)),("apart",(.int 3)),("fork",(.int 4))])).bind fun v3=>
 (ifM (orM (notM (isM G (.bi .tuple) v2)) (orM ((biM md false "len" [v2]).bind fun v4=>(zac .Eq v4 (.int 0))) (notM ((index v2 (.int 0)).bind fun v5=>(isM G (.bi .str) v5)))))
 (M.ret (.bool false))
 (ifM (orM ((zbP md false "get" v3 (seqM [(index v2 (.int 0)),(M.ret (.int 0))])).bind fun v6=>((biM md false "len" [v2]).bind fun v7=>(zac .NotEq v6 v7))) (notM ((seqM [(M.ret v1),(index v2 (.int 1))]).bind fun v8=>(C md A.l_is_open v8))))
 (M.ret (.bool false))
 (M.cond (md.lp&&true) (((seqM [(index v2 (.int 1))]).bind fun v9=>(C md A.l_comes v9)).bind fun v10=>(tup2 v10 fun v11 v12=>
 (ifM ((index v2 (.int 0)).bind fun v13=>(zac .Eq v13 (.str "clash")))
 (ifM (orM (notM ((seqM [(M.ret v1),(index v2 (.int 2))]).bind fun v14=>(C md A.l_is_open v14))) (orM (zac .NotEq v11 (.str "name")) (((index v2 (.int 2)).bind fun v15=>(index v15 (.int 2))).bind fun v16=>(((index v2 (.int 1)).bind fun v17=>(index v17 (.int 2))).bind fun v18=>(zac .NotEq v16 v18)))))
 (M.ret (.bool false))
 (andM ((index v2 (.int 1)).bind fun v19=>(index v19 (.int 1))) (notM ((index v2 (.int 2)).bind fun v20=>(index v20 (.int 1))))))
 (ifM ((index v2 (.int 0)).bind fun v21=>(zac .NotEq v21 v11))
 (M.ret (.bool false))
 (ifM (zac .Eq v11 (.str "shut"))
 (M.ret (.bool true))
 (((seqM [(M.ret v1),(index v2 (.int 1))]).bind fun v22=>(C md A.l_without v22)).bind fun v23=>
 (ifM (zac .Eq v11 (.str "apart"))
 ((seqM [(opM false .Add v23 v12),(index v2 (.int 2))]).bind fun v24=>(C md A.l_stands v24))
 (andM ((seqM [((cutM false v12 Option.none (some 1)).bind fun v25=>(opM false .Add v23 v25)),(index v2 (.int 2))]).bind fun v26=>(C md A.l_stands v26)) ((seqM [((cutM false v12 (some 1) Option.none).bind fun v27=>(opM false .Add v23 v27)),(index v2 (.int 3))]).bind fun v28=>(C md A.l_stands v28)))))))))) M.fail))))
theorem zaO(C:zai)(md:Md)(v1 v2:PV):zal GG C md AA.l_stands [v1,v2]=zi2 AA GG C md v1 v2:=by kernel_rfl
noncomputable def zkP(A:Adr)(G:Gl)(C:zai)(md:Md)(v1:PV):M PV:=
 (zbu md false ((seqM [(biM md false "len" [v1])]).bind zaF) fun v2=>((seqM [(M.ret v2),(M.ret (.bool true)),(index v1 v2)]).bind fun v3=>(M.ret (.tup v3))).bind fun v4=>M.ret (some v4))
theorem zkO(C:zai)(md:Md)(v1:PV):zal GG C md AA.l_begun [v1]=zkP AA GG C md v1:=by kernel_rfl
noncomputable def zbR(A:Adr)(G:Gl)(C:zai)(md:Md)(v1 v2 v3:PV):M PV:=
 (M.cond (md.lp&&true) (tup3 v1 fun v4 v5 v6=>
 (((seqM [((seqM [(M.ret v4),(notM (M.ret v5)),(M.ret v6)]).bind fun v7=>(M.ret (.tup v7))),((seqM [(opM false .Add v4 (.int 1)),(M.ret v5),(M.ret v6)]).bind fun v8=>(M.ret (.tup v8))),(M.ret (.tup [v4,v5,(.tup [(.str "not"),v6])]))]).bind fun v9=>(M.ret (.lst v9))).bind fun v10=>
 ((((seqM [((seqM [(M.ret v4),(biM md false "int" [v5]),(M.ret v6)]).bind fun v11=>(M.ret (.tup v11))),(M.ret (.tup [v4,v5])),(M.ret (.lst [v4,v5,v6])),(M.ret PV.none)]).bind fun v12=>(M.ret (.lst v12))).bind fun v13=>(opM false .Add v10 v13)).bind fun v14=>
 ((((seqM [((seqM [(zac .Eq v4 (.int 1)),(M.ret v5),(M.ret v6)]).bind fun v15=>(M.ret (.tup v15))),(M.ret (.tup [v4,v5,v6,v6])),((seqM [(M.ret v4),(M.ret v5),((seqM [(M.ret (.str "name")),(index v3 (.int 0))]).bind fun v16=>(M.ret (.tup v16)))]).bind fun v17=>(M.ret (.tup v17)))]).bind fun v18=>(M.ret (.lst v18))).bind fun v19=>(opM false .Add v14 v19)).bind fun v20=>
 ((opM false .Mod v2 (.int 10)).bind fun v21=>(index v20 v21)))))) M.fail)
theorem zdi(C:zai)(md:Md)(v1 v2 v3:PV):zal GG C md AA.l_claim_changed [v1,v2,v3]=zbR AA GG C md v1 v2 v3:=by kernel_rfl
noncomputable def zdM(A:Adr)(G:Gl)(C:zai)(md:Md)(v1 v2 v3:PV):M PV:=
 (ifM (andM ((index v1 (.int 0)).bind fun v4=>(zac .Eq v4 (.str "clash"))) ((opM false .Mod v2 (.int 3)).bind fun v5=>(zac .Eq v5 (.int 1))))
 ((((opM false .FloorDiv v2 (.int 3)).bind fun v6=>(opM false .Mod v6 (.int 2))).bind fun v7=>(opM false .Add (.int 1) v7)).bind fun v8=>
 (((seqM [((((index v1 v8).bind fun v9=>(index v9 (.int 0))).bind fun v10=>(opM false .Add v10 (.int 1))).bind fun v11=>(((opM false .FloorDiv v2 (.int 6)).bind fun v12=>(opM false .Mod v12 (.int 5))).bind fun v13=>(opM false .Add v11 v13))),((index v1 v8).bind fun v14=>(index v14 (.int 1))),((index v1 v8).bind fun v15=>(index v15 (.int 2)))]).bind fun v16=>(M.ret (.tup v16))).bind fun v17=>
 ((((zbb (M.ret v8)).bind fun v18=>(cutM false v1 Option.none v18)).bind fun v19=>(opM false .Add v19 (.tup [v17]))).bind fun v20=>(((zbb (opM false .Add v8 (.int 1))).bind fun v21=>(cutM false v1 v21 Option.none)).bind fun v22=>(opM false .Add v20 v22)))))
 ((opM false .Mod v2 (.int 9)).bind fun v23=>
 ((opM false .FloorDiv v2 (.int 9)).bind fun v24=>
 (ifM (zac .Eq v23 (.int 0))
 ((((seqM [((opM false .Mod v24 (.int 6)).bind fun v25=>(index (.lst [(.str "shut"),(.str "clash"),(.str "apart"),(.str "fork"),(.str "both"),(.int 5)]) v25))]).bind fun v26=>(M.ret (.lst v26))).bind fun v27=>(((seqM [(cutM false v1 (some 1) Option.none)]).bind fun v28=>(biM md false "list" v28)).bind fun v29=>(opM false .Add v27 v29))).bind fun v30=>((zbb (biM md false "len" [v1])).bind fun v31=>(cutM false v30 Option.none v31)))
 (ifM (zac .Eq v23 (.int 1))
 (((seqM [(((seqM [(M.ret (.str "shut")),(M.ret (.str "clash")),(M.ret (.str "apart")),(M.ret (.str "fork")),(M.ret (.str "Fork")),(M.ret PV.none),((seqM [(index v1 (.int 0))]).bind fun v32=>(M.ret (.lst v32))),(cnew (.dict []))]).bind fun v33=>(M.ret (.lst v33))).bind fun v34=>((opM false .Mod v24 (.int 8)).bind fun v35=>(index v34 v35)))]).bind fun v36=>(M.ret (.tup v36))).bind fun v37=>((cutM false v1 (some 1) Option.none).bind fun v38=>(opM false .Add v37 v38)))
 (ifM (andM (zac .Eq v23 (.int 2)) (andM ((index v1 (.int 0)).bind fun v39=>(zac .Eq v39 (.str "clash"))) (((opM false .FloorDiv v24 (.int 10)).bind fun v40=>(opM false .Mod v40 (.int 2))).bind fun v41=>(zac .Eq v41 (.int 1)))))
 ((cutM false v1 Option.none (some 2)).bind fun v42=>(((seqM [((seqM [(index v1 (.int 2)),(M.ret v24),(M.ret v3)]).bind fun v43=>(C md A.l_claim_changed v43))]).bind fun v44=>(M.ret (.tup v44))).bind fun v45=>(opM false .Add v42 v45)))
 (ifM (zac .Eq v23 (.int 2))
 (((cutM false v1 Option.none (some 1)).bind fun v46=>(((seqM [((seqM [(index v1 (.int 1)),(M.ret v24),(M.ret v3)]).bind fun v47=>(C md A.l_claim_changed v47))]).bind fun v48=>(M.ret (.tup v48))).bind fun v49=>(opM false .Add v46 v49))).bind fun v50=>((cutM false v1 (some 2) Option.none).bind fun v51=>(opM false .Add v50 v51)))
 (ifM (zac .Eq v23 (.int 3))
 ((cutM false v1 Option.none (some 1)).bind fun v52=>((cutR false v1 (some 0)).bind fun v53=>(opM false .Add v52 v53)))
 (ifM (zac .Eq v23 (.int 4))
 (cutM false v1 Option.none (some (-1)))
 (ifM (zac .Eq v23 (.int 5))
 ((cutM false v1 (some (-1)) Option.none).bind fun v54=>(opM false .Add v1 v54))
 (ifM (zac .Eq v23 (.int 6))
 (((seqM [(M.ret PV.none),(M.ret (.str "shut")),(M.ret (.tup [])),(M.ret (.tup [(.str "shut")])),(M.ret (.int 7)),(index v1 (.int (-1)))]).bind fun v55=>(M.ret (.lst v55))).bind fun v56=>((opM false .Mod v24 (.int 6)).bind fun v57=>(index v56 v57)))
 (ifM (andM (zac .Eq v23 (.int 7)) ((index v1 (.int 0)).bind fun v58=>(zac .In v58 (.tup [(.str "apart"),(.str "fork")]))))
 (((seqM [(index v1 (.int 0)),(index v1 (.int 1))]).bind fun v59=>(M.ret (.tup v59))).bind fun v60=>((((biM md false "len" [v1]).bind fun v61=>(opM false .Sub v61 (.int 2))).bind fun v62=>(opM false .Mult (.tup [v1]) v62)).bind fun v63=>(opM false .Add v60 v63)))
 ((cutM false v1 Option.none (some (-2))).bind fun v64=>(((seqM [(index v1 (.int (-1))),(index v1 (.int (-2)))]).bind fun v65=>(M.ret (.tup v65))).bind fun v66=>(opM false .Add v64 v66)))))))))))))))
theorem zb6(C:zai)(md:Md)(v1 v2 v3:PV):zal GG C md AA.l_here_changed [v1,v2,v3]=zdM AA GG C md v1 v2 v3:=by kernel_rfl
noncomputable def zhv(A:Adr)(G:Gl)(C:zai)(md:Md)(v1 v2 v3:PV):M PV:=
 ((((opM false .Mult v2 (.int 48271)).bind fun v4=>(opM false .Add v4 (.int 7))).bind fun v5=>(opM false .Mod v5 (.int 1000003))).bind fun v6=>
 (ifM (andM ((index v1 (.int 0)).bind fun v7=>(zac .In v7 (.tup [(.str "apart"),(.str "fork")]))) ((opM false .Mod v6 (.int 5)).bind fun v8=>(zac .Gt v8 (.int 0))))
 ((((opM false .FloorDiv v6 (.int 5)).bind fun v9=>(((biM md false "len" [v1]).bind fun v10=>(opM false .Sub v10 (.int 2))).bind fun v11=>(opM false .Mod v9 v11))).bind fun v12=>(opM false .Add (.int 2) v12)).bind fun v13=>
 ((((zbb (M.ret v13)).bind fun v14=>(cutM false v1 Option.none v14)).bind fun v15=>(((seqM [((seqM [(index v1 v13),(M.ret v6),(M.ret v3)]).bind fun v16=>(C md A.l_changed v16))]).bind fun v17=>(M.ret (.tup v17))).bind fun v18=>(opM false .Add v15 v18))).bind fun v19=>(((zbb (opM false .Add v13 (.int 1))).bind fun v20=>(cutM false v1 v20 Option.none)).bind fun v21=>(opM false .Add v19 v21))))
 ((seqM [(M.ret v1),(opM false .FloorDiv v6 (.int 5)),(M.ret v3)]).bind fun v22=>(C md A.l_here_changed v22))))
theorem zhu(C:zai)(md:Md)(v1 v2 v3:PV):zal GG C md AA.l_changed [v1,v2,v3]=zhv AA GG C md v1 v2 v3:=by kernel_rfl
noncomputable def zi5(A:Adr)(G:Gl)(C:zai)(md:Md)(v1:PV):M PV:=
 (tryM md.rz ((C md A.stands [v1,(.tup [(.str "shut"),(.tup [(.int 0),(.bool true),(.tup [(.str "no")])])])]).bind fun _=>
 (M.ret (TR.next ()))) (fun E=>G.sub.contains (E,A.SayError)&&true&&true) (fun E=>((C (⟨false,false⟩:Md) A.l_kind [(.exc E)]).bind fun v2=>(zac .Eq v2 (.tup [(.str "row")])))) fun(_:Unit)=>
 (M.ret (.bool false)))
theorem zi4(C:zai)(md:Md)(v1:PV):zal GG C md AA.l_no_row [v1]=zi5 AA GG C md v1:=by
 have e:zal GG C md AA.l_no_row [v1]=M.cond md.rz ((zaA (exsL (exL { G:=GG,call:=C,md:=md } retF 59 (FN 49).scope) (tryB (stAt (FN 49).body 0)) [("_law_thing",some v1),("_law_error",Option.none)] ziZ) fun E=>M.cond (GG.sub.contains (E,24)&&true&&true) (M.noErr ((exsL (exL { G:=GG,call:=C,md:=⟨false,false⟩ } retF 59 (FN 49).scope) (tryH (stAt (FN 49).body 0)) [("_law_error",some (.exc E))] ziZ).bind fun f=>M.ret (FlL.drop "_law_error" f))) M.fail).bind (fin (fun m=>m) (XK C md 60 49 1))) M.fail:=by kernel_rfl
 rw [e]
 refine zox md.rz (γ:=Unit) (b:=((C md AA.stands [v1,(.tup [(.str "shut"),(.tup [(.int 0),(.bool true),(.tup [(.str "no")])])])]).bind fun _=>
 (M.ret (TR.next ())))) (fun r=>match r with | .ret v=>.ret v | .next g=>.next [("_law_thing",some v1),("_law_error",Option.none)]) ?_ (fun E=>by kernel_rfl) _ (fun v=>rfl) (fun g=>by kernel_rfl)
 simp only [zao,zmm,ret_bind]
 kernel_rfl
noncomputable def ze6(A:Adr)(G:Gl)(C:zai)(md:Md)(kk:PV→PV→PV→PV→PV→PV→PV→PV→Option PV→Option PV→M PV)(v1:PV)(v2:PV)(v3:PV)(v4:PV)(v5:PV)(v6:PV)(v7:PV)(v8:PV)(v9:Option PV)(v10:Option PV)(v11:PV):M PV:=
 ((C md A.stands [v8,v5]).bind fun v12=>
 (ifM (orM (notM (isM G (.bi .bool) v12)) (orM (zac .NotEq v12 v7) (zac .NotEq v8 v4)))
 (M.ret (.bool false))
 (ifM (((seqM [(M.ret v8),(((opM false .FloorDiv v2 (.int 15)).bind fun v13=>(opM false .Mod v13 (.int 5))).bind fun v14=>(index (.lst [PV.none,(.tup []),(.tup [(.str "apart"),(.int 5),(.int 6)]),(.str "shut"),(.tup [(.str "shut"),(.tup [(.int 0),(.bool true),(.int 5)])])]) v14))]).bind fun v15=>(C md A.stands v15)).bind fun v16=>(zac .IsNot v16 (.bool false)))
 (M.ret (.bool false))
 (kk v1 v2 v3 v4 v5 v6 v7 v8 (some v11) (some v12)))))
noncomputable def zgB(A:Adr)(G:Gl)(C:zai)(md:Md)  (v1:PV) (v2:PV) (v3:PV) (v4:PV) (v5:PV) (v6:PV) (v7:PV) (v8:PV) (v9:Option PV) (v10:Option PV):M PV:=
 ((seqM [(((seqM [(biM md false "tuple" [v4]),(M.ret (.lst [])),(opM false .Add v4 (.lst [(.tup [(.str "yes"),(.int 1)])])),(M.ret PV.none),((opM false .Mult v4 (.int 7)).bind fun v17=>(cutM false v17 Option.none (some 7)))]).bind fun v18=>(M.ret (.lst v18))).bind fun v19=>(((opM false .FloorDiv v2 (.int 75)).bind fun v20=>(opM false .Mod v20 (.int 5))).bind fun v21=>(index v19 v21)))]).bind fun v22=>(C md A.l_no_row v22))
noncomputable def zdB(A:Adr)(G:Gl)(C:zai)(md:Md)(chk:M Unit):List PV→PV→PV→PV→PV→PV→PV→PV→PV→Option PV→Option PV→M PV
 | [],v1,v2,v3,v4,v5,v6,v7,v8,v9,v10=>chk.bind fun _=>zgB A G C md v1 v2 v3 v4 v5 v6 v7 v8 v9 v10
 | x::xs,v1,v2,v3,v4,v5,v6,v7,v8,v9,v10=>chk.bind fun _=>ze6 A G C md (zdB A G C md chk xs) v1 v2 v3 v4 v5 v6 v7 v8 v9 v10 x
noncomputable def ze5(A:Adr)(G:Gl)(C:zai)(md:Md)(kk:PV→PV→PV→PV→PV→Option PV→PV→PV→Option PV→Option PV→M PV)(v1:PV)(v2:PV)(v3:PV)(v4:PV)(v5:PV)(v6:Option PV)(v7:PV)(v8:PV)(v9:Option PV)(v10:Option PV)(v11:PV):M PV:=
 ((C md A.stands [v8,v5]).bind fun v12=>
 (ifM (orM (notM (isM G (.bi .bool) v12)) (orM (zac .NotEq v12 v7) (zac .NotEq v8 v4)))
 (M.ret (.bool false))
 (ifM (((seqM [(M.ret v8),(((opM false .FloorDiv v2 (.int 15)).bind fun v13=>(opM false .Mod v13 (.int 5))).bind fun v14=>(index (.lst [PV.none,(.tup []),(.tup [(.str "apart"),(.int 5),(.int 6)]),(.str "shut"),(.tup [(.str "shut"),(.tup [(.int 0),(.bool true),(.int 5)])])]) v14))]).bind fun v15=>(C md A.stands v15)).bind fun v16=>(zac .IsNot v16 (.bool false)))
 (M.ret (.bool false))
 (kk v1 v2 v3 v4 v5 v6 v7 v8 (some v11) (some v12)))))
noncomputable def zgA(A:Adr)(G:Gl)(C:zai)(md:Md)  (v1:PV) (v2:PV) (v3:PV) (v4:PV) (v5:PV) (v6:Option PV) (v7:PV) (v8:PV) (v9:Option PV) (v10:Option PV):M PV:=
 ((seqM [(((seqM [(biM md false "tuple" [v4]),(M.ret (.lst [])),(opM false .Add v4 (.lst [(.tup [(.str "yes"),(.int 1)])])),(M.ret PV.none),((opM false .Mult v4 (.int 7)).bind fun v17=>(cutM false v17 Option.none (some 7)))]).bind fun v18=>(M.ret (.lst v18))).bind fun v19=>(((opM false .FloorDiv v2 (.int 75)).bind fun v20=>(opM false .Mod v20 (.int 5))).bind fun v21=>(index v19 v21)))]).bind fun v22=>(C md A.l_no_row v22))
noncomputable def zdA(A:Adr)(G:Gl)(C:zai)(md:Md)(chk:M Unit):List PV→PV→PV→PV→PV→PV→Option PV→PV→PV→Option PV→Option PV→M PV
 | [],v1,v2,v3,v4,v5,v6,v7,v8,v9,v10=>chk.bind fun _=>zgA A G C md v1 v2 v3 v4 v5 v6 v7 v8 v9 v10
 | x::xs,v1,v2,v3,v4,v5,v6,v7,v8,v9,v10=>chk.bind fun _=>ze5 A G C md (zdA A G C md chk xs) v1 v2 v3 v4 v5 v6 v7 v8 v9 v10 x
noncomputable def znM(A:Adr)(G:Gl)(C:zai)(md:Md)(F1:M Unit→List PV→PV→PV→PV→PV→PV→PV→PV→PV→Option PV→Option PV→M PV)(F2:M Unit→List PV→PV→PV→PV→PV→PV→Option PV→PV→PV→Option PV→Option PV→M PV)(v1:PV):M PV:=
 ((C md A.l_cell_at [v1,(.int 0)]).bind fun v2=>
 (((seqM [(C md A.l_cell_at [v1,(.int 1)]),((opM false .Mod v2 (.int 3)).bind fun v3=>(opM false .Add (.int 2) v3))]).bind fun v4=>(C md A.l_names v4)).bind fun v5=>
 (((seqM [(C md A.l_cell_at [v1,(.int 2)]),(M.ret (.int 16)),(M.ret v5)]).bind fun v6=>(C md A.l_row v6)).bind fun v7=>
 (((seqM [(C md A.l_begun [v7]),((C md A.l_cell_at [v1,(.int 3)]).bind fun v8=>(opM false .Mod v8 (.int 1000003)))]).bind fun v9=>(C md A.l_built v9)).bind fun v10=>
 (ifM (zac .Is v10 PV.none)
 (((seqM [((seqM [(M.ret (.str "and")),(index v7 (.int 0)),((seqM [(M.ret (.str "not")),(index v7 (.int 0))]).bind fun v11=>(M.ret (.tup v11)))]).bind fun v12=>(M.ret (.tup v12)))]).bind fun v13=>(M.ret (.lst v13))).bind fun v14=>
 (((seqM [(C md A.l_begun [v14]),((C md A.l_cell_at [v1,(.int 3)]).bind fun v15=>(opM false .Mod v15 (.int 1000003)))]).bind fun v16=>(C md A.l_built v16)).bind fun v17=>
 (ifM (((opM false .FloorDiv v2 (.int 3)).bind fun v18=>(opM false .Mod v18 (.int 5))).bind fun v19=>(zac .Gt v19 (.int 0)))
 (((seqM [(M.ret v17),(C md A.l_cell_at [v1,(.int 4)]),(M.ret v5)]).bind fun v20=>(C md A.l_changed v20)).bind fun v21=>
 (((seqM [(C md A.l_begun [v7]),(M.ret v21)]).bind fun v22=>(C md A.l_stands v22)).bind fun v23=>
 ((biM md false "list" [v7]).bind fun v24=>
 (M.cond (md.lp&&true) ((zaF [(.int 2)]).bind fun v25=>F1 (chkW v25.watch) v25.xs v1 v2 v5 v7 v21 v14 v23 v24 Option.none Option.none) M.fail))))
 (((seqM [(C md A.l_begun [v7]),(M.ret v17)]).bind fun v26=>(C md A.l_stands v26)).bind fun v27=>
 ((biM md false "list" [v7]).bind fun v28=>
 (M.cond (md.lp&&true) ((zaF [(.int 2)]).bind fun v29=>F1 (chkW v29.watch) v29.xs v1 v2 v5 v7 v17 v14 v27 v28 Option.none Option.none) M.fail))))))
 (ifM (((opM false .FloorDiv v2 (.int 3)).bind fun v30=>(opM false .Mod v30 (.int 5))).bind fun v31=>(zac .Gt v31 (.int 0)))
 (((seqM [(M.ret v10),(C md A.l_cell_at [v1,(.int 4)]),(M.ret v5)]).bind fun v32=>(C md A.l_changed v32)).bind fun v33=>
 (((seqM [(C md A.l_begun [v7]),(M.ret v33)]).bind fun v34=>(C md A.l_stands v34)).bind fun v35=>
 ((biM md false "list" [v7]).bind fun v36=>
 (M.cond (md.lp&&true) ((zaF [(.int 2)]).bind fun v37=>F2 (chkW v37.watch) v37.xs v1 v2 v5 v7 v33 Option.none v35 v36 Option.none Option.none) M.fail))))
 (((seqM [(C md A.l_begun [v7]),(M.ret v10)]).bind fun v38=>(C md A.l_stands v38)).bind fun v39=>
 ((biM md false "list" [v7]).bind fun v40=>
 (M.cond (md.lp&&true) ((zaF [(.int 2)]).bind fun v41=>F2 (chkW v41.watch) v41.xs v1 v2 v5 v7 v10 Option.none v39 v40 Option.none Option.none) M.fail)))))))))
noncomputable def zoU(A:Adr)(G:Gl)(C:zai)(md:Md)(v1:PV):M PV:=znM A G C md (zdB A G C md) (zdA A G C md) v1
noncomputable def zaH(v1 v2 v3 v4 v5 v6 v7 v8 v9 v10:Option PV):LL:=[("_law_script",v1),("_law_first",v2),("_law_names_here",v3),("_law_row_here",v4),("_law_tree",v5),("_law_other",v6),("_law_due",v7),("_law_handed",v8),("_law_turn",v9),("_law_found",v10)]
theorem zeJ(C:zai)(md:Md)(chk:M Unit):∀(xs:List PV)(v1:PV)(v2:PV)(v3:PV)(v4:PV)(v5:PV)(v6:PV)(v7:PV)(v8:PV)(v9:Option PV)(v10:Option PV),zas chk (FN 50).scope (forT (stAt (FN 50).body 8)) (exsL (XX C md 59 50) (forB (stAt (FN 50).body 8))) xs (zaH (some v1) (some v2) (some v3) (some v4) (some v5) (some v6) (some v7) (some v8) v9 v10) (XK C md 60 50 9)=zdB AA GG C md  chk xs v1 v2 v3 v4 v5 v6 v7 v8 v9 v10:=by
 intro xs
 induction xs with
 | nil=>
  intro v1 v2 v3 v4 v5 v6 v7 v8 v9 v10
  have e:(XK C md 60 50 9) (zaH (some v1) (some v2) (some v3) (some v4) (some v5) (some v6) (some v7) (some v8) v9 v10)=zgB AA GG C md  v1 v2 v3 v4 v5 v6 v7 v8 v9 v10:=by kernel_rfl
  show (chk.bind fun _=>(XK C md 60 50 9) (zaH (some v1) (some v2) (some v3) (some v4) (some v5) (some v6) (some v7) (some v8) v9 v10))=chk.bind fun _=>zgB AA GG C md  v1 v2 v3 v4 v5 v6 v7 v8 v9 v10
  rw [e]
 | cons x xs ih=>
  intro v1 v2 v3 v4 v5 v6 v7 v8 v9 v10
  have k:(fun v1' v2' v3' v4' v5' v6' v7' v8' v9' v10'=>zas chk (FN 50).scope (forT (stAt (FN 50).body 8)) (exsL (XX C md 59 50) (forB (stAt (FN 50).body 8))) xs (zaH (some v1') (some v2') (some v3') (some v4') (some v5') (some v6') (some v7') (some v8') v9' v10') (XK C md 60 50 9))=zdB AA GG C md  chk xs:=by funext s0 s1 s2 s3 s4 s5 s6 s7 s8 s9;exact ih s0 s1 s2 s3 s4 s5 s6 s7 s8 s9
  have e:zas chk (FN 50).scope (forT (stAt (FN 50).body 8)) (exsL (XX C md 59 50) (forB (stAt (FN 50).body 8))) (x::xs) (zaH (some v1) (some v2) (some v3) (some v4) (some v5) (some v6) (some v7) (some v8) v9 v10) (XK C md 60 50 9)=chk.bind fun _=>ze6 AA GG C md (fun v1' v2' v3' v4' v5' v6' v7' v8' v9' v10'=>zas chk (FN 50).scope (forT (stAt (FN 50).body 8)) (exsL (XX C md 59 50) (forB (stAt (FN 50).body 8))) xs (zaH (some v1') (some v2') (some v3') (some v4') (some v5') (some v6') (some v7') (some v8') v9' v10') (XK C md 60 50 9)) v1 v2 v3 v4 v5 v6 v7 v8 v9 v10 x:=by kernel_rfl
  rw [k] at e
  exact e
theorem zeI(C:zai)(md:Md)(chk:M Unit):∀(xs:List PV)(v1:PV)(v2:PV)(v3:PV)(v4:PV)(v5:PV)(v6:Option PV)(v7:PV)(v8:PV)(v9:Option PV)(v10:Option PV),zas chk (FN 50).scope (forT (stAt (FN 50).body 8)) (exsL (XX C md 59 50) (forB (stAt (FN 50).body 8))) xs (zaH (some v1) (some v2) (some v3) (some v4) (some v5) v6 (some v7) (some v8) v9 v10) (XK C md 60 50 9)=zdA AA GG C md  chk xs v1 v2 v3 v4 v5 v6 v7 v8 v9 v10:=by
 intro xs
 induction xs with
 | nil=>
  intro v1 v2 v3 v4 v5 v6 v7 v8 v9 v10
  have e:(XK C md 60 50 9) (zaH (some v1) (some v2) (some v3) (some v4) (some v5) v6 (some v7) (some v8) v9 v10)=zgA AA GG C md  v1 v2 v3 v4 v5 v6 v7 v8 v9 v10:=by kernel_rfl
  show (chk.bind fun _=>(XK C md 60 50 9) (zaH (some v1) (some v2) (some v3) (some v4) (some v5) v6 (some v7) (some v8) v9 v10))=chk.bind fun _=>zgA AA GG C md  v1 v2 v3 v4 v5 v6 v7 v8 v9 v10
  rw [e]
 | cons x xs ih=>
  intro v1 v2 v3 v4 v5 v6 v7 v8 v9 v10
  have k:(fun v1' v2' v3' v4' v5' v6' v7' v8' v9' v10'=>zas chk (FN 50).scope (forT (stAt (FN 50).body 8)) (exsL (XX C md 59 50) (forB (stAt (FN 50).body 8))) xs (zaH (some v1') (some v2') (some v3') (some v4') (some v5') v6' (some v7') (some v8') v9' v10') (XK C md 60 50 9))=zdA AA GG C md  chk xs:=by funext s0 s1 s2 s3 s4 s5 s6 s7 s8 s9;exact ih s0 s1 s2 s3 s4 s5 s6 s7 s8 s9
  have e:zas chk (FN 50).scope (forT (stAt (FN 50).body 8)) (exsL (XX C md 59 50) (forB (stAt (FN 50).body 8))) (x::xs) (zaH (some v1) (some v2) (some v3) (some v4) (some v5) v6 (some v7) (some v8) v9 v10) (XK C md 60 50 9)=chk.bind fun _=>ze5 AA GG C md (fun v1' v2' v3' v4' v5' v6' v7' v8' v9' v10'=>zas chk (FN 50).scope (forT (stAt (FN 50).body 8)) (exsL (XX C md 59 50) (forB (stAt (FN 50).body 8))) xs (zaH (some v1') (some v2') (some v3') (some v4') (some v5') v6' (some v7') (some v8') v9' v10') (XK C md 60 50 9)) v1 v2 v3 v4 v5 v6 v7 v8 v9 v10 x:=by kernel_rfl
  rw [k] at e
  exact e
theorem zpK(C:zai)(md:Md)(v1:PV):zal GG C md AA.law [v1]=zoU AA GG C md v1:=by
 have r1:(fun chk' xs' v1' v2' v3' v4' v5' v6' v7' v8' v9' v10'=>zas chk' (FN 50).scope (forT (stAt (FN 50).body 8)) (exsL (XX C md 59 50) (forB (stAt (FN 50).body 8))) xs' (zaH (some v1') (some v2') (some v3') (some v4') (some v5') (some v6') (some v7') (some v8') v9' v10') (XK C md 60 50 9))=zdB AA GG C md:=by funext s0 s1 s2 s3 s4 s5 s6 s7 s8 s9 s10 s11;exact zeJ C md s0 s1 s2 s3 s4 s5 s6 s7 s8 s9 s10 s11
 have r2:(fun chk' xs' v1' v2' v3' v4' v5' v6' v7' v8' v9' v10'=>zas chk' (FN 50).scope (forT (stAt (FN 50).body 8)) (exsL (XX C md 59 50) (forB (stAt (FN 50).body 8))) xs' (zaH (some v1') (some v2') (some v3') (some v4') (some v5') v6' (some v7') (some v8') v9' v10') (XK C md 60 50 9))=zdA AA GG C md:=by funext s0 s1 s2 s3 s4 s5 s6 s7 s8 s9 s10 s11;exact zeI C md s0 s1 s2 s3 s4 s5 s6 s7 s8 s9 s10 s11
 have e:zal GG C md AA.law [v1]=znM AA GG C md (fun chk' xs' v1' v2' v3' v4' v5' v6' v7' v8' v9' v10'=>zas chk' (FN 50).scope (forT (stAt (FN 50).body 8)) (exsL (XX C md 59 50) (forB (stAt (FN 50).body 8))) xs' (zaH (some v1') (some v2') (some v3') (some v4') (some v5') (some v6') (some v7') (some v8') v9' v10') (XK C md 60 50 9)) (fun chk' xs' v1' v2' v3' v4' v5' v6' v7' v8' v9' v10'=>zas chk' (FN 50).scope (forT (stAt (FN 50).body 8)) (exsL (XX C md 59 50) (forB (stAt (FN 50).body 8))) xs' (zaH (some v1') (some v2') (some v3') (some v4') (some v5') v6' (some v7') (some v8') v9' v10') (XK C md 60 50 9)) v1:=by kernel_rfl
 rw [r1,r2] at e
 exact e
theorem zph{α:Type}(x y:M α):M.cond true x y=x:=rfl
theorem zoc{α:Type}(x y:M α):M.cond false x y=y:=rfl
theorem c_t{α:Type}{b:Bool}{x y:M α}(h:b=true):M.cond b x y=x:=by rw [h];rfl
theorem c_f{α:Type}{b:Bool}{x y:M α}(h:b=false):M.cond b x y=y:=by rw [h];rfl
theorem tr_b(b:Bool):zar (.bool b)=M.ret b:=rfl
theorem bd{α β:Type}{x:M α}{a:α}{f:α→M β}(h:x=M.ret a):x.bind f=f a:=by rw [h];rfl
theorem if_t{α:Type}{x:M PV}{a b:M α}(h:x=M.ret (.bool true)):ifM x a b=a:=by rw [h];rfl
theorem if_f{α:Type}{x:M PV}{a b:M α}(h:x=M.ret (.bool false)):ifM x a b=b:=by rw [h];rfl
theorem if_b{α:Type}{x:M PV}{a b:M α}{c:Bool}(h:x=M.ret (.bool c)):ifM x a b=M.cond c a b:=by rw [h];rfl
theorem or_t{x y:M PV}(h:x=M.ret (.bool true)):orM x y=M.ret (.bool true):=by rw [h];rfl
theorem or_f{x y:M PV}(h:x=M.ret (.bool false)):orM x y=y:=by rw [h];rfl
theorem zcn{x y:M PV}(h:x=M.ret (.bool true)):andM x y=y:=by rw [h];rfl
theorem zeM{x y:M PV}(h:x=M.ret (.bool false)):andM x y=M.ret (.bool false):=by rw [h];rfl
theorem or_b{x y:M PV}{b c:Bool}(h:x=M.ret (.bool b))(h':y=M.ret (.bool c)):orM x y=M.ret (.bool (b || c)):=by
 cases b with
 | true=>exact or_t h
 | false=>exact (or_f h).trans h'
theorem zeF{x y:M PV}{b c:Bool}(h:x=M.ret (.bool b))(h':y=M.ret (.bool c)):andM x y=M.ret (.bool (b&&c)):=by
 cases b with
 | true=>exact (zcn h).trans h'
 | false=>exact zeM h
theorem zbz{x:M PV}{b:Bool}(h:x=M.ret (.bool b)):notM x=M.ret (.bool !b):=by rw [h];rfl
theorem sq1{x:M PV}{a:PV}(h:x=M.ret a):seqM [x]=M.ret [a]:=by rw [h];rfl
theorem sq2{x y:M PV}{a b:PV}(h:x=M.ret a)(h':y=M.ret b):seqM [x,y]=M.ret [a,b]:=by rw [h,h'];rfl
theorem sq3{x y z:M PV}{a b c:PV}(h:x=M.ret a)(h':y=M.ret b)(h'':z=M.ret c):seqM [x,y,z]=M.ret [a,b,c]:=by rw [h,h',h''];rfl
theorem zag{d:Nat}{md:Md}{a:Addr}{vs:List PV}{x:M PV}(h:zal GG (zad GG d) md a vs=x):zad GG (d+1) md a vs=x:=(zfl GG d md a vs).trans h
theorem c_lt(a b:Int):zac .Lt (.int a) (.int b)=M.ret (.bool (decide (a<b))):=rfl
theorem c_le(a b:Int):zac .LtE (.int a) (.int b)=M.ret (.bool (decide (a≤b))):=rfl
theorem zgL(a b:Int):zac .Eq (.int a) (.int b)=M.ret (.bool (a==b)):=rfl
theorem zkx(a b:Int):zac .NotEq (.int a) (.int b)=M.ret (.bool !(a==b)):=rfl
theorem zet(a b:Str):zac .Eq (.str a) (.str b)=M.ret (.bool (a==b)):=rfl
theorem ze1(a b:Str):zac .NotEq (.str a) (.str b)=M.ret (.bool !(a==b)):=rfl
theorem sub_int(mu:Bool)(a b:Int):opM mu .Sub (.int a) (.int b)=M.ret (.int (a-b)):=rfl
theorem add_int(mu:Bool)(a b:Int):opM mu .Add (.int a) (.int b)=M.ret (.int (a+b)):=rfl
theorem za2{i:Int}(h:-1000000≤i)(h':i≤1000000):zbN i=true:=by
 unfold zbN
 rw [Bool.and_eq_true,decide_eq_true_eq,decide_eq_true_eq]
 lia
theorem zcf(mu:Bool)(a b:Int)(h:-1000000≤b)(h':b≤1000000):opM mu .Mult (.int a) (.int b)=M.ret (.int (a*b)):=c_t (by rw [za2 h h',Bool.or_true])
theorem zef(mu:Bool)(a b:Int)(h:-1000000≤a)(h':a≤1000000):opM mu .Mult (.int a) (.int b)=M.ret (.int (a*b)):=c_t (by rw [za2 h h',Bool.true_or])
theorem zbt(mu:Bool)(a b:Int)(h:0<b):opM mu .Mod (.int a) (.int b)=M.ret (.int (a.fmod b)):=c_t (decide_eq_true h)
theorem zaT(mu:Bool)(a b:Int)(h:0<b)(h':b<1000000):opM mu .FloorDiv (.int a) (.int b)=M.ret (.int (a.fdiv b)):=c_t (by rw [decide_eq_true h,decide_eq_true (show b<1073741824 by lia)];rfl)
theorem zam(a:Int){b:Nat}(h:0<b):∃ k:Nat,a.fmod b=k∧k<b:=by
 have h1:0≤a.fmod b:=Int.fmod_nonneg_of_pos a (by exact Int.ofNat_lt.mpr ‹_›)
 have h2:a.fmod b<b:=Int.fmod_lt_of_pos a (by exact Int.ofNat_lt.mpr ‹_›)
 exact ⟨(a.fmod b).toNat,by lia,by lia⟩
theorem zhI{α:Type}{xs:List α}{k:Nat}{x:α}(h:xs[k]?=some x)(hk:k≤1000000):atI xs (k:Int)=some x:=by
 unfold atI
 rw [za2 (by lia) (by lia)]
 have hlt:=(List.getElem?_eq_some_iff.mp h).1
 have h1:¬ ((k:Int)<0):=by lia
 have h2:(k:Int)<xs.length:=by exact Int.ofNat_lt.mpr ‹_›
 simp [seqIndex?,h1,h2,h]
theorem zci{xs:List PV}{k:Nat}{x:PV}(h:xs[k]?=some x)(hk:k≤1000000):index (.lst xs) (.int k)=M.ret x:=congrArg M.lift (zhI h hk)
theorem zgE{xs:List PV}{k:Nat}{x:PV}(h:xs[k]?=some x)(hk:k≤1000000):index (.tup xs) (.int k)=M.ret x:=congrArg M.lift (zhI h hk)
theorem ix_0(x:PV)(r:List PV):index (.tup (x::r)) (.int 0)=M.ret x:=zgE (k:=0) rfl (by decide)
theorem ix_1(x y:PV)(r:List PV):index (.tup (x::y::r)) (.int 1)=M.ret y:=zgE (k:=1) rfl (by decide)
theorem ix_2(x y z:PV)(r:List PV):index (.tup (x::y::z::r)) (.int 2)=M.ret z:=zgE (k:=2) rfl (by decide)
theorem zoY{s:Str}{k:Nat}{c:Nat}(h:s.cps.toList[k]?=some c)(hk:k≤1000000):index (.str s) (.int k)=M.ret (.str ⟨#[c]⟩):=bd (congrArg M.lift (zhI h hk))
theorem zg0(md:Md)(mu:Bool)(v:PV):biM md mu "len" [v]=(znK v).bind fun n=>M.ret (.int n):=by kernel_rfl
theorem zpl(md:Md)(mu:Bool)(v:PV):biM md mu "all" [v]=M.cond md.lp ((items v).bind fun xs=>(M.lift (zbE xs)).bind fun bs=>M.ret (.bool (bs.all id))) M.fail:=by kernel_rfl
theorem zpj(md:Md)(mu:Bool)(v:PV):biM md mu "sum" [v]=M.cond md.lp ((items v).bind fun xs=>(M.lift (zdI xs)).bind fun ns=>M.cond (zd5 0 ns) (M.ret (.int ns.sum)) M.fail) M.fail:=by kernel_rfl
theorem zmv(md:Md)(mu:Bool)(v:PV):biM md mu "tuple" [v]=(items v).bind fun xs=>M.cond (decide (xs.length≤2 ^ 20)) (M.ret (.tup xs)) M.fail:=by kernel_rfl
theorem zfF{n:Nat}(h:n≤1000000):zgz n=M.ret (n:Int):=c_t (decide_eq_true (by exact Nat.le_trans ‹_› (by decide)))
theorem zbB{md:Md}{mu:Bool}{xs:List PV}(h:xs.length≤1000000):biM md mu "len" [.lst xs]=M.ret (.int xs.length):=(zg0 md mu _).trans (bd (zfF h))
theorem zaz{md:Md}{mu:Bool}{xs:List PV}(h:xs.length≤1000000):biM md mu "len" [.tup xs]=M.ret (.int xs.length):=(zg0 md mu _).trans (bd (zfF h))
theorem len_str{md:Md}{mu:Bool}{s:Str}(h:s.length≤1000000):biM md mu "len" [.str s]=M.ret (.int s.length):=(zg0 md mu _).trans (bd (zfF h))
theorem zb5{α:Type}(g:α→Bool):∀(l:List α),zbE (l.map fun x=>PV.bool (g x))=some (l.map g)
 | []=>rfl
 | x::r=>congrArg (zjj (g x)) (zb5 g r)
theorem zhM{md:Md}{mu:Bool}{xs:List PV}{bs:List Bool}(hb:zbE xs=some bs)(hl:md.lp=true):biM md mu "all" [.lst xs]=M.ret (.bool (bs.all id)):=
 (zpl md mu _).trans ((c_t hl).trans (bd (congrArg M.lift hb)))
theorem zjF{md:Md}{mu:Bool}{xs:List PV}{ns:List Int}(hb:zdI xs=some ns)(hs:zd5 0 ns=true)(hl:md.lp=true):biM md mu "sum" [.lst xs]=M.ret (.int ns.sum):=
 (zpj md mu _).trans ((c_t hl).trans ((bd (congrArg M.lift hb)).trans (c_t hs)))
noncomputable def za9(is:List Int)(k:Nat):Int:=is[k]?.getD 0
theorem zoa(C:zai)(md:Md)(is:List Int)(k:Nat)(hl:is.length≤63)(hk:k≤100):zal GG C md AA.l_cell_at [.lst (is.map .int),.int k]=M.ret (.int (za9 is k)):=by
 refine (zhw C md _ _).trans ((if_b ((bd (zbB (by rw [List.length_map];exact Nat.le_trans ‹_› (by decide)))).trans (c_lt _ _))).trans ?_)
 rw [List.length_map]
 unfold za9
 by_cases h:k<is.length
 ·rw [decide_eq_true (by exact Int.ofNat_lt.mpr ‹_›),zph,zci (x:=.int is[k]) (by rw [List.getElem?_map,List.getElem?_eq_getElem h];rfl) (by exact Nat.le_trans ‹_› (by decide)),List.getElem?_eq_getElem h];rfl
 ·rw [decide_eq_false (by lia),zoc,List.getElem?_eq_none (Nat.le_of_not_lt h)];rfl
inductive Say where
 | yes | no
 | name (s:Str)
 | not (a:Say)
 | and (a b:Say)
 | or (a b:Say)
noncomputable def Say.pv:Say→PV
 | .yes=>.tup [.str "yes"]
 | .no=>.tup [.str "no"]
 | .name s=>.tup [.str "name",.str s]
 | .not a=>.tup [.str "not",a.pv]
 | .and a b=>.tup [.str "and",a.pv,b.pv]
 | .or a b=>.tup [.str "or",a.pv,b.pv]
noncomputable def Say.dep:Say→Nat
 | .yes=>1 | .no=>1 | .name _=>1
 | .not a=>a.dep+1
 | .and a b=>max a.dep b.dep+1
 | .or a b=>max a.dep b.dep+1
noncomputable def Say.sz:Say→Nat
 | .yes=>1 | .no=>1 | .name _=>1
 | .not a=>a.sz+1
 | .and a b=>a.sz+b.sz+1
 | .or a b=>a.sz+b.sz+1
noncomputable def letters:Str:="abcdefghijklmnopqrstuvwxyz"
structure NmOk (s:Str):Prop where
 lo:1≤s.length
 hi:s.length≤6
 let_:∀ c∈s.cps.toList,97≤c∧c≤122
 told:s≠"yes"∧s≠"no"∧s≠"not"∧s≠"and"∧s≠"or"
noncomputable def Say.Ok:Say→Prop
 | .yes=>True | .no=>True | .name s=>NmOk s
 | .not a=>a.Ok
 | .and a b=>a.Ok∧b.Ok
 | .or a b=>a.Ok∧b.Ok
theorem zn0(s:Say):0<s.dep:=by cases s <;> exact Nat.succ_pos _
theorem zdx{a b:Str}(h:a≠b):(a==b)=false:=by
 cases q:a==b with
 | false=>rfl
 | true=>exact (h (eq_of_beq q)).elim
theorem zkH{c:Nat}(h1:97≤c)(h2:c≤122):zix ⟨#[c]⟩ letters=true:=by
 have key:∀ i:Fin 26,zix ⟨#[97+i.val]⟩ letters=true:=by decide +kernel
 have:=key ⟨c-97,by lia⟩
 rwa [show 97+(c-97)=c from by lia] at this
theorem zgR{f:PV→M (Option PV)}{g:PV→PV}:∀(xs:List PV),(∀ x∈xs,f x=M.ret (some (g x)))→za6 (M.ret ()) f xs=M.ret (xs.map g)
 | [],_=>rfl
 | x::xs,h=>(bd (h x (.head _))).trans (bd (zgR xs fun y hy=>h y (.tail _ hy)))
theorem in_5(a x y z u v:Str):zac .In (.str a) (.tup [.str x,.str y,.str z,.str u,.str v])=M.ret (.bool ((x==a) || ((y==a) || ((z==a) || ((u==a) || ((v==a) || false)))))):=rfl
theorem zgS(l:List Nat):zdN l=l.map fun c=>PV.str ⟨#[c]⟩:=by
 induction l with
 | nil=>rfl
 | cons c r ih=>exact congrArg _ ih
theorem zbD{md:Md}{src:M Src}{xs:List PV}{f:PV→M (Option PV)}{ys:List PV}(hl:md.lp=true)(hs:src=M.ret ⟨xs,[]⟩)(hx:xs.length≤1000000) (h:za6 (M.ret ()) (fun x=>M.noErr (f x)) xs=M.ret ys):zbu md false src f=M.ret (.lst ys):=by
 unfold zbu
 rw [hl,hs]
 exact (c_t (decide_eq_true (by show xs.length≤2 ^ 20;exact Nat.le_trans ‹_› (by decide)))).trans (bd h)
theorem zjb(C:zai)(md:Md)(hl:md.lp=true){s:Str}(h:NmOk s):zal GG C md AA.is_name [.str s]=M.ret (.bool true):=by
 obtain ⟨t1,t2,t3,t4,t5⟩:=h.told
 have hlo:=h.lo
 have hhi:=h.hi
 have e1:(isM GG (.bi .str) (.str s))=M.ret (.bool true):=rfl
 have e2:((biM md false "len" [.str s]).bind fun b2=>((zac .LtE (.int 1) b2).bind fun c3=>(zar c3).bind fun t4=>M.cond t4 (zac .LtE b2 (.int 6)) (M.ret c3)))=M.ret (.bool true):=by
  refine (bd (len_str (by exact Nat.le_trans ‹_› (by decide)))).trans ((bd (c_le _ _)).trans ?_)
  rw [decide_eq_true (show (1:Int)≤s.length by exact Int.ofNat_lt.mpr ‹_›)]
  exact (c_le _ _).trans (by rw [decide_eq_true (show (s.length:Int)≤6 by lia)])
 refine (zkU C md _).trans ((if_f ((or_f (zbz e1)).trans ((or_f (zbz e2)).trans ((in_5 _ _ _ _ _ _).trans ?_)))).trans ?_)
 ·rw [zdx t1.symm,zdx t2.symm,zdx t3.symm,zdx t4.symm,zdx t5.symm];rfl
 ·have hc:za6 (M.ret ()) (fun x=>M.noErr ((zac .In x (.str letters)).bind fun y6=>M.ret (some y6))) (zdN s.cps.toList)=M.ret ((zdN s.cps.toList).map fun _=>PV.bool true):=zgR (g:=fun _=>PV.bool true) _ fun x hx=>by
   rw [zgS] at hx
   obtain ⟨c,hc,rfl⟩:=List.mem_map.mp hx
   obtain ⟨h1,h2⟩:=h.let_ c hc
   show M.noErr (M.ret (some (PV.bool (zix ⟨#[c]⟩ letters))))=_
   rw [zkH h1 h2];rfl
  refine (bd (sq1 (zbD hl rfl (by rw [zgS,List.length_map];have:s.cps.toList.length≤6:=hhi;exact Nat.le_trans ‹_› (by decide)) hc))).trans ((zhM (zb5 (fun _=>true) _) hl).trans ?_)
  rw [List.all_map];exact congrArg (fun b=>M.ret (PV.bool b)) (List.all_eq_true.mpr fun _ _=>rfl)
theorem zcd(n:Nat):((n+1:Nat):Int)-1=(n:Int):=by lia
theorem zmS(a b n:Nat):(decide (a≤n)&&decide (b≤n))=decide (max a b+1≤n+1):=by
 rw [← Bool.decide_and];exact decide_eq_decide.mpr (by lia)
theorem w_0(C:zai)(md:Md)(v:PV):zal GG C md AA.is_within [v,.int 0]=M.ret (.bool false):=by kernel_rfl
theorem zpv(C:zai)(md:Md)(n:Nat):zal GG C md AA.is_within [.tup [.str "yes"],.int ((n+1:Nat):Int)]=M.ret (.bool true):=by kernel_rfl
theorem w_no(C:zai)(md:Md)(n:Nat):zal GG C md AA.is_within [.tup [.str "no"],.int ((n+1:Nat):Int)]=M.ret (.bool true):=by kernel_rfl
theorem zmH(C:zai)(md:Md)(n:Nat)(v:PV):zal GG C md AA.is_within [.tup [.str "name",v],.int ((n+1:Nat):Int)]=C md AA.is_name [v]:=by kernel_rfl
theorem zoo(C:zai)(md:Md)(n:Nat)(v:PV):zal GG C md AA.is_within [.tup [.str "not",v],.int ((n+1:Nat):Int)]=C md AA.is_within [v,.int (((n+1:Nat):Int)-1)]:=by kernel_rfl
theorem zot(C:zai)(md:Md)(n:Nat)(v u:PV):zal GG C md AA.is_within [.tup [.str "and",v,u],.int ((n+1:Nat):Int)]=andM (C md AA.is_within [v,.int (((n+1:Nat):Int)-1)]) (C md AA.is_within [u,.int (((n+1:Nat):Int)-1)]):=by kernel_rfl
theorem w_or(C:zai)(md:Md)(n:Nat)(v u:PV):zal GG C md AA.is_within [.tup [.str "or",v,u],.int ((n+1:Nat):Int)]=andM (C md AA.is_within [v,.int (((n+1:Nat):Int)-1)]) (C md AA.is_within [u,.int (((n+1:Nat):Int)-1)]):=by kernel_rfl
theorem zaM(md:Md)(hl:md.lp=true):∀(s:Say)(n d:Nat),s.Ok→s.dep+1<d→zad GG d md AA.is_within [s.pv,.int n]=M.ret (.bool (decide (s.dep≤n)))
 | s,0,d+1,_,_=>by rw [decide_eq_false (Nat.not_le_of_gt (zn0 s))];exact zag (w_0 _ md _)
 | .yes,n+1,d+1,_,_=>(zag (zpv _ md n)).trans (congrArg (fun b=>M.ret (PV.bool b)) (decide_eq_true (show Say.yes.dep≤n+1 from Nat.succ_le_succ (Nat.zero_le n))).symm)
 | .no,n+1,d+1,_,_=>(zag (w_no _ md n)).trans (congrArg (fun b=>M.ret (PV.bool b)) (decide_eq_true (show Say.no.dep≤n+1 from Nat.succ_le_succ (Nat.zero_le n))).symm)
 | .name s,n+1,d+2,ok,hd=>(zag (zmH _ md n _)).trans ((zag (zjb _ md hl ok)).trans (congrArg (fun b=>M.ret (PV.bool b)) (decide_eq_true (show (Say.name s).dep≤n+1 from Nat.succ_le_succ (Nat.zero_le n))).symm))
 | .not a,n+1,d+1,ok,hd=>by
  refine (zag (zoo _ md n _)).trans ?_
  rw [zcd,zaM md hl a n d ok (Nat.lt_of_succ_lt_succ hd)]
  exact congrArg (fun b=>M.ret (PV.bool b)) (decide_eq_decide.mpr (Nat.succ_le_succ_iff).symm)
 | .and a b,n+1,d+1,ok,hd=>by
  have h1:a.dep+1<d:=by have:max a.dep b.dep+1+1<d+1:=hd;lia
  have h2:b.dep+1<d:=by have:max a.dep b.dep+1+1<d+1:=hd;lia
  refine (zag (zot _ md n _ _)).trans ?_
  rw [zcd]
  exact (zeF (zaM md hl a n d ok.1 h1) (zaM md hl b n d ok.2 h2)).trans (congrArg (fun b=>M.ret (PV.bool b)) (zmS _ _ _))
 | .or a b,n+1,d+1,ok,hd=>by
  have h1:a.dep+1<d:=by have:max a.dep b.dep+1+1<d+1:=hd;lia
  have h2:b.dep+1<d:=by have:max a.dep b.dep+1+1<d+1:=hd;lia
  refine (zag (w_or _ md n _ _)).trans ?_
  rw [zcd]
  exact (zeF (zaM md hl a n d ok.1 h1) (zaM md hl b n d ok.2 h2)).trans (congrArg (fun b=>M.ret (PV.bool b)) (zmS _ _ _))
noncomputable def Rf(v:PV):Prop:=∀(md:Md)(n d:Nat),md.lp=true→n+110<d→zad GG d md AA.is_within [v,.int n]=M.ret (.bool false)
theorem Rf.go{v:PV} (h:∀(md:Md)(n d:Nat),md.lp=true→n+110<d→zal GG (zad GG d) md AA.is_within [v,.int ((n+1:Nat):Int)]=M.ret (.bool false)):Rf v:=by
 intro md n d hl hd
 cases d with
 | zero=>exact absurd hd (Nat.not_lt_zero _)
 | succ d=>
  cases n with
  | zero=>exact zag (w_0 _ md v)
  | succ n=>exact zag (h md n d hl (by lia))
theorem Rf.of{v:PV} (h:∀(C:zai)(md:Md)(n:Nat),zal GG C md AA.is_within [v,.int ((n+1:Nat):Int)]=M.ret (.bool false)):Rf v:=Rf.go fun md n d _ _=>h _ md n
theorem Rf.none:Rf .none:=Rf.of fun _ _ _=>by kernel_rfl
theorem Rf.str(s:Str):Rf (.str s):=Rf.of fun _ _ _=>by kernel_rfl
theorem Rf.bool(b:Bool):Rf (.bool b):=Rf.of fun _ _ _=>by kernel_rfl
theorem Rf.not{x:PV}(h:Rf x):Rf (.tup [.str "not",x]):=Rf.go fun md n d hl hd=>(zoo _ md n x).trans (by rw [zcd];exact h md n d hl hd)
theorem zos(C:zai)(md:Md)(n:Nat){w:Str}(hw:w="and"∨w="or")(v u:PV):zal GG C md AA.is_within [.tup [.str w,v,u],.int ((n+1:Nat):Int)]=andM (C md AA.is_within [v,.int n]) (C md AA.is_within [u,.int n]):=by
 rw [← zcd n]
 rcases hw with rfl | rfl
 ·exact zot C md n v u
 ·exact w_or C md n v u
theorem Rf.left{x y:PV}{w:Str}(hw:w="and"∨w="or")(h:Rf x):Rf (.tup [.str w,x,y]):=Rf.go fun md n d hl hd=>(zos _ md n hw x y).trans (zeM (h md n d hl hd))
theorem Rf.right{s:Say}{y:PV}{w:Str}(hw:w="and"∨w="or")(ok:s.Ok)(hs:s.dep≤100)(h:Rf y):Rf (.tup [.str w,s.pv,y]):=Rf.go fun md n d hl hd=>
 (zos _ md n hw s.pv y).trans ((zeF (zaM md hl s n d ok (by lia)) (h md n d hl hd)).trans (by rw [Bool.and_false]))
theorem Rf.name{x:PV}(h:∀(C:zai)(md:Md),md.lp=true→zal GG C md AA.is_name [x]=M.ret (.bool false)):Rf (.tup [.str "name",x]):=Rf.go fun md n d hl hd=>by
 cases d with
 | zero=>exact absurd hd (Nat.not_lt_zero _)
 | succ d=>exact (zmH _ md n x).trans (zag (h _ md hl))
theorem zah{α:Type}{P:α→Prop}:∀{l:List α},(l.foldr (fun x r=>P x∧r) True)→∀ x∈l,P x
 | _::_,h,_,.head _=>h.1
 | _::_,h,x,.tail _ hx=>zah h.2 x hx
noncomputable def Say.parts:Say→List Say
 | .not a=>[a]
 | .and a b=>[a,b]
 | .or a b=>[a,b]
 | _=>[]
noncomputable def Say.word:Say→Str
 | .yes=>"yes" | .no=>"no" | .name _=>"name" | .not _=>"not" | .and _ _=>"and" | .or _ _=>"or"
theorem zdr:∀ l:List Int,zdI (l.map PV.int)=some l
 | []=>rfl
 | x::r=>congrArg (zjj x) (zdr r)
theorem zeg{σ:zaa}{j:Nat}{xs:List PV}(h:σ[j]?=some (.list xs)):lget j σ=.ok xs σ:=zab (show cget j σ=.ok (.list xs) σ by unfold cget;rw [h])
theorem zng{σ:zaa}{j:Nat}{xs:List PV}(h:σ[j]?=some (.list xs)):tnOf (.ref j) σ=.ok .list σ:=zab (show cget j σ=.ok (.list xs) σ by unfold cget;rw [h])
theorem zlE{md:Md}{mu:Bool}{σ:zaa}{j:Nat}{xs:List PV}{v:PV}(h:σ[j]?=some (.list xs))(hl:xs.length<1000):zbP md mu "append" (.ref j) (M.ret [v]) σ=.ok .none (σ.set j (.list (xs++[v]))):=by
 refine (zab (zng h)).trans ((zab (show M.lift (mtOf .list "append") σ=.ok .append σ from rfl)).trans ((zab (zeg h)).trans ?_))
 rw [decide_eq_true (show xs.length<2 ^ 20 by exact Nat.le_trans ‹_› (by decide))];rfl
theorem zcN{σ:zaa}{c c':Cel}:(σ++[c]).set σ.length c'=σ++[c']:=by rw [List.set_append_right _ _ (Nat.le_refl _),Nat.sub_self];rfl
theorem za1{σ:zaa}{c:Cel}:(σ++[c])[σ.length]?=some c:=by rw [List.getElem?_append_right (Nat.le_refl _),Nat.sub_self];rfl
theorem zcX{α:Type}{x:M PV}{a b:M α}{c:Bool}{σ σ':zaa}(h:x σ=.ok (.bool c) σ'):ifM x a b σ=M.cond c a b σ':=(zab h).trans (zab (a:=c) rfl)
theorem zpH{x y:M PV}{c:Bool}{σ σ':zaa}(h:x σ=.ok (.bool false) σ')(h':y σ'=.ok (.bool c) σ'):orM x y σ=.ok (.bool c) σ':=(zab h).trans ((zab (a:=false) rfl).trans h')
theorem zeU{x:M PV}{a:PV}{σ σ':zaa}(h:x σ=.ok a σ'):seqM [x] σ=.ok [a] σ':=zab h
theorem zms{md:Md}{mu:Bool}{σ:zaa}{j:Nat}{xs:List PV}{v:PV}{n:Nat}(h:σ[j]?=some (.list xs))(hc:zfT v xs σ=.ok n σ):zbP md mu "count" (.ref j) (M.ret [v]) σ=.ok (.int n) σ:=
 (zab (zng h)).trans ((zab (show M.lift (mtOf .list "count") σ=.ok .count σ from rfl)).trans ((zab (zeg h)).trans (zab hc)))
theorem zmk{md:Md}{mu:Bool}{σ:zaa}{j:Nat}{xs:List PV}{v:PV}{n:Nat}(h:σ[j]?=some (.list xs))(hl:xs.length<1000)(hc:zdk v xs σ=.ok n σ):zbP md mu "index" (.ref j) (M.ret [v]) σ=.ok (.int n) σ:=by
 refine (zab (zng h)).trans ((zab (show M.lift (mtOf .list "index") σ=.ok .index σ from rfl)).trans ((zab (zeg h)).trans ?_))
 rw [decide_eq_true (show xs.length<2 ^ 20 by exact Nat.le_trans ‹_› (by decide))]
 exact zab hc
noncomputable def kinds:List PV:=[(.str "saying"),(.str "setting"),(.str "text"),(.str "row"),(.str "tree"),(.str "cut"),(.str "names")]
noncomputable def znO(md:Md)(L:List PV)(b:PV):M PV:=(cnew (.list L)).bind fun t=>
 (zbP md false "append" t (M.ret [b])).bind fun _=>ifM (orM ((zbP md false "count" t (M.ret [.bool true])).bind fun a7=>zac .NotEq a7 (.int 1)) (M.ret (.bool false))) (M.ret (.tup [.str "several"]))
  ((seqM [((zbP md false "index" t (M.ret [.bool true])).bind fun k8=>(index (.lst kinds) k8))]).bind fun vs9=>(M.ret (.tup vs9)))
theorem zh5{md:Md}{L:List PV}{b:PV}{k:Nat}{w:Str}{σ:zaa}(hl:L.length≤10) (h1:zfT (.bool true) (L++[b]) (σ++[Cel.list (L++[b])])=.ok 1 (σ++[Cel.list (L++[b])])) (h2:zdk (.bool true) (L++[b]) (σ++[Cel.list (L++[b])])=.ok k (σ++[Cel.list (L++[b])])) (hw:kinds[k]?=some (.str w)) (hk:k≤10) :
  znO md L b σ=.ok (.tup [.str w]) (σ++[.list (L++[b])]):=by
 refine (zab (show cnew (.list L) σ=.ok (PV.ref σ.length) (σ++[.list L]) from rfl)).trans (Eq.trans (zab (zlE (xs:=L) za1 (by exact Nat.lt_of_le_of_lt ‹_› (by decide)))) ?_)
 rw [zcN]
 have g:(σ++[Cel.list (L++[b])])[σ.length]?=some (.list (L++[b])):=za1
 refine (zcX (zpH ((zab (zms g h1)).trans rfl) rfl)).trans ?_
 have h3:=(zab (f:=fun k8=>index (.lst kinds) k8) (zmk (md:=md) (mu:=false) g (by rw [List.length_append];show _+1<_;lia) h2)).trans (congrFun (zci hw (by exact Nat.le_trans ‹_› (by decide))) _)
 exact zab (zeU h3)
noncomputable def zpy:List PV:=[.bool true,.bool false,.bool false,.bool false,.bool false,.bool false,.bool false]
theorem l_kind(C:zai)(md:Md)(σ:zaa):zal GG C md AA.l_kind [.exc AA.BadSaying] σ=.ok (.tup [.str "saying"]) (σ++[.list zpy]):=
 (congrFun (show zal GG C md AA.l_kind [.exc AA.BadSaying]=znO md [.bool true,.bool false,.bool false,.bool false,.bool false,.bool false] (.bool false) by kernel_rfl) σ).trans (zh5 (k:=0) (by decide) (by kernel_rfl) (by kernel_rfl) rfl (by decide))
theorem zdP(m:Nat)(hm:m≤1000):zaF [.int (m:Int)]=M.ret ⟨zaJ 0 m,[]⟩:=
 c_t (show za4 (m:Int)=true by unfold za4;rw [decide_eq_true (by lia),decide_eq_true (by lia)];rfl)
noncomputable def Say.nms:Say→List Str
 | .yes=>[] | .no=>[] | .name s=>[s]
 | .not a=>a.nms
 | .and a b=>a.nms++b.nms
 | .or a b=>a.nms++b.nms
end
end Mine
namespace Mine
noncomputable section
open PySem
universe u
theorem tr{α:Sort u}{a b c:α}(h:a=b)(h':b=c):a=c:=h.trans h'
theorem at_{α:Type}{x y:M α}{σ:zaa}{r:Rs α}(h:x=y)(h':y σ=r):x σ=r:=(congrFun h σ).trans h'
theorem zcP{x y:M PV}{r:Rs PV}{σ σ':zaa}(h:x σ=.ok (.bool false) σ')(h':y σ'=r):orM x y σ=r:=(zab h).trans ((zab (a:=false) rfl).trans h')
theorem zpq{x y:M PV}{r:Rs PV}{σ σ':zaa}(h:x σ=.ok (.bool true) σ')(h':y σ'=r):andM x y σ=r:=(zab h).trans ((zab (a:=true) rfl).trans h')
structure MadeS (ns:List Str) (n:Nat) (s:Say):Prop where
 ok:s.Ok
 dep:s.dep≤n
 sz:s.sz=n
 nm:∀ x∈s.nms,x∈ns
noncomputable def zct(c:Int):Int:=(c*48271+11).fmod 2147483647
theorem zoG(c:Int):(((opM false .Mult (.int c) (.int 48271)).bind fun a4=>(opM false .Add a4 (.int 11))).bind fun a5=>(opM false .Mod a5 (.int 2147483647)))=M.ret (.int (zct c)):=tr (bd (tr (bd (zcf false c 48271 (by decide) (by decide))) (add_int _ _ _))) (zbt _ _ _ (by decide))
theorem zpF(C:zai)(md:Md)(c:Int)(xs:List PV)(h:xs.length≤1000):zal GG C md AA.l_saying [.int c,.int ((1:Nat):Int),.lst xs] =
  (opM false .Mod (.int ((zct c).fdiv 7)) (.int (3*(xs.length:Int)+2))).bind fun pick=>ifM (zac .Lt pick (.int (3*(xs.length:Int))))
   ((seqM [M.ret (.str "name"),(opM false .Mod pick (.int xs.length)).bind fun k=>index (.lst xs) k]).bind fun vs=>M.ret (.tup vs))
   ((opM false .Mod pick (.int 2)).bind fun k=>index (.lst [Say.yes.pv,Say.no.pv]) k):=by
 refine (ze7 C md _ _ _).trans ((bd (zoG c)).trans ?_)
 rw [zbB (md:=md) (mu:=false) (xs:=xs) (by exact Nat.le_trans ‹_› (by decide))]
 kernel_rfl
theorem zpB(C:zai)(md:Md)(c:Int)(n:Nat)(v:PV):zal GG C md AA.l_saying [.int c,.int ((n+2:Nat):Int),v] =
  ifM (orM (zac .Eq (.int ((n+2:Nat):Int)) (.int 2)) (zac .Lt (.int ((zct c).fmod 8)) (.int 2)))
   ((seqM [M.ret (.str "not"),C md AA.l_saying [.int ((zct c).fdiv 8),.int (((n+2:Nat):Int)-1),v]]).bind fun vs=>M.ret (.tup vs))
   (((opM false .Mod (.int ((zct c).fdiv 8)) (.int (((n+2:Nat):Int)-2))).bind fun b=>opM false .Add (.int 1) b).bind fun left=>
    (C md AA.l_saying [.int ((zct c).fdiv 64+7919),left,v]).bind fun one=>
    ((seqM [(opM false .Mult (.int ((zct c).fdiv 64)) (.int 3)).bind fun a=>opM false .Add a (.int (104729*((n+2:Nat):Int))),opM false .Sub (.int (((n+2:Nat):Int)-1)) left,M.ret v]).bind fun vs=>C md AA.l_saying vs).bind fun other=>
    ((seqM [(opM false .Mod (.int ((zct c).fmod 8)) (.int 2)).bind fun k=>index (.lst [.str "and",.str "or"]) k,M.ret one,M.ret other]).bind fun vs=>M.ret (.tup vs))):=(ze7 C md _ _ _).trans ((bd (zoG c)).trans (by kernel_rfl))
theorem b_eq{b c:Bool}(h:b=c):M.ret (PV.bool b)=M.ret (PV.bool c):=congrArg (fun b=>M.ret (PV.bool b)) h
theorem i_eq{b c:Int}(h:b=c):M.ret (PV.int b)=M.ret (PV.int c):=congrArg (fun b=>M.ret (PV.int b)) h
theorem zaC(mu:Bool)(a:Int){b k:Int}(h:0<b)(e:a.fmod b=k):opM mu .Mod (.int a) (.int b)=M.ret (.int k):=(zbt mu a b h).trans (i_eq e)
theorem zje{a b:Int}(h:a=b):zac .Eq (.int a) (.int b)=M.ret (.bool true):=(zgL a b).trans (b_eq (beq_iff_eq.mpr h))
theorem zen{a b:Int}(h:a≠b):zac .Eq (.int a) (.int b)=M.ret (.bool false):=(zgL a b).trans (b_eq (beq_eq_false_iff_ne.mpr h))
theorem zo4{a b:Int}(h:a<b):zac .Lt (.int a) (.int b)=M.ret (.bool true):=(c_lt a b).trans (b_eq (decide_eq_true h))
theorem zo5{a b:Int}(h:¬ a<b):zac .Lt (.int a) (.int b)=M.ret (.bool false):=(c_lt a b).trans (b_eq (decide_eq_false h))
theorem zdn(c:Int)(a:Int){b:Nat}(ha:0<a)(ha':a<1000000)(hb:0<b):∃ k:Nat,(((opM false .FloorDiv (.int c) (.int a)).bind fun x=>opM false .Mod x (.int (b:Int)))=M.ret (.int (k:Int)))∧k<b:=by
 obtain ⟨k,hk,hkl⟩:=zam (c.fdiv a) hb
 exact ⟨k,tr (bd (zaT _ c a ha ha')) (zaC _ _ (by exact Int.ofNat_lt.mpr ‹_›) hk),hkl⟩
theorem zpE{l n e:Nat}(hl:l<n)(h:n+2≤100)(hd:n+2<e+1):(1+l<n+2∧1≤1+l∧1+l≤100∧1+l<e)∧n-l<n+2∧1≤n-l∧n-l≤100∧n-l<e:=by lia
theorem zoF{a b l n:Nat}(h1:a≤1+l)(h2:b≤n-l)(hl:l<n):max a b+1≤n+2:=by lia
theorem zoD{a b l n:Nat}(h1:a=1+l)(h2:b=n-l)(hl:l<n):a+b+1=n+2:=by lia
theorem zoE(n:Nat):((n+2:Nat):Int)-2=(n:Int):=by lia
theorem zpA(n l:Nat)(hl:l<n):(((n+2:Nat):Int)-1)-((1+l:Nat):Int)=((n-l:Nat):Int):=by lia
theorem zpD(n:Nat):((n+2:Nat):Int)-1=((n+1:Nat):Int):=by lia
theorem zoH{n:Nat}(h:n≠0):((n+2:Nat):Int)≠2:=by lia
theorem zpC(l:Nat):(1:Int)+(l:Int)=((1+l:Nat):Int):=by lia
theorem zkI(md:Md)(ns:List Str)(hns:∀ n∈ns,NmOk n)(hlo:1≤ns.length)(hhi:ns.length≤6):∀(n:Nat)(c:Int)(d:Nat),1≤n→n≤100→n<d→
  ∃ s,zad GG d md AA.l_saying [.int c,.int (n:Nat),.lst (ns.map .str)]=M.ret s.pv∧MadeS ns n s:=by
 intro n
 induction n using Nat.strongRecOn with
 | _ n ih=>
  intro c d h1 h60 hd
  obtain ⟨e,rfl⟩:∃ e,d=e+1:=⟨d-1,by lia⟩
  have hlen:(ns.map PV.str).length=ns.length:=List.length_map _
  match n,h1,ih,h60,hd with
  | 1,_,_,_,_=>
   obtain ⟨k,hk,hkl⟩:=zam ((zct c).fdiv 7) (b:=3*ns.length+2) (by lia)
   have st:=zag (d:=e) ((zpF (zad GG e) md c (ns.map PV.str) (by lia)).trans ((bd (zaC false _ (by lia) (k:=k) (by rw [hlen];exact hk))).trans rfl))
   rw [hlen] at st
   by_cases hp:k<3*ns.length
   ·obtain ⟨j,hj,hjl⟩:=zam (k:Int) (b:=ns.length) (by assumption)
    have hget:(ns.map PV.str)[j]?=some (.str ns[j]):=by rw [List.getElem?_map,List.getElem?_eq_getElem hjl];rfl
    exact ⟨.name ns[j],st.trans ((if_t (zo4 (by exact Int.ofNat_lt.mpr ‹_›))).trans (bd (sq2 rfl ((bd (zaC _ _ (by exact Int.ofNat_lt.mpr ‹_›) hj)).trans (zci hget (by lia)))))),hns _ (List.getElem_mem hjl),Nat.le_refl _,rfl,zah ⟨List.getElem_mem hjl,trivial⟩⟩
   ·obtain ⟨j,hj,hjl⟩:=zam (k:Int) (b:=2) (by decide)
    have g:=fun(s:Say)(hs:[Say.yes.pv,Say.no.pv][j]?=some s.pv)=>st.trans ((if_f (zo5 (by lia))).trans ((bd (zaC _ _ (by decide) hj)).trans (zci hs (by exact Nat.le_trans (Nat.le_of_lt ‹_›) (by decide)))))
    match j,hjl,g with
    | 0,_,g=>exact ⟨.yes,g .yes rfl,trivial,Nat.le_refl _,rfl,fun x hx=>absurd hx List.not_mem_nil⟩
    | 1,_,g=>exact ⟨.no,g .no rfl,trivial,Nat.le_refl _,rfl,fun x hx=>absurd hx List.not_mem_nil⟩
  | n+2,_,ih,h60,hd=>
   have st:=zag (d:=e) (zpB (zad GG e) md c n (.lst (ns.map PV.str)))
   obtain ⟨y,hy,hyl⟩:=zam (zct c) (b:=8) (by decide)
   have hy:(zct c).fmod 8=(y:Int):=hy
   rw [hy] at st
   by_cases hnot:n=0∨y<2
   ·have hc:orM (zac .Eq (.int ((n+2:Nat):Int)) (.int 2)) (zac .Lt (.int y) (.int 2))=M.ret (.bool true):=by
     by_cases h0:n=0
     ·exact or_t (zje (by rw [h0];rfl))
     ·exact (or_f (zen (zoH h0))).trans (zo4 (Int.ofNat_lt.mpr (hnot.resolve_left h0)))
    obtain ⟨s,hs,M1⟩:=ih (n+1) (by exact Nat.le_refl _) ((zct c).fdiv 8) e (Nat.succ_le_succ (Nat.zero_le _)) (Nat.le_of_lt h60) (Nat.lt_of_succ_lt_succ hd)
    rw [zpD] at st
    exact ⟨.not s,st.trans ((if_t hc).trans (bd (sq2 rfl hs))),M1.ok,Nat.succ_le_succ M1.dep,congrArg Nat.succ M1.sz,M1.nm⟩
   ·have hn:=not_or.mp hnot
    have hc:orM (zac .Eq (.int ((n+2:Nat):Int)) (.int 2)) (zac .Lt (.int y) (.int 2))=M.ret (.bool false):=(or_f (zen (zoH hn.1))).trans (zo5 fun z=>hn.2 (Int.ofNat_lt.mp z))
    obtain ⟨l,hl,hll⟩:=zam ((zct c).fdiv 8) (b:=n) (Nat.pos_of_ne_zero hn.1)
    obtain ⟨q,hq,hql⟩:=zam (y:Int) (b:=2) (by decide)
    have B:=zpE hll h60 hd
    obtain ⟨s,hs,M1⟩:=ih (1+l) B.1.1 ((zct c).fdiv 64+7919) e B.1.2.1 B.1.2.2.1 B.1.2.2.2
    obtain ⟨t,ht,M2⟩:=ih (n-l) B.2.1 ((zct c).fdiv 64*3+104729*((n+2:Nat):Int)) e B.2.2.1 B.2.2.2.1 B.2.2.2.2
    have h1:(opM false .Mod (.int ((zct c).fdiv 8)) (.int (((n+2:Nat):Int)-2))).bind (fun b=>opM false .Add (.int 1) b)=M.ret (.int ((1+l:Nat):Int)):=(bd (zaC _ _ (by rw [zoE];exact Int.ofNat_lt.mpr (Nat.lt_of_le_of_lt (Nat.zero_le _) hll)) (k:=l) (by rw [zoE];exact hl))).trans ((add_int _ _ _).trans (i_eq (zpC l)))
    have h2:opM false .Sub (.int (((n+2:Nat):Int)-1)) (.int ((1+l:Nat):Int))=M.ret (.int ((n-l:Nat):Int)):=(sub_int _ _ _).trans (i_eq (zpA n l hll))
    have g:=fun(w:Str)(hw:[PV.str "and",.str "or"][q]?=some (.str w))=>tr st (tr (if_f hc) (tr (bd h1) (tr (bd hs) (tr (bd (tr (bd (sq3 (tr (bd (zcf false _ 3 (by decide) (by decide))) (add_int _ _ _)) h2 rfl)) ht)) (bd (sq3 (tr (bd (zaC _ _ (by decide) hq)) (zci hw (by exact Nat.le_trans (Nat.le_of_lt ‹_›) (by decide)))) rfl rfl))))))
    match q,hql,g with
    | 0,_,g=>exact ⟨.and s t,g "and" rfl,⟨M1.ok,M2.ok⟩,zoF M1.dep M2.dep hll,zoD M1.sz M2.sz hll,fun x hx=>(List.mem_append.mp hx).elim (M1.nm x) (M2.nm x)⟩
    | 1,_,g=>exact ⟨.or s t,g "or" rfl,⟨M1.ok,M2.ok⟩,zoF M1.dep M2.dep hll,zoD M1.sz M2.sz hll,fun x hx=>(List.mem_append.mp hx).elim (M1.nm x) (M2.nm x)⟩
theorem l_saying(md:Md)(ns:List Str)(hns:∀ n∈ns,NmOk n)(hlo:1≤ns.length)(hhi:ns.length≤6):∀(n:Nat)(c:Int)(d:Nat),1≤n→n≤60→n<d→
  ∃ s,zad GG d md AA.l_saying [.int c,.int (n:Nat),.lst (ns.map .str)]=M.ret s.pv∧MadeS ns n s:=fun n c d h1 h2 h3=>zkI md ns hns hlo hhi n c d h1 (by exact Nat.le_trans ‹_› (by decide)) h3
noncomputable def ls(s:Str):List Nat:=s.cps.toList
noncomputable def sL(l:List Nat):Str:=⟨l.toArray⟩
theorem zoJ(s:Str):sL (ls s)=s:=rfl
theorem zmK(l:List Nat):(sL l).length=l.length:=rfl
theorem zoQ(a b:Str):ls (a++b)=ls a++ls b:=Array.toList_append
theorem zoK(a b:List Nat):sL a++sL b=sL (a++b):=by
 rw [← zoJ (sL a++sL b),zoQ];rfl
theorem zpG{l m:List Nat}(h:l≠m):sL l≠sL m:=fun q=>h (congrArg ls q)
theorem add_str{mu:Bool}{a b:Str}(h:a.length+b.length≤1000000):opM mu .Add (.str a) (.str b)=M.ret (.str (a++b)):=c_t (decide_eq_true (by exact Nat.le_trans ‹_› (by decide)))
theorem zfs{mu:Bool}{a b:List Nat}(h:a.length+b.length≤1000000):opM mu .Add (.str (sL a)) (.str (sL b))=M.ret (.str (sL (a++b))):=(add_str (a:=sL a) (b:=sL b) h).trans (congrArg (fun s=>M.ret (PV.str s)) (zoK a b))
theorem zij(n i:Nat):clip n (i:Int)=min i n:=by
 unfold clip
 rw [if_neg (by lia)]
 lia
theorem zhf{α:Type}(l:List α)(n:Nat):slc Option.none (some (n:Int)) l=l.take n:=by
 show (l.drop 0).take (clip l.length n-0)=_
 rw [zij,List.drop_zero,Nat.sub_zero,Nat.min_def]
 split
 ·rfl
 ·rw [List.take_of_length_le (Nat.le_refl _),List.take_of_length_le (by lia)]
theorem zjL{α:Type}(l:List α)(n:Nat):slc (some (n:Int)) Option.none l=l.drop n:=by
 show (l.drop (clip l.length n)).take (l.length-clip l.length n)=_
 rw [List.take_of_length_le (by rw [List.length_drop];exact Nat.le_refl _),zij,Nat.min_def]
 split
 ·rfl
 ·rw [List.drop_of_length_le (Nat.le_refl _),List.drop_of_length_le (by lia)]
theorem zlh{mu:Bool}{l:List Nat}{n:Nat}(hl:l.length≤1000):cutM mu (.str (sL l)) Option.none (some (n:Int))=M.ret (.str (sL (l.take n))):=
 (c_t (decide_eq_true (show (sL l).length≤2 ^ 20 by rw [zmK];exact Nat.le_trans ‹_› (by decide)))).trans (congrArg (fun m=>M.ret (PV.str (sL m))) (zhf l n))
theorem zn2{mu:Bool}{l:List Nat}{n:Nat}(hl:l.length≤1000):cutM mu (.str (sL l)) (some (n:Int)) Option.none=M.ret (.str (sL (l.drop n))):=
 (c_t (decide_eq_true (show (sL l).length≤2 ^ 20 by rw [zmK];exact Nat.le_trans ‹_› (by decide)))).trans (congrArg (fun m=>M.ret (PV.str (sL m))) (zjL l n))
theorem zhZ(i:Int):zbb (M.ret (.int i))=M.ret (some i):=rfl
theorem zgb:∀(n:Nat)(a:Int),(zaJ a n).length=n
 | 0,_=>rfl
 | n+1,a=>congrArg Nat.succ (zgb n (a+1))
theorem zbq{f:PV→M (Option PV)}{x y:PV}{xs ys:List PV}(h:f x=M.ret (some y)) (h':za6 (M.ret ()) (fun x=>M.noErr (f x)) xs=M.ret ys):za6 (M.ret ()) (fun x=>M.noErr (f x)) (x::xs)=M.ret (y::ys):=
 (bd (show M.noErr (f x)=M.ret (some y) from congrArg M.noErr h)).trans (bd h')
theorem zlk{f:PV→M (Option PV)}{x:PV}{xs ys:List PV}(h:f x=M.ret Option.none) (h':za6 (M.ret ()) (fun x=>M.noErr (f x)) xs=M.ret ys):za6 (M.ret ()) (fun x=>M.noErr (f x)) (x::xs)=M.ret ys:=
 (bd (show M.noErr (f x)=M.ret Option.none from congrArg M.noErr h)).trans (bd h')
theorem zlj{f:PV→M (Option PV)}{g:Nat→PV}:∀(m x:Nat),(∀ k,k<x+m→f (.int (k:Nat))=M.ret (some (g k)))→za6 (M.ret ()) (fun x=>M.noErr (f x)) (zaJ (x:Nat) m)=M.ret ((List.range m).map fun k=>g (x+k))
 | 0,_,_=>rfl
 | m+1,x,h=>by
  have ih:=zlj (f:=f) (g:=g) m (x+1) fun k h2=>h k (by lia)
  rw [List.range_succ_eq_map,List.map_cons,List.map_map]
  refine tr (zbq (h x (by lia)) ih) (congrArg (fun l=>M.ret (g x::l)) (List.map_congr_left fun k _=>congrArg g ?_))
  show x+1+k=x+(k+1);lia
theorem zih{md:Md}(hl:md.lp=true){m:Nat}(hm:m≤1000){f:PV→M (Option PV)}(g:Nat→PV) (h:∀ k,k<m→f (.int (k:Nat))=M.ret (some (g k))):zbu md false (zaF [.int (m:Int)]) f=M.ret (.lst ((List.range m).map g)):=
 zbD hl (zdP m hm) (by rw [zgb];exact Nat.le_trans ‹_› (by decide)) ((zlj (f:=f) (g:=g) m 0 fun k hk=>h k (by lia)).trans (congrArg (fun l=>M.ret (List.map l (List.range m))) (funext fun k=>congrArg g (Nat.zero_add k))))
theorem zev{md:Md}(hl:md.lp=true){ss:List Str}(hs:ss.length≤1000){f:PV→M (Option PV)}(h:Str→Str) (hf:∀ s∈ss,f (.str s)=M.ret (some (.str (h s)))):zbu md false (zbr (.lst (ss.map .str))) f=M.ret (.lst ((ss.map h).map .str)):=by
 refine zbD hl rfl (by rw [List.length_map];exact Nat.le_trans ‹_› (by decide)) ?_
 clear hs
 induction ss with
 | nil=>rfl
 | cons s r ih=>exact zbq (hf s (.head _)) (ih fun x hx=>hf x (.tail _ hx))
noncomputable def ltr(i:Int):Nat:=97+(i.fmod 26).toNat
theorem zkD(i:Int):97≤ltr i∧ltr i≤122:=by
 obtain ⟨k,hk,hl⟩:=zam i (b:=26) (by lia)
 have:i.fmod 26=(k:Int):=hk
 unfold ltr;rw [this];lia
theorem zfO(i:Int):index (.str "abcdefghijklmnopqrstuvwxyz") (.int (i.fmod 26))=M.ret (.str (sL [ltr i])):=by
 obtain ⟨k,hk,hl⟩:=zam i (b:=26) (by lia)
 have hk':i.fmod 26=(k:Int):=hk
 have key:∀ j:Fin 26,letters.cps.toList[j.val]?=some (97+j.val):=by decide
 have hg:=key ⟨k,hl⟩
 unfold ltr
 rw [hk']
 exact zoY hg (by exact Nat.le_trans (Nat.le_of_lt ‹_›) (by decide))
noncomputable def nmB(l:List Nat):Bool:=decide (1≤l.length)&&decide (l.length≤6)&&l.all (fun c=>decide (97≤c)&&decide (c≤122))&&!(l==[121,101,115])&&!(l==[110,111])&&!(l==[110,111,116])&&!(l==[97,110,100])&&!(l==[111,114])
theorem zgU{l m:List Nat} (h:(!(l==m))=true):sL l≠sL m:=zpG fun q=>by rw [q,beq_self_eq_true] at h;cases h
theorem zh2{l:List Nat}(h:nmB l=true):NmOk (sL l):=by
 unfold nmB at h
 have h8:=Bool.and_eq_true_iff.mp h
 have h7:=Bool.and_eq_true_iff.mp h8.1
 have h6:=Bool.and_eq_true_iff.mp h7.1
 have h5:=Bool.and_eq_true_iff.mp h6.1
 have h4:=Bool.and_eq_true_iff.mp h5.1
 have h3:=Bool.and_eq_true_iff.mp h4.1
 have h2:=Bool.and_eq_true_iff.mp h3.1
 refine ⟨of_decide_eq_true h2.1,of_decide_eq_true h2.2,fun c hc=>?_,zgU h4.2,zgU h5.2,zgU h6.2,zgU h7.2,zgU h8.2⟩
 have:=Bool.and_eq_true_iff.mp (List.all_eq_true.mp h3.2 c hc)
 exact ⟨of_decide_eq_true this.1,of_decide_eq_true this.2⟩
theorem in_2(a x y:Str):zac .In (.str a) (.tup [.str x,.str y])=M.ret (.bool ((x==a) || ((y==a) || false))):=rfl
theorem zew{md:Md}(hl:md.lp=true){m:Nat}(hm:m≤1000){f:PV→M (Option PV)}(g:Nat→Str) (h:∀ k,k<m→f (.int (k:Nat))=M.ret (some (.str (g k)))):zbu md false (zaF [.int (m:Int)]) f=M.ret (.lst (((List.range m).map g).map .str)):=
 (zih hl hm (fun k=>.str (g k)) h).trans (by rw [List.map_map];rfl)
theorem zpL(md:Md)(a b c d e f:Nat)(x:M (List PV))(h:x=M.ret [.lst [.str (sL [a]),.str (sL [b]),.str (sL [c]),.str (sL [d]),.str (sL [e]),.str (sL [f])]]):zbP md false "join" (.str "") x=M.ret (.str (sL [a,b,c,d,e,f])):=by
 rw [h];kernel_rfl
theorem zgI(a:Int)(b:Nat):a.fmod b=a % b:=Int.fmod_eq_emod_of_nonneg a (by lia)
theorem znF(q:Int)(b:Nat):ltr (q+b)=97+((q.fmod 26).toNat+b) % 26:=by
 unfold ltr
 have h1:(q+b).fmod 26=(q+b) % 26:=zgI _ 26
 have h2:q.fmod 26=q % 26:=zgI _ 26
 rw [h1,h2];lia
noncomputable def bl(r:Nat):List Nat:=[97+(r+0) % 26,97+(r+5) % 26,97+(r+10) % 26,97+(r+15) % 26,97+(r+20) % 26,97+(r+25) % 26]
theorem zpX(r:Nat)(hr:r<26)(k:Nat)(hk:k<6):nmB ((bl r).take (k+1))=true:=by
 have key:∀ r:Fin 26,∀ k:Fin 6,nmB ((bl r.val).take (k.val+1))=true:=by decide +kernel
 exact key ⟨r,hr⟩ ⟨k,hk⟩
noncomputable def NmL(m:Nat)(x:M PV):Prop:=∃ ns:List Str,x=M.ret (.lst (ns.map .str))∧ns.length=m∧∀ n∈ns,NmOk n
theorem NmL.rng{m:Nat}{x:M PV}(g:Nat→Str) (e:x=M.ret (.lst (((List.range m).map g).map .str))) (h:∀ k,k<m→NmOk (g k)):NmL m x:=⟨_,e,by rw [List.length_map,List.length_range],fun n hn=>by
 obtain ⟨k,hk,rfl⟩:=List.mem_map.mp hn
 exact h k (List.mem_range.mp hk)⟩
theorem zhl{m:Nat}(h6:m≤6)(g:Nat→Str):((List.range m).map g).length≤1000:=by rw [List.length_map,List.length_range];exact Nat.le_trans ‹_› (by decide)
theorem znC(C:zai)(md:Md)(hl:md.lp=true)(c:Int)(hc:c.fmod 5=0)(m:Nat)(h6:m≤6):NmL m (zal GG C md AA.l_names [.int c,.int (m:Nat)]):=by
 obtain ⟨r,hr,hrl⟩:=zam (c.fdiv 5) (b:=26) (by decide)
 have hr:(c.fdiv 5).fmod 26=(r:Int):=hr
 refine NmL.rng (fun k=>sL ((bl r).take (k+1))) ?_ fun k hk=>zh2 (zpX _ hrl k (by exact Nat.le_trans ‹_› ‹_›))
 have ht:∀ b:Nat,ltr (c.fdiv 5+(b:Int))=97+(r+b) % 26:=fun b=>by rw [znF,hr];rfl
 refine tr (zeh C md _ _) (tr (bd (zaT _ c 5 (by decide) (by decide))) (tr (if_t (tr (bd (zaC _ c (by decide) hc)) rfl)) (tr (bd (zpL md _ _ _ _ _ _ _ (sq1 (zih (m:=6) hl (by decide) (fun k=>.str (sL [97+(r+5*k) % 26])) fun k hk=>?_)))) ?_)))
 ·refine bd (tr (bd (tr (bd (tr (bd (zef false 5 k (by decide) (by decide))) (add_int _ _ _))) (zbt _ _ _ (by decide)))) (tr (zfO _) ?_))
  rw [show (5:Int)*(k:Int)=((5*k:Nat):Int) by lia,ht]
 ·refine zew hl (by exact Nat.le_trans ‹_› (by decide)) _ fun k hk=>bd (tr (bd (show zbb (opM false .Add (.int k) (.int 1))=M.ret (some ((k+1:Nat):Int)) from rfl)) (zlh (l:=bl r) (show 6≤1000 by decide)))
noncomputable def fixB(l:List Nat):List Nat:=if l=[110,111,116] then [110,111,116,120] else l
noncomputable def zda(j:Nat):List Nat:=match j with | 0=>[121,101,115] | 1=>[110,111] | 2=>[110,111,116] | 3=>[97,110,100] | _=>[111,114]
noncomputable def zkz(w:List Nat)(i c:Nat):List Nat:=match i with | 0=>w++[c] | 1=>[c]++w | _=>w++[c]++[c]
theorem zl7(j i c:Nat)(hj:j<5)(hi:i<3)(h:97≤c∧c≤122):nmB (fixB (zkz (zda j) i c))=true:=by
 have key:∀ j:Fin 5,∀ i:Fin 3,∀ c:Fin 26,nmB (fixB (zkz (zda j.val) i.val (97+c.val)))=true:=by decide +kernel
 have:=key ⟨j,hj⟩ ⟨i,hi⟩ ⟨c-97,by lia⟩
 rwa [show 97+(c-97)=c from by lia] at this
theorem znB(C:zai)(md:Md)(hl:md.lp=true)(c:Int)(hc:c.fmod 5=1)(m:Nat)(h6:m≤6):NmL m (zal GG C md AA.l_names [.int c,.int (m:Nat)]):=by
 obtain ⟨j,hj,hjl⟩:=zam (c.fdiv 5) (b:=5) (by decide)
 obtain ⟨i,hi,hil⟩:=zam ((c.fdiv 5).fdiv 130) (b:=3) (by decide)
 have hword:([PV.str "yes",.str "no",.str "not",.str "and",.str "or"])[j]?=some (.str (sL (zda j))):=by
  match j,hjl with
  | 0,_=>rfl
  | 1,_=>rfl
  | 2,_=>rfl
  | 3,_=>rfl
  | 4,_=>rfl
 have hwl:(zda j).length≤3:=by
  match j,hjl with
  | 0,_=>decide
  | 1,_=>decide
  | 2,_=>decide
  | 3,_=>decide
  | 4,_=>decide
 let sg:Nat→Nat:=fun k=>ltr ((c.fdiv 5).fdiv 5+(k:Int))
 refine NmL.rng (fun k=>sL (fixB (zkz (zda j) i (sg k)))) ?_ fun k _=>zh2 (zl7 j i _ hjl hil (zkD _))
 refine tr (zeh C md _ _) (tr (bd (zaT _ c 5 (by decide) (by decide))) (tr (if_f (tr (bd (zaC _ c (by decide) hc)) rfl)) (tr (if_t (tr (bd (zaC _ c (by decide) hc)) rfl)) (tr (bd (tr (bd (zaC _ _ (by decide) hj)) (zci hword (by exact Nat.le_trans (Nat.le_of_lt ‹_›) (by decide))))) ?_))))
 refine tr (bd (zew hl (by exact Nat.le_trans ‹_› (by decide)) (fun k=>sL [sg k]) fun k hk=>bd (tr (bd (tr (bd (tr (bd (zaT _ _ 5 (by decide) (by decide))) (add_int _ _ _))) (zbt _ _ _ (by decide)))) (zfO _)))) ?_
 refine tr (bd (zev hl (zhl h6 _) (fun s=>sL (zkz (zda j) i ((ls s).headD 0))) fun s hs=>?_)) ?_
 ·obtain ⟨k,hk,rfl⟩:=List.mem_map.mp hs
  have hx:[PV.str (sL (zda j++[sg k])),.str (sL ([sg k]++zda j)),.str (sL (zda j++[sg k]++[sg k]))][i]?=some (.str (sL (zkz (zda j) i (sg k)))):=by
   match i,hil with
   | 0,_=>rfl
   | 1,_=>rfl
   | 2,_=>rfl
  have a1:=zfs (mu:=false) (a:=zda j) (b:=[sg k]) (show _+1≤_ by exact Nat.lt_of_le_of_lt ‹_› (by decide))
  refine bd (tr (bd (bd (sq3 a1 (zfs (a:=[sg k]) (b:=zda j) (show 1+_≤_ by lia)) (tr (bd a1) (zfs (a:=zda j++[sg k]) (b:=[sg k]) (by rw [List.length_append];show _+1+1≤_;lia)))))) (tr (bd (tr (bd (zaT _ _ 130 (by decide) (by decide))) (zaC _ _ (by decide) hi))) (zci hx (by exact Nat.le_trans (Nat.le_of_lt ‹_›) (by decide)))))
 ·refine tr (zev hl (by rw [List.length_map];exact zhl h6 _) (fun s=>sL (fixB (ls s))) fun s _=>bd ?_) ?_
  ·refine tr (if_b (zet s "not")) ?_
   by_cases hq:s="not"
   ·subst hq;kernel_rfl
   ·rw [zdx hq]
    have:ls s≠[110,111,116]:=fun q=>hq (by rw [← zoJ s,q];rfl)
    unfold fixB
    rw [if_neg this];rfl
  ·exact congrArg (fun l=>M.ret (PV.lst (List.map PV.str l))) (by rw [List.map_map,List.map_map];rfl)
noncomputable def zcS(z a f c:Nat):List Nat:=List.replicate a f++([c]++List.replicate (z-a) f)
noncomputable def fixC(l:List Nat):List Nat:=if l=[110,111]∨l=[111,114] then l++l else l
theorem zgx{z a f c:Nat}(ha:a≤z):(zcS z a f c).length=z+1:=by
 unfold zcS;rw [List.length_append,List.length_append,List.length_replicate,List.length_replicate,List.length_singleton];lia
theorem zeB{l m:List Nat}(h:l≠m):(!(l==m))=true:=by rw [beq_eq_false_iff_ne.mpr h];rfl
theorem zl6(z a f c:Nat)(hz:z<6)(ha:a≤z)(hf:97≤f∧f≤122)(hc:97≤c∧c≤122):NmOk (sL (fixC (zcS z a f c))):=by
 have hlen:=zgx (f:=f) (c:=c) ha
 have hall:∀ x∈zcS z a f c,97≤x∧x≤122:=fun x hx=>by
  rcases List.mem_append.mp hx with h | h
  ·rw [(List.mem_replicate.mp h).2];exact hf
  ·rcases List.mem_append.mp h with h | h
   ·rw [List.mem_singleton.mp h];exact hc
   ·rw [(List.mem_replicate.mp h).2];exact hf
 unfold fixC
 by_cases h:zcS z a f c=[110,111]∨zcS z a f c=[111,114]
 ·rw [if_pos h]
  rcases h with h | h <;> (rw [h];exact zh2 (by decide))
 ·rw [if_neg h]
  have h3:∀ x y w:Nat,x≠y→y≠w→x≠w→zcS z a f c≠[x,y,w]:=fun x y w n1 n2 n3 q=>by
   have hz2:z=2:=by rw [q] at hlen;exact Nat.succ.inj hlen.symm
   subst hz2
   have t:∀{p1 p2 p3:Nat},[p1,p2,p3]=[x,y,w]→p1=x∧p2=y∧p3=w:=fun q=>⟨(List.cons.inj q).1,(List.cons.inj (List.cons.inj q).2).1,(List.cons.inj (List.cons.inj (List.cons.inj q).2).2).1⟩
   match a,ha,q with
   | 0,_,q=>have:=t (p1:=c) (p2:=f) (p3:=f) q;lia
   | 1,_,q=>have:=t (p1:=f) (p2:=c) (p3:=f) q;lia
   | 2,_,q=>have:=t (p1:=f) (p2:=f) (p3:=c) q;lia
  refine zh2 ?_
  unfold nmB
  rw [hlen,decide_eq_true (show 1≤z+1 by lia),decide_eq_true (show z+1≤6 by assumption),zeB fun q=>h (.inl q),zeB fun q=>h (.inr q),zeB (h3 121 101 115 (by decide) (by decide) (by decide)),zeB (h3 110 111 116 (by decide) (by decide) (by decide)),zeB (h3 97 110 100 (by decide) (by decide) (by decide)),List.all_eq_true.mpr fun x hx=>by rw [decide_eq_true (hall x hx).1,decide_eq_true (hall x hx).2];rfl]
  rfl
theorem zjI(f z:Nat):zcK (sL [f]) z=sL (List.replicate z f):=by
 show sL (List.replicate z [f]).flatten=_
 refine congrArg sL ?_
 induction z with
 | zero=>rfl
 | succ z ih=>rw [List.replicate_succ,List.replicate_succ,List.flatten_cons,ih];rfl
theorem znE(f z:Nat)(hz:z≤1000):opM false .Mult (.str (sL [f])) (.int (z:Int))=M.ret (.str (sL (List.replicate z f))):=
 tr (c_t (by rw [decide_eq_true (show (0:Int)≤z by lia),decide_eq_true (show (z:Int)≤1000 by lia)];rfl)) (congrArg (fun s=>M.ret (PV.str s)) (zjI f z))
theorem znA(C:zai)(md:Md)(hl:md.lp=true)(c:Int)(hc0:c.fmod 5≠0)(hc1:c.fmod 5≠1)(m:Nat)(h6:m≤6):NmL m (zal GG C md AA.l_names [.int c,.int (m:Nat)]):=by
 obtain ⟨z,hz,hzl⟩:=zam (c.fdiv 5) (b:=6) (by decide)
 obtain ⟨a,ha,hal⟩:=zam ((c.fdiv 5).fdiv 6) (b:=z+1) (by lia)
 let f:Nat:=ltr ((c.fdiv 5).fdiv 36)
 let sg:Nat→Nat:=fun k=>ltr ((c.fdiv 5).fdiv 936+(k:Int))
 refine NmL.rng (fun k=>sL (fixC (zcS z a f (sg k)))) ?_ fun k _=>zl6 z a f _ hzl (by lia) (zkD _) (zkD _)
 refine tr (zeh C md _ _) (tr (bd (zaT _ c 5 (by decide) (by decide))) (tr (if_f (tr (bd (zbt _ c 5 (by decide))) (zen hc0))) (tr (if_f (tr (bd (zbt _ c 5 (by decide))) (zen hc1))) ?_)))
 refine tr (bd (zaC _ _ (by decide) hz)) (tr (bd (tr (bd (zaT _ _ 6 (by decide) (by decide))) (tr (bd (add_int _ _ _)) (zaC _ _ (by lia) ha)))) (tr (bd (tr (bd (tr (bd (tr (bd (zaT _ _ 36 (by decide) (by decide))) (zbt _ _ _ (by decide)))) (zfO _))) (znE f z (by exact Nat.le_trans (Nat.le_of_lt ‹_›) (by decide))))) ?_))
 have l1:(List.replicate z f).length≤1000:=by rw [List.length_replicate];exact Nat.le_trans (Nat.le_of_lt ‹_›) (by decide)
 refine tr (bd (zew hl (by exact Nat.le_trans ‹_› (by decide)) (fun k=>sL (zcS z a f (sg k))) fun k hk=>bd ?_)) ?_
 ·refine tr (bd (tr (bd (tr (bd (zhZ a)) (zlh l1))) (tr (bd (tr (bd (tr (bd (tr (bd (zaT _ _ 936 (by decide) (by decide))) (add_int _ _ _))) (zbt _ _ _ (by decide)))) (zfO _))) (zfs (by rw [List.length_take];show _+1≤_;lia))))) (tr (bd (tr (bd (zhZ a)) (zn2 l1))) (tr (zfs ?_) ?_))
  ·rw [List.length_append,List.length_take,List.length_drop];show _+1+_≤_;lia
  ·rw [List.take_replicate,List.drop_replicate,Nat.min_eq_left (by lia),List.append_assoc];rfl
 ·refine tr (zev hl (zhl h6 _) (fun s=>sL (fixC (ls s))) fun s hs=>bd ?_) ?_
  ·obtain ⟨k,hk,rfl⟩:=List.mem_map.mp hs
   refine tr (if_b (in_2 _ _ _)) ?_
   have hlen:=zgx (f:=f) (c:=sg k) (show a≤z by lia)
   show _=M.ret (PV.str (sL (fixC (zcS z a f (sg k)))))
   unfold fixC
   by_cases hq:zcS z a f (sg k)=[110,111]∨zcS z a f (sg k)=[111,114]
   ·rw [if_pos hq]
    refine tr (c_t ?_) (zfs (by lia))
    rcases hq with q | q <;> (rw [q];decide)
   ·rw [if_neg hq,zdx (show ("no":Str)≠sL (zcS z a f (sg k)) from fun q=>hq (.inl (congrArg ls q).symm)),zdx (show ("or":Str)≠sL (zcS z a f (sg k)) from fun q=>hq (.inr (congrArg ls q).symm))];rfl
  ·exact congrArg (fun l=>M.ret (PV.lst (List.map PV.str l))) (by rw [List.map_map];rfl)
theorem l_names(C:zai)(md:Md)(hl:md.lp=true)(c:Int)(m:Nat)(h6:m≤6):NmL m (zal GG C md AA.l_names [.int c,.int (m:Nat)]):=by
 by_cases h0:c.fmod 5=0
 ·exact znC C md hl c h0 m h6
 ·by_cases h1:c.fmod 5=1
  ·exact znB C md hl c h1 m h6
  ·exact znA C md hl c h0 h1 m h6
theorem halves(C:zai)(md:Md)(s:Say):zal GG C md AA.halves [s.pv]=M.ret (.lst (s.parts.map Say.pv)):=by
 cases s <;> kernel_rfl
theorem zdQ(s:Say):s.parts.length≤2∧∀ p∈s.parts,p.dep<s.dep∧p.sz<s.sz:=by
 cases s with
 | not a=>exact ⟨Nat.le_succ 1,zah ⟨⟨Nat.lt_succ_self _,Nat.lt_succ_self _⟩,trivial⟩⟩
 | and a b=>exact ⟨Nat.le_refl 2,zah ⟨⟨Nat.lt_succ_of_le (Nat.le_max_left _ _),by show _<a.sz+b.sz+1;lia⟩,⟨Nat.lt_succ_of_le (Nat.le_max_right _ _),by show _<a.sz+b.sz+1;lia⟩,trivial⟩⟩
 | or a b=>exact ⟨Nat.le_refl 2,zah ⟨⟨Nat.lt_succ_of_le (Nat.le_max_left _ _),by show _<a.sz+b.sz+1;lia⟩,⟨Nat.lt_succ_of_le (Nat.le_max_right _ _),by show _<a.sz+b.sz+1;lia⟩,trivial⟩⟩
 | _=>exact ⟨Nat.zero_le _,fun p hp=>absurd hp List.not_mem_nil⟩
theorem zlQ(s:Say):1+(s.parts.map fun p=>(p.sz:Int)).sum=(s.sz:Int):=by
 cases s with
 | not a=>show 1+((a.sz:Int)+0)=((a.sz+1:Nat):Int);lia
 | and a b=>show 1+((a.sz:Int)+((b.sz:Int)+0))=((a.sz+b.sz+1:Nat):Int);lia
 | or a b=>show 1+((a.sz:Int)+((b.sz:Int)+0))=((a.sz+b.sz+1:Nat):Int);lia
 | _=>rfl
theorem zdd{P:Say→Prop}(h:∀ s,(∀ p∈s.parts,P p)→P s):∀ s,P s
 | .yes=>h _ fun p hp=>absurd hp List.not_mem_nil
 | .no=>h _ fun p hp=>absurd hp List.not_mem_nil
 | .name _=>h _ fun p hp=>absurd hp List.not_mem_nil
 | .not a=>h _ (zah ⟨zdd h a,trivial⟩)
 | .and a b=>h _ (zah ⟨zdd h a,zdd h b,trivial⟩)
 | .or a b=>h _ (zah ⟨zdd h a,zdd h b,trivial⟩)
theorem zjE{s:Say}(hz:s.sz≤1000):zd5 0 (s.parts.map fun p=>(p.sz:Int))=true:=by
 have hp:=(zdQ s).2
 have hl:=(zdQ s).1
 match s.parts,hl,hp with
 | [],_,_=>rfl
 | [p],_,hp=>
  have:=hp p (.head _)
  show (zbN (p.sz:Int)&&zbN (0+(p.sz:Int))&&true)=true
  rw [za2 (by lia) (by lia),za2 (by lia) (by lia)];rfl
 | [p,q],_,hp=>
  have:=hp p (.head _)
  have:=hp q (.tail _ (.head _))
  show (zbN (p.sz:Int)&&zbN (0+(p.sz:Int))&&(zbN (q.sz:Int)&&zbN (0+(p.sz:Int)+(q.sz:Int))&&true))=true
  rw [za2 (by lia) (by lia),za2 (by lia) (by lia),za2 (by lia) (by lia),za2 (by lia) (by lia)];rfl
theorem zc3{f:PV→M (Option PV)}{g:Say→PV}:∀{ps:List Say},(∀ p∈ps,f p.pv=M.ret (some (g p)))→za6 (M.ret ()) (fun x=>M.noErr (f x)) (ps.map Say.pv)=M.ret (ps.map g)
 | [],_=>rfl
 | p::_,h=>zbq (h p (.head _)) (zc3 fun q hq=>h q (.tail _ hq))
theorem size_in:∀(s:Say)(md:Md)(d:Nat),md.lp=true→s.dep+1<d→s.sz≤1000→zad GG d md AA.size_in [s.pv]=M.ret (.int s.sz):=by
 refine zdd fun s ih md d hl hd hz=>?_
 obtain ⟨e,rfl⟩:∃ e,d=e+2:=⟨d-2,by lia⟩
 have hp:=(zdQ s).2
 have hl2:=(zdQ s).1
 have hc:za6 (M.ret ()) (fun x=>M.noErr ((zad GG (e+1) md.inn AA.size_in [x]).bind fun y3=>M.ret (some y3))) (s.parts.map Say.pv)=M.ret (s.parts.map fun p=>PV.int (p.sz:Int)):=zc3 (f:=fun x=>(zad GG (e+1) md.inn AA.size_in [x]).bind fun y3=>M.ret (some y3)) fun p q=>by
  have:=hp p q
  exact bd (ih p q md.inn (e+1) hl (by lia) (by lia))
 have hm:(s.parts.map fun p=>PV.int (p.sz:Int))=(s.parts.map fun p=>(p.sz:Int)).map PV.int:=by rw [List.map_map];rfl
 rw [hm] at hc
 refine zag (tr (zjM _ md _) (tr (bd (tr (bd (sq1 (zbD hl (bd (zag (halves _ md s))) (by rw [List.length_map];exact Nat.le_trans ‹_› (by decide)) hc))) (zjF (zdr _) (zjE hz) hl))) (tr (add_int _ _ _) (i_eq (zlQ s)))))
theorem zlc{σ:zaa}{j:Nat}{kvs:List (Str×PV)}(h:σ[j]?=some (.dict kvs)):dget j σ=.ok kvs σ:=zab (show cget j σ=.ok (.dict kvs) σ by unfold cget;rw [h])
theorem zbn{α β:Type}{f:α→Option β}{x:α}{y:β}{xs:List α}{ys:List β}(h:f x=some y)(h':zan f xs=some ys):zan f (x::xs)=some (y::ys):=by
 unfold zan;rw [h,h']
theorem zcI{σ:zaa}{a x:PV}(h:whole σ zaj a=some x):wholeM a σ=.ok x σ:=by unfold wholeM;rw [h]
theorem zir{σ:zaa}{a x:List PV}(h:zan (whole σ zaj) a=some x):zbY a σ=.ok x σ:=by unfold zbY;rw [h]
theorem zbO{x:M PV}{b:Bool}{σ σ':zaa}(h:x σ=.ok (.bool b) σ'):notM x σ=.ok (.bool !b) σ':=(zab h).trans (zab (a:=b) rfl)
theorem zlx{σ:zaa}{j:Nat}{c:Cel}(h:σ[j]?=some c):cget j σ=.ok c σ:=by unfold cget;rw [h]
theorem zm7{γ:Type}{body:M (TR γ)}{sub:Addr→Bool}{H:Addr→M PV}{K:γ→M PV}{E:Addr}{σ σ' σ'':zaa}{v:PV}(hb:body σ=.err E σ')(hs:sub E=true)(hh:H E σ'=.ok v σ''):tryM true body sub H K σ=.ok v σ'':=by
 refine (zab (a:=TR.ret v) (σ':=σ'') ?_).trans rfl
 unfold zaA
 rw [hb]
 show M.cond (sub E) (M.noErr ((H E).bind fun v=>M.ret (TR.ret v))) M.fail σ'=_
 rw [hs]
 show M.noErr ((H E).bind fun v=>M.ret (TR.ret v)) σ'=_
 unfold M.noErr
 rw [zab hh];rfl
end
end Mine
namespace Mine
noncomputable section
open PySem
noncomputable def RfAt(σ:zaa)(v:PV):Prop:=∀(md:Md)(d:Nat),md.lp=true→210<d→zad GG d md AA.is_within [v,.int 100] σ=.ok (.bool false) σ
theorem Rf.at_{v:PV}(h:Rf v)(σ:zaa):RfAt σ v:=fun md d hl hd=>congrFun (h md 100 d hl hd) σ
theorem zay(k:Str)(v:PV)(r:List (Str×PV))(x:Str):dat ((k,v)::r) x=bif decide (k=x) then some v else dat r x:=by
 unfold dat
 rw [List.find?_cons]
 cases decide (k=x) <;> rfl
theorem zle(a b:List (Str×PV))(x:Str) (h:(a.any fun kv=>decide (kv.1=x))=false):dat (a++b) x=dat b x:=by
 induction a with
 | nil=>rfl
 | cons p r ih=>
  obtain ⟨k,v⟩:=p
  rw [List.any_cons,Bool.or_eq_false_iff] at h
  rw [List.cons_append,zay,h.1]
  exact ih h.2
theorem zmr(a b:List (Str×PV))(x:Str)(v:PV)(h:dat a x=some v):dat (a++b) x=some v:=by
 induction a with
 | nil=>cases h
 | cons p r ih=>
  obtain ⟨k,w⟩:=p
  rw [zay] at h
  rw [List.cons_append,zay]
  cases q:decide (k=x) with
  | true=>rw [q] at h;exact h
  | false=>rw [q] at h;exact ih h
theorem zn1(kvs:List (Str×PV))(n:Str)(v:PV)(x:Str):dat (kvs.map fun kv=>if kv.1=n then (kv.1,v) else kv) x=if x=n then (dat kvs x).map (fun _=>v) else dat kvs x:=by
 induction kvs with
 | nil=>split <;> rfl
 | cons p r ih=>
  obtain ⟨k,w⟩:=p
  rw [List.map_cons]
  by_cases hk:k=n
  ·rw [if_pos hk,zay,zay,ih]
   by_cases hx:k=x
   ·rw [decide_eq_true hx]
    show some v=_
    rw [if_pos (hx.symm.trans hk)];rfl
   ·rw [decide_eq_false hx];rfl
  ·rw [if_neg hk,zay,zay,ih]
   by_cases hx:k=x
   ·rw [decide_eq_true hx]
    show some w=_
    rw [if_neg (fun q=>hk (hx.trans q))];rfl
   ·rw [decide_eq_false hx];rfl
theorem zfS(kvs:List (Str×PV))(n:Str)(v:PV)(x:Str):dat (dput n v kvs) x=if x=n then some v else dat kvs x:=by
 unfold dput
 cases q:kvs.any fun kv=>decide (kv.1=n) with
 | true=>
  rw [if_pos rfl,zn1]
  by_cases hx:x=n
  ·rw [if_pos hx,if_pos hx,hx]
   have:∃ w,dat kvs n=some w:=by
    induction kvs with
    | nil=>cases q
    | cons p r ih=>
     obtain ⟨k,w⟩:=p
     rw [zay]
     rw [List.any_cons] at q
     cases q':decide (k=n) with
     | true=>exact ⟨w,rfl⟩
     | false=>rw [show decide ((k,w).1=n)=false from q',Bool.false_or] at q;exact ih q
   obtain ⟨w,hw⟩:=this
   rw [hw];rfl
  ·rw [if_neg hx,if_neg hx]
 | false=>
  rw [if_neg Bool.false_ne_true]
  by_cases hx:x=n
  ·rw [if_pos hx,hx,zle _ _ _ q,zay,decide_eq_true rfl];rfl
  ·rw [if_neg hx]
   cases h:dat kvs x with
   | some w=>exact zmr _ _ _ _ h
   | none=>
    have:(kvs.any fun kv=>decide (kv.1=x))=false:=by
     clear q
     induction kvs with
     | nil=>rfl
     | cons p r ih=>
      obtain ⟨k,w⟩:=p
      rw [zay] at h
      rw [List.any_cons]
      cases q':decide (k=x) with
      | true=>rw [q'] at h;cases h
      | false=>rw [q'] at h;exact ih h
    rw [zle _ _ _ this,zay,decide_eq_false (fun e=>hx e.symm)];rfl
structure DOk (kvs:List (Str×PV)):Prop where
 one:∀ kv∈kvs,dat kvs kv.1=some kv.2
 flat:∀ kv∈kvs,zeL kv.2=true
theorem DOk.put{kvs:List (Str×PV)}(h:DOk kvs)(n:Str){v:PV}(hv:zeL v=true):DOk (dput n v kvs):=by
 have key:∀ kv∈dput n v kvs,(kv.1=n∧kv.2=v)∨(kv.1≠n∧kv∈kvs):=fun kv hkv=>by
  unfold dput at hkv
  split at hkv
  ·obtain ⟨p,hp,rfl⟩:=List.mem_map.mp hkv
   by_cases q:p.1=n
   ·rw [if_pos q];exact .inl ⟨q,rfl⟩
   ·rw [if_neg q];exact .inr ⟨q,hp⟩
  ·rename_i hn
   rcases List.mem_append.mp hkv with h1 | h1
   ·refine .inr ⟨fun q=>hn (List.any_eq_true.mpr ⟨kv,h1,decide_eq_true q⟩),h1⟩
   ·rw [List.mem_singleton.mp h1];exact .inl ⟨rfl,rfl⟩
 refine ⟨fun kv hkv=>?_,fun kv hkv=>?_⟩
 ·rw [zfS]
  rcases key kv hkv with ⟨h1,h2⟩ | ⟨h1,h2⟩
  ·rw [if_pos h1,h2]
  ·rw [if_neg h1];exact h.one kv h2
 ·rcases key kv hkv with ⟨h1,h2⟩ | ⟨h1,h2⟩
  ·rw [h2];exact hv
  ·exact h.flat kv h2
theorem zoX{σ:zaa}{j:Nat}{kvs:List (Str×PV)}{n:Str}{v:PV}(h:σ[j]?=some (.dict kvs))(hv:dat kvs n=some v):index (.ref j) (.str n) σ=.ok v σ:=
 (zab (zlc h)).trans (by rw [hv];rfl)
theorem zlA(r mu:Bool)(v:PV):biM ⟨r,true⟩ mu "list" [v]=znH (cxM ⟨r,true⟩ mu) p0 v:=by kernel_rfl
noncomputable def Say.tv(f:Str→Bool):Say→Bool
 | .yes=>true | .no=>false | .name s=>f s
 | .not a=>!a.tv f
 | .and a b=>a.tv f&&b.tv f
 | .or a b=>a.tv f || b.tv f
noncomputable def fOf(kvs:List (Str×PV))(x:Str):Bool:=match dat kvs x with
 | some (.bool b)=>b
 | _=>false
noncomputable def Bl(kvs:List (Str×PV))(x:Str):Prop:=∃ b,dat kvs x=some (.bool b)
theorem Bl.f{kvs:List (Str×PV)}{x:Str}(h:Bl kvs x):dat kvs x=some (.bool (fOf kvs x)):=by
 obtain ⟨b,h⟩:=h
 unfold fOf;rw [h]
theorem zhL{x y:M PV}{b c:Bool}{σ:zaa}(h:x σ=.ok (.bool b) σ)(h':y σ=.ok (.bool c) σ):andM x y σ=.ok (.bool (b&&c)) σ:=by
 refine (zab h).trans ((zab (a:=b) rfl).trans ?_)
 cases b with
 | true=>exact h'
 | false=>rfl
theorem zh0{x y:M PV}{b c:Bool}{σ:zaa}(h:x σ=.ok (.bool b) σ)(h':y σ=.ok (.bool c) σ):orM x y σ=.ok (.bool (b || c)) σ:=by
 refine (zab h).trans ((zab (a:=b) rfl).trans ?_)
 cases b with
 | true=>rfl
 | false=>exact h'
structure TvF (a:Addr):Prop where
 yes:∀ C md v,zal GG C md a [.tup [.str "yes"],v]=M.ret (.bool true)
 no:∀ C md v,zal GG C md a [.tup [.str "no"],v]=M.ret (.bool false)
 name:∀ C md n v,zal GG C md a [.tup [.str "name",.str n],v]=index v (.str n)
 not:∀ C md x v,zal GG C md a [.tup [.str "not",x],v]=notM (C md a [x,v])
 and:∀ C md x y v,zal GG C md a [.tup [.str "and",x,y],v]=andM (C md a [x,v]) (C md a [y,v])
 or:∀ C md x y v,zal GG C md a [.tup [.str "or",x,y],v]=orM (C md a [x,v]) (C md a [y,v])
theorem TvF.at_{a:Addr}(F:TvF a){σ:zaa}{j:Nat}{kvs:List (Str×PV)}(h:σ[j]?=some (.dict kvs))(md:Md):∀(s:Say)(d:Nat),s.dep<d→(∀ x∈s.nms,Bl kvs x)→zad GG d md a [s.pv,.ref j] σ=.ok (.bool (s.tv (fOf kvs))) σ
 | .yes,d+1,_,_=>congrFun (zag (F.yes _ md _)) σ
 | .no,d+1,_,_=>congrFun (zag (F.no _ md _)) σ
 | .name n,d+1,_,hb=>Mine.at_ (zag (F.name _ md n _)) (zoX h (hb n (.head _)).f)
 | .not x,d+1,hd,hb=>Mine.at_ (zag (F.not _ md _ _)) (zbO (F.at_ h md x d (Nat.lt_of_succ_lt_succ hd) hb))
 | .and x y,d+1,hd,hb=>by
  have hd:max x.dep y.dep+1<d+1:=hd
  exact Mine.at_ (zag (F.and _ md _ _ _)) (zhL (F.at_ h md x d (by lia) fun z hz=>hb z (List.mem_append_left _ hz)) (F.at_ h md y d (by lia) fun z hz=>hb z (List.mem_append_right _ hz)))
 | .or x y,d+1,hd,hb=>by
  have hd:max x.dep y.dep+1<d+1:=hd
  exact Mine.at_ (zag (F.or _ md _ _ _)) (zh0 (F.at_ h md x d (by lia) fun z hz=>hb z (List.mem_append_left _ hz)) (F.at_ h md y d (by lia) fun z hz=>hb z (List.mem_append_right _ hz)))
theorem znT{σ τ:zaa}{j:Nat}{c:Cel}(h:σ[j]?=some c):(σ++τ)[j]?=some c:=by
 rw [List.getElem?_append_left (List.getElem?_eq_some_iff.mp h).1];exact h
theorem Bl.put{kvs:List (Str×PV)}{x:Str}(n:Str)(b:Bool)(h:x=n∨Bl kvs x):Bl (dput n (.bool b) kvs) x:=by
 by_cases q:x=n
 ·exact ⟨b,by rw [zfS,if_pos q]⟩
 ·obtain ⟨c,hc⟩:=h.resolve_left q
  exact ⟨c,by rw [zfS,if_neg q];exact hc⟩
theorem znz(b c:Bool):zac .NotEq (.bool b) (.bool c)=M.ret (.bool !(b==c)):=by kernel_rfl
theorem zky(b:Bool):notM (isM GG (.bi .bool) (.bool b))=M.ret (.bool false):=by kernel_rfl
theorem zkw(b:Bool):zac .NotEq (.bool b) (.bool b)=M.ret (.bool false):=(znz b b).trans (b_eq (by rw [beq_self_eq_true];rfl))
theorem opt2{f:PV→Option PV}{w x:PV}(hw:f w=some w)(hx:f x=some x):zan f [w,x]=some [w,x]:=zbn hw (zbn hx rfl)
theorem opt3{f:PV→Option PV}{w x y:PV}(hw:f w=some w)(hx:f x=some x)(hy:f y=some y):zan f [w,x,y]=some [w,x,y]:=zbn hw (zbn hx (zbn hy rfl))
theorem zbj(σ:zaa):∀(s:Say)(n:Nat),s.dep<n→whole σ n s.pv=some s.pv
 | .yes,n+2,_=>rfl
 | .no,n+2,_=>rfl
 | .name _,n+2,_=>rfl
 | .not a,n+2,h=>congrArg (Option.map PV.tup) (opt2 (f:=whole σ (n+1)) (w:=.str "not") rfl (zbj σ a (n+1) (Nat.lt_of_succ_lt_succ h)))
 | .and a b,n+2,h=>by
  have h:max a.dep b.dep+1<n+2:=h
  exact congrArg (Option.map PV.tup) (opt3 (f:=whole σ (n+1)) (w:=.str "and") rfl (zbj σ a (n+1) (by lia)) (zbj σ b (n+1) (by lia)))
 | .or a b,n+2,h=>by
  have h:max a.dep b.dep+1<n+2:=h
  exact congrArg (Option.map PV.tup) (opt3 (f:=whole σ (n+1)) (w:=.str "or") rfl (zbj σ a (n+1) (by lia)) (zbj σ b (n+1) (by lia)))
theorem zbd:∀ s:Say,eqv s.pv s.pv=true
 | .yes=>by decide
 | .no=>by decide
 | .name n=>by show ((("name":Str)=="name")&&((n==n)&&true))=true;rw [beq_self_eq_true n];decide
 | .not a=>by show ((("not":Str)=="not")&&(eqv a.pv a.pv&&true))=true;rw [zbd a];decide
 | .and a b=>by show ((("and":Str)=="and")&&(eqv a.pv a.pv&&(eqv b.pv b.pv&&true)))=true;rw [zbd a,zbd b];decide
 | .or a b=>by show ((("or":Str)=="or")&&(eqv a.pv a.pv&&(eqv b.pv b.pv&&true)))=true;rw [zbd a,zbd b];decide
noncomputable def Say.beq(a b:Say):Bool:=eqv a.pv b.pv
theorem ff{b:Bool}{P:Prop}(h:b=true)(e:b=false):P:=by rw [e] at h;cases h
theorem zcm:∀ a b:Say,a.beq b=true→a=b
 | .yes,.yes,_=>rfl
 | .no,.no,_=>rfl
 | .name n,.name m,h=>by
  have h:((("name":Str)=="name")&&((n==m)&&true))=true:=h
  rw [eq_of_beq (Bool.and_eq_true_iff.mp (Bool.and_eq_true_iff.mp h).2).1]
 | .not a,.not b,h=>by
  have h:((("not":Str)=="not")&&(a.beq b&&true))=true:=h
  rw [zcm a b (Bool.and_eq_true_iff.mp (Bool.and_eq_true_iff.mp h).2).1]
 | .and a c,.and b d,h=>by
  have h:((("and":Str)=="and")&&(a.beq b&&(c.beq d&&true)))=true:=h
  have h:=Bool.and_eq_true_iff.mp (Bool.and_eq_true_iff.mp h).2
  rw [zcm a b h.1,zcm c d (Bool.and_eq_true_iff.mp h.2).1]
 | .or a c,.or b d,h=>by
  have h:((("or":Str)=="or")&&(a.beq b&&(c.beq d&&true)))=true:=h
  have h:=Bool.and_eq_true_iff.mp (Bool.and_eq_true_iff.mp h).2
  rw [zcm a b h.1,zcm c d (Bool.and_eq_true_iff.mp h.2).1]
 | .yes,.no,h=>ff h (by kernel_rfl)
 | .yes,.name _,h=>ff h (by kernel_rfl)
 | .yes,.not _,h=>ff h (by kernel_rfl)
 | .yes,.and _ _,h=>ff h (by kernel_rfl)
 | .yes,.or _ _,h=>ff h (by kernel_rfl)
 | .no,.yes,h=>ff h (by kernel_rfl)
 | .no,.name _,h=>ff h (by kernel_rfl)
 | .no,.not _,h=>ff h (by kernel_rfl)
 | .no,.and _ _,h=>ff h (by kernel_rfl)
 | .no,.or _ _,h=>ff h (by kernel_rfl)
 | .name _,.yes,h=>ff h (by kernel_rfl)
 | .name _,.no,h=>ff h (by kernel_rfl)
 | .name _,.not _,h=>ff h (by kernel_rfl)
 | .name _,.and _ _,h=>ff h (by kernel_rfl)
 | .name _,.or _ _,h=>ff h (by kernel_rfl)
 | .not _,.yes,h=>ff h (by kernel_rfl)
 | .not _,.no,h=>ff h (by kernel_rfl)
 | .not _,.name _,h=>ff h (by kernel_rfl)
 | .not _,.and _ _,h=>ff h (by kernel_rfl)
 | .not _,.or _ _,h=>ff h (by kernel_rfl)
 | .and _ _,.yes,h=>ff h (by kernel_rfl)
 | .and _ _,.no,h=>ff h (by kernel_rfl)
 | .and _ _,.name _,h=>ff h (by kernel_rfl)
 | .and _ _,.not _,h=>ff h (by kernel_rfl)
 | .and _ _,.or _ _,h=>ff h (by kernel_rfl)
 | .or _ _,.yes,h=>ff h (by kernel_rfl)
 | .or _ _,.no,h=>ff h (by kernel_rfl)
 | .or _ _,.name _,h=>ff h (by kernel_rfl)
 | .or _ _,.not _,h=>ff h (by kernel_rfl)
 | .or _ _,.and _ _,h=>ff h (by kernel_rfl)
theorem zfw(s:Say)(hd:s.dep<400):wholeM s.pv=M.ret s.pv:=funext fun σ=>zcI (zbj σ s zaj (by unfold zaj;exact Nat.le_trans ‹_› (by decide)))
theorem zmW(a b:Say)(ha:a.dep<400)(hb:b.dep<400):zac .Eq a.pv b.pv=M.ret (.bool (a.beq b)):=by
 refine bd (funext fun σ=>?_)
 have e:eqX a.pv b.pv σ=eqM a.pv b.pv σ:=by cases a <;> rfl
 exact e.trans (congrFun (tr (bd (zfw a ha)) (bd (zfw b hb))) σ)
structure Cl where
 n:Nat
 b:Bool
 s:Say
noncomputable def Cl.pv(c:Cl):PV:=.tup [.int (c.n:Int),.bool c.b,c.s.pv]
noncomputable def Cl.beq(a c:Cl):Bool:=((a.n:Int)==(c.n:Int))&&((a.b==c.b)&&(a.s.beq c.s&&true))
theorem Cl.beq_pv(a c:Cl):eqv a.pv c.pv=a.beq c:=by kernel_rfl
theorem Cl.eq_of{a c:Cl}(h:a.beq c=true):a=c:=by
 obtain ⟨n,b,s⟩:=a
 obtain ⟨m,d,t⟩:=c
 have h:=Bool.and_eq_true_iff.mp h
 have h2:=Bool.and_eq_true_iff.mp h.2
 have e1:n=m:=by have:=eq_of_beq h.1;exact Int.ofNat.inj this
 have e2:b=d:=eq_of_beq h2.1
 have e3:s=t:=zcm s t (Bool.and_eq_true_iff.mp h2.2).1
 rw [e1,e2,e3]
theorem Cl.beq_self(a:Cl):a.beq a=true:=by
 unfold Cl.beq
 rw [beq_self_eq_true,beq_self_eq_true,show a.s.beq a.s=true from zbd a.s];rfl
theorem Cl.whole(σ:zaa)(c:Cl)(n:Nat)(h:c.s.dep<n):Mine.whole σ (n+1) c.pv=some c.pv:=congrArg (Option.map PV.tup) (opt3 (f:=Mine.whole σ n) (by cases n with | zero=>exact absurd h (Nat.not_lt_zero _) | succ n=>rfl) (by cases n with | zero=>exact absurd h (Nat.not_lt_zero _) | succ n=>rfl) (zbj σ c.s n h))
theorem Cl.wholeM(c:Cl)(h:c.s.dep<400):Mine.wholeM c.pv=M.ret c.pv:=funext fun σ=>zcI (Cl.whole σ c 499 (by lia))
theorem Cl.eq(a c:Cl)(ha:a.s.dep<400)(hc:c.s.dep<400):zac .Eq a.pv c.pv=M.ret (.bool (a.beq c)):=by
 refine bd (a:=a.beq c) (funext fun σ=>?_)
 have e:eqX a.pv c.pv σ=eqM a.pv c.pv σ:=rfl
 exact e.trans ((zab (congrFun (Cl.wholeM a ha) σ)).trans ((zab (congrFun (Cl.wholeM c hc) σ)).trans (congrArg (fun b=>Rs.ok b σ) (Cl.beq_pv a c))))
theorem zf7(C:zai)(md:Md)(n:Int):zal GG C md AA.is_whole [.int n]=M.ret (.bool true):=by kernel_rfl
theorem same_claim{a c:Cl}{md:Md}{d:Nat}(ha:a.s.dep<400)(hc:c.s.dep<400)(hd:1<d):zad GG d md AA.same_claim [a.pv,c.pv]=M.ret (.bool (a.beq c)):=by
 obtain ⟨e,rfl⟩:∃ e,d=e+2:=⟨d-2,by lia⟩
 exact zag (tr (zbm _ _ _ _) (tr (if_f (tr (or_f rfl) (tr (or_f rfl) (tr (or_f (zbz (b:=true) (tr (bd (sq1 (ix_0 _ _))) (zag (zf7 _ _ _))))) (zbz (b:=true) (tr (bd (ix_1 _ _ _)) rfl)))))) (Cl.eq a c ha hc)))
noncomputable def ers(c:Cl):List Cl→List Cl
 | []=>[]
 | x::r=>bif c.beq x then r else x::ers c r
noncomputable def cps(cs:List Cl):PV:=.lst (cs.map Cl.pv)
theorem zgP{xs:List PV}{n:Nat}(hl:xs.length≤1000):cutM false (.lst xs) Option.none (some (n:Int))=M.ret (.lst (xs.take n)):=tr (c_t (decide_eq_true (show xs.length≤2 ^ 20 by lia))) (by rw [zhf];rfl)
theorem zlg{xs:List PV}{n:Nat}(hl:xs.length≤1000):cutM false (.lst xs) (some (n:Int)) Option.none=M.ret (.lst (xs.drop n)):=tr (c_t (decide_eq_true (show xs.length≤2 ^ 20 by lia))) (by rw [zjL];rfl)
theorem zds{xs ys:List PV}(h:xs.length+ys.length≤1000):opM false .Add (.lst xs) (.lst ys)=M.ret (.lst (xs++ys)):=tr (c_t (decide_eq_true (show xs.length+ys.length≤2 ^ 20 by lia))) rfl
theorem zlf{pre suf:List Cl}{x:Cl}(hl:(pre++x::suf).length≤400):(((zbb (M.ret (.int (pre.length:Int)))).bind fun v8=>(cutM false (cps (pre++x::suf)) Option.none v8)).bind fun v9=>(((zbb (opM false .Add (.int (pre.length:Int)) (.int 1))).bind fun v10=>(cutM false (cps (pre++x::suf)) v10 Option.none)).bind fun v11=>(opM false .Add v9 v11)))=M.ret (cps (pre++suf)):=by
 have hm:((pre++x::suf).map Cl.pv).length≤1000:=by rw [List.length_map];lia
 have e1:((pre++x::suf).map Cl.pv).take pre.length=pre.map Cl.pv:=by
  rw [List.map_append,List.take_left' (by rw [List.length_map])]
 have e2:((pre++x::suf).map Cl.pv).drop (pre.length+1)=suf.map Cl.pv:=by
  rw [List.map_append,List.map_cons,show pre.map Cl.pv++x.pv::suf.map Cl.pv=(pre.map Cl.pv++[x.pv])++suf.map Cl.pv by rw [List.append_assoc];rfl,List.drop_left' (by rw [List.length_append,List.length_map];rfl)]
 have hs:pre.length+suf.length≤400:=by rw [List.length_append] at hl;have hl:pre.length+(suf.length+1)≤400:=hl;lia
 refine tr (bd (tr (bd (show zbb (M.ret (.int (pre.length:Int)))=M.ret (some (pre.length:Int)) from rfl)) (tr (zgP hm) (by rw [e1])))) (tr (bd (tr (bd (show zbb (opM false .Add (.int (pre.length:Int)) (.int 1))=M.ret (some ((pre.length+1:Nat):Int)) from rfl)) (tr (zlg hm) (by rw [e2])))) (tr (zds (by rw [List.length_map,List.length_map];lia)) ?_))
 unfold cps
 rw [List.map_append]
theorem zom{d:Nat}{c:Cl}{md:Md}(hd:1<d)(hc:c.s.dep<400):∀(suf pre:List Cl)(v3 v4:Option PV),(∀ x∈suf,x.s.dep<400)→(pre++suf).length≤400→c∈suf→
  zaW AA GG (zad GG d) md (M.ret ()) (zb2 pre.length (suf.map Cl.pv)) (cps (pre++suf)) c.pv v3 v4=M.ret (cps (pre++ers c suf))
 | [],pre,v3,v4,_,_,h=>nomatch h
 | x::suf,pre,v3,v4,hx,hl,h=>by
  refine tr (show _=ifM (zad GG d md AA.same_claim [c.pv,x.pv]) _ (zaW AA GG (zad GG d) md (M.ret ()) (zb2 (pre.length+1) (suf.map Cl.pv)) (cps (pre++x::suf)) c.pv (some (.int (pre.length:Int))) (some x.pv)) from rfl) (tr (if_b (same_claim hc (hx x (.head _)) hd)) ?_)
  show _=M.ret (cps (pre++bif c.beq x then suf else x::ers c suf))
  cases q:c.beq x with
  | true=>exact zlf hl
  | false=>
   have hm:c∈suf:=(List.mem_cons.mp h).resolve_left fun e=>by rw [e,Cl.beq_self] at q;cases q
   have ih:=zom (md:=md) hd hc suf (pre++[x]) (some (.int (pre.length:Int))) (some x.pv) (fun y hy=>hx y (.tail _ hy)) (by rw [List.append_assoc];exact hl) hm
   rw [List.length_append,List.append_assoc,List.append_assoc] at ih
   exact ih
theorem without{d:Nat}{cs:List Cl}{c:Cl}{md:Md}(hm:md.lp=true)(hd:2<d)(hx:∀ x∈cs,x.s.dep<400)(hl:cs.length≤400)(h:c∈cs):zad GG d md AA.without [cps cs,c.pv]=M.ret (cps (ers c cs)):=by
 obtain ⟨e,rfl⟩:∃ e,d=e+1:=⟨d-1,by lia⟩
 refine zag (tr (zf6 _ _ _ _) ?_)
 unfold zd2 zcH
 exact tr (c_t (by rw [hm];rfl)) (tr (bd (show zc2 [cps cs]=M.ret ⟨zb2 0 (cs.map Cl.pv),[]⟩ from rfl)) (zom (by lia) (hx c h) cs [] Option.none Option.none hx hl h))
noncomputable def kdS(b:Bool):Say→Str
 | .name _=>"name"
 | .yes=>bif b then "idle" else "shut"
 | .no=>bif b then "shut" else "idle"
 | .not _=>"apart"
 | .and _ _=>bif b then "apart" else "fork"
 | .or _ _=>bif b then "fork" else "apart"
noncomputable def Cl.kd(c:Cl):Str:=kdS c.b c.s
noncomputable def zn9(n:Nat)(b:Bool):Say→List Cl
 | .not a=>[⟨n,!b,a⟩]
 | .and a c=>[⟨n,b,a⟩,⟨n,b,c⟩]
 | .or a c=>[⟨n,b,a⟩,⟨n,b,c⟩]
 | _=>[]
noncomputable def Cl.come(c:Cl):List Cl:=zn9 c.n c.b c.s
theorem znx(C:zai)(r:Bool)(n:Nat)(b:Bool)(s:Say):zal GG C ⟨r,true⟩ AA.parts [(Cl.mk n b s).pv]=M.ret (.tup [.str (kdS b s),cps (zn9 n b s)]):=by cases s <;> cases b <;> kernel_rfl
theorem zn6(C:zai)(r:Bool)(n:Nat)(b:Bool)(s:Say):zal GG C ⟨r,true⟩ AA.l_comes [(Cl.mk n b s).pv]=M.ret (.tup [.str (kdS b s),cps (zn9 n b s)]):=by cases s <;> cases b <;> kernel_rfl
theorem parts{c:Cl}{r:Bool}{d:Nat}(hd:0<d):zad GG d ⟨r,true⟩ AA.parts [c.pv]=M.ret (.tup [.str c.kd,cps c.come]):=by
 obtain ⟨e,rfl⟩:∃ e,d=e+1:=⟨d-1,by lia⟩
 exact zag (znx _ r c.n c.b c.s)
theorem zn7{c:Cl}{r:Bool}{d:Nat}(hd:0<d):zad GG d ⟨r,true⟩ AA.l_comes [c.pv]=M.ret (.tup [.str c.kd,cps c.come]):=by
 obtain ⟨e,rfl⟩:∃ e,d=e+1:=⟨d-1,by lia⟩
 exact zag (zn6 _ r c.n c.b c.s)
theorem zbJ(c:Cl):c.come.length≤2:=by
 obtain ⟨n,b,s⟩:=c
 cases s <;> first | exact Nat.zero_le _ | exact Nat.le_refl 2 | exact Nat.le_succ 1
theorem zii{c x:Cl}(h:x∈c.come):x.s.dep<c.s.dep:=by
 obtain ⟨n,b,s⟩:=c
 cases s with
 | not a=>exact zah (P:=fun x:Cl=>x.s.dep<(Say.not a).dep) (l:=[⟨n,!b,a⟩]) ⟨Nat.lt_succ_self _,trivial⟩ x h
 | and a c=>exact zah (P:=fun x:Cl=>x.s.dep<(Say.and a c).dep) (l:=[⟨n,b,a⟩,⟨n,b,c⟩]) ⟨by show a.dep<max _ _+1;lia,by show c.dep<max _ _+1;lia,trivial⟩ x h
 | or a c=>exact zah (P:=fun x:Cl=>x.s.dep<(Say.or a c).dep) (l:=[⟨n,b,a⟩,⟨n,b,c⟩]) ⟨by show a.dep<max _ _+1;lia,by show c.dep<max _ _+1;lia,trivial⟩ x h
 | _=>exact nomatch h
noncomputable def isN:Say→Bool
 | .name _=>true
 | _=>false
theorem zmF(s:Say):((index s.pv (.int 0)).bind fun w=>zac .Eq w (.str "name"))=M.ret (.bool (isN s)):=by cases s <;> kernel_rfl
noncomputable def clsh(a c:Cl):Bool:=isN a.s&&(a.b&&(!c.b&&a.s.beq c.s))
theorem clashes{a c:Cl}{md:Md}{d:Nat}(hd:0<d)(ha:a.s.dep<400)(hc:c.s.dep<400):zad GG d md AA.clashes [a.pv,c.pv]=M.ret (.bool (clsh a c)):=by
 obtain ⟨e,rfl⟩:∃ e,d=e+1:=⟨d-1,by lia⟩
 refine zag (tr (zlq _ _ _ _) (zeF (tr (zao _ _ _) (tr (bd (ix_2 _ _ _ _)) (zmF a.s))) (zeF (ix_1 _ _ _) (zeF (zbz (ix_1 _ _ _)) (tr (bd (ix_2 _ _ _ _)) (tr (bd (ix_2 _ _ _ _)) (zmW _ _ ha hc)))))))
noncomputable def EndT(cs:List Cl)(t:PV):Prop:=(∃ c∈cs,c.kd="shut"∧t=.tup [.str "shut",c.pv])∨∃ c∈cs,∃ o∈cs,clsh c o=true∧t=.tup [.str "clash",c.pv,o.pv]
theorem EndT.tup{cs:List Cl}{t:PV}(h:EndT cs t):∃ a b,t=.tup (a::b):=by
 rcases h with ⟨c,_,_,rfl⟩ | ⟨c,_,o,_,_,rfl⟩
 ·exact ⟨_,_,rfl⟩
 ·exact ⟨_,_,rfl⟩
noncomputable def Open(c:Cl):Prop:=c.kd="apart"∨c.kd="fork"
noncomputable def zpr(kvs:List (Str×PV)):Prop:=∀ x v,dat kvs x=some v→∃ b,v=.bool b
structure SetOk (kvs:List (Str×PV)) (l:List Cl):Prop where
 bools:zpr kvs
 dok:DOk kvs
 at_:∀ c∈l,∀ x,c.s=.name x→dat kvs x=some (.bool c.b)
noncomputable def tsz:List Cl→Nat
 | []=>0
 | c::r=>c.s.sz+tsz r
theorem zha:∀ a b:List Cl,tsz (a++b)=tsz a+tsz b
 | [],b=>(Nat.zero_add _).symm
 | c::a,b=>by show c.s.sz+tsz (a++b)=c.s.sz+tsz a+tsz b;rw [zha a b,Nat.add_assoc]
theorem zmV{c:Cl}:∀{cs:List Cl},c∈cs→tsz (ers c cs)+c.s.sz=tsz cs∧(ers c cs).length+1=cs.length
 | x::cs,h=>by
  show tsz (bif c.beq x then cs else x::ers c cs)+c.s.sz=x.s.sz+tsz cs∧(bif c.beq x then cs else x::ers c cs).length+1=cs.length+1
  cases q:c.beq x with
  | true=>rw [Cl.eq_of q];exact ⟨Nat.add_comm _ _,rfl⟩
  | false=>
   have hm:c∈cs:=(List.mem_cons.mp h).resolve_left fun e=>by rw [e,Cl.beq_self] at q;cases q
   have:=zmV hm
   refine ⟨?_,?_⟩
   ·show x.s.sz+tsz (ers c cs)+c.s.sz=_;lia
   ·show (ers c cs).length+1+1=_;lia
theorem zhD{c x:Cl}:∀{cs:List Cl},x∈ers c cs→x∈cs
 | y::cs,h=>by
  have h:x∈bif c.beq y then cs else y::ers c cs:=h
  cases q:c.beq y with
  | true=>rw [q] at h;exact .tail _ h
  | false=>rw [q] at h;exact (List.mem_cons.mp h).elim (fun e=>e▸.head _) fun h=>.tail _ (zhD h)
theorem zkB{c x:Cl}:∀{cs:List Cl},x∈cs→x=c∨x∈ers c cs
 | y::cs,h=>by
  show x=c∨x∈bif c.beq y then cs else y::ers c cs
  cases q:c.beq y with
  | true=>exact (List.mem_cons.mp h).imp (fun e=>e.trans (Cl.eq_of q).symm) id
  | false=>exact (List.mem_cons.mp h).elim (fun e=>.inr (e▸.head _)) fun h=>(zkB h).imp id fun h=>.tail _ h
theorem za3:∀ w∈[("name":Str),"idle","shut"],¬ (w="apart"∨w="fork"):=by decide
theorem zn8{c:Cl}(h:Open c):tsz c.come+1=c.s.sz:=by
 obtain ⟨n,b,s⟩:=c
 cases s with
 | not a=>rfl
 | and a d=>show a.sz+(d.sz+0)+1=a.sz+d.sz+1;rfl
 | or a d=>show a.sz+(d.sz+0)+1=a.sz+d.sz+1;rfl
 | name x=>exact absurd h (za3 "name" (by decide))
 | yes=>cases b with
  | true=>exact absurd h (za3 "idle" (by decide))
  | false=>exact absurd h (za3 "shut" (by decide))
 | no=>cases b with
  | true=>exact absurd h (za3 "shut" (by decide))
  | false=>exact absurd h (za3 "idle" (by decide))
noncomputable def Holds(f:Str→Bool)(cs:List Cl):Prop:=∀ c∈cs,c.s.tv f=c.b
theorem zhJ{f:Str→Bool}{c:Cl}(hk:c.kd="apart")(h:Holds f c.come):c.s.tv f=c.b:=by
 obtain ⟨n,b,s⟩:=c
 cases s with
 | not a=>have:=h ⟨n,!b,a⟩ (.head _);show (!(a.tv f))=b;rw [show a.tv f=!b from this,Bool.not_not]
 | and a d=>
  have h1:=h ⟨n,b,a⟩ (.head _);have h2:=h ⟨n,b,d⟩ (.tail _ (.head _))
  show (a.tv f&&d.tv f)=b
  rw [show a.tv f=b from h1,show d.tv f=b from h2,Bool.and_self]
 | or a d=>
  have h1:=h ⟨n,b,a⟩ (.head _);have h2:=h ⟨n,b,d⟩ (.tail _ (.head _))
  show (a.tv f || d.tv f)=b
  rw [show a.tv f=b from h1,show d.tv f=b from h2,Bool.or_self]
 | name x=>exact absurd (.inl hk) (za3 "name" (by decide))
 | yes=>cases b with
  | true=>exact absurd (.inl hk) (za3 "idle" (by decide))
  | false=>exact absurd (.inl hk) (za3 "shut" (by decide))
 | no=>cases b with
  | true=>exact absurd (.inl hk) (za3 "shut" (by decide))
  | false=>exact absurd (.inl hk) (za3 "idle" (by decide))
theorem zjf{f:Str→Bool}{c:Cl}(hk:c.kd="fork")(h:∃ x∈c.come,x.s.tv f=x.b):c.s.tv f=c.b:=by
 obtain ⟨n,b,s⟩:=c
 obtain ⟨x,hx,hv⟩:=h
 cases s with
 | and a d=>
  cases b with
  | true=>exact absurd hk (show ("apart":Str)≠"fork" by decide)
  | false=>
   show (a.tv f&&d.tv f)=false
   rcases List.mem_cons.mp hx with rfl | hx
   ·rw [show a.tv f=false from hv];rfl
   ·rw [List.mem_singleton.mp hx] at hv;rw [show d.tv f=false from hv,Bool.and_false]
 | not a=>exact absurd hk (show ("apart":Str)≠"fork" by decide)
 | or a d=>
  cases b with
  | false=>exact absurd hk (show ("apart":Str)≠"fork" by decide)
  | true=>
   show (a.tv f || d.tv f)=true
   rcases List.mem_cons.mp hx with rfl | hx
   ·rw [show a.tv f=true from hv];rfl
   ·rw [List.mem_singleton.mp hx] at hv;rw [show d.tv f=true from hv,Bool.or_true]
 | _=>exact nomatch hx
inductive Std:List Cl→PV→Prop
 | shut {cs:List Cl} {c:Cl}:c∈cs→c.kd="shut"→Std cs (.tup [.str "shut",c.pv])
 | clash {cs:List Cl} {c o:Cl}:c∈cs→o∈cs→clsh c o=true→Std cs (.tup [.str "clash",c.pv,o.pv])
 | apart {cs:List Cl} {c:Cl} {t:PV}:c∈cs→c.kd="apart"→Std (ers c cs++c.come) t→Std cs (.tup [.str "apart",c.pv,t])
 | fork {cs:List Cl} {c:Cl} {t u:PV}:c∈cs→c.kd="fork"→Std (ers c cs++c.come.take 1) t→Std (ers c cs++c.come.drop 1) u→Std cs (.tup [.str "fork",c.pv,t,u])
theorem Std.tup{cs:List Cl}{t:PV}(h:Std cs t):∃ a b,t=.tup (a::b):=by
 cases h with
 | shut=>exact ⟨_,_,rfl⟩
 | clash=>exact ⟨_,_,rfl⟩
 | apart=>exact ⟨_,_,rfl⟩
 | fork=>exact ⟨_,_,rfl⟩
structure Sat (σ:zaa) (j:Nat) (cs:List Cl) (kvs:List (Str×PV)):Prop where
 cell:σ[j]?=some (.dict kvs)
 bools:zpr kvs
 dok:DOk kvs
 holds:Holds (fOf kvs) cs
theorem zjy{c:Cl}:∀{cs:List Cl},c∈cs→c.s.sz≤tsz cs
 | x::cs,h=>by
  show _≤x.s.sz+tsz cs
  rcases List.mem_cons.mp h with rfl | h
  ·exact Nat.le_add_right _ _
  ·exact Nat.le_trans (zjy h) (Nat.le_add_left _ _)
theorem zbl(l:List Cl)(k:Nat):tsz (l.take k)≤tsz l∧tsz (l.drop k)≤tsz l:=by
 have:=zha (l.take k) (l.drop k)
 rw [List.take_append_drop] at this
 lia
theorem zbM(a b:List Cl)(h:a.length+b.length≤1000):opM false .Add (cps a) (cps b)=M.ret (cps (a++b)):=tr (zds (by rw [List.length_map,List.length_map];exact h)) (by unfold cps;rw [List.map_append])
theorem zl4{t:PV}(h:∃ a b,t=.tup (a::b)):zac .Is t PV.none=M.ret (.bool false)∧zac .IsNot t PV.none=M.ret (.bool true):=by
 obtain ⟨a,b,rfl⟩:=h
 exact ⟨rfl,rfl⟩
theorem zjg{P:Cl→Prop}{c:Cl}(h:c.kd="fork")(ha:∀ n a d,P ⟨n,false,.and a d⟩)(ho:∀ n a d,P ⟨n,true,.or a d⟩):P c:=by
 obtain ⟨n,b,s⟩:=c
 cases s with
 | not a=>exact absurd h (show ("apart":Str)≠"fork" by decide)
 | and a d=>cases b with
  | false=>exact ha n a d
  | true=>exact absurd h (show ("apart":Str)≠"fork" by decide)
 | or a d=>cases b with
  | true=>exact ho n a d
  | false=>exact absurd h (show ("apart":Str)≠"fork" by decide)
 | name x=>exact absurd (.inr h) (za3 "name" (by decide))
 | yes=>cases b with
  | true=>exact absurd (.inr h) (za3 "idle" (by decide))
  | false=>exact absurd (.inr h) (za3 "shut" (by decide))
 | no=>cases b with
  | true=>exact absurd (.inr h) (za3 "shut" (by decide))
  | false=>exact absurd (.inr h) (za3 "idle" (by decide))
theorem zk3{c:Cl}(h:c.kd="fork"):c.come.take 1≠[]∧c.come.drop 1≠[]:=zjg (P:=fun c=>c.come.take 1≠[]∧c.come.drop 1≠[]) h (fun _ _ _=>⟨fun h=>(nomatch h),fun h=>(nomatch h)⟩) (fun _ _ _=>⟨fun h=>(nomatch h),fun h=>(nomatch h)⟩)
structure Nx (cs:List Cl) (c:Cl) (l:List Cl):Prop where
 all:(ers c cs++l).length+tsz (ers c cs++l)≤300
 down:∀ {e},tsz cs+10<e+1→tsz (ers c cs++l)+10<e
 add:(ers c cs).length+l.length≤1000
 lt:tsz (ers c cs++l)+1≤tsz cs
 dep:∀ x∈ers c cs++l,x.s.dep≤100
theorem zdK{cs:List Cl}{c:Cl}{l:List Cl}(hc:c∈cs)(hop:Open c)(h:cs.length+tsz cs≤300)(hl:l.length≤2)(hz:tsz l≤tsz c.come)(hm:∀ x∈l,x∈c.come)(hx:∀ x∈cs,x.s.dep≤100):Nx cs c l:=by
 obtain ⟨h1,h2⟩:=zmV hc
 have h3:=zn8 hop
 have h4:tsz (ers c cs++l)+1≤tsz cs:=by rw [zha];lia
 refine ⟨?_,fun he=>?_,?_,h4,fun x hx'=>(List.mem_append.mp hx').elim (fun z=>hx x (zhD z)) fun z=>Nat.le_trans (Nat.le_of_lt (zii (hm x z))) (hx c hc)⟩
 ·rw [List.length_append];lia
 ·clear h h1 h2 h3 hl hz;lia
 ·lia
theorem zca{c:Cl}:(c.come.take 1).length≤2∧(c.come.drop 1).length≤2:=⟨Nat.le_trans (List.length_take_le' 1 _) (zbJ c),by rw [List.length_drop];exact Nat.le_trans (Nat.sub_le _ _) (zbJ c)⟩
theorem zn5(c:Cl):cutM false (cps c.come) Option.none (some 1)=M.ret (cps (c.come.take 1)):=tr (zgP (n:=1) (by rw [List.length_map];exact Nat.le_trans (zbJ c) (by decide))) (by unfold cps;rw [List.map_take])
theorem zn4(c:Cl):cutM false (cps c.come) (some 1) Option.none=M.ret (cps (c.come.drop 1)):=tr (zlg (n:=1) (by rw [List.length_map];exact Nat.le_trans (zbJ c) (by decide))) (by unfold cps;rw [List.map_drop])
theorem dep4{cs:List Cl}(hx:∀ c∈cs,c.s.dep≤100):∀ c∈cs,c.s.dep<400:=fun x h=>Nat.lt_of_le_of_lt (hx x h) (by decide)
theorem ten{t d:Nat}(h:t+10<d):∃ e,d=e+1∧10≤e:=⟨d-1,by lia,by lia⟩
theorem few{n t:Nat}(h:n+t≤300):n≤400:=by lia
theorem zkn(σ:zaa):∀{cs:List Cl},(∀ c∈cs,c.s.dep<400)→zan (Mine.whole σ zaj) (cs.map Cl.pv)=some (cs.map Cl.pv)
 | [],_=>rfl
 | c::cs,h=>zbn (Cl.whole σ c 499 (by have:=h c (.head _);lia)) (zkn σ fun x hx=>h x (.tail _ hx))
theorem zc9{cs:List Cl}(h:∀ c∈cs,c.s.dep<400):zbY (cs.map Cl.pv)=M.ret (cs.map Cl.pv):=funext fun σ=>zir (zkn σ h)
theorem Cl.beq_comm(a c:Cl):a.beq c=c.beq a:=by
 cases h:a.beq c with
 | true=>rw [Cl.eq_of h,Cl.beq_self]
 | false=>
  cases h':c.beq a with
  | true=>rw [Cl.eq_of h',Cl.beq_self] at h;cases h
  | false=>rfl
theorem zk5{c:Cl}:∀(cs:List Cl)(a:Nat),c∈cs→∃ pre x suf,cs=pre++x::suf∧ers c cs=pre++suf∧zbp c.pv (cs.map Cl.pv) a=some (a+pre.length)
 | x::cs,a,h=>by
  have st:zbp c.pv ((x::cs).map Cl.pv) a=bif c.beq x then some a else zbp c.pv (cs.map Cl.pv) (a+1):=by
   show (if eqv x.pv c.pv=true then some a else zbp c.pv (cs.map Cl.pv) (a+1))=_
   rw [Cl.beq_pv,Cl.beq_comm]
   cases c.beq x <;> rfl
  rw [st]
  show ∃ pre y suf,x::cs=pre++y::suf∧(bif c.beq x then cs else x::ers c cs)=pre++suf∧_
  cases q:c.beq x with
  | true=>exact ⟨[],x,cs,rfl,rfl,rfl⟩
  | false=>
   have hm:c∈cs:=(List.mem_cons.mp h).resolve_left fun e=>by rw [e,Cl.beq_self] at q;cases q
   obtain ⟨pre,y,suf,h1,h2,h3⟩:=zk5 cs (a+1) hm
   exact ⟨x::pre,y,suf,congrArg (x::·) h1,congrArg (x::·) h2,h3.trans (congrArg some (by show a+1+pre.length=a+(pre.length+1);lia))⟩
theorem l_without{d:Nat}{cs:List Cl}{c:Cl}{md:Md}(hd:0<d)(hx:∀ x∈cs,x.s.dep<400)(hl:cs.length≤400)(h:c∈cs):zad GG d md AA.l_without [cps cs,c.pv]=M.ret (cps (ers c cs)):=by
 obtain ⟨e,rfl⟩:∃ e,d=e+1:=⟨d-1,by lia⟩
 obtain ⟨pre,y,suf,h1,h2,h3⟩:=zk5 cs 0 h
 have hi:zbP md false "index" (cps cs) (M.ret [c.pv])=M.ret (.int (pre.length:Int)):=by
  refine tr (show zbP md false "index" (cps cs) (M.ret [c.pv])=M.cond (decide ((cs.map Cl.pv).length<2 ^ 20)) ((zdk c.pv (cs.map Cl.pv)).bind fun n=>M.ret (.int n)) M.fail from rfl) (tr (c_t (decide_eq_true (by rw [List.length_map];lia))) (bd (show zdk c.pv (cs.map Cl.pv)=M.ret pre.length from tr (bd (Cl.wholeM c (hx c h))) (tr (bd (zc9 hx)) (by rw [h3,Nat.zero_add];rfl)))))
 refine zag (tr (zhp _ _ _ _) (tr (bd hi) ?_))
 rw [h2,h1]
 exact zlf (by rw [← h1];exact hl)
theorem zpR{cs:List Cl}{c:Cl}(hx:∀ x∈cs,x.s.dep<400)(h:c∈cs):zac .In c.pv (cps cs)=M.ret (.bool true):=by
 refine bd (a:=true) (show zhK c.pv (cs.map Cl.pv)=_ from tr (bd (Cl.wholeM c (hx c h))) (tr (bd (zc9 hx)) ?_))
 rw [List.any_eq_true.mpr ⟨c.pv,List.mem_map.mpr ⟨c,h,rfl⟩,by rw [Cl.beq_pv,Cl.beq_self]⟩]
theorem zkT{d:Nat}{cs:List Cl}{c:Cl}{md:Md}(hd:0<d)(hx:∀ x∈cs,x.s.dep<400)(h:c∈cs):zad GG d md AA.l_is_open [cps cs,c.pv]=M.ret (.bool true):=by
 obtain ⟨e,rfl⟩:∃ e,d=e+1:=⟨d-1,by lia⟩
 exact zag (tr (zbC _ _ _ _) (tr (if_f (tr (or_f rfl) (tr (or_f rfl) (tr (or_f (tr (bd (ix_0 _ _)) rfl)) (zbz (b:=true) (tr (bd (ix_1 _ _ _)) rfl)))))) (zpR hx h)))
theorem zk1{md:Md}{mu:Bool}{σ:zaa}{j:Nat}{kvs:List (Str×PV)}{k:Str}{x:PV}(h:σ[j]?=some (.dict kvs)):zbP md mu "get" (.ref j) (M.ret [.str k,x]) σ=.ok ((dat kvs k).getD x) σ:=by
 refine (zab (show tnOf (.ref j) σ=.ok .dict σ from zab (zlx h))).trans ((zab (show M.lift (mtOf .dict "get") σ=.ok .get σ from rfl)).trans ?_)
 exact zab (zlc h)
noncomputable def szD:List (Str×PV):=[("shut",(.int 2)),("clash",(.int 3)),("apart",(.int 3)),("fork",(.int 4))]
theorem zoA{md:Md}{σ:zaa}{j:Nat}{w:Str}{l:List PV}(h:σ[j]?=some (.dict szD)) (hw:dat szD w=some (.int (l.length+1:Nat))) (hl:l.length≤10):((zbP md false "get" (.ref j) (seqM [(index (.tup (.str w::l)) (.int 0)),(M.ret (.int 0))])).bind fun v6=>((biM md false "len" [.tup (.str w::l)]).bind fun v7=>(zac .NotEq v6 v7))) σ=.ok (.bool false) σ:=by
 refine tr (zab (at_ (congrArg (zbP md false "get" (.ref j)) (sq2 (ix_0 _ _) rfl)) (zk1 h))) ?_
 rw [hw]
 exact at_ (bd (zaz (show l.length+1≤1000000 by lia))) (congrFun (tr (zkx _ _) (b_eq (show (!(((l.length+1:Nat):Int)==((l.length+1:Nat):Int)))=false by rw [beq_self_eq_true];rfl))) σ)
theorem zcC{cs:List Cl}{c:Cl}{d:Nat}{r:Bool}{σ:zaa}{w:Str}{l:List PV}{rs:Rs PV}{K:PV→PV→M PV}(hd:0<d)(hc:c∈cs)(hx:∀ x∈cs,x.s.dep<400) (hw:dat szD w=some (.int (l.length+2:Nat))) (hl:l.length≤5)
  (h:K (.str c.kd) (cps c.come) (σ++[.dict szD])=rs):((cnew (.dict szD)).bind fun v3=>
 (ifM (orM (notM (isM GG (.bi .tuple) (.tup (.str w::c.pv::l)))) (orM ((biM ⟨r,true⟩ false "len" [.tup (.str w::c.pv::l)]).bind fun v4=>(zac .Eq v4 (.int 0))) (notM ((index (.tup (.str w::c.pv::l)) (.int 0)).bind fun v5=>(isM GG (.bi .str) v5)))))
 (M.ret (.bool false))
 (ifM (orM ((zbP ⟨r,true⟩ false "get" v3 (seqM [(index (.tup (.str w::c.pv::l)) (.int 0)),(M.ret (.int 0))])).bind fun v6=>((biM ⟨r,true⟩ false "len" [.tup (.str w::c.pv::l)]).bind fun v7=>(zac .NotEq v6 v7))) (notM ((seqM [(M.ret (cps cs)),(index (.tup (.str w::c.pv::l)) (.int 1))]).bind fun v8=>(zad GG d ⟨r,true⟩ AA.l_is_open v8))))
 (M.ret (.bool false))
 (M.cond ((⟨r,true⟩:Md).lp&&true) (((seqM [(index (.tup (.str w::c.pv::l)) (.int 1))]).bind fun v9=>(zad GG d ⟨r,true⟩ AA.l_comes v9)).bind fun v10=>(tup2 v10 K)) M.fail)))) σ=rs:=by
 refine tr (zab (a:=PV.ref σ.length) (σ':=σ++[Cel.dict szD]) rfl) (at_ (if_f (tr (or_f rfl) (tr (or_f (tr (bd (zaz (show l.length+2≤1000000 by lia))) (zen (show ((l.length+2:Nat):Int)≠0 by lia)))) (zbz (b:=true) (tr (bd (ix_0 _ _)) rfl))))) ?_)
 refine tr (zcX (c:=false) (zcP (zoA za1 hw (show l.length+1≤10 by lia)) (zbO (b:=true) (at_ (bd (sq2 rfl (ix_1 _ _ _))) (congrFun (zkT hd hx hc) _))))) (at_ (tr (c_f rfl) (c_t rfl)) ?_)
 exact tr (zab (at_ (bd (sq1 (ix_1 _ _ _))) (congrFun (zn7 hd) _))) h
theorem w_t{w:Nat}(k:Nat)(h:w=k):zac .Eq (.int (w:Int)) (.int (k:Int))=M.ret (.bool true):=zje (congrArg _ h)
theorem w_f{w:Nat}(k:Nat)(h:¬ w=k):zac .Eq (.int (w:Int)) (.int (k:Int))=M.ret (.bool false):=zen fun e=>h (Int.ofNat.inj e)
theorem zhm(m:Nat):(1:Int)+(m:Int)=((1+m:Nat):Int):=(Int.natCast_add 1 m).symm
theorem zeu:∀ s:Say,s.dep≤s.sz
 | .yes=>Nat.le_refl 1
 | .no=>Nat.le_refl 1
 | .name _=>Nat.le_refl 1
 | .not a=>Nat.succ_le_succ (zeu a)
 | .and a b=>by have:=zeu a;have:=zeu b;show max a.dep b.dep+1≤a.sz+b.sz+1;lia
 | .or a b=>by have:=zeu a;have:=zeu b;show max a.dep b.dep+1≤a.sz+b.sz+1;lia
noncomputable def szs(rs:List Say):Nat:=(rs.map Say.sz).sum
structure Row (rs:List Say):Prop where
 ok:∀ s∈rs,s.Ok
 dep:∀ s∈rs,s.dep≤100
 lo:1≤rs.length
 hi:rs.length≤6
 sz:szs rs≤60
noncomputable def rpv(rs:List Say):PV:=.lst (rs.map Say.pv)
theorem zd4:∀{rs:List Say}{s:Say},s∈rs→s.sz≤szs rs
 | r::rs,s,h=>by
  show s.sz≤r.sz+szs rs
  rcases List.mem_cons.mp h with rfl | h
  ·exact Nat.le_add_right _ _
  ·exact Nat.le_trans (zd4 h) (Nat.le_add_left _ _)
theorem zjC:∀ rs:List Say,(rs.map fun s=>(s.sz:Int)).sum=(szs rs:Int)
 | []=>rfl
 | r::rs=>by
  show (r.sz:Int)+(rs.map fun s=>(s.sz:Int)).sum=((r.sz+szs rs:Nat):Int)
  rw [zjC rs];rfl
theorem zge:∀(rs:List Say)(a:Nat),a+szs rs≤100000→zd5 (a:Int) (rs.map fun s=>(s.sz:Int))=true
 | [],a,h=>rfl
 | r::rs,a,h=>by
  have h:a+(r.sz+szs rs)≤100000:=h
  have e:(a:Int)+(r.sz:Int)=((a+r.sz:Nat):Int):=rfl
  show (zbN (r.sz:Int)&&zbN ((a:Int)+(r.sz:Int))&&zd5 ((a:Int)+(r.sz:Int)) (rs.map fun s=>(s.sz:Int)))=true
  rw [e,zge rs (a+r.sz) (by lia),za2 (i:=(r.sz:Int)) (by lia) (by lia),za2 (i:=((a+r.sz:Nat):Int)) (by lia) (by lia)];rfl
theorem zik{n:Nat}(h1:1≤n)(h2:n≤6):((zac .LtE (.int 1) (.int (n:Int))).bind fun v3=>(zar v3).bind fun v4=>M.cond v4 (zac .LtE (.int (n:Int)) (.int 6)) (M.ret v3))=M.ret (.bool true):=by
 refine tr (bd (tr (c_le _ _) (b_eq (decide_eq_true (show (1:Int)≤(n:Int) by lia))))) (tr (bd (tr_b _)) (tr (c_le _ _) (b_eq (decide_eq_true (show (n:Int)≤6 by lia)))))
theorem zj9{s:Say}{d:Nat}(ok:s.Ok)(hs:s.dep≤100){md:Md}(hl:md.lp=true)(hd:120<d):zad GG d md AA.is_saying [s.pv]=M.ret (.bool true):=by
 obtain ⟨e,rfl⟩:∃ e,d=e+1:=⟨d-1,by lia⟩
 exact zag (tr (zem _ _ _) (tr (zaM md hl s 100 e ok (by lia)) (b_eq (decide_eq_true hs))))
theorem need_row{rs:List Say}{d:Nat}{r:Bool}(hd:200<d)(R:Row rs):zad GG d ⟨r,true⟩ AA.need_row [rpv rs]=M.ret .none:=by
 obtain ⟨e,rfl⟩:∃ e,d=e+1:=⟨d-1,by lia⟩
 have r1:=R.lo;have r2:=R.hi;have rz:=R.sz
 have hlm:(rs.map Say.pv).length=rs.length:=List.length_map _
 have ha:((seqM [(zbu ⟨r,true⟩ false (zbr (rpv rs)) fun v5=>(zad GG e (⟨r,true⟩:Md).inn AA.is_saying [v5]).bind fun v6=>M.ret (some v6))]).bind fun v7=>(biM ⟨r,true⟩ false "all" v7))=M.ret (.bool true):=by
  have hc:=zc3 (f:=fun v5=>(zad GG e (⟨r,true⟩:Md).inn AA.is_saying [v5]).bind fun v6=>M.ret (some v6)) (g:=fun _=>.bool true) (ps:=rs) fun p hp=>bd (zj9 (R.ok p hp) (R.dep p hp) rfl (by lia))
  refine tr (bd (sq1 (zbD rfl (show zbr (rpv rs)=M.ret ⟨rs.map Say.pv,[]⟩ from rfl) (by lia) hc))) (tr (zhM (zb5 (fun _=>true) rs) rfl) (b_eq (by rw [List.all_map];exact List.all_eq_true.mpr fun _ _=>rfl)))
 have hs:((seqM [(zbu ⟨r,true⟩ false (zbr (rpv rs)) fun v8=>(zad GG e (⟨r,true⟩:Md).inn AA.size_in [v8]).bind fun v9=>M.ret (some v9))]).bind fun v10=>(biM ⟨r,true⟩ false "sum" v10))=M.ret (.int (szs rs:Int)):=by
  have hc:=zc3 (f:=fun v8=>(zad GG e (⟨r,true⟩:Md).inn AA.size_in [v8]).bind fun v9=>M.ret (some v9)) (g:=fun s=>.int (s.sz:Int)) (ps:=rs) fun p hp=>bd (size_in p _ e rfl (by have:=R.dep p hp;lia) (Nat.le_trans (zd4 hp) (by lia)))
  have hm:(rs.map fun p=>PV.int (p.sz:Int))=(rs.map fun p=>(p.sz:Int)).map PV.int:=by rw [List.map_map];rfl
  rw [hm] at hc
  exact tr (bd (sq1 (zbD rfl (show zbr (rpv rs)=M.ret ⟨rs.map Say.pv,[]⟩ from rfl) (by lia) hc))) (tr (zjF (zdr _) (zge rs 0 (by lia)) rfl) (i_eq (zjC rs)))
 refine zag (tr (zcp _ _ _) (tr (if_f (tr (or_f rfl) (zbz (b:=true) (tr (bd (zbB (by lia))) ?_)))) (tr (if_f (zbz ha)) (if_f (tr (bd hs) (show _=M.ret (PV.bool false) from b_eq (decide_eq_false (show ¬ ((60:Int)<(szs rs:Int)) by lia))))))))
 rw [hlm];exact zik r1 r2
noncomputable def bg:Nat→List Say→List Cl
 | _,[]=>[]
 | i,s::r=>⟨i,true,s⟩::bg (i+1) r
theorem zlC:∀(rs:List Say)(a:Nat),(bg a rs).length=rs.length
 | [],_=>rfl
 | _::r,a=>congrArg Nat.succ (zlC r (a+1))
theorem zmx:∀(rs:List Say)(a:Nat),tsz (bg a rs)=szs rs
 | [],_=>rfl
 | s::r,a=>congrArg (s.sz+·) (zmx r (a+1))
theorem zg1:∀{rs:List Say}{a:Nat}{x:Cl},x∈bg a rs→x.s∈rs
 | s::r,a,x,h=>by
  rcases List.mem_cons.mp h with rfl | h
  ·exact .head _
  ·exact .tail _ (zg1 h)
theorem zmR:∀{rs:List Say}{a:Nat}{s:Say},s∈rs→∃ i,(⟨i,true,s⟩:Cl)∈bg a rs
 | s'::r,a,s,h=>by
  rcases List.mem_cons.mp h with rfl | h
  ·exact ⟨a,.head _⟩
  ·exact (zmR (a:=a+1) h).imp fun i hi=>.tail _ hi
theorem zfg:∀(xs:List PV)(a:Nat),(zb2 a xs).length=xs.length
 | [],_=>rfl
 | _::r,a=>congrArg Nat.succ (zfg r (a+1))
theorem begun{rs:List Say}{d:Nat}{r:Bool}(hd:210<d)(R:Row rs):zad GG d ⟨r,true⟩ AA.begun [rpv rs]=M.ret (cps (bg 0 rs)):=by
 obtain ⟨e,rfl⟩:∃ e,d=e+1:=⟨d-1,by lia⟩
 have hc:∀(l:List Say)(a:Nat),za6 (M.ret ()) (fun x=>M.noErr ((fun v2=>tup2 v2 fun v3 v4=>M.ret (some (PV.tup [v3,(.bool true),v4]))) x)) (zb2 a (l.map Say.pv))=M.ret ((bg a l).map Cl.pv):=by
  intro l
  induction l with
  | nil=>exact fun a=>rfl
  | cons s l ih=>exact fun a=>zbq (f:=fun v2=>tup2 v2 fun v3 v4=>M.ret (some (PV.tup [v3,(.bool true),v4]))) (y:=(Cl.mk a true s).pv) rfl (ih (a+1))
 have r2:=R.hi
 exact zag (tr (zlD _ _ _) (tr (bd (need_row (by lia) R)) (zbD rfl (show zc2 [rpv rs]=M.ret ⟨zb2 0 (rs.map Say.pv),[]⟩ from rfl) (by rw [zfg,List.length_map];lia) (hc rs 0))))
theorem l_begun{rs:List Say}{d:Nat}{md:Md}(hm:md.lp=true)(hd:0<d)(hn:rs.length≤6):zad GG d md AA.l_begun [rpv rs]=M.ret (cps (bg 0 rs)):=by
 obtain ⟨e,rfl⟩:∃ e,d=e+1:=⟨d-1,by lia⟩
 have hlm:(rs.map Say.pv).length=rs.length:=List.length_map _
 have hc:∀(l:List Say)(a:Nat),(∀ i s,l[i]?=some s→rs[a+i]?=some s)→a+l.length≤6→za6 (M.ret ()) (fun x=>M.noErr ((fun v2=>((seqM [(M.ret v2),(M.ret (.bool true)),(index (rpv rs) v2)]).bind fun v3=>(M.ret (PV.tup v3))).bind fun v4=>M.ret (some v4)) x)) (zaJ (a:Int) l.length)=M.ret ((bg a l).map Cl.pv):=by
  intro l
  induction l with
  | nil=>exact fun a _ _=>rfl
  | cons s l ih=>
   intro a h hl
   have hl:a+(l.length+1)≤6:=hl
   have h0:rs[a]?=some s:=h 0 s rfl
   have ix:index (rpv rs) (.int (a:Int))=M.ret s.pv:=zci (by rw [List.getElem?_map,h0];rfl) (by lia)
   have ih':=ih (a+1) (fun i t ht=>by have:=h (i+1) t ht;rwa [Nat.add_right_comm]) (by lia)
   exact zbq (f:=fun v2=>((seqM [(M.ret v2),(M.ret (.bool true)),(index (rpv rs) v2)]).bind fun v3=>(M.ret (PV.tup v3))).bind fun v4=>M.ret (some v4)) (y:=(Cl.mk a true s).pv) (bd (bd (sq3 rfl rfl ix))) ih'
 refine zag (tr (zkO _ _ _) (zbD hm (tr (bd (sq1 (zbB (by lia)))) (by rw [hlm];exact zdP rs.length (by lia))) (by rw [zgb];lia) (hc rs 0 (fun i s h=>by rwa [Nat.zero_add]) (by lia))))
structure Sm (s:Say):Prop where
 ok:s.Ok
 dep:s.dep≤10
 sz:s.sz≤10
theorem Sm.of{s:Say}(ok:s.Ok)(h:s.sz≤10):Sm s:=⟨ok,Nat.le_trans (zeu s) h,h⟩
theorem zgp{rs:List Say}(h:∀ s∈rs,Sm s)(lo:1≤rs.length)(hi:rs.length≤6):Row rs:=by
 have key:∀ l:List Say,(∀ s∈l,Sm s)→szs l≤10*l.length:=by
  intro l
  induction l with
  | nil=>exact fun _=>Nat.le_refl _
  | cons s l ih=>
   intro hl
   have h1:=(hl s (.head _)).sz
   have h2:=ih fun t ht=>hl t (.tail _ ht)
   show s.sz+szs l≤10*(l.length+1)
   lia
 have:=key rs h
 exact ⟨fun s hs=>(h s hs).ok,fun s hs=>Nat.le_trans (h s hs).dep (by decide),lo,hi,by lia⟩
theorem zgF{xs:List PV}{i:Int}(h1:-(xs.length:Int)≤i)(h2:i<xs.length)(hs:xs.length≤1000):∃ x∈xs,index (.lst xs) (.int i)=M.ret x:=by
 have key:∃ k:Nat,k<xs.length∧seqIndex? i xs.length=some k:=by
  unfold seqIndex?
  by_cases q:i<0
  ·refine ⟨(i+xs.length).toNat,by lia,?_⟩
   rw [if_pos q]
   show (if (decide (0≤i+(xs.length:Int))&&decide (i+(xs.length:Int)<(xs.length:Int)))=true then some (i+(xs.length:Int)).toNat else Option.none)=_
   rw [decide_eq_true (show 0≤i+xs.length by lia),decide_eq_true (show i+xs.length<xs.length by lia)];rfl
  ·refine ⟨i.toNat,by lia,?_⟩
   rw [if_neg q]
   show (if (decide (0≤i)&&decide (i<(xs.length:Int)))=true then some i.toNat else Option.none)=_
   rw [decide_eq_true (show 0≤i by lia),decide_eq_true h2];rfl
 obtain ⟨k,hk,e⟩:=key
 refine ⟨xs[k],List.getElem_mem hk,congrArg M.lift (show atI xs i=some xs[k] from ?_)⟩
 unfold atI
 rw [za2 (by lia) (by lia),e]
 exact List.getElem?_eq_getElem hk
theorem zcR{ns:List Str}{i:Int}(hn:∀ n∈ns,NmOk n)(h1:-(ns.length:Int)≤i)(h2:i<ns.length)(hs:ns.length≤6):∃ n,NmOk n∧index (.lst (ns.map .str)) (.int i)=M.ret (.str n):=by
 have hl:(ns.map PV.str).length=ns.length:=List.length_map _
 obtain ⟨x,hx,e⟩:=zgF (xs:=ns.map .str) (i:=i) (by lia) (by lia) (by lia)
 obtain ⟨n,hm,rfl⟩:=List.mem_map.mp hx
 exact ⟨n,hn n hm,e⟩
theorem zll{P:Say→Prop}{f:PV→M (Option PV)}:∀{xs:List PV},(∀ x∈xs,∃ s:Say,P s∧f x=M.ret (some s.pv))→∃ rs:List Say,za6 (M.ret ()) (fun x=>M.noErr (f x)) xs=M.ret (rs.map Say.pv)∧rs.length=xs.length∧∀ s∈rs,P s
 | [],_=>⟨[],rfl,rfl,fun s h=>nomatch h⟩
 | x::xs,h=>by
  obtain ⟨rs,e,hl,hp⟩:=zll (P:=P) (f:=f) fun y hy=>h y (.tail _ hy)
  obtain ⟨s,hs,e1⟩:=h x (.head _)
  exact ⟨s::rs,zbq e1 e,congrArg Nat.succ hl,fun t ht=>(List.mem_cons.mp ht).elim (fun z=>z▸hs) (hp t)⟩
theorem zmI:∀{n:Nat}{a:Int}{x:PV},x∈zaJ a n→∃ k:Nat,k<n∧x=.int (a+k)
 | n+1,a,x,h=>by
  rcases List.mem_cons.mp h with rfl | h
  ·exact ⟨0,Nat.succ_pos _,congrArg PV.int (Int.add_zero a).symm⟩
  ·obtain ⟨k,hk,e⟩:=zmI h
   exact ⟨k+1,Nat.succ_lt_succ hk,e.trans (congrArg PV.int (by lia))⟩
theorem zk2{σ:zaa}{j:Nat}{xs:List PV}(h:σ[j]?=some (.list xs)):zfd (.ref j) σ=.ok (.lst xs) (σ.set j .dead):=tr (zab (zeg h)) rfl
theorem zpk(r:Bool)(a b:Int):biM ⟨r,true⟩ false "min" [.int a,.int b]=M.ret (.int (if b<a then b else a)):=by kernel_rfl
theorem sq4{x y z u:M PV}{a b c d:PV}(h:x=M.ret a)(h':y=M.ret b)(h'':z=M.ret c)(h3:u=M.ret d):seqM [x,y,z,u]=M.ret [a,b,c,d]:=by rw [h,h',h'',h3];rfl
theorem rl_z{y room many k n:Nat}(hy:y<7)(hk:k+(n+1)=many)(hr:n+1≤room):∃ z:Nat,(if (1+(y:Int))<(room:Int)-(((many:Int)-1)-(k:Int)) then (1+(y:Int)) else (room:Int)-(((many:Int)-1)-(k:Int)))=(z:Int)∧1≤z∧z≤7∧z+n≤room:=by
 have e:(room:Int)-(((many:Int)-1)-(k:Int))=((room-n:Nat):Int):=by lia
 rw [e]
 by_cases q:1+y<room-n
 ·exact ⟨1+y,by rw [if_pos (by lia)];rfl,Nat.le_add_right _ _,by lia,by lia⟩
 ·exact ⟨room-n,by rw [if_neg (by lia)],by lia,by lia,by lia⟩
theorem rl_k{k n many:Nat}(hk:k+(n+1)=many)(hm:many≤6):-1000000≤(k:Int)+1∧(k:Int)+1≤1000000∧k<1000:=by lia
theorem rl_r{z n room:Nat}(h:z+n≤room)(h24:room≤24):n≤room-z∧room-z≤24∧(room:Int)-(z:Int)=((room-z:Nat):Int):=by lia
theorem zhW{c:Int}{ns:List Str}{many:Nat}{σ:zaa}{d:Nat}(hd:100<d)(hn:∀ n∈ns,NmOk n)(hlo:1≤ns.length)(hhi:ns.length≤6)(hm:many≤6):∀(n k room:Nat)(rs:List Say)(v6 v7 v8:Option PV),k+n=many→n≤room→room≤24→rs.length=k→(∀ s∈rs,Sm s)→
  ∃ rs':List Say,zaG AA GG (zad GG d) ⟨true,true⟩ (M.ret ()) (zaJ (k:Int) n) (.int c) (.int (many:Int)) (.int (room:Int)) (.lst (ns.map .str)) (.ref σ.length) v6 v7 v8 (σ++[.list (rs.map Say.pv)])=.ok (.lst (rs'.map Say.pv)) (σ++[.dead])∧rs'.length=many∧∀ s∈rs',Sm s
 | 0,k,room,rs,v6,v7,v8,hk,hr,hr2,hl,h=>⟨rs,by
   refine tr (show _=zfd (.ref σ.length) (σ++[.list (rs.map Say.pv)]) from rfl) (tr (zk2 za1) ?_)
   rw [zcN],by lia,h⟩
 | n+1,k,room,rs,v6,v7,v8,hk,hr,hr2,hl,h=>by
  obtain ⟨y,hy,hyl⟩:=zam ((c*((k:Int)+1)+7919*(k:Int)).fmod 1000003) (b:=7) (by decide)
  obtain ⟨z,hz,hz1,hz7,hzr⟩:=rl_z hyl hk hr
  have K:=rl_k hk hm
  have RR:=rl_r hzr hr2
  obtain ⟨s,hs,M1⟩:=l_saying ⟨true,true⟩ ns hn hlo hhi z ((c*((k:Int)+1)+7919*(k:Int)).fmod 1000003+31*c) d hz1 (Nat.le_trans hz7 (by decide)) (Nat.lt_of_le_of_lt hz7 (Nat.lt_trans (by decide) hd))
  obtain ⟨rs',e,hl',h'⟩:=zhW (c:=c) (many:=many) (σ:=σ) hd hn hlo hhi hm n (k+1) (room-z) (rs++[s]) (some (.int (k:Int))) (some (.int ((c*((k:Int)+1)+7919*(k:Int)).fmod 1000003))) (some (.int (z:Int))) (by rw [← hk];exact Nat.add_right_comm k 1 n) RR.1 RR.2.1 (by rw [List.length_append,hl];rfl) fun t ht=>by
   rcases List.mem_append.mp ht with ht | ht
   ·exact h t ht
   ·rw [List.mem_singleton.mp ht];exact .of M1.ok (by rw [M1.sz];exact Nat.le_trans hz7 (by decide))
  refine ⟨rs',?_,hl',h'⟩
  have e1:((((opM false .Add (.int (k:Int)) (.int 1)).bind fun v10=>(opM false .Mult (.int c) v10)).bind fun v11=>((opM false .Mult (.int 7919) (.int (k:Int))).bind fun v12=>(opM false .Add v11 v12))).bind fun v13=>(opM false .Mod v13 (.int 1000003)))=M.ret (.int ((c*((k:Int)+1)+7919*(k:Int)).fmod 1000003)):=
   tr (bd (tr (bd (tr (bd (add_int _ _ _)) (zcf false c ((k:Int)+1) K.1 K.2.1))) (tr (bd (zef false 7919 _ (by decide) (by decide))) (add_int _ _ _)))) (zbt _ _ _ (by decide))
  have e2:((seqM [(((opM false .Sub (.int (many:Int)) (.int 1)).bind fun v15=>(opM false .Sub v15 (.int (k:Int)))).bind fun v16=>(opM false .Sub (.int (room:Int)) v16)),((opM false .Mod (.int ((c*((k:Int)+1)+7919*(k:Int)).fmod 1000003)) (.int 7)).bind fun v17=>(opM false .Add (.int 1) v17))]).bind fun v18=>(biM ⟨true,true⟩ false "min" v18))=M.ret (.int (z:Int)):=
   tr (bd (sq2 (tr (bd (tr (bd (sub_int _ _ _)) (sub_int _ _ _))) (sub_int _ _ _)) (tr (bd (zaC _ _ (by decide) hy)) (add_int _ _ _)))) (tr (zpk _ _ _) (i_eq hz))
  have e3:seqM [((seqM [((opM false .Mult (.int 31) (.int c)).bind fun v21=>(opM false .Add (.int ((c*((k:Int)+1)+7919*(k:Int)).fmod 1000003)) v21)),(M.ret (.int (z:Int))),(M.ret (.lst (ns.map .str)))]).bind fun v22=>(zad GG d ⟨true,true⟩ AA.l_saying v22))]=M.ret [s.pv]:=
   sq1 (tr (bd (sq3 (tr (bd (zef false 31 c (by decide) (by decide))) (add_int _ _ _)) rfl rfl)) hs)
  have e4:opM false .Sub (.int (room:Int)) (.int (z:Int))=M.ret (.int ((room-z:Nat):Int)):=tr (sub_int _ _ _) (i_eq RR.2.2)
  have lrs:(rs.map Say.pv).length<1000:=by rw [List.length_map,hl];exact K.2.2
  refine tr (show _=zbh AA GG (zad GG d) ⟨true,true⟩ (zaG AA GG (zad GG d) ⟨true,true⟩ (M.ret ()) (zaJ ((k:Int)+1) n)) (.int c) (.int (many:Int)) (.int (room:Int)) (.lst (ns.map .str)) (.ref σ.length) v6 v7 v8 (.int (k:Int)) (σ++[.list (rs.map Say.pv)]) from rfl) ?_
  unfold zbh
  refine at_ (tr (bd e1) (tr (bd e2) (bd e4))) ?_
  rw [e3]
  refine tr (zab (zlE za1 lrs)) ?_
  rw [zcN,show rs.map Say.pv++[s.pv]=(rs++[s]).map Say.pv by rw [List.map_append];rfl]
  exact e
theorem zkk{c:Int}{ns:List Str}{many room:Nat}{σ:zaa}{d:Nat}(h6:6≤room)(h24:room≤24)(hd:101<d)(hn:∀ n∈ns,NmOk n)(hlo:1≤ns.length)(hhi:ns.length≤6)(hm1:1≤many)(hm:many≤6):∃ rs:List Say,zad GG d ⟨true,true⟩ AA.l_plain_row [.int c,.int (many:Int),.int (room:Int),.lst (ns.map .str)] σ=.ok (rpv rs) (σ++[.dead])∧Row rs:=by
 obtain ⟨e,rfl⟩:∃ e,d=e+1:=⟨d-1,by lia⟩
 obtain ⟨rs,e,hl,h⟩:=zhW (c:=c) (σ:=σ) (d:=e) (by lia) hn hlo hhi hm many 0 room [] Option.none Option.none Option.none (by lia) (by lia) h24 rfl (fun s hs=>nomatch hs)
 refine ⟨rs,at_ (zag (zfH _ _ _ _ _ _)) ?_,zgp h (by lia) (by lia)⟩
 unfold zcU zb1
 exact tr (zab (a:=PV.ref σ.length) (σ':=σ++[Cel.list []]) rfl) (at_ (tr (c_t rfl) (bd (zdP many (by lia)))) e)
theorem zkj{n m:Nat}(h:1≤n)(hm:n≤m):-(m:Int)≤(n:Int)-1∧(n:Int)-1<(m:Int):=by lia
theorem zmU{n m:Nat}(h:n<m):-(m:Int)≤(n:Int)∧(n:Int)<(m:Int):=by lia
theorem zka{k m n:Nat}(hk:k<n)(hm:m<n):-(n:Int)≤(0+(k:Int))-(m:Int)∧(0+(k:Int))-(m:Int)<(n:Int):=by lia
theorem zlw{C:zai}{ns:List Str}{σ:zaa}{v1 v2 v4 v5 v6 v7:PV}(hn:∀ n∈ns,NmOk n)(hhi:ns.length≤6):∀(n k:Nat)(rs:List Say)(v9:Option PV),k+n=ns.length→1≤k→rs.length=k→(∀ s∈rs,Sm s)→
  ∃(rs':List Say)(u:Option PV),zb0 AA GG C ⟨true,true⟩ (M.ret ()) (zaJ (k:Int) n) v1 v2 (.lst (ns.map .str)) v4 v5 v6 v7 (.ref σ.length) v9 (σ++[.list (rs.map Say.pv)])=zcq AA GG C ⟨true,true⟩ v1 v2 (.lst (ns.map .str)) v4 v5 v6 v7 (.ref σ.length) u (σ++[.list (rs'.map Say.pv)])∧rs'.length=ns.length∧∀ s∈rs',Sm s
 | 0,k,rs,v9,hk,h1,hl,h=>⟨rs,v9,rfl,by lia,h⟩
 | n+1,k,rs,v9,hk,h1,hl,h=>by
  have hkn:k<ns.length:=by rw [← hk];exact Nat.lt_add_of_pos_right (Nat.succ_pos n)
  obtain ⟨a,ha,ea⟩:=zcR (i:=(k:Int)-1) hn (zkj h1 (Nat.le_of_lt hkn)).1 (zkj h1 (Nat.le_of_lt hkn)).2 hhi
  obtain ⟨b,hb,eb⟩:=zcR (i:=(k:Int)) hn (zmU hkn).1 (zmU hkn).2 hhi
  obtain ⟨rs',u,e,hl',h'⟩:=zlw (C:=C) (σ:=σ) (v1:=v1) (v2:=v2) (v4:=v4) (v5:=v5) (v6:=v6) (v7:=v7) hn hhi n (k+1) (rs++[Say.or (.not (.name a)) (.name b)]) (some (.int (k:Int))) (by rw [← hk];exact Nat.add_right_comm k 1 n) (Nat.le_succ_of_le h1) (by rw [List.length_append,hl];rfl) fun t ht=>by
   rcases List.mem_append.mp ht with ht | ht
   ·exact h t ht
   ·rw [List.mem_singleton.mp ht];exact ⟨⟨ha,hb⟩,show max (1+1) 1+1≤10 by decide,show 1+1+1+1≤10 by decide⟩
  refine ⟨rs',u,?_,hl',h'⟩
  have e3:seqM [((seqM [(M.ret (.str "or")),((seqM [(M.ret (.str "not")),((seqM [(M.ret (.str "name")),((opM false .Sub (.int (k:Int)) (.int 1)).bind fun v11=>(index (.lst (ns.map .str)) v11))]).bind fun v12=>(M.ret (.tup v12)))]).bind fun v13=>(M.ret (.tup v13))),((seqM [(M.ret (.str "name")),(index (.lst (ns.map .str)) (.int (k:Int)))]).bind fun v14=>(M.ret (.tup v14)))]).bind fun v15=>(M.ret (.tup v15)))]=M.ret [(Say.or (.not (.name a)) (.name b)).pv]:=
   sq1 (bd (sq3 rfl (bd (sq2 rfl (bd (sq2 rfl (tr (bd (sub_int _ _ _)) ea))))) (bd (sq2 rfl eb))))
  have lrs:(rs.map Say.pv).length<1000:=by rw [List.length_map];lia
  refine tr (show _=zdU AA GG C ⟨true,true⟩ (zb0 AA GG C ⟨true,true⟩ (M.ret ()) (zaJ ((k:Int)+1) n)) v1 v2 (.lst (ns.map .str)) v4 v5 v6 v7 (.ref σ.length) v9 (.int (k:Int)) (σ++[.list (rs.map Say.pv)]) from rfl) ?_
  unfold zdU
  rw [e3]
  refine tr (zab (zlE za1 lrs)) ?_
  rw [zcN,show rs.map Say.pv++[(Say.or (.not (.name a)) (.name b)).pv]=(rs++[Say.or (.not (.name a)) (.name b)]).map Say.pv by rw [List.map_append];rfl]
  exact e
theorem zn3{σ:zaa}{j n:Nat}{xs:List PV}(h:σ[j]?=some (.list xs))(hl:xs.length≤1000):cutM false (.ref j) Option.none (some (n:Int)) σ=.ok (.lst (xs.take n)) σ:=by
 refine (zab (zeg h)).trans (at_ (c_t (decide_eq_true (show xs.length≤2 ^ 20 by lia))) ?_)
 rw [zhf];rfl
theorem zpf{C:zai}{ns:List Str}{σ:zaa}{c:Int}{v1 v2 v4 v6 v7:PV}{u:Option PV}{rs:List Say}(hn:∀ n∈ns,NmOk n)(hlo:1≤ns.length)(hhi:ns.length≤5)(hl:rs.length=ns.length)(h:∀ s∈rs,Sm s) :
  ∃ rs':List Say,zcq AA GG C ⟨true,true⟩ v1 v2 (.lst (ns.map .str)) v4 (.int c) v6 v7 (.ref σ.length) u (σ++[.list (rs.map Say.pv)])=.ok (rpv rs') (σ++[.list (rs.map Say.pv)])∧Row rs':=by
 have r5:rs.length≤5:=hl▸hhi
 have r1:1≤rs.length:=hl▸hlo
 have pa:=zkj r1 (Nat.le_of_eq hl)
 obtain ⟨a,ha,ea⟩:=zcR (i:=(rs.length:Int)-1) hn pa.1 pa.2 (Nat.le_succ_of_le hhi)
 have hlm:(rs.map Say.pv).length=rs.length:=List.length_map _
 have hc:cutM false (.ref σ.length) Option.none (some 5) (σ++[.list (rs.map Say.pv)])=.ok (.lst (rs.map Say.pv)) (σ++[.list (rs.map Say.pv)]):=tr (zn3 (n:=5) za1 (by rw [hlm];exact Nat.le_trans r5 (by decide))) (by rw [List.take_of_length_le (by rw [hlm];exact r5)])
 let rr:List Say:=rs++[.not (.name a)]
 have hrr:rr.length=rs.length+1:=by show (rs++[_]).length=_;rw [List.length_append];rfl
 have hrm:(rr.map Say.pv).length=rs.length+1:=by rw [List.length_map,hrr]
 have hrs:∀ s∈rr,Sm s:=fun t ht=>(List.mem_append.mp ht).elim (h t) fun z=>by rw [List.mem_singleton.mp z];exact ⟨ha,show 1+1≤10 by decide,show 1+1≤10 by decide⟩
 have l6:(rr.map Say.pv).length≤6:=by rw [hrm];exact Nat.succ_le_succ r5
 obtain ⟨m,hm,hml⟩:=zam c (b:=rs.length+1) (Nat.succ_pos _)
 obtain ⟨rs',e,hl',h'⟩:=zll (P:=Sm) (f:=fun v25=>((((biM (⟨true,true⟩:Md).inn false "len" [.lst (rr.map Say.pv)]).bind fun v26=>(opM false .Mod (.int c) v26)).bind fun v27=>(opM false .Sub v25 v27)).bind fun v28=>(index (.lst (rr.map Say.pv)) v28)).bind fun v29=>M.ret (some v29)) (xs:=zaJ 0 (rs.length+1)) fun x hx=>by
  obtain ⟨k,hk,rfl⟩:=zmI hx
  obtain ⟨y,hy,ey⟩:=zgF (xs:=rr.map Say.pv) (i:=(0+(k:Int))-(m:Int)) (by rw [hrm];exact (zka hk hml).1) (by rw [hrm];exact (zka hk hml).2) (Nat.le_trans l6 (by decide))
  obtain ⟨s,hs,rfl⟩:=List.mem_map.mp hy
  exact ⟨s,hrs s hs,bd (tr (bd (tr (bd (tr (bd (tr (zbB (Nat.le_trans l6 (by decide))) (i_eq (show ((rr.map Say.pv).length:Int)=((rs.length+1:Nat):Int) by rw [hrm])))) (zaC _ _ (Int.ofNat_lt.mpr (Nat.succ_pos _)) hm))) (sub_int _ _ _))) ey)⟩
 rw [zgb] at hl'
 refine ⟨rs',?_,zgp h' (by rw [hl'];exact Nat.le_add_left _ _) (by rw [hl'];exact Nat.succ_le_succ r5)⟩
 unfold zcq
 have q1:(((seqM [(M.ret (.str "name")),((((seqM [(cutM false (.ref σ.length) Option.none (some 5))]).bind fun v17=>(biM ⟨true,true⟩ false "len" v17)).bind fun v18=>(opM false .Sub v18 (.int 1))).bind fun v19=>(index (.lst (ns.map .str)) v19))]).bind fun v20=>(M.ret (.tup v20)))) (σ++[.list (rs.map Say.pv)])=.ok (Say.name a).pv (σ++[.list (rs.map Say.pv)]):=by
  refine tr (zab (a:=[.str "name",.str a]) (tr (zab (a:=PV.str "name") rfl) (tr (zab (zeU (tr (zab (tr (zab (tr (zab (zeU hc)) (congrFun (zbB (xs:=rs.map Say.pv) (by rw [hlm];exact Nat.le_trans r5 (by decide))) _))) (congrFun (sub_int _ _ _) _))) ?_))) rfl))) rfl
  rw [hlm];exact congrFun ea _
 have q2:((cutM false (.ref σ.length) Option.none (some 5)).bind fun v16=>(((seqM [((seqM [(M.ret (.str "not")),((seqM [(M.ret (.str "name")),((((seqM [(cutM false (.ref σ.length) Option.none (some 5))]).bind fun v17=>(biM ⟨true,true⟩ false "len" v17)).bind fun v18=>(opM false .Sub v18 (.int 1))).bind fun v19=>(index (.lst (ns.map .str)) v19))]).bind fun v20=>(M.ret (.tup v20)))]).bind fun v21=>(M.ret (.tup v21)))]).bind fun v22=>(M.ret (.lst v22))).bind fun v23=>(opM false .Add v16 v23))) (σ++[.list (rs.map Say.pv)])=.ok (.lst (rr.map Say.pv)) (σ++[.list (rs.map Say.pv)]):=by
  refine tr (zab hc) (tr (zab (a:=PV.lst [(Say.not (.name a)).pv]) (tr (zab (zeU (tr (zab (a:=[.str "not",(Say.name a).pv]) (tr (zab (a:=PV.str "not") rfl) (tr (zab (tr (zab q1) rfl)) rfl))) rfl))) rfl)) ?_)
  refine tr (congrFun (zds (by rw [hlm];exact Nat.le_trans (Nat.succ_le_succ r5) (by decide))) _) ?_
  show Rs.ok _ _=Rs.ok (PV.lst ((rs++[Say.not (.name a)]).map Say.pv)) _
  rw [List.map_append];rfl
 refine tr (zab q2) (congrFun (zbD rfl (tr (bd (sq1 (zbB (Nat.le_trans l6 (by decide))))) ?_) (by rw [zgb];exact Nat.le_trans (Nat.succ_le_succ r5) (by decide)) e) _)
 rw [hrm];exact zdP (rs.length+1) (Nat.le_trans (Nat.succ_le_succ r5) (by decide))
theorem zoL(m:Nat)(hm:m≤1000):zaF [.int 1,.int (m:Int)]=M.ret ⟨zaJ 1 (m-1),[]⟩:=by
 refine tr (c_t (show (za4 1&&za4 (m:Int))=true by unfold za4;rw [decide_eq_true (show (-1000000:Int)≤(m:Int) by lia),decide_eq_true (show (m:Int)≤1000000 by lia)];rfl)) ?_
 rw [show ((m:Int)-1).toNat=m-1 by lia]
theorem zhY{x:M PV}{k:Nat} (h:x=M.ret (.int (k:Int))):zbb x=M.ret (some (k:Int)):=tr (bd h) rfl
theorem l_row{c:Int}{ns:List Str}{d room:Nat}(h6:6≤room)(h24:room≤24)(hd:150<d)(hn:∀ n∈ns,NmOk n)(hlo:2≤ns.length)(hhi:ns.length≤5)(σ:zaa):∃(rs:List Say)(τ:zaa),zad GG d ⟨true,true⟩ AA.l_row [.int c,.int (room:Int),.lst (ns.map .str)] σ=.ok (rpv rs) (σ++τ)∧Row rs:=by
 obtain ⟨e,rfl⟩:∃ e,d=e+1:=⟨d-1,by lia⟩
 have he:150≤e:=Nat.le_of_lt_succ hd
 have h1:1≤ns.length:=Nat.le_of_lt hlo
 have h5:ns.length≤6:=Nat.le_succ_of_le hhi
 obtain ⟨w,hw,hwl⟩:=zam c (b:=6) (by decide)
 obtain ⟨m4,hm4,hm4l⟩:=zam (c.fdiv 6) (b:=4) (by decide)
 obtain ⟨m3,hm3,hm3l⟩:=zam ((c.fdiv 6).fdiv 5) (b:=3) (by decide)
 obtain ⟨m6,hm6,hm6l⟩:=zam (c.fdiv 6) (b:=6) (by decide)
 obtain ⟨k,hk,hkl⟩:=zdn (c.fdiv 6) 20 (b:=2) (by decide) (by decide) (by decide)
 obtain ⟨a,ha,A⟩:=l_saying ⟨true,true⟩ ns hn h1 h5 (1+m4) (c.fdiv 6) e (Nat.le_add_right _ _) (Nat.le_trans (Nat.add_le_add_left (Nat.le_of_lt hm4l) 1) (by decide)) (Nat.lt_of_le_of_lt (Nat.add_le_add_left (Nat.le_of_lt hm4l) 1) (Nat.lt_of_lt_of_le (by decide) he))
 obtain ⟨b,hb,B⟩:=l_saying ⟨true,true⟩ ns hn h1 h5 (1+m3) ((c.fdiv 6).fdiv 5+17) e (Nat.le_add_right _ _) (Nat.le_trans (Nat.add_le_add_left (Nat.le_of_lt hm3l) 1) (by decide)) (Nat.lt_of_le_of_lt (Nat.add_le_add_left (Nat.le_of_lt hm3l) 1) (Nat.lt_of_lt_of_le (by decide) he))
 have az:a.sz≤4:=by rw [A.sz,Nat.add_comm];exact hm4l
 have bz:b.sz≤3:=by rw [B.sz,Nat.add_comm];exact hm3l
 have hpre:∀{F:M PV},zhs AA GG (zad GG e) ⟨true,true⟩ (.int c) ((.int (room:Int))) (.lst (ns.map .str))=F→zad GG (e+1) ⟨true,true⟩ AA.l_row [.int c,.int (room:Int),.lst (ns.map .str)]=F:=fun h=>zag (tr (znN _ _ _ _ _) h)
 have e1:((seqM [(M.ret (.int (c.fdiv 6))),((opM false .Mod (.int (c.fdiv 6)) (.int 4)).bind fun v6=>(opM false .Add (.int 1) v6)),(M.ret (.lst (ns.map .str)))]).bind fun v7=>(zad GG e ⟨true,true⟩ AA.l_saying v7))=M.ret a.pv:=
  tr (bd (sq3 rfl (tr (bd (zaC _ _ (by decide) hm4)) (tr (add_int _ _ _) (i_eq (zhm m4)))) rfl)) ha
 have e2:((seqM [((opM false .FloorDiv (.int (c.fdiv 6)) (.int 5)).bind fun v9=>(opM false .Add v9 (.int 17))),(((opM false .FloorDiv (.int (c.fdiv 6)) (.int 5)).bind fun v10=>(opM false .Mod v10 (.int 3))).bind fun v11=>(opM false .Add (.int 1) v11)),(M.ret (.lst (ns.map .str)))]).bind fun v12=>(zad GG e ⟨true,true⟩ AA.l_saying v12))=M.ret b.pv:=
  tr (bd (sq3 (tr (bd (zaT _ _ 5 (by decide) (by decide))) (add_int _ _ _)) (tr (bd (tr (bd (zaT _ _ 5 (by decide) (by decide))) (zaC _ _ (by decide) hm3))) (tr (add_int _ _ _) (i_eq (zhm m3)))) rfl)) hb
 unfold zhs zhr at hpre
 have hpre2:=fun{F:M PV} h=>hpre (F:=F) (tr (bd (zaC _ _ (by decide) hw)) (tr (bd (zaT _ _ 6 (by decide) (by decide))) (tr (bd e1) (tr (bd e2) h))))
 clear hpre
 have le:∀{x y:Nat},x≤y→y≤10→x≤10:=fun h h'=>Nat.le_trans h h'
 by_cases w0:w=0
 ·obtain ⟨x,hx,ex⟩:=zcR (i:=(-1:Int)) hn (by lia) (by lia) (by lia)
  refine ⟨[.and a b,.not (.or a (.name x))],[],?_,zgp (zah ⟨.of ⟨A.ok,B.ok⟩ (le (Nat.succ_le_succ (Nat.add_le_add az bz)) (by decide)),.of ⟨A.ok,hx⟩ (le (Nat.succ_le_succ (Nat.succ_le_succ (Nat.succ_le_succ az))) (by decide)),trivial⟩) (show 1≤2 by decide) (show 2≤6 by decide)⟩
  rw [List.append_nil]
  exact congrFun (hpre2 (tr (if_t (w_t 0 w0)) (bd (sq2 rfl (bd (sq2 rfl (bd (sq3 rfl rfl (bd (sq2 rfl ex)))))))))) σ
 ·by_cases w1:w=1
  ·let rr:List Say:=[a,b,.not (.and a b)]
   have hr:∀ s∈rr,Sm s:=zah ⟨.of A.ok (le az (by decide)),.of B.ok (le bz (by decide)),.of (s:=.not (.and a b)) ⟨A.ok,B.ok⟩ (le (Nat.succ_le_succ (Nat.succ_le_succ (Nat.add_le_add az bz))) (by decide)),trivial⟩
   have hl:(rr.drop k).length=3-k:=List.length_drop
   refine ⟨rr.drop k,[],?_,zgp (fun s hs=>hr s (List.mem_of_mem_drop hs)) (by rw [hl];exact Nat.le_sub_of_add_le (show 1+k≤3 from Nat.le_trans (Nat.add_le_add_left (Nat.le_of_lt_succ hkl) 1) (by decide))) (by rw [hl];exact Nat.le_trans (Nat.sub_le _ _) (by decide))⟩
   rw [List.append_nil]
   refine congrFun (hpre2 (tr (if_f (w_f 0 w0)) (tr (if_t (w_t 1 w1)) (tr (bd (zhY hk)) (tr (zlg (n:=k) (show 3≤1000 by decide)) ?_))))) σ
   unfold rpv
   rw [List.map_drop];rfl
  ·by_cases w2:w=2
   ·obtain ⟨x,hx,ex⟩:=zcR (i:=(0:Int)) hn (by lia) (by lia) (by lia)
    obtain ⟨rs,u,el,hl,hs⟩:=zlw (C:=zad GG e) (σ:=σ) (v1:=.int c) (v2:=(.int (room:Int))) (v4:=.int (w:Int)) (v5:=.int (c.fdiv 6)) (v6:=a.pv) (v7:=b.pv) hn h5 (ns.length-1) 1 [.name x] Option.none (Nat.add_sub_cancel' h1) (by decide) rfl (zah ⟨⟨hx,show 1≤10 by decide,show 1≤10 by decide⟩,trivial⟩)
    obtain ⟨rs',ee,R⟩:=zpf (C:=zad GG e) (σ:=σ) (c:=c.fdiv 6) (v1:=.int c) (v2:=(.int (room:Int))) (v4:=.int (w:Int)) (v6:=a.pv) (v7:=b.pv) (u:=u) hn h1 hhi hl hs
    have hlm:(ns.map PV.str).length=ns.length:=List.length_map _
    refine ⟨rs',_,at_ (hpre2 (tr (if_f (w_f 0 w0)) (tr (if_f (w_f 1 w1)) (if_t (w_t 2 w2))))) (tr (zab (a:=PV.ref σ.length) (σ':=σ++[Cel.list ([Say.name x].map Say.pv)]) (at_ (bd (sq1 (bd (sq2 rfl ex)))) rfl)) (at_ (tr (c_t rfl) (bd (a:=Src.mk (zaJ 1 (ns.length-1)) []) (tr (bd (sq2 rfl (zbB (xs:=ns.map PV.str) (by rw [hlm];exact Nat.le_trans hhi (by decide))))) (by rw [hlm];exact zoL _ (Nat.le_trans hhi (by decide)))))) (el.trans ee))),R⟩
   ·by_cases w3:w=3
    ·let rr:List Say:=[.and a a,.or (.not a) b]++[Say.not b].take k
     have hr:∀ s∈rr,Sm s:=fun s hs=>(List.mem_append.mp hs).elim (zah (P:=Sm) (l:=[.and a a,.or (.not a) b]) ⟨.of ⟨A.ok,A.ok⟩ (le (Nat.succ_le_succ (Nat.add_le_add az az)) (by decide)),.of ⟨A.ok,B.ok⟩ (le (Nat.succ_le_succ (Nat.add_le_add (Nat.succ_le_succ az) bz)) (by decide)),trivial⟩ s) fun z=>by
      rw [List.mem_singleton.mp (List.mem_of_mem_take z)];exact .of (s:=.not b) B.ok (le (Nat.succ_le_succ bz) (by decide))
     have hl1:([Say.not b].take k).length≤1:=by rw [List.length_take];exact Nat.min_le_right _ _
     have hl:rr.length=2+([Say.not b].take k).length:=by show ([_,_]++_).length=_;rw [List.length_append];rfl
     refine ⟨rr,[],?_,zgp hr (by rw [hl];exact Nat.le_trans (by decide) (Nat.le_add_right 2 _)) (by rw [hl];exact Nat.le_trans (Nat.add_le_add_left hl1 2) (by decide))⟩
     rw [List.append_nil]
     refine congrFun (hpre2 (tr (if_f (w_f 0 w0)) (tr (if_f (w_f 1 w1)) (tr (if_f (w_f 2 w2)) (tr (if_t (w_t 3 w3)) (tr (bd (tr (bd (zhY hk)) (zgP (n:=k) (show 1≤1000 by decide)))) (tr (zds (by rw [List.length_take];exact Nat.le_trans (Nat.add_le_add_left (Nat.min_le_right k 1) 2) (by decide))) ?_))))))) σ
     unfold rpv
     rw [List.map_append,List.map_take];rfl
    ·obtain ⟨rs,ep,R⟩:=zkk (c:=c.fdiv 6) (ns:=ns) (many:=1+m6) (σ:=σ) (d:=e) h6 h24 (Nat.lt_of_lt_of_le (by decide) he) hn h1 h5 (Nat.le_add_right _ _) (by rw [Nat.add_comm];exact hm6l)
     exact ⟨rs,_,at_ (hpre2 (tr (if_f (w_f 0 w0)) (tr (if_f (w_f 1 w1)) (tr (if_f (w_f 2 w2)) (tr (if_f (w_f 3 w3)) (bd (sq4 rfl (tr (bd (zaC _ _ (by decide) hm6)) (tr (add_int _ _ _) (i_eq (zhm m6)))) rfl rfl))))))) ep,R⟩
theorem ziY{x y:M PV}{σ σ':zaa}(h:x σ=.ok (.bool true) σ'):orM x y σ=.ok (.bool true) σ':=(zab h).trans (zab (a:=true) rfl)
inductive Gv (σ:zaa):PV→Prop
 | none:Gv σ .none
 | bool (b:Bool):Gv σ (.bool b)
 | int (i:Int):Gv σ (.int i)
 | str (s:Str):Gv σ (.str s)
 | lst (xs:List PV):Gv σ (.lst xs)
 | dct {j:Nat} {kvs:List (Str×PV)}:σ[j]?=some (.dict kvs)→Gv σ (.ref j)
 | clm (c:Cl):c.s.dep<400→Gv σ c.pv
 | tup {xs:List PV}:(∀ a b c,xs=[a,.bool b,c]→∃ b',a=.bool b')→(∀ x∈xs,Gv σ x)→xs.length≤20→Gv σ (.tup xs)
theorem Gv.app{σ:zaa}{v:PV}(h:Gv σ v)(τ:zaa):Gv (σ++τ) v:=by
 induction h with
 | none=>exact .none
 | bool b=>exact .bool b
 | int i=>exact .int i
 | str s=>exact .str s
 | lst xs=>exact .lst xs
 | dct h=>exact .dct (znT h)
 | clm c h=>exact .clm c h
 | tup h1 h2 h3 ih=>exact .tup h1 ih h3
noncomputable def isT(T:Tn):PV→Bool
 | .none=>subT .none T
 | .bool _=>subT .bool T
 | .int _=>subT .int T
 | .str _=>subT .str T
 | .tup _=>subT .tuple T
 | .lst _=>subT .list T
 | .ref _=>subT .dict T
 | .exc _=>false
theorem Gv.is{σ:zaa}{v:PV}(h:Gv σ v)(T:Tn):isM GG (.bi T) v σ=.ok (.bool (isT T v)) σ:=by
 cases h with
 | dct h=>exact zab (zab (zlx h))
 | _=>rfl
theorem zpO{v:PV}(h:isT .bool v=true):∃ b,v=.bool b:=by
 cases v with
 | bool b=>exact ⟨b,rfl⟩
 | _=>exact nomatch (show false=true from h)
theorem Gv.tin{σ:zaa}{xs:List PV}(h:Gv σ (.tup xs)):(∃ c:Cl,xs=[.int (c.n:Int),.bool c.b,c.s.pv]∧c.s.dep<400)∨((∀ a b c,xs=[a,.bool b,c]→∃ b',a=.bool b')∧(∀ x∈xs,Gv σ x)∧xs.length≤20):=by
 generalize hv:PV.tup xs=v at h
 cases h with
 | clm c hd=>exact .inl ⟨c,PV.tup.inj hv,hd⟩
 | tup h1 h2 h3=>cases hv;exact .inr ⟨h1,h2,h3⟩
 | _=>cases hv
structure NoC (σ:zaa) (v:PV):Prop where
 open_:∀{d:Nat}{md:Md}{cs:List Cl},0<d→zad GG d md AA.l_is_open [cps cs,v] σ=.ok (.bool false) σ
 same:∀{d:Nat}{md:Md}{o:PV},1<d→zad GG d md AA.same_claim [v,o] σ=.ok (.bool false) σ
theorem zmQ{σ:zaa}{v:PV}(h:Gv σ v)(hn:isT .tuple v=false):NoC σ v:=by
 have i:=h.is .tuple
 rw [hn] at i
 refine ⟨fun {d md cs} hd=>?_,fun {d md o} hd=>?_⟩
 ·obtain ⟨e,rfl⟩:∃ e,d=e+1:=⟨d-1,by lia⟩
  exact at_ (zag (zbC _ _ _ _)) (tr (zcX (c:=true) (ziY (zbO (b:=false) i))) rfl)
 ·obtain ⟨e,rfl⟩:∃ e,d=e+1:=⟨d-1,by lia⟩
  exact at_ (zag (zbm _ _ _ _)) (tr (zcX (c:=true) (ziY (zbO (b:=false) i))) rfl)
theorem zlN{σ:zaa}{v:PV}{d:Nat}{md:Md}(hd:0<d)(h:Gv σ v):zad GG d md AA.is_whole [v] σ=.ok (.bool (isT .int v&&!(isT .bool v))) σ:=by
 obtain ⟨e,rfl⟩:∃ e,d=e+1:=⟨d-1,by lia⟩
 exact at_ (zag (zi9 _ _ _)) (zhL (h.is .int) (zbO (h.is .bool)))
theorem zfD{σ:zaa}{xs:List PV}(h:xs.length≠3)(hl:xs.length≤20):NoC σ (.tup xs):=by
 have hne:∀{md:Md},((biM md false "len" [.tup xs]).bind fun v3=>(zac .NotEq v3 (.int 3)))=M.ret (.bool true):=fun {md}=>tr (bd (zaz (by lia))) (tr (zkx _ _) (b_eq (by rw [beq_eq_false_iff_ne.mpr (by lia)];rfl)))
 refine ⟨fun {d md cs} hd=>?_,fun {d md o} hd=>?_⟩
 ·obtain ⟨e,rfl⟩:∃ e,d=e+1:=⟨d-1,by lia⟩
  exact at_ (zag (zbC _ _ _ _)) (at_ (if_t (tr (or_f rfl) (or_t hne))) rfl)
 ·obtain ⟨e,rfl⟩:∃ e,d=e+1:=⟨d-1,by lia⟩
  exact at_ (zag (zbm _ _ _ _)) (at_ (if_t (tr (or_f rfl) (or_t hne))) rfl)
theorem zpI{σ:zaa}{a b c:PV}(ha:Gv σ a)(hb:Gv σ b)(h:isT .bool b=true→isT .bool a=true):NoC σ (.tup [a,b,c]):=by
 refine ⟨fun {d md cs} hd=>?_,fun {d md o} hd=>?_⟩
 ·obtain ⟨e,rfl⟩:∃ e,d=e+1:=⟨d-1,by lia⟩
  refine at_ (zag (zbC _ _ _ _)) (tr (zcX (c:=true) (zcP (congrFun (show notM (isM GG (.bi .tuple) (.tup [a,b,c]))=M.ret (.bool false) from rfl) σ) (zcP (congrFun (show ((biM md false "len" [.tup [a,b,c]]).bind fun v3=>(zac .NotEq v3 (.int 3)))=M.ret (.bool false) from rfl) σ) ?_))) rfl)
  have i1:((index (.tup [a,b,c]) (.int 0)).bind fun v4=>(isM GG (.bi .bool) v4)) σ=.ok (.bool (isT .bool a)) σ:=at_ (bd (ix_0 _ _)) (ha.is .bool)
  have i2:(notM ((index (.tup [a,b,c]) (.int 1)).bind fun v5=>(isM GG (.bi .bool) v5))) σ=.ok (.bool !(isT .bool b)) σ:=zbO (at_ (bd (ix_1 _ _ _)) (hb.is .bool))
  refine (zh0 i1 i2).trans ?_
  cases q:isT .bool b with
  | true=>rw [h q];rfl
  | false=>rw [Bool.not_false,Bool.or_true]
 ·obtain ⟨e,rfl⟩:∃ e,d=e+1:=⟨d-1,by lia⟩
  refine at_ (zag (zbm _ _ _ _)) (tr (zcX (c:=true) (zcP (congrFun (show notM (isM GG (.bi .tuple) (.tup [a,b,c]))=M.ret (.bool false) from rfl) σ) (zcP (congrFun (show ((biM md false "len" [.tup [a,b,c]]).bind fun v3=>(zac .NotEq v3 (.int 3)))=M.ret (.bool false) from rfl) σ) ?_))) rfl)
  have i1:(notM ((seqM [(index (.tup [a,b,c]) (.int 0))]).bind fun v4=>(zad GG e md AA.is_whole v4))) σ=.ok (.bool !(isT .int a&&!(isT .bool a))) σ:=zbO (at_ (bd (sq1 (ix_0 _ _))) (zlN (by lia) ha))
  have i2:(notM ((index (.tup [a,b,c]) (.int 1)).bind fun v5=>(isM GG (.bi .bool) v5))) σ=.ok (.bool !(isT .bool b)) σ:=zbO (at_ (bd (ix_1 _ _ _)) (hb.is .bool))
  refine (zh0 i1 i2).trans ?_
  cases q:isT .bool b with
  | true=>rw [h q,Bool.not_true,Bool.and_false];rfl
  | false=>rw [Bool.not_false,Bool.or_true]
theorem Gv.claim{σ:zaa}{v:PV}(h:Gv σ v):(∃ c:Cl,v=c.pv∧c.s.dep<400)∨∀ σ',Gv σ' v→NoC σ' v:=by
 cases q:isT .tuple v with
 | false=>exact .inr fun σ' h'=>zmQ h' q
 | true=>
  cases v with
  | tup xs=>
   rcases h.tin with ⟨c,rfl,hd⟩ | ⟨h1,h2,h3⟩
   ·exact .inl ⟨c,rfl,hd⟩
   ·match xs,h1,h2,h3 with
    | [],_,_,_=>exact .inr fun σ' h'=>zfD (by decide) (by decide)
    | [_],_,_,_=>exact .inr fun σ' h'=>zfD (show 1≠3 by decide) (show 1≤20 by decide)
    | [_,_],_,_,_=>exact .inr fun σ' h'=>zfD (show 2≠3 by decide) (show 2≤20 by decide)
    | _::_::_::_::r,_,_,h3=>exact .inr fun σ' h'=>zfD (show r.length+1+1+1+1≠3 by lia) h3
    | [a,b,c],h1,h2,_=>
     have hb:isT .bool b=true→isT .bool a=true:=fun hb=>by
      obtain ⟨b',rfl⟩:=zpO hb
      obtain ⟨b'',rfl⟩:=h1 a b' c rfl
      rfl
     refine .inr fun σ' h'=>?_
     rcases h'.tin with ⟨x,hx,_⟩ | ⟨_,h2',_⟩
     ·injection hx with e1 e2;injection e2 with e2 e3;subst e1;subst e2
      exact nomatch (show false=true from hb rfl)
     ·exact zpI (h2' a (.head _)) (h2' b (.tail _ (.head _))) hb
  | _=>exact nomatch (show false=true from q)
structure Out (cs:List Cl) (σ:zaa) (v:PV):Prop where
 open_:∀{d:Nat}{md:Md},0<d→zad GG d md AA.l_is_open [cps cs,v] σ=.ok (.bool false) σ
 wo:∀{d:Nat}{r:Bool},2<d→zad GG d ⟨r,true⟩ AA.without [cps cs,v] σ=.ok .none σ
theorem zlM{σ:zaa}{v:PV}{d:Nat}{r:Bool}{cs:List Cl}(hd:2<d)(h:∀ o∈cs,zad GG (d-1) ⟨r,true⟩ AA.same_claim [v,o.pv] σ=.ok (.bool false) σ):zad GG d ⟨r,true⟩ AA.without [cps cs,v] σ=.ok .none σ:=by
 obtain ⟨e,rfl⟩:∃ e,d=e+1:=⟨d-1,by lia⟩
 have go:∀(suf:List Cl)(i:Nat)(v3 v4:Option PV),(∀ o∈suf,zad GG e ⟨r,true⟩ AA.same_claim [v,o.pv] σ=.ok (.bool false) σ)→zaW AA GG (zad GG e) ⟨r,true⟩ (M.ret ()) (zb2 i (suf.map Cl.pv)) (cps cs) v v3 v4 σ=.ok .none σ:=by
  intro suf
  induction suf with
  | nil=>exact fun _ _ _ _=>rfl
  | cons x suf ih=>exact fun i v3 v4 h=>tr (show _=ifM (zad GG e ⟨r,true⟩ AA.same_claim [v,x.pv]) _ (zaW AA GG (zad GG e) ⟨r,true⟩ (M.ret ()) (zb2 (i+1) (suf.map Cl.pv)) (cps cs) v (some (.int (i:Int))) (some x.pv)) σ from rfl) (tr (zcX (h x (.head _))) (ih (i+1) _ _ fun o ho=>h o (.tail _ ho)))
 refine at_ (zag (zf6 _ _ _ _)) ?_
 unfold zd2 zcH
 exact at_ (tr (c_t rfl) (bd (show zc2 [cps cs]=M.ret ⟨zb2 0 (cs.map Cl.pv),[]⟩ from rfl))) (go cs 0 Option.none Option.none h)
theorem zmN{σ:zaa}{v:PV}(h:Gv σ v){cs:List Cl}(hx:∀ x∈cs,x.s.dep<400):(∃ c∈cs,v=c.pv)∨∀ σ',Gv σ' v→Out cs σ' v:=by
 rcases h.claim with ⟨c,rfl,hd⟩ | hN
 ·cases q:cs.any fun x=>x.beq c with
  | true=>
   obtain ⟨x,hm,e⟩:=List.any_eq_true.mp q
   exact .inl ⟨x,hm,by rw [Cl.eq_of e]⟩
  | false=>
   have hb:∀ o∈cs,o.beq c=false:=fun o ho=>by
    cases z:o.beq c with
    | false=>rfl
    | true=>rw [List.any_eq_true.mpr ⟨o,ho,z⟩] at q;cases q
   refine .inr fun σ' _=>⟨fun {d md} hd'=>?_,fun {d r} hd'=>zlM hd' fun o ho=>?_⟩
   ·obtain ⟨e,rfl⟩:∃ e,d=e+1:=⟨d-1,by lia⟩
    have hin:zac .In c.pv (cps cs)=M.ret (.bool false):=by
     refine bd (a:=false) (show zhK c.pv (cs.map Cl.pv)=_ from tr (bd (Cl.wholeM c hd)) (tr (bd (zc9 hx)) ?_))
     rw [List.any_map]
     exact congrArg M.ret q
    exact at_ (zag (tr (zbC _ _ _ _) (tr (if_f (tr (or_f rfl) (tr (or_f rfl) (tr (or_f (tr (bd (ix_0 _ _)) rfl)) (zbz (b:=true) (tr (bd (ix_1 _ _ _)) rfl)))))) hin))) rfl
   ·refine congrFun ((same_claim hd (hx o ho) (by lia)).trans (b_eq ?_)) σ'
    rw [Cl.beq_comm];exact hb o ho
 ·exact .inr fun σ' h'=>⟨(hN σ' h').open_,fun {d r} hd'=>zlM hd' fun o _=>(hN σ' h').same (by lia)⟩
theorem zbs{cs:List Cl}{c:Cl}{d:Nat}{r:Bool}{w:Str}{l:List PV}{K:PV→PV→PV→M PV}(hd:2<d)(hc:c∈cs)(hx:∀ x∈cs,x.s.dep<400)(hl:cs.length≤400)(hll:l.length≤18) :
 (ifM (orM (notM (isM GG (.bi .tuple) (.tup (.str w::c.pv::l)))) (orM ((biM ⟨r,true⟩ false "len" [.tup (.str w::c.pv::l)]).bind fun v3=>(zac .Lt v3 (.int 2))) (notM ((index (.tup (.str w::c.pv::l)) (.int 0)).bind fun v4=>(isM GG (.bi .str) v4)))))
 (M.ret (.bool false))
 (((seqM [(M.ret (cps cs)),(index (.tup (.str w::c.pv::l)) (.int 1))]).bind fun v5=>(zad GG d ⟨r,true⟩ AA.without v5)).bind fun v6=>
 (ifM (zac .Is v6 PV.none)
 (M.ret (.bool false))
 (M.cond ((⟨r,true⟩:Md).lp&&true) (((seqM [(index (.tup (.str w::c.pv::l)) (.int 1))]).bind fun v7=>(zad GG d ⟨r,true⟩ AA.parts v7)).bind fun v8=>(tup2 v8 (K v6))) M.fail))))=K (cps (ers c cs)) (.str c.kd) (cps c.come):=
 tr (if_f (tr (or_f rfl) (tr (or_f (tr (bd (zaz (show l.length+2≤1000000 by lia))) (tr (c_lt _ _) (b_eq (decide_eq_false (show ¬ (((l.length+2:Nat):Int)<2) by lia)))))) (zbz (b:=true) (tr (bd (ix_0 _ _)) rfl))))) (tr (bd (tr (bd (sq2 rfl (ix_1 _ _ _))) (without (md:=⟨r,true⟩) rfl hd hx hl hc))) (tr (if_f rfl) (tr (c_t rfl) (tr (bd (tr (bd (sq1 (ix_1 _ _ _))) (parts (by lia)))) rfl))))
structure Agr (cs:List Cl) (v:PV) (b:Bool):Prop where
 lib:∀ {r d σ},tsz cs+10<d→Gv σ v→zad GG d ⟨r,true⟩ AA.stands_for [cps cs,v] σ=.ok (.bool b) σ
 law:∀ {r d σ},tsz cs+10<d→Gv σ v→∃ τ,zad GG d ⟨r,true⟩ AA.l_stands [cps cs,v] σ=.ok (.bool b) (σ++τ)
theorem zgJ{md:Md}{w:Str}{l:List PV}(hl:l.length≤20):(orM (notM (isM GG (.bi .tuple) (.tup (.str w::l)))) (orM ((biM md false "len" [.tup (.str w::l)]).bind fun v4=>(zac .Eq v4 (.int 0))) (notM ((index (.tup (.str w::l)) (.int 0)).bind fun v5=>(isM GG (.bi .str) v5)))))=M.ret (.bool false):=
 tr (or_f rfl) (tr (or_f (tr (bd (zaz (show l.length+1≤1000000 by lia))) (zen (show ((l.length+1:Nat):Int)≠0 by lia)))) (zbz (b:=true) (tr (bd (ix_0 _ _)) rfl)))
theorem zo8{md:Md}{σ:zaa}{j:Nat}{w:Str}{l:List PV}{k:Int}(h:σ[j]?=some (.dict szD))(hw:(dat szD w).getD (.int 0)=.int k)(hl:l.length≤20):((zbP md false "get" (.ref j) (seqM [(index (.tup (.str w::l)) (.int 0)),(M.ret (.int 0))])).bind fun v6=>((biM md false "len" [.tup (.str w::l)]).bind fun v7=>(zac .NotEq v6 v7))) σ=.ok (.bool !(k==((l.length+1:Nat):Int))) σ:=by
 refine tr (zab (at_ (congrArg (zbP md false "get" (.ref j)) (sq2 (ix_0 _ _) rfl)) (zk1 h))) ?_
 rw [hw]
 exact at_ (bd (zaz (show l.length+1≤1000000 by lia))) rfl
theorem zd9{cs:List Cl}{w:Str}{l:List PV}{k:Int}{r:Bool}{d:Nat}{σ:zaa}(hd:0<d)(hl:l.length≤20)(hw:(dat szD w).getD (.int 0)=.int k) (hk:k≠((l.length+1:Nat):Int)):zad GG d ⟨r,true⟩ AA.l_stands [cps cs,.tup (.str w::l)] σ=.ok (.bool false) (σ++[.dict szD]):=by
 obtain ⟨e,rfl⟩:∃ e,d=e+1:=⟨d-1,by lia⟩
 refine at_ (zag (zaO _ _ _ _)) (tr (zab (a:=PV.ref σ.length) (σ':=σ++[Cel.dict szD]) rfl) (at_ (if_f (zgJ hl)) (tr (zcX (c:=true) (ziY ?_)) rfl)))
 refine (zo8 za1 hw hl).trans ?_
 rw [beq_eq_false_iff_ne.mpr hk];rfl
theorem zoP{cs:List Cl}{w:Str}{c:PV}{l:List PV}{k:Int}{r:Bool}{d:Nat}{σ:zaa}(hd:1<d)(hl:l.length≤18)(hw:(dat szD w).getD (.int 0)=.int k)(ho:Out cs (σ++[.dict szD]) c):zad GG d ⟨r,true⟩ AA.l_stands [cps cs,.tup (.str w::c::l)] σ=.ok (.bool false) (σ++[.dict szD]):=by
 by_cases hk:k=(((c::l).length+1:Nat):Int)
 ·obtain ⟨e,rfl⟩:∃ e,d=e+1:=⟨d-1,by lia⟩
  refine at_ (zag (zaO _ _ _ _)) (tr (zab (a:=PV.ref σ.length) (σ':=σ++[Cel.dict szD]) rfl) (at_ (if_f (zgJ (show l.length+1≤20 by lia))) (tr (zcX (c:=true) (zcP ?_ (zbO (b:=false) (at_ (bd (sq2 rfl (ix_1 _ _ _))) (ho.open_ (by lia)))))) rfl)))
  refine (zo8 (l:=c::l) za1 hw (show l.length+1≤20 by lia)).trans ?_
  rw [hk,beq_self_eq_true];rfl
 ·exact zd9 (by lia) (show l.length+1≤20 by lia) hw hk
theorem zoC{cs:List Cl}{w:Str}{c:PV}{l:List PV}{r:Bool}{d:Nat}{σ:zaa}(hd:3<d)(hl:l.length≤18)(ho:Out cs σ c):zad GG d ⟨r,true⟩ AA.stands_for [cps cs,.tup (.str w::c::l)] σ=.ok (.bool false) σ:=by
 obtain ⟨e,rfl⟩:∃ e,d=e+1:=⟨d-1,by lia⟩
 exact at_ (zag (zak _ _ _ _)) (at_ (if_f (tr (or_f rfl) (tr (or_f (tr (bd (zaz (show l.length+2≤1000000 by lia))) (tr (c_lt _ _) (b_eq (decide_eq_false (show ¬ (((l.length+2:Nat):Int)<2) by lia)))))) (zbz (b:=true) (tr (bd (ix_0 _ _)) rfl))))) (tr (zab (at_ (bd (sq2 rfl (ix_1 _ _ _))) (ho.wo (by lia)))) (at_ (if_t rfl) rfl)))
theorem zjD(w:Str):∃ k:Int,(dat szD w).getD (.int 0)=.int k∧k≠1:=by
 unfold szD
 rw [zay,zay,zay,zay]
 cases decide (("shut":Str)=w) with
 | true=>exact ⟨2,rfl,by decide⟩
 | false=>cases decide (("clash":Str)=w) with
  | true=>exact ⟨3,rfl,by decide⟩
  | false=>cases decide (("apart":Str)=w) with
   | true=>exact ⟨3,rfl,by decide⟩
   | false=>cases decide (("fork":Str)=w) with
    | true=>exact ⟨4,rfl,by decide⟩
    | false=>exact ⟨0,rfl,by decide⟩
theorem znJ{α:Type}:∀{l:List α},l.length=2→∃ a b,l=[a,b]
 | [a,b],_=>⟨a,b,rfl⟩
theorem znh{w:Str}(h1:w≠"shut")(h2:w≠"clash")(h3:w≠"apart")(h4:w≠"fork"):(dat szD w).getD (.int 0)=.int 0:=by
 unfold szD
 rw [zay,zay,zay,zay,decide_eq_false h1.symm,decide_eq_false h2.symm,decide_eq_false h3.symm,decide_eq_false h4.symm];rfl
theorem zm1{x y:M PV}{σ σ':zaa}(h:x σ=.ok (.bool false) σ'):andM x y σ=.ok (.bool false) σ':=(zab h).trans (zab (a:=false) rfl)
theorem zny(a b:Say)(ha:a.dep<400)(hb:b.dep<400):zac .NotEq a.pv b.pv=M.ret (.bool !(a.beq b)):=by
 refine bd (a:=a.beq b) ?_
 have h1:=zfw a ha
 have h2:=zfw b hb
 have e:eqX a.pv b.pv=eqM a.pv b.pv:=by cases a <;> rfl
 exact e.trans (tr (bd h1) (tr (bd h2) rfl))
theorem els{σ:zaa}{w:Str}{x:PV}{l:List PV} (h:Gv σ (.tup (.str w::x::l))):Gv σ x∧(∀ y∈l,Gv σ y)∧l.length≤18:=by
 rcases h.tin with ⟨c,hc,_⟩ | ⟨_,h2,h3⟩
 ·injection hc with e _;cases e
 ·exact ⟨h2 x (.tail _ (.head _)),fun y hy=>h2 y (.tail _ (.tail _ hy)),by have h3:l.length+2≤20:=h3;lia⟩
theorem zf0{cs:List Cl}{v:PV} (h:∀ {σ},Gv σ v→(orM (notM (isM GG (.bi .tuple) v)) (orM ((biM ⟨true,true⟩ false "len" [v]).bind fun v4=>(zac .Eq v4 (.int 0))) (notM ((index v (.int 0)).bind fun v5=>(isM GG (.bi .str) v5))))) σ=.ok (.bool true) σ)
  (hl:∀ {σ},Gv σ v→(orM (notM (isM GG (.bi .tuple) v)) (orM ((biM ⟨true,true⟩ false "len" [v]).bind fun v4=>(zac .Lt v4 (.int 2))) (notM ((index v (.int 0)).bind fun v5=>(isM GG (.bi .str) v5))))) σ=.ok (.bool true) σ):Agr cs v false:=by
 have lm:∀(r:Bool),biM ⟨r,true⟩ false "len" [v]=biM ⟨true,true⟩ false "len" [v]:=fun r=>(zg0 _ _ _).trans (zg0 _ _ _).symm
 refine ⟨fun {r d σ} hd g=>?_,fun {r d σ} hd g=>⟨[.dict szD],?_⟩⟩
 ·obtain ⟨e,rfl,he⟩:=ten hd
  refine at_ (zag (zak _ _ _ _)) (tr (zcX (c:=true) ?_) rfl)
  rw [lm r];exact hl g
 ·obtain ⟨e,rfl,he⟩:=ten hd
  refine at_ (zag (zaO _ _ _ _)) (tr (zab (a:=PV.ref σ.length) (σ':=σ++[Cel.dict szD]) rfl) (tr (zcX (c:=true) ?_) rfl))
  rw [lm r];exact h (g.app _)
theorem zmB{cs:List Cl}{c:Cl}{l:List PV}(hc:c∈cs)(hl:cs.length+tsz cs≤300)(hx:∀ c∈cs,c.s.dep≤100):Agr cs (.tup (.str "shut"::c.pv::l)) (l.isEmpty&&(c.kd=="shut")):=by
 cases l with
 | nil=>
  refine ⟨fun {r d σ} hd g=>?_,fun {r d σ} hd g=>⟨[.dict szD],?_⟩⟩
  ·obtain ⟨e,rfl,he⟩:=ten hd
   exact at_ (zag (tr (zak _ _ _ _) (tr (zbs (l:=[]) (Nat.lt_of_lt_of_le (by decide) he) hc (dep4 hx) (few hl) (by decide)) (tr (if_t (by kernel_rfl)) (zcn (by kernel_rfl)))))) rfl
  ·obtain ⟨e,rfl,he⟩:=ten hd
   refine at_ (zag (zaO _ _ _ _)) (zcC (l:=[]) (Nat.lt_of_lt_of_le (by decide) he) hc (dep4 hx) (by kernel_rfl) (by decide) ?_)
   refine at_ (tr (if_f (by kernel_rfl)) (if_b (tr (bd (ix_0 _ _)) (ze1 _ _)))) ?_
   show _=Rs.ok (PV.bool (c.kd=="shut")) _
   cases q:c.kd=="shut" with
   | true=>rw [eq_of_beq q];exact at_ (tr (c_f (by decide)) (if_t (by kernel_rfl))) rfl
   | false=>exact at_ (c_t (by rw [show (("shut":Str)==c.kd)=false from beq_eq_false_iff_ne.mpr fun e=>(beq_eq_false_iff_ne.mp q) e.symm];rfl)) rfl
 | cons x l=>
  refine ⟨fun {r d σ} hd g=>?_,fun {r d σ} hd g=>⟨[.dict szD],?_⟩⟩
  ·obtain ⟨e,rfl,he⟩:=ten hd
   have h3:l.length+1≤18:=(els g).2.2
   exact at_ (zag (tr (zak _ _ _ _) (tr (zbs (l:=x::l) (Nat.lt_of_lt_of_le (by decide) he) hc (dep4 hx) (few hl) h3) (tr (if_t (tr (bd (ix_0 _ _)) (by kernel_rfl))) (zeM (tr (bd (zaz (show l.length+3≤1000000 by lia))) (zen (show ((l.length+3:Nat):Int)≠2 by lia)))))))) rfl
  ·have h3:l.length+1≤18:=(els g).2.2
   exact zd9 (k:=2) (Nat.lt_of_le_of_lt (Nat.zero_le _) hd) (show l.length+2≤20 by lia) (by kernel_rfl) (show (2:Int)≠((l.length+2+1:Nat):Int) by lia)
theorem zlG{cs:List Cl}{c:Cl}{l:List PV}{σ0:zaa}(hc:c∈cs)(hl:cs.length+tsz cs≤300)(hx:∀ c∈cs,c.s.dep≤100)(g0:∀ y∈l,Gv σ0 y):∃ b,Agr cs (.tup (.str "clash"::c.pv::l)) b:=by
 have bad:l.length≠1→Agr cs (.tup (.str "clash"::c.pv::l)) false:=fun hn=>by
  refine ⟨fun {r d σ} hd g=>?_,fun {r d σ} hd g=>⟨[.dict szD],?_⟩⟩
  ·obtain ⟨e,rfl,he⟩:=ten hd
   have h3:=(els g).2.2
   exact at_ (zag (tr (zak _ _ _ _) (tr (zbs (l:=l) (Nat.lt_of_lt_of_le (by decide) he) hc (dep4 hx) (few hl) h3) (tr (if_f (tr (bd (ix_0 _ _)) (by kernel_rfl))) (tr (if_t (tr (bd (ix_0 _ _)) (by kernel_rfl))) (zeM (tr (bd (zaz (show l.length+2≤1000000 by lia))) (zen (show ((l.length+2:Nat):Int)≠3 by lia))))))))) rfl
  ·have h3:=(els g).2.2
   exact zd9 (k:=3) (Nat.lt_of_le_of_lt (Nat.zero_le _) hd) (show l.length+1≤20 by lia) (by kernel_rfl) (show (3:Int)≠((l.length+1+1:Nat):Int) by lia)
 match l,g0,bad with
 | [],_,bad=>exact ⟨false,bad (by decide)⟩
 | _::_::r,_,bad=>exact ⟨false,bad (show r.length+1+1≠1 by lia)⟩
 | [o],g0,_=>
  rcases zmN (g0 o (.head _)) (dep4 hx) with ⟨o,ho,rfl⟩ | hO
  ·refine ⟨clsh c o,fun {r d σ} hd g=>?_,fun {r d σ} hd g=>⟨[.dict szD],?_⟩⟩
   ·obtain ⟨e,rfl,he⟩:=ten hd
    have he2:2<e:=Nat.lt_of_lt_of_le (by decide) he
    have q1:(((seqM [(M.ret (cps cs)),(index (.tup [.str "clash",c.pv,o.pv]) (.int 2))]).bind fun v15=>(zad GG e ⟨r,true⟩ AA.without v15)).bind fun v16=>(zac .IsNot v16 PV.none))=M.ret (.bool true):=tr (bd (tr (bd (sq2 rfl (ix_2 _ _ _ _))) (without (md:=⟨r,true⟩) rfl he2 (dep4 hx) (few hl) ho))) rfl
    have q2:((seqM [(index (.tup [.str "clash",c.pv,o.pv]) (.int 1)),(index (.tup [.str "clash",c.pv,o.pv]) (.int 2))]).bind fun v17=>(zad GG e ⟨r,true⟩ AA.clashes v17))=M.ret (.bool (clsh c o)):=tr (bd (sq2 (ix_1 _ _ _) (ix_2 _ _ _ _))) (clashes (Nat.lt_trans (by decide) he2) (dep4 hx c hc) (dep4 hx o ho))
    exact at_ (zag (tr (zak _ _ _ _) (tr (zbs (l:=[o.pv]) he2 hc (dep4 hx) (few hl) (show 1≤18 by decide)) (tr (if_f (tr (bd (ix_0 _ _)) (by kernel_rfl))) (tr (if_t (tr (bd (ix_0 _ _)) (by kernel_rfl))) (tr (zcn (tr (bd (zaz (show 3≤1000000 by decide))) (zje rfl))) (tr (zcn q1) q2))))))) rfl
   ·obtain ⟨e,rfl,he⟩:=ten hd
    have he0:0<e:=Nat.lt_of_lt_of_le (by decide) he
    refine at_ (zag (zaO _ _ _ _)) (zcC (l:=[o.pv]) he0 hc (dep4 hx) (by kernel_rfl) (show 1≤5 by decide) ?_)
    have q2:((seqM [(M.ret (cps cs)),(index (.tup [.str "clash",c.pv,o.pv]) (.int 2))]).bind fun v14=>(zad GG e ⟨r,true⟩ AA.l_is_open v14))=M.ret (.bool true):=tr (bd (sq2 rfl (ix_2 _ _ _ _))) (zkT he0 (dep4 hx) ho)
    have q3:((index (.tup [.str "clash",c.pv,o.pv]) (.int 2)).bind fun v15=>(index v15 (.int 2)))=M.ret o.s.pv:=tr (bd (ix_2 _ _ _ _)) (ix_2 _ _ _ _)
    have q4:((index (.tup [.str "clash",c.pv,o.pv]) (.int 1)).bind fun v17=>(index v17 (.int 2)))=M.ret c.s.pv:=tr (bd (ix_1 _ _ _)) (ix_2 _ _ _ _)
    have q6:((index (.tup [.str "clash",c.pv,o.pv]) (.int 1)).bind fun v19=>(index v19 (.int 1)))=M.ret (.bool c.b):=tr (bd (ix_1 _ _ _)) (ix_1 _ _ _)
    have q7:((index (.tup [.str "clash",c.pv,o.pv]) (.int 2)).bind fun v20=>(index v20 (.int 1)))=M.ret (.bool o.b):=tr (bd (ix_2 _ _ _ _)) (ix_1 _ _ _)
    have q5:=zny o.s c.s (dep4 hx o ho) (dep4 hx c hc)
    have key:clsh c o=((c.kd=="name")&&(o.s.beq c.s&&(c.b&&!o.b))):=by
     have h1:(c.kd=="name")=isN c.s:=by
      obtain ⟨n,b,s⟩:=c
      cases s <;> cases b <;> rfl
     have h2:o.s.beq c.s=c.s.beq o.s:=by
      cases z:o.s.beq c.s with
      | true=>rw [zcm _ _ z];exact (zbd _).symm
      | false=>
       cases z':c.s.beq o.s with
       | true=>rw [zcm _ _ z',show o.s.beq o.s=true from zbd _] at z;cases z
       | false=>rfl
     unfold clsh
     rw [h1,h2]
     cases isN c.s <;> cases c.b <;> cases o.b <;> cases c.s.beq o.s <;> rfl
    rw [key]
    refine at_ (tr (if_t (tr (bd (ix_0 _ _)) (by kernel_rfl))) (tr (if_b (tr (or_f (zbz q2)) (or_b (ze1 _ _) (tr (bd q3) (tr (bd q4) q5))))) (show M.cond _ _ _=M.ret (.bool ((c.kd=="name")&&(o.s.beq c.s&&(c.b&&!o.b)))) from ?_))) rfl
    cases c.kd=="name" with
    | false=>rfl
    | true=>cases o.s.beq c.s with
     | false=>rfl
     | true=>exact show _=M.ret (PV.bool (c.b&&!o.b)) from zeF q6 (zbz q7)
  ·refine ⟨false,fun {r d σ} hd g=>?_,fun {r d σ} hd g=>⟨[.dict szD],?_⟩⟩
   ·obtain ⟨e,rfl,he⟩:=ten hd
    have he2:2<e:=Nat.lt_of_lt_of_le (by decide) he
    have gO:=hO σ ((els g).2.1 o (.head _))
    exact at_ (zag (tr (zak _ _ _ _) (tr (zbs (l:=[o]) he2 hc (dep4 hx) (few hl) (show 1≤18 by decide)) (tr (if_f (tr (bd (ix_0 _ _)) (by kernel_rfl))) (tr (if_t (tr (bd (ix_0 _ _)) (by kernel_rfl))) (zcn (tr (bd (zaz (show 3≤1000000 by decide))) (zje rfl)))))))) (zm1 (tr (zab (at_ (bd (sq2 rfl (ix_2 _ _ _ _))) (gO.wo he2))) rfl))
   ·obtain ⟨e,rfl,he⟩:=ten hd
    have he0:0<e:=Nat.lt_of_lt_of_le (by decide) he
    have gO:=hO (σ++[.dict szD]) (((els g).2.1 o (.head _)).app _)
    refine at_ (zag (zaO _ _ _ _)) (zcC (l:=[o]) he0 hc (dep4 hx) (by kernel_rfl) (show 1≤5 by decide) ?_)
    exact at_ (if_t (tr (bd (ix_0 _ _)) (by kernel_rfl))) (tr (zcX (c:=true) (ziY (zbO (b:=false) (at_ (bd (sq2 rfl (ix_2 _ _ _ _))) (gO.open_ he0))))) rfl)
section
variable {cs:List Cl} {c:Cl} {l:List PV} {σ0:zaa}
theorem zlH(hc:c∈cs)(hl:cs.length+tsz cs≤300)(hx:∀ c∈cs,c.s.dep≤100)(ih:∀ t∈l,c.kd="apart"→∃ b,Agr (ers c cs++c.come) t b):∃ b,Agr cs (.tup (.str "apart"::c.pv::l)) b:=by
 by_cases h1:l.length=1
 ·obtain ⟨t,rfl⟩:=List.length_eq_one_iff.mp h1
  cases q:c.kd=="apart" with
  | true=>
   have hk:c.kd="apart":=eq_of_beq q
   obtain ⟨b,A⟩:=ih t (.head _) hk
   have N:=zdK (l:=c.come) hc (.inl hk) hl (zbJ c) (Nat.le_refl _) (fun _ h=>h) hx
   refine ⟨b,fun {r d σ} hd g=>?_,fun {r d σ} hd g=>?_⟩
   ·obtain ⟨e,rfl,he⟩:=ten hd
    refine at_ (zag (tr (zak _ _ _ _) (zbs (l:=[t]) (Nat.lt_of_lt_of_le (by decide) he) hc (dep4 hx) (few hl) (show 1≤18 by decide)))) ?_
    rw [hk]
    exact at_ (tr (if_f (tr (bd (ix_0 _ _)) (by kernel_rfl))) (tr (if_f (tr (bd (ix_0 _ _)) (by kernel_rfl))) (tr (if_t (tr (bd (ix_0 _ _)) (by kernel_rfl))) (tr (zcn (tr (bd (zaz (show 3≤1000000 by decide))) (zje rfl))) (tr (zcn (by kernel_rfl)) (bd (sq2 (zbM _ _ N.add) (ix_2 _ _ _ _)))))))) (A.lib (N.down hd) ((els g).2.1 t (.head _)))
   ·obtain ⟨e,rfl,he⟩:=ten hd
    have he0:0<e:=Nat.lt_of_lt_of_le (by decide) he
    obtain ⟨τ,e1⟩:=A.law (r:=r) (N.down hd) (((els g).2.1 t (.head _)).app [.dict szD])
    refine ⟨[.dict szD]++τ,at_ (zag (zaO _ _ _ _)) (zcC (l:=[t]) he0 hc (dep4 hx) (by kernel_rfl) (show 1≤5 by decide) ?_)⟩
    rw [hk]
    refine at_ (tr (if_f (by kernel_rfl)) (tr (if_f (by kernel_rfl)) (tr (if_f (by kernel_rfl)) (tr (bd (tr (bd (sq2 rfl (ix_1 _ _ _))) (l_without he0 (dep4 hx) (few hl) hc))) (if_t (by kernel_rfl)))))) (at_ (bd (sq2 (zbM _ _ N.add) (ix_2 _ _ _ _))) ?_)
    rw [← List.append_assoc];exact e1
  | false=>
   refine ⟨false,fun {r d σ} hd g=>?_,fun {r d σ} hd g=>⟨[.dict szD],?_⟩⟩
   ·obtain ⟨e,rfl,he⟩:=ten hd
    exact at_ (zag (tr (zak _ _ _ _) (tr (zbs (l:=[t]) (Nat.lt_of_lt_of_le (by decide) he) hc (dep4 hx) (few hl) (show 1≤18 by decide)) (tr (if_f (tr (bd (ix_0 _ _)) (by kernel_rfl))) (tr (if_f (tr (bd (ix_0 _ _)) (by kernel_rfl))) (tr (if_t (tr (bd (ix_0 _ _)) (by kernel_rfl))) (tr (zcn (tr (bd (zaz (show 3≤1000000 by decide))) (zje rfl))) (zeM (tr (zet _ _) (b_eq q))))))))) ) rfl
   ·obtain ⟨e,rfl,he⟩:=ten hd
    refine at_ (zag (zaO _ _ _ _)) (zcC (l:=[t]) (Nat.lt_of_lt_of_le (by decide) he) hc (dep4 hx) (by kernel_rfl) (show 1≤5 by decide) ?_)
    exact at_ (tr (if_f (tr (bd (ix_0 _ _)) (by kernel_rfl))) (if_t (tr (bd (ix_0 _ _)) (tr (ze1 _ _) (b_eq (by rw [show (("apart":Str)==c.kd)=false from beq_eq_false_iff_ne.mpr fun e=>(beq_eq_false_iff_ne.mp q) e.symm];rfl)))))) rfl
 ·refine ⟨false,fun {r d σ} hd g=>?_,fun {r d σ} hd g=>⟨[.dict szD],?_⟩⟩
  ·obtain ⟨e,rfl,he⟩:=ten hd
   have h3:=(els g).2.2
   exact at_ (zag (tr (zak _ _ _ _) (tr (zbs (l:=l) (Nat.lt_of_lt_of_le (by decide) he) hc (dep4 hx) (few hl) h3) (tr (if_f (tr (bd (ix_0 _ _)) (by kernel_rfl))) (tr (if_f (tr (bd (ix_0 _ _)) (by kernel_rfl))) (tr (if_t (tr (bd (ix_0 _ _)) (by kernel_rfl))) (zeM (tr (bd (zaz (show l.length+2≤1000000 by lia))) (zen (show ((l.length+2:Nat):Int)≠3 by lia)))))))))) rfl
  ·have h3:=(els g).2.2
   exact zd9 (k:=3) (Nat.lt_of_le_of_lt (Nat.zero_le _) hd) (show l.length+1≤20 by lia) (by kernel_rfl) (show (3:Int)≠((l.length+1+1:Nat):Int) by lia)
theorem zmC(hc:c∈cs)(hl:cs.length+tsz cs≤300)(hx:∀ c∈cs,c.s.dep≤100)(ih1:∀ t∈l,c.kd="fork"→∃ b,Agr (ers c cs++c.come.take 1) t b)(ih2:∀ t∈l,c.kd="fork"→∃ b,Agr (ers c cs++c.come.drop 1) t b):∃ b,Agr cs (.tup (.str "fork"::c.pv::l)) b:=by
 by_cases h1:l.length=2
 ·obtain ⟨t,u,rfl⟩:=znJ h1
  cases q:c.kd=="fork" with
  | true=>
   have hk:c.kd="fork":=eq_of_beq q
   obtain ⟨b1,A1⟩:=ih1 t (.head _) hk
   obtain ⟨b2,A2⟩:=ih2 u (.tail _ (.head _)) hk
   have N1:=zdK hc (.inr hk) hl zca.1 (zbl c.come 1).1 (fun _ h=>List.mem_of_mem_take h) hx
   have N2:=zdK hc (.inr hk) hl zca.2 (zbl c.come 1).2 (fun _ h=>List.mem_of_mem_drop h) hx
   have ix3:index (.tup [.str "fork",c.pv,t,u]) (.int 3)=M.ret u:=zgE (k:=3) rfl (by decide)
   refine ⟨b1&&b2,fun {r d σ} hd g=>?_,fun {r d σ} hd g=>?_⟩
   ·obtain ⟨e,rfl,he⟩:=ten hd
    refine at_ (zag (tr (zak _ _ _ _) (zbs (l:=[t,u]) (Nat.lt_of_lt_of_le (by decide) he) hc (dep4 hx) (few hl) (show 2≤18 by decide)))) ?_
    rw [hk]
    refine at_ (tr (if_f (tr (bd (ix_0 _ _)) (by kernel_rfl))) (tr (if_f (tr (bd (ix_0 _ _)) (by kernel_rfl))) (tr (if_f (tr (bd (ix_0 _ _)) (by kernel_rfl))) (if_f (tr (or_f (tr (bd (ix_0 _ _)) (by kernel_rfl))) (tr (or_f (tr (bd (zaz (show 4≤1000000 by decide))) (by kernel_rfl))) (by kernel_rfl))))))) ?_
    exact zhL (at_ (bd (sq2 (tr (bd (zn5 c)) (zbM _ _ N1.add)) (ix_2 _ _ _ _))) (A1.lib (N1.down hd) ((els g).2.1 t (.head _)))) (at_ (bd (sq2 (tr (bd (zn4 c)) (zbM _ _ N2.add)) ix3)) (A2.lib (N2.down hd) ((els g).2.1 u (.tail _ (.head _)))))
   ·obtain ⟨e,rfl,he⟩:=ten hd
    have he0:0<e:=Nat.lt_of_lt_of_le (by decide) he
    obtain ⟨τ,e1⟩:=A1.law (r:=r) (N1.down hd) (((els g).2.1 t (.head _)).app [.dict szD])
    obtain ⟨τ2,e2⟩:=A2.law (r:=r) (N2.down hd) ((((els g).2.1 u (.tail _ (.head _))).app [.dict szD]).app τ)
    have st:∀{rs:Rs PV},(andM ((seqM [((cutM false (cps c.come) Option.none (some 1)).bind fun v25=>(opM false .Add (cps (ers c cs)) v25)),(index (.tup [.str "fork",c.pv,t,u]) (.int 2))]).bind fun v26=>(zad GG e ⟨r,true⟩ AA.l_stands v26)) ((seqM [((cutM false (cps c.come) (some 1) Option.none).bind fun v27=>(opM false .Add (cps (ers c cs)) v27)),(index (.tup [.str "fork",c.pv,t,u]) (.int 3))]).bind fun v28=>(zad GG e ⟨r,true⟩ AA.l_stands v28))) (σ++[.dict szD])=rs→zad GG (e+1) ⟨r,true⟩ AA.l_stands [cps cs,.tup [.str "fork",c.pv,t,u]] σ=rs:=fun h=>by
     refine at_ (zag (zaO _ _ _ _)) (zcC (l:=[t,u]) he0 hc (dep4 hx) (by kernel_rfl) (show 2≤5 by decide) ?_)
     rw [hk]
     exact at_ (tr (if_f (by kernel_rfl)) (tr (if_f (by kernel_rfl)) (tr (if_f (by kernel_rfl)) (tr (bd (tr (bd (sq2 rfl (ix_1 _ _ _))) (l_without he0 (dep4 hx) (few hl) hc))) (if_f (by kernel_rfl)))))) h
    have f1:((seqM [((cutM false (cps c.come) Option.none (some 1)).bind fun v25=>(opM false .Add (cps (ers c cs)) v25)),(index (.tup [.str "fork",c.pv,t,u]) (.int 2))]).bind fun v26=>(zad GG e ⟨r,true⟩ AA.l_stands v26)) (σ++[.dict szD])=.ok (.bool b1) (σ++[.dict szD]++τ):=at_ (bd (sq2 (tr (bd (zn5 c)) (zbM _ _ N1.add)) (ix_2 _ _ _ _))) e1
    cases b1 with
    | false=>
     refine ⟨[.dict szD]++τ,st ?_⟩
     rw [← List.append_assoc];exact zm1 f1
    | true=>
     refine ⟨[.dict szD]++τ++τ2,st ?_⟩
     rw [← List.append_assoc,← List.append_assoc]
     exact zpq f1 (at_ (bd (sq2 (tr (bd (zn4 c)) (zbM _ _ N2.add)) ix3)) e2)
  | false=>
   refine ⟨false,fun {r d σ} hd g=>?_,fun {r d σ} hd g=>⟨[.dict szD],?_⟩⟩
   ·obtain ⟨e,rfl,he⟩:=ten hd
    exact at_ (zag (tr (zak _ _ _ _) (tr (zbs (l:=[t,u]) (Nat.lt_of_lt_of_le (by decide) he) hc (dep4 hx) (few hl) (show 2≤18 by decide)) (tr (if_f (tr (bd (ix_0 _ _)) (by kernel_rfl))) (tr (if_f (tr (bd (ix_0 _ _)) (by kernel_rfl))) (tr (if_f (tr (bd (ix_0 _ _)) (by kernel_rfl))) (if_t (tr (or_f (tr (bd (ix_0 _ _)) (by kernel_rfl))) (tr (or_f (tr (bd (zaz (show 4≤1000000 by decide))) (by kernel_rfl))) (tr (ze1 _ _) (b_eq (by rw [q];rfl)))))))))))) rfl
   ·obtain ⟨e,rfl,he⟩:=ten hd
    refine at_ (zag (zaO _ _ _ _)) (zcC (l:=[t,u]) (Nat.lt_of_lt_of_le (by decide) he) hc (dep4 hx) (by kernel_rfl) (show 2≤5 by decide) ?_)
    exact at_ (tr (if_f (tr (bd (ix_0 _ _)) (by kernel_rfl))) (if_t (tr (bd (ix_0 _ _)) (tr (ze1 _ _) (b_eq (by rw [show (("fork":Str)==c.kd)=false from beq_eq_false_iff_ne.mpr fun e=>(beq_eq_false_iff_ne.mp q) e.symm];rfl)))))) rfl
 ·refine ⟨false,fun {r d σ} hd g=>?_,fun {r d σ} hd g=>⟨[.dict szD],?_⟩⟩
  ·obtain ⟨e,rfl,he⟩:=ten hd
   have h3:=(els g).2.2
   exact at_ (zag (tr (zak _ _ _ _) (tr (zbs (l:=l) (Nat.lt_of_lt_of_le (by decide) he) hc (dep4 hx) (few hl) h3) (tr (if_f (tr (bd (ix_0 _ _)) (by kernel_rfl))) (tr (if_f (tr (bd (ix_0 _ _)) (by kernel_rfl))) (tr (if_f (tr (bd (ix_0 _ _)) (by kernel_rfl))) (if_t (tr (or_f (tr (bd (ix_0 _ _)) (by kernel_rfl))) (or_t (tr (bd (zaz (show l.length+2≤1000000 by lia))) (tr (zkx _ _) (b_eq (show (!(((l.length+2:Nat):Int)==4))=true by rw [beq_eq_false_iff_ne.mpr (show ((l.length+2:Nat):Int)≠4 by lia)];rfl))))))))))))) rfl
  ·have h3:=(els g).2.2
   exact zd9 (k:=4) (Nat.lt_of_le_of_lt (Nat.zero_le _) hd) (show l.length+1≤20 by lia) (by kernel_rfl) (show (4:Int)≠((l.length+1+1:Nat):Int) by lia)
theorem zmA{w:Str}(hc:c∈cs)(hl:cs.length+tsz cs≤300)(hx:∀ c∈cs,c.s.dep≤100)(h1:w≠"shut")(h2:w≠"clash")(h3:w≠"apart")(h4:w≠"fork"):Agr cs (.tup (.str w::c.pv::l)) false:=by
 refine ⟨fun {r d σ} hd g=>?_,fun {r d σ} hd g=>⟨[.dict szD],?_⟩⟩
 ·obtain ⟨e,rfl,he⟩:=ten hd
  have no:∀{x:Str},w≠x→((index (.tup (.str w::c.pv::l)) (.int 0)).bind fun v=>zac .Eq v (.str x))=M.ret (.bool false):=fun h=>tr (bd (ix_0 _ _)) (tr (zet _ _) (b_eq (beq_eq_false_iff_ne.mpr h)))
  exact at_ (zag (tr (zak _ _ _ _) (tr (zbs (l:=l) (Nat.lt_of_lt_of_le (by decide) he) hc (dep4 hx) (few hl) (els g).2.2) (tr (if_f (no h1)) (tr (if_f (no h2)) (tr (if_f (no h3)) (if_t (or_t (tr (bd (ix_0 _ _)) (tr (ze1 _ _) (b_eq (by rw [beq_eq_false_iff_ne.mpr h4];rfl))))))))))) ) rfl
 ·have h5:=(els g).2.2
  exact zd9 (k:=0) (Nat.lt_of_le_of_lt (Nat.zero_le _) hd) (show l.length+1≤20 by lia) (znh h1 h2 h3 h4) (show (0:Int)≠((l.length+1+1:Nat):Int) by lia)
end
theorem zin{cs:List Cl}{v:PV}{σ0:zaa}(ih:∀ c∈cs,∀ l,Open c→Nx cs c l→∀ t,Gv σ0 t→∃ b,Agr (ers c cs++l) t b)(hl:cs.length+tsz cs≤300)(hx:∀ c∈cs,c.s.dep≤100)(g0:Gv σ0 v):∃ b,Agr cs v b:=by
 cases q:isT .tuple v with
 | false=>exact ⟨false,zf0 (fun {σ} g=>ziY (by have:=zbO (g.is .tuple);rwa [q] at this)) (fun {σ} g=>ziY (by have:=zbO (g.is .tuple);rwa [q] at this))⟩
 | true=>
  cases v with
  | tup xs=>
   have hstr:∀{x:PV}{r:List PV},isT .str x=false→∀ {σ},Gv σ (.tup (x::r))→(notM ((index (.tup (x::r)) (.int 0)).bind fun v5=>(isM GG (.bi .str) v5))) σ=.ok (.bool true) σ:=fun {x r} hs {σ} g=>by
    have gx:isM GG (.bi .str) x σ=.ok (.bool false) σ:=by
     rcases g.tin with ⟨c,hc,_⟩ | ⟨_,h2,_⟩
     ·injection hc with e _;subst e;rfl
     ·have:=(h2 x (.head _)).is .str;rwa [hs] at this
    exact zbO (b:=false) (at_ (bd (ix_0 _ _)) gx)
   have hlen:∀{x:PV}{r:List PV} {σ},Gv σ (.tup (x::r))→r.length≤19:=fun {x r σ} g=>by
    rcases g.tin with ⟨c,hc,_⟩ | ⟨_,_,h3⟩
    ·injection hc with _ e;subst e;exact show 2≤19 by decide
    ·have h3:r.length+1≤20:=h3;lia
   have e0:∀{x:PV}{r:List PV} {σ},Gv σ (.tup (x::r))→((biM ⟨true,true⟩ false "len" [.tup (x::r)]).bind fun v4=>(zac .Eq v4 (.int 0)))=M.ret (.bool false):=fun {x r σ} g=>tr (bd (zaz (show r.length+1≤1000000 by have:=hlen g;lia))) (zen (show ((r.length+1:Nat):Int)≠0 by lia))
   cases xs with
   | nil=>exact ⟨false,zf0 (fun _=>rfl) (fun _=>rfl)⟩
   | cons x r=>
    cases hs:isT .str x with
    | false=>
     refine ⟨false,zf0 (fun {σ} g=>zcP rfl (zcP (congrFun (e0 g) σ) (hstr hs g))) (fun {σ} g=>zcP rfl ?_)⟩
     have h2:=hstr hs g
     have h1:((biM ⟨true,true⟩ false "len" [.tup (x::r)]).bind fun v4=>(zac .Lt v4 (.int 2))) σ=.ok (.bool (decide (((r.length+1:Nat):Int)<2))) σ:=at_ (bd (zaz (show r.length+1≤1000000 by have:=hlen g;lia))) rfl
     refine (zh0 h1 h2).trans ?_
     rw [Bool.or_true]
    | true=>
     cases x with
     | str w=>
      cases r with
      | nil=>
       obtain ⟨k,hk,hk1⟩:=zjD w
       refine ⟨false,fun {r d σ} hd g=>?_,fun {r d σ} hd g=>⟨[.dict szD],zd9 (l:=[]) (Nat.lt_of_le_of_lt (Nat.zero_le _) hd) (by decide) hk (show k≠1 from hk1)⟩⟩
       obtain ⟨e,rfl,he⟩:=ten hd
       exact at_ (zag (zak _ _ _ _)) (at_ (if_t (tr (or_f rfl) (or_t rfl))) rfl)
      | cons x l=>
       obtain ⟨gx,gl,h18⟩:=els g0
       rcases zmN gx (dep4 hx) with ⟨c,hc,rfl⟩ | hO
       ·by_cases w1:w="shut"
        ·subst w1;exact ⟨_,zmB hc hl hx⟩
        ·by_cases w2:w="clash"
         ·subst w2;exact zlG hc hl hx gl
         ·by_cases w3:w="apart"
          ·subst w3;exact zlH hc hl hx fun t ht hk=>ih c hc _ (.inl hk) (zdK hc (.inl hk) hl (zbJ c) (Nat.le_refl _) (fun _ h=>h) hx) t (gl t ht)
          ·by_cases w4:w="fork"
           ·subst w4;exact zmC hc hl hx (fun t ht hk=>ih c hc _ (.inr hk) (zdK hc (.inr hk) hl zca.1 (zbl c.come 1).1 (fun _ h=>List.mem_of_mem_take h) hx) t (gl t ht)) (fun t ht hk=>ih c hc _ (.inr hk) (zdK hc (.inr hk) hl zca.2 (zbl c.come 1).2 (fun _ h=>List.mem_of_mem_drop h) hx) t (gl t ht))
           ·exact ⟨false,zmA hc hl hx w1 w2 w3 w4⟩
       ·obtain ⟨k,hk,_⟩:=zjD w
        exact ⟨false,fun {r d σ} hd g=>zoC (Nat.lt_of_le_of_lt (by lia) hd) h18 (hO σ (els g).1),fun {r d σ} hd g=>⟨[.dict szD],zoP (Nat.lt_of_le_of_lt (by lia) hd) h18 hk (hO _ ((els g).1.app _))⟩⟩
     | _=>exact nomatch (show false=true from hs)
  | _=>exact nomatch (show false=true from q)
theorem agr:∀(n:Nat)(cs:List Cl)(v:PV)(σ0:zaa),tsz cs≤n→cs.length+tsz cs≤300→(∀ c∈cs,c.s.dep≤100)→Gv σ0 v→∃ b,Agr cs v b:=by
 intro n
 induction n with
 | zero=>exact fun cs v σ0 hz hl hx g=>zin (fun c hc l hop N=>absurd N.lt (by have:=zjy hc;lia)) hl hx g
 | succ n ih=>exact fun cs v σ0 hz hl hx g=>zin (fun c hc l hop N t g=>ih _ t σ0 (by have:=N.lt;lia) N.all N.dep g) hl hx g
theorem beq_comm(a b:Say):a.beq b=b.beq a:=by
 cases z:a.beq b with
 | true=>rw [zcm _ _ z];exact (zbd _).symm
 | false=>
  cases z':b.beq a with
  | true=>rw [zcm _ _ z',show a.beq a=true from zbd _] at z;cases z
  | false=>rfl
theorem zpd{e:Nat}{r:Bool}{kk:PV→Option PV→Option PV→M PV}{v1:PV}{c:Cl}(hc:c.s.dep<400):∀(os:List Cl)(v3:Option PV),(∀ o∈os,o.s.dep<400)→
  (∃ o∈os,(!o.b&&o.s.beq c.s)=true∧zaP AA GG (zad GG e) ⟨r,true⟩ kk (M.ret ()) (os.map Cl.pv) v1 c.pv v3=M.ret (.tup [.str "clash",c.pv,o.pv]))∨((∀ o∈os,(!o.b&&o.s.beq c.s)=false)∧∃ u,zaP AA GG (zad GG e) ⟨r,true⟩ kk (M.ret ()) (os.map Cl.pv) v1 c.pv v3=kk v1 (some c.pv) u)
 | [],v3,_=>.inr ⟨fun _ h=>(nomatch h),v3,rfl⟩
 | o::os,v3,h=>by
  have st:zaP AA GG (zad GG e) ⟨r,true⟩ kk (M.ret ()) ((o::os).map Cl.pv) v1 c.pv v3=M.cond (!o.b&&o.s.beq c.s) (M.ret (.tup [.str "clash",c.pv,o.pv])) (zaP AA GG (zad GG e) ⟨r,true⟩ kk (M.ret ()) (os.map Cl.pv) v1 c.pv (some o.pv)):=tr (show _=ifM (andM (notM (index o.pv (.int 1))) ((index o.pv (.int 2)).bind fun v5=>((index c.pv (.int 2)).bind fun v6=>(zac .Eq v5 v6)))) _ _ from rfl) (if_b (zeF (zbz (ix_1 _ _ _)) (tr (bd (ix_2 _ _ _ _)) (tr (bd (ix_2 _ _ _ _)) (zmW _ _ (h o (.head _)) hc)))))
  rw [st]
  cases q:(!o.b&&o.s.beq c.s) with
  | true=>exact .inl ⟨o,.head _,q,rfl⟩
  | false=>
   rcases zpd (e:=e) (r:=r) (kk:=kk) (v1:=v1) hc os (some o.pv) fun x hx=>h x (.tail _ hx) with ⟨x,hx,hq,e'⟩ | ⟨hn,u,e'⟩
   ·exact .inl ⟨x,.tail _ hx,hq,e'⟩
   ·exact .inr ⟨fun x hx=>(List.mem_cons.mp hx).elim (fun z=>z▸q) (hn x),u,e'⟩
theorem zfU(c o:Cl):clsh c o=((c.b&&isN c.s)&&(!o.b&&o.s.beq c.s)):=by
 unfold clsh
 rw [beq_comm o.s c.s]
 cases isN c.s <;> cases c.b <;> cases o.b <;> cases c.s.beq o.s <;> rfl
theorem zpe{e:Nat}{r:Bool}{cs:List Cl}(hd:∀ c∈cs,c.s.dep<400):∀(l:List Cl)(v2 v3:Option PV),(∀ c∈l,c∈cs)→
  (∃ c∈cs,∃ o∈cs,clsh c o=true∧zav AA GG (zad GG e) ⟨r,true⟩ (M.ret ()) (l.map Cl.pv) (cps cs) v2 v3=M.ret (.tup [.str "clash",c.pv,o.pv]))∨((∀ c∈l,∀ o∈cs,clsh c o=false)∧zav AA GG (zad GG e) ⟨r,true⟩ (M.ret ()) (l.map Cl.pv) (cps cs) v2 v3=M.ret .none)
 | [],v2,v3,_=>.inr ⟨fun _ h=>(nomatch h),rfl⟩
 | c::l,v2,v3,h=>by
  have st:zav AA GG (zad GG e) ⟨r,true⟩ (M.ret ()) ((c::l).map Cl.pv) (cps cs) v2 v3=M.cond (c.b&&isN c.s) (zaP AA GG (zad GG e) ⟨r,true⟩ (zav AA GG (zad GG e) ⟨r,true⟩ (M.ret ()) (l.map Cl.pv)) (M.ret ()) (cs.map Cl.pv) (cps cs) c.pv v3) (zav AA GG (zad GG e) ⟨r,true⟩ (M.ret ()) (l.map Cl.pv) (cps cs) (some c.pv) v3):=
   tr (show _=ifM (andM (index c.pv (.int 1)) (((index c.pv (.int 2)).bind fun v5=>(index v5 (.int 0))).bind fun v6=>(zac .Eq v6 (.str "name")))) _ _ from rfl) (if_b (zeF (ix_1 _ _ _) (tr (zao _ _ _) (tr (bd (ix_2 _ _ _ _)) (zmF c.s)))))
  rw [st]
  have rest:=fun v2 v3=>zpe (e:=e) (r:=r) hd l v2 v3 fun x hx=>h x (.tail _ hx)
  cases q:(c.b&&isN c.s) with
  | true=>
   rcases zpd (e:=e) (r:=r) (kk:=zav AA GG (zad GG e) ⟨r,true⟩ (M.ret ()) (l.map Cl.pv)) (v1:=cps cs) (hd c (h c (.head _))) cs v3 hd with ⟨o,ho,hq,e'⟩ | ⟨hn,u,e'⟩
   ·exact .inl ⟨c,h c (.head _),o,ho,by rw [zfU,q,hq];rfl,e'⟩
   ·rcases rest (some c.pv) u with ⟨a,ha,o,ho,hq,e2⟩ | ⟨hn2,e2⟩
    ·exact .inl ⟨a,ha,o,ho,hq,e'.trans e2⟩
    ·exact .inr ⟨fun x hx=>(List.mem_cons.mp hx).elim (fun z=>by rw [z];exact fun o ho=>by rw [zfU,q,hn o ho];rfl) (hn2 x),e'.trans e2⟩
  | false=>
   rcases rest (some c.pv) v3 with ⟨a,ha,o,ho,hq,e2⟩ | ⟨hn2,e2⟩
   ·exact .inl ⟨a,ha,o,ho,hq,e2⟩
   ·exact .inr ⟨fun x hx=>(List.mem_cons.mp hx).elim (fun z=>by rw [z];exact fun o ho=>by rw [zfU,q];rfl) (hn2 x),e2⟩
theorem l_clash{d:Nat}{r:Bool}{cs:List Cl}(hd:0<d)(hx:∀ c∈cs,c.s.dep<400):(∃ c∈cs,∃ o∈cs,clsh c o=true∧zad GG d ⟨r,true⟩ AA.l_clash [cps cs]=M.ret (.tup [.str "clash",c.pv,o.pv]))∨((∀ c∈cs,∀ o∈cs,clsh c o=false)∧zad GG d ⟨r,true⟩ AA.l_clash [cps cs]=M.ret .none):=by
 obtain ⟨e,rfl⟩:∃ e,d=e+1:=⟨d-1,by lia⟩
 have st:zad GG (e+1) ⟨r,true⟩ AA.l_clash [cps cs]=zav AA GG (zad GG e) ⟨r,true⟩ (M.ret ()) (cs.map Cl.pv) (cps cs) Option.none Option.none:=zag (zkK _ _ _)
 rw [st]
 exact zpe hx cs Option.none Option.none fun _ h=>h
theorem zlm{f:PV→M (Option PV)}{p:Cl→Bool}:∀{cs:List Cl},(∀ c∈cs,f c.pv=M.cond (p c) (M.ret (some c.pv)) (M.ret Option.none))→za6 (M.ret ()) (fun x=>M.noErr (f x)) (cs.map Cl.pv)=M.ret ((cs.filter p).map Cl.pv)
 | [],_=>rfl
 | c::cs,h=>by
  have ih:=zlm (f:=f) (p:=p) fun x hx=>h x (.tail _ hx)
  have h1:=h c (.head _)
  rw [List.filter_cons]
  cases q:p c with
  | true=>rw [q] at h1;rw [if_pos rfl];exact zbq h1 ih
  | false=>rw [q] at h1;rw [if_neg Bool.false_ne_true];exact zlk h1 ih
theorem zoW{e:Nat}{r:Bool}{c:Cl}(he:0<e)(w:Str):(((zad GG e ⟨r,true⟩ AA.l_comes [c.pv]).bind fun v15=>(index v15 (.int 0))).bind fun v16=>(zac .Eq v16 (.str w)))=M.ret (.bool (c.kd==w)):=tr (bd (tr (bd (zn7 he)) (ix_0 _ _))) (zet _ _)
noncomputable def ofK(w:Str)(cs:List Cl):List Cl:=cs.filter fun c=>c.kd==w
theorem zjK{e:Nat}{r:Bool}{cs:List Cl}(he:0<e)(hl:cs.length≤400)(w:Str):(zbu ⟨r,true⟩ false (zbr (cps cs)) fun v14=>(((zad GG e (⟨r,true⟩:Md).inn AA.l_comes [v14]).bind fun v15=>(index v15 (.int 0))).bind fun v16=>(zac .Eq v16 (.str w))).bind fun v17=>(zar v17).bind fun v18=>M.cond v18 (M.ret (some v14)) (M.ret Option.none))=M.ret (cps (ofK w cs)):=
 zbD rfl (show zbr (cps cs)=M.ret ⟨cs.map Cl.pv,[]⟩ from rfl) (by rw [List.length_map];lia) (zlm (f:=fun v14=>(((zad GG e (⟨r,true⟩:Md).inn AA.l_comes [v14]).bind fun v15=>(index v15 (.int 0))).bind fun v16=>(zac .Eq v16 (.str w))).bind fun v17=>(zar v17).bind fun v18=>M.cond v18 (M.ret (some v14)) (M.ret Option.none)) fun c _=>bd (zoW (r:=false) he w))
theorem zko(σ:zaa):∀{l:List Cl},(∀ c∈l,c.s.dep<400)→zan (Mine.whole σ 499) (l.map Cl.pv)=some (l.map Cl.pv)
 | [],_=>rfl
 | c::l,h=>zbn (Cl.whole σ c 498 (Nat.lt_trans (h c (.head _)) (by decide))) (zko σ fun x hx=>h x (.tail _ hx))
theorem zh6{l:List Cl}(h:∀ c∈l,c.s.dep<400):zac .Eq (cps l) (.lst [])=M.ret (.bool l.isEmpty):=by
 refine bd (a:=l.isEmpty) (funext fun σ=>?_)
 have h1:wholeM (cps l) σ=.ok (cps l) σ:=zcI (congrArg (Option.map PV.lst) (zko σ h))
 refine (show eqX (cps l) (.lst []) σ=eqM (cps l) (.lst []) σ from rfl).trans ((zab h1).trans ((zab (a:=PV.lst []) rfl).trans ?_))
 cases l <;> rfl
noncomputable def blT(C:zai)(md:Md)(v1 v2 v31:PV):M PV:=
 (M.cond (md.lp&&true) ((C md AA.l_comes [v31]).bind fun v32=>(tup2 v32 fun v33 v34=>
 ((C md AA.l_without [v1,v31]).bind fun v35=>
 ((((opM false .Mult v2 (.int 16807)).bind fun v36=>(opM false .Add v36 (.int 3))).bind fun v37=>(opM false .Mod v37 (.int 1000003))).bind fun v38=>
 (ifM (zac .Eq v33 (.str "apart"))
 (((seqM [(opM false .Add v35 v34),(M.ret v38)]).bind fun v39=>(C md AA.l_built v39)).bind fun v40=>
 (ifM (zac .Is v40 PV.none) (M.ret PV.none) (M.ret (.tup [(.str "apart"),v31,v40]))))
 (((seqM [((cutM false v34 Option.none (some 1)).bind fun v41=>(opM false .Add v35 v41)),(M.ret v38)]).bind fun v42=>(C md AA.l_built v42)).bind fun v43=>
 (ifM (zac .Is v43 PV.none)
 (M.ret PV.none)
 (((seqM [((cutM false v34 (some 1) Option.none).bind fun v44=>(opM false .Add v35 v44)),(opM false .Add v38 (.int 1))]).bind fun v45=>(C md AA.l_built v45)).bind fun v46=>
 (ifM (zac .Is v46 PV.none) (M.ret PV.none) (M.ret (.tup [(.str "fork"),v31,v43,v46]))))))))))) M.fail)
noncomputable def Bt(cs:List Cl)(v:PV):Prop:=Std cs v∨(v=.none∧∃ f,Holds f cs)
theorem back{cs:List Cl}{c:Cl}{l:List Cl}{f:Str→Bool}(h:Holds f (ers c cs++l))(hc:Holds f l→c.s.tv f=c.b):Holds f cs:=fun x hx=>(zkB (c:=c) hx).elim (fun z=>z▸hc fun y hy=>h y (List.mem_append_right _ hy)) fun z=>h x (List.mem_append_left _ z)
theorem bl_t{e:Nat}{cs:List Cl}{c:Cl}{i:Int}(he:0<e)(hc:c∈cs)(hop:Open c)(hl:cs.length+tsz cs≤300)(hx:∀ c∈cs,c.s.dep≤100)(ih:∀(l:List Cl)(j:Int),Nx cs c l→∃ v,zad GG e ⟨true,true⟩ AA.l_built [cps (ers c cs++l),.int j]=M.ret v∧Bt (ers c cs++l) v):∃ v,blT (zad GG e) ⟨true,true⟩ (cps cs) (.int i) c.pv=M.ret v∧Bt cs v:=by
 have pre:∀{F:M PV},(ifM (zac .Eq (.str c.kd) (.str "apart"))
 (((seqM [(opM false .Add (cps (ers c cs)) (cps c.come)),(M.ret (.int ((i*16807+3).fmod 1000003)))]).bind fun v39=>(zad GG e ⟨true,true⟩ AA.l_built v39)).bind fun v40=>
 (ifM (zac .Is v40 PV.none) (M.ret PV.none) (M.ret (.tup [(.str "apart"),c.pv,v40]))))
 (((seqM [((cutM false (cps c.come) Option.none (some 1)).bind fun v41=>(opM false .Add (cps (ers c cs)) v41)),(M.ret (.int ((i*16807+3).fmod 1000003)))]).bind fun v42=>(zad GG e ⟨true,true⟩ AA.l_built v42)).bind fun v43=>
 (ifM (zac .Is v43 PV.none)
 (M.ret PV.none)
 (((seqM [((cutM false (cps c.come) (some 1) Option.none).bind fun v44=>(opM false .Add (cps (ers c cs)) v44)),(opM false .Add (.int ((i*16807+3).fmod 1000003)) (.int 1))]).bind fun v45=>(zad GG e ⟨true,true⟩ AA.l_built v45)).bind fun v46=>
 (ifM (zac .Is v46 PV.none) (M.ret PV.none) (M.ret (.tup [(.str "fork"),c.pv,v43,v46])))))))=F→blT (zad GG e) ⟨true,true⟩ (cps cs) (.int i) c.pv=F:=fun h=>
  tr (c_t rfl) (tr (bd (zn7 he)) (tr (bd (l_without he (dep4 hx) (few hl) hc)) (tr (bd (tr (bd (tr (bd (zcf false i 16807 (by decide) (by decide))) (add_int _ _ _))) (zbt _ _ _ (by decide)))) h)))
 cases qa:c.kd=="apart" with
 | true=>
  have ka:c.kd="apart":=eq_of_beq qa
  have N:=zdK (l:=c.come) hc hop hl (zbJ c) (Nat.le_refl _) (fun _ h=>h) hx
  obtain ⟨v,ev,hv⟩:=ih c.come ((i*16807+3).fmod 1000003) N
  have p2:=fun{F:M PV} h=>pre (F:=F) (tr (if_t (tr (zet _ _) (b_eq qa))) (tr (bd (tr (bd (sq2 (zbM _ _ N.add) rfl)) ev)) h))
  rcases hv with hv | ⟨rfl,f,hf⟩
  ·exact ⟨_,p2 (if_f (zl4 hv.tup).1),.inl (.apart hc ka hv)⟩
  ·exact ⟨.none,p2 rfl,.inr ⟨rfl,f,back hf fun h=>zhJ ka h⟩⟩
 | false=>
  have kf:c.kd="fork":=hop.resolve_left fun z=>by rw [z] at qa;cases qa
  have N1:=zdK hc hop hl zca.1 (zbl c.come 1).1 (fun _ h=>List.mem_of_mem_take h) hx
  have N2:=zdK hc hop hl zca.2 (zbl c.come 1).2 (fun _ h=>List.mem_of_mem_drop h) hx
  have some1:∀{f:Str→Bool}{l:List Cl},l≠[]→(∀ x∈l,x∈c.come)→Holds f l→c.s.tv f=c.b:=fun {f l} hne hl h=>by
   cases l with
   | nil=>exact absurd rfl hne
   | cons x l=>exact zjf kf ⟨x,hl x (.head _),h x (.head _)⟩
  obtain ⟨v,ev,hv⟩:=ih (c.come.take 1) ((i*16807+3).fmod 1000003) N1
  have p2:=fun{F:M PV} h=>pre (F:=F) (tr (if_f (tr (zet _ _) (b_eq qa))) (tr (bd (tr (bd (sq2 (tr (bd (zn5 c)) (zbM _ _ N1.add)) rfl)) ev)) h))
  rcases hv with hv | ⟨rfl,f,hf⟩
  ·obtain ⟨u,eu,hu⟩:=ih (c.come.drop 1) ((i*16807+3).fmod 1000003+1) N2
   have p3:=fun{F:M PV} h=>p2 (F:=F) (tr (if_f (zl4 hv.tup).1) (tr (bd (tr (bd (sq2 (tr (bd (zn4 c)) (zbM _ _ N2.add)) (add_int _ _ _))) eu)) h))
   rcases hu with hu | ⟨rfl,f,hf⟩
   ·exact ⟨_,p3 (if_f (zl4 hu.tup).1),.inl (.fork hc kf hv hu)⟩
   ·exact ⟨.none,p3 rfl,.inr ⟨rfl,f,back hf (some1 (zk3 kf).2 fun _ h=>List.mem_of_mem_drop h)⟩⟩
  ·exact ⟨.none,p2 rfl,.inr ⟨rfl,f,back hf (some1 (zk3 kf).1 fun _ h=>List.mem_of_mem_take h)⟩⟩
theorem zpJ{cs:List Cl}(hk:∀ c∈cs,c.kd≠"shut")(hq:∀ c∈cs,∀ o∈cs,clsh c o=false)(ho:∀ c∈cs,¬ Open c):∃ f,Holds f cs:=by
 refine ⟨fun x=>cs.any fun c=>c.b&&c.s.beq (.name x),fun c hc=>?_⟩
 obtain ⟨n,b,s⟩:=c
 have k:=hk _ hc
 have op:=ho _ hc
 cases s with
 | name x=>
  show (cs.any fun c=>c.b&&c.s.beq (.name x))=b
  cases b with
  | true=>exact List.any_eq_true.mpr ⟨_,hc,by show (true&&(Say.name x).beq (.name x))=true;rw [show (Say.name x).beq (.name x)=true from zbd _];rfl⟩
  | false=>
   cases z:cs.any fun c=>c.b&&c.s.beq (.name x) with
   | false=>rfl
   | true=>
    obtain ⟨o,hoo,e⟩:=List.any_eq_true.mp z
    have e:=Bool.and_eq_true_iff.mp e
    have e2:=zcm _ _ e.2
    have:=hq o hoo _ hc
    rw [zfU,e.1,e2,show (Say.name x).beq (.name x)=true from zbd _] at this
    exact nomatch (show true=false from this)
 | yes=>cases b with
  | true=>rfl
  | false=>exact absurd rfl k
 | no=>cases b with
  | true=>exact absurd rfl k
  | false=>rfl
 | not a=>exact absurd (.inl rfl) op
 | and a d=>cases b with
  | true=>exact absurd (.inl rfl) op
  | false=>exact absurd (.inr rfl) op
 | or a d=>cases b with
  | true=>exact absurd (.inr rfl) op
  | false=>exact absurd (.inl rfl) op
theorem pick{l:List Cl}{i:Int}{md:Md}(hl:l.length≤1000)(hn:l.isEmpty=false):∃ c∈l,(((opM false .FloorDiv (.int i) (.int 5)).bind fun v28=>((biM md false "len" [cps l]).bind fun v29=>(opM false .Mod v28 v29))).bind fun v30=>(index (cps l) v30))=M.ret c.pv:=by
 have h0:0<l.length:=by cases l with
  | nil=>cases hn
  | cons _ _=>exact Nat.succ_pos _
 obtain ⟨k,hk,hkl⟩:=zam (i.fdiv 5) (b:=l.length) h0
 have hlm:(l.map Cl.pv).length=l.length:=List.length_map _
 refine ⟨l[k],List.getElem_mem hkl,tr (bd (tr (bd (zaT _ i 5 (by decide) (by decide))) (tr (bd (tr (zbB (xs:=l.map Cl.pv) (by lia)) (i_eq (show ((l.map Cl.pv).length:Int)=(l.length:Int) by rw [hlm])))) (zaC _ _ (Int.ofNat_lt.mpr h0) hk)))) (zci (by rw [List.getElem?_map,List.getElem?_eq_getElem hkl];rfl) (by lia))⟩
theorem zpi{e:Nat}{cs:List Cl}{i:Int}{v4 v5 v6 v7 v8 v9:Option PV}(he:0<e):∀(l:List Cl)(v3:Option PV),(∀ c∈l,c∈cs)→
  (∃ c∈cs,c.kd="shut"∧zaQ AA GG (zad GG e) ⟨true,true⟩ (M.ret ()) (l.map Cl.pv) (cps cs) (.int i) v3 v4 v5 v6 v7 v8 v9=M.ret (.tup [.str "shut",c.pv]))∨((∀ c∈l,c.kd≠"shut")∧∃ u,zaQ AA GG (zad GG e) ⟨true,true⟩ (M.ret ()) (l.map Cl.pv) (cps cs) (.int i) v3 v4 v5 v6 v7 v8 v9=zbS AA GG (zad GG e) ⟨true,true⟩ (cps cs) (.int i) u v4 v5 v6 v7 v8 v9)
 | [],v3,_=>.inr ⟨fun _ h=>(nomatch h),v3,rfl⟩
 | c::l,v3,h=>by
  have st:zaQ AA GG (zad GG e) ⟨true,true⟩ (M.ret ()) ((c::l).map Cl.pv) (cps cs) (.int i) v3 v4 v5 v6 v7 v8 v9=M.cond (c.kd=="shut") (M.ret (.tup [.str "shut",c.pv])) (zaQ AA GG (zad GG e) ⟨true,true⟩ (M.ret ()) (l.map Cl.pv) (cps cs) (.int i) (some c.pv) v4 v5 v6 v7 v8 v9):=
   tr (show _=ifM (((zad GG e ⟨true,true⟩ AA.l_comes [c.pv]).bind fun v11=>(index v11 (.int 0))).bind fun v12=>(zac .Eq v12 (.str "shut"))) _ _ from rfl) (if_b (zoW he "shut"))
  rw [st]
  cases q:c.kd=="shut" with
  | true=>exact .inl ⟨c,h c (.head _),eq_of_beq q,rfl⟩
  | false=>
   rcases zpi (cs:=cs) (i:=i) (v4:=v4) (v5:=v5) (v6:=v6) (v7:=v7) (v8:=v8) (v9:=v9) he l (some c.pv) fun x hx=>h x (.tail _ hx) with ⟨a,ha,hk,e'⟩ | ⟨hn,u,e'⟩
   ·exact .inl ⟨a,ha,hk,e'⟩
   ·exact .inr ⟨fun x hx=>(List.mem_cons.mp hx).elim (fun z=>by rw [z];exact beq_eq_false_iff_ne.mp q) (hn x),u,e'⟩
theorem l_built:∀(n:Nat)(cs:List Cl)(d:Nat)(i:Int),tsz cs≤n→cs.length+tsz cs≤300→(∀ c∈cs,c.s.dep≤100)→tsz cs+10<d→∃ v,zad GG d ⟨true,true⟩ AA.l_built [cps cs,.int i]=M.ret v∧Bt cs v:=by
 have step:∀(cs:List Cl)(d:Nat)(i:Int),cs.length+tsz cs≤300→(∀ c∈cs,c.s.dep≤100)→tsz cs+10<d+1→(∀ c∈cs,∀ l,∀ j:Int,Nx cs c l→∃ v,zad GG d ⟨true,true⟩ AA.l_built [cps (ers c cs++l),.int j]=M.ret v∧Bt (ers c cs++l) v)→∃ v,zad GG (d+1) ⟨true,true⟩ AA.l_built [cps cs,.int i]=M.ret v∧Bt cs v:=by
  intro cs e i hl hx hd ih
  have he0:0<e:=by lia
  have hx4:=dep4 hx
  have st:zad GG (e+1) ⟨true,true⟩ AA.l_built [cps cs,.int i]=zaQ AA GG (zad GG e) ⟨true,true⟩ (M.ret ()) (cs.map Cl.pv) (cps cs) (.int i) Option.none Option.none Option.none Option.none Option.none Option.none Option.none:=zag (zkM _ _ _ _)
  rw [st]
  rcases zpi (cs:=cs) (i:=i) (v4:=Option.none) (v5:=Option.none) (v6:=Option.none) (v7:=Option.none) (v8:=Option.none) (v9:=Option.none) he0 cs Option.none fun _ h=>h with ⟨c,hc,hk,e1⟩ | ⟨hns,u,e1⟩
  ·exact ⟨_,e1,.inl (.shut hc hk)⟩
  ·rw [e1]
   unfold zbS
   rcases l_clash (d:=e) (r:=true) he0 hx4 with ⟨c,hc,o,ho,hq,e2⟩ | ⟨hnc,e2⟩
   ·exact ⟨_,tr (if_t (tr (bd e2) rfl)) e2,.inl (.clash hc ho hq)⟩
   ·have fm:∀{w:Str}{c:Cl},c∈(ofK w cs)→c∈cs∧c.kd=w:=fun h=>⟨(List.mem_filter.mp h).1,eq_of_beq (List.mem_filter.mp h).2⟩
    have fl:∀ w:Str,(ofK w cs).length≤cs.length:=fun w=>List.length_filter_le _ _
    have f4:∀{w:Str},∀ c∈(ofK w cs),c.s.dep<400:=fun c h=>hx4 c (fm h).1
    have l1:=fl "apart";have l2:=fl "fork"
    have op:∀ c∈(ofK "apart" cs)++(ofK "fork" cs),c∈cs∧Open c:=fun c h=>(List.mem_append.mp h).elim (fun h=>⟨(fm h).1,.inl (fm h).2⟩) fun h=>⟨(fm h).1,.inr (fm h).2⟩
    have run:∀ c,c∈cs→Open c→∃ v,blT (zad GG e) ⟨true,true⟩ (cps cs) (.int i) c.pv=M.ret v∧Bt cs v:=fun c hc hop=>bl_t he0 hc hop hl hx fun l j N=>ih c hc l j N
    have s1:=zjK (e:=e) (r:=true) he0 (few hl) "apart"
    have s2:=zjK (e:=e) (r:=true) he0 (few hl) "fork"
    have ha:opM false .Add (cps (ofK "apart" cs)) (cps (ofK "fork" cs))=M.ret (cps ((ofK "apart" cs)++(ofK "fork" cs))):=zbM _ _ (by lia)
    obtain ⟨m,hm,_⟩:=zam i (b:=5) (by decide)
    have cond:orM (zac .Eq (cps (ofK "apart" cs)) (.lst [])) ((opM false .Mod (.int i) (.int 5)).bind fun v20=>(zac .Eq v20 (.int 0)))=M.ret (.bool ((ofK "apart" cs).isEmpty || ((m:Int)==0))):=or_b (zh6 f4) (tr (bd (zaC _ _ (by decide) hm)) (zgL _ _))
    cases q:((ofK "apart" cs).isEmpty || ((m:Int)==0)) with
    | true=>
     cases q2:((ofK "apart" cs)++(ofK "fork" cs)).isEmpty with
     | true=>
      refine ⟨.none,tr (if_f (tr (bd e2) rfl)) (tr (bd s1) (tr (if_t (tr cond (b_eq q))) (tr (bd (tr (bd s2) ha)) (if_t (tr (zh6 fun c h=>hx4 c (op c h).1) (b_eq q2)))))),.inr ⟨rfl,zpJ hns hnc fun c hc hop=>?_⟩⟩
      have hnil:=List.isEmpty_iff.mp q2
      have:c∈(ofK "apart" cs)++(ofK "fork" cs):=List.mem_append.mpr (hop.imp (fun h=>List.mem_filter.mpr ⟨hc,by rw [h];rfl⟩) fun h=>List.mem_filter.mpr ⟨hc,by rw [h];rfl⟩)
      rw [hnil] at this;exact nomatch this
     | false=>
      obtain ⟨c,hc,ep⟩:=pick (i:=i) (md:=⟨true,true⟩) (l:=(ofK "apart" cs)++(ofK "fork" cs)) (by rw [List.length_append];lia) q2
      obtain ⟨v,ev,hv⟩:=run c (op c hc).1 (op c hc).2
      exact ⟨v,tr (if_f (tr (bd e2) rfl)) (tr (bd s1) (tr (if_t (tr cond (b_eq q))) (tr (bd (tr (bd s2) ha)) (tr (if_f (tr (zh6 fun c h=>hx4 c (op c h).1) (b_eq q2))) (tr (bd ep) ev))))),hv⟩
    | false=>
     have q1:=(Bool.or_eq_false_iff.mp q).1
     obtain ⟨c,hc,ep⟩:=pick (i:=i) (md:=⟨true,true⟩) (l:=ofK "apart" cs) (by lia) q1
     obtain ⟨v,ev,hv⟩:=run c (fm hc).1 (.inl (fm hc).2)
     exact ⟨v,tr (if_f (tr (bd e2) rfl)) (tr (bd s1) (tr (if_f (tr cond (b_eq q))) (tr (if_f (tr (zh6 f4) (b_eq q1))) (tr (bd ep) ev)))),hv⟩
 intro n
 induction n with
 | zero=>
  intro cs d i hz hl hx hd
  obtain ⟨e,rfl,he⟩:=ten hd
  exact step cs e i hl hx hd fun c hc l j N=>absurd N.lt (by lia)
 | succ n ih=>
  intro cs d i hz hl hx hd
  obtain ⟨e,rfl,he⟩:=ten hd
  exact step cs e i hl hx hd fun c hc l j N=>ih _ e j (Nat.le_of_succ_le_succ (Nat.le_trans N.lt hz)) N.all N.dep (N.down hd)
structure G2 (σ:zaa) (v:PV):Prop where
 g:Gv σ v
 nb:isT .bool v=false
theorem G2.app{σ:zaa}{v:PV}(h:G2 σ v)(τ:zaa):G2 (σ++τ) v:=⟨h.g.app τ,h.nb⟩
theorem G2.tup{σ:zaa}{xs:List PV}(h:∀ x∈xs,G2 σ x)(hl:xs.length≤20):G2 σ (.tup xs):=by
 refine ⟨.tup (fun a b c e=>?_) (fun x hx=>(h x hx).g) hl,rfl⟩
 have:=(h (.bool b) (by rw [e];exact .tail _ (.head _))).nb
 exact nomatch (show true=false from this)
theorem G2.str(σ:zaa)(w:Str):G2 σ (.str w):=⟨.str w,rfl⟩
theorem G2.clm(σ:zaa)(c:Cl)(h:c.s.dep<400):G2 σ c.pv:=⟨.clm c h,rfl⟩
theorem G2.say(σ:zaa):∀ s:Say,G2 σ s.pv
 | .yes=>.tup (zah ⟨.str _ _,trivial⟩) (show 1≤20 by decide)
 | .no=>.tup (zah ⟨.str _ _,trivial⟩) (show 1≤20 by decide)
 | .name _=>.tup (zah ⟨.str _ _,.str _ _,trivial⟩) (show 2≤20 by decide)
 | .not a=>.tup (zah ⟨.str _ _,G2.say σ a,trivial⟩) (show 2≤20 by decide)
 | .and a b=>.tup (zah ⟨.str _ _,G2.say σ a,G2.say σ b,trivial⟩) (show 3≤20 by decide)
 | .or a b=>.tup (zah ⟨.str _ _,G2.say σ a,G2.say σ b,trivial⟩) (show 3≤20 by decide)
theorem zgh(σ:zaa){cs:List Cl}{t:PV}(h:Std cs t):(∀ c∈cs,c.s.dep≤100)→G2 σ t:=by
 have sub:∀{cs:List Cl}{c:Cl}{l:List Cl},c∈cs→(∀ c∈cs,c.s.dep≤100)→(∀ x∈l,x∈c.come)→∀ x∈ers c cs++l,x.s.dep≤100:=fun {cs c l} hc hx hm x h=>(List.mem_append.mp h).elim (fun z=>hx x (zhD z)) fun z=>Nat.le_trans (Nat.le_of_lt (zii (hm x z))) (hx c hc)
 induction h with
 | shut hc hk=>exact fun hx=>.tup (zah ⟨.str _ _,.clm σ _ (dep4 hx _ hc),trivial⟩) (show 2≤20 by decide)
 | clash hc ho hq=>exact fun hx=>.tup (zah ⟨.str _ _,.clm σ _ (dep4 hx _ hc),.clm σ _ (dep4 hx _ ho),trivial⟩) (show 3≤20 by decide)
 | apart hc hk ht ih=>exact fun hx=>.tup (zah ⟨.str _ _,.clm σ _ (dep4 hx _ hc),ih (sub hc hx fun _ h=>h),trivial⟩) (show 3≤20 by decide)
 | fork hc hk ht hu ih1 ih2=>exact fun hx=>.tup (zah ⟨.str _ _,.clm σ _ (dep4 hx _ hc),ih1 (sub hc hx fun _ h=>List.mem_of_mem_take h),ih2 (sub hc hx fun _ h=>List.mem_of_mem_drop h),trivial⟩) (show 4≤20 by decide)
noncomputable def ccL(n:Nat)(b:Bool)(s:Say)(x:Str):List PV:=
 [(Cl.mk n (!b) s).pv,(Cl.mk (n+1) b s).pv,(Cl.mk n b (.not s)).pv,.tup [.int (n:Int),.int (bif b then 1 else 0),s.pv],.tup [.int (n:Int),.bool b],.lst [.int (n:Int),.bool b,s.pv],.none,.tup [.bool ((n:Int)==1),.bool b,s.pv],.tup [.int (n:Int),.bool b,s.pv,s.pv],(Cl.mk n b (.name x)).pv]
theorem zob(C:zai)(r:Bool)(n:Nat)(b:Bool)(s:Say)(m:Int){x:Str}{v3:PV}(hx:index v3 (.int 0)=M.ret (.str x)):zal GG C ⟨r,true⟩ AA.l_claim_changed [(Cl.mk n b s).pv,.int m,v3]=(opM false .Mod (.int m) (.int 10)).bind fun v21=>index (.lst (ccL n b s x)) v21:=by
 refine tr (zdi _ _ _ _ _) ?_
 unfold zbR
 rw [hx]
 cases b <;> kernel_rfl
theorem zpW{σ:zaa}{n:Nat}{b:Bool}{s:Say}{x:Str}(hd:s.dep<399):∀ v∈ccL n b s x,G2 σ v:=by
 refine zah ⟨.clm σ _ (Nat.lt_trans hd (by decide)),.clm σ _ (Nat.lt_trans hd (by decide)),.clm σ _ (Nat.succ_lt_succ hd),?_,?_,⟨.lst _,rfl⟩,⟨.none,rfl⟩,?_,?_,.clm σ _ (show 1<400 by decide),trivial⟩
 ·exact .tup (zah ⟨⟨.int _,rfl⟩,⟨.int _,rfl⟩,.say σ s,trivial⟩) (show 3≤20 by decide)
 ·exact ⟨.tup (fun a b c e=>by injection e with _ e;injection e with _ e;cases e) (zah ⟨.int _,.bool _,trivial⟩) (show 2≤20 by decide),rfl⟩
 ·exact ⟨.tup (fun a b c e=>by injection e with e _;exact ⟨_,e.symm⟩) (zah ⟨.bool _,.bool _,(G2.say σ s).g,trivial⟩) (show 3≤20 by decide),rfl⟩
 ·exact ⟨.tup (fun a b c e=>by injection e with _ e;injection e with _ e;injection e with _ e;cases e) (zah ⟨.int _,.bool _,(G2.say σ s).g,(G2.say σ s).g,trivial⟩) (show 4≤20 by decide),rfl⟩
theorem zc4{σ:zaa}{c:Cl}{m:Int}{ns:List Str}{d:Nat}{r:Bool}(hd:0<d)(hn:1≤ns.length)(hs:c.s.dep<399):∃ v,zad GG d ⟨r,true⟩ AA.l_claim_changed [c.pv,.int m,.lst (ns.map .str)]=M.ret v∧∀ σ,G2 σ v:=by
 obtain ⟨e,rfl⟩:∃ e,d=e+1:=⟨d-1,by lia⟩
 obtain ⟨n,b,s⟩:=c
 cases ns with
 | nil=>exact absurd hn (by decide)
 | cons x ns=>
  obtain ⟨k,hk,hkl⟩:=zam m (b:=10) (by decide)
  obtain ⟨v,hv,ev⟩:=zgF (xs:=ccL n b s x) (i:=(k:Int)) (by show -((10:Nat):Int)≤_;lia) (by show _<((10:Nat):Int);lia) (show 10≤1000 by decide)
  exact ⟨v,zag (tr (zob _ r n b s m (zci (k:=0) rfl (by decide))) (tr (bd (zaC _ _ (by decide) hk)) ev)),fun σ=>zpW hs v hv⟩
inductive Sh:List PV→Prop
 | two (a b:PV):Sh [a,b]
 | three (a b c:PV):Sh [a,b,c]
 | four (a b c d:PV):Sh [a,b,c,d]
theorem Sh.len{xs:List PV}(h:Sh xs):2≤xs.length∧xs.length≤4:=by
 cases h with
 | two=>exact ⟨show 2≤2 by decide,show 2≤4 by decide⟩
 | three=>exact ⟨show 2≤3 by decide,show 3≤4 by decide⟩
 | four=>exact ⟨show 2≤4 by decide,show 4≤4 by decide⟩
noncomputable def Of(xs:List PV)(m:M PV):Prop:=∃ ys,m=M.ret (.tup ys)∧(∀ y∈ys,y∈xs)∧ys.length≤10
theorem mem4{a b c d:PV}:a∈[a,b,c,d]∧b∈[a,b,c,d]∧c∈[a,b,c,d]∧d∈[a,b,c,d]:=⟨.head _,.tail _ (.head _),.tail _ (.tail _ (.head _)),.tail _ (.tail _ (.tail _ (.head _)))⟩
theorem mem3{a b c:PV}:a∈[a,b,c]∧b∈[a,b,c]∧c∈[a,b,c]:=⟨.head _,.tail _ (.head _),.tail _ (.tail _ (.head _))⟩
theorem mem2{a b:PV}:a∈[a,b]∧b∈[a,b]:=⟨.head _,.tail _ (.head _)⟩
theorem zpw{xs:List PV}(h:Sh xs):Of xs ((cutM false (.tup xs) Option.none (some 1)).bind fun v52=>((cutR false (.tup xs) (some 0)).bind fun v53=>(opM false .Add v52 v53))):=by
 cases h with
 | two a b=>exact ⟨[a,b],by kernel_rfl,zah ⟨mem2.1,mem2.2,trivial⟩,show 2≤10 by decide⟩
 | three a b c=>exact ⟨[a,c,b],by kernel_rfl,zah ⟨mem3.1,mem3.2.2,mem3.2.1,trivial⟩,show 3≤10 by decide⟩
 | four a b c d=>exact ⟨[a,d,c,b],by kernel_rfl,zah ⟨mem4.1,mem4.2.2.2,mem4.2.2.1,mem4.2.1,trivial⟩,show 4≤10 by decide⟩
theorem zoq{xs:List PV}(h:Sh xs):Of xs (cutM false (.tup xs) Option.none (some (-1))):=by
 cases h with
 | two a b=>exact ⟨[a],by kernel_rfl,zah ⟨mem2.1,trivial⟩,show 1≤10 by decide⟩
 | three a b c=>exact ⟨[a,b],by kernel_rfl,zah ⟨mem3.1,mem3.2.1,trivial⟩,show 2≤10 by decide⟩
 | four a b c d=>exact ⟨[a,b,c],by kernel_rfl,zah ⟨mem4.1,mem4.2.1,mem4.2.2.1,trivial⟩,show 3≤10 by decide⟩
theorem zop{xs:List PV}(h:Sh xs):Of xs ((cutM false (.tup xs) (some (-1)) Option.none).bind fun v54=>(opM false .Add (.tup xs) v54)):=by
 cases h with
 | two a b=>exact ⟨[a,b,b],by kernel_rfl,zah ⟨mem2.1,mem2.2,mem2.2,trivial⟩,show 3≤10 by decide⟩
 | three a b c=>exact ⟨[a,b,c,c],by kernel_rfl,zah ⟨mem3.1,mem3.2.1,mem3.2.2,mem3.2.2,trivial⟩,show 4≤10 by decide⟩
 | four a b c d=>exact ⟨[a,b,c,d,d],by kernel_rfl,zah ⟨mem4.1,mem4.2.1,mem4.2.2.1,mem4.2.2.2,mem4.2.2.2,trivial⟩,show 5≤10 by decide⟩
theorem zon{xs:List PV}(h:Sh xs):Of xs ((cutM false (.tup xs) Option.none (some (-2))).bind fun v64=>(((seqM [(index (.tup xs) (.int (-1))),(index (.tup xs) (.int (-2)))]).bind fun v65=>(M.ret (.tup v65))).bind fun v66=>(opM false .Add v64 v66))):=by
 cases h with
 | two a b=>exact ⟨[b,a],by kernel_rfl,zah ⟨mem2.2,mem2.1,trivial⟩,show 2≤10 by decide⟩
 | three a b c=>exact ⟨[a,c,b],by kernel_rfl,zah ⟨mem3.1,mem3.2.2,mem3.2.1,trivial⟩,show 3≤10 by decide⟩
 | four a b c d=>exact ⟨[a,b,d,c],by kernel_rfl,zah ⟨mem4.1,mem4.2.1,mem4.2.2.2,mem4.2.2.1,trivial⟩,show 4≤10 by decide⟩
theorem zmG{xs:List PV}(h:Sh xs):∃ ys,cutM false (.tup xs) (some 1) Option.none=M.ret (.tup ys)∧(∀ y∈ys,y∈xs)∧ys.length≤3:=by
 cases h with
 | two a b=>exact ⟨[b],by kernel_rfl,zah ⟨mem2.2,trivial⟩,show 1≤3 by decide⟩
 | three a b c=>exact ⟨[b,c],by kernel_rfl,zah ⟨mem3.2.1,mem3.2.2,trivial⟩,show 2≤3 by decide⟩
 | four a b c d=>exact ⟨[b,c,d],by kernel_rfl,zah ⟨mem4.2.1,mem4.2.2.1,mem4.2.2.2,trivial⟩,show 3≤3 by decide⟩
theorem zpx{xs:List PV}(h:Sh xs)(v:PV):∃ ys,(((cutM false (.tup xs) Option.none (some 1)).bind fun v46=>(opM false .Add v46 (.tup [v]))).bind fun v50=>((cutM false (.tup xs) (some 2) Option.none).bind fun v51=>(opM false .Add v50 v51)))=M.ret (.tup ys)∧(∀ y∈ys,y∈xs∨y=v)∧ys.length≤10:=by
 cases h with
 | two a b=>exact ⟨[a,v],by kernel_rfl,zah ⟨.inl mem2.1,.inr rfl,trivial⟩,show 2≤10 by decide⟩
 | three a b c=>exact ⟨[a,v,c],by kernel_rfl,zah ⟨.inl mem3.1,.inr rfl,.inl mem3.2.2,trivial⟩,show 3≤10 by decide⟩
 | four a b c d=>exact ⟨[a,v,c,d],by kernel_rfl,zah ⟨.inl mem4.1,.inr rfl,.inl mem4.2.2.1,.inl mem4.2.2.2,trivial⟩,show 4≤10 by decide⟩
theorem zor{xs:List PV}(h:Sh xs):∃ y∈xs,index (.tup xs) (.int (-1))=M.ret y:=by
 cases h with
 | two a b=>exact ⟨b,mem2.2,by kernel_rfl⟩
 | three a b c=>exact ⟨c,mem3.2.2,by kernel_rfl⟩
 | four a b c d=>exact ⟨d,mem4.2.2.2,by kernel_rfl⟩
theorem w_in{xs:List PV}(h:Sh xs)(h3:3≤xs.length)(a b:PV):∃ ys,((((biM ⟨true,true⟩ false "len" [.tup xs]).bind fun v61=>(opM false .Sub v61 (.int 2))).bind fun v62=>(opM false .Mult (.tup [.tup xs]) v62)).bind fun v63=>(opM false .Add (.tup [a,b]) v63))=M.ret (.tup ys)∧(∀ y∈ys,y=a∨y=b∨y=.tup xs)∧ys.length≤10:=by
 cases h with
 | two a b=>exact absurd h3 (show ¬ 3≤2 by decide)
 | three x y z=>exact ⟨[a,b,.tup [x,y,z]],by kernel_rfl,zah ⟨.inl rfl,.inr (.inl rfl),.inr (.inr rfl),trivial⟩,show 3≤10 by decide⟩
 | four x y z w=>exact ⟨[a,b,.tup [x,y,z,w],.tup [x,y,z,w]],by kernel_rfl,zah ⟨.inl rfl,.inr (.inl rfl),.inr (.inr rfl),.inr (.inr rfl),trivial⟩,show 4≤10 by decide⟩
theorem zni{c o:Cl}{k j:Nat}(hk:k<2)(hc:c.s.dep<400)(ho:o.s.dep<400):∃ v,(((seqM [((((index (.tup [.str "clash",c.pv,o.pv]) (.int ((1+k:Nat):Int))).bind fun v9=>(index v9 (.int 0))).bind fun v10=>(opM false .Add v10 (.int 1))).bind fun v11=>(opM false .Add v11 (.int (j:Int)))),((index (.tup [.str "clash",c.pv,o.pv]) (.int ((1+k:Nat):Int))).bind fun v14=>(index v14 (.int 1))),((index (.tup [.str "clash",c.pv,o.pv]) (.int ((1+k:Nat):Int))).bind fun v15=>(index v15 (.int 2)))]).bind fun v16=>(M.ret (.tup v16))).bind fun v17=>
 ((((zbb (M.ret (.int ((1+k:Nat):Int)))).bind fun v18=>(cutM false (.tup [.str "clash",c.pv,o.pv]) Option.none v18)).bind fun v19=>(opM false .Add v19 (.tup [v17]))).bind fun v20=>(((zbb (opM false .Add (.int ((1+k:Nat):Int)) (.int 1))).bind fun v21=>(cutM false (.tup [.str "clash",c.pv,o.pv]) v21 Option.none)).bind fun v22=>(opM false .Add v20 v22))))=M.ret v∧∀ σ,G2 σ v:=by
 match k,hk with
 | 0,_=>exact ⟨.tup [.str "clash",(Cl.mk (c.n+1+j) c.b c.s).pv,o.pv],by kernel_rfl,fun σ=>.tup (zah ⟨.str _ _,.clm σ _ hc,.clm σ _ ho,trivial⟩) (show 3≤20 by decide)⟩
 | 1,_=>exact ⟨.tup [.str "clash",c.pv,(Cl.mk (o.n+1+j) o.b o.s).pv],by kernel_rfl,fun σ=>.tup (zah ⟨.str _ _,.clm σ _ hc,.clm σ _ ho,trivial⟩) (show 3≤20 by decide)⟩
theorem zkY{xs:List PV}{m:Int}{b:Nat}(hb:xs.length=b)(h0:0<b)(hl:b≤100):∃ v∈xs,((opM false .Mod (.int m) (.int (b:Int))).bind fun v25=>(index (.lst xs) v25))=M.ret v:=by
 obtain ⟨k,hk,hkl⟩:=zam m (b:=b) h0
 obtain ⟨v,hv,ev⟩:=zgF (xs:=xs) (i:=(k:Int)) (by lia) (by lia) (by lia)
 exact ⟨v,hv,tr (bd (zaC _ _ (Int.ofNat_lt.mpr h0) hk)) ev⟩
theorem Of.g2{xs:List PV}{m:M PV}(h:Of xs m)(hg:∀ x∈xs,∀ σ,G2 σ x):∃ v,m=M.ret v∧∀ σ,G2 σ v:=by
 obtain ⟨ys,e,hm,hl⟩:=h
 exact ⟨.tup ys,e,fun σ=>.tup (fun y hy=>hg y (hm y hy) σ) (Nat.le_trans hl (by decide))⟩
theorem zoj{xs ys:List PV}(h:xs.length+ys.length≤1000):opM false .Add (.tup xs) (.tup ys)=M.ret (.tup (xs++ys)):=c_t (decide_eq_true (Nat.le_trans h (by decide)))
theorem here{σ:zaa}{w:Str}{c:Cl}{l:List PV}{ns:List Str}{i:Int}{d:Nat}(hd:1<d)(hn:1≤ns.length)(hsh:Sh (.str w::c.pv::l))(hg:∀ x∈(PV.str w::c.pv::l),∀ σ,G2 σ x)(hc:c.s.dep≤100)(hcl:w="clash"→∃ o:Cl,l=[o.pv]∧o.s.dep≤100) (hap:(zac .In (.str w) (.tup [(.str "apart"),(.str "fork")])=M.ret (.bool true)∧3≤(PV.str w::c.pv::l).length)∨zac .In (.str w) (.tup [(.str "apart"),(.str "fork")])=M.ret (.bool false)) :
  ∃ v τ,zad GG d ⟨true,true⟩ AA.l_here_changed [.tup (.str w::c.pv::l),.int i,.lst (ns.map .str)] σ=.ok v (σ++τ)∧G2 (σ++τ) v:=by
 obtain ⟨e,rfl⟩:∃ e,d=e+1:=⟨d-1,by lia⟩
 have hlen:=hsh.len
 obtain ⟨m3,hm3,_⟩:=zam i (b:=3) (by decide)
 obtain ⟨k2,hk2,hk2l⟩:=zdn i 3 (b:=2) (by decide) (by decide) (by decide)
 obtain ⟨k5,hk5,_⟩:=zdn i 6 (b:=5) (by decide) (by decide) (by decide)
 obtain ⟨w9,hw9,hw9l⟩:=zam i (b:=9) (by decide)
 obtain ⟨q2,hq2,_⟩:=zdn (i.fdiv 9) 10 (b:=2) (by decide) (by decide) (by decide)
 have iscl:((index (.tup (.str w::c.pv::l)) (.int 0)).bind fun v4=>(zac .Eq v4 (.str "clash")))=M.ret (.bool (w=="clash")):=tr (bd (ix_0 _ _)) (zet _ _)
 have c1:andM ((index (.tup (.str w::c.pv::l)) (.int 0)).bind fun v4=>(zac .Eq v4 (.str "clash"))) ((opM false .Mod (.int i) (.int 3)).bind fun v5=>(zac .Eq v5 (.int 1)))=M.ret (.bool ((w=="clash")&&((m3:Int)==1))):=zeF iscl (tr (bd (zaC _ _ (by decide) hm3)) (zgL _ _))
 have ret:∀{v:PV},zal GG (zad GG e) ⟨true,true⟩ AA.l_here_changed [.tup (.str w::c.pv::l),.int i,.lst (ns.map .str)]=M.ret v→(∀ σ,G2 σ v)→∃ v τ,zad GG (e+1) ⟨true,true⟩ AA.l_here_changed [.tup (.str w::c.pv::l),.int i,.lst (ns.map .str)] σ=.ok v (σ++τ)∧G2 (σ++τ) v:=fun {v} h g=>⟨v,[],by rw [List.append_nil];exact congrFun (zag h) σ,g _⟩
 cases q:((w=="clash")&&((m3:Int)==1)) with
 | true=>
  obtain ⟨o,rfl,ho⟩:=hcl (eq_of_beq (Bool.and_eq_true_iff.mp q).1)
  have hw:w="clash":=eq_of_beq (Bool.and_eq_true_iff.mp q).1
  subst hw
  obtain ⟨v,ev,gv⟩:=zni (c:=c) (o:=o) (k:=k2) (j:=k5) hk2l (Nat.lt_of_le_of_lt hc (by decide)) (Nat.lt_of_le_of_lt ho (by decide))
  refine ret (tr (zb6 _ _ _ _ _) (tr (if_t (tr c1 (b_eq q))) (tr (bd (tr (bd hk2) (tr (add_int _ _ _) (i_eq (show (1:Int)+(k2:Int)=((1+k2:Nat):Int) by lia))))) ?_))) gv
  have hk5:((opM false .FloorDiv (.int i) (.int 6)).bind fun v12=>(opM false .Mod v12 (.int 5)))=M.ret (.int (k5:Int)):=hk5
  rw [hk5];exact ev
 | false=>
  have pre:∀{F:M PV},_=F→zal GG (zad GG e) ⟨true,true⟩ AA.l_here_changed [.tup (.str w::c.pv::l),.int i,.lst (ns.map .str)]=F:=fun {F} h=>tr (zb6 _ _ _ _ _) (tr (if_f (tr c1 (b_eq q))) (tr (bd (zaC _ _ (by decide) hw9)) (tr (bd (zaT _ i 9 (by decide) (by decide))) h)))
  by_cases h0:w9=0
  ·obtain ⟨ys,ey,_,hyl⟩:=zmG hsh
   obtain ⟨x,_,ex⟩:=zkY (xs:=[(.str "shut"),(.str "clash"),(.str "apart"),(.str "fork"),(.str "both"),(.int 5)]) (m:=i.fdiv 9) (b:=6) rfl (by decide) (by decide)
   have el:biM ⟨true,true⟩ false "list" [.tup ys]=M.ret (.lst ys):=tr (zlA true false (.tup ys)) (c_t (decide_eq_true (show ys.length≤2 ^ 20 by lia)))
   exact ret (pre (tr (if_t (w_t 0 h0)) (tr (bd (tr (bd (bd (sq1 ex))) (tr (bd (tr (bd (sq1 ey)) el)) (zds (show 1+ys.length≤1000 by lia))))) (tr (bd (tr (bd (zaz (show l.length+2≤1000000 by have:=hlen.2;have:l.length+2≤4:=this;lia))) rfl)) (zgP (show (x::ys).length≤1000 by show ys.length+1≤1000;lia)))))) fun σ=>⟨.lst _,rfl⟩
  ·by_cases h1:w9=1
   ·obtain ⟨ys,ey,hym,hyl⟩:=zmG hsh
    let L:List PV:=[.str "shut",.str "clash",.str "apart",.str "fork",.str "Fork",.none,.lst [.str w],.ref σ.length]
    obtain ⟨x,hx,ex⟩:=zkY (xs:=L) (m:=i.fdiv 9) (b:=8) rfl (by decide) (by decide)
    have gL:∀ x∈L,G2 (σ++[.dict []]) x:=zah ⟨.str _ _,.str _ _,.str _ _,.str _ _,.str _ _,⟨.none,rfl⟩,⟨.lst _,rfl⟩,⟨.dct za1,rfl⟩,trivial⟩
    have es:seqM [(M.ret (PV.str "shut")),(M.ret (.str "clash")),(M.ret (.str "apart")),(M.ret (.str "fork")),(M.ret (.str "Fork")),(M.ret PV.none),((seqM [(index (.tup (.str w::c.pv::l)) (.int 0))]).bind fun v32=>(M.ret (.lst v32))),(cnew (.dict []))] σ=.ok L (σ++[.dict []]):=by
     rw [show ((seqM [(index (.tup (.str w::c.pv::l)) (.int 0))]).bind fun v32=>(M.ret (PV.lst v32)))=M.ret (.lst [.str w]) from bd (sq1 (ix_0 _ _))];rfl
    refine ⟨.tup (x::ys),[.dict []],at_ (zag (pre (tr (if_f (w_f 0 h0)) (if_t (w_t 1 h1))))) (tr (zab (a:=PV.tup [x]) (tr (zab (zeU (tr (zab (a:=PV.lst L) (tr (zab es) rfl)) (congrFun ex _)))) rfl)) (at_ (tr (bd ey) (zoj (show 1+ys.length≤1000 by lia))) rfl)),.tup (fun y hy=>?_) (show ys.length+1≤20 by lia)⟩
    rcases List.mem_cons.mp hy with rfl | hy
    ·exact gL _ hx
    ·exact hg y (hym y hy) _
   ·have c2:andM ((index (.tup (.str w::c.pv::l)) (.int 0)).bind fun v39=>(zac .Eq v39 (.str "clash"))) (((opM false .FloorDiv (.int (i.fdiv 9)) (.int 10)).bind fun v40=>(opM false .Mod v40 (.int 2))).bind fun v41=>(zac .Eq v41 (.int 1)))=M.ret (.bool ((w=="clash")&&((q2:Int)==1))):=zeF iscl (tr (bd hq2) (zgL _ _))
    by_cases h2:w9=2
    ·cases z:((w=="clash")&&((q2:Int)==1)) with
     | true=>
      obtain ⟨o,rfl,ho⟩:=hcl (eq_of_beq (Bool.and_eq_true_iff.mp z).1)
      obtain ⟨v,ev,gv⟩:=zc4 (σ:=σ) (c:=o) (m:=i.fdiv 9) (ns:=ns) (d:=e) (r:=true) (by lia) hn (Nat.lt_of_le_of_lt ho (by decide))
      refine ret (pre (tr (if_f (w_f 0 h0)) (tr (if_f (w_f 1 h1)) (tr (if_t (tr (zcn (w_t 2 h2)) (tr c2 (b_eq z)))) (tr (bd (a:=.tup [.str w,c.pv]) (by kernel_rfl)) (tr (bd (bd (sq1 (tr (bd (sq3 (ix_2 _ _ _ _) rfl rfl)) ev)))) (show _=M.ret (PV.tup [.str w,c.pv,v]) by kernel_rfl))))))) fun σ=>.tup (zah ⟨hg _ (.head _) σ,hg _ (.tail _ (.head _)) σ,gv σ,trivial⟩) (show 3≤20 by decide)
     | false=>
      obtain ⟨v,ev,gv⟩:=zc4 (σ:=σ) (c:=c) (m:=i.fdiv 9) (ns:=ns) (d:=e) (r:=true) (by lia) hn (Nat.lt_of_le_of_lt hc (by decide))
      obtain ⟨ys,ey,hym,hyl⟩:=zpx hsh v
      refine ret (v:=.tup ys) (pre (tr (if_f (w_f 0 h0)) (tr (if_f (w_f 1 h1)) (tr (if_f (tr (zcn (w_t 2 h2)) (tr c2 (b_eq z)))) (tr (if_t (w_t 2 h2)) ?_))))) fun σ=>.tup (fun y hy=>(hym y hy).elim (fun h=>hg y h σ) fun h=>h▸gv σ) (Nat.le_trans hyl (by decide))
      rw [show ((seqM [((seqM [(index (.tup (.str w::c.pv::l)) (.int 1)),(M.ret (.int (i.fdiv 9))),(M.ret (.lst (ns.map .str)))]).bind fun v47=>(zad GG e ⟨true,true⟩ AA.l_claim_changed v47))]).bind fun v48=>(M.ret (PV.tup v48)))=M.ret (.tup [v]) from bd (sq1 (tr (bd (sq3 (ix_1 _ _ _) rfl rfl)) ev))]
      exact ey
    ·have f2:andM (zac .Eq (.int (w9:Int)) (.int 2)) (andM ((index (.tup (.str w::c.pv::l)) (.int 0)).bind fun v39=>(zac .Eq v39 (.str "clash"))) (((opM false .FloorDiv (.int (i.fdiv 9)) (.int 10)).bind fun v40=>(opM false .Mod v40 (.int 2))).bind fun v41=>(zac .Eq v41 (.int 1))))=M.ret (.bool false):=zeM (w_f 2 h2)
     have pre4:∀{F:M PV},_=F→zal GG (zad GG e) ⟨true,true⟩ AA.l_here_changed [.tup (.str w::c.pv::l),.int i,.lst (ns.map .str)]=F:=fun {F} h=>pre (tr (if_f (w_f 0 h0)) (tr (if_f (w_f 1 h1)) (tr (if_f f2) (tr (if_f (w_f 2 h2)) h))))
     clear pre
     by_cases h3:w9=3
     ·obtain ⟨v,ev,gv⟩:=(zpw hsh).g2 hg
      exact ret (pre4 (tr (if_t (w_t 3 h3)) ev)) gv
     ·by_cases h4:w9=4
      ·obtain ⟨v,ev,gv⟩:=(zoq hsh).g2 hg
       exact ret (pre4 (tr (if_f (w_f 3 h3)) (tr (if_t (w_t 4 h4)) ev))) gv
      ·by_cases h5:w9=5
       ·obtain ⟨v,ev,gv⟩:=(zop hsh).g2 hg
        exact ret (pre4 (tr (if_f (w_f 3 h3)) (tr (if_f (w_f 4 h4)) (tr (if_t (w_t 5 h5)) ev)))) gv
       ·by_cases h6:w9=6
        ·obtain ⟨y,hy,ey⟩:=zor hsh
         obtain ⟨v,hv,ev⟩:=zkY (xs:=[PV.none,.str "shut",.tup [],.tup [.str "shut"],.int 7,y]) (m:=i.fdiv 9) (b:=6) rfl (by decide) (by decide)
         have es:seqM [(M.ret PV.none),(M.ret (.str "shut")),(M.ret (.tup [])),(M.ret (.tup [(.str "shut")])),(M.ret (.int 7)),(index (.tup (.str w::c.pv::l)) (.int (-1)))]=M.ret [PV.none,.str "shut",.tup [],.tup [.str "shut"],.int 7,y]:=by rw [ey];rfl
         exact ret (pre4 (tr (if_f (w_f 3 h3)) (tr (if_f (w_f 4 h4)) (tr (if_f (w_f 5 h5)) (tr (if_t (w_t 6 h6)) (tr (bd (bd es)) ev)))))) fun σ=>zah (P:=fun v=>G2 σ v) (l:=[PV.none,.str "shut",.tup [],.tup [.str "shut"],.int 7,y]) ⟨⟨.none,rfl⟩,.str _ _,.tup (fun x h=>nomatch h) (by decide),.tup (zah ⟨.str _ _,trivial⟩) (show 1≤20 by decide),⟨.int _,rfl⟩,hg y hy σ,trivial⟩ v hv
        ·have in7:∀{b:Bool},zac .In (.str w) (.tup [(.str "apart"),(.str "fork")])=M.ret (.bool b)→((index (.tup (.str w::c.pv::l)) (.int 0)).bind fun v58=>(zac .In v58 (.tup [(.str "apart"),(.str "fork")])))=M.ret (.bool b):=fun h=>tr (bd (ix_0 _ _)) h
         have last:∃ v,((cutM false (.tup (.str w::c.pv::l)) Option.none (some (-2))).bind fun v64=>(((seqM [(index (.tup (.str w::c.pv::l)) (.int (-1))),(index (.tup (.str w::c.pv::l)) (.int (-2)))]).bind fun v65=>(M.ret (.tup v65))).bind fun v66=>(opM false .Add v64 v66)))=M.ret v∧∀ σ,G2 σ v:=(zon hsh).g2 hg
         obtain ⟨vl,el,gl⟩:=last
         by_cases h7:w9=7
         ·rcases hap with ⟨ha,h3'⟩ | ha
          ·obtain ⟨ys,ey,hym,hyl⟩:=w_in hsh h3' (.str w) c.pv
           exact ret (v:=.tup ys) (pre4 (tr (if_f (w_f 3 h3)) (tr (if_f (w_f 4 h4)) (tr (if_f (w_f 5 h5)) (tr (if_f (w_f 6 h6)) (tr (if_t (tr (zcn (w_t 7 h7)) (in7 ha))) (tr (bd (bd (sq2 (ix_0 _ _) (ix_1 _ _ _)))) ey))))))) fun σ=>.tup (fun y hy=>by
            rcases hym y hy with rfl | rfl | rfl
            ·exact hg _ (.head _) σ
            ·exact hg _ (.tail _ (.head _)) σ
            ·exact .tup (fun x hx=>hg x hx σ) (Nat.le_trans hlen.2 (by decide))) (Nat.le_trans hyl (by decide))
          ·exact ret (pre4 (tr (if_f (w_f 3 h3)) (tr (if_f (w_f 4 h4)) (tr (if_f (w_f 5 h5)) (tr (if_f (w_f 6 h6)) (tr (if_f (tr (zcn (w_t 7 h7)) (in7 ha))) el)))))) gl
         ·exact ret (pre4 (tr (if_f (w_f 3 h3)) (tr (if_f (w_f 4 h4)) (tr (if_f (w_f 5 h5)) (tr (if_f (w_f 6 h6)) (tr (if_f (zeM (w_f 7 h7))) el)))))) gl
theorem zki{xs:List PV}{k:Nat}{X:M PV}{v:PV}{σ σ':zaa}(hX:X σ=.ok v σ')(hk:(k=2∧∃ a b c,xs=[a,b,c])∨(k=2∧∃ a b c d,xs=[a,b,c,d])∨(k=3∧∃ a b c d,xs=[a,b,c,d])):∃ ys,(((((zbb (M.ret (.int (k:Int)))).bind fun v14=>(cutM false (.tup xs) Option.none v14)).bind fun v15=>(((seqM [X]).bind fun v17=>(M.ret (.tup v17))).bind fun v18=>(opM false .Add v15 v18))).bind fun v19=>(((zbb (opM false .Add (.int (k:Int)) (.int 1))).bind fun v20=>(cutM false (.tup xs) v20 Option.none)).bind fun v21=>(opM false .Add v19 v21)))) σ=.ok (.tup ys) σ'∧(∀ y∈ys,y∈xs∨y=v)∧ys.length≤10:=by
 have one:((seqM [X]).bind fun v17=>(M.ret (PV.tup v17))) σ=.ok (.tup [v]) σ':=tr (zab (zeU hX)) rfl
 rcases hk with ⟨rfl,a,b,c,rfl⟩ | ⟨rfl,a,b,c,d,rfl⟩ | ⟨rfl,a,b,c,d,rfl⟩
 ·exact ⟨[a,b,v],tr (zab (at_ (bd (a:=PV.tup [a,b]) (by kernel_rfl)) (tr (zab one) (congrFun (show opM false .Add (.tup [a,b]) (.tup [v])=M.ret (.tup [a,b,v]) by kernel_rfl) σ')))) (congrFun (show _=M.ret (PV.tup [a,b,v]) by kernel_rfl) σ'),zah ⟨.inl mem3.1,.inl mem3.2.1,.inr rfl,trivial⟩,show 3≤10 by decide⟩
 ·exact ⟨[a,b,v,d],tr (zab (at_ (bd (a:=PV.tup [a,b]) (by kernel_rfl)) (tr (zab one) (congrFun (show opM false .Add (.tup [a,b]) (.tup [v])=M.ret (.tup [a,b,v]) by kernel_rfl) σ')))) (congrFun (show _=M.ret (PV.tup [a,b,v,d]) by kernel_rfl) σ'),zah ⟨.inl mem4.1,.inl mem4.2.1,.inr rfl,.inl mem4.2.2.2,trivial⟩,show 4≤10 by decide⟩
 ·exact ⟨[a,b,c,v],tr (zab (at_ (bd (a:=PV.tup [a,b,c]) (by kernel_rfl)) (tr (zab one) (congrFun (show opM false .Add (.tup [a,b,c]) (.tup [v])=M.ret (.tup [a,b,c,v]) by kernel_rfl) σ')))) (congrFun (show _=M.ret (PV.tup [a,b,c,v]) by kernel_rfl) σ'),zah ⟨.inl mem4.1,.inl mem4.2.1,.inl mem4.2.2.1,.inr rfl,trivial⟩,show 4≤10 by decide⟩
theorem zlu{ns:List Str}(hn:1≤ns.length){cs:List Cl}{t:PV}(h:Std cs t):(∀ c∈cs,c.s.dep≤100)→cs.length+tsz cs≤300→∀(i:Int)(d:Nat)(σ:zaa),tsz cs+10<d→∃ v τ,zad GG d ⟨true,true⟩ AA.l_changed [t,.int i,.lst (ns.map .str)] σ=.ok v (σ++τ)∧G2 (σ++τ) v:=by
 have pre:∀{e:Nat}{t:PV}{i:Int}{σ:zaa}{rs:Rs PV},(ifM (andM ((index t (.int 0)).bind fun v7=>(zac .In v7 (.tup [(.str "apart"),(.str "fork")]))) ((opM false .Mod (.int ((i*48271+7).fmod 1000003)) (.int 5)).bind fun v8=>(zac .Gt v8 (.int 0))))
 ((((opM false .FloorDiv (.int ((i*48271+7).fmod 1000003)) (.int 5)).bind fun v9=>(((biM ⟨true,true⟩ false "len" [t]).bind fun v10=>(opM false .Sub v10 (.int 2))).bind fun v11=>(opM false .Mod v9 v11))).bind fun v12=>(opM false .Add (.int 2) v12)).bind fun v13=>
 ((((zbb (M.ret v13)).bind fun v14=>(cutM false t Option.none v14)).bind fun v15=>(((seqM [((seqM [(index t v13),(M.ret (.int ((i*48271+7).fmod 1000003))),(M.ret (.lst (ns.map .str)))]).bind fun v16=>(zad GG e ⟨true,true⟩ AA.l_changed v16))]).bind fun v17=>(M.ret (.tup v17))).bind fun v18=>(opM false .Add v15 v18))).bind fun v19=>(((zbb (opM false .Add v13 (.int 1))).bind fun v20=>(cutM false t v20 Option.none)).bind fun v21=>(opM false .Add v19 v21))))
 ((seqM [(M.ret t),(opM false .FloorDiv (.int ((i*48271+7).fmod 1000003)) (.int 5)),(M.ret (.lst (ns.map .str)))]).bind fun v22=>(zad GG e ⟨true,true⟩ AA.l_here_changed v22))) σ=rs→zad GG (e+1) ⟨true,true⟩ AA.l_changed [t,.int i,.lst (ns.map .str)] σ=rs:=fun {e t i σ rs} h=>
  at_ (zag (zhu _ _ _ _ _)) (at_ (bd (tr (bd (tr (bd (zcf false i 48271 (by decide) (by decide))) (add_int _ _ _))) (zbt _ _ _ (by decide)))) h)
 have gt:∀ i:Int,∃ b,((opM false .Mod (.int i) (.int 5)).bind fun v8=>(zac .Gt v8 (.int 0)))=M.ret (.bool b):=fun i=>by
  obtain ⟨k,hk,_⟩:=zam i (b:=5) (by decide)
  exact ⟨_,tr (bd (zaC _ _ (by decide) hk)) (show _=M.ret (PV.bool (decide ((0:Int)<(k:Int)))) from rfl)⟩
 have hr:∀{e:Nat}{w:Str}{c:Cl}{l:List PV}{j:Int}{σ:zaa},1<e→Sh (.str w::c.pv::l)→(∀ x∈(PV.str w::c.pv::l),∀ σ,G2 σ x)→c.s.dep≤100→(w="clash"→∃ o:Cl,l=[o.pv]∧o.s.dep≤100)→((zac .In (.str w) (.tup [(.str "apart"),(.str "fork")])=M.ret (.bool true)∧3≤(PV.str w::c.pv::l).length)∨zac .In (.str w) (.tup [(.str "apart"),(.str "fork")])=M.ret (.bool false))→∃ v τ,((seqM [(M.ret (.tup (.str w::c.pv::l))),(opM false .FloorDiv (.int j) (.int 5)),(M.ret (.lst (ns.map .str)))]).bind fun v22=>(zad GG e ⟨true,true⟩ AA.l_here_changed v22)) σ=.ok v (σ++τ)∧G2 (σ++τ) v:=fun {e w c l j σ} he h1 h2 h3 h4 h5=>by
  obtain ⟨v,τ,ev,gv⟩:=here (σ:=σ) (i:=j.fdiv 5) he hn h1 h2 h3 h4 h5
  exact ⟨v,τ,at_ (bd (sq3 rfl (zaT _ j 5 (by decide) (by decide)) rfl)) ev,gv⟩
 induction h with
 | @shut cs c hc hk=>
  intro hx hl i d σ hd
  obtain ⟨e,rfl,he⟩:=ten hd
  obtain ⟨v,τ,ev,gv⟩:=hr (e:=e) (w:="shut") (c:=c) (l:=[]) (j:=(i*48271+7).fmod 1000003) (σ:=σ) (Nat.lt_of_lt_of_le (by decide) he) (.two _ _) (zah ⟨fun σ=>.str σ _,fun σ=>.clm σ c (dep4 hx c hc),trivial⟩) (hx c hc) (fun h=>absurd h (by decide)) (.inr (by kernel_rfl))
  exact ⟨v,τ,pre (at_ (if_f (zeM (tr (bd (ix_0 _ _)) (by kernel_rfl)))) ev),gv⟩
 | @clash cs c o hc ho hq=>
  intro hx hl i d σ hd
  obtain ⟨e,rfl,he⟩:=ten hd
  obtain ⟨v,τ,ev,gv⟩:=hr (e:=e) (w:="clash") (c:=c) (l:=[o.pv]) (j:=(i*48271+7).fmod 1000003) (σ:=σ) (Nat.lt_of_lt_of_le (by decide) he) (.three _ _ _) (zah ⟨fun σ=>.str σ _,fun σ=>.clm σ c (dep4 hx c hc),fun σ=>.clm σ o (dep4 hx o ho),trivial⟩) (hx c hc) (fun _=>⟨o,rfl,hx o ho⟩) (.inr (by kernel_rfl))
  exact ⟨v,τ,pre (at_ (if_f (zeM (tr (bd (ix_0 _ _)) (by kernel_rfl)))) ev),gv⟩
 | @apart cs c t hc hk ht ih=>
  intro hx hl i d σ hd
  obtain ⟨e,rfl,he⟩:=ten hd
  have N:=zdK (l:=c.come) hc (.inl hk) hl (zbJ c) (Nat.le_refl _) (fun _ h=>h) hx
  have gs:∀ x∈[PV.str "apart",c.pv,t],∀ σ,G2 σ x:=zah ⟨fun σ=>.str σ _,fun σ=>.clm σ c (dep4 hx c hc),fun σ=>zgh σ ht N.dep,trivial⟩
  obtain ⟨b,hb⟩:=gt ((i*48271+7).fmod 1000003)
  have hin:((index (.tup [.str "apart",c.pv,t]) (.int 0)).bind fun v7=>(zac .In v7 (.tup [(.str "apart"),(.str "fork")])))=M.ret (.bool true):=tr (bd (ix_0 _ _)) (by kernel_rfl)
  cases b with
  | false=>
   obtain ⟨v,τ,ev,gv⟩:=hr (e:=e) (w:="apart") (c:=c) (l:=[t]) (j:=(i*48271+7).fmod 1000003) (σ:=σ) (Nat.lt_of_lt_of_le (by decide) he) (.three _ _ _) gs (hx c hc) (fun h=>absurd h (by decide)) (.inl ⟨by kernel_rfl,show 3≤3 by decide⟩)
   exact ⟨v,τ,pre (at_ (if_f (tr (zcn hin) hb)) ev),gv⟩
  | true=>
   obtain ⟨v,τ,ev,gv⟩:=ih N.dep N.all ((i*48271+7).fmod 1000003) e σ (N.down hd)
   obtain ⟨ys,ey,hym,hyl⟩:=zki (xs:=[.str "apart",c.pv,t]) (k:=2) (X:=(seqM [(index (.tup [.str "apart",c.pv,t]) (.int 2)),(M.ret (.int ((i*48271+7).fmod 1000003))),(M.ret (.lst (ns.map .str)))]).bind fun v16=>(zad GG e ⟨true,true⟩ AA.l_changed v16)) (at_ (bd (sq3 (ix_2 _ _ _ _) rfl rfl)) ev) (.inl ⟨rfl,_,_,_,rfl⟩)
   refine ⟨.tup ys,τ,pre (at_ (tr (if_t (tr (zcn hin) hb)) (bd (a:=.int 2) (tr (bd (tr (bd (zaT _ _ 5 (by decide) (by decide))) (tr (bd (tr (bd (zaz (show 3≤1000000 by decide))) (sub_int _ _ _))) (zaC _ _ (k:=0) (show (0:Int)<1 by decide) (Int.fmod_one _))))) rfl))) ey),.tup (fun y hy=>(hym y hy).elim (fun h=>gs y h _) fun h=>h▸gv) (Nat.le_trans hyl (by decide))⟩
 | @fork cs c t u hc hk ht hu ih1 ih2=>
  intro hx hl i d σ hd
  obtain ⟨e,rfl,he⟩:=ten hd
  have N1:=zdK hc (.inr hk) hl zca.1 (zbl c.come 1).1 (fun _ h=>List.mem_of_mem_take h) hx
  have N2:=zdK hc (.inr hk) hl zca.2 (zbl c.come 1).2 (fun _ h=>List.mem_of_mem_drop h) hx
  have gs:∀ x∈[PV.str "fork",c.pv,t,u],∀ σ,G2 σ x:=zah ⟨fun σ=>.str σ _,fun σ=>.clm σ c (dep4 hx c hc),fun σ=>zgh σ ht N1.dep,fun σ=>zgh σ hu N2.dep,trivial⟩
  obtain ⟨b,hb⟩:=gt ((i*48271+7).fmod 1000003)
  have hin:((index (.tup [.str "fork",c.pv,t,u]) (.int 0)).bind fun v7=>(zac .In v7 (.tup [(.str "apart"),(.str "fork")])))=M.ret (.bool true):=tr (bd (ix_0 _ _)) (by kernel_rfl)
  cases b with
  | false=>
   obtain ⟨v,τ,ev,gv⟩:=hr (e:=e) (w:="fork") (c:=c) (l:=[t,u]) (j:=(i*48271+7).fmod 1000003) (σ:=σ) (Nat.lt_of_lt_of_le (by decide) he) (.four _ _ _ _) gs (hx c hc) (fun h=>absurd h (by decide)) (.inl ⟨by kernel_rfl,show 3≤4 by decide⟩)
   exact ⟨v,τ,pre (at_ (if_f (tr (zcn hin) hb)) ev),gv⟩
  | true=>
   obtain ⟨k,hk2,hkl⟩:=zam (((i*48271+7).fmod 1000003).fdiv 5) (b:=2) (by decide)
   have hat:((((opM false .FloorDiv (.int ((i*48271+7).fmod 1000003)) (.int 5)).bind fun v9=>(((biM ⟨true,true⟩ false "len" [.tup [.str "fork",c.pv,t,u]]).bind fun v10=>(opM false .Sub v10 (.int 2))).bind fun v11=>(opM false .Mod v9 v11))).bind fun v12=>(opM false .Add (.int 2) v12)))=M.ret (.int ((2+k:Nat):Int)):=tr (bd (tr (bd (zaT _ _ 5 (by decide) (by decide))) (tr (bd (tr (bd (zaz (show 4≤1000000 by decide))) (sub_int _ _ _))) (zaC _ _ (show (0:Int)<2 by decide) hk2)))) (tr (add_int _ _ _) (i_eq (show (2:Int)+(k:Int)=((2+k:Nat):Int) by lia)))
   match k,hkl,hat with
   | 0,_,hat=>
    obtain ⟨v,τ,ev,gv⟩:=ih1 N1.dep N1.all ((i*48271+7).fmod 1000003) e σ (N1.down hd)
    obtain ⟨ys,ey,hym,hyl⟩:=zki (xs:=[.str "fork",c.pv,t,u]) (k:=2) (X:=(seqM [(index (.tup [.str "fork",c.pv,t,u]) (.int 2)),(M.ret (.int ((i*48271+7).fmod 1000003))),(M.ret (.lst (ns.map .str)))]).bind fun v16=>(zad GG e ⟨true,true⟩ AA.l_changed v16)) (at_ (bd (sq3 (ix_2 _ _ _ _) rfl rfl)) ev) (.inr (.inl ⟨rfl,_,_,_,_,rfl⟩))
    exact ⟨.tup ys,τ,pre (at_ (tr (if_t (tr (zcn hin) hb)) (bd hat)) ey),.tup (fun y hy=>(hym y hy).elim (fun h=>gs y h _) fun h=>h▸gv) (Nat.le_trans hyl (by decide))⟩
   | 1,_,hat=>
    obtain ⟨v,τ,ev,gv⟩:=ih2 N2.dep N2.all ((i*48271+7).fmod 1000003) e σ (N2.down hd)
    obtain ⟨ys,ey,hym,hyl⟩:=zki (xs:=[.str "fork",c.pv,t,u]) (k:=3) (X:=(seqM [(index (.tup [.str "fork",c.pv,t,u]) (.int 3)),(M.ret (.int ((i*48271+7).fmod 1000003))),(M.ret (.lst (ns.map .str)))]).bind fun v16=>(zad GG e ⟨true,true⟩ AA.l_changed v16)) (at_ (bd (sq3 (zgE (k:=3) rfl (by decide)) rfl rfl)) ev) (.inr (.inr ⟨rfl,_,_,_,_,rfl⟩))
    exact ⟨.tup ys,τ,pre (at_ (tr (if_t (tr (zcn hin) hb)) (bd hat)) ey),.tup (fun y hy=>(hym y hy).elim (fun h=>gs y h _) fun h=>h▸gv) (Nat.le_trans hyl (by decide))⟩
theorem zlv{n:Nat}(h:¬ (1≤n∧n≤6)):((zac .LtE (.int 1) (.int (n:Int))).bind fun v3=>(zar v3).bind fun v4=>M.cond v4 (zac .LtE (.int (n:Int)) (.int 6)) (M.ret v3))=M.ret (.bool false):=by
 by_cases h1:1≤n
 ·exact tr (bd (tr (c_le _ _) (b_eq (decide_eq_true (show (1:Int)≤(n:Int) by lia))))) (tr (bd (tr_b _)) (tr (c_le _ _) (b_eq (decide_eq_false (show ¬ (n:Int)≤6 by lia)))))
 ·exact tr (bd (tr (c_le _ _) (b_eq (decide_eq_false (show ¬ (1:Int)≤(n:Int) by lia))))) (tr (bd (tr_b _)) rfl)
theorem zoN{v:PV}{d:Nat}(hd:0<d)(h:isM GG (.bi .list) v=M.ret (.bool false)):zad GG d ⟨true,true⟩ AA.need_row [v]=M.raise AA.BadRow:=by
 obtain ⟨e,rfl⟩:∃ e,d=e+1:=⟨d-1,by lia⟩
 exact zag (tr (zcp _ _ _) (tr (if_t (or_t (zbz (b:=false) h))) rfl))
theorem zks{xs:List PV}{d:Nat}(hd:0<d)(hl:xs.length≤1000)(h:¬ (1≤xs.length∧xs.length≤6)):zad GG d ⟨true,true⟩ AA.need_row [.lst xs]=M.raise AA.BadRow:=by
 obtain ⟨e,rfl⟩:∃ e,d=e+1:=⟨d-1,by lia⟩
 exact zag (tr (zcp _ _ _) (tr (if_t (tr (or_f rfl) (zbz (b:=false) (tr (bd (zbB (by lia))) (zlv h))))) rfl))
theorem zoM{xs:List PV}{b:PV→Bool}{d:Nat}(hd:0<d)(h1:1≤xs.length)(h6:xs.length≤6) (hb:∀ x∈xs,zad GG (d-1) ⟨false,true⟩ AA.is_saying [x]=M.ret (.bool (b x))) (hf:xs.all b=false):zad GG d ⟨true,true⟩ AA.need_row [.lst xs]=M.raise AA.BadRow:=by
 obtain ⟨e,rfl⟩:∃ e,d=e+1:=⟨d-1,by lia⟩
 have hc:∀ l:List PV,(∀ x∈l,x∈xs)→za6 (M.ret ()) (fun x=>M.noErr ((fun v5=>(zad GG e (⟨true,true⟩:Md).inn AA.is_saying [v5]).bind fun v6=>M.ret (some v6)) x)) l=M.ret (l.map fun x=>.bool (b x)):=by
  intro l
  induction l with
  | nil=>exact fun _=>rfl
  | cons x l ih=>exact fun h=>zbq (f:=fun v5=>(zad GG e (⟨true,true⟩:Md).inn AA.is_saying [v5]).bind fun v6=>M.ret (some v6)) (bd (hb x (h x (.head _)))) (ih fun y hy=>h y (.tail _ hy))
 have ha:((seqM [(zbu ⟨true,true⟩ false (zbr (.lst xs)) fun v5=>(zad GG e (⟨true,true⟩:Md).inn AA.is_saying [v5]).bind fun v6=>M.ret (some v6))]).bind fun v7=>(biM ⟨true,true⟩ false "all" v7))=M.ret (.bool false):=tr (bd (sq1 (zbD rfl (show zbr (.lst xs)=M.ret ⟨xs,[]⟩ from rfl) (by lia) (hc xs fun _ h=>h)))) (tr (zhM (zb5 b xs) rfl) (b_eq (by rw [List.all_map];exact hf)))
 exact zag (tr (zcp _ _ _) (tr (if_f (tr (or_f rfl) (zbz (b:=true) (tr (bd (zbB (by lia))) (zik h1 h6))))) (tr (if_t (zbz (b:=false) ha)) rfl)))
theorem zps{d:Nat}{md:Md}(hd:1<d)(hl:md.lp=true):zad GG d md AA.is_saying [.tup [.str "yes",.int 1]]=M.ret (.bool false):=by
 obtain ⟨e,rfl⟩:∃ e,d=e+2:=⟨d-2,by lia⟩
 obtain ⟨r,l⟩:=md
 cases hl
 exact zag (tr (zem _ _ _) (zag (show zal GG (zad GG e) ⟨r,true⟩ AA.is_within [.tup [.str "yes",.int 1],.int 100]=M.ret (.bool false) by kernel_rfl)))
theorem zmh(C:zai)(md:Md)(σ:zaa):zal GG C md AA.l_kind [.exc AA.BadRow] σ=.ok (.tup [.str "row"]) (σ++[.list [.bool false,.bool false,.bool false,.bool true,.bool false,.bool false,.bool false]]):=
 (congrFun (show zal GG C md AA.l_kind [.exc AA.BadRow]=znO md [.bool false,.bool false,.bool false,.bool true,.bool false,.bool false] (.bool false) by kernel_rfl) σ).trans (zh5 (k:=3) (by decide) (by kernel_rfl) (by kernel_rfl) rfl (by decide))
theorem zmP{v:PV}{σ:zaa}(h:zad GG 396 ⟨true,true⟩ AA.need_row [v]=M.raise AA.BadRow):∃ σ',zad GG 399 ⟨true,true⟩ AA.l_no_row [v] σ=.ok (.bool true) σ':=by
 have hb:zad GG 397 ⟨true,true⟩ AA.begun [v] σ=.err AA.BadRow σ:=at_ (zag (zlD _ _ _)) (zap (congrFun h σ))
 have hs:zad GG 398 ⟨true,true⟩ AA.stands [v,(.tup [(.str "shut"),(.tup [(.int 0),(.bool true),(.tup [(.str "no")])])])] σ=.err AA.BadRow σ:=at_ (zag (zhP _ _ _ _)) (zap (zap hb))
 exact ⟨_,at_ (zag (zi4 _ _ _)) (zm7 (E:=AA.BadRow) (σ':=σ) (zap hs) (by kernel_rfl) (tr (zab (tr (congrFun (zfl GG 397 _ _ _) σ) (zmh _ _ σ))) rfl))⟩
theorem zj7{cs:List Cl}{w:Str}{c:PV}{l:List PV}{r:Bool}{d:Nat}{σ:zaa}(hd:3<d)(hl:l.length≤18)(ho:zad GG (d-1) ⟨r,true⟩ AA.without [cps cs,c] σ=.ok .none σ):zad GG d ⟨r,true⟩ AA.stands_for [cps cs,.tup (.str w::c::l)] σ=.ok (.bool false) σ:=by
 obtain ⟨e,rfl⟩:∃ e,d=e+1:=⟨d-1,by lia⟩
 exact at_ (zag (zak _ _ _ _)) (at_ (if_f (tr (or_f rfl) (tr (or_f (tr (bd (zaz (show l.length+2≤1000000 by lia))) (tr (c_lt _ _) (b_eq (decide_eq_false (show ¬ (((l.length+2:Nat):Int)<2) by lia)))))) (zbz (b:=true) (tr (bd (ix_0 _ _)) rfl))))) (tr (zab (at_ (bd (sq2 rfl (ix_1 _ _ _))) ho)) (at_ (if_t rfl) rfl)))
theorem zdc{cs:List Cl}{v:PV}{r:Bool}{d:Nat}(hd:0<d) (h:(orM (notM (isM GG (.bi .tuple) v)) (orM ((biM ⟨r,true⟩ false "len" [v]).bind fun v3=>(zac .Lt v3 (.int 2))) (notM ((index v (.int 0)).bind fun v4=>(isM GG (.bi .str) v4)))))=M.ret (.bool true)):zad GG d ⟨r,true⟩ AA.stands_for [cps cs,v]=M.ret (.bool false):=by
 obtain ⟨e,rfl⟩:∃ e,d=e+1:=⟨d-1,by lia⟩
 exact zag (tr (zak _ _ _ _) (if_t h))
theorem zoI{o:Cl}{d:Nat}{md:Md}(hd:1<d)(ho:o.s.dep<400):zad GG d md AA.same_claim [.tup [.int 0,.bool true,.int 5],o.pv]=M.ret (.bool false):=by
 obtain ⟨e,rfl⟩:∃ e,d=e+2:=⟨d-2,by lia⟩
 refine zag (tr (zbm _ _ _ _) (tr (if_f (tr (or_f rfl) (tr (or_f rfl) (tr (or_f (zbz (b:=true) (tr (bd (sq1 (ix_0 _ _))) (zag (zf7 _ _ _))))) (zbz (b:=true) (tr (bd (ix_1 _ _ _)) rfl)))))) ?_))
 refine bd (a:=false) (funext fun σ=>?_)
 refine (show eqX (.tup [.int 0,.bool true,.int 5]) o.pv σ=eqM (.tup [.int 0,.bool true,.int 5]) o.pv σ from rfl).trans ((zab (a:=PV.tup [.int 0,.bool true,.int 5]) rfl).trans ((zab (congrFun (Cl.wholeM o ho) σ)).trans ?_))
 show Rs.ok (eqv (.tup [.int 0,.bool true,.int 5]) o.pv) σ=Rs.ok false σ
 have:eqv (.tup [.int 0,.bool true,.int 5]) o.pv=(((0:Int)==(o.n:Int))&&((true==o.b)&&(eqv (.int 5) o.s.pv&&true))):=by kernel_rfl
 rw [this,show eqv (.int 5) o.s.pv=false by cases o.s <;> rfl,Bool.false_and,Bool.and_false,Bool.and_false]
theorem five{cs:List Cl}{d:Nat}{r:Bool}{σ:zaa}(hd:10<d)(hx:∀ c∈cs,c.s.dep<400):∀ x∈[PV.none,(.tup []),(.tup [(.str "apart"),(.int 5),(.int 6)]),(.str "shut"),(.tup [(.str "shut"),(.tup [(.int 0),(.bool true),(.int 5)])])],zad GG d ⟨r,true⟩ AA.stands_for [cps cs,x] σ=.ok (.bool false) σ:=by
 refine zah ⟨congrFun (zdc (by lia) rfl) σ,congrFun (zdc (by lia) rfl) σ,zj7 (by lia) (show 1≤18 by decide) ?_,congrFun (zdc (by lia) rfl) σ,zj7 (by lia) (show 0≤18 by decide) ?_,trivial⟩
 ·exact zlM (by lia) fun o _=>(zmQ (σ:=σ) (.int 5) rfl).same (by lia)
 ·exact zlM (by lia) fun o ho=>congrFun (zoI (by lia) (hx o ho)) σ
theorem zh1(σ:zaa)(n:Nat):∀{rs:List Say},(∀ s∈rs,s.dep<n)→zan (Mine.whole σ n) (rs.map Say.pv)=some (rs.map Say.pv)
 | [],_=>rfl
 | s::rs,h=>zbn (zbj σ s n (h s (.head _))) (zh1 σ n fun t ht=>h t (.tail _ ht))
theorem zgK:∀ rs:List Say,eqvs (rs.map Say.pv) (rs.map Say.pv)=true
 | []=>rfl
 | s::rs=>by
  show (eqv s.pv s.pv&&eqvs (rs.map Say.pv) (rs.map Say.pv))=true
  rw [zgK rs,zbd s];rfl
theorem zk8{rs:List Say}(R:Row rs):eqX (rpv rs) (rpv rs)=M.ret true:=by
 have h2:∀ σ,wholeM (rpv rs) σ=.ok (rpv rs) σ:=fun σ=>zcI (congrArg (Option.map PV.lst) (zh1 σ 499 fun s hs=>Nat.lt_of_le_of_lt (R.dep s hs) (by decide)))
 exact funext fun σ=>(show eqX (rpv rs) (rpv rs) σ=eqM (rpv rs) (rpv rs) σ from rfl).trans ((zab (h2 σ)).trans ((zab (h2 σ)).trans (congrArg (fun b=>Rs.ok b σ) (zgK rs))))
theorem znG{xs:List PV}(hl:xs.length≤1000):biM ⟨true,true⟩ false "list" [.lst xs]=M.ret (.lst xs):=
 tr (zlA true false (.lst xs)) (tr (c_t (decide_eq_true (show xs.length≤2 ^ 20 by lia))) rfl)
theorem znj{rs:List Say}{v:PV}{b:Bool}{σ:zaa}(R:Row rs)(h:zad GG 398 ⟨true,true⟩ AA.stands_for [cps (bg 0 rs),v] σ=.ok (.bool b) σ):zad GG 399 ⟨true,true⟩ AA.stands [rpv rs,v] σ=.ok (.bool b) σ:=at_ (zag (zhP _ _ _ _)) (at_ (bd (sq2 (begun (by decide) R) rfl)) h)
noncomputable def zmp:List PV:=[PV.none,(.tup []),(.tup [(.str "apart"),(.int 5),(.int 6)]),(.str "shut"),(.tup [(.str "shut"),(.tup [(.int 0),(.bool true),(.int 5)])])]
theorem zkq(f a:Int)(ha:0<a)(ha':a<1000000){xs:List PV}(h:xs.length=5):∃ x∈xs,(((opM false .FloorDiv (.int f) (.int a)).bind fun v13=>(opM false .Mod v13 (.int 5))).bind fun v14=>(index (.lst xs) v14))=M.ret x:=by
 obtain ⟨k,hk,hkl⟩:=zdn f a (b:=5) ha ha' (by decide)
 obtain ⟨x,hx,ex⟩:=zgF (xs:=xs) (i:=(k:Int)) (by lia) (by lia) (by lia)
 exact ⟨x,hx,tr (bd hk) ex⟩
theorem zkr(f:Int):∃ x∈zmp,(((opM false .FloorDiv (.int f) (.int 15)).bind fun v13=>(opM false .Mod v13 (.int 5))).bind fun v14=>(index (.lst zmp) v14))=M.ret x:=zkq f 15 (by decide) (by decide) rfl
theorem zmO{rs:List Say}{f:Int}(R:Row rs):∃ x,(((seqM [(biM ⟨true,true⟩ false "tuple" [rpv rs]),(M.ret (.lst [])),(opM false .Add (rpv rs) (.lst [(.tup [(.str "yes"),(.int 1)])])),(M.ret PV.none),((opM false .Mult (rpv rs) (.int 7)).bind fun v17=>(cutM false v17 Option.none (some 7)))]).bind fun v18=>(M.ret (.lst v18))).bind fun v19=>(((opM false .FloorDiv (.int f) (.int 75)).bind fun v20=>(opM false .Mod v20 (.int 5))).bind fun v21=>(index v19 v21)))=M.ret x∧zad GG 396 ⟨true,true⟩ AA.need_row [x]=M.raise AA.BadRow:=by
 have h1:=R.lo;have h6:=R.hi
 have hlm:(rs.map Say.pv).length=rs.length:=List.length_map _
 have e1:biM ⟨true,true⟩ false "tuple" [rpv rs]=M.ret (.tup (rs.map Say.pv)):=tr (zmv _ _ _) (c_t (decide_eq_true (by lia)))
 have e2:opM false .Add (rpv rs) (.lst [(.tup [(.str "yes"),(.int 1)])])=M.ret (.lst (rs.map Say.pv++[.tup [.str "yes",.int 1]])):=zds (by rw [hlm];show _+1≤_;lia)
 have e3:opM false .Mult (rpv rs) (.int 7)=M.ret (.lst (zcx (rs.map Say.pv) 7)):=tr (c_t (by rw [decide_eq_true (show (rs.map Say.pv).length≤1000 by lia)];rfl)) rfl
 have hr:(zcx (rs.map Say.pv) 7).length=7*rs.length:=by
  show (rs.map Say.pv++(rs.map Say.pv++(rs.map Say.pv++(rs.map Say.pv++(rs.map Say.pv++(rs.map Say.pv++(rs.map Say.pv++[]))))))).length=_
  simp only [List.length_append,List.length_nil,hlm];lia
 have e4:((opM false .Mult (rpv rs) (.int 7)).bind fun v17=>(cutM false v17 Option.none (some 7)))=M.ret (.lst ((zcx (rs.map Say.pv) 7).take 7)):=tr (bd e3) (zgP (n:=7) (by lia))
 have es:seqM [(biM ⟨true,true⟩ false "tuple" [rpv rs]),(M.ret (.lst [])),(opM false .Add (rpv rs) (.lst [(.tup [(.str "yes"),(.int 1)])])),(M.ret PV.none),((opM false .Mult (rpv rs) (.int 7)).bind fun v17=>(cutM false v17 Option.none (some 7)))]=M.ret [.tup (rs.map Say.pv),.lst [],.lst (rs.map Say.pv++[.tup [.str "yes",.int 1]]),.none,.lst ((zcx (rs.map Say.pv) 7).take 7)]:=by rw [e1,e2,e4];rfl
 obtain ⟨x,hx,ex⟩:=zkq f 75 (by decide) (by decide) (xs:=[.tup (rs.map Say.pv),.lst [],.lst (rs.map Say.pv++[.tup [.str "yes",.int 1]]),.none,.lst ((zcx (rs.map Say.pv) 7).take 7)]) rfl
 refine ⟨x,tr (bd (bd es)) ex,?_⟩
 refine zah (P:=fun x=>zad GG 396 ⟨true,true⟩ AA.need_row [x]=M.raise AA.BadRow) (l:=[.tup (rs.map Say.pv),.lst [],.lst (rs.map Say.pv++[.tup [.str "yes",.int 1]]),.none,.lst ((zcx (rs.map Say.pv) 7).take 7)]) ⟨zoN (by decide) rfl,zks (by decide) (by decide) (by decide),?_,zoN (by decide) rfl,zks (by decide) ?_ ?_,trivial⟩ x hx
 ·have hl:(rs.map Say.pv++[PV.tup [.str "yes",.int 1]]).length=rs.length+1:=by rw [List.length_append,hlm];rfl
  by_cases q:rs.length≤5
  ·refine zoM (b:=fun x=>!(eqv x (.tup [.str "yes",.int 1]))) (by decide) (by lia) (by lia) (fun x hx=>?_) ?_
   ·rcases List.mem_append.mp hx with hx | hx
    ·obtain ⟨s,hs,rfl⟩:=List.mem_map.mp hx
     refine (zj9 (R.ok s hs) (R.dep s hs) rfl (by decide)).trans (b_eq ?_)
     cases s <;> rfl
    ·rw [List.mem_singleton.mp hx];exact zps (by decide) rfl
   ·rw [List.all_append,Bool.and_eq_false_iff];exact .inr rfl
  ·exact zks (by decide) (by lia) (by lia)
 ·rw [List.length_take];lia
 ·rw [List.length_take,hr];lia
theorem zov{rs:List Say}{kk:PV→PV→PV→PV→PV→PV→PV→PV→Option PV→Option PV→M PV}{v1 v3 v11 t:PV}{v6:PV}{v9 v10:Option PV}{f:Int}{b:Bool}{σ:zaa}(R:Row rs)(hst:zad GG 399 ⟨true,true⟩ AA.stands [rpv rs,t] σ=.ok (.bool b) σ):ze6 AA GG (zad GG 399) ⟨true,true⟩ kk v1 (.int f) v3 (rpv rs) t v6 (.bool b) (rpv rs) v9 v10 v11 σ=kk v1 (.int f) v3 (rpv rs) t v6 (.bool b) (rpv rs) (some v11) (some (.bool b)) σ:=by
 obtain ⟨x,hx,ex⟩:=zkr f
 have h5:((seqM [(M.ret (rpv rs)),(((opM false .FloorDiv (.int f) (.int 15)).bind fun v13=>(opM false .Mod v13 (.int 5))).bind fun v14=>(index (.lst zmp) v14))]).bind fun v15=>(zad GG 399 ⟨true,true⟩ AA.stands v15)) σ=.ok (.bool false) σ:=at_ (bd (sq2 rfl ex)) (znj R (five (by decide) (fun c hc=>Nat.lt_of_le_of_lt (R.dep _ (zg1 hc)) (by decide)) x hx))
 unfold ze6
 exact tr (zab hst) (at_ (if_f (tr (or_f (zky b)) (tr (or_f (zkw b)) (show zac .NotEq (rpv rs) (rpv rs)=M.ret (.bool false) from bd (zk8 R))))) (tr (zcX (c:=false) (tr (zab h5) rfl)) rfl))
theorem end1{rs:List Say}{v1 v3 t v7:PV}{v6:PV}{v9 v10:Option PV}{f:Int}{σ:zaa}(R:Row rs):∃ σ',zgB AA GG (zad GG 399) ⟨true,true⟩ v1 (.int f) v3 (rpv rs) t v6 v7 (rpv rs) v9 v10 σ=.ok (.bool true) σ':=by
 obtain ⟨x,ex,hx⟩:=zmO (f:=f) R
 obtain ⟨σ',h⟩:=zmP (σ:=σ) hx
 unfold zgB
 exact ⟨σ',at_ (bd (sq1 ex)) h⟩
theorem zoS{rs:List Say}{v1 v3 t:PV}{v6:PV}{f:Int}{b:Bool}{σ:zaa}(R:Row rs)(hst:zad GG 399 ⟨true,true⟩ AA.stands [rpv rs,t] σ=.ok (.bool b) σ):∃ σ',zdB AA GG (zad GG 399) ⟨true,true⟩ (M.ret ()) [.int 0,.int 1] v1 (.int f) v3 (rpv rs) t v6 (.bool b) (rpv rs) Option.none Option.none σ=.ok (.bool true) σ':=by
 obtain ⟨σ',h⟩:=end1 (rs:=rs) (v1:=v1) (v3:=v3) (t:=t) (v7:=.bool b) (v6:=v6) (v9:=some (.int 1)) (v10:=some (.bool b)) (f:=f) (σ:=σ) R
 exact ⟨σ',tr (show _=ze6 AA GG (zad GG 399) ⟨true,true⟩ (zdB AA GG (zad GG 399) ⟨true,true⟩ (M.ret ()) [.int 1]) v1 (.int f) v3 (rpv rs) t v6 (.bool b) (rpv rs) Option.none Option.none (.int 0) σ from rfl) (tr (zov R hst) (tr (show _=ze6 AA GG (zad GG 399) ⟨true,true⟩ (zdB AA GG (zad GG 399) ⟨true,true⟩ (M.ret ()) []) v1 (.int f) v3 (rpv rs) t v6 (.bool b) (rpv rs) (some (.int 0)) (some (.bool b)) (.int 1) σ from rfl) (tr (zov R hst) h)))⟩
theorem zou{rs:List Say}{kk:PV→PV→PV→PV→PV→Option PV→PV→PV→Option PV→Option PV→M PV}{v1 v3 v11 t:PV}{v6:Option PV}{v9 v10:Option PV}{f:Int}{b:Bool}{σ:zaa}(R:Row rs)(hst:zad GG 399 ⟨true,true⟩ AA.stands [rpv rs,t] σ=.ok (.bool b) σ):ze5 AA GG (zad GG 399) ⟨true,true⟩ kk v1 (.int f) v3 (rpv rs) t v6 (.bool b) (rpv rs) v9 v10 v11 σ=kk v1 (.int f) v3 (rpv rs) t v6 (.bool b) (rpv rs) (some v11) (some (.bool b)) σ:=by
 obtain ⟨x,hx,ex⟩:=zkr f
 have h5:((seqM [(M.ret (rpv rs)),(((opM false .FloorDiv (.int f) (.int 15)).bind fun v13=>(opM false .Mod v13 (.int 5))).bind fun v14=>(index (.lst zmp) v14))]).bind fun v15=>(zad GG 399 ⟨true,true⟩ AA.stands v15)) σ=.ok (.bool false) σ:=at_ (bd (sq2 rfl ex)) (znj R (five (by decide) (fun c hc=>Nat.lt_of_le_of_lt (R.dep _ (zg1 hc)) (by decide)) x hx))
 unfold ze5
 exact tr (zab hst) (at_ (if_f (tr (or_f (zky b)) (tr (or_f (zkw b)) (show zac .NotEq (rpv rs) (rpv rs)=M.ret (.bool false) from bd (zk8 R))))) (tr (zcX (c:=false) (tr (zab h5) rfl)) rfl))
theorem end2{rs:List Say}{v1 v3 t v7:PV}{v6:Option PV}{v9 v10:Option PV}{f:Int}{σ:zaa}(R:Row rs):∃ σ',zgA AA GG (zad GG 399) ⟨true,true⟩ v1 (.int f) v3 (rpv rs) t v6 v7 (rpv rs) v9 v10 σ=.ok (.bool true) σ':=by
 obtain ⟨x,ex,hx⟩:=zmO (f:=f) R
 obtain ⟨σ',h⟩:=zmP (σ:=σ) hx
 unfold zgA
 exact ⟨σ',at_ (bd (sq1 ex)) h⟩
theorem zoR{rs:List Say}{v1 v3 t:PV}{v6:Option PV}{f:Int}{b:Bool}{σ:zaa}(R:Row rs)(hst:zad GG 399 ⟨true,true⟩ AA.stands [rpv rs,t] σ=.ok (.bool b) σ):∃ σ',zdA AA GG (zad GG 399) ⟨true,true⟩ (M.ret ()) [.int 0,.int 1] v1 (.int f) v3 (rpv rs) t v6 (.bool b) (rpv rs) Option.none Option.none σ=.ok (.bool true) σ':=by
 obtain ⟨σ',h⟩:=end2 (rs:=rs) (v1:=v1) (v3:=v3) (t:=t) (v7:=.bool b) (v6:=v6) (v9:=some (.int 1)) (v10:=some (.bool b)) (f:=f) (σ:=σ) R
 exact ⟨σ',tr (show _=ze5 AA GG (zad GG 399) ⟨true,true⟩ (zdA AA GG (zad GG 399) ⟨true,true⟩ (M.ret ()) [.int 1]) v1 (.int f) v3 (rpv rs) t v6 (.bool b) (rpv rs) Option.none Option.none (.int 0) σ from rfl) (tr (zou R hst) (tr (show _=ze5 AA GG (zad GG 399) ⟨true,true⟩ (zdA AA GG (zad GG 399) ⟨true,true⟩ (M.ret ()) []) v1 (.int f) v3 (rpv rs) t v6 (.bool b) (rpv rs) (some (.int 0)) (some (.bool b)) (.int 1) σ from rfl) (tr (zou R hst) h)))⟩
theorem zmd(is:List Int)(hi:is.length≤63):∃ σ',zad GG 400 ⟨true,true⟩ AA.law [.lst (is.map .int)] []=.ok (.bool true) σ':=by
 have hc:∀ k:Nat,k≤100→zad GG 399 ⟨true,true⟩ AA.l_cell_at [.lst (is.map .int),.int (k:Int)]=M.ret (.int (za9 is k)):=fun k hk=>zag (zoa _ _ is k hi hk)
 obtain ⟨m,hm,hml⟩:=zam (za9 is 0) (b:=3) (by decide)
 obtain ⟨ns,hns,hnl,hok⟩:=l_names (zad GG 398) ⟨true,true⟩ rfl (za9 is 1) (2+m) (by lia)
 obtain ⟨rs,τ,hr,R⟩:=l_row (c:=za9 is 2) (d:=399) (room:=16) (by decide) (by decide) (by decide) hok (by lia) (by lia) []
 have r1:=R.lo;have r6:=R.hi;have rz:=R.sz
 have hlm:(rs.map Say.pv).length=rs.length:=List.length_map _
 obtain ⟨a,ha,_⟩:=zdn (za9 is 0) 3 (b:=5) (by decide) (by decide) (by decide)
 have hb:=l_begun (rs:=rs) (d:=399) (md:=⟨true,true⟩) rfl (by decide) r6
 have hbl:(bg 0 rs).length+tsz (bg 0 rs)≤300:=by rw [zlC,zmx];lia
 have hbd:∀ c∈bg 0 rs,c.s.dep≤100:=fun c hc=>R.dep _ (zg1 hc)
 have hbz:tsz (bg 0 rs)+10<398:=by rw [zmx];lia
 have c3:((zad GG 399 ⟨true,true⟩ AA.l_cell_at [.lst (is.map .int),(.int 3)]).bind fun v8=>(opM false .Mod v8 (.int 1000003)))=M.ret (.int ((za9 is 3).fmod 1000003)):=tr (bd (hc 3 (by decide))) (zbt _ _ _ (by decide))
 obtain ⟨v10,e10,h10⟩:=l_built (tsz (bg 0 rs)) (bg 0 rs) 399 ((za9 is 3).fmod 1000003) (Nat.le_refl _) hbl hbd (Nat.lt_trans hbz (by decide))
 have hlst:biM ⟨true,true⟩ false "list" [rpv rs]=M.ret (rpv rs):=znG (by lia)
 have hgt:((((opM false .FloorDiv (.int (za9 is 0)) (.int 3)).bind fun v18=>(opM false .Mod v18 (.int 5))).bind fun v19=>(zac .Gt v19 (.int 0))))=M.ret (.bool (decide ((0:Int)<(a:Int)))):=tr (bd ha) rfl
 have rg:zaF [.int 2]=M.ret ⟨[.int 0,.int 1],[]⟩:=rfl
 have due:∀(t:PV)(σ:zaa),Gv σ t→∃ b σ1,((seqM [(zad GG 399 ⟨true,true⟩ AA.l_begun [rpv rs]),(M.ret t)]).bind fun v22=>(zad GG 399 ⟨true,true⟩ AA.l_stands v22)) σ=.ok (.bool b) σ1∧zad GG 399 ⟨true,true⟩ AA.stands [rpv rs,t] σ1=.ok (.bool b) σ1:=fun t σ g=>by
  obtain ⟨b,A⟩:=agr (tsz (bg 0 rs)) (bg 0 rs) t σ (Nat.le_refl _) hbl hbd g
  obtain ⟨τ',e1⟩:=A.law (r:=true) (d:=399) (Nat.lt_trans hbz (by decide)) g
  exact ⟨b,σ++τ',at_ (bd (sq2 hb rfl)) e1,znj R (A.lib hbz (g.app τ'))⟩
 have pre:∀{rs':Rs PV},_=rs'→zad GG 400 ⟨true,true⟩ AA.law [.lst (is.map .int)] []=rs':=fun {rs'} h=>by
  refine at_ (zag (zpK _ _ _)) ?_
  unfold zoU znM
  exact at_ (tr (bd (hc 0 (by decide))) (bd (tr (bd (sq2 (hc 1 (by decide)) (tr (bd (zaC _ _ (by decide) hm)) (tr (add_int _ _ _) (i_eq (show (2:Int)+(m:Int)=((2+m:Nat):Int) by lia)))))) (zag hns)))) (tr (zab (at_ (bd (sq3 (hc 2 (by decide)) rfl rfl)) hr)) (at_ (bd (tr (bd (sq2 hb c3)) e10)) h))
 rcases h10 with hS | ⟨rfl,_⟩
 ·refine Exists.imp (fun σ' h=>pre (at_ (if_f (zl4 hS.tup).1) h)) ?_
  cases q:decide ((0:Int)<(a:Int)) with
  | true=>
   obtain ⟨t,τ2,et,gt⟩:=zlu (ns:=ns) (by lia) hS hbd hbl (za9 is 4) 399 ([]++τ) (Nat.lt_trans hbz (by decide))
   obtain ⟨b,σ1,ed,es⟩:=due t _ gt.g
   obtain ⟨σ',el⟩:=zoR (v1:=.lst (is.map .int)) (v3:=.lst (ns.map .str)) (v6:=Option.none) (f:=za9 is 0) R es
   exact ⟨σ',at_ (if_t (tr hgt (b_eq q))) (tr (zab (at_ (bd (sq3 rfl (hc 4 (by decide)) rfl)) et)) (tr (zab ed) (at_ (tr (bd hlst) (tr (c_t rfl) (bd rg))) el)))⟩
  | false=>
   obtain ⟨b,σ1,ed,es⟩:=due v10 ([]++τ) (zgh _ hS hbd).g
   obtain ⟨σ',el⟩:=zoR (v1:=.lst (is.map .int)) (v3:=.lst (ns.map .str)) (v6:=Option.none) (f:=za9 is 0) R es
   exact ⟨σ',at_ (if_f (tr hgt (b_eq q))) (tr (zab ed) (at_ (tr (bd hlst) (tr (c_t rfl) (bd rg))) el))⟩
 ·refine Exists.imp (fun σ' h=>pre (at_ (if_t rfl) h)) ?_
  obtain ⟨s,rest,rfl⟩:∃ s rest,rs=s::rest:=by
   cases rs with
   | nil=>exact absurd r1 (by decide)
   | cons s rest=>exact ⟨s,rest,rfl⟩
  have sz:s.sz≤60:=Nat.le_trans (zd4 (.head _)) rz
  have sd:=zeu s
  have ix:index (rpv (s::rest)) (.int 0)=M.ret s.pv:=zci (k:=0) rfl (by decide)
  have eo:((seqM [((seqM [(M.ret (.str "and")),(index (rpv (s::rest)) (.int 0)),((seqM [(M.ret (.str "not")),(index (rpv (s::rest)) (.int 0))]).bind fun v11=>(M.ret (.tup v11)))]).bind fun v12=>(M.ret (.tup v12)))]).bind fun v13=>(M.ret (.lst v13)))=M.ret (rpv [.and s (.not s)]):=bd (sq1 (bd (sq3 rfl ix (bd (sq2 rfl ix)))))
  have hb2:=l_begun (rs:=[.and s (.not s)]) (d:=399) (md:=⟨true,true⟩) rfl (by decide) (show 1≤6 by decide)
  have oz:tsz (bg 0 [.and s (.not s)])≤122:=by rw [zmx];show s.sz+(s.sz+1)+1+0≤122;lia
  have obl:(bg 0 [Say.and s (.not s)]).length+tsz (bg 0 [.and s (.not s)])≤300:=by rw [zlC];show 1+_≤_;lia
  have obd:∀ c∈bg 0 [Say.and s (.not s)],c.s.dep≤100:=fun c hc=>by
   rw [List.mem_singleton.mp (zg1 hc)];show max s.dep (s.dep+1)+1≤100;lia
  obtain ⟨v17,e17,h17⟩:=l_built (tsz (bg 0 [.and s (.not s)])) (bg 0 [.and s (.not s)]) 399 ((za9 is 3).fmod 1000003) (Nat.le_refl _) obl obd (by lia)
  have hS:Std (bg 0 [.and s (.not s)]) v17:=h17.resolve_right fun ⟨_,f,hf⟩=>by
   obtain ⟨i,hi⟩:=zmR (a:=0) (s:=.and s (.not s)) (rs:=[.and s (.not s)]) (.head _)
   have:(s.tv f&&!(s.tv f))=true:=hf _ hi
   cases z:s.tv f <;> rw [z] at this <;> cases this
  refine Exists.imp (fun σ' h=>at_ (tr (bd eo) (bd (tr (bd (sq2 hb2 c3)) e17))) h) ?_
  cases q:decide ((0:Int)<(a:Int)) with
  | true=>
   obtain ⟨t,τ2,et,gt⟩:=zlu (ns:=ns) (by lia) hS obd obl (za9 is 4) 399 ([]++τ) (by lia)
   obtain ⟨b,σ1,ed,es⟩:=due t _ gt.g
   obtain ⟨σ',el⟩:=zoS (v1:=.lst (is.map .int)) (v3:=.lst (ns.map .str)) (v6:=rpv [.and s (.not s)]) (f:=za9 is 0) R es
   exact ⟨σ',at_ (if_t (tr hgt (b_eq q))) (tr (zab (at_ (bd (sq3 rfl (hc 4 (by decide)) rfl)) et)) (tr (zab ed) (at_ (tr (bd hlst) (tr (c_t rfl) (bd rg))) el)))⟩
  | false=>
   obtain ⟨b,σ1,ed,es⟩:=due v17 ([]++τ) (zgh _ hS obd).g
   obtain ⟨σ',el⟩:=zoS (v1:=.lst (is.map .int)) (v3:=.lst (ns.map .str)) (v6:=rpv [.and s (.not s)]) (f:=za9 is 0) R es
   exact ⟨σ',at_ (if_f (tr hgt (b_eq q))) (tr (zab ed) (at_ (tr (bd hlst) (tr (c_t rfl) (bd rg))) el))⟩
end
end Mine
namespace Mine
open PySem PySem.W PyProof.Rows
noncomputable def PG:Program:=PySem.Challenge.rw_uf010027_06.row.toRowW.1
noncomputable def BD:List Stmt:=PG.main.body
noncomputable def sA(i:Nat):Stmt:=match BD[i]? with | some s=>s | Option.none=>.Pass ⟨0,0,0,0⟩
noncomputable def vs(x:String)(t:Nat):Value:=.str (Str.ofString x) t
noncomputable def de(P:Params)(x:String)(t:Nat)(v:Value):DictEntry:={ hash:=PyData.keyHash P (Str.ofString x),key:=.str (Str.ofString x) t,val:=v }
noncomputable def fdM(k:Nat)(g:Addr)(m c:Value):FuncData:=match sA k with
 | .FunctionDef n a b _ _ _ sc _ _ _=>{ name:=n,qualname:=n,params:=a,body:=.stmts b,scope:=sc,globals:=g,closure:=[],defaults:=.none,kwdefaults:=.none,pyModule:=m,code:=c }
 | _=>default
noncomputable def i0:Value:=.int 0 0
noncomputable def o43(P:Params):Obj:={ cls:=.type "tuple",data:=Data.seq #[] }
noncomputable def o44(P:Params):Obj:={ cls:=.none,data:=Data.fields #[] }
noncomputable def o45(P:Params):Obj:={ cls:=.type "code",data:=Data.fields #[vs "<module>" 182,vs "<module>" 183,vs "/claim/cut.py" 184,.int 1 0,i0,i0,i0,i0,.ref 11,.bool false,.int 181 0,.ref 12,.none,.none,.none,.none,.int 185 0,.int 1 0,vs "/claim/cut.py" 186] }
noncomputable def o46(P:Params):Obj:={ cls:=.type "frame",slots:=#[some (.ref 13),some (.ref 3),some (.ref 3),none,some (vs "__main__" 164),none,some (.ref 0)] }
noncomputable def o49(P:Params):Obj:={ cls:=.type "dict",data:=Data.dict #[de P "__name__" 165 (vs "middlesay.errors" 187),de P "__doc__" 166 .none,de P "__package__" 167 .none,de P "__loader__" 168 (.builtin "__main__.__loader__#opaque"),de P "__spec__" 169 .none,de P "__annotations__" 170 (.ref 6),de P "__builtins__" 171 (.ref 4),de P "__file__" 173 (vs "/claim/cut.py" 172),de P "__cached__" 174 .none,de P "SayError" 206 (.ref 24)] 10 }
noncomputable def o50(P:Params):Obj:={ cls:=.none,data:=Data.fields #[.int 2 0,i0,.ref 20] }
noncomputable def o51(P:Params):Obj:={ cls:=.type "tuple",data:=Data.seq #[.type "ValueError"] }
noncomputable def o52(P:Params):Obj:={ cls:=.type "builtin_function_or_method",data:=Data.fields #[.builtin "type.__prepare__",.type "type"] }
noncomputable def o53(P:Params):Obj:={ cls:=.type "dict",data:=Data.dict #[de P "__module__" 196 (vs "middlesay.errors" 187),de P "__qualname__" 198 (vs "SayError" 197),de P "__firstlineno__" 200 (.int 2 199),de P "__static_attributes__" 201 (.ref 22)] 4 }
noncomputable def o54(P:Params):Obj:={ cls:=.type "tuple",data:=Data.seq #[] }
noncomputable def o55(P:Params):Obj:={ cls:=.none,data:=Data.fields #[] }
noncomputable def o56(P:Params):Obj:={ cls:=.type "code",data:=Data.fields #[vs "SayError" 191,vs "SayError" 192,vs "/claim/cut.py" 193,.int 2 0,i0,i0,i0,i0,.ref 18,.bool false,.int 181 0,.ref 19,.none,.none,.none,.none,.int 194 0,.int 2 0,vs "/claim/cut.py" 195] }
noncomputable def o57(P:Params):Obj:={ cls:=.type "frame",slots:=#[some (.ref 20),some (.ref 3),some (.ref 17),none,some (vs "middlesay.errors" 187),none,some (.ref 0)] }
noncomputable def o58(P:Params):Obj:={ cls:=.type "tuple",data:=Data.seq #[] }
noncomputable def o59(P:Params):Obj:={ cls:=.type "dict",data:=Data.dict #[de P "__module__" 196 (vs "middlesay.errors" 187),de P "__firstlineno__" 200 (.int 2 199),de P "__static_attributes__" 201 (.ref 22),de P "__weakref__" 203 (.ref 25),de P "__doc__" 204 .none] 3 }
noncomputable def o60(P:Params):Obj:={ cls:=.type "type",data:=Data.cls { name:=Str.ofString "SayError",bases:=[.type "ValueError"],mro:=[.ref 24,.type "ValueError",.type "Exception",.type "BaseException",.type "object"],ns:=23,qualname:=Str.ofString "SayError" },slots:=#[some (.ref 15),none,some (vs "SayError" 189),some (vs "SayError" 197),some (.builtin "ValueError.__new__"),some (.bool true)] }
noncomputable def o61(P:Params):Obj:={ cls:=.type "getset_descriptor",data:=Data.fields #[vs "__weakref__" 202,.ref 24,.builtin "ExceptionGroup.__weakref__",.none] }
noncomputable def o62(P:Params):Obj:={ cls:=.type "super",data:=Data.fields #[.ref 24,.ref 24,.ref 24] }
noncomputable def o63(P:Params):Obj:={ cls:=.type "builtin_function_or_method",data:=Data.fields #[.builtin "object.__init_subclass__",.ref 24] }
noncomputable def o64(P:Params):Obj:={ cls:=.type "dict",data:=Data.dict #[de P "__name__" 165 (vs "middlesay.errors" 187),de P "__doc__" 166 .none,de P "__package__" 167 .none,de P "__loader__" 168 (.builtin "__main__.__loader__#opaque"),de P "__spec__" 169 .none,de P "__annotations__" 170 (.ref 6),de P "__builtins__" 171 (.ref 4),de P "__file__" 173 (vs "/claim/cut.py" 172),de P "__cached__" 174 .none,de P "SayError" 206 (.ref 24),de P "BadSaying" 222 (.ref 37)] 11 }
noncomputable def o65(P:Params):Obj:={ cls:=.none,data:=Data.fields #[.int 2 0,i0,.ref 20,.int 4 0,i0,.ref 33] }
noncomputable def o66(P:Params):Obj:={ cls:=.type "type",data:=Data.cls { name:=Str.ofString "SayError",bases:=[.type "ValueError"],mro:=[.ref 24,.type "ValueError",.type "Exception",.type "BaseException",.type "object"],ns:=23,qualname:=Str.ofString "SayError",subclasses:=[.ref 37] },slots:=#[some (.ref 15),none,some (vs "SayError" 189),some (vs "SayError" 197),some (.builtin "ValueError.__new__"),some (.bool true)] }
noncomputable def o67(P:Params):Obj:={ cls:=.type "tuple",data:=Data.seq #[.ref 24] }
noncomputable def o68(P:Params):Obj:={ cls:=.type "builtin_function_or_method",data:=Data.fields #[.builtin "type.__prepare__",.type "type"] }
noncomputable def o69(P:Params):Obj:={ cls:=.type "dict",data:=Data.dict #[de P "__module__" 214 (vs "middlesay.errors" 187),de P "__qualname__" 216 (vs "BadSaying" 215),de P "__firstlineno__" 218 (.int 4 217),de P "__static_attributes__" 219 (.ref 35)] 4 }
noncomputable def o70(P:Params):Obj:={ cls:=.type "tuple",data:=Data.seq #[] }
noncomputable def o71(P:Params):Obj:={ cls:=.none,data:=Data.fields #[] }
noncomputable def o72(P:Params):Obj:={ cls:=.type "code",data:=Data.fields #[vs "BadSaying" 209,vs "BadSaying" 210,vs "/claim/cut.py" 211,.int 4 0,i0,i0,i0,i0,.ref 31,.bool false,.int 181 0,.ref 32,.none,.none,.none,.none,.int 212 0,.int 4 0,vs "/claim/cut.py" 213] }
noncomputable def o73(P:Params):Obj:={ cls:=.type "frame",slots:=#[some (.ref 33),some (.ref 3),some (.ref 30),none,some (vs "middlesay.errors" 187),none,some (.ref 0)] }
noncomputable def o74(P:Params):Obj:={ cls:=.type "tuple",data:=Data.seq #[] }
noncomputable def o75(P:Params):Obj:={ cls:=.type "dict",data:=Data.dict #[de P "__module__" 214 (vs "middlesay.errors" 187),de P "__firstlineno__" 218 (.int 4 217),de P "__static_attributes__" 219 (.ref 35),de P "__doc__" 220 .none] 2 }
noncomputable def o76(P:Params):Obj:={ cls:=.type "type",data:=Data.cls { name:=Str.ofString "BadSaying",bases:=[.ref 24],mro:=[.ref 37,.ref 24,.type "ValueError",.type "Exception",.type "BaseException",.type "object"],ns:=36,qualname:=Str.ofString "BadSaying" },slots:=#[some (.ref 28),none,some (vs "BadSaying" 207),some (vs "BadSaying" 215),some (.builtin "ValueError.__new__"),some (.bool true)] }
noncomputable def o77(P:Params):Obj:={ cls:=.type "super",data:=Data.fields #[.ref 37,.ref 37,.ref 37] }
noncomputable def o78(P:Params):Obj:={ cls:=.type "builtin_function_or_method",data:=Data.fields #[.builtin "object.__init_subclass__",.ref 37] }
noncomputable def o79(P:Params):Obj:={ cls:=.type "dict",data:=Data.dict #[de P "__name__" 165 (vs "middlesay.errors" 187),de P "__doc__" 166 .none,de P "__package__" 167 .none,de P "__loader__" 168 (.builtin "__main__.__loader__#opaque"),de P "__spec__" 169 .none,de P "__annotations__" 170 (.ref 6),de P "__builtins__" 171 (.ref 4),de P "__file__" 173 (vs "/claim/cut.py" 172),de P "__cached__" 174 .none,de P "SayError" 206 (.ref 24),de P "BadSaying" 222 (.ref 37),de P "BadSetting" 238 (.ref 49)] 12 }
noncomputable def o80(P:Params):Obj:={ cls:=.none,data:=Data.fields #[.int 2 0,i0,.ref 20,.int 4 0,i0,.ref 33,.int 6 0,i0,.ref 45] }
noncomputable def o81(P:Params):Obj:={ cls:=.type "type",data:=Data.cls { name:=Str.ofString "SayError",bases:=[.type "ValueError"],mro:=[.ref 24,.type "ValueError",.type "Exception",.type "BaseException",.type "object"],ns:=23,qualname:=Str.ofString "SayError",subclasses:=[.ref 37,.ref 49] },slots:=#[some (.ref 15),none,some (vs "SayError" 189),some (vs "SayError" 197),some (.builtin "ValueError.__new__"),some (.bool true)] }
noncomputable def o82(P:Params):Obj:={ cls:=.type "tuple",data:=Data.seq #[.ref 24] }
noncomputable def o83(P:Params):Obj:={ cls:=.type "builtin_function_or_method",data:=Data.fields #[.builtin "type.__prepare__",.type "type"] }
noncomputable def o84(P:Params):Obj:={ cls:=.type "dict",data:=Data.dict #[de P "__module__" 230 (vs "middlesay.errors" 187),de P "__qualname__" 232 (vs "BadSetting" 231),de P "__firstlineno__" 234 (.int 6 233),de P "__static_attributes__" 235 (.ref 47)] 4 }
noncomputable def o85(P:Params):Obj:={ cls:=.type "tuple",data:=Data.seq #[] }
noncomputable def o86(P:Params):Obj:={ cls:=.none,data:=Data.fields #[] }
noncomputable def o87(P:Params):Obj:={ cls:=.type "code",data:=Data.fields #[vs "BadSetting" 225,vs "BadSetting" 226,vs "/claim/cut.py" 227,.int 6 0,i0,i0,i0,i0,.ref 43,.bool false,.int 181 0,.ref 44,.none,.none,.none,.none,.int 228 0,.int 6 0,vs "/claim/cut.py" 229] }
noncomputable def o88(P:Params):Obj:={ cls:=.type "frame",slots:=#[some (.ref 45),some (.ref 3),some (.ref 42),none,some (vs "middlesay.errors" 187),none,some (.ref 0)] }
noncomputable def o89(P:Params):Obj:={ cls:=.type "tuple",data:=Data.seq #[] }
noncomputable def o90(P:Params):Obj:={ cls:=.type "dict",data:=Data.dict #[de P "__module__" 230 (vs "middlesay.errors" 187),de P "__firstlineno__" 234 (.int 6 233),de P "__static_attributes__" 235 (.ref 47),de P "__doc__" 236 .none] 2 }
noncomputable def o91(P:Params):Obj:={ cls:=.type "type",data:=Data.cls { name:=Str.ofString "BadSetting",bases:=[.ref 24],mro:=[.ref 49,.ref 24,.type "ValueError",.type "Exception",.type "BaseException",.type "object"],ns:=48,qualname:=Str.ofString "BadSetting" },slots:=#[some (.ref 40),none,some (vs "BadSetting" 223),some (vs "BadSetting" 231),some (.builtin "ValueError.__new__"),some (.bool true)] }
noncomputable def o92(P:Params):Obj:={ cls:=.type "super",data:=Data.fields #[.ref 49,.ref 49,.ref 49] }
noncomputable def o93(P:Params):Obj:={ cls:=.type "builtin_function_or_method",data:=Data.fields #[.builtin "object.__init_subclass__",.ref 49] }
noncomputable def o94(P:Params):Obj:={ cls:=.type "dict",data:=Data.dict #[de P "__name__" 165 (vs "middlesay.errors" 187),de P "__doc__" 166 .none,de P "__package__" 167 .none,de P "__loader__" 168 (.builtin "__main__.__loader__#opaque"),de P "__spec__" 169 .none,de P "__annotations__" 170 (.ref 6),de P "__builtins__" 171 (.ref 4),de P "__file__" 173 (vs "/claim/cut.py" 172),de P "__cached__" 174 .none,de P "SayError" 206 (.ref 24),de P "BadSaying" 222 (.ref 37),de P "BadSetting" 238 (.ref 49),de P "BadText" 254 (.ref 61)] 13 }
noncomputable def o95(P:Params):Obj:={ cls:=.none,data:=Data.fields #[.int 2 0,i0,.ref 20,.int 4 0,i0,.ref 33,.int 6 0,i0,.ref 45,.int 8 0,i0,.ref 57] }
noncomputable def o96(P:Params):Obj:={ cls:=.type "type",data:=Data.cls { name:=Str.ofString "SayError",bases:=[.type "ValueError"],mro:=[.ref 24,.type "ValueError",.type "Exception",.type "BaseException",.type "object"],ns:=23,qualname:=Str.ofString "SayError",subclasses:=[.ref 37,.ref 49,.ref 61] },slots:=#[some (.ref 15),none,some (vs "SayError" 189),some (vs "SayError" 197),some (.builtin "ValueError.__new__"),some (.bool true)] }
noncomputable def o97(P:Params):Obj:={ cls:=.type "tuple",data:=Data.seq #[.ref 24] }
noncomputable def o98(P:Params):Obj:={ cls:=.type "builtin_function_or_method",data:=Data.fields #[.builtin "type.__prepare__",.type "type"] }
noncomputable def o99(P:Params):Obj:={ cls:=.type "dict",data:=Data.dict #[de P "__module__" 246 (vs "middlesay.errors" 187),de P "__qualname__" 248 (vs "BadText" 247),de P "__firstlineno__" 250 (.int 8 249),de P "__static_attributes__" 251 (.ref 59)] 4 }
noncomputable def o100(P:Params):Obj:={ cls:=.type "tuple",data:=Data.seq #[] }
noncomputable def o101(P:Params):Obj:={ cls:=.none,data:=Data.fields #[] }
noncomputable def o102(P:Params):Obj:={ cls:=.type "code",data:=Data.fields #[vs "BadText" 241,vs "BadText" 242,vs "/claim/cut.py" 243,.int 8 0,i0,i0,i0,i0,.ref 55,.bool false,.int 181 0,.ref 56,.none,.none,.none,.none,.int 244 0,.int 8 0,vs "/claim/cut.py" 245] }
noncomputable def o103(P:Params):Obj:={ cls:=.type "frame",slots:=#[some (.ref 57),some (.ref 3),some (.ref 54),none,some (vs "middlesay.errors" 187),none,some (.ref 0)] }
noncomputable def o104(P:Params):Obj:={ cls:=.type "tuple",data:=Data.seq #[] }
noncomputable def o105(P:Params):Obj:={ cls:=.type "dict",data:=Data.dict #[de P "__module__" 246 (vs "middlesay.errors" 187),de P "__firstlineno__" 250 (.int 8 249),de P "__static_attributes__" 251 (.ref 59),de P "__doc__" 252 .none] 2 }
noncomputable def o106(P:Params):Obj:={ cls:=.type "type",data:=Data.cls { name:=Str.ofString "BadText",bases:=[.ref 24],mro:=[.ref 61,.ref 24,.type "ValueError",.type "Exception",.type "BaseException",.type "object"],ns:=60,qualname:=Str.ofString "BadText" },slots:=#[some (.ref 52),none,some (vs "BadText" 239),some (vs "BadText" 247),some (.builtin "ValueError.__new__"),some (.bool true)] }
noncomputable def o107(P:Params):Obj:={ cls:=.type "super",data:=Data.fields #[.ref 61,.ref 61,.ref 61] }
noncomputable def o108(P:Params):Obj:={ cls:=.type "builtin_function_or_method",data:=Data.fields #[.builtin "object.__init_subclass__",.ref 61] }
noncomputable def o109(P:Params):Obj:={ cls:=.type "dict",data:=Data.dict #[de P "__name__" 165 (vs "middlesay.errors" 187),de P "__doc__" 166 .none,de P "__package__" 167 .none,de P "__loader__" 168 (.builtin "__main__.__loader__#opaque"),de P "__spec__" 169 .none,de P "__annotations__" 170 (.ref 6),de P "__builtins__" 171 (.ref 4),de P "__file__" 173 (vs "/claim/cut.py" 172),de P "__cached__" 174 .none,de P "SayError" 206 (.ref 24),de P "BadSaying" 222 (.ref 37),de P "BadSetting" 238 (.ref 49),de P "BadText" 254 (.ref 61),de P "BadRow" 270 (.ref 73)] 14 }
noncomputable def o110(P:Params):Obj:={ cls:=.none,data:=Data.fields #[.int 2 0,i0,.ref 20,.int 4 0,i0,.ref 33,.int 6 0,i0,.ref 45,.int 8 0,i0,.ref 57,.int 10 0,i0,.ref 69] }
noncomputable def o111(P:Params):Obj:={ cls:=.type "type",data:=Data.cls { name:=Str.ofString "SayError",bases:=[.type "ValueError"],mro:=[.ref 24,.type "ValueError",.type "Exception",.type "BaseException",.type "object"],ns:=23,qualname:=Str.ofString "SayError",subclasses:=[.ref 37,.ref 49,.ref 61,.ref 73] },slots:=#[some (.ref 15),none,some (vs "SayError" 189),some (vs "SayError" 197),some (.builtin "ValueError.__new__"),some (.bool true)] }
noncomputable def o112(P:Params):Obj:={ cls:=.type "tuple",data:=Data.seq #[.ref 24] }
noncomputable def o113(P:Params):Obj:={ cls:=.type "builtin_function_or_method",data:=Data.fields #[.builtin "type.__prepare__",.type "type"] }
noncomputable def o114(P:Params):Obj:={ cls:=.type "dict",data:=Data.dict #[de P "__module__" 262 (vs "middlesay.errors" 187),de P "__qualname__" 264 (vs "BadRow" 263),de P "__firstlineno__" 266 (.int 10 265),de P "__static_attributes__" 267 (.ref 71)] 4 }
noncomputable def o115(P:Params):Obj:={ cls:=.type "tuple",data:=Data.seq #[] }
noncomputable def o116(P:Params):Obj:={ cls:=.none,data:=Data.fields #[] }
noncomputable def o117(P:Params):Obj:={ cls:=.type "code",data:=Data.fields #[vs "BadRow" 257,vs "BadRow" 258,vs "/claim/cut.py" 259,.int 10 0,i0,i0,i0,i0,.ref 67,.bool false,.int 181 0,.ref 68,.none,.none,.none,.none,.int 260 0,.int 10 0,vs "/claim/cut.py" 261] }
noncomputable def o118(P:Params):Obj:={ cls:=.type "frame",slots:=#[some (.ref 69),some (.ref 3),some (.ref 66),none,some (vs "middlesay.errors" 187),none,some (.ref 0)] }
noncomputable def o119(P:Params):Obj:={ cls:=.type "tuple",data:=Data.seq #[] }
noncomputable def o120(P:Params):Obj:={ cls:=.type "dict",data:=Data.dict #[de P "__module__" 262 (vs "middlesay.errors" 187),de P "__firstlineno__" 266 (.int 10 265),de P "__static_attributes__" 267 (.ref 71),de P "__doc__" 268 .none] 2 }
noncomputable def o121(P:Params):Obj:={ cls:=.type "type",data:=Data.cls { name:=Str.ofString "BadRow",bases:=[.ref 24],mro:=[.ref 73,.ref 24,.type "ValueError",.type "Exception",.type "BaseException",.type "object"],ns:=72,qualname:=Str.ofString "BadRow" },slots:=#[some (.ref 64),none,some (vs "BadRow" 255),some (vs "BadRow" 263),some (.builtin "ValueError.__new__"),some (.bool true)] }
noncomputable def o122(P:Params):Obj:={ cls:=.type "super",data:=Data.fields #[.ref 73,.ref 73,.ref 73] }
noncomputable def o123(P:Params):Obj:={ cls:=.type "builtin_function_or_method",data:=Data.fields #[.builtin "object.__init_subclass__",.ref 73] }
noncomputable def o124(P:Params):Obj:={ cls:=.type "dict",data:=Data.dict #[de P "__name__" 165 (vs "middlesay.errors" 187),de P "__doc__" 166 .none,de P "__package__" 167 .none,de P "__loader__" 168 (.builtin "__main__.__loader__#opaque"),de P "__spec__" 169 .none,de P "__annotations__" 170 (.ref 6),de P "__builtins__" 171 (.ref 4),de P "__file__" 173 (vs "/claim/cut.py" 172),de P "__cached__" 174 .none,de P "SayError" 206 (.ref 24),de P "BadSaying" 222 (.ref 37),de P "BadSetting" 238 (.ref 49),de P "BadText" 254 (.ref 61),de P "BadRow" 270 (.ref 73),de P "BadTree" 286 (.ref 85)] 15 }
noncomputable def o125(P:Params):Obj:={ cls:=.none,data:=Data.fields #[.int 2 0,i0,.ref 20,.int 4 0,i0,.ref 33,.int 6 0,i0,.ref 45,.int 8 0,i0,.ref 57,.int 10 0,i0,.ref 69,.int 12 0,i0,.ref 81] }
noncomputable def o126(P:Params):Obj:={ cls:=.type "type",data:=Data.cls { name:=Str.ofString "SayError",bases:=[.type "ValueError"],mro:=[.ref 24,.type "ValueError",.type "Exception",.type "BaseException",.type "object"],ns:=23,qualname:=Str.ofString "SayError",subclasses:=[.ref 37,.ref 49,.ref 61,.ref 73,.ref 85] },slots:=#[some (.ref 15),none,some (vs "SayError" 189),some (vs "SayError" 197),some (.builtin "ValueError.__new__"),some (.bool true)] }
noncomputable def o127(P:Params):Obj:={ cls:=.type "tuple",data:=Data.seq #[.ref 24] }
noncomputable def o128(P:Params):Obj:={ cls:=.type "builtin_function_or_method",data:=Data.fields #[.builtin "type.__prepare__",.type "type"] }
noncomputable def o129(P:Params):Obj:={ cls:=.type "dict",data:=Data.dict #[de P "__module__" 278 (vs "middlesay.errors" 187),de P "__qualname__" 280 (vs "BadTree" 279),de P "__firstlineno__" 282 (.int 12 281),de P "__static_attributes__" 283 (.ref 83)] 4 }
noncomputable def o130(P:Params):Obj:={ cls:=.type "tuple",data:=Data.seq #[] }
noncomputable def o131(P:Params):Obj:={ cls:=.none,data:=Data.fields #[] }
noncomputable def o132(P:Params):Obj:={ cls:=.type "code",data:=Data.fields #[vs "BadTree" 273,vs "BadTree" 274,vs "/claim/cut.py" 275,.int 12 0,i0,i0,i0,i0,.ref 79,.bool false,.int 181 0,.ref 80,.none,.none,.none,.none,.int 276 0,.int 12 0,vs "/claim/cut.py" 277] }
noncomputable def o133(P:Params):Obj:={ cls:=.type "frame",slots:=#[some (.ref 81),some (.ref 3),some (.ref 78),none,some (vs "middlesay.errors" 187),none,some (.ref 0)] }
noncomputable def o134(P:Params):Obj:={ cls:=.type "tuple",data:=Data.seq #[] }
noncomputable def o135(P:Params):Obj:={ cls:=.type "dict",data:=Data.dict #[de P "__module__" 278 (vs "middlesay.errors" 187),de P "__firstlineno__" 282 (.int 12 281),de P "__static_attributes__" 283 (.ref 83),de P "__doc__" 284 .none] 2 }
noncomputable def o136(P:Params):Obj:={ cls:=.type "type",data:=Data.cls { name:=Str.ofString "BadTree",bases:=[.ref 24],mro:=[.ref 85,.ref 24,.type "ValueError",.type "Exception",.type "BaseException",.type "object"],ns:=84,qualname:=Str.ofString "BadTree" },slots:=#[some (.ref 76),none,some (vs "BadTree" 271),some (vs "BadTree" 279),some (.builtin "ValueError.__new__"),some (.bool true)] }
noncomputable def o137(P:Params):Obj:={ cls:=.type "super",data:=Data.fields #[.ref 85,.ref 85,.ref 85] }
noncomputable def o138(P:Params):Obj:={ cls:=.type "builtin_function_or_method",data:=Data.fields #[.builtin "object.__init_subclass__",.ref 85] }
noncomputable def o139(P:Params):Obj:={ cls:=.type "dict",data:=Data.dict #[de P "__name__" 165 (vs "middlesay.errors" 187),de P "__doc__" 166 .none,de P "__package__" 167 .none,de P "__loader__" 168 (.builtin "__main__.__loader__#opaque"),de P "__spec__" 169 .none,de P "__annotations__" 170 (.ref 6),de P "__builtins__" 171 (.ref 4),de P "__file__" 173 (vs "/claim/cut.py" 172),de P "__cached__" 174 .none,de P "SayError" 206 (.ref 24),de P "BadSaying" 222 (.ref 37),de P "BadSetting" 238 (.ref 49),de P "BadText" 254 (.ref 61),de P "BadRow" 270 (.ref 73),de P "BadTree" 286 (.ref 85),de P "BadCut" 302 (.ref 97)] 16 }
noncomputable def o140(P:Params):Obj:={ cls:=.none,data:=Data.fields #[.int 2 0,i0,.ref 20,.int 4 0,i0,.ref 33,.int 6 0,i0,.ref 45,.int 8 0,i0,.ref 57,.int 10 0,i0,.ref 69,.int 12 0,i0,.ref 81,.int 14 0,i0,.ref 93] }
noncomputable def o141(P:Params):Obj:={ cls:=.type "type",data:=Data.cls { name:=Str.ofString "SayError",bases:=[.type "ValueError"],mro:=[.ref 24,.type "ValueError",.type "Exception",.type "BaseException",.type "object"],ns:=23,qualname:=Str.ofString "SayError",subclasses:=[.ref 37,.ref 49,.ref 61,.ref 73,.ref 85,.ref 97] },slots:=#[some (.ref 15),none,some (vs "SayError" 189),some (vs "SayError" 197),some (.builtin "ValueError.__new__"),some (.bool true)] }
noncomputable def o142(P:Params):Obj:={ cls:=.type "tuple",data:=Data.seq #[.ref 24] }
noncomputable def o143(P:Params):Obj:={ cls:=.type "builtin_function_or_method",data:=Data.fields #[.builtin "type.__prepare__",.type "type"] }
noncomputable def o144(P:Params):Obj:={ cls:=.type "dict",data:=Data.dict #[de P "__module__" 294 (vs "middlesay.errors" 187),de P "__qualname__" 296 (vs "BadCut" 295),de P "__firstlineno__" 298 (.int 14 297),de P "__static_attributes__" 299 (.ref 95)] 4 }
noncomputable def o145(P:Params):Obj:={ cls:=.type "tuple",data:=Data.seq #[] }
noncomputable def o146(P:Params):Obj:={ cls:=.none,data:=Data.fields #[] }
noncomputable def o147(P:Params):Obj:={ cls:=.type "code",data:=Data.fields #[vs "BadCut" 289,vs "BadCut" 290,vs "/claim/cut.py" 291,.int 14 0,i0,i0,i0,i0,.ref 91,.bool false,.int 181 0,.ref 92,.none,.none,.none,.none,.int 292 0,.int 14 0,vs "/claim/cut.py" 293] }
noncomputable def o148(P:Params):Obj:={ cls:=.type "frame",slots:=#[some (.ref 93),some (.ref 3),some (.ref 90),none,some (vs "middlesay.errors" 187),none,some (.ref 0)] }
noncomputable def o149(P:Params):Obj:={ cls:=.type "tuple",data:=Data.seq #[] }
noncomputable def o150(P:Params):Obj:={ cls:=.type "dict",data:=Data.dict #[de P "__module__" 294 (vs "middlesay.errors" 187),de P "__firstlineno__" 298 (.int 14 297),de P "__static_attributes__" 299 (.ref 95),de P "__doc__" 300 .none] 2 }
noncomputable def o151(P:Params):Obj:={ cls:=.type "type",data:=Data.cls { name:=Str.ofString "BadCut",bases:=[.ref 24],mro:=[.ref 97,.ref 24,.type "ValueError",.type "Exception",.type "BaseException",.type "object"],ns:=96,qualname:=Str.ofString "BadCut" },slots:=#[some (.ref 88),none,some (vs "BadCut" 287),some (vs "BadCut" 295),some (.builtin "ValueError.__new__"),some (.bool true)] }
noncomputable def o152(P:Params):Obj:={ cls:=.type "super",data:=Data.fields #[.ref 97,.ref 97,.ref 97] }
noncomputable def o153(P:Params):Obj:={ cls:=.type "builtin_function_or_method",data:=Data.fields #[.builtin "object.__init_subclass__",.ref 97] }
noncomputable def o154(P:Params):Obj:={ cls:=.type "dict",data:=Data.dict #[de P "__name__" 165 (vs "middlesay.sayings" 319),de P "__doc__" 166 .none,de P "__package__" 167 .none,de P "__loader__" 168 (.builtin "__main__.__loader__#opaque"),de P "__spec__" 169 .none,de P "__annotations__" 170 (.ref 6),de P "__builtins__" 171 (.ref 4),de P "__file__" 173 (vs "/claim/cut.py" 172),de P "__cached__" 174 .none,de P "SayError" 206 (.ref 24),de P "BadSaying" 222 (.ref 37),de P "BadSetting" 238 (.ref 49),de P "BadText" 254 (.ref 61),de P "BadRow" 270 (.ref 73),de P "BadTree" 286 (.ref 85),de P "BadCut" 302 (.ref 97),de P "BadNames" 318 (.ref 109),de P "LETTERS" 322 (vs "abcdefghijklmnopqrstuvwxyz" 321),de P "TOLD" 328 (.ref 112),de P "MOST_LETTERS" 330 (.int 6 329),de P "MOST_DEEP" 332 (.int 100 331),de P "is_whole" 339 (.ref 119),de P "is_name" 345 (.ref 124),de P "is_within" 353 (.ref 131),de P "is_saying" 360 (.ref 138)] 25 }
noncomputable def o155(P:Params):Obj:={ cls:=.none,data:=Data.fields #[.int 2 0,i0,.ref 20,.int 4 0,i0,.ref 33,.int 6 0,i0,.ref 45,.int 8 0,i0,.ref 57,.int 10 0,i0,.ref 69,.int 12 0,i0,.ref 81,.int 14 0,i0,.ref 93,.int 16 0,i0,.ref 105,.int 23 0,i0,.ref 118,.int 25 0,i0,.ref 123,.int 29 0,i0,.ref 130,.int 41 0,i0,.ref 137] }
noncomputable def o156(P:Params):Obj:={ cls:=.type "type",data:=Data.cls { name:=Str.ofString "SayError",bases:=[.type "ValueError"],mro:=[.ref 24,.type "ValueError",.type "Exception",.type "BaseException",.type "object"],ns:=23,qualname:=Str.ofString "SayError",subclasses:=[.ref 37,.ref 49,.ref 61,.ref 73,.ref 85,.ref 97,.ref 109] },slots:=#[some (.ref 15),none,some (vs "SayError" 189),some (vs "SayError" 197),some (.builtin "ValueError.__new__"),some (.bool true)] }
noncomputable def o157(P:Params):Obj:={ cls:=.type "tuple",data:=Data.seq #[.ref 24] }
noncomputable def o158(P:Params):Obj:={ cls:=.type "builtin_function_or_method",data:=Data.fields #[.builtin "type.__prepare__",.type "type"] }
noncomputable def o159(P:Params):Obj:={ cls:=.type "dict",data:=Data.dict #[de P "__module__" 310 (vs "middlesay.errors" 187),de P "__qualname__" 312 (vs "BadNames" 311),de P "__firstlineno__" 314 (.int 16 313),de P "__static_attributes__" 315 (.ref 107)] 4 }
noncomputable def o160(P:Params):Obj:={ cls:=.type "tuple",data:=Data.seq #[] }
noncomputable def o161(P:Params):Obj:={ cls:=.none,data:=Data.fields #[] }
noncomputable def o162(P:Params):Obj:={ cls:=.type "code",data:=Data.fields #[vs "BadNames" 305,vs "BadNames" 306,vs "/claim/cut.py" 307,.int 16 0,i0,i0,i0,i0,.ref 103,.bool false,.int 181 0,.ref 104,.none,.none,.none,.none,.int 308 0,.int 16 0,vs "/claim/cut.py" 309] }
noncomputable def o163(P:Params):Obj:={ cls:=.type "frame",slots:=#[some (.ref 105),some (.ref 3),some (.ref 102),none,some (vs "middlesay.errors" 187),none,some (.ref 0)] }
noncomputable def o164(P:Params):Obj:={ cls:=.type "tuple",data:=Data.seq #[] }
noncomputable def o165(P:Params):Obj:={ cls:=.type "dict",data:=Data.dict #[de P "__module__" 310 (vs "middlesay.errors" 187),de P "__firstlineno__" 314 (.int 16 313),de P "__static_attributes__" 315 (.ref 107),de P "__doc__" 316 .none] 2 }
noncomputable def o166(P:Params):Obj:={ cls:=.type "type",data:=Data.cls { name:=Str.ofString "BadNames",bases:=[.ref 24],mro:=[.ref 109,.ref 24,.type "ValueError",.type "Exception",.type "BaseException",.type "object"],ns:=108,qualname:=Str.ofString "BadNames" },slots:=#[some (.ref 100),none,some (vs "BadNames" 303),some (vs "BadNames" 311),some (.builtin "ValueError.__new__"),some (.bool true)] }
noncomputable def o167(P:Params):Obj:={ cls:=.type "super",data:=Data.fields #[.ref 109,.ref 109,.ref 109] }
noncomputable def o168(P:Params):Obj:={ cls:=.type "builtin_function_or_method",data:=Data.fields #[.builtin "object.__init_subclass__",.ref 109] }
noncomputable def o169(P:Params):Obj:={ cls:=.type "tuple",data:=Data.seq #[vs "yes" 323,vs "no" 324,vs "not" 325,vs "and" 326,vs "or" 327] }
noncomputable def o170(P:Params):Obj:={ cls:=.type "tuple",data:=Data.seq #[] }
noncomputable def o171(P:Params):Obj:={ cls:=.none,data:=Data.fields #[] }
noncomputable def o172(P:Params):Obj:={ cls:=.type "tuple",data:=Data.seq #[vs "thing" 336] }
noncomputable def o173(P:Params):Obj:={ cls:=.type "tuple",data:=Data.seq #[] }
noncomputable def o174(P:Params):Obj:={ cls:=.none,data:=Data.func (fdM 14 0 .none .none) }
noncomputable def o175(P:Params):Obj:={ cls:=.type "code",data:=Data.fields #[vs "is_whole" 333,vs "is_whole" 334,vs "/claim/cut.py" 335,.int 23 0,.int 1 0,i0,i0,.int 3 0,.ref 113,.bool true,.int 181 0,.ref 114,.none,.ref 115,.ref 116,.ref 117,.int 337 0,.int 23 0,vs "/claim/cut.py" 338] }
noncomputable def o176(P:Params):Obj:={ cls:=.type "function",data:=Data.func (fdM 14 3 (vs "middlesay.sayings" 319) (.ref 118)) }
noncomputable def o177(P:Params):Obj:={ cls:=.type "tuple",data:=Data.seq #[] }
noncomputable def o178(P:Params):Obj:={ cls:=.none,data:=Data.fields #[] }
noncomputable def o179(P:Params):Obj:={ cls:=.none,data:=Data.func (fdM 15 0 .none .none) }
noncomputable def o180(P:Params):Obj:={ cls:=.type "code",data:=Data.fields #[vs "is_name" 340,vs "is_name" 341,vs "/claim/cut.py" 342,.int 25 0,.int 1 0,i0,i0,.int 3 0,.ref 120,.bool true,.int 181 0,.ref 121,.none,.none,.none,.ref 122,.int 343 0,.int 25 0,vs "/claim/cut.py" 344] }
noncomputable def o181(P:Params):Obj:={ cls:=.type "function",data:=Data.func (fdM 15 3 (vs "middlesay.sayings" 319) (.ref 123)) }
noncomputable def o182(P:Params):Obj:={ cls:=.type "tuple",data:=Data.seq #[] }
noncomputable def o183(P:Params):Obj:={ cls:=.none,data:=Data.fields #[] }
noncomputable def o184(P:Params):Obj:={ cls:=.type "tuple",data:=Data.seq #[vs "thing" 349,vs "deep" 350] }
noncomputable def o185(P:Params):Obj:={ cls:=.type "tuple",data:=Data.seq #[] }
noncomputable def o186(P:Params):Obj:={ cls:=.none,data:=Data.func (fdM 16 0 .none .none) }
noncomputable def o187(P:Params):Obj:={ cls:=.type "code",data:=Data.fields #[vs "is_within" 346,vs "is_within" 347,vs "/claim/cut.py" 348,.int 29 0,.int 2 0,i0,i0,.int 3 0,.ref 125,.bool true,.int 181 0,.ref 126,.none,.ref 127,.ref 128,.ref 129,.int 351 0,.int 29 0,vs "/claim/cut.py" 352] }
noncomputable def o188(P:Params):Obj:={ cls:=.type "function",data:=Data.func (fdM 16 3 (vs "middlesay.sayings" 319) (.ref 130)) }
noncomputable def o189(P:Params):Obj:={ cls:=.type "tuple",data:=Data.seq #[] }
noncomputable def o190(P:Params):Obj:={ cls:=.none,data:=Data.fields #[] }
noncomputable def o191(P:Params):Obj:={ cls:=.type "tuple",data:=Data.seq #[vs "thing" 357] }
noncomputable def o192(P:Params):Obj:={ cls:=.type "tuple",data:=Data.seq #[] }
noncomputable def o193(P:Params):Obj:={ cls:=.none,data:=Data.func (fdM 17 0 .none .none) }
noncomputable def o194(P:Params):Obj:={ cls:=.type "code",data:=Data.fields #[vs "is_saying" 354,vs "is_saying" 355,vs "/claim/cut.py" 356,.int 41 0,.int 1 0,i0,i0,.int 3 0,.ref 132,.bool true,.int 181 0,.ref 133,.none,.ref 134,.ref 135,.ref 136,.int 358 0,.int 41 0,vs "/claim/cut.py" 359] }
noncomputable def o195(P:Params):Obj:={ cls:=.type "function",data:=Data.func (fdM 17 3 (vs "middlesay.sayings" 319) (.ref 137)) }
noncomputable def o196(P:Params):Obj:={ cls:=.type "dict",data:=Data.dict #[de P "__name__" 165 (vs "law_uf010027_06" 451),de P "__doc__" 166 .none,de P "__package__" 167 .none,de P "__loader__" 168 (.builtin "__main__.__loader__#opaque"),de P "__spec__" 169 .none,de P "__annotations__" 170 (.ref 6),de P "__builtins__" 171 (.ref 4),de P "__file__" 173 (vs "/claim/cut.py" 172),de P "__cached__" 174 .none,de P "SayError" 206 (.ref 24),de P "BadSaying" 222 (.ref 37),de P "BadSetting" 238 (.ref 49),de P "BadText" 254 (.ref 61),de P "BadRow" 270 (.ref 73),de P "BadTree" 286 (.ref 85),de P "BadCut" 302 (.ref 97),de P "BadNames" 318 (.ref 109),de P "LETTERS" 322 (vs "abcdefghijklmnopqrstuvwxyz" 321),de P "TOLD" 328 (.ref 112),de P "MOST_LETTERS" 330 (.int 6 329),de P "MOST_DEEP" 332 (.int 100 331),de P "is_whole" 339 (.ref 119),de P "is_name" 345 (.ref 124),de P "is_within" 353 (.ref 131),de P "is_saying" 360 (.ref 138),de P "halves" 367 (.ref 145),de P "size_in" 373 (.ref 150),de P "MOST_SAYINGS" 377 (.int 6 376),de P "MOST_SIZE" 379 (.int 60 378),de P "need_row" 385 (.ref 155),de P "begun" 391 (.ref 160),de P "parts" 403 (.ref 167),de P "same_claim" 413 (.ref 174),de P "without" 423 (.ref 181),de P "clashes" 431 (.ref 188),de P "stands_for" 442 (.ref 195),de P "stands" 450 (.ref 202),de P "_law_cell_at" 460 (.ref 209),de P "_law_names" 466 (.ref 214)] 39 }
noncomputable def o197(P:Params):Obj:={ cls:=.none,data:=Data.fields #[.int 2 0,i0,.ref 20,.int 4 0,i0,.ref 33,.int 6 0,i0,.ref 45,.int 8 0,i0,.ref 57,.int 10 0,i0,.ref 69,.int 12 0,i0,.ref 81,.int 14 0,i0,.ref 93,.int 16 0,i0,.ref 105,.int 23 0,i0,.ref 118,.int 25 0,i0,.ref 123,.int 29 0,i0,.ref 130,.int 41 0,i0,.ref 137,.int 43 0,i0,.ref 144,.int 47 0,i0,.ref 149,.int 52 0,i0,.ref 154,.int 59 0,i0,.ref 159,.int 62 0,i0,.ref 166,.int 74 0,i0,.ref 173,.int 78 0,i0,.ref 180,.int 83 0,i0,.ref 187,.int 85 0,i0,.ref 194,.int 101 0,i0,.ref 201,.int 104 0,i0,.ref 208,.int 108 0,i0,.ref 213] }
noncomputable def o198(P:Params):Obj:={ cls:=.type "tuple",data:=Data.seq #[] }
noncomputable def o199(P:Params):Obj:={ cls:=.none,data:=Data.fields #[] }
noncomputable def o200(P:Params):Obj:={ cls:=.type "tuple",data:=Data.seq #[vs "saying" 364] }
noncomputable def o201(P:Params):Obj:={ cls:=.type "tuple",data:=Data.seq #[] }
noncomputable def o202(P:Params):Obj:={ cls:=.none,data:=Data.func (fdM 18 0 .none .none) }
noncomputable def o203(P:Params):Obj:={ cls:=.type "code",data:=Data.fields #[vs "halves" 361,vs "halves" 362,vs "/claim/cut.py" 363,.int 43 0,.int 1 0,i0,i0,.int 3 0,.ref 139,.bool true,.int 181 0,.ref 140,.none,.ref 141,.ref 142,.ref 143,.int 365 0,.int 43 0,vs "/claim/cut.py" 366] }
noncomputable def o204(P:Params):Obj:={ cls:=.type "function",data:=Data.func (fdM 18 3 (vs "middlesay.sayings" 319) (.ref 144)) }
noncomputable def o205(P:Params):Obj:={ cls:=.type "tuple",data:=Data.seq #[] }
noncomputable def o206(P:Params):Obj:={ cls:=.none,data:=Data.fields #[] }
noncomputable def o207(P:Params):Obj:={ cls:=.none,data:=Data.func (fdM 19 0 .none .none) }
noncomputable def o208(P:Params):Obj:={ cls:=.type "code",data:=Data.fields #[vs "size_in" 368,vs "size_in" 369,vs "/claim/cut.py" 370,.int 47 0,.int 1 0,i0,i0,.int 3 0,.ref 146,.bool true,.int 181 0,.ref 147,.none,.none,.none,.ref 148,.int 371 0,.int 47 0,vs "/claim/cut.py" 372] }
noncomputable def o209(P:Params):Obj:={ cls:=.type "function",data:=Data.func (fdM 19 3 (vs "middlesay.sayings" 319) (.ref 149)) }
noncomputable def o210(P:Params):Obj:={ cls:=.type "tuple",data:=Data.seq #[] }
noncomputable def o211(P:Params):Obj:={ cls:=.none,data:=Data.fields #[] }
noncomputable def o212(P:Params):Obj:={ cls:=.none,data:=Data.func (fdM 23 0 .none .none) }
noncomputable def o213(P:Params):Obj:={ cls:=.type "code",data:=Data.fields #[vs "need_row" 380,vs "need_row" 381,vs "/claim/cut.py" 382,.int 52 0,.int 1 0,i0,i0,.int 3 0,.ref 151,.bool true,.int 181 0,.ref 152,.none,.none,.none,.ref 153,.int 383 0,.int 52 0,vs "/claim/cut.py" 384] }
noncomputable def o214(P:Params):Obj:={ cls:=.type "function",data:=Data.func (fdM 23 3 (vs "middlesay.claims" 374) (.ref 154)) }
noncomputable def o215(P:Params):Obj:={ cls:=.type "tuple",data:=Data.seq #[] }
noncomputable def o216(P:Params):Obj:={ cls:=.none,data:=Data.fields #[] }
noncomputable def o217(P:Params):Obj:={ cls:=.none,data:=Data.func (fdM 24 0 .none .none) }
noncomputable def o218(P:Params):Obj:={ cls:=.type "code",data:=Data.fields #[vs "begun" 386,vs "begun" 387,vs "/claim/cut.py" 388,.int 59 0,.int 1 0,i0,i0,.int 3 0,.ref 156,.bool true,.int 181 0,.ref 157,.none,.none,.none,.ref 158,.int 389 0,.int 59 0,vs "/claim/cut.py" 390] }
noncomputable def o219(P:Params):Obj:={ cls:=.type "function",data:=Data.func (fdM 24 3 (vs "middlesay.claims" 374) (.ref 159)) }
noncomputable def o220(P:Params):Obj:={ cls:=.type "tuple",data:=Data.seq #[] }
noncomputable def o221(P:Params):Obj:={ cls:=.none,data:=Data.fields #[] }
noncomputable def o222(P:Params):Obj:={ cls:=.type "tuple",data:=Data.seq #[vs "claim" 395,vs "number" 396,vs "truth" 397,vs "saying" 398,vs "word" 399,vs "some" 400] }
noncomputable def o223(P:Params):Obj:={ cls:=.type "tuple",data:=Data.seq #[] }
noncomputable def o224(P:Params):Obj:={ cls:=.none,data:=Data.func (fdM 25 0 .none .none) }
noncomputable def o225(P:Params):Obj:={ cls:=.type "code",data:=Data.fields #[vs "parts" 392,vs "parts" 393,vs "/claim/cut.py" 394,.int 62 0,.int 1 0,i0,i0,.int 3 0,.ref 161,.bool true,.int 181 0,.ref 162,.none,.ref 163,.ref 164,.ref 165,.int 401 0,.int 62 0,vs "/claim/cut.py" 402] }
noncomputable def o226(P:Params):Obj:={ cls:=.type "function",data:=Data.func (fdM 25 3 (vs "middlesay.claims" 374) (.ref 166)) }
noncomputable def o227(P:Params):Obj:={ cls:=.type "tuple",data:=Data.seq #[] }
noncomputable def o228(P:Params):Obj:={ cls:=.none,data:=Data.fields #[] }
noncomputable def o229(P:Params):Obj:={ cls:=.type "tuple",data:=Data.seq #[vs "one" 409,vs "other" 410] }
noncomputable def o230(P:Params):Obj:={ cls:=.type "tuple",data:=Data.seq #[] }
noncomputable def o231(P:Params):Obj:={ cls:=.none,data:=Data.func (fdM 27 0 .none .none) }
noncomputable def o232(P:Params):Obj:={ cls:=.type "code",data:=Data.fields #[vs "same_claim" 406,vs "same_claim" 407,vs "/claim/cut.py" 408,.int 74 0,.int 2 0,i0,i0,.int 3 0,.ref 168,.bool true,.int 181 0,.ref 169,.none,.ref 170,.ref 171,.ref 172,.int 411 0,.int 74 0,vs "/claim/cut.py" 412] }
noncomputable def o233(P:Params):Obj:={ cls:=.type "function",data:=Data.func (fdM 27 3 (vs "middlesay.trees" 404) (.ref 173)) }
noncomputable def o234(P:Params):Obj:={ cls:=.type "tuple",data:=Data.seq #[] }
noncomputable def o235(P:Params):Obj:={ cls:=.none,data:=Data.fields #[] }
noncomputable def o236(P:Params):Obj:={ cls:=.type "tuple",data:=Data.seq #[vs "claims" 417,vs "claim" 418,vs "place" 419,vs "other" 420] }
noncomputable def o237(P:Params):Obj:={ cls:=.type "tuple",data:=Data.seq #[] }
noncomputable def o238(P:Params):Obj:={ cls:=.none,data:=Data.func (fdM 28 0 .none .none) }
noncomputable def o239(P:Params):Obj:={ cls:=.type "code",data:=Data.fields #[vs "without" 414,vs "without" 415,vs "/claim/cut.py" 416,.int 78 0,.int 2 0,i0,i0,.int 3 0,.ref 175,.bool true,.int 181 0,.ref 176,.none,.ref 177,.ref 178,.ref 179,.int 421 0,.int 78 0,vs "/claim/cut.py" 422] }
noncomputable def o240(P:Params):Obj:={ cls:=.type "function",data:=Data.func (fdM 28 3 (vs "middlesay.trees" 404) (.ref 180)) }
noncomputable def o241(P:Params):Obj:={ cls:=.type "tuple",data:=Data.seq #[] }
noncomputable def o242(P:Params):Obj:={ cls:=.none,data:=Data.fields #[] }
noncomputable def o243(P:Params):Obj:={ cls:=.type "tuple",data:=Data.seq #[vs "claim" 427,vs "other" 428] }
noncomputable def o244(P:Params):Obj:={ cls:=.type "tuple",data:=Data.seq #[] }
noncomputable def o245(P:Params):Obj:={ cls:=.none,data:=Data.func (fdM 29 0 .none .none) }
noncomputable def o246(P:Params):Obj:={ cls:=.type "code",data:=Data.fields #[vs "clashes" 424,vs "clashes" 425,vs "/claim/cut.py" 426,.int 83 0,.int 2 0,i0,i0,.int 3 0,.ref 182,.bool true,.int 181 0,.ref 183,.none,.ref 184,.ref 185,.ref 186,.int 429 0,.int 83 0,vs "/claim/cut.py" 430] }
noncomputable def o247(P:Params):Obj:={ cls:=.type "function",data:=Data.func (fdM 29 3 (vs "middlesay.trees" 404) (.ref 187)) }
noncomputable def o248(P:Params):Obj:={ cls:=.type "tuple",data:=Data.seq #[] }
noncomputable def o249(P:Params):Obj:={ cls:=.none,data:=Data.fields #[] }
noncomputable def o250(P:Params):Obj:={ cls:=.type "tuple",data:=Data.seq #[vs "claims" 435,vs "tree" 436,vs "left" 437,vs "kind" 438,vs "some" 439] }
noncomputable def o251(P:Params):Obj:={ cls:=.type "tuple",data:=Data.seq #[] }
noncomputable def o252(P:Params):Obj:={ cls:=.none,data:=Data.func (fdM 30 0 .none .none) }
noncomputable def o253(P:Params):Obj:={ cls:=.type "code",data:=Data.fields #[vs "stands_for" 432,vs "stands_for" 433,vs "/claim/cut.py" 434,.int 85 0,.int 2 0,i0,i0,.int 3 0,.ref 189,.bool true,.int 181 0,.ref 190,.none,.ref 191,.ref 192,.ref 193,.int 440 0,.int 85 0,vs "/claim/cut.py" 441] }
noncomputable def o254(P:Params):Obj:={ cls:=.type "function",data:=Data.func (fdM 30 3 (vs "middlesay.trees" 404) (.ref 194)) }
noncomputable def o255(P:Params):Obj:={ cls:=.type "tuple",data:=Data.seq #[] }
noncomputable def o256(P:Params):Obj:={ cls:=.none,data:=Data.fields #[] }
noncomputable def o257(P:Params):Obj:={ cls:=.type "tuple",data:=Data.seq #[vs "row" 446,vs "tree" 447] }
noncomputable def o258(P:Params):Obj:={ cls:=.type "tuple",data:=Data.seq #[] }
noncomputable def o259(P:Params):Obj:={ cls:=.none,data:=Data.func (fdM 31 0 .none .none) }
noncomputable def o260(P:Params):Obj:={ cls:=.type "code",data:=Data.fields #[vs "stands" 443,vs "stands" 444,vs "/claim/cut.py" 445,.int 101 0,.int 2 0,i0,i0,.int 3 0,.ref 196,.bool true,.int 181 0,.ref 197,.none,.ref 198,.ref 199,.ref 200,.int 448 0,.int 101 0,vs "/claim/cut.py" 449] }
noncomputable def o261(P:Params):Obj:={ cls:=.type "function",data:=Data.func (fdM 31 3 (vs "middlesay.trees" 404) (.ref 201)) }
noncomputable def o262(P:Params):Obj:={ cls:=.type "tuple",data:=Data.seq #[] }
noncomputable def o263(P:Params):Obj:={ cls:=.none,data:=Data.fields #[] }
noncomputable def o264(P:Params):Obj:={ cls:=.type "tuple",data:=Data.seq #[vs "_law_script" 456,vs "_law_k" 457] }
noncomputable def o265(P:Params):Obj:={ cls:=.type "tuple",data:=Data.seq #[] }
noncomputable def o266(P:Params):Obj:={ cls:=.none,data:=Data.func (fdM 33 0 .none .none) }
noncomputable def o267(P:Params):Obj:={ cls:=.type "code",data:=Data.fields #[vs "_law_cell_at" 453,vs "_law_cell_at" 454,vs "/claim/cut.py" 455,.int 104 0,.int 2 0,i0,i0,.int 3 0,.ref 203,.bool true,.int 181 0,.ref 204,.none,.ref 205,.ref 206,.ref 207,.int 458 0,.int 104 0,vs "/claim/cut.py" 459] }
noncomputable def o268(P:Params):Obj:={ cls:=.type "function",data:=Data.func (fdM 33 3 (vs "law_uf010027_06" 451) (.ref 208)) }
noncomputable def o269(P:Params):Obj:={ cls:=.type "tuple",data:=Data.seq #[] }
noncomputable def o270(P:Params):Obj:={ cls:=.none,data:=Data.fields #[] }
noncomputable def o271(P:Params):Obj:={ cls:=.none,data:=Data.func (fdM 34 0 .none .none) }
noncomputable def o272(P:Params):Obj:={ cls:=.type "code",data:=Data.fields #[vs "_law_names" 461,vs "_law_names" 462,vs "/claim/cut.py" 463,.int 108 0,.int 2 0,i0,i0,.int 3 0,.ref 210,.bool true,.int 181 0,.ref 211,.none,.none,.none,.ref 212,.int 464 0,.int 108 0,vs "/claim/cut.py" 465] }
noncomputable def o273(P:Params):Obj:={ cls:=.type "function",data:=Data.func (fdM 34 3 (vs "law_uf010027_06" 451) (.ref 213)) }
noncomputable def o274(P:Params):Obj:={ cls:=.type "dict",data:=Data.dict #[de P "__name__" 165 (vs "law_uf010027_06" 451),de P "__doc__" 166 .none,de P "__package__" 167 .none,de P "__loader__" 168 (.builtin "__main__.__loader__#opaque"),de P "__spec__" 169 .none,de P "__annotations__" 170 (.ref 6),de P "__builtins__" 171 (.ref 4),de P "__file__" 173 (vs "/claim/cut.py" 172),de P "__cached__" 174 .none,de P "SayError" 206 (.ref 24),de P "BadSaying" 222 (.ref 37),de P "BadSetting" 238 (.ref 49),de P "BadText" 254 (.ref 61),de P "BadRow" 270 (.ref 73),de P "BadTree" 286 (.ref 85),de P "BadCut" 302 (.ref 97),de P "BadNames" 318 (.ref 109),de P "LETTERS" 322 (vs "abcdefghijklmnopqrstuvwxyz" 321),de P "TOLD" 328 (.ref 112),de P "MOST_LETTERS" 330 (.int 6 329),de P "MOST_DEEP" 332 (.int 100 331),de P "is_whole" 339 (.ref 119),de P "is_name" 345 (.ref 124),de P "is_within" 353 (.ref 131),de P "is_saying" 360 (.ref 138),de P "halves" 367 (.ref 145),de P "size_in" 373 (.ref 150),de P "MOST_SAYINGS" 377 (.int 6 376),de P "MOST_SIZE" 379 (.int 60 378),de P "need_row" 385 (.ref 155),de P "begun" 391 (.ref 160),de P "parts" 403 (.ref 167),de P "same_claim" 413 (.ref 174),de P "without" 423 (.ref 181),de P "clashes" 431 (.ref 188),de P "stands_for" 442 (.ref 195),de P "stands" 450 (.ref 202),de P "_law_cell_at" 460 (.ref 209),de P "_law_names" 466 (.ref 214),de P "_law_saying" 480 (.ref 221),de P "_law_kind" 488 (.ref 228),de P "_law_plain_row" 502 (.ref 235),de P "_law_row" 508 (.ref 240),de P "_law_comes" 520 (.ref 247),de P "_law_clash" 529 (.ref 254),de P "_law_without" 538 (.ref 261),de P "_law_built" 544 (.ref 266),de P "_law_is_open" 552 (.ref 273),de P "_law_stands" 564 (.ref 280),de P "_law_begun" 570 (.ref 285),de P "_law_claim_changed" 583 (.ref 292)] 51 }
noncomputable def o275(P:Params):Obj:={ cls:=.none,data:=Data.fields #[.int 2 0,i0,.ref 20,.int 4 0,i0,.ref 33,.int 6 0,i0,.ref 45,.int 8 0,i0,.ref 57,.int 10 0,i0,.ref 69,.int 12 0,i0,.ref 81,.int 14 0,i0,.ref 93,.int 16 0,i0,.ref 105,.int 23 0,i0,.ref 118,.int 25 0,i0,.ref 123,.int 29 0,i0,.ref 130,.int 41 0,i0,.ref 137,.int 43 0,i0,.ref 144,.int 47 0,i0,.ref 149,.int 52 0,i0,.ref 154,.int 59 0,i0,.ref 159,.int 62 0,i0,.ref 166,.int 74 0,i0,.ref 173,.int 78 0,i0,.ref 180,.int 83 0,i0,.ref 187,.int 85 0,i0,.ref 194,.int 101 0,i0,.ref 201,.int 104 0,i0,.ref 208,.int 108 0,i0,.ref 213,.int 124 0,i0,.ref 220,.int 138 0,i0,.ref 227,.int 145 0,i0,.ref 234,.int 153 0,i0,.ref 239,.int 171 0,i0,.ref 246,.int 182 0,i0,.ref 253,.int 189 0,i0,.ref 260,.int 192 0,i0,.ref 265,.int 215 0,i0,.ref 272,.int 219 0,i0,.ref 279,.int 238 0,i0,.ref 284,.int 240 0,i0,.ref 291] }
noncomputable def o276(P:Params):Obj:={ cls:=.type "tuple",data:=Data.seq #[] }
noncomputable def o277(P:Params):Obj:={ cls:=.none,data:=Data.fields #[] }
noncomputable def o278(P:Params):Obj:={ cls:=.type "tuple",data:=Data.seq #[vs "_law_cell" 470,vs "_law_size" 471,vs "_law_names_here" 472,vs "_law_pick" 473,vs "_law_way" 474,vs "_law_left" 475,vs "_law_one" 476,vs "_law_other" 477] }
noncomputable def o279(P:Params):Obj:={ cls:=.type "tuple",data:=Data.seq #[] }
noncomputable def o280(P:Params):Obj:={ cls:=.none,data:=Data.func (fdM 35 0 .none .none) }
noncomputable def o281(P:Params):Obj:={ cls:=.type "code",data:=Data.fields #[vs "_law_saying" 467,vs "_law_saying" 468,vs "/claim/cut.py" 469,.int 124 0,.int 3 0,i0,i0,.int 3 0,.ref 215,.bool true,.int 181 0,.ref 216,.none,.ref 217,.ref 218,.ref 219,.int 478 0,.int 124 0,vs "/claim/cut.py" 479] }
noncomputable def o282(P:Params):Obj:={ cls:=.type "function",data:=Data.func (fdM 35 3 (vs "law_uf010027_06" 451) (.ref 220)) }
noncomputable def o283(P:Params):Obj:={ cls:=.type "tuple",data:=Data.seq #[] }
noncomputable def o284(P:Params):Obj:={ cls:=.none,data:=Data.fields #[] }
noncomputable def o285(P:Params):Obj:={ cls:=.type "tuple",data:=Data.seq #[vs "_law_error" 484,vs "_law_told" 485] }
noncomputable def o286(P:Params):Obj:={ cls:=.type "tuple",data:=Data.seq #[] }
noncomputable def o287(P:Params):Obj:={ cls:=.none,data:=Data.func (fdM 36 0 .none .none) }
noncomputable def o288(P:Params):Obj:={ cls:=.type "code",data:=Data.fields #[vs "_law_kind" 481,vs "_law_kind" 482,vs "/claim/cut.py" 483,.int 138 0,.int 1 0,i0,i0,.int 3 0,.ref 222,.bool true,.int 181 0,.ref 223,.none,.ref 224,.ref 225,.ref 226,.int 486 0,.int 138 0,vs "/claim/cut.py" 487] }
noncomputable def o289(P:Params):Obj:={ cls:=.type "function",data:=Data.func (fdM 36 3 (vs "law_uf010027_06" 451) (.ref 227)) }
noncomputable def o290(P:Params):Obj:={ cls:=.type "tuple",data:=Data.seq #[] }
noncomputable def o291(P:Params):Obj:={ cls:=.none,data:=Data.fields #[] }
noncomputable def o292(P:Params):Obj:={ cls:=.type "tuple",data:=Data.seq #[vs "_law_cell" 492,vs "_law_many" 493,vs "_law_room" 494,vs "_law_names_here" 495,vs "_law_row_here" 496,vs "_law_k" 497,vs "_law_more" 498,vs "_law_size" 499] }
noncomputable def o293(P:Params):Obj:={ cls:=.type "tuple",data:=Data.seq #[] }
noncomputable def o294(P:Params):Obj:={ cls:=.none,data:=Data.func (fdM 37 0 .none .none) }
noncomputable def o295(P:Params):Obj:={ cls:=.type "code",data:=Data.fields #[vs "_law_plain_row" 489,vs "_law_plain_row" 490,vs "/claim/cut.py" 491,.int 145 0,.int 4 0,i0,i0,.int 3 0,.ref 229,.bool true,.int 181 0,.ref 230,.none,.ref 231,.ref 232,.ref 233,.int 500 0,.int 145 0,vs "/claim/cut.py" 501] }
noncomputable def o296(P:Params):Obj:={ cls:=.type "function",data:=Data.func (fdM 37 3 (vs "law_uf010027_06" 451) (.ref 234)) }
noncomputable def o297(P:Params):Obj:={ cls:=.type "tuple",data:=Data.seq #[] }
noncomputable def o298(P:Params):Obj:={ cls:=.none,data:=Data.fields #[] }
noncomputable def o299(P:Params):Obj:={ cls:=.none,data:=Data.func (fdM 38 0 .none .none) }
noncomputable def o300(P:Params):Obj:={ cls:=.type "code",data:=Data.fields #[vs "_law_row" 503,vs "_law_row" 504,vs "/claim/cut.py" 505,.int 153 0,.int 3 0,i0,i0,.int 3 0,.ref 236,.bool true,.int 181 0,.ref 237,.none,.none,.none,.ref 238,.int 506 0,.int 153 0,vs "/claim/cut.py" 507] }
noncomputable def o301(P:Params):Obj:={ cls:=.type "function",data:=Data.func (fdM 38 3 (vs "law_uf010027_06" 451) (.ref 239)) }
noncomputable def o302(P:Params):Obj:={ cls:=.type "tuple",data:=Data.seq #[] }
noncomputable def o303(P:Params):Obj:={ cls:=.none,data:=Data.fields #[] }
noncomputable def o304(P:Params):Obj:={ cls:=.type "tuple",data:=Data.seq #[vs "_law_claim" 512,vs "_law_number" 513,vs "_law_truth" 514,vs "_law_saying_here" 515,vs "_law_word" 516,vs "_law_both" 517] }
noncomputable def o305(P:Params):Obj:={ cls:=.type "tuple",data:=Data.seq #[] }
noncomputable def o306(P:Params):Obj:={ cls:=.none,data:=Data.func (fdM 39 0 .none .none) }
noncomputable def o307(P:Params):Obj:={ cls:=.type "code",data:=Data.fields #[vs "_law_comes" 509,vs "_law_comes" 510,vs "/claim/cut.py" 511,.int 171 0,.int 1 0,i0,i0,.int 3 0,.ref 241,.bool true,.int 181 0,.ref 242,.none,.ref 243,.ref 244,.ref 245,.int 518 0,.int 171 0,vs "/claim/cut.py" 519] }
noncomputable def o308(P:Params):Obj:={ cls:=.type "function",data:=Data.func (fdM 39 3 (vs "law_uf010027_06" 451) (.ref 246)) }
noncomputable def o309(P:Params):Obj:={ cls:=.type "tuple",data:=Data.seq #[] }
noncomputable def o310(P:Params):Obj:={ cls:=.none,data:=Data.fields #[] }
noncomputable def o311(P:Params):Obj:={ cls:=.type "tuple",data:=Data.seq #[vs "_law_claims" 524,vs "_law_one" 525,vs "_law_other" 526] }
noncomputable def o312(P:Params):Obj:={ cls:=.type "tuple",data:=Data.seq #[] }
noncomputable def o313(P:Params):Obj:={ cls:=.none,data:=Data.func (fdM 40 0 .none .none) }
noncomputable def o314(P:Params):Obj:={ cls:=.type "code",data:=Data.fields #[vs "_law_clash" 521,vs "_law_clash" 522,vs "/claim/cut.py" 523,.int 182 0,.int 1 0,i0,i0,.int 3 0,.ref 248,.bool true,.int 181 0,.ref 249,.none,.ref 250,.ref 251,.ref 252,.int 527 0,.int 182 0,vs "/claim/cut.py" 528] }
noncomputable def o315(P:Params):Obj:={ cls:=.type "function",data:=Data.func (fdM 40 3 (vs "law_uf010027_06" 451) (.ref 253)) }
noncomputable def o316(P:Params):Obj:={ cls:=.type "tuple",data:=Data.seq #[] }
noncomputable def o317(P:Params):Obj:={ cls:=.none,data:=Data.fields #[] }
noncomputable def o318(P:Params):Obj:={ cls:=.type "tuple",data:=Data.seq #[vs "_law_claims" 533,vs "_law_claim" 534,vs "_law_at" 535] }
noncomputable def o319(P:Params):Obj:={ cls:=.type "tuple",data:=Data.seq #[] }
noncomputable def o320(P:Params):Obj:={ cls:=.none,data:=Data.func (fdM 41 0 .none .none) }
noncomputable def o321(P:Params):Obj:={ cls:=.type "code",data:=Data.fields #[vs "_law_without" 530,vs "_law_without" 531,vs "/claim/cut.py" 532,.int 189 0,.int 2 0,i0,i0,.int 3 0,.ref 255,.bool true,.int 181 0,.ref 256,.none,.ref 257,.ref 258,.ref 259,.int 536 0,.int 189 0,vs "/claim/cut.py" 537] }
noncomputable def o322(P:Params):Obj:={ cls:=.type "function",data:=Data.func (fdM 41 3 (vs "law_uf010027_06" 451) (.ref 260)) }
noncomputable def o323(P:Params):Obj:={ cls:=.type "tuple",data:=Data.seq #[] }
noncomputable def o324(P:Params):Obj:={ cls:=.none,data:=Data.fields #[] }
noncomputable def o325(P:Params):Obj:={ cls:=.none,data:=Data.func (fdM 42 0 .none .none) }
noncomputable def o326(P:Params):Obj:={ cls:=.type "code",data:=Data.fields #[vs "_law_built" 539,vs "_law_built" 540,vs "/claim/cut.py" 541,.int 192 0,.int 2 0,i0,i0,.int 3 0,.ref 262,.bool true,.int 181 0,.ref 263,.none,.none,.none,.ref 264,.int 542 0,.int 192 0,vs "/claim/cut.py" 543] }
noncomputable def o327(P:Params):Obj:={ cls:=.type "function",data:=Data.func (fdM 42 3 (vs "law_uf010027_06" 451) (.ref 265)) }
noncomputable def o328(P:Params):Obj:={ cls:=.type "tuple",data:=Data.seq #[] }
noncomputable def o329(P:Params):Obj:={ cls:=.none,data:=Data.fields #[] }
noncomputable def o330(P:Params):Obj:={ cls:=.type "tuple",data:=Data.seq #[vs "_law_claims" 548,vs "_law_thing" 549] }
noncomputable def o331(P:Params):Obj:={ cls:=.type "tuple",data:=Data.seq #[] }
noncomputable def o332(P:Params):Obj:={ cls:=.none,data:=Data.func (fdM 43 0 .none .none) }
noncomputable def o333(P:Params):Obj:={ cls:=.type "code",data:=Data.fields #[vs "_law_is_open" 545,vs "_law_is_open" 546,vs "/claim/cut.py" 547,.int 215 0,.int 2 0,i0,i0,.int 3 0,.ref 267,.bool true,.int 181 0,.ref 268,.none,.ref 269,.ref 270,.ref 271,.int 550 0,.int 215 0,vs "/claim/cut.py" 551] }
noncomputable def o334(P:Params):Obj:={ cls:=.type "function",data:=Data.func (fdM 43 3 (vs "law_uf010027_06" 451) (.ref 272)) }
noncomputable def o335(P:Params):Obj:={ cls:=.type "tuple",data:=Data.seq #[] }
noncomputable def o336(P:Params):Obj:={ cls:=.none,data:=Data.fields #[] }
noncomputable def o337(P:Params):Obj:={ cls:=.type "tuple",data:=Data.seq #[vs "_law_claims" 556,vs "_law_tree" 557,vs "_law_sizes" 558,vs "_law_word" 559,vs "_law_come" 560,vs "_law_left" 561] }
noncomputable def o338(P:Params):Obj:={ cls:=.type "tuple",data:=Data.seq #[] }
noncomputable def o339(P:Params):Obj:={ cls:=.none,data:=Data.func (fdM 44 0 .none .none) }
noncomputable def o340(P:Params):Obj:={ cls:=.type "code",data:=Data.fields #[vs "_law_stands" 553,vs "_law_stands" 554,vs "/claim/cut.py" 555,.int 219 0,.int 2 0,i0,i0,.int 3 0,.ref 274,.bool true,.int 181 0,.ref 275,.none,.ref 276,.ref 277,.ref 278,.int 562 0,.int 219 0,vs "/claim/cut.py" 563] }
noncomputable def o341(P:Params):Obj:={ cls:=.type "function",data:=Data.func (fdM 44 3 (vs "law_uf010027_06" 451) (.ref 279)) }
noncomputable def o342(P:Params):Obj:={ cls:=.type "tuple",data:=Data.seq #[] }
noncomputable def o343(P:Params):Obj:={ cls:=.none,data:=Data.fields #[] }
noncomputable def o344(P:Params):Obj:={ cls:=.none,data:=Data.func (fdM 45 0 .none .none) }
noncomputable def o345(P:Params):Obj:={ cls:=.type "code",data:=Data.fields #[vs "_law_begun" 565,vs "_law_begun" 566,vs "/claim/cut.py" 567,.int 238 0,.int 1 0,i0,i0,.int 3 0,.ref 281,.bool true,.int 181 0,.ref 282,.none,.none,.none,.ref 283,.int 568 0,.int 238 0,vs "/claim/cut.py" 569] }
noncomputable def o346(P:Params):Obj:={ cls:=.type "function",data:=Data.func (fdM 45 3 (vs "law_uf010027_06" 451) (.ref 284)) }
noncomputable def o347(P:Params):Obj:={ cls:=.type "tuple",data:=Data.seq #[] }
noncomputable def o348(P:Params):Obj:={ cls:=.none,data:=Data.fields #[] }
noncomputable def o349(P:Params):Obj:={ cls:=.type "tuple",data:=Data.seq #[vs "_law_claim" 574,vs "_law_cell" 575,vs "_law_names_here" 576,vs "_law_number" 577,vs "_law_truth" 578,vs "_law_saying_here" 579,vs "_law_some" 580] }
noncomputable def o350(P:Params):Obj:={ cls:=.type "tuple",data:=Data.seq #[] }
noncomputable def o351(P:Params):Obj:={ cls:=.none,data:=Data.func (fdM 46 0 .none .none) }
noncomputable def o352(P:Params):Obj:={ cls:=.type "code",data:=Data.fields #[vs "_law_claim_changed" 571,vs "_law_claim_changed" 572,vs "/claim/cut.py" 573,.int 240 0,.int 3 0,i0,i0,.int 3 0,.ref 286,.bool true,.int 181 0,.ref 287,.none,.ref 288,.ref 289,.ref 290,.int 581 0,.int 240 0,vs "/claim/cut.py" 582] }
noncomputable def o353(P:Params):Obj:={ cls:=.type "function",data:=Data.func (fdM 46 3 (vs "law_uf010027_06" 451) (.ref 291)) }
noncomputable def o354(P:Params):Obj:={ cls:=.type "dict",data:=Data.dict #[de P "__name__" 165 (vs "law_uf010027_06" 451),de P "__doc__" 166 .none,de P "__package__" 167 .none,de P "__loader__" 168 (.builtin "__main__.__loader__#opaque"),de P "__spec__" 169 .none,de P "__annotations__" 170 (.ref 6),de P "__builtins__" 171 (.ref 4),de P "__file__" 173 (vs "/claim/cut.py" 172),de P "__cached__" 174 .none,de P "SayError" 206 (.ref 24),de P "BadSaying" 222 (.ref 37),de P "BadSetting" 238 (.ref 49),de P "BadText" 254 (.ref 61),de P "BadRow" 270 (.ref 73),de P "BadTree" 286 (.ref 85),de P "BadCut" 302 (.ref 97),de P "BadNames" 318 (.ref 109),de P "LETTERS" 322 (vs "abcdefghijklmnopqrstuvwxyz" 321),de P "TOLD" 328 (.ref 112),de P "MOST_LETTERS" 330 (.int 6 329),de P "MOST_DEEP" 332 (.int 100 331),de P "is_whole" 339 (.ref 119),de P "is_name" 345 (.ref 124),de P "is_within" 353 (.ref 131),de P "is_saying" 360 (.ref 138),de P "halves" 367 (.ref 145),de P "size_in" 373 (.ref 150),de P "MOST_SAYINGS" 377 (.int 6 376),de P "MOST_SIZE" 379 (.int 60 378),de P "need_row" 385 (.ref 155),de P "begun" 391 (.ref 160),de P "parts" 403 (.ref 167),de P "same_claim" 413 (.ref 174),de P "without" 423 (.ref 181),de P "clashes" 431 (.ref 188),de P "stands_for" 442 (.ref 195),de P "stands" 450 (.ref 202),de P "_law_cell_at" 460 (.ref 209),de P "_law_names" 466 (.ref 214),de P "_law_saying" 480 (.ref 221),de P "_law_kind" 488 (.ref 228),de P "_law_plain_row" 502 (.ref 235),de P "_law_row" 508 (.ref 240),de P "_law_comes" 520 (.ref 247),de P "_law_clash" 529 (.ref 254),de P "_law_without" 538 (.ref 261),de P "_law_built" 544 (.ref 266),de P "_law_is_open" 552 (.ref 273),de P "_law_stands" 564 (.ref 280),de P "_law_begun" 570 (.ref 285),de P "_law_claim_changed" 583 (.ref 292),de P "_law_here_changed" 596 (.ref 299),de P "_law_changed" 606 (.ref 306),de P "_law_no_row" 614 (.ref 313),de P "law" 630 (.ref 320)] 55 }
noncomputable def o355(P:Params):Obj:={ cls:=.none,data:=Data.fields #[.int 2 0,i0,.ref 20,.int 4 0,i0,.ref 33,.int 6 0,i0,.ref 45,.int 8 0,i0,.ref 57,.int 10 0,i0,.ref 69,.int 12 0,i0,.ref 81,.int 14 0,i0,.ref 93,.int 16 0,i0,.ref 105,.int 23 0,i0,.ref 118,.int 25 0,i0,.ref 123,.int 29 0,i0,.ref 130,.int 41 0,i0,.ref 137,.int 43 0,i0,.ref 144,.int 47 0,i0,.ref 149,.int 52 0,i0,.ref 154,.int 59 0,i0,.ref 159,.int 62 0,i0,.ref 166,.int 74 0,i0,.ref 173,.int 78 0,i0,.ref 180,.int 83 0,i0,.ref 187,.int 85 0,i0,.ref 194,.int 101 0,i0,.ref 201,.int 104 0,i0,.ref 208,.int 108 0,i0,.ref 213,.int 124 0,i0,.ref 220,.int 138 0,i0,.ref 227,.int 145 0,i0,.ref 234,.int 153 0,i0,.ref 239,.int 171 0,i0,.ref 246,.int 182 0,i0,.ref 253,.int 189 0,i0,.ref 260,.int 192 0,i0,.ref 265,.int 215 0,i0,.ref 272,.int 219 0,i0,.ref 279,.int 238 0,i0,.ref 284,.int 240 0,i0,.ref 291,.int 246 0,i0,.ref 298,.int 272 0,i0,.ref 305,.int 278 0,i0,.ref 312,.int 284 0,i0,.ref 319] }
noncomputable def o356(P:Params):Obj:={ cls:=.type "tuple",data:=Data.seq #[] }
noncomputable def o357(P:Params):Obj:={ cls:=.none,data:=Data.fields #[] }
noncomputable def o358(P:Params):Obj:={ cls:=.type "tuple",data:=Data.seq #[vs "_law_tree" 587,vs "_law_cell" 588,vs "_law_names_here" 589,vs "_law_at" 590,vs "_law_strange" 591,vs "_law_way" 592,vs "_law_more" 593] }
noncomputable def o359(P:Params):Obj:={ cls:=.type "tuple",data:=Data.seq #[] }
noncomputable def o360(P:Params):Obj:={ cls:=.none,data:=Data.func (fdM 47 0 .none .none) }
noncomputable def o361(P:Params):Obj:={ cls:=.type "code",data:=Data.fields #[vs "_law_here_changed" 584,vs "_law_here_changed" 585,vs "/claim/cut.py" 586,.int 246 0,.int 3 0,i0,i0,.int 3 0,.ref 293,.bool true,.int 181 0,.ref 294,.none,.ref 295,.ref 296,.ref 297,.int 594 0,.int 246 0,vs "/claim/cut.py" 595] }
noncomputable def o362(P:Params):Obj:={ cls:=.type "function",data:=Data.func (fdM 47 3 (vs "law_uf010027_06" 451) (.ref 298)) }
noncomputable def o363(P:Params):Obj:={ cls:=.type "tuple",data:=Data.seq #[] }
noncomputable def o364(P:Params):Obj:={ cls:=.none,data:=Data.fields #[] }
noncomputable def o365(P:Params):Obj:={ cls:=.type "tuple",data:=Data.seq #[vs "_law_tree" 600,vs "_law_cell" 601,vs "_law_names_here" 602,vs "_law_at" 603] }
noncomputable def o366(P:Params):Obj:={ cls:=.type "tuple",data:=Data.seq #[] }
noncomputable def o367(P:Params):Obj:={ cls:=.none,data:=Data.func (fdM 48 0 .none .none) }
noncomputable def o368(P:Params):Obj:={ cls:=.type "code",data:=Data.fields #[vs "_law_changed" 597,vs "_law_changed" 598,vs "/claim/cut.py" 599,.int 272 0,.int 3 0,i0,i0,.int 3 0,.ref 300,.bool true,.int 181 0,.ref 301,.none,.ref 302,.ref 303,.ref 304,.int 604 0,.int 272 0,vs "/claim/cut.py" 605] }
noncomputable def o369(P:Params):Obj:={ cls:=.type "function",data:=Data.func (fdM 48 3 (vs "law_uf010027_06" 451) (.ref 305)) }
noncomputable def o370(P:Params):Obj:={ cls:=.type "tuple",data:=Data.seq #[] }
noncomputable def o371(P:Params):Obj:={ cls:=.none,data:=Data.fields #[] }
noncomputable def o372(P:Params):Obj:={ cls:=.type "tuple",data:=Data.seq #[vs "_law_thing" 610,vs "_law_error" 611] }
noncomputable def o373(P:Params):Obj:={ cls:=.type "tuple",data:=Data.seq #[] }
noncomputable def o374(P:Params):Obj:={ cls:=.none,data:=Data.func (fdM 49 0 .none .none) }
noncomputable def o375(P:Params):Obj:={ cls:=.type "code",data:=Data.fields #[vs "_law_no_row" 607,vs "_law_no_row" 608,vs "/claim/cut.py" 609,.int 278 0,.int 1 0,i0,i0,.int 3 0,.ref 307,.bool true,.int 181 0,.ref 308,.none,.ref 309,.ref 310,.ref 311,.int 612 0,.int 278 0,vs "/claim/cut.py" 613] }
noncomputable def o376(P:Params):Obj:={ cls:=.type "function",data:=Data.func (fdM 49 3 (vs "law_uf010027_06" 451) (.ref 312)) }
noncomputable def o377(P:Params):Obj:={ cls:=.type "tuple",data:=Data.seq #[] }
noncomputable def o378(P:Params):Obj:={ cls:=.none,data:=Data.fields #[] }
noncomputable def o379(P:Params):Obj:={ cls:=.type "tuple",data:=Data.seq #[vs "_law_script" 618,vs "_law_first" 619,vs "_law_names_here" 620,vs "_law_row_here" 621,vs "_law_tree" 622,vs "_law_other" 623,vs "_law_due" 624,vs "_law_handed" 625,vs "_law_turn" 626,vs "_law_found" 627] }
noncomputable def o380(P:Params):Obj:={ cls:=.type "tuple",data:=Data.seq #[] }
noncomputable def o381(P:Params):Obj:={ cls:=.none,data:=Data.func (fdM 50 0 .none .none) }
noncomputable def o382(P:Params):Obj:={ cls:=.type "code",data:=Data.fields #[vs "law" 615,vs "law" 616,vs "/claim/cut.py" 617,.int 284 0,.int 1 0,i0,i0,.int 3 0,.ref 314,.bool true,.int 181 0,.ref 315,.none,.ref 316,.ref 317,.ref 318,.int 628 0,.int 284 0,vs "/claim/cut.py" 629] }
noncomputable def o383(P:Params):Obj:={ cls:=.type "function",data:=Data.func (fdM 50 3 (vs "law_uf010027_06" 451) (.ref 319)) }
noncomputable def lf(P:Params)(x:Params→Obj):BT:=.node (x P) .nil .nil
noncomputable def tr47(P:Params):BT:=.node (boot_o_0 P) (.node (boot_o_1 P) (.node (boot_o_3 P) (lf P boot_o_7) (lf P o43)) (.node (boot_o_5 P) (lf P boot_o_9) (lf P o45))) (.node (boot_o_2 P) (.node (boot_o_4 P) (lf P boot_o_8) (lf P o44)) (.node (boot_o_6 P) (lf P boot_o_10) (lf P o46)))
noncomputable def tr63(P:Params):BT:=.node (boot_o_0 P) (.node (boot_o_1 P) (.node (o49 P) (.node (boot_o_7 P) (lf P o51) (lf P o59)) (.node (o43 P) (lf P o55) (lf P o63))) (.node (boot_o_5 P) (.node (boot_o_9 P) (lf P o53) (lf P o61)) (.node (o45 P) (lf P o57) .nil))) (.node (boot_o_2 P) (.node (boot_o_4 P) (.node (boot_o_8 P) (lf P o52) (lf P o60)) (.node (o50 P) (lf P o56) .nil)) (.node (boot_o_6 P) (.node (boot_o_10 P) (lf P o54) (lf P o62)) (.node (o46 P) (lf P o58) .nil)))
noncomputable def tr78(P:Params):BT:=.node (boot_o_0 P) (.node (boot_o_1 P) (.node (o64 P) (.node (boot_o_7 P) (.node (o51 P) (lf P o70) .nil) (.node (o59 P) (lf P o78) .nil)) (.node (o43 P) (.node (o55 P) (lf P o74) .nil) (lf P o63))) (.node (boot_o_5 P) (.node (boot_o_9 P) (.node (o53 P) (lf P o72) .nil) (lf P o61)) (.node (o45 P) (.node (o57 P) (lf P o76) .nil) (lf P o68)))) (.node (boot_o_2 P) (.node (boot_o_4 P) (.node (boot_o_8 P) (.node (o52 P) (lf P o71) .nil) (lf P o66)) (.node (o65 P) (.node (o56 P) (lf P o75) .nil) (lf P o67))) (.node (boot_o_6 P) (.node (boot_o_10 P) (.node (o54 P) (lf P o73) .nil) (lf P o62)) (.node (o46 P) (.node (o58 P) (lf P o77) .nil) (lf P o69))))
noncomputable def tr93(P:Params):BT:=.node (boot_o_0 P) (.node (boot_o_1 P) (.node (o79 P) (.node (boot_o_7 P) (.node (o51 P) (lf P o70) (lf P o89)) (.node (o59 P) (lf P o78) .nil)) (.node (o43 P) (.node (o55 P) (lf P o74) (lf P o93)) (.node (o63 P) (lf P o85) .nil))) (.node (boot_o_5 P) (.node (boot_o_9 P) (.node (o53 P) (lf P o72) (lf P o91)) (.node (o61 P) (lf P o83) .nil)) (.node (o45 P) (.node (o57 P) (lf P o76) .nil) (.node (o68 P) (lf P o87) .nil)))) (.node (boot_o_2 P) (.node (boot_o_4 P) (.node (boot_o_8 P) (.node (o52 P) (lf P o71) (lf P o90)) (.node (o81 P) (lf P o82) .nil)) (.node (o80 P) (.node (o56 P) (lf P o75) .nil) (.node (o67 P) (lf P o86) .nil))) (.node (boot_o_6 P) (.node (boot_o_10 P) (.node (o54 P) (lf P o73) (lf P o92)) (.node (o62 P) (lf P o84) .nil)) (.node (o46 P) (.node (o58 P) (lf P o77) .nil) (.node (o69 P) (lf P o88) .nil))))
noncomputable def znf(P:Params):BT:=.node (boot_o_0 P) (.node (boot_o_1 P) (.node (o94 P) (.node (boot_o_7 P) (.node (o51 P) (.node (o70 P) (lf P o108) .nil) (lf P o89)) (.node (o59 P) (lf P o78) (lf P o100))) (.node (o43 P) (.node (o55 P) (lf P o74) (lf P o93)) (.node (o63 P) (lf P o85) (lf P o104)))) (.node (boot_o_5 P) (.node (boot_o_9 P) (.node (o53 P) (lf P o72) (lf P o91)) (.node (o61 P) (lf P o83) (lf P o102))) (.node (o45 P) (.node (o57 P) (lf P o76) (lf P o98)) (.node (o68 P) (lf P o87) (lf P o106))))) (.node (boot_o_2 P) (.node (boot_o_4 P) (.node (boot_o_8 P) (.node (o52 P) (lf P o71) (lf P o90)) (.node (o96 P) (lf P o82) (lf P o101))) (.node (o95 P) (.node (o56 P) (lf P o75) (lf P o97)) (.node (o67 P) (lf P o86) (lf P o105)))) (.node (boot_o_6 P) (.node (boot_o_10 P) (.node (o54 P) (lf P o73) (lf P o92)) (.node (o62 P) (lf P o84) (lf P o103))) (.node (o46 P) (.node (o58 P) (lf P o77) (lf P o99)) (.node (o69 P) (lf P o88) (lf P o107)))))
noncomputable def zne(P:Params):BT:=.node (boot_o_0 P) (.node (boot_o_1 P) (.node (o109 P) (.node (boot_o_7 P) (.node (o51 P) (.node (o70 P) (lf P o108) .nil) (lf P o89)) (.node (o59 P) (.node (o78 P) (lf P o119) .nil) (lf P o100))) (.node (o43 P) (.node (o55 P) (.node (o74 P) (lf P o115) .nil) (lf P o93)) (.node (o63 P) (.node (o85 P) (lf P o123) .nil) (lf P o104)))) (.node (boot_o_5 P) (.node (boot_o_9 P) (.node (o53 P) (.node (o72 P) (lf P o113) .nil) (lf P o91)) (.node (o61 P) (.node (o83 P) (lf P o121) .nil) (lf P o102))) (.node (o45 P) (.node (o57 P) (.node (o76 P) (lf P o117) .nil) (lf P o98)) (.node (o68 P) (lf P o87) (lf P o106))))) (.node (boot_o_2 P) (.node (boot_o_4 P) (.node (boot_o_8 P) (.node (o52 P) (.node (o71 P) (lf P o112) .nil) (lf P o90)) (.node (o111 P) (.node (o82 P) (lf P o120) .nil) (lf P o101))) (.node (o110 P) (.node (o56 P) (.node (o75 P) (lf P o116) .nil) (lf P o97)) (.node (o67 P) (lf P o86) (lf P o105)))) (.node (boot_o_6 P) (.node (boot_o_10 P) (.node (o54 P) (.node (o73 P) (lf P o114) .nil) (lf P o92)) (.node (o62 P) (.node (o84 P) (lf P o122) .nil) (lf P o103))) (.node (o46 P) (.node (o58 P) (.node (o77 P) (lf P o118) .nil) (lf P o99)) (.node (o69 P) (lf P o88) (lf P o107)))))
noncomputable def znd(P:Params):BT:=.node (boot_o_0 P) (.node (boot_o_1 P) (.node (o124 P) (.node (boot_o_7 P) (.node (o51 P) (.node (o70 P) (lf P o108) .nil) (.node (o89 P) (lf P o130) .nil)) (.node (o59 P) (.node (o78 P) (lf P o119) .nil) (.node (o100 P) (lf P o138) .nil))) (.node (o43 P) (.node (o55 P) (.node (o74 P) (lf P o115) .nil) (.node (o93 P) (lf P o134) .nil)) (.node (o63 P) (.node (o85 P) (lf P o123) .nil) (lf P o104)))) (.node (boot_o_5 P) (.node (boot_o_9 P) (.node (o53 P) (.node (o72 P) (lf P o113) .nil) (.node (o91 P) (lf P o132) .nil)) (.node (o61 P) (.node (o83 P) (lf P o121) .nil) (lf P o102))) (.node (o45 P) (.node (o57 P) (.node (o76 P) (lf P o117) .nil) (.node (o98 P) (lf P o136) .nil)) (.node (o68 P) (.node (o87 P) (lf P o128) .nil) (lf P o106))))) (.node (boot_o_2 P) (.node (boot_o_4 P) (.node (boot_o_8 P) (.node (o52 P) (.node (o71 P) (lf P o112) .nil) (.node (o90 P) (lf P o131) .nil)) (.node (o126 P) (.node (o82 P) (lf P o120) .nil) (lf P o101))) (.node (o125 P) (.node (o56 P) (.node (o75 P) (lf P o116) .nil) (.node (o97 P) (lf P o135) .nil)) (.node (o67 P) (.node (o86 P) (lf P o127) .nil) (lf P o105)))) (.node (boot_o_6 P) (.node (boot_o_10 P) (.node (o54 P) (.node (o73 P) (lf P o114) .nil) (.node (o92 P) (lf P o133) .nil)) (.node (o62 P) (.node (o84 P) (lf P o122) .nil) (lf P o103))) (.node (o46 P) (.node (o58 P) (.node (o77 P) (lf P o118) .nil) (.node (o99 P) (lf P o137) .nil)) (.node (o69 P) (.node (o88 P) (lf P o129) .nil) (lf P o107)))))
noncomputable def znc(P:Params):BT:=.node (boot_o_0 P) (.node (boot_o_1 P) (.node (o139 P) (.node (boot_o_7 P) (.node (o51 P) (.node (o70 P) (lf P o108) (lf P o149)) (.node (o89 P) (lf P o130) .nil)) (.node (o59 P) (.node (o78 P) (lf P o119) .nil) (.node (o100 P) (lf P o138) .nil))) (.node (o43 P) (.node (o55 P) (.node (o74 P) (lf P o115) (lf P o153)) (.node (o93 P) (lf P o134) .nil)) (.node (o63 P) (.node (o85 P) (lf P o123) .nil) (.node (o104 P) (lf P o145) .nil)))) (.node (boot_o_5 P) (.node (boot_o_9 P) (.node (o53 P) (.node (o72 P) (lf P o113) (lf P o151)) (.node (o91 P) (lf P o132) .nil)) (.node (o61 P) (.node (o83 P) (lf P o121) .nil) (.node (o102 P) (lf P o143) .nil))) (.node (o45 P) (.node (o57 P) (.node (o76 P) (lf P o117) .nil) (.node (o98 P) (lf P o136) .nil)) (.node (o68 P) (.node (o87 P) (lf P o128) .nil) (.node (o106 P) (lf P o147) .nil))))) (.node (boot_o_2 P) (.node (boot_o_4 P) (.node (boot_o_8 P) (.node (o52 P) (.node (o71 P) (lf P o112) (lf P o150)) (.node (o90 P) (lf P o131) .nil)) (.node (o141 P) (.node (o82 P) (lf P o120) .nil) (.node (o101 P) (lf P o142) .nil))) (.node (o140 P) (.node (o56 P) (.node (o75 P) (lf P o116) .nil) (.node (o97 P) (lf P o135) .nil)) (.node (o67 P) (.node (o86 P) (lf P o127) .nil) (.node (o105 P) (lf P o146) .nil)))) (.node (boot_o_6 P) (.node (boot_o_10 P) (.node (o54 P) (.node (o73 P) (lf P o114) (lf P o152)) (.node (o92 P) (lf P o133) .nil)) (.node (o62 P) (.node (o84 P) (lf P o122) .nil) (.node (o103 P) (lf P o144) .nil))) (.node (o46 P) (.node (o58 P) (.node (o77 P) (lf P o118) .nil) (.node (o99 P) (lf P o137) .nil)) (.node (o69 P) (.node (o88 P) (lf P o129) .nil) (.node (o107 P) (lf P o148) .nil)))))
noncomputable def znb(P:Params):BT:=.node (boot_o_0 P) (.node (boot_o_1 P) (.node (o154 P) (.node (boot_o_7 P) (.node (o51 P) (.node (o70 P) (.node (o108 P) (lf P o184) .nil) (lf P o149)) (.node (o89 P) (lf P o130) (lf P o168))) (.node (o59 P) (.node (o78 P) (.node (o119 P) (lf P o192) .nil) (lf P o160)) (.node (o100 P) (lf P o138) (lf P o176)))) (.node (o43 P) (.node (o55 P) (.node (o74 P) (.node (o115 P) (lf P o188) .nil) (lf P o153)) (.node (o93 P) (lf P o134) (lf P o172))) (.node (o63 P) (.node (o85 P) (lf P o123) (lf P o164)) (.node (o104 P) (lf P o145) (lf P o180))))) (.node (boot_o_5 P) (.node (boot_o_9 P) (.node (o53 P) (.node (o72 P) (.node (o113 P) (lf P o186) .nil) (lf P o151)) (.node (o91 P) (lf P o132) (lf P o170))) (.node (o61 P) (.node (o83 P) (.node (o121 P) (lf P o194) .nil) (lf P o162)) (.node (o102 P) (lf P o143) (lf P o178)))) (.node (o45 P) (.node (o57 P) (.node (o76 P) (.node (o117 P) (lf P o190) .nil) (lf P o158)) (.node (o98 P) (lf P o136) (lf P o174))) (.node (o68 P) (.node (o87 P) (lf P o128) (lf P o166)) (.node (o106 P) (lf P o147) (lf P o182)))))) (.node (boot_o_2 P) (.node (boot_o_4 P) (.node (boot_o_8 P) (.node (o52 P) (.node (o71 P) (.node (o112 P) (lf P o185) .nil) (lf P o150)) (.node (o90 P) (lf P o131) (lf P o169))) (.node (o156 P) (.node (o82 P) (.node (o120 P) (lf P o193) .nil) (lf P o161)) (.node (o101 P) (lf P o142) (lf P o177)))) (.node (o155 P) (.node (o56 P) (.node (o75 P) (.node (o116 P) (lf P o189) .nil) (lf P o157)) (.node (o97 P) (lf P o135) (lf P o173))) (.node (o67 P) (.node (o86 P) (lf P o127) (lf P o165)) (.node (o105 P) (lf P o146) (lf P o181))))) (.node (boot_o_6 P) (.node (boot_o_10 P) (.node (o54 P) (.node (o73 P) (.node (o114 P) (lf P o187) .nil) (lf P o152)) (.node (o92 P) (lf P o133) (lf P o171))) (.node (o62 P) (.node (o84 P) (.node (o122 P) (lf P o195) .nil) (lf P o163)) (.node (o103 P) (lf P o144) (lf P o179)))) (.node (o46 P) (.node (o58 P) (.node (o77 P) (.node (o118 P) (lf P o191) .nil) (lf P o159)) (.node (o99 P) (lf P o137) (lf P o175))) (.node (o69 P) (.node (o88 P) (lf P o129) (lf P o167)) (.node (o107 P) (lf P o148) (lf P o183))))))
noncomputable def zna(P:Params):BT:=.node (boot_o_0 P) (.node (boot_o_1 P) (.node (o196 P) (.node (boot_o_7 P) (.node (o51 P) (.node (o70 P) (.node (o108 P) (lf P o184) (lf P o250)) (.node (o149 P) (lf P o218) .nil)) (.node (o89 P) (.node (o130 P) (lf P o202) (lf P o266)) (.node (o168 P) (lf P o234) .nil))) (.node (o59 P) (.node (o78 P) (.node (o119 P) (lf P o192) (lf P o258)) (.node (o160 P) (lf P o226) .nil)) (.node (o100 P) (.node (o138 P) (lf P o210) .nil) (.node (o176 P) (lf P o242) .nil)))) (.node (o43 P) (.node (o55 P) (.node (o74 P) (.node (o115 P) (lf P o188) (lf P o254)) (.node (o153 P) (lf P o222) .nil)) (.node (o93 P) (.node (o134 P) (lf P o206) (lf P o270)) (.node (o172 P) (lf P o238) .nil))) (.node (o63 P) (.node (o85 P) (.node (o123 P) (lf P o198) (lf P o262)) (.node (o164 P) (lf P o230) .nil)) (.node (o104 P) (.node (o145 P) (lf P o214) .nil) (.node (o180 P) (lf P o246) .nil))))) (.node (boot_o_5 P) (.node (boot_o_9 P) (.node (o53 P) (.node (o72 P) (.node (o113 P) (lf P o186) (lf P o252)) (.node (o151 P) (lf P o220) .nil)) (.node (o91 P) (.node (o132 P) (lf P o204) (lf P o268)) (.node (o170 P) (lf P o236) .nil))) (.node (o61 P) (.node (o83 P) (.node (o121 P) (lf P o194) (lf P o260)) (.node (o162 P) (lf P o228) .nil)) (.node (o102 P) (.node (o143 P) (lf P o212) .nil) (.node (o178 P) (lf P o244) .nil)))) (.node (o45 P) (.node (o57 P) (.node (o76 P) (.node (o117 P) (lf P o190) (lf P o256)) (.node (o158 P) (lf P o224) .nil)) (.node (o98 P) (.node (o136 P) (lf P o208) (lf P o272)) (.node (o174 P) (lf P o240) .nil))) (.node (o68 P) (.node (o87 P) (.node (o128 P) (lf P o200) (lf P o264)) (.node (o166 P) (lf P o232) .nil)) (.node (o106 P) (.node (o147 P) (lf P o216) .nil) (.node (o182 P) (lf P o248) .nil)))))) (.node (boot_o_2 P) (.node (boot_o_4 P) (.node (boot_o_8 P) (.node (o52 P) (.node (o71 P) (.node (o112 P) (lf P o185) (lf P o251)) (.node (o150 P) (lf P o219) .nil)) (.node (o90 P) (.node (o131 P) (lf P o203) (lf P o267)) (.node (o169 P) (lf P o235) .nil))) (.node (o156 P) (.node (o82 P) (.node (o120 P) (lf P o193) (lf P o259)) (.node (o161 P) (lf P o227) .nil)) (.node (o101 P) (.node (o142 P) (lf P o211) .nil) (.node (o177 P) (lf P o243) .nil)))) (.node (o197 P) (.node (o56 P) (.node (o75 P) (.node (o116 P) (lf P o189) (lf P o255)) (.node (o157 P) (lf P o223) .nil)) (.node (o97 P) (.node (o135 P) (lf P o207) (lf P o271)) (.node (o173 P) (lf P o239) .nil))) (.node (o67 P) (.node (o86 P) (.node (o127 P) (lf P o199) (lf P o263)) (.node (o165 P) (lf P o231) .nil)) (.node (o105 P) (.node (o146 P) (lf P o215) .nil) (.node (o181 P) (lf P o247) .nil))))) (.node (boot_o_6 P) (.node (boot_o_10 P) (.node (o54 P) (.node (o73 P) (.node (o114 P) (lf P o187) (lf P o253)) (.node (o152 P) (lf P o221) .nil)) (.node (o92 P) (.node (o133 P) (lf P o205) (lf P o269)) (.node (o171 P) (lf P o237) .nil))) (.node (o62 P) (.node (o84 P) (.node (o122 P) (lf P o195) (lf P o261)) (.node (o163 P) (lf P o229) .nil)) (.node (o103 P) (.node (o144 P) (lf P o213) .nil) (.node (o179 P) (lf P o245) .nil)))) (.node (o46 P) (.node (o58 P) (.node (o77 P) (.node (o118 P) (lf P o191) (lf P o257)) (.node (o159 P) (lf P o225) .nil)) (.node (o99 P) (.node (o137 P) (lf P o209) (lf P o273)) (.node (o175 P) (lf P o241) .nil))) (.node (o69 P) (.node (o88 P) (.node (o129 P) (lf P o201) (lf P o265)) (.node (o167 P) (lf P o233) .nil)) (.node (o107 P) (.node (o148 P) (lf P o217) .nil) (.node (o183 P) (lf P o249) .nil))))))
noncomputable def zm9(P:Params):BT:=.node (boot_o_0 P) (.node (boot_o_1 P) (.node (o274 P) (.node (boot_o_7 P) (.node (o51 P) (.node (o70 P) (.node (o108 P) (.node (o184 P) (lf P o316) .nil) (lf P o250)) (.node (o149 P) (.node (o218 P) (lf P o348) .nil) (lf P o284))) (.node (o89 P) (.node (o130 P) (.node (o202 P) (lf P o332) .nil) (lf P o266)) (.node (o168 P) (lf P o234) (lf P o300)))) (.node (o59 P) (.node (o78 P) (.node (o119 P) (.node (o192 P) (lf P o324) .nil) (lf P o258)) (.node (o160 P) (lf P o226) (lf P o292))) (.node (o100 P) (.node (o138 P) (.node (o210 P) (lf P o340) .nil) (lf P o276)) (.node (o176 P) (lf P o242) (lf P o308))))) (.node (o43 P) (.node (o55 P) (.node (o74 P) (.node (o115 P) (.node (o188 P) (lf P o320) .nil) (lf P o254)) (.node (o153 P) (.node (o222 P) (lf P o352) .nil) (lf P o288))) (.node (o93 P) (.node (o134 P) (.node (o206 P) (lf P o336) .nil) (lf P o270)) (.node (o172 P) (lf P o238) (lf P o304)))) (.node (o63 P) (.node (o85 P) (.node (o123 P) (.node (o198 P) (lf P o328) .nil) (lf P o262)) (.node (o164 P) (lf P o230) (lf P o296))) (.node (o104 P) (.node (o145 P) (.node (o214 P) (lf P o344) .nil) (lf P o280)) (.node (o180 P) (lf P o246) (lf P o312)))))) (.node (boot_o_5 P) (.node (boot_o_9 P) (.node (o53 P) (.node (o72 P) (.node (o113 P) (.node (o186 P) (lf P o318) .nil) (lf P o252)) (.node (o151 P) (.node (o220 P) (lf P o350) .nil) (lf P o286))) (.node (o91 P) (.node (o132 P) (.node (o204 P) (lf P o334) .nil) (lf P o268)) (.node (o170 P) (lf P o236) (lf P o302)))) (.node (o61 P) (.node (o83 P) (.node (o121 P) (.node (o194 P) (lf P o326) .nil) (lf P o260)) (.node (o162 P) (lf P o228) (lf P o294))) (.node (o102 P) (.node (o143 P) (.node (o212 P) (lf P o342) .nil) (lf P o278)) (.node (o178 P) (lf P o244) (lf P o310))))) (.node (o45 P) (.node (o57 P) (.node (o76 P) (.node (o117 P) (.node (o190 P) (lf P o322) .nil) (lf P o256)) (.node (o158 P) (lf P o224) (lf P o290))) (.node (o98 P) (.node (o136 P) (.node (o208 P) (lf P o338) .nil) (lf P o272)) (.node (o174 P) (lf P o240) (lf P o306)))) (.node (o68 P) (.node (o87 P) (.node (o128 P) (.node (o200 P) (lf P o330) .nil) (lf P o264)) (.node (o166 P) (lf P o232) (lf P o298))) (.node (o106 P) (.node (o147 P) (.node (o216 P) (lf P o346) .nil) (lf P o282)) (.node (o182 P) (lf P o248) (lf P o314))))))) (.node (boot_o_2 P) (.node (boot_o_4 P) (.node (boot_o_8 P) (.node (o52 P) (.node (o71 P) (.node (o112 P) (.node (o185 P) (lf P o317) .nil) (lf P o251)) (.node (o150 P) (.node (o219 P) (lf P o349) .nil) (lf P o285))) (.node (o90 P) (.node (o131 P) (.node (o203 P) (lf P o333) .nil) (lf P o267)) (.node (o169 P) (lf P o235) (lf P o301)))) (.node (o156 P) (.node (o82 P) (.node (o120 P) (.node (o193 P) (lf P o325) .nil) (lf P o259)) (.node (o161 P) (lf P o227) (lf P o293))) (.node (o101 P) (.node (o142 P) (.node (o211 P) (lf P o341) .nil) (lf P o277)) (.node (o177 P) (lf P o243) (lf P o309))))) (.node (o275 P) (.node (o56 P) (.node (o75 P) (.node (o116 P) (.node (o189 P) (lf P o321) .nil) (lf P o255)) (.node (o157 P) (.node (o223 P) (lf P o353) .nil) (lf P o289))) (.node (o97 P) (.node (o135 P) (.node (o207 P) (lf P o337) .nil) (lf P o271)) (.node (o173 P) (lf P o239) (lf P o305)))) (.node (o67 P) (.node (o86 P) (.node (o127 P) (.node (o199 P) (lf P o329) .nil) (lf P o263)) (.node (o165 P) (lf P o231) (lf P o297))) (.node (o105 P) (.node (o146 P) (.node (o215 P) (lf P o345) .nil) (lf P o281)) (.node (o181 P) (lf P o247) (lf P o313)))))) (.node (boot_o_6 P) (.node (boot_o_10 P) (.node (o54 P) (.node (o73 P) (.node (o114 P) (.node (o187 P) (lf P o319) .nil) (lf P o253)) (.node (o152 P) (.node (o221 P) (lf P o351) .nil) (lf P o287))) (.node (o92 P) (.node (o133 P) (.node (o205 P) (lf P o335) .nil) (lf P o269)) (.node (o171 P) (lf P o237) (lf P o303)))) (.node (o62 P) (.node (o84 P) (.node (o122 P) (.node (o195 P) (lf P o327) .nil) (lf P o261)) (.node (o163 P) (lf P o229) (lf P o295))) (.node (o103 P) (.node (o144 P) (.node (o213 P) (lf P o343) .nil) (lf P o279)) (.node (o179 P) (lf P o245) (lf P o311))))) (.node (o46 P) (.node (o58 P) (.node (o77 P) (.node (o118 P) (.node (o191 P) (lf P o323) .nil) (lf P o257)) (.node (o159 P) (lf P o225) (lf P o291))) (.node (o99 P) (.node (o137 P) (.node (o209 P) (lf P o339) .nil) (lf P o273)) (.node (o175 P) (lf P o241) (lf P o307)))) (.node (o69 P) (.node (o88 P) (.node (o129 P) (.node (o201 P) (lf P o331) .nil) (lf P o265)) (.node (o167 P) (lf P o233) (lf P o299))) (.node (o107 P) (.node (o148 P) (.node (o217 P) (lf P o347) .nil) (lf P o283)) (.node (o183 P) (lf P o249) (lf P o315)))))))
noncomputable def zm8(P:Params):BT:=.node (boot_o_0 P) (.node (boot_o_1 P) (.node (o354 P) (.node (boot_o_7 P) (.node (o51 P) (.node (o70 P) (.node (o108 P) (.node (o184 P) (lf P o316) .nil) (.node (o250 P) (lf P o382) .nil)) (.node (o149 P) (.node (o218 P) (lf P o348) .nil) (lf P o284))) (.node (o89 P) (.node (o130 P) (.node (o202 P) (lf P o332) .nil) (lf P o266)) (.node (o168 P) (.node (o234 P) (lf P o366) .nil) (lf P o300)))) (.node (o59 P) (.node (o78 P) (.node (o119 P) (.node (o192 P) (lf P o324) .nil) (lf P o258)) (.node (o160 P) (.node (o226 P) (lf P o358) .nil) (lf P o292))) (.node (o100 P) (.node (o138 P) (.node (o210 P) (lf P o340) .nil) (lf P o276)) (.node (o176 P) (.node (o242 P) (lf P o374) .nil) (lf P o308))))) (.node (o43 P) (.node (o55 P) (.node (o74 P) (.node (o115 P) (.node (o188 P) (lf P o320) .nil) (lf P o254)) (.node (o153 P) (.node (o222 P) (lf P o352) .nil) (lf P o288))) (.node (o93 P) (.node (o134 P) (.node (o206 P) (lf P o336) .nil) (lf P o270)) (.node (o172 P) (.node (o238 P) (lf P o370) .nil) (lf P o304)))) (.node (o63 P) (.node (o85 P) (.node (o123 P) (.node (o198 P) (lf P o328) .nil) (lf P o262)) (.node (o164 P) (.node (o230 P) (lf P o362) .nil) (lf P o296))) (.node (o104 P) (.node (o145 P) (.node (o214 P) (lf P o344) .nil) (lf P o280)) (.node (o180 P) (.node (o246 P) (lf P o378) .nil) (lf P o312)))))) (.node (boot_o_5 P) (.node (boot_o_9 P) (.node (o53 P) (.node (o72 P) (.node (o113 P) (.node (o186 P) (lf P o318) .nil) (lf P o252)) (.node (o151 P) (.node (o220 P) (lf P o350) .nil) (lf P o286))) (.node (o91 P) (.node (o132 P) (.node (o204 P) (lf P o334) .nil) (lf P o268)) (.node (o170 P) (.node (o236 P) (lf P o368) .nil) (lf P o302)))) (.node (o61 P) (.node (o83 P) (.node (o121 P) (.node (o194 P) (lf P o326) .nil) (lf P o260)) (.node (o162 P) (.node (o228 P) (lf P o360) .nil) (lf P o294))) (.node (o102 P) (.node (o143 P) (.node (o212 P) (lf P o342) .nil) (lf P o278)) (.node (o178 P) (.node (o244 P) (lf P o376) .nil) (lf P o310))))) (.node (o45 P) (.node (o57 P) (.node (o76 P) (.node (o117 P) (.node (o190 P) (lf P o322) .nil) (lf P o256)) (.node (o158 P) (.node (o224 P) (lf P o356) .nil) (lf P o290))) (.node (o98 P) (.node (o136 P) (.node (o208 P) (lf P o338) .nil) (lf P o272)) (.node (o174 P) (.node (o240 P) (lf P o372) .nil) (lf P o306)))) (.node (o68 P) (.node (o87 P) (.node (o128 P) (.node (o200 P) (lf P o330) .nil) (lf P o264)) (.node (o166 P) (.node (o232 P) (lf P o364) .nil) (lf P o298))) (.node (o106 P) (.node (o147 P) (.node (o216 P) (lf P o346) .nil) (lf P o282)) (.node (o182 P) (.node (o248 P) (lf P o380) .nil) (lf P o314))))))) (.node (boot_o_2 P) (.node (boot_o_4 P) (.node (boot_o_8 P) (.node (o52 P) (.node (o71 P) (.node (o112 P) (.node (o185 P) (lf P o317) .nil) (.node (o251 P) (lf P o383) .nil)) (.node (o150 P) (.node (o219 P) (lf P o349) .nil) (lf P o285))) (.node (o90 P) (.node (o131 P) (.node (o203 P) (lf P o333) .nil) (lf P o267)) (.node (o169 P) (.node (o235 P) (lf P o367) .nil) (lf P o301)))) (.node (o156 P) (.node (o82 P) (.node (o120 P) (.node (o193 P) (lf P o325) .nil) (lf P o259)) (.node (o161 P) (.node (o227 P) (lf P o359) .nil) (lf P o293))) (.node (o101 P) (.node (o142 P) (.node (o211 P) (lf P o341) .nil) (lf P o277)) (.node (o177 P) (.node (o243 P) (lf P o375) .nil) (lf P o309))))) (.node (o355 P) (.node (o56 P) (.node (o75 P) (.node (o116 P) (.node (o189 P) (lf P o321) .nil) (lf P o255)) (.node (o157 P) (.node (o223 P) (lf P o353) .nil) (lf P o289))) (.node (o97 P) (.node (o135 P) (.node (o207 P) (lf P o337) .nil) (lf P o271)) (.node (o173 P) (.node (o239 P) (lf P o371) .nil) (lf P o305)))) (.node (o67 P) (.node (o86 P) (.node (o127 P) (.node (o199 P) (lf P o329) .nil) (lf P o263)) (.node (o165 P) (.node (o231 P) (lf P o363) .nil) (lf P o297))) (.node (o105 P) (.node (o146 P) (.node (o215 P) (lf P o345) .nil) (lf P o281)) (.node (o181 P) (.node (o247 P) (lf P o379) .nil) (lf P o313)))))) (.node (boot_o_6 P) (.node (boot_o_10 P) (.node (o54 P) (.node (o73 P) (.node (o114 P) (.node (o187 P) (lf P o319) .nil) (lf P o253)) (.node (o152 P) (.node (o221 P) (lf P o351) .nil) (lf P o287))) (.node (o92 P) (.node (o133 P) (.node (o205 P) (lf P o335) .nil) (lf P o269)) (.node (o171 P) (.node (o237 P) (lf P o369) .nil) (lf P o303)))) (.node (o62 P) (.node (o84 P) (.node (o122 P) (.node (o195 P) (lf P o327) .nil) (lf P o261)) (.node (o163 P) (.node (o229 P) (lf P o361) .nil) (lf P o295))) (.node (o103 P) (.node (o144 P) (.node (o213 P) (lf P o343) .nil) (lf P o279)) (.node (o179 P) (.node (o245 P) (lf P o377) .nil) (lf P o311))))) (.node (o46 P) (.node (o58 P) (.node (o77 P) (.node (o118 P) (.node (o191 P) (lf P o323) .nil) (lf P o257)) (.node (o159 P) (.node (o225 P) (lf P o357) .nil) (lf P o291))) (.node (o99 P) (.node (o137 P) (.node (o209 P) (lf P o339) .nil) (lf P o273)) (.node (o175 P) (.node (o241 P) (lf P o373) .nil) (lf P o307)))) (.node (o69 P) (.node (o88 P) (.node (o129 P) (.node (o201 P) (lf P o331) .nil) (lf P o265)) (.node (o167 P) (.node (o233 P) (lf P o365) .nil) (lf P o299))) (.node (o107 P) (.node (o148 P) (.node (o217 P) (lf P o347) .nil) (lf P o283)) (.node (o183 P) (.node (o249 P) (lf P o381) .nil) (lf P o315)))))))
noncomputable def hp46(P:Params):Heap:={ objs:={ toList:=[boot_o_0 P,boot_o_1 P,boot_o_2 P,boot_o_3 P,boot_o_4 P,boot_o_5 P,boot_o_6 P,boot_o_7 P,boot_o_8 P,boot_o_9 P,boot_o_10 P,o43 P,o44 P,o45 P,o46 P] } }
noncomputable def zaN(P:Params):Heap:={ objs:={ toList:=[boot_o_0 P,boot_o_1 P,boot_o_2 P,o354 P,boot_o_4 P,boot_o_5 P,boot_o_6 P,boot_o_7 P,boot_o_8 P,boot_o_9 P,boot_o_10 P,o43 P,o355 P,o45 P,o46 P,o51 P,o52 P,o53 P,o54 P,o55 P,o56 P,o57 P,o58 P,o59 P,o156 P,o61 P,o62 P,o63 P,o67 P,o68 P,o69 P,o70 P,o71 P,o72 P,o73 P,o74 P,o75 P,o76 P,o77 P,o78 P,o82 P,o83 P,o84 P,o85 P,o86 P,o87 P,o88 P,o89 P,o90 P,o91 P,o92 P,o93 P,o97 P,o98 P,o99 P,o100 P,o101 P,o102 P,o103 P,o104 P,o105 P,o106 P,o107 P,o108 P,o112 P,o113 P,o114 P,o115 P,o116 P,o117 P,o118 P,o119 P,o120 P,o121 P,o122 P,o123 P,o127 P,o128 P,o129 P,o130 P,o131 P,o132 P,o133 P,o134 P,o135 P,o136 P,o137 P,o138 P,o142 P,o143 P,o144 P,o145 P,o146 P,o147 P,o148 P,o149 P,o150 P,o151 P,o152 P,o153 P,o157 P,o158 P,o159 P,o160 P,o161 P,o162 P,o163 P,o164 P,o165 P,o166 P,o167 P,o168 P,o169 P,o170 P,o171 P,o172 P,o173 P,o174 P,o175 P,o176 P,o177 P,o178 P,o179 P,o180 P,o181 P,o182 P,o183 P,o184 P,o185 P,o186 P,o187 P,o188 P,o189 P,o190 P,o191 P,o192 P,o193 P,o194 P,o195 P,o198 P,o199 P,o200 P,o201 P,o202 P,o203 P,o204 P,o205 P,o206 P,o207 P,o208 P,o209 P,o210 P,o211 P,o212 P,o213 P,o214 P,o215 P,o216 P,o217 P,o218 P,o219 P,o220 P,o221 P,o222 P,o223 P,o224 P,o225 P,o226 P,o227 P,o228 P,o229 P,o230 P,o231 P,o232 P,o233 P,o234 P,o235 P,o236 P,o237 P,o238 P,o239 P,o240 P,o241 P,o242 P,o243 P,o244 P,o245 P,o246 P,o247 P,o248 P,o249 P,o250 P,o251 P,o252 P,o253 P,o254 P,o255 P,o256 P,o257 P,o258 P,o259 P,o260 P,o261 P,o262 P,o263 P,o264 P,o265 P,o266 P,o267 P,o268 P,o269 P,o270 P,o271 P,o272 P,o273 P,o276 P,o277 P,o278 P,o279 P,o280 P,o281 P,o282 P,o283 P,o284 P,o285 P,o286 P,o287 P,o288 P,o289 P,o290 P,o291 P,o292 P,o293 P,o294 P,o295 P,o296 P,o297 P,o298 P,o299 P,o300 P,o301 P,o302 P,o303 P,o304 P,o305 P,o306 P,o307 P,o308 P,o309 P,o310 P,o311 P,o312 P,o313 P,o314 P,o315 P,o316 P,o317 P,o318 P,o319 P,o320 P,o321 P,o322 P,o323 P,o324 P,o325 P,o326 P,o327 P,o328 P,o329 P,o330 P,o331 P,o332 P,o333 P,o334 P,o335 P,o336 P,o337 P,o338 P,o339 P,o340 P,o341 P,o342 P,o343 P,o344 P,o345 P,o346 P,o347 P,o348 P,o349 P,o350 P,o351 P,o352 P,o353 P,o356 P,o357 P,o358 P,o359 P,o360 P,o361 P,o362 P,o363 P,o364 P,o365 P,o366 P,o367 P,o368 P,o369 P,o370 P,o371 P,o372 P,o373 P,o374 P,o375 P,o376 P,o377 P,o378 P,o379 P,o380 P,o381 P,o382 P,o383 P] } }
noncomputable def zgH(P:Params):Frag:=[(2,boot_o_2 P),(3,o354 P),(15,o51 P),(22,o58 P),(23,o59 P),(24,o156 P),(25,o61 P),(28,o67 P),(35,o74 P),(36,o75 P),(37,o76 P),(40,o82 P),(47,o89 P),(48,o90 P),(49,o91 P),(52,o97 P),(59,o104 P),(60,o105 P),(61,o106 P),(64,o112 P),(71,o119 P),(72,o120 P),(73,o121 P),(76,o127 P),(83,o134 P),(84,o135 P),(85,o136 P),(88,o142 P),(95,o149 P),(96,o150 P),(97,o151 P),(100,o157 P),(107,o164 P),(108,o165 P),(109,o166 P),(112,o169 P),(113,o170 P),(115,o172 P),(116,o173 P),(118,o175 P),(119,o176 P),(120,o177 P),(123,o180 P),(124,o181 P),(125,o182 P),(127,o184 P),(128,o185 P),(130,o187 P),(131,o188 P),(132,o189 P),(134,o191 P),(135,o192 P),(137,o194 P),(138,o195 P),(139,o198 P),(141,o200 P),(142,o201 P),(144,o203 P),(145,o204 P),(146,o205 P),(149,o208 P),(150,o209 P),(151,o210 P),(154,o213 P),(155,o214 P),(156,o215 P),(159,o218 P),(160,o219 P),(161,o220 P),(163,o222 P),(164,o223 P),(166,o225 P),(167,o226 P),(168,o227 P),(170,o229 P),(171,o230 P),(173,o232 P),(174,o233 P),(175,o234 P),(177,o236 P),(178,o237 P),(180,o239 P),(181,o240 P),(182,o241 P),(184,o243 P),(185,o244 P),(187,o246 P),(188,o247 P),(189,o248 P),(191,o250 P),(192,o251 P),(194,o253 P),(195,o254 P),(196,o255 P),(198,o257 P),(199,o258 P),(201,o260 P),(202,o261 P),(203,o262 P),(205,o264 P),(206,o265 P),(208,o267 P),(209,o268 P),(210,o269 P),(213,o272 P),(214,o273 P),(215,o276 P),(217,o278 P),(218,o279 P),(220,o281 P),(221,o282 P),(222,o283 P),(224,o285 P),(225,o286 P),(227,o288 P),(228,o289 P),(229,o290 P),(231,o292 P),(232,o293 P),(234,o295 P),(235,o296 P),(236,o297 P),(239,o300 P),(240,o301 P),(241,o302 P),(243,o304 P),(244,o305 P),(246,o307 P),(247,o308 P),(248,o309 P),(250,o311 P),(251,o312 P),(253,o314 P),(254,o315 P),(255,o316 P),(257,o318 P),(258,o319 P),(260,o321 P),(261,o322 P),(262,o323 P),(265,o326 P),(266,o327 P),(267,o328 P),(269,o330 P),(270,o331 P),(272,o333 P),(273,o334 P),(274,o335 P),(276,o337 P),(277,o338 P),(279,o340 P),(280,o341 P),(281,o342 P),(284,o345 P),(285,o346 P),(286,o347 P),(288,o349 P),(289,o350 P),(291,o352 P),(292,o353 P),(293,o356 P),(295,o358 P),(296,o359 P),(298,o361 P),(299,o362 P),(300,o363 P),(302,o365 P),(303,o366 P),(305,o368 P),(306,o369 P),(307,o370 P),(309,o372 P),(310,o373 P),(312,o375 P),(313,o376 P),(314,o377 P),(316,o379 P),(317,o380 P),(319,o382 P),(320,o383 P)]
noncomputable def hAs:List Addr:=[2,3,15,22,23,24,25,28,35,36,37,40,47,48,49,52,59,60,61,64,71,72,73,76,83,84,85,88,95,96,97,100,107,108,109,112,113,115,116,118,119,120,123,124,125,127,128,130,131,132,134,135,137,138,139,141,142,144,145,146,149,150,151,154,155,156,159,160,161,163,164,166,167,168,170,171,173,174,175,177,178,180,181,182,184,185,187,188,189,191,192,194,195,196,198,199,201,202,203,205,206,208,209,210,213,214,215,217,218,220,221,222,224,225,227,228,229,231,232,234,235,236,239,240,241,243,244,246,247,248,250,251,253,254,255,257,258,260,261,262,265,266,267,269,270,272,273,274,276,277,279,280,281,284,285,286,288,289,291,292,293,295,296,298,299,300,302,303,305,306,307,309,310,312,313,314,316,317,319,320]
theorem h_as(P:Params):hAs=(zgH P).map (·.1):=by kernel_rfl
noncomputable def hHook:Hook:=kHook zgH hAs h_as
noncomputable def zaZ:Program:={ PG with main:={ PG.main with body:=[sA 1,sA 2,sA 3,sA 4,sA 5,sA 6,sA 7,sA 8,sA 10,sA 11,sA 12,sA 13,sA 14,sA 15,sA 16,sA 17,sA 18,sA 19,sA 21,sA 22,sA 23,sA 24,sA 25,sA 27,sA 28,sA 29,sA 30,sA 31,sA 33,sA 34,sA 35,sA 36,sA 37,sA 38,sA 39,sA 40,sA 41,sA 42,sA 43,sA 44,sA 45,sA 46,sA 47,sA 48,sA 49,sA 50] } }
noncomputable def hEnv:Env:={ scope:=PG.main.scope,locals:=mainNs,globals:=mainNs,cells:=[],code:=.ref 13,frame:=some 14 }
noncomputable def hC:Code:=.body (behindTheImports PG) hEnv
noncomputable abbrev P00:Pos:=⟨0,0,0,0⟩
theorem pGo(w:World):(fun os:OsState=>topGo treeTable PG w 11 (some (.ref 6)) 12 ⟨boot_heap w.params,#[],boot_drawn,boot_toks,os⟩ (topStub PG))=fun os=>some (⟨hp46 w.params,#[],{},187,os⟩,⟨denote treeTable hC,hC,P00,[topFrame P00]⟩):=by kernel_rfl
theorem pSeg(w:World):(fun os:OsState=>segRun treeTable PG w 11 (some (.ref 6)) 1 1 ⟨hp46 w.params,#[],{},187,os⟩ (blockOf (behindTheImports PG) hEnv hC P00 [topFrame P00]))=fun os=>some (.next,SharedT.abs ⟨tr47 w.params,15,{},#[],{},187,os⟩,hC,P00):=by kernel_rfl
theorem pc0(w:World):(fun os:OsState=>segRunT treeTable PG w 11 (some (.ref 6)) 1 196 ⟨tr47 w.params,15,{},#[],{},187,os⟩ (piecesOf [sA 0,sA 1] hEnv hC ⟨0,0,0,0⟩ [topFrame P00]))=fun os=>some (.next,⟨tr63 w.params,28,{},#[],{},207,os⟩,hC,⟨2,0,3,8⟩):=by kernel_rfl
theorem pc1(w:World):(fun os:OsState=>segRunT treeTable PG w 11 (some (.ref 6)) 1 214 ⟨tr63 w.params,28,{},#[],{},207,os⟩ (piecesOf [sA 2] hEnv hC ⟨2,0,3,8⟩ [topFrame P00]))=fun os=>some (.next,⟨tr78 w.params,40,{},#[],{},223,os⟩,hC,⟨4,0,5,8⟩):=by kernel_rfl
theorem pc2(w:World):(fun os:OsState=>segRunT treeTable PG w 11 (some (.ref 6)) 1 214 ⟨tr78 w.params,40,{},#[],{},223,os⟩ (piecesOf [sA 3] hEnv hC ⟨4,0,5,8⟩ [topFrame P00]))=fun os=>some (.next,⟨tr93 w.params,52,{},#[],{},239,os⟩,hC,⟨6,0,7,8⟩):=by kernel_rfl
theorem pc3(w:World):(fun os:OsState=>segRunT treeTable PG w 11 (some (.ref 6)) 1 214 ⟨tr93 w.params,52,{},#[],{},239,os⟩ (piecesOf [sA 4] hEnv hC ⟨6,0,7,8⟩ [topFrame P00]))=fun os=>some (.next,⟨znf w.params,64,{},#[],{},255,os⟩,hC,⟨8,0,9,8⟩):=by kernel_rfl
theorem pc4(w:World):(fun os:OsState=>segRunT treeTable PG w 11 (some (.ref 6)) 1 214 ⟨znf w.params,64,{},#[],{},255,os⟩ (piecesOf [sA 5] hEnv hC ⟨8,0,9,8⟩ [topFrame P00]))=fun os=>some (.next,⟨zne w.params,76,{},#[],{},271,os⟩,hC,⟨10,0,11,8⟩):=by kernel_rfl
theorem pc5(w:World):(fun os:OsState=>segRunT treeTable PG w 11 (some (.ref 6)) 1 214 ⟨zne w.params,76,{},#[],{},271,os⟩ (piecesOf [sA 6] hEnv hC ⟨10,0,11,8⟩ [topFrame P00]))=fun os=>some (.next,⟨znd w.params,88,{},#[],{},287,os⟩,hC,⟨12,0,13,8⟩):=by kernel_rfl
theorem pc6(w:World):(fun os:OsState=>segRunT treeTable PG w 11 (some (.ref 6)) 1 214 ⟨znd w.params,88,{},#[],{},287,os⟩ (piecesOf [sA 7] hEnv hC ⟨12,0,13,8⟩ [topFrame P00]))=fun os=>some (.next,⟨znc w.params,100,{},#[],{},303,os⟩,hC,⟨14,0,15,8⟩):=by kernel_rfl
theorem pc7(w:World):(fun os:OsState=>segRunT treeTable PG w 11 (some (.ref 6)) 1 379 ⟨znc w.params,100,{},#[],{},303,os⟩ (piecesOf [sA 8,sA 9,sA 10,sA 11,sA 12,sA 13,sA 14,sA 15,sA 16,sA 17] hEnv hC ⟨14,0,15,8⟩ [topFrame P00]))=fun os=>some (.next,⟨znb w.params,139,{},#[],{},361,os⟩,hC,⟨41,0,42,38⟩):=by kernel_rfl
theorem pc8(w:World):(fun os:OsState=>segRunT treeTable PG w 11 (some (.ref 6)) 1 398 ⟨znb w.params,139,{},#[],{},361,os⟩ (piecesOf [sA 18,sA 19,sA 20,sA 21,sA 22,sA 23,sA 24,sA 25,sA 26,sA 27,sA 28,sA 29,sA 30,sA 31,sA 32,sA 33,sA 34] hEnv hC ⟨41,0,42,38⟩ [topFrame P00]))=fun os=>some (.next,⟨zna w.params,215,{},#[],{},467,os⟩,hC,⟨108,0,123,111⟩):=by kernel_rfl
theorem pc9(w:World):(fun os:OsState=>segRunT treeTable PG w 11 (some (.ref 6)) 1 376 ⟨zna w.params,215,{},#[],{},467,os⟩ (piecesOf [sA 35,sA 36,sA 37,sA 38,sA 39,sA 40,sA 41,sA 42,sA 43,sA 44,sA 45,sA 46] hEnv hC ⟨108,0,123,111⟩ [topFrame P00]))=fun os=>some (.next,⟨zm9 w.params,293,{},#[],{},584,os⟩,hC,⟨240,0,245,36⟩):=by kernel_rfl
theorem pc10(w:World):(fun os:OsState=>segRunT treeTable PG w 11 (some (.ref 6)) 1 136 ⟨zm9 w.params,293,{},#[],{},584,os⟩ (piecesOf [sA 47,sA 48,sA 49,sA 50] hEnv hC ⟨240,0,245,36⟩ [topFrame P00]))=fun os=>some (.next,⟨zm8 w.params,321,{},#[],{},631,os⟩,hC,⟨284,0,302,133⟩):=by kernel_rfl
theorem zpY:behindTheImports PG=[sA 0,sA 1,sA 2,sA 3,sA 4,sA 5,sA 6,sA 7,sA 8,sA 9,sA 10,sA 11,sA 12,sA 13,sA 14,sA 15,sA 16,sA 17,sA 18,sA 19,sA 20,sA 21,sA 22,sA 23,sA 24,sA 25,sA 26,sA 27,sA 28,sA 29,sA 30,sA 31,sA 32,sA 33,sA 34,sA 35,sA 36,sA 37,sA 38,sA 39,sA 40,sA 41,sA 42,sA 43,sA 44,sA 45,sA 46,sA 47,sA 48,sA 49,sA 50]:=by kernel_rfl
theorem pEnd(w:World)(os:OsState):topRun treeTable PG w 11 (some (.ref 6)) 2 (SharedT.abs ⟨zm8 w.params,321,{},#[],{},631,os⟩) (restOf [] hEnv hC ⟨284,0,302,133⟩ [topFrame P00])=some ⟨zaN w.params,#[],{},631,os⟩:=congrFun (show (fun os:OsState=>topRun treeTable PG w 11 (some (.ref 6)) 2 (SharedT.abs ⟨zm8 w.params,321,{},#[],{},631,os⟩) (restOf [] hEnv hC ⟨284,0,302,133⟩ [topFrame P00]))=fun os=>some ⟨zaN w.params,#[],{},631,os⟩ by kernel_rfl) os
theorem rn10(w:World)(os:OsState):topRun treeTable PG w 11 (some (.ref 6)) (136+2) (SharedT.abs ⟨zm9 w.params,293,{},#[],{},584,os⟩) (restOf [sA 47,sA 48,sA 49,sA 50] hEnv hC ⟨240,0,245,36⟩ [topFrame P00])=some ⟨zaN w.params,#[],{},631,os⟩:=piece_app (l:=[sA 47,sA 48,sA 49,sA 50]) (rest:=[]) (segRun_of (congrFun (pc10 w) os)) (pEnd w os)
theorem rn9(w:World)(os:OsState):topRun treeTable PG w 11 (some (.ref 6)) (376+(136+2)) (SharedT.abs ⟨zna w.params,215,{},#[],{},467,os⟩) (restOf [sA 35,sA 36,sA 37,sA 38,sA 39,sA 40,sA 41,sA 42,sA 43,sA 44,sA 45,sA 46,sA 47,sA 48,sA 49,sA 50] hEnv hC ⟨108,0,123,111⟩ [topFrame P00])=some ⟨zaN w.params,#[],{},631,os⟩:=piece_app (l:=[sA 35,sA 36,sA 37,sA 38,sA 39,sA 40,sA 41,sA 42,sA 43,sA 44,sA 45,sA 46]) (rest:=[sA 47,sA 48,sA 49,sA 50]) (segRun_of (congrFun (pc9 w) os)) (rn10 w os)
theorem rn8(w:World)(os:OsState):topRun treeTable PG w 11 (some (.ref 6)) (398+(376+(136+2))) (SharedT.abs ⟨znb w.params,139,{},#[],{},361,os⟩) (restOf [sA 18,sA 19,sA 20,sA 21,sA 22,sA 23,sA 24,sA 25,sA 26,sA 27,sA 28,sA 29,sA 30,sA 31,sA 32,sA 33,sA 34,sA 35,sA 36,sA 37,sA 38,sA 39,sA 40,sA 41,sA 42,sA 43,sA 44,sA 45,sA 46,sA 47,sA 48,sA 49,sA 50] hEnv hC ⟨41,0,42,38⟩ [topFrame P00])=some ⟨zaN w.params,#[],{},631,os⟩:=piece_app (l:=[sA 18,sA 19,sA 20,sA 21,sA 22,sA 23,sA 24,sA 25,sA 26,sA 27,sA 28,sA 29,sA 30,sA 31,sA 32,sA 33,sA 34]) (rest:=[sA 35,sA 36,sA 37,sA 38,sA 39,sA 40,sA 41,sA 42,sA 43,sA 44,sA 45,sA 46,sA 47,sA 48,sA 49,sA 50]) (segRun_of (congrFun (pc8 w) os)) (rn9 w os)
theorem rn7(w:World)(os:OsState):topRun treeTable PG w 11 (some (.ref 6)) (379+(398+(376+(136+2)))) (SharedT.abs ⟨znc w.params,100,{},#[],{},303,os⟩) (restOf [sA 8,sA 9,sA 10,sA 11,sA 12,sA 13,sA 14,sA 15,sA 16,sA 17,sA 18,sA 19,sA 20,sA 21,sA 22,sA 23,sA 24,sA 25,sA 26,sA 27,sA 28,sA 29,sA 30,sA 31,sA 32,sA 33,sA 34,sA 35,sA 36,sA 37,sA 38,sA 39,sA 40,sA 41,sA 42,sA 43,sA 44,sA 45,sA 46,sA 47,sA 48,sA 49,sA 50] hEnv hC ⟨14,0,15,8⟩ [topFrame P00])=some ⟨zaN w.params,#[],{},631,os⟩:=piece_app (l:=[sA 8,sA 9,sA 10,sA 11,sA 12,sA 13,sA 14,sA 15,sA 16,sA 17]) (rest:=[sA 18,sA 19,sA 20,sA 21,sA 22,sA 23,sA 24,sA 25,sA 26,sA 27,sA 28,sA 29,sA 30,sA 31,sA 32,sA 33,sA 34,sA 35,sA 36,sA 37,sA 38,sA 39,sA 40,sA 41,sA 42,sA 43,sA 44,sA 45,sA 46,sA 47,sA 48,sA 49,sA 50]) (segRun_of (congrFun (pc7 w) os)) (rn8 w os)
theorem rn6(w:World)(os:OsState):topRun treeTable PG w 11 (some (.ref 6)) (214+(379+(398+(376+(136+2))))) (SharedT.abs ⟨znd w.params,88,{},#[],{},287,os⟩) (restOf [sA 7,sA 8,sA 9,sA 10,sA 11,sA 12,sA 13,sA 14,sA 15,sA 16,sA 17,sA 18,sA 19,sA 20,sA 21,sA 22,sA 23,sA 24,sA 25,sA 26,sA 27,sA 28,sA 29,sA 30,sA 31,sA 32,sA 33,sA 34,sA 35,sA 36,sA 37,sA 38,sA 39,sA 40,sA 41,sA 42,sA 43,sA 44,sA 45,sA 46,sA 47,sA 48,sA 49,sA 50] hEnv hC ⟨12,0,13,8⟩ [topFrame P00])=some ⟨zaN w.params,#[],{},631,os⟩:=piece_app (l:=[sA 7]) (rest:=[sA 8,sA 9,sA 10,sA 11,sA 12,sA 13,sA 14,sA 15,sA 16,sA 17,sA 18,sA 19,sA 20,sA 21,sA 22,sA 23,sA 24,sA 25,sA 26,sA 27,sA 28,sA 29,sA 30,sA 31,sA 32,sA 33,sA 34,sA 35,sA 36,sA 37,sA 38,sA 39,sA 40,sA 41,sA 42,sA 43,sA 44,sA 45,sA 46,sA 47,sA 48,sA 49,sA 50]) (segRun_of (congrFun (pc6 w) os)) (rn7 w os)
theorem rn5(w:World)(os:OsState):topRun treeTable PG w 11 (some (.ref 6)) (214+(214+(379+(398+(376+(136+2)))))) (SharedT.abs ⟨zne w.params,76,{},#[],{},271,os⟩) (restOf [sA 6,sA 7,sA 8,sA 9,sA 10,sA 11,sA 12,sA 13,sA 14,sA 15,sA 16,sA 17,sA 18,sA 19,sA 20,sA 21,sA 22,sA 23,sA 24,sA 25,sA 26,sA 27,sA 28,sA 29,sA 30,sA 31,sA 32,sA 33,sA 34,sA 35,sA 36,sA 37,sA 38,sA 39,sA 40,sA 41,sA 42,sA 43,sA 44,sA 45,sA 46,sA 47,sA 48,sA 49,sA 50] hEnv hC ⟨10,0,11,8⟩ [topFrame P00])=some ⟨zaN w.params,#[],{},631,os⟩:=piece_app (l:=[sA 6]) (rest:=[sA 7,sA 8,sA 9,sA 10,sA 11,sA 12,sA 13,sA 14,sA 15,sA 16,sA 17,sA 18,sA 19,sA 20,sA 21,sA 22,sA 23,sA 24,sA 25,sA 26,sA 27,sA 28,sA 29,sA 30,sA 31,sA 32,sA 33,sA 34,sA 35,sA 36,sA 37,sA 38,sA 39,sA 40,sA 41,sA 42,sA 43,sA 44,sA 45,sA 46,sA 47,sA 48,sA 49,sA 50]) (segRun_of (congrFun (pc5 w) os)) (rn6 w os)
theorem rn4(w:World)(os:OsState):topRun treeTable PG w 11 (some (.ref 6)) (214+(214+(214+(379+(398+(376+(136+2))))))) (SharedT.abs ⟨znf w.params,64,{},#[],{},255,os⟩) (restOf [sA 5,sA 6,sA 7,sA 8,sA 9,sA 10,sA 11,sA 12,sA 13,sA 14,sA 15,sA 16,sA 17,sA 18,sA 19,sA 20,sA 21,sA 22,sA 23,sA 24,sA 25,sA 26,sA 27,sA 28,sA 29,sA 30,sA 31,sA 32,sA 33,sA 34,sA 35,sA 36,sA 37,sA 38,sA 39,sA 40,sA 41,sA 42,sA 43,sA 44,sA 45,sA 46,sA 47,sA 48,sA 49,sA 50] hEnv hC ⟨8,0,9,8⟩ [topFrame P00])=some ⟨zaN w.params,#[],{},631,os⟩:=piece_app (l:=[sA 5]) (rest:=[sA 6,sA 7,sA 8,sA 9,sA 10,sA 11,sA 12,sA 13,sA 14,sA 15,sA 16,sA 17,sA 18,sA 19,sA 20,sA 21,sA 22,sA 23,sA 24,sA 25,sA 26,sA 27,sA 28,sA 29,sA 30,sA 31,sA 32,sA 33,sA 34,sA 35,sA 36,sA 37,sA 38,sA 39,sA 40,sA 41,sA 42,sA 43,sA 44,sA 45,sA 46,sA 47,sA 48,sA 49,sA 50]) (segRun_of (congrFun (pc4 w) os)) (rn5 w os)
theorem rn3(w:World)(os:OsState):topRun treeTable PG w 11 (some (.ref 6)) (214+(214+(214+(214+(379+(398+(376+(136+2)))))))) (SharedT.abs ⟨tr93 w.params,52,{},#[],{},239,os⟩) (restOf [sA 4,sA 5,sA 6,sA 7,sA 8,sA 9,sA 10,sA 11,sA 12,sA 13,sA 14,sA 15,sA 16,sA 17,sA 18,sA 19,sA 20,sA 21,sA 22,sA 23,sA 24,sA 25,sA 26,sA 27,sA 28,sA 29,sA 30,sA 31,sA 32,sA 33,sA 34,sA 35,sA 36,sA 37,sA 38,sA 39,sA 40,sA 41,sA 42,sA 43,sA 44,sA 45,sA 46,sA 47,sA 48,sA 49,sA 50] hEnv hC ⟨6,0,7,8⟩ [topFrame P00])=some ⟨zaN w.params,#[],{},631,os⟩:=piece_app (l:=[sA 4]) (rest:=[sA 5,sA 6,sA 7,sA 8,sA 9,sA 10,sA 11,sA 12,sA 13,sA 14,sA 15,sA 16,sA 17,sA 18,sA 19,sA 20,sA 21,sA 22,sA 23,sA 24,sA 25,sA 26,sA 27,sA 28,sA 29,sA 30,sA 31,sA 32,sA 33,sA 34,sA 35,sA 36,sA 37,sA 38,sA 39,sA 40,sA 41,sA 42,sA 43,sA 44,sA 45,sA 46,sA 47,sA 48,sA 49,sA 50]) (segRun_of (congrFun (pc3 w) os)) (rn4 w os)
theorem rn2(w:World)(os:OsState):topRun treeTable PG w 11 (some (.ref 6)) (214+(214+(214+(214+(214+(379+(398+(376+(136+2))))))))) (SharedT.abs ⟨tr78 w.params,40,{},#[],{},223,os⟩) (restOf [sA 3,sA 4,sA 5,sA 6,sA 7,sA 8,sA 9,sA 10,sA 11,sA 12,sA 13,sA 14,sA 15,sA 16,sA 17,sA 18,sA 19,sA 20,sA 21,sA 22,sA 23,sA 24,sA 25,sA 26,sA 27,sA 28,sA 29,sA 30,sA 31,sA 32,sA 33,sA 34,sA 35,sA 36,sA 37,sA 38,sA 39,sA 40,sA 41,sA 42,sA 43,sA 44,sA 45,sA 46,sA 47,sA 48,sA 49,sA 50] hEnv hC ⟨4,0,5,8⟩ [topFrame P00])=some ⟨zaN w.params,#[],{},631,os⟩:=piece_app (l:=[sA 3]) (rest:=[sA 4,sA 5,sA 6,sA 7,sA 8,sA 9,sA 10,sA 11,sA 12,sA 13,sA 14,sA 15,sA 16,sA 17,sA 18,sA 19,sA 20,sA 21,sA 22,sA 23,sA 24,sA 25,sA 26,sA 27,sA 28,sA 29,sA 30,sA 31,sA 32,sA 33,sA 34,sA 35,sA 36,sA 37,sA 38,sA 39,sA 40,sA 41,sA 42,sA 43,sA 44,sA 45,sA 46,sA 47,sA 48,sA 49,sA 50]) (segRun_of (congrFun (pc2 w) os)) (rn3 w os)
theorem rn1(w:World)(os:OsState):topRun treeTable PG w 11 (some (.ref 6)) (214+(214+(214+(214+(214+(214+(379+(398+(376+(136+2)))))))))) (SharedT.abs ⟨tr63 w.params,28,{},#[],{},207,os⟩) (restOf [sA 2,sA 3,sA 4,sA 5,sA 6,sA 7,sA 8,sA 9,sA 10,sA 11,sA 12,sA 13,sA 14,sA 15,sA 16,sA 17,sA 18,sA 19,sA 20,sA 21,sA 22,sA 23,sA 24,sA 25,sA 26,sA 27,sA 28,sA 29,sA 30,sA 31,sA 32,sA 33,sA 34,sA 35,sA 36,sA 37,sA 38,sA 39,sA 40,sA 41,sA 42,sA 43,sA 44,sA 45,sA 46,sA 47,sA 48,sA 49,sA 50] hEnv hC ⟨2,0,3,8⟩ [topFrame P00])=some ⟨zaN w.params,#[],{},631,os⟩:=piece_app (l:=[sA 2]) (rest:=[sA 3,sA 4,sA 5,sA 6,sA 7,sA 8,sA 9,sA 10,sA 11,sA 12,sA 13,sA 14,sA 15,sA 16,sA 17,sA 18,sA 19,sA 20,sA 21,sA 22,sA 23,sA 24,sA 25,sA 26,sA 27,sA 28,sA 29,sA 30,sA 31,sA 32,sA 33,sA 34,sA 35,sA 36,sA 37,sA 38,sA 39,sA 40,sA 41,sA 42,sA 43,sA 44,sA 45,sA 46,sA 47,sA 48,sA 49,sA 50]) (segRun_of (congrFun (pc1 w) os)) (rn2 w os)
theorem rn0(w:World)(os:OsState):topRun treeTable PG w 11 (some (.ref 6)) (196+(214+(214+(214+(214+(214+(214+(379+(398+(376+(136+2))))))))))) (SharedT.abs ⟨tr47 w.params,15,{},#[],{},187,os⟩) (restOf [sA 0,sA 1,sA 2,sA 3,sA 4,sA 5,sA 6,sA 7,sA 8,sA 9,sA 10,sA 11,sA 12,sA 13,sA 14,sA 15,sA 16,sA 17,sA 18,sA 19,sA 20,sA 21,sA 22,sA 23,sA 24,sA 25,sA 26,sA 27,sA 28,sA 29,sA 30,sA 31,sA 32,sA 33,sA 34,sA 35,sA 36,sA 37,sA 38,sA 39,sA 40,sA 41,sA 42,sA 43,sA 44,sA 45,sA 46,sA 47,sA 48,sA 49,sA 50] hEnv hC ⟨0,0,0,0⟩ [topFrame P00])=some ⟨zaN w.params,#[],{},631,os⟩:=piece_app (l:=[sA 0,sA 1]) (rest:=[sA 2,sA 3,sA 4,sA 5,sA 6,sA 7,sA 8,sA 9,sA 10,sA 11,sA 12,sA 13,sA 14,sA 15,sA 16,sA 17,sA 18,sA 19,sA 20,sA 21,sA 22,sA 23,sA 24,sA 25,sA 26,sA 27,sA 28,sA 29,sA 30,sA 31,sA 32,sA 33,sA 34,sA 35,sA 36,sA 37,sA 38,sA 39,sA 40,sA 41,sA 42,sA 43,sA 44,sA 45,sA 46,sA 47,sA 48,sA 49,sA 50]) (segRun_of (congrFun (pc0 w) os)) (rn1 w os)
theorem rnB(w:World)(os:OsState):topRun treeTable PG w 11 (some (.ref 6)) (196+(214+(214+(214+(214+(214+(214+(379+(398+(376+(136+2))))))))))) (SharedT.abs ⟨tr47 w.params,15,{},#[],{},187,os⟩) (restOf (behindTheImports PG) hEnv hC P00 [topFrame P00])=some ⟨zaN w.params,#[],{},631,os⟩:=(congrArg (fun b=>topRun treeTable PG w 11 (some (.ref 6)) (196+(214+(214+(214+(214+(214+(214+(379+(398+(376+(136+2))))))))))) (SharedT.abs ⟨tr47 w.params,15,{},#[],{},187,os⟩) (restOf b hEnv hC P00 [topFrame P00])=some ⟨zaN w.params,#[],{},631,os⟩) zpY).mpr (rn0 w os)
theorem rnT(w:World)(os:OsState):topRun treeTable PG w 11 (some (.ref 6)) (12+(1+(196+(214+(214+(214+(214+(214+(214+(379+(398+(376+(136+2))))))))))))) ⟨boot_heap w.params,#[],boot_drawn,boot_toks,os⟩ (topStub PG)=some ⟨zaN w.params,#[],{},631,os⟩:=go_top (congrFun (pGo w) os) (piece_block (congrFun (pSeg w) os) (rnB w os))
theorem zpS(w:World):((boot_heap w.params).isNs mainGlobals&&(#[]:Array GenState).size==0,(boot_heap w.params).objs.size,(boot_heap w.params).nsMap mainGlobals "__annotations__")=(true,11,(some (Value.ref 6))):=by kernel_rfl
noncomputable abbrev hXt(s:Shared):Bool:=xlAt zaZ [] s&&recOk PySem.Challenge.rw_uf010027_06.row.records s
theorem lk1(w:World):(fun os:OsState=>staticsOk (importedModules PG.main.body) (boot_heap w.params) (zaN w.params)&&namesBound PG (zaN w.params)&&gensDone ⟨zaN w.params,#[],{},631,os⟩&&laidKept (boot_heap w.params) (zaN w.params))=fun _=>true:=by kernel_rfl
theorem ls0(w:World):(fun os:OsState=>seen ((recsOf zaZ).map (·.name)) (ownsOf zaZ) [] { (⟨zaN w.params,#[],{},631,os⟩:Shared) with gens:=#[] })=fun _=>expectedOf zaZ:=by kernel_rfl
theorem ls1(w:World):(fun os:OsState=>Heap.bltView (zaN w.params))=fun _=>bltViewBooted:=by kernel_rfl
theorem ls2(w:World):(fun os:OsState=>(⟨zaN w.params,#[],{},631,os⟩:Shared).heap.keysOk (looseW zaZ []) ((recsOf zaZ).map (·.name)) ((litsOf zaZ).map (·.1)) ((clssOf zaZ (looseW zaZ [])).map (·.name))&&(⟨zaN w.params,#[],{},631,os⟩:Shared).heap.accountedOkI (importedModules PG.main.body)&&(⟨zaN w.params,#[],{},631,os⟩:Shared).heap.isNs mainGlobals&&(⟨zaN w.params,#[],{},631,os⟩:Shared).heap.isNs builtinsNs&&tablesOk zaZ (⟨zaN w.params,#[],{},631,os⟩:Shared).heap&&hXt ⟨zaN w.params,#[],{},631,os⟩&&(if true then (⟨zaN w.params,#[],{},631,os⟩:Shared).gens.size==0 else !leftWithCleanup (⟨zaN w.params,#[],{},631,os⟩:Shared).gens))=fun _=>true:=by kernel_rfl
theorem ls3(w:World):(fun os:OsState=>tabsOk zaZ ⟨zaN w.params,#[],{},631,os⟩)=fun _=>true:=by kernel_rfl
theorem ls4(w:World):(fun os:OsState=>pinSeenD zaZ (drecsOf zaZ) ⟨zaN w.params,#[],{},631,os⟩)=fun _=>pinGoodD (drecsOf zaZ):=by kernel_rfl
theorem ls5(w:World):(fun os:OsState=>plainSeenE zaZ (looseW zaZ []) ⟨zaN w.params,#[],{},631,os⟩)=fun _=>plainGoodE zaZ (looseW zaZ []):=by kernel_rfl
theorem ls6(w:World):(fun os:OsState=>plainSeenD zaZ [] ⟨zaN w.params,#[],{},631,os⟩)=fun _=>plainGoodD zaZ []:=by kernel_rfl
theorem ls7(w:World):(fun os:OsState=>wideSeen zaZ ⟨zaN w.params,#[],{},631,os⟩)=fun _=>wideGood zaZ:=by kernel_rfl
theorem ls8(w:World):(fun os:OsState=>clsSeenW zaZ [] ⟨zaN w.params,#[],{},631,os⟩)=fun _=>clsGoodW zaZ []:=by kernel_rfl
theorem lk2(w:World)(os:OsState):openSeen zaZ [] (importedModules PG.main.body) hXt true ⟨zaN w.params,#[],{},631,os⟩=openGood zaZ []:=
 looks_pair (congrFun (ls0 w) os) (looks_pair (congrFun (ls1 w) os) (looks_pair (congrFun (ls2 w) os) (looks_pair (congrFun (ls3 w) os) (looks_pair (congrFun (ls4 w) os) (looks_pair (congrFun (ls5 w) os) (looks_pair (congrFun (ls6 w) os) (looks_pair (congrFun (ls7 w) os) (congrFun (ls8 w) os))))))))
theorem lk3(w:World):(fun os:OsState=>hHook.obs ⟨zaN w.params,#[],{},631,os⟩)=fun _=>hHook.val w:=by kernel_rfl
theorem zo7:opening PG=plainProg PG.main.scope.names:=by kernel_rfl
theorem zo6(s:Shared):fenceModules? PG s=some s:=by kernel_rfl
noncomputable def hDef:DefRec:=match defOf zaZ PySem.Challenge.rw_uf010027_06.row.name with | some (d,_)=>d | Option.none=>⟨"",⟨[],[],none,[],[],none,[]⟩,[],PG.main.scope,⟨0,0,0,0⟩⟩
theorem hd1:defOf zaZ PySem.Challenge.rw_uf010027_06.row.name=some (hDef,[]):=by kernel_rfl
theorem hd2:PySem.Challenge.rw_uf010027_06.row.prog.theDef PySem.Challenge.rw_uf010027_06.row.name=some (hDef.params,hDef.body,hDef.scope):=by kernel_rfl
theorem hd3:kwWritten? hDef.params.kwonlyargs hDef.params.kw_defaults=some []:=by kernel_rfl
theorem hd4:(chainsOk zaZ&&opensWell PySem.Challenge.rw_uf010027_06.row.prog&&(frees PySem.Challenge.rw_uf010027_06.row.toRowW&&PySem.Challenge.rw_uf010027_06.row.within.isEmpty))=true:=by kernel_rfl
theorem hd5:PySem.Challenge.rw_uf010027_06.row.prog.tablesWhole=true:=by kernel_rfl
theorem hd6:PySem.Challenge.rw_uf010027_06.wellSaid=true:=by kernel_rfl
theorem znR(walk:WalkO zaZ [] (XL zaZ []) hHook.says PySem.Challenge.rw_uf010027_06.row.toRowW hDef [] fun f vs=>PySem.call f vs):PySem.Challenge.rw_uf010027_06.Holds:=
 holds_law hd6 fun said=>holds_open (Xt:=hXt) (LeftO.of_pieces (N:=20000) (g0:=true) (boot_open zo7 (by decide) zo6) zpS rnT (by decide) fun w=>funext fun os=>looks_pair (congrFun (lk1 w) os) (looks_pair (lk2 w os) (congrFun (lk3 w) os))) hHook.of hHook.keeps (fun s e=>xl_of s (Bool.and_eq_true_iff.mp e).left) XL.keeps hd1 hd2 hd3
  (fun s e=>recFacts_of (Bool.and_eq_true_iff.mp e).right) (by kernel_rfl) said hd4 ⟨rfl,rfl,rfl,rfl,rfl,hd5⟩ ⟨[WData.list []],by decide +kernel,by decide +kernel⟩ walk
theorem zpN:GG.fns=znV ALL (recsOf zaZ):=by kernel_rfl
theorem j_c1(P:Params):GG.names.all (zhn (zgH P) GG.fns)=true:=by kernel_rfl
theorem j_c2(P:Params):bis.all (zod (zgH P) GG.names)=true:=by kernel_rfl
theorem j_c3(P:Params):GG.clss.all (zlo (zgH P))=true:=by kernel_rfl
theorem j_c4(P:Params):zjH (zgH P) GG=true:=by kernel_rfl
theorem j_c5(P:Params):zmM (zgH P) ALL (recsOf zaZ)=true:=by kernel_rfl
theorem zpM(P:Params):nsIn (zgH P) mainGlobals "law"=some (some (.ref AA.law)):=by kernel_rfl
theorem law_holds:PySem.Challenge.rw_uf010027_06.Holds:=by
 refine znR ?_
 intro w s₀ s₁ mg mb Gr Y a o pm cd doc dV kV ho hdta hcr hdf hmg hgens args vals as pre lay rd wl hsm
 have KX:=kIn_of Y
 obtain ⟨hG,hX⟩:=zk0 Gr.T KX zpN (j_c1 _) (j_c2 _) (j_c3 _) (j_c4 _) (j_c5 _)
 have ha:=mg_of KX Gr.T.g (zpM _)
 have hmg':mg "law"=some (.ref a):=hmg
 rw [ha] at hmg';cases hmg'
 obtain ⟨mm,⟨o',es,ep,ho',_⟩,_⟩:=(Gr.T.seer (by kernel_rfl)).mods
 exact znL (l:=PySem.Challenge.rw_uf010027_06) rfl (by decide) zmd hG hX ⟨_,ho'⟩ hgens pre wl
end Mine
theorem PySem.Challenge.cw_uf010027_06_holds : PySem.Challenge.rw_uf010027_06.Holds :=
 Mine.law_holds
