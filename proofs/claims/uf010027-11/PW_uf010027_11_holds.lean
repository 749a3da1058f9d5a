import PyProof.Rows.All
import PyProof.FactsAll.tuple_2
import KE.KEqDict
import KE.KRevSl
import KE.KIsAll
import KE.KDictSum
import KE.KDictOf
import KE.KDictMeth
import PyProof.Rows.SetFrom
import PyProof.Rows.DictTallyStr
import PyProof.SetRoads
import PyProof.DictIter
import PyProof.EnumMake
import KE.KItem
import Wide.All
import OpenK.AllK
import PyProof.TableCode
import Wide.FinOn
import PySem.Challenge.RW_uf010027_11
set_option Elab.async false
set_option maxRecDepth 100000
set_option maxHeartbeats 8000000
set_option linter.all false
set_option genSizeOf false
set_option bootstrap.genMatcherCode false
set_option autoImplicit false
/-! The pure evaluator (my own): the row's AST over plain values. -/
namespace Mine
open PySem
inductive PV where
 | none
 | bool (b:Bool)
 | int (i:Int)
 | str (s:Str)
 | tup (xs:List PV)
 | lst (xs:List PV)
 | ref (i:Nat)
 | exc (C:Addr)
 deriving Inhabited
inductive Cel where
 | list (xs:List PV)
 | dict (kvs:List (Str×PV))
 | dead
 deriving Inhabited
noncomputable abbrev zab:=List Cel
inductive Rs (α:Type) where
 | ok (a:α) (σ:zab)
 | err (C:Addr) (σ:zab)
 | stuck
noncomputable def M(α:Type):Type:=zab→Rs α
namespace M
variable {α β:Type}
noncomputable def ret(a:α):M α:=fun σ=>.ok a σ
noncomputable def bind(x:M α)(f:α→M β):M β:=fun σ=>
 match x σ with
 | .ok a σ'=>f a σ'
 | .err C σ'=>.err C σ'
 | .stuck=>.stuck
noncomputable def fail:M α:=fun _=>.stuck
noncomputable def lift(o:Option α):M α:=fun σ=>
 match o with
 | some a=>.ok a σ
 | none=>.stuck
noncomputable def noErr(x:M α):M α:=fun σ=>match x σ with
 | .ok a σ'=>.ok a σ'
 | _=>.stuck
noncomputable def cond(b:Bool)(x y:M α):M α:=match b with | true=>x | false=>y
end M
noncomputable def zar{α β:Type}(f:α→Option β):List α→Option (List β)
 | []=>some []
 | x::xs=>match f x with
  | some y=>match zar f xs with
   | some ys=>some (y::ys)
   | Option.none=>Option.none
  | Option.none=>Option.none
mutual
noncomputable def eqv:PV→PV→Bool
 | .none,.none=>true
 | .bool a,.bool b=>a==b
 | .bool a,.int j=>(if a then 1 else 0)==j
 | .int i,.bool b=>i==(if b then 1 else 0)
 | .int i,.int j=>i==j
 | .str x,.str y=>x==y
 | .lst xs,.lst ys=>eqvs xs ys
 | .tup xs,.tup ys=>eqvs xs ys
 | _,_=>false
noncomputable def eqvs:List PV→List PV→Bool
 | [],[]=>true
 | x::xs,y::ys=>eqv x y&&eqvs xs ys
 | _,_=>false
end
noncomputable def whole(σ:zab):Nat→PV→Option PV
 | 0,_=>Option.none
 | n+1,v=>match v with
  | .none=>some .none
  | .bool b=>some (.bool b)
  | .int i=>some (.int i)
  | .str s=>some (.str s)
  | .tup xs=>(zar (whole σ n) xs).map .tup
  | .lst xs=>(zar (whole σ n) xs).map .lst
  | .ref i=>match σ[i]? with
   | some (.list xs)=>(zar (whole σ n) xs).map .lst
   | _=>Option.none
  | .exc _=>Option.none
noncomputable def zan:Nat:=500
noncomputable def zgc(y x:Str):Bool:=!(Builtin.Str.occurrences x y 0 x.length 1).isEmpty
noncomputable def cget(i:Nat):M Cel:=fun σ=>
 match σ[i]? with
 | some c=>.ok c σ
 | Option.none=>.stuck
noncomputable def cset(i:Nat)(c:Cel):M Unit:=fun σ=>.ok () (σ.set i c)
noncomputable def cnew(c:Cel):M PV:=fun σ=>.ok (.ref σ.length) (σ++[c])
noncomputable def zap:PV→M Bool
 | .bool b=>M.ret b
 | _=>M.fail
noncomputable def onInt{β:Type}(a:PV)(k:Int→M β):M β:=match a with
 | .int i=>k i
 | _=>M.fail
noncomputable def onStr{β:Type}(a:PV)(k:Str→M β):M β:=match a with
 | .str i=>k i
 | _=>M.fail
noncomputable def onTup{β:Type}(a:PV)(k:List PV→M β):M β:=match a with
 | .tup i=>k i
 | _=>M.fail
noncomputable def onLst{β:Type}(a:PV)(k:List PV→M β):M β:=match a with
 | .lst i=>k i
 | _=>M.fail
noncomputable def onRef{β:Type}(a:PV)(k:Nat→M β):M β:=match a with
 | .ref i=>k i
 | _=>M.fail
noncomputable def lget(i:Nat):M (List PV):=(cget i).bind fun c=>match c with
 | .list xs=>M.ret xs
 | _=>M.fail
noncomputable def litems:PV→M (List PV)
 | .lst xs=>M.ret xs
 | .ref i=>lget i
 | _=>M.fail
noncomputable def items:PV→M (List PV)
 | .tup xs=>M.ret xs
 | v=>litems v
noncomputable def dget(i:Nat):M (List (Str×PV)):=(cget i).bind fun c=>match c with
 | .dict kvs=>M.ret kvs
 | _=>M.fail
noncomputable def dput(k:Str)(v:PV)(kvs:List (Str×PV)):List (Str×PV):=
 if kvs.any (fun kv=>kv.1=k) then kvs.map (fun kv=>if kv.1=k then (kv.1,v) else kv) else kvs++[(k,v)]
noncomputable def dat(kvs:List (Str×PV))(k:Str):Option PV:=(kvs.find? fun kv=>kv.1=k).map (·.2)
noncomputable def wholeM(a:PV):M PV:=fun σ=>
 match whole σ zan a with
 | some x=>.ok x σ
 | Option.none=>.stuck
noncomputable def zdH(as:List PV):M (List PV):=fun σ=>
 match zar (whole σ zan) as with
 | some x=>.ok x σ
 | Option.none=>.stuck
noncomputable def eqM(a b:PV):M Bool:=(wholeM a).bind fun x=>(wholeM b).bind fun y=>M.ret (eqv x y)
noncomputable def ziR(x:PV)(ys:List PV):M Bool:=(wholeM x).bind fun x'=>(zdH ys).bind fun ys'=>M.ret (ys'.any fun y=>eqv y x')
structure FnD where
 params:List Str
 scope:Scope
 body:List Stmt
inductive GV where
 | fn (a:Addr)
 | cls (a:Addr)
 | val (v:PV)
structure Md where
 rz:Bool
 lp:Bool
structure Gl where
 names:List (Str×GV)
 fns:List (Addr×FnD)
 sub:List (Addr×Addr)
 clss:List Addr
 mu:List (Nat×Nat)
 fz:List (Nat×Nat)
noncomputable abbrev Loc:=Str→Option PV
noncomputable def Loc.set(ρ:Loc)(x:Str)(v:PV):Loc:=fun y=>if y=x then some v else ρ y
structure Cx where
 G:Gl
 call:Md→Addr→List PV→M PV
 md:Md
noncomputable def zaw(cx:Cx)(p:Pos)(xs:List PV):M PV:=
 M.cond (cx.G.mu.contains (p.line,p.col)) (cnew (.list xs)) (M.ret (.lst xs))
inductive Callee where
 | fn (a:Addr)
 | cls (a:Addr)
 | val (v:PV)
 | bi (x:Str)
noncomputable def zaY(cx:Cx)(sc:Scope)(ρ:Loc)(x:Str):Option Callee:=
 match ρ x with
 | some v=>some (.val v)
 | Option.none=>
  match sc.names.lookup x with
  | some .globalImplicit=>
   match cx.G.names.lookup x with
   | some (.fn a)=>some (.fn a)
   | some (.cls a)=>some (.cls a)
   | some (.val v)=>some (.val v)
   | Option.none=>some (.bi x)
  | _=>Option.none
noncomputable def zbq(i:Int):Bool:=decide (-(2 ^ 62)≤i)&&decide (i≤2 ^ 62)
noncomputable def zc6(s:Str)(n:Nat):Str:=⟨((List.replicate n s.cps.toList).flatten).toArray⟩
noncomputable def zji(xs:List PV)(n:Nat):List PV:=(List.replicate n xs).flatten
noncomputable def addV(cx:Cx)(p:Pos)(a b:PV):M PV:=match a with
 | .int i=>onInt b fun j=>M.ret (.int (i+j))
 | .str x=>onStr b fun y=>M.cond (decide (x.length+y.length≤2 ^ 20)) (M.ret (.str (x++y))) M.fail
 | .tup x=>onTup b fun y=>M.cond (decide (x.length+y.length≤2 ^ 20)) (M.ret (.tup (x++y))) M.fail
 | .lst x=>onLst b fun y=>M.cond (decide (x.length+y.length≤2 ^ 20)) (zaw cx p (x++y)) M.fail
 | _=>M.fail
noncomputable def mulV(cx:Cx)(p:Pos)(a b:PV):M PV:=onInt b fun n=>match a with
 | .int i=>M.cond (zbq i || zbq n) (M.ret (.int (i*n))) M.fail
 | .str x=>M.cond (decide (0≤n)&&decide (n≤1000)&&decide (x.length≤1000)) (M.ret (.str (zc6 x n.toNat))) M.fail
 | .lst x=>M.cond (decide (0≤n)&&decide (n≤1000)&&decide (x.length≤1000)) (zaw cx p (zji x n.toNat)) M.fail
 | _=>M.fail
noncomputable def znR(cx:Cx)(p:Pos)(op:Operator)(a b:PV):M PV:=match op with
 | .Add=>addV cx p a b
 | .Sub=>onInt a fun i=>onInt b fun j=>M.ret (.int (i-j))
 | .Mult=>mulV cx p a b
 | .FloorDiv=>onInt a fun i=>onInt b fun j=>M.cond (decide (0<j)&&decide (j<1073741824)) (M.ret (.int (i.fdiv j))) M.fail
 | .Mod=>onInt a fun i=>onInt b fun j=>M.cond (decide (0<j)) (M.ret (.int (i.fmod j))) M.fail
 | _=>M.fail
noncomputable def zgz:PV→Bool
 | .none=>true
 | _=>false
noncomputable def zgA(p:Bool):PV→Bool
 | .bool q=>p==q
 | _=>false
noncomputable def zjl:PV→Option Bool
 | .none=>some false
 | .bool _=>some false
 | _=>Option.none
noncomputable def zeC(a b:PV):Option Bool:=match a with
 | .none=>some (zgz b)
 | .bool p=>some (zgA p b)
 | _=>zjl b
noncomputable def inOp(x c:PV):M Bool:=match c with
 | .str y=>onStr x fun s=>M.ret (zgc s y)
 | c=>(items c).bind fun xs=>ziR x xs
noncomputable def zpx:PV→Bool
 | .none=>true
 | .bool _=>true
 | .int _=>true
 | .str _=>true
 | _=>false
noncomputable def eqX(a b:PV):M Bool:=eqM a b
noncomputable def zac(op:CmpOp)(a b:PV):M PV:=match op with
 | .Eq=>(eqX a b).bind fun r=>M.ret (.bool r)
 | .NotEq=>(eqX a b).bind fun r=>M.ret (.bool !r)
 | .Lt=>onInt a fun i=>onInt b fun j=>M.ret (.bool (decide (i<j)))
 | .LtE=>onInt a fun i=>onInt b fun j=>M.ret (.bool (decide (i≤j)))
 | .Gt=>onInt a fun i=>onInt b fun j=>M.ret (.bool (decide (j<i)))
 | .GtE=>onInt a fun i=>onInt b fun j=>M.ret (.bool (decide (j≤i)))
 | .Is=>(M.lift (zeC a b)).bind fun r=>M.ret (.bool r)
 | .IsNot=>(M.lift (zeC a b)).bind fun r=>M.ret (.bool !r)
 | .In=>(inOp a b).bind fun r=>M.ret (.bool r)
 | .NotIn=>(inOp a b).bind fun r=>M.ret (.bool !r)
noncomputable def clip(n:Nat)(i:Int):Nat:=(max 0 (min (if i<0 then i+n else i) n)).toNat
noncomputable def slc{α:Type}(lo hi:Option Int)(xs:List α):List α:=
 (xs.drop (lo.elim 0 (clip xs.length))).take (hi.elim xs.length (clip xs.length)-lo.elim 0 (clip xs.length))
noncomputable def atI{α:Type}(xs:List α)(i:Int):Option α:=
 if zbq i then (seqIndex? i xs.length).bind fun k=>xs[k]? else Option.none
noncomputable def zog(o:PV)(i:Int):M PV:=match o with
 | .str s=>(M.lift (atI s.cps.toList i)).bind fun c=>M.ret (.str ⟨#[c]⟩)
 | o=>(items o).bind fun xs=>M.lift (atI xs i)
noncomputable def zaf(o k:PV):M PV:=match k with
 | .int i=>zog o i
 | .str k=>onRef o fun a=>(dget a).bind fun kvs=>M.lift (dat kvs k)
 | _=>M.fail
noncomputable def zlM:PV→Option (Option Int)
 | .none=>some Option.none
 | .int i=>some (some i)
 | _=>Option.none
noncomputable def cutT(xs:List PV)(lo hi:Option Int):M PV:=M.cond (decide (xs.length≤2 ^ 20)) (M.ret (.tup (slc lo hi xs))) M.fail
noncomputable def cut(cx:Cx)(p:Pos)(_down:Bool)(v:PV)(lo hi:Option Int):M PV:=
 match v with
 | .str s=>M.cond (decide (s.length≤2 ^ 20)) (M.ret (.str ⟨(slc lo hi s.cps.toList).toArray⟩)) M.fail
 | .tup xs=>cutT xs lo hi
 | v=>(litems v).bind fun xs=>M.cond (decide (xs.length≤2 ^ 20)) (zaw cx p (slc lo hi xs)) M.fail
inductive Tn where
 | none | bool | int | str | tuple | list | dict
 deriving DecidableEq
inductive Ty where
 | bi (T:Tn)
 | valueError
 | own (C:Addr)
noncomputable def subT(T U:Tn):Bool:=decide (T=U) || (decide (T=.bool)&&decide (U=.int))
noncomputable def isBi(T:Tn):Ty→M Bool
 | .bi U=>M.ret (subT T U)
 | _=>M.fail
noncomputable def zrl(_:Gl)(_:Addr)(_:Ty):M Bool:=M.fail
noncomputable def zbV(G:Gl)(t:Ty)(v:PV):M Bool:=
 match v with
 | .none=>isBi .none t
 | .bool _=>isBi .bool t
 | .int _=>isBi .int t
 | .str _=>isBi .str t
 | .tup _=>isBi .tuple t
 | .lst _=>isBi .list t
 | .ref a=>(cget a).bind fun c=>match c with
  | .list _=>isBi .list t
  | .dict _=>isBi .dict t
  | .dead=>M.fail
 | .exc C=>zrl G C t
noncomputable def tyTab:List (Str×Ty):=[("int",.bi .int),("bool",.bi .bool),("str",.bi .str),("tuple",.bi .tuple),("list",.bi .list),("dict",.bi .dict),("ValueError",.valueError)]
noncomputable def tyOf(cx:Cx)(sc:Scope)(ρ:Loc)(x:Str):Option Ty:=
 match zaY cx sc ρ x with
 | some (.cls a)=>some (.own a)
 | some (.bi y)=>tyTab.lookup y
 | _=>Option.none
noncomputable def zhR{α:Type}(b:α):Option (List α)→Option (List α)
 | some r=>some (b::r)
 | Option.none=>Option.none
noncomputable def zbH:List PV→Option (List Bool)
 | []=>some []
 | .bool b::r=>zhR b (zbH r)
 | _::_=>Option.none
noncomputable def zeo:List PV→Option (List Int)
 | []=>some []
 | .int i::r=>zhR i (zeo r)
 | _::_=>Option.none
noncomputable def zeK(acc:Int):List Int→Bool
 | []=>true
 | x::r=>zbq x&&zbq (acc+x)&&zeK (acc+x) r
noncomputable def zbt:List PV→Option (List Str)
 | []=>some []
 | .str s::r=>zhR s (zbt r)
 | _::_=>Option.none
noncomputable def zoE(a b:Str):Bool:=decide (a.cps.toList≤b.cps.toList)
noncomputable def ze1(x:Str):List Str→List Str
 | []=>[x]
 | y::r=>if zoE x y then x::y::r else y::ze1 x r
noncomputable def zal:List Str→List Str
 | []=>[]
 | x::r=>ze1 x (zal r)
noncomputable def zdc:PV→M (List PV)
 | .lst xs=>M.ret xs
 | .ref i=>(cget i).bind fun c=>match c with
  | .list xs=>M.ret xs
  | .dict kvs=>M.ret (kvs.map fun kv=>.str kv.1)
  | .dead=>M.fail
 | _=>M.fail
noncomputable def zhA(n:Nat):M Int:=M.cond (decide (n≤2 ^ 20)) (M.ret n) M.fail
noncomputable def zpb:PV→M Int
 | .str s=>zhA s.length
 | .tup xs=>zhA xs.length
 | .lst xs=>zhA xs.length
 | .ref i=>(cget i).bind fun c=>match c with
  | .list xs=>zhA xs.length
  | .dict kvs=>zhA kvs.length
  | .dead=>M.fail
 | _=>M.fail
noncomputable def zhI(v:PV):M PV:=onRef v fun i=>(lget i).bind fun xs=>(cset i .dead).bind fun _=>M.ret (.lst xs)
structure Ad where
 vis:List Addr
 hid:List Addr
noncomputable def Ad.nil:Ad:=⟨[],[]⟩
noncomputable def Ad.add(ι:Ad)(a:Addr):Ad:=⟨ι.vis++[a],ι.hid⟩
noncomputable def Ad.hide(ι:Ad)(a:Addr):Ad:=⟨ι.vis,a::ι.hid⟩
noncomputable def zcO(ι:Ad)(σ:zab)(a:Addr):Prop:=∃(i:Nat)(c:Cel),ι.vis[i]?=some a∧σ[i]?=some c∧c≠Cel.dead
noncomputable def Live(ι:Ad)(σ:zab)(a:Addr):Prop:=zcO ι σ a∨a∈ι.hid
theorem zaT{ι:Ad}{σ:zab}{a:Addr}(h:¬ Live ι σ a):¬ zcO ι σ a:=fun q=>h (.inl q)
theorem zlQ{ι:Ad}{σ:zab}{a:Addr}(h:¬ Live ι σ a):a∉ι.hid:=fun q=>h (.inr q)
mutual
inductive Rep (h:Heap) (ι:Ad) (σ:zab):PV→Value→Prop
 | none:Rep h ι σ .none .none
 | bool (b:Bool):Rep h ι σ (.bool b) (.bool b)
 | int (i:Int) (t:Tok):Rep h ι σ (.int i) (.int i t)
 | str (x:Str) (t:Tok):Rep h ι σ (.str x) (.str x t)
 | tup {a:Addr} {vs:Array Value} {n:Nat} {xs:List PV}:h.get? a=some { cls:=.type "tuple",data:=.seq vs n }→¬ Live ι σ a→RepL h ι σ xs vs.toList→Rep h ι σ (.tup xs) (.ref a)
 | lst {a:Addr} {vs:Array Value} {n:Nat} {xs:List PV}:h.get? a=some { cls:=.type "list",data:=.seq vs n }→¬ Live ι σ a→RepL h ι σ xs vs.toList→Rep h ι σ (.lst xs) (.ref a)
 | ref {i:Nat} {a:Addr}:ι.vis[i]?=some a→Rep h ι σ (.ref i) (.ref a)
 | exc {C a:Addr} {o:Obj} {fs:Array Value}:h.get? a=some o→o.cls=.ref C→o.data=.fields fs→o.dict=Option.none→¬ Live ι σ a→Rep h ι σ (.exc C) (.ref a)
inductive RepL (h:Heap) (ι:Ad) (σ:zab):List PV→List Value→Prop
 | nil:RepL h ι σ [] []
 | cons {x:PV} {v:Value} {xs:List PV} {vs:List Value}:Rep h ι σ x v→RepL h ι σ xs vs→RepL h ι σ (x::xs) (v::vs)
end
noncomputable def RepI(h:Heap)(ι:Ad)(σ:zab)(x:Value):PV→Prop
 | .none=>x=.none
 | .bool b=>x=.bool b
 | .int i=>∃ t,x=.int i t
 | .str y=>∃ t,x=.str y t
 | .tup xs=>∃(a:Addr)(vs:Array Value)(n:Nat),x=.ref a∧h.get? a=some { cls:=.type "tuple",data:=.seq vs n }∧¬ Live ι σ a∧RepL h ι σ xs vs.toList
 | .lst xs=>∃(a:Addr)(vs:Array Value)(n:Nat),x=.ref a∧h.get? a=some { cls:=.type "list",data:=.seq vs n }∧¬ Live ι σ a∧RepL h ι σ xs vs.toList
 | .ref i=>∃ a:Addr,x=.ref a∧ι.vis[i]?=some a
 | .exc C=>∃(a:Addr)(o:Obj)(fs:Array Value),x=.ref a∧h.get? a=some o∧o.cls=.ref C∧o.data=.fields fs∧o.dict=Option.none∧¬ Live ι σ a
theorem Rep.inv{h:Heap}{ι:Ad}{σ:zab}{a:PV}{x:Value}(r:Rep h ι σ a x):RepI h ι σ x a:=
 Rep.rec (motive_1:=fun a x _=>RepI h ι σ x a) (motive_2:=fun _ _ _=>True) rfl (fun _=>rfl) (fun _ t=>⟨t,rfl⟩) (fun _ t=>⟨t,rfl⟩) (fun e nl r _=>⟨_,_,_,rfl,e,nl,r⟩) (fun e nl r _=>⟨_,_,_,rfl,e,nl,r⟩)
  (fun e=>⟨_,rfl,e⟩) (fun e c d k nl=>⟨_,_,_,rfl,e,c,d,k,nl⟩) trivial (fun _ _ _ _=>trivial) r
theorem RepL.length{h:Heap}{ι:Ad}{σ:zab}:∀{xs:List PV}{vs:List Value},RepL h ι σ xs vs→xs.length=vs.length
 | _,_,.nil=>rfl
 | _,_,.cons _ r=>by simp [RepL.length r]
theorem RepL.get{h:Heap}{ι:Ad}{σ:zab}:∀{xs:List PV}{vs:List Value}(_:RepL h ι σ xs vs){j:Nat}{x:PV},xs[j]?=some x→∃ v,vs[j]?=some v∧Rep h ι σ x v
 | _,_,.nil,_,_,e=>by simp at e
 | _,_,.cons r _,0,_,e=>by simp at e;subst e;exact ⟨_,rfl,r⟩
 | _,_,.cons _ r,j+1,_,e=>by simp at e ⊢;exact r.get e
theorem RepL.append{h:Heap}{ι:Ad}{σ:zab}:∀{xs:List PV}{vs:List Value}{ys:List PV}{ws:List Value},RepL h ι σ xs vs→RepL h ι σ ys ws→RepL h ι σ (xs++ys) (vs++ws)
 | _,_,_,_,.nil,q=>q
 | _,_,_,_,.cons r p,q=>.cons r (p.append q)
theorem RepL.drop{h:Heap}{ι:Ad}{σ:zab}:∀{xs:List PV}{vs:List Value}(k:Nat),RepL h ι σ xs vs→RepL h ι σ (xs.drop k) (vs.drop k)
 | _,_,0,p=>p
 | _,_,_+1,.nil=>.nil
 | _,_,k+1,.cons _ p=>by simpa using p.drop k
theorem RepL.take{h:Heap}{ι:Ad}{σ:zab}:∀{xs:List PV}{vs:List Value}(k:Nat),RepL h ι σ xs vs→RepL h ι σ (xs.take k) (vs.take k)
 | _,_,0,_=>.nil
 | _,_,_+1,.nil=>.nil
 | _,_,k+1,.cons r p=>by simpa using .cons r (p.take k)
theorem RepL.reverse{h:Heap}{ι:Ad}{σ:zab}:∀{xs:List PV}{vs:List Value},RepL h ι σ xs vs→RepL h ι σ xs.reverse vs.reverse
 | _,_,.nil=>.nil
 | _,_,.cons r p=>by rw [List.reverse_cons,List.reverse_cons];exact p.reverse.append (.cons r .nil)
noncomputable def zp0(prog:Program)(w:World)(h:Heap)(ι:Ad)(σ:zab)(a:Addr)(kvs:List (Str×PV)):Prop:=
 ∃ ys:List (Str×Value),h.DictOf (strKind prog w) a ys∧ys.map (·.1)=kvs.map (·.1)∧RepL h ι σ (kvs.map (·.2)) (ys.map (·.2))
noncomputable def CelOk(prog:Program)(w:World)(h:Heap)(ι:Ad)(σ:zab)(a:Addr):Cel→Prop
 | .list xs=>∃ vs:Array Value,h.PlainList a vs∧RepL h ι σ xs vs.toList
 | .dict kvs=>zp0 prog w h ι σ a kvs
 | .dead=>True
structure StoreOk (prog:Program) (w:World) (hB:Heap) (h:Heap) (ι:Ad) (σ:zab):Prop where
 len:ι.vis.length=σ.length
 nodup:ι.vis.Nodup
 there:∀ a∈ι.vis,∃ o,h.get? a=some o
 hthere:∀ a∈ι.hid,∃ o,h.get? a=some o∧∀ vs,o.data≠.fields vs
 apart:∀ a∈ι.vis,a∉ι.hid
 base:∀ a∈ι.vis,hB.get? a=Option.none
 hbase:∀ a∈ι.hid,hB.get? a=Option.none
 sys:∃ o,hB.get? sysModules=some o
 ok:∀(i:Nat)(a:Addr)(c:Cel),ι.vis[i]?=some a→σ[i]?=some c→CelOk prog w h ι σ a c
structure Evo (D:List Addr) (h:Heap) (ι:Ad) (σ:zab) (h':Heap) (ι':Ad) (σ':zab):Prop where
 pre:∀(i:Nat)(a:Addr),ι.vis[i]?=some a→ι'.vis[i]?=some a
 fresh:∀(i:Nat)(a:Addr),ι'.vis[i]?=some a→ι.vis[i]?=Option.none→h.get? a=Option.none
 dead:∀ i:Nat,σ[i]?=some .dead→σ'[i]?=some .dead
 alive:∀(b:Addr)(o:Obj),h.get? b=some o→∃ o',h'.get? b=some o'
 keep:∀(b:Addr)(o:Obj),h.get? b=some o→¬ zcO ι σ b→b∉D→(∃ sl,h'.get? b=some { o with slots:=sl })∧((∀ es n,o.data≠.dict es n)→h'.get? b=some o)
 hid:∀ a∈ι.hid,a∈ι'.hid
 hfresh:∀ a∈ι'.hid,a∈ι.hid∨h.get? a=Option.none
structure EvoW (D:List Addr) (h:Heap) (ι:Ad) (σ:zab) (h':Heap) (ι':Ad) (σ':zab):Prop where
 pre:∀(i:Nat)(a:Addr),ι.vis[i]?=some a→ι'.vis[i]?=some a
 fresh:∀(i:Nat)(a:Addr),ι'.vis[i]?=some a→ι.vis[i]?=Option.none→h.get? a=Option.none
 dead:∀ i:Nat,σ[i]?=some .dead→σ'[i]?=some .dead
 keep:∀(b:Addr)(o:Obj),h.get? b=some o→¬ zcO ι σ b→b∉D→(∃ sl,h'.get? b=some { o with slots:=sl })∧((∀ es n,o.data≠.dict es n)→h'.get? b=some o)
 hfresh:∀ a∈ι'.hid,a∈ι.hid∨h.get? a=Option.none
theorem Evo.weak{D:List Addr}{h:Heap}{ι:Ad}{σ:zab}{h':Heap}{ι':Ad}{σ':zab}(X:Evo D h ι σ h' ι' σ'):EvoW D h ι σ h' ι' σ':=⟨X.pre,X.fresh,X.dead,X.keep,X.hfresh⟩
theorem EvoW.notLiveV{D:List Addr}{h:Heap}{ι:Ad}{σ:zab}{h':Heap}{ι':Ad}{σ':zab}(X:EvoW D h ι σ h' ι' σ')(hl:ι.vis.length=σ.length){a:Addr}{o:Obj}(ha:h.get? a=some o)
  (hn:¬ zcO ι σ a):¬ zcO ι' σ' a:=by
 rintro ⟨i,c,hi,hc,hd⟩
 cases hq:ι.vis[i]? with
 | none=>have:=X.fresh i a hi hq;rw [ha] at this;cases this
 | some b=>
  have:=X.pre i b hq
  rw [this] at hi;cases hi
  have hlt:i<σ.length:=by rw [← hl];exact (List.getElem?_eq_some_iff.mp hq).1
  cases hs:σ[i]? with
  | none=>rw [List.getElem?_eq_none_iff] at hs;lia
  | some c'=>
   by_cases hcd:c'=.dead
   ·subst hcd
    have:=X.dead i hs
    rw [this] at hc;cases hc;exact hd rfl
   ·exact hn ⟨i,c',hq,hs,hcd⟩
theorem EvoW.notLive{D:List Addr}{h:Heap}{ι:Ad}{σ:zab}{h':Heap}{ι':Ad}{σ':zab}(X:EvoW D h ι σ h' ι' σ')(hl:ι.vis.length=σ.length){a:Addr}{o:Obj}(ha:h.get? a=some o)
  (hn:¬ Live ι σ a):¬ Live ι' σ' a:=by
 rintro (q | q)
 ·exact X.notLiveV hl ha (zaT hn) q
 ·rcases X.hfresh a q with q | q
  ·exact hn (.inr q)
  ·rw [ha] at q;cases q
theorem Evo.notLiveV{D:List Addr}{h:Heap}{ι:Ad}{σ:zab}{h':Heap}{ι':Ad}{σ':zab}(X:Evo D h ι σ h' ι' σ')(hl:ι.vis.length=σ.length){a:Addr}{o:Obj}(ha:h.get? a=some o)
  (hn:¬ zcO ι σ a):¬ zcO ι' σ' a:=X.weak.notLiveV hl ha hn
theorem Evo.notLive{D:List Addr}{h:Heap}{ι:Ad}{σ:zab}{h':Heap}{ι':Ad}{σ':zab}(X:Evo D h ι σ h' ι' σ')(hl:ι.vis.length=σ.length){a:Addr}{o:Obj}(ha:h.get? a=some o)
  (hn:¬ Live ι σ a):¬ Live ι' σ' a:=X.weak.notLive hl ha hn
theorem EvoW.off{D:List Addr}{h:Heap}{ι:Ad}{σ:zab}{h':Heap}{ι':Ad}{σ':zab}(X:EvoW D h ι σ h' ι' σ'){b:Addr}{o:Obj}(ho:h.get? b=some o)(hn:b∉ι.vis∧b∉ι.hid):b∉ι'.vis∧b∉ι'.hid:=by
 refine ⟨fun q=>?_,fun q=>?_⟩
 ·obtain ⟨i,hi⟩:=List.getElem?_of_mem q
  cases q':ι.vis[i]? with
  | none=>have:=X.fresh i b hi q';rw [ho] at this;cases this
  | some a=>have:=X.pre i a q';rw [hi] at this;cases this;exact hn.1 (List.mem_of_getElem? q')
 ·rcases X.hfresh b q with q | q
  ·exact hn.2 q
  ·rw [ho] at q;cases q
theorem Evo.refl(h:Heap)(ι:Ad)(σ:zab):Evo [] h ι σ h ι σ:=
 ⟨fun _ _ e=>e,fun i a e e'=>(by rw [e] at e';cases e'),fun _ e=>e,fun b o e=>⟨o,e⟩,fun b o e _ _=>⟨⟨o.slots,e⟩,fun _=>e⟩,fun _ h=>h,fun _ h=>.inl h⟩
theorem Evo.trans{D E:List Addr}{h₁ h₂ h₃:Heap}{ι₁ ι₂ ι₃:Ad}{σ₁ σ₂ σ₃:zab}(hl:ι₁.vis.length=σ₁.length)(X:Evo D h₁ ι₁ σ₁ h₂ ι₂ σ₂)(Y:Evo E h₂ ι₂ σ₂ h₃ ι₃ σ₃)
  (hE:∀ b∈E,∀ o,h₁.get? b=some o→b∈D):Evo D h₁ ι₁ σ₁ h₃ ι₃ σ₃ where
 pre:=fun i a e=>Y.pre i a (X.pre i a e)
 fresh:=fun i a e e'=>by
  cases hq:ι₂.vis[i]? with
  | none=>
   have h2:=Y.fresh i a e hq
   cases q:h₁.get? a with
   | none=>rfl
   | some o=>obtain ⟨o',ho'⟩:=X.alive a o q;rw [h2] at ho';cases ho'
  | some b=>have:=Y.pre i b hq;rw [this] at e;cases e;exact X.fresh i _ hq e'
 dead:=fun i e=>Y.dead i (X.dead i e)
 alive:=fun b o e=>by obtain ⟨o',e'⟩:=X.alive b o e;exact Y.alive b o' e'
 keep:=fun b o e hn hD=>by
  obtain ⟨⟨sl,e₂⟩,k⟩:=X.keep b o e hn hD
  obtain ⟨⟨sl',e₃⟩,_⟩:=Y.keep b _ e₂ (X.notLiveV hl e hn) (fun hb=>hD (hE b hb o e))
  exact ⟨⟨sl',e₃⟩,fun q=>(Y.keep b _ (k q) (X.notLiveV hl e hn) (fun hb=>hD (hE b hb o e))).2 q⟩
 hid:=fun a ha=>Y.hid a (X.hid a ha)
 hfresh:=fun a ha=>by
  rcases Y.hfresh a ha with q | q
  ·exact X.hfresh a q
  ·right
   cases q':h₁.get? a with
   | none=>rfl
   | some o=>obtain ⟨o',ho'⟩:=X.alive a o q';rw [q] at ho';cases ho'
theorem Evo.wide{D E:List Addr}{h:Heap}{ι:Ad}{σ:zab}{h':Heap}{ι':Ad}{σ':zab}(X:Evo D h ι σ h' ι' σ')(hE:∀ b∈D,b∈E):Evo E h ι σ h' ι' σ':=
 ⟨X.pre,X.fresh,X.dead,X.alive,fun b o e hn hD=>X.keep b o e hn fun q=>hD (hE b q),X.hid,X.hfresh⟩
theorem Evo.unhide{D:List Addr}{h:Heap}{ι:Ad}{σ:zab}{h':Heap}{ι':Ad}{σ':zab}(X:Evo D h ι σ h' ι' σ'):Evo D h ι σ h' ⟨ι'.vis,ι.hid⟩ σ':=
 ⟨X.pre,X.fresh,X.dead,X.alive,X.keep,fun _ h=>h,fun _ h=>.inl h⟩
noncomputable def NoSeq(D:List Addr)(h:Heap):Prop:=∀ b∈D,∀ o,h.get? b=some o→(∀ vs n,o.data≠.seq vs n)∧((∀ vs,o.data≠.fields vs)∨∀ C,o.cls≠.ref C)
theorem NoSeq.nil(h:Heap):NoSeq [] h:=fun _ hb=>nomatch hb
noncomputable def Off(ι:Ad)(D:List Addr)(h:Heap):Prop:=∀ b∈D,b∈ι.hid∨∀ o,h.get? b=some o→(∀ vs n,o.data≠.seq vs n)∧((∀ vs,o.data≠.fields vs)∨∀ C,o.cls≠.ref C)
theorem NoSeq.off{ι:Ad}{D:List Addr}{h:Heap}(n:NoSeq D h):Off ι D h:=fun b hb=>.inr (n b hb)
theorem Off.hid{ι:Ad}{a:Addr}{h:Heap}(n:a∈ι.hid):Off ι [a] h:=fun b hb=>by rw [List.mem_singleton.mp hb];exact .inl n
structure RepTo (h:Heap) (ι:Ad) (σ:zab) (h':Heap) (ι':Ad) (σ':zab):Prop where
 seq:∀{a:Addr}{T:String}{vs:Array Value}{n:Nat},h.get? a=some { cls:=.type T,data:=.seq vs n }→¬ Live ι σ a→h'.get? a=some { cls:=.type T,data:=.seq vs n }∧¬ Live ι' σ' a
 vis:∀{i:Nat}{a:Addr},ι.vis[i]?=some a→ι'.vis[i]?=some a
 exc:∀{a C:Addr}{o:Obj}{fs:Array Value},h.get? a=some o→o.cls=.ref C→o.data=.fields fs→o.dict=Option.none→¬ Live ι σ a→Rep h' ι' σ' (.exc C) (.ref a)
theorem RepL.to{h:Heap}{ι:Ad}{σ:zab}{h':Heap}{ι':Ad}{σ':zab}(X:RepTo h ι σ h' ι' σ'){xs:List PV}{vs:List Value}(r:RepL h ι σ xs vs):RepL h' ι' σ' xs vs:=
 RepL.rec (motive_1:=fun x v _=>Rep h' ι' σ' x v) (motive_2:=fun x v _=>RepL h' ι' σ' x v) .none .bool .int .str (fun e nl _ r=>.tup (X.seq e nl).1 (X.seq e nl).2 r) (fun e nl _ r=>.lst (X.seq e nl).1 (X.seq e nl).2 r)
  (fun e=>.ref (X.vis e)) (fun e c d k nl=>X.exc e c d k nl) .nil (fun _ _ r rs=>.cons r rs) r
theorem RepL.head{h:Heap}{ι:Ad}{σ:zab}{x:PV}{v:Value}{xs:List PV}{vs:List Value}(r:RepL h ι σ (x::xs) (v::vs)):Rep h ι σ x v:=by cases r;assumption
theorem Rep.to{h:Heap}{ι:Ad}{σ:zab}{h':Heap}{ι':Ad}{σ':zab}(X:RepTo h ι σ h' ι' σ'){x:PV}{v:Value}(r:Rep h ι σ x v):Rep h' ι' σ' x v:=(RepL.to X (.cons r .nil)).head
theorem EvoW.to{D:List Addr}{h:Heap}{ι:Ad}{σ:zab}{h':Heap}{ι':Ad}{σ':zab}(hl:ι.vis.length=σ.length)(X:EvoW D h ι σ h' ι' σ')(hD:Off ι D h):RepTo h ι σ h' ι' σ' where
 seq:=fun e nl=>⟨(X.keep _ _ e (zaT nl) (fun hb=>(hD _ hb).elim (zlQ nl) fun q=>(q _ e).1 _ _ rfl)).2 (fun _ _ q=>nomatch q),X.notLive hl e nl⟩
 vis:=fun e=>X.pre _ _ e
 exc:=fun e c d k nl=>by
  obtain ⟨⟨sl,e'⟩,_⟩:=X.keep _ _ e (zaT nl) (fun hb=>(hD _ hb).elim (zlQ nl) fun q=>(q _ e).2.elim (fun q=>q _ d) fun q=>q _ c)
  exact .exc e' c d k (X.notLive hl e nl)
theorem Rep.evoW{D:List Addr}{h:Heap}{ι:Ad}{σ:zab}{h':Heap}{ι':Ad}{σ':zab}(hl:ι.vis.length=σ.length)(X:EvoW D h ι σ h' ι' σ')(hD:Off ι D h){x:PV}{v:Value}(r:Rep h ι σ x v):Rep h' ι' σ' x v:=r.to (X.to hl hD)
theorem RepL.evoW{D:List Addr}{h:Heap}{ι:Ad}{σ:zab}{h':Heap}{ι':Ad}{σ':zab}(hl:ι.vis.length=σ.length)(X:EvoW D h ι σ h' ι' σ')(hD:Off ι D h){xs:List PV}{vs:List Value}(r:RepL h ι σ xs vs):RepL h' ι' σ' xs vs:=r.to (X.to hl hD)
theorem Rep.evo'{D:List Addr}{h:Heap}{ι:Ad}{σ:zab}{h':Heap}{ι':Ad}{σ':zab}(hl:ι.vis.length=σ.length)(X:Evo D h ι σ h' ι' σ')(hD:Off ι D h){x:PV}{v:Value}(r:Rep h ι σ x v):Rep h' ι' σ' x v:=r.evoW hl X.weak hD
theorem RepL.evo'{D:List Addr}{h:Heap}{ι:Ad}{σ:zab}{h':Heap}{ι':Ad}{σ':zab}(hl:ι.vis.length=σ.length)(X:Evo D h ι σ h' ι' σ')(hD:Off ι D h){xs:List PV}{vs:List Value}(r:RepL h ι σ xs vs):RepL h' ι' σ' xs vs:=r.evoW hl X.weak hD
theorem Rep.evo{D:List Addr}{h:Heap}{ι:Ad}{σ:zab}{h':Heap}{ι':Ad}{σ':zab}(hl:ι.vis.length=σ.length)(X:Evo D h ι σ h' ι' σ')(hD:NoSeq D h){x:PV}{v:Value}(r:Rep h ι σ x v):Rep h' ι' σ' x v:=r.evo' hl X hD.off
theorem RepL.evo{D:List Addr}{h:Heap}{ι:Ad}{σ:zab}{h':Heap}{ι':Ad}{σ':zab}(hl:ι.vis.length=σ.length)(X:Evo D h ι σ h' ι' σ')(hD:NoSeq D h){xs:List PV}{vs:List Value}(r:RepL h ι σ xs vs):RepL h' ι' σ' xs vs:=r.evo' hl X hD.off
theorem zbm{ι:Ad}{σ:zab}{l:List Addr}(hs:∀ a∈l,a∈ι.hid){a:Addr}(h:¬ Live ι σ a):¬ Live ⟨ι.vis,l⟩ σ a:=fun q=>h (q.elim .inl fun q=>.inr (hs a q))
theorem zg8{h:Heap}{ι:Ad}{σ:zab}{l:List Addr}(hs:∀ a∈l,a∈ι.hid):RepTo h ι σ h ⟨ι.vis,l⟩ σ:=⟨fun e nl=>⟨e,zbm hs nl⟩,fun e=>e,fun e c d k nl=>.exc e c d k (zbm hs nl)⟩
theorem Rep.unhide{h:Heap}{ι:Ad}{σ:zab}{l:List Addr}(hs:∀ a∈l,a∈ι.hid){x:PV}{v:Value}(r:Rep h ι σ x v):Rep h ⟨ι.vis,l⟩ σ x v:=r.to (zg8 hs)
theorem RepL.unhide{h:Heap}{ι:Ad}{σ:zab}{l:List Addr}(hs:∀ a∈l,a∈ι.hid){xs:List PV}{vs:List Value}(r:RepL h ι σ xs vs):RepL h ⟨ι.vis,l⟩ σ xs vs:=r.to (zg8 hs)
theorem CelOk.unhide{prog:Program}{w:World}{h:Heap}{ι:Ad}{σ:zab}{l:List Addr}(hs:∀ a∈l,a∈ι.hid){a:Addr}{c:Cel}(x:CelOk prog w h ι σ a c):CelOk prog w h ⟨ι.vis,l⟩ σ a c:=by
 cases c with
 | list xs=>obtain ⟨vs,p,r⟩:=x;exact ⟨vs,p,r.unhide hs⟩
 | dict kvs=>obtain ⟨ys,d,k2,r⟩:=x;exact ⟨ys,d,k2,r.unhide hs⟩
 | dead=>trivial
theorem StoreOk.unhide{prog:Program}{w:World}{hB h:Heap}{ι:Ad}{σ:zab}{l:List Addr}(hs:∀ a∈l,a∈ι.hid)(S:StoreOk prog w hB h ι σ):StoreOk prog w hB h ⟨ι.vis,l⟩ σ:=
 ⟨S.len,S.nodup,S.there,fun a ha=>S.hthere a (hs a ha),fun a ha q=>S.apart a ha (hs a q),S.base,fun a ha=>S.hbase a (hs a ha),S.sys,fun i a c e e'=>(S.ok i a c e e').unhide hs⟩
structure Step (prog:Program) (w:World) (hB:Heap) (h:Heap) (ι:Ad) (σ:zab) (h':Heap) (ι':Ad) (σ':zab):Prop where
 evo:Evo [] h ι σ h' ι' σ'
 store:StoreOk prog w hB h' ι' σ'
 stays:hB.StaysIn h'
variable {prog:Program} {w:World} {hB:Heap}
theorem Step.refl{h:Heap}{ι:Ad}{σ:zab}(S:StoreOk prog w hB h ι σ)(B:hB.StaysIn h):Step prog w hB h ι σ h ι σ:=⟨Evo.refl _ _ _,S,B⟩
theorem Step.trans{h₁ h₂ h₃:Heap}{ι₁ ι₂ ι₃:Ad}{σ₁ σ₂ σ₃:zab}(hl:ι₁.vis.length=σ₁.length)(X:Step prog w hB h₁ ι₁ σ₁ h₂ ι₂ σ₂)(Y:Step prog w hB h₂ ι₂ σ₂ h₃ ι₃ σ₃) :
  Step prog w hB h₁ ι₁ σ₁ h₃ ι₃ σ₃:=⟨X.evo.trans hl Y.evo (fun _ hb=>nomatch hb),Y.store,Y.stays⟩
structure FrOk (hB:Heap) (env:Env) (ρ:Loc) (h:Heap) (ι:Ad) (σ:zab):Prop where
 ns:∃ m,h.Ns env.locals m∧∀ x v,ρ x=some v→env.kindOf x=some .local→∃ y,m x=some y∧Rep h ι σ v y
 cel:∀ x v,ρ x=some v→env.kindOf x=some .cell→∃ c y,env.cells.lookup x=some c∧h.IsCell c (some y)∧Rep h ι σ v y
 kinds:∀ x v,ρ x=some v→env.kindOf x=some .local∨env.kindOf x=some .cell
 cells:∀ x,env.kindOf x=some .cell→∃ c y,env.cells.lookup x=some c∧h.IsCell c y
 apart:env.cells.Pairwise fun x y=>x.2≠y.2
 own:∀ b∈env.locals::env.cells.map (·.2),¬ Live ι σ b∧hB.get? b=Option.none
 cellsAt:∀ b∈env.cells.map (·.2),∃ y,h.IsCell b y
 off:∀ b∈env.locals::env.cells.map (·.2),b∉ι.vis∧b∉ι.hid
noncomputable def dyn(env:Env):List Addr:=env.locals::env.cells.map (·.2)
theorem FrOk.noSeq{env:Env}{ρ:Loc}{h:Heap}{ι:Ad}{σ:zab}(F:FrOk hB env ρ h ι σ):NoSeq (dyn env) h:=by
 intro b hb o ho
 rcases List.mem_cons.mp hb with rfl | hb
 ·obtain ⟨m,⟨o',es,ep,ho',hd,_⟩,_⟩:=F.ns
  rw [ho] at ho';cases ho'
  exact ⟨fun vs n q=>(by rw [hd] at q;cases q),.inl fun vs q=>(by rw [hd] at q;cases q)⟩
 ·obtain ⟨y,o',ho',hd⟩:=F.cellsAt b hb
  rw [ho] at ho';cases ho'
  exact ⟨fun vs n q=>(by rw [hd] at q;cases q),.inl fun vs q=>(by rw [hd] at q;cases q)⟩
theorem Ns.evoW{D:List Addr}{h:Heap}{ι:Ad}{σ:zab}{h':Heap}{ι':Ad}{σ':zab}(X:EvoW D h ι σ h' ι' σ'){a:Addr}{m:Str→Option Value}(hn:h.Ns a m)(hl:¬ Live ι σ a)(hD:a∉D):h'.Ns a m:=by
 obtain ⟨o,es,ep,ho,hd,r⟩:=hn
 obtain ⟨⟨sl,e⟩,_⟩:=X.keep a o ho (zaT hl) hD
 exact ⟨_,es,ep,e,hd,r⟩
theorem IsCell.evoW{D:List Addr}{h:Heap}{ι:Ad}{σ:zab}{h':Heap}{ι':Ad}{σ':zab}(X:EvoW D h ι σ h' ι' σ'){a:Addr}{v:Option Value}(hn:h.IsCell a v)(hl:¬ Live ι σ a)(hD:a∉D):h'.IsCell a v:=by
 obtain ⟨o,ho,hd⟩:=hn
 obtain ⟨⟨sl,e⟩,_⟩:=X.keep a o ho (zaT hl) hD
 exact ⟨_,e,hd⟩
theorem Ns.evo{D:List Addr}{h:Heap}{ι:Ad}{σ:zab}{h':Heap}{ι':Ad}{σ':zab}(X:Evo D h ι σ h' ι' σ'){a:Addr}{m:Str→Option Value}(hn:h.Ns a m)(hl:¬ Live ι σ a)(hD:a∉D):h'.Ns a m:=Ns.evoW X.weak hn hl hD
theorem IsCell.evo{D:List Addr}{h:Heap}{ι:Ad}{σ:zab}{h':Heap}{ι':Ad}{σ':zab}(X:Evo D h ι σ h' ι' σ'){a:Addr}{v:Option Value}(hn:h.IsCell a v)(hl:¬ Live ι σ a)(hD:a∉D):h'.IsCell a v:=IsCell.evoW X.weak hn hl hD
theorem FrOk.evoW{D:List Addr}{env:Env}{ρ:Loc}{h:Heap}{ι:Ad}{σ:zab}{h':Heap}{ι':Ad}{σ':zab}(F:FrOk hB env ρ h ι σ)(hl:ι.vis.length=σ.length)(X:EvoW D h ι σ h' ι' σ')(hO:Off ι D h)(hD:∀ b∈dyn env,b∉D):FrOk hB env ρ h' ι' σ' where
 ns:=by
  obtain ⟨m,hn,hv⟩:=F.ns
  refine ⟨m,Ns.evoW X hn (F.own _ (.head _)).1 (hD _ (.head _)),fun x v e k=>?_⟩
  obtain ⟨y,hy,r⟩:=hv x v e k
  exact ⟨y,hy,r.evoW hl X hO⟩
 cel:=fun x v e k=>by
  obtain ⟨c,y,hc,hy,r⟩:=F.cel x v e k
  have hm:c∈dyn env:=.tail _ (List.mem_map_of_mem (f:=Prod.snd) (mem_of_lookup hc))
  exact ⟨c,y,hc,IsCell.evoW X hy (F.own c hm).1 (hD c hm),r.evoW hl X hO⟩
 kinds:=F.kinds
 cells:=fun x k=>by
  obtain ⟨c,y,hc,hy⟩:=F.cells x k
  have hm:c∈dyn env:=.tail _ (List.mem_map_of_mem (f:=Prod.snd) (mem_of_lookup hc))
  exact ⟨c,y,hc,IsCell.evoW X hy (F.own c hm).1 (hD c hm)⟩
 apart:=F.apart
 own:=fun b hb=>by
  refine ⟨?_,(F.own b hb).2⟩
  have own:=(F.own b hb).1
  rcases List.mem_cons.mp hb with rfl | hb
  ·obtain ⟨m,⟨o,_,_,ho,_⟩,_⟩:=F.ns;exact X.notLive hl ho own
  ·obtain ⟨y,o,ho,_⟩:=F.cellsAt b hb;exact X.notLive hl ho own
 cellsAt:=fun b hb=>by
  obtain ⟨y,hy⟩:=F.cellsAt b hb
  exact ⟨y,IsCell.evoW X hy (F.own b (.tail _ hb)).1 (hD b (.tail _ hb))⟩
 off:=fun b hb=>by
  have off:=F.off b hb
  rcases List.mem_cons.mp hb with rfl | hb
  ·obtain ⟨m,⟨o,_,_,ho,_⟩,_⟩:=F.ns;exact X.off ho off
  ·obtain ⟨y,o,ho,_⟩:=F.cellsAt b hb;exact X.off ho off
theorem FrOk.evo{D:List Addr}{env:Env}{ρ:Loc}{h:Heap}{ι:Ad}{σ:zab}{h':Heap}{ι':Ad}{σ':zab}(F:FrOk hB env ρ h ι σ)(hl:ι.vis.length=σ.length)(X:Evo D h ι σ h' ι' σ')(hO:Off ι D h)(hD:∀ b∈dyn env,b∉D):FrOk hB env ρ h' ι' σ':=F.evoW hl X.weak hO hD
theorem FrOk.step{env:Env}{ρ:Loc}{h:Heap}{ι:Ad}{σ:zab}{h':Heap}{ι':Ad}{σ':zab}(F:FrOk hB env ρ h ι σ)(hl:ι.vis.length=σ.length)(X:Evo [] h ι σ h' ι' σ'):FrOk hB env ρ h' ι' σ':=
 F.evo hl X (NoSeq.nil _).off fun _ _=>List.not_mem_nil
theorem FrOk.unhide{env:Env}{ρ:Loc}{h:Heap}{ι:Ad}{σ:zab}{l:List Addr}(hs:∀ a∈l,a∈ι.hid)(F:FrOk hB env ρ h ι σ):FrOk hB env ρ h ⟨ι.vis,l⟩ σ where
 ns:=by
  obtain ⟨m,hn,hv⟩:=F.ns
  refine ⟨m,hn,fun x v e k=>?_⟩
  obtain ⟨y,hy,r⟩:=hv x v e k
  exact ⟨y,hy,r.unhide hs⟩
 cel:=fun x v e k=>by
  obtain ⟨c,y,hc,hy,r⟩:=F.cel x v e k
  exact ⟨c,y,hc,hy,r.unhide hs⟩
 kinds:=F.kinds
 cells:=F.cells
 apart:=F.apart
 own:=fun b hb=>⟨zbm hs (F.own b hb).1,(F.own b hb).2⟩
 cellsAt:=F.cellsAt
 off:=fun b hb=>⟨(F.off b hb).1,fun q=>(F.off b hb).2 (hs b q)⟩
structure Stk (hB:Heap) (fl:List Env) (h:Heap) (ι:Ad) (σ:zab):Prop where
 fun_:h.FunFrames hB fl
 notLive:∀ b∈fl.filterMap (·.frame),¬ Live ι σ b
 dicts:∀ b∈fl.filterMap (·.frame),∃ o es n,h.get? b=some o∧o.data=.dict es n
theorem Stk.there{fl:List Env}{h:Heap}{ι:Ad}{σ:zab}(S:Stk hB fl h ι σ){b:Addr}(hb:b∈fl.filterMap (·.frame)):∃ o,h.get? b=some o:=by
 obtain ⟨_,o,ho,_⟩:=S.fun_.mem hb
 exact ⟨o,ho⟩
theorem FunFrames.map{h h':Heap}:∀{l:List Env},h.FunFrames hB l→(∀ b∈l.filterMap (·.frame),∀ o,h.get? b=some o→(∀ vs,o.data≠.fields vs)→∃ o',h'.get? b=some o'∧∀ vs,o'.data≠.fields vs)→h'.FunFrames hB l
 | [],_,_=>trivial
 | env::rest,⟨hk,⟨L,o,hf,hn,ho,hd⟩,hr⟩,k=>by
  obtain ⟨o',ho',hd'⟩:=k L (by rw [List.filterMap_cons,hf];exact .head _) o ho hd
  exact ⟨hk,⟨L,o',hf,hn,ho',hd'⟩,FunFrames.map hr fun b hb=>k b (by rw [List.filterMap_cons,hf];exact .tail _ hb)⟩
theorem Stk.evoW{D:List Addr}{fl:List Env}{h:Heap}{ι:Ad}{σ:zab}{h':Heap}{ι':Ad}{σ':zab}(S:Stk hB fl h ι σ)(hl:ι.vis.length=σ.length)(X:EvoW D h ι σ h' ι' σ')
  (hD:∀ b∈D,b∈fl.filterMap (·.frame)→∃ o' es n,h'.get? b=some o'∧o'.data=.dict es n):Stk hB fl h' ι' σ' where
 fun_:=FunFrames.map S.fun_ fun b hb o ho hd=>by
  by_cases hm:b∈D
  ·obtain ⟨o',es,n,h1,h2⟩:=hD b hm hb
   exact ⟨o',h1,fun vs q=>by rw [h2] at q;cases q⟩
  ·obtain ⟨⟨sl,e⟩,_⟩:=X.keep b o ho (zaT (S.notLive b hb)) hm
   exact ⟨_,e,hd⟩
 notLive:=fun b hb=>by obtain ⟨o,ho⟩:=S.there hb;exact X.notLive hl ho (S.notLive b hb)
 dicts:=fun b hb=>by
  by_cases hm:b∈D
  ·exact hD b hm hb
  ·obtain ⟨o,es,n,ho,hd⟩:=S.dicts b hb
   obtain ⟨⟨sl,e⟩,_⟩:=X.keep b o ho (zaT (S.notLive b hb)) hm
   exact ⟨_,es,n,e,hd⟩
theorem Stk.evo{D:List Addr}{fl:List Env}{h:Heap}{ι:Ad}{σ:zab}{h':Heap}{ι':Ad}{σ':zab}(S:Stk hB fl h ι σ)(hl:ι.vis.length=σ.length)(X:Evo D h ι σ h' ι' σ')
  (hD:∀ b∈D,b∈fl.filterMap (·.frame)→∃ o' es n,h'.get? b=some o'∧o'.data=.dict es n):Stk hB fl h' ι' σ':=S.evoW hl X.weak hD
theorem Stk.step{fl:List Env}{h:Heap}{ι:Ad}{σ:zab}{h':Heap}{ι':Ad}{σ':zab}(S:Stk hB fl h ι σ)(hl:ι.vis.length=σ.length)(X:Evo [] h ι σ h' ι' σ'):Stk hB fl h' ι' σ':=
 S.evo hl X fun _ hb=>nomatch hb
structure Fly (h h':Heap) (e C:Addr):Prop where
 new:h.get? e=Option.none
 there:∃ oe vs,h'.get? e=some oe∧(oe.cls=.ref C∧oe.dict=Option.none)∧oe.data=.fields vs∧1<vs.size∧
  (vs[1]?=some .none∨∃ T oT ts,vs[1]?=some (.ref T)∧T≠e∧h.get? T=Option.none∧h'.get? T=some oT∧oT.data=.fields ts∧3<ts.size)
theorem zdL{M:Model}{A:Around}{E:Value→Shared→Prop}{s:Shared}(keep:List Value):∀(l:List Value){Q:Unit→Shared→Prop},Q () s→wpAny M A (release.go keep l) Q E s
 | [],_,h=>wpAny_pure h
 | [_],_,h=>wpAny_pure h
 | _::b::r,_,h=>wpAny_bind (wpAny_holding (wpAny_point (zdL keep (b::r) h)))
theorem zdF{M:Model}{A:Around}{E:Value→Shared→Prop}{s:Shared}{vs:List Value}{m:Sem Value}{Q:Value→Shared→Prop}(h:wpAny M A m Q E s):wpAny M A (operate vs m) Q E s:=
 wpAny_bind (wpAny_holding (wpAny_mono h (fun _ _ q=>wpAny_bind (zdL _ _ (wpAny_pure q))) fun _ _ q=>q))
structure Ar (md:Md) (d:Nat) (fl:List Env) (A:Around):Prop where
 frames:A.frames=some fl
 depth:A.depth+d<recursionLimit
 units:A.units+8*d+2000<cLine
 quiet:md.rz=true∨md.lp=true→A.handled=none
structure Inv (prog:Program) (w:World) (hB:Heap) (env:Env) (ρ:Loc) (fl:List Env) (h:Heap) (ι:Ad) (σ:zab):Prop where
 stays:hB.StaysIn h
 store:StoreOk prog w hB h ι σ
 fr:FrOk hB env ρ h ι σ
 stk:Stk hB fl h ι σ
section
variable {prog:Program} {w:World} {hB:Heap} {env:Env} {ρ:Loc} {fl:List Env} {h h':Heap} {ι ι':Ad} {σ σ':zab}
theorem Inv.step(I:Inv prog w hB env ρ fl h ι σ)(X:Step prog w hB h ι σ h' ι' σ'):Inv prog w hB env ρ fl h' ι' σ':=
 ⟨X.stays,X.store,I.fr.step I.store.len X.evo,I.stk.step I.store.len X.evo⟩
theorem Inv.refl(I:Inv prog w hB env ρ fl h ι σ):Step prog w hB h ι σ h ι σ:=Step.refl I.store I.stays
theorem Rep.step{x:PV}{v:Value}(r:Rep h ι σ x v)(hl:ι.vis.length=σ.length)(X:Step prog w hB h ι σ h' ι' σ'):Rep h' ι' σ' x v:=r.evo hl X.evo (NoSeq.nil _)
theorem RepL.step{x:List PV}{v:List Value}(r:RepL h ι σ x v)(hl:ι.vis.length=σ.length)(X:Step prog w hB h ι σ h' ι' σ'):RepL h' ι' σ' x v:=r.evo hl X.evo (NoSeq.nil _)
end
noncomputable def Sim(prog:Program)(w:World)(hB:Heap)(A:Around){α β:Type}(R:Heap→Ad→zab→α→β→Prop)(t:Sem β)(r:M α)(s:Shared)(ι:Ad)(σ:zab):Prop:=
 ∀(Q:β→Shared→Prop)(E:Value→Shared→Prop),r σ≠.stuck→
  (∀ a σ',r σ=.ok a σ'→∀ x h' tk dr ι',Step prog w hB s.heap ι σ h' ι' σ'→R h' ι' σ' a x→Q x { s with heap:=h',toks:=tk,drawn:=dr })→
  (∀ C σ',r σ=.err C σ'→∀ e h' tk dr ι',Step prog w hB s.heap ι σ h' ι' σ'→Fly s.heap h' e C→E (.ref e) { s with heap:=h',toks:=tk,drawn:=dr })→
  wpAny (model prog w) A t Q E s
section
variable {prog:Program} {w:World} {hB:Heap} {A:Around} {α β γ δ:Type} {s:Shared} {ι:Ad} {σ:zab}
theorem zaZ{h₁ h₂:Heap}(ha:∀(b:Addr)(o:Obj),h₁.get? b=some o→∃ o',h₂.get? b=some o'){a:Addr}(h:h₂.get? a=none):h₁.get? a=none:=by
 cases q:h₁.get? a with
 | none=>rfl
 | some o=>obtain ⟨o',e⟩:=ha a o q;rw [h] at e;cases e
theorem Fly.older{h₁ h₂ h₃:Heap}{e C:Addr}(X:Fly h₂ h₃ e C)(hs:∀(b:Addr)(o:Obj),h₁.get? b=some o→∃ o',h₂.get? b=some o'):Fly h₁ h₃ e C:=by
 obtain ⟨hn,oe,vs,h1,h2,h3,h4,h5⟩:=X
 refine ⟨zaZ hs hn,oe,vs,h1,h2,h3,h4,?_⟩
 rcases h5 with h5 | ⟨T,oT,ts,a,b,c,d⟩
 ·exact .inl h5
 ·exact .inr ⟨T,oT,ts,a,b,zaZ hs c,d⟩
theorem Sim.bind{R:Heap→Ad→zab→α→β→Prop}{R':Heap→Ad→zab→δ→γ→Prop}{t:Sem β}{k:β→Sem γ}{r:M α}{f:α→M δ}(hl:ι.vis.length=σ.length)
  (h1:Sim prog w hB A R t r s ι σ)
  (h2:∀ a σ' x h' tk dr ι',r σ=.ok a σ'→Step prog w hB s.heap ι σ h' ι' σ'→R h' ι' σ' a x→Sim prog w hB A R' (k x) (f a) { s with heap:=h',toks:=tk,drawn:=dr } ι' σ') :
  Sim prog w hB A R' (t >>= k) (r.bind f) s ι σ:=by
 intro Q E hns hok herr
 have hne:r σ≠.stuck:=fun q=>hns (by simp only [M.bind,q])
 refine wpAny_bind (h1 _ _ hne (fun a σ₁ e₁ x h₁ tk₁ dr₁ ι₁ X₁ r₁=>?_) (fun C σ₁ e₁ e h₁ tk₁ dr₁ ι₁ X₁ F₁=>?_))
 ·have hb:(r.bind f) σ=f a σ₁:=by simp only [M.bind,e₁]
  refine h2 a σ₁ x h₁ tk₁ dr₁ ι₁ e₁ X₁ r₁ Q E (by rw [← hb];exact hns) (fun b σ₂ e₂ y h₂ tk₂ dr₂ ι₂ X₂ r₂=>?_) (fun C σ₂ e₂ e h₂ tk₂ dr₂ ι₂ X₂ F₂=>?_)
  ·exact hok b σ₂ (hb.trans e₂) y h₂ tk₂ dr₂ ι₂ (X₁.trans hl X₂) r₂
  ·exact herr C σ₂ (hb.trans e₂) e h₂ tk₂ dr₂ ι₂ (X₁.trans hl X₂) (F₂.older X₁.evo.alive)
 ·exact herr C σ₁ (by simp only [M.bind,e₁]) e h₁ tk₁ dr₁ ι₁ X₁ F₁
theorem Sim.pure{R:Heap→Ad→zab→α→β→Prop}{a:α}{x:β}(S:StoreOk prog w hB s.heap ι σ)(B:hB.StaysIn s.heap)(hr:R s.heap ι σ a x):Sim prog w hB A R (pure x) (M.ret a) s ι σ:=by
 intro Q E _ hok _
 exact wpAny_pure (hok a σ rfl x s.heap s.toks _ ι (Step.refl S B) hr)
theorem Sim.fail{R:Heap→Ad→zab→α→β→Prop}{t:Sem β}:Sim prog w hB A R t M.fail s ι σ:=fun _ _ h _ _=>(h rfl).elim
theorem Sim.mono{R R':Heap→Ad→zab→α→β→Prop}{t:Sem β}{r:M α}(h:Sim prog w hB A R t r s ι σ)(hr:∀ h' ι' σ' a x,R h' ι' σ' a x→R' h' ι' σ' a x):Sim prog w hB A R' t r s ι σ:=
 fun Q E hns hok herr=>h Q E hns (fun a σ' e x h' tk dr ι' X r=>hok a σ' e x h' tk dr ι' X (hr _ _ _ _ _ r)) herr
theorem Sim.tree{R:Heap→Ad→zab→α→β→Prop}{t t':Sem β}{r:M α}(h:Sim prog w hB A R t r s ι σ)(k:∀ Q E,wpAny (model prog w) A t Q E s→wpAny (model prog w) A t' Q E s):Sim prog w hB A R t' r s ι σ:=
 fun Q E hns hok herr=>k Q E (h Q E hns hok herr)
theorem Sim.res{R:Heap→Ad→zab→α→β→Prop}{t:Sem β}{r r':M α}(h:Sim prog w hB A R t r s ι σ)(e:r' σ=r σ):Sim prog w hB A R t r' s ι σ:=
 fun Q E hns hok herr=>h Q E (e▸hns) (fun a σ' q=>hok a σ' (e.trans q)) (fun C σ' q=>herr C σ' (e.trans q))
theorem Sim.holding{R:Heap→Ad→zab→α→β→Prop}{t:Sem β}{r:M α}(vs:List Value)(h:Sim prog w hB A R t r s ι σ):Sim prog w hB A R (holding vs t) r s ι σ:=h.tree fun _ _=>wpAny_holding
theorem Sim.standAt{R:Heap→Ad→zab→α→β→Prop}{t:Sem β}{r:M α}(p:Pos)(h:Sim prog w hB A R t r s ι σ):Sim prog w hB A R (do standAt p;t) r s ι σ:=h.tree fun _ _ k=>wpAny_bind (wpAny_standAt k)
theorem Sim.operate{R:Heap→Ad→zab→α→Value→Prop}{t:Sem Value}{r:M α}(vs:List Value)(h:Sim prog w hB A R t r s ι σ):Sim prog w hB A R (operate vs t) r s ι σ:=h.tree fun _ _=>zdF
theorem Sim.val{R:Heap→Ad→zab→α→β→Prop}{t:Sem β}{r:M α}{a:α}(S:StoreOk prog w hB s.heap ι σ)(B:hB.StaysIn s.heap)(e:r σ=.ok a σ)
  (h:∀ Q E,(∀ x tk,R s.heap ι σ a x→Q x { s with toks:=tk })→wpAny (model prog w) A t Q E s):Sim prog w hB A R t r s ι σ:=
 fun Q E _ hok _=>h Q E fun x tk r=>hok a σ e x s.heap tk _ ι (Step.refl S B) r
theorem Sim.cond{R:Heap→Ad→zab→α→β→Prop}{t:Sem β}{b:Bool}{x y:M α}(hx:b=true→Sim prog w hB A R t x s ι σ)(hy:b=false→Sim prog w hB A R t y s ι σ):Sim prog w hB A R t (M.cond b x y) s ι σ:=by
 cases b
 ·exact hy rfl
 ·exact hx rfl
theorem Sim.iff{R:Heap→Ad→zab→α→β→Prop}{t u:Sem β}{b:Bool}{x y:M α}(hx:b=true→Sim prog w hB A R t x s ι σ)(hy:b=false→Sim prog w hB A R u y s ι σ):Sim prog w hB A R (if b then t else u) (M.cond b x y) s ι σ:=by
 cases b
 ·exact hy rfl
 ·exact hx rfl
theorem Sim.onInt{R:Heap→Ad→zab→α→β→Prop}{t:Value→Sem β}{k:Int→M α}{a:PV}{x:Value}(r:Rep s.heap ι σ a x) (h:∀ i u,Sim prog w hB A R (t (.int i u)) (k i) s ι σ):Sim prog w hB A R (t x) (onInt a k) s ι σ:=by
 cases a with
 | int i=>obtain ⟨u,e⟩:=r.inv;rw [e];exact h i u
 | _=>exact Sim.fail
theorem Sim.onStr{R:Heap→Ad→zab→α→β→Prop}{t:Value→Sem β}{k:Str→M α}{a:PV}{x:Value}(r:Rep s.heap ι σ a x) (h:∀ i u,Sim prog w hB A R (t (.str i u)) (k i) s ι σ):Sim prog w hB A R (t x) (onStr a k) s ι σ:=by
 cases a with
 | str i=>obtain ⟨u,e⟩:=r.inv;rw [e];exact h i u
 | _=>exact Sim.fail
theorem Sim.onTup{R:Heap→Ad→zab→α→β→Prop}{t:Value→Sem β}{k:List PV→M α}{a:PV}{x:Value}(r:Rep s.heap ι σ a x)
  (h:∀ xs l vs n,s.heap.get? l=some { cls:=.type "tuple",data:=.seq vs n }→¬ Live ι σ l→RepL s.heap ι σ xs vs.toList→Sim prog w hB A R (t (.ref l)) (k xs) s ι σ):Sim prog w hB A R (t x) (onTup a k) s ι σ:=by
 cases a with
 | tup xs=>obtain ⟨l,vs,n,e,e',nl,rl⟩:=r.inv;rw [e];exact h xs l vs n e' nl rl
 | _=>exact Sim.fail
theorem Sim.onLst{R:Heap→Ad→zab→α→β→Prop}{t:Value→Sem β}{k:List PV→M α}{a:PV}{x:Value}(r:Rep s.heap ι σ a x)
  (h:∀ xs l vs n,s.heap.get? l=some { cls:=.type "list",data:=.seq vs n }→¬ Live ι σ l→RepL s.heap ι σ xs vs.toList→Sim prog w hB A R (t (.ref l)) (k xs) s ι σ):Sim prog w hB A R (t x) (onLst a k) s ι σ:=by
 cases a with
 | lst xs=>obtain ⟨l,vs,n,e,e',nl,rl⟩:=r.inv;rw [e];exact h xs l vs n e' nl rl
 | _=>exact Sim.fail
theorem Sim.onRef{R:Heap→Ad→zab→α→β→Prop}{t:Value→Sem β}{k:Nat→M α}{a:PV}{x:Value}(r:Rep s.heap ι σ a x) (h:∀ i l,ι.vis[i]?=some l→Sim prog w hB A R (t (.ref l)) (k i) s ι σ):Sim prog w hB A R (t x) (onRef a k) s ι σ:=by
 cases a with
 | ref i=>obtain ⟨l,e,e'⟩:=r.inv;rw [e];exact h i l e'
 | _=>exact Sim.fail
theorem zae{γ δ:Type}{m:M γ}{f:γ→M δ}{σ:zab}(h:m σ=.stuck):m.bind f σ=.stuck:=by unfold M.bind;rw [h]
theorem zaa{γ δ:Type}{m:M γ}{f:γ→M δ}{σ σ':zab}{a:γ}(h:m σ=.ok a σ'):m.bind f σ=f a σ':=by unfold M.bind;rw [h]
theorem zaq{γ δ:Type}{m:M γ}{f:γ→M δ}{σ σ':zab}{C:Addr}(h:m σ=.err C σ'):m.bind f σ=.err C σ':=by unfold M.bind;rw [h]
theorem Sim.stuck{R:Heap→Ad→zab→α→β→Prop}{t:Sem β}{r:M α}(e:r σ=.stuck):Sim prog w hB A R t r s ι σ:=fun _ _ h _ _=>(h e).elim
theorem Sim.bstuck{R:Heap→Ad→zab→α→β→Prop}{t:Sem β}{γ:Type}{m:M γ}{f:γ→M α}(e:m σ=.stuck):Sim prog w hB A R t (m.bind f) s ι σ:=Sim.stuck (zae e)
theorem Sim.part{R:Heap→Ad→zab→α→β→Prop}{t:Sem β}{γ:Type}{m:M γ}{f:γ→M α}(P:γ→Prop)(h:(∃ a,m σ=.ok a σ∧P a)∨m σ=.stuck)(k:∀ a,P a→Sim prog w hB A R t (f a) s ι σ):Sim prog w hB A R t (m.bind f) s ι σ:=by
 rcases h with ⟨a,e,p⟩ | e
 ·exact (k a p).res (zaa e)
 ·exact Sim.bstuck e
theorem Sim.lift{R:Heap→Ad→zab→α→β→Prop}{t:Sem β}{γ:Type}{o:Option γ}{f:γ→M α}(k:∀ a,o=some a→Sim prog w hB A R t (f a) s ι σ):Sim prog w hB A R t ((M.lift o).bind f) s ι σ:=by
 cases o with
 | none=>exact Sim.bstuck rfl
 | some a=>exact k a rfl
end
section
variable {prog:Program} {w:World} {hB h:Heap} {ι:Ad} {σ:zab}
theorem zkV(o:Obj):RepTo h ι σ (h.push o) ι σ:=⟨fun e nl=>⟨Heap.get?_push_of_some _ e,nl⟩,fun e=>e,fun e c d k nl=>.exc (Heap.get?_push_of_some _ e) c d k nl⟩
theorem Rep.push(o:Obj){x:PV}{v:Value}(r:Rep h ι σ x v):Rep (h.push o) ι σ x v:=r.to (zkV o)
theorem RepL.push(o:Obj){xs:List PV}{vs:List Value}(r:RepL h ι σ xs vs):RepL (h.push o) ι σ xs vs:=r.to (zkV o)
theorem size_push(h:Heap)(o:Obj):(h.push o).objs.size=h.objs.size+1:=by
 obtain ⟨os,l⟩:=h;exact Array.size_push ..
theorem CelOk.push(o:Obj){a:Addr}{c:Cel}(x:CelOk prog w h ι σ a c):CelOk prog w (h.push o) ι σ a c:=by
 cases c with
 | list xs=>obtain ⟨vs,⟨n,e⟩,r⟩:=x;exact ⟨vs,⟨n,Heap.get?_push_of_some _ e⟩,r.push o⟩
 | dict kvs=>obtain ⟨ys,d,k,r⟩:=x;exact ⟨ys,d.push o,k,r.push o⟩
 | dead=>trivial
theorem StoreOk.push(S:StoreOk prog w hB h ι σ)(o:Obj):StoreOk prog w hB (h.push o) ι σ:=
 ⟨S.len,S.nodup,fun a ha=>by obtain ⟨o',e⟩:=S.there a ha;exact ⟨o',Heap.get?_push_of_some _ e⟩,fun a ha=>by obtain ⟨o',e,f⟩:=S.hthere a ha;exact ⟨o',Heap.get?_push_of_some _ e,f⟩,S.apart,S.base,S.hbase,S.sys,fun i a c e e'=>(S.ok i a c e e').push o⟩
theorem Evo.push(h:Heap)(ι:Ad)(σ:zab)(o:Obj):Evo [] h ι σ (h.push o) ι σ:=
 ⟨fun _ _ e=>e,fun i a e e'=>(by rw [e] at e';cases e'),fun _ e=>e,fun b o' e=>⟨o',Heap.get?_push_of_some _ e⟩,fun b o' e _ _=>⟨⟨o'.slots,Heap.get?_push_of_some _ e⟩,fun _=>Heap.get?_push_of_some _ e⟩,fun _ h=>h,fun _ h=>.inl h⟩
theorem StaysIn.push(B:hB.StaysIn h)(o:Obj):hB.StaysIn (h.push o):=fun b o' e=>Heap.get?_push_of_some _ (B b o' e)
theorem Step.push(S:StoreOk prog w hB h ι σ)(B:hB.StaysIn h)(o:Obj):Step prog w hB h ι σ (h.push o) ι σ:=⟨Evo.push h ι σ o,S.push o,StaysIn.push B o⟩
theorem zbK(S:StoreOk prog w hB h ι σ):¬ Live ι σ h.objs.size:=by
 rintro (⟨i,c,hi,_⟩ | q)
 ·obtain ⟨o,ho⟩:=S.there _ (List.mem_of_getElem? hi)
  exact absurd (Heap.lt_size ho) (Nat.lt_irrefl _)
 ·obtain ⟨o,ho,_⟩:=S.hthere _ q
  exact absurd (Heap.lt_size ho) (Nat.lt_irrefl _)
theorem Rep.newTup(S:StoreOk prog w hB h ι σ){xs:List PV}{vs:List Value}(r:RepL h ι σ xs vs) :
  Rep (h.push { cls:=.type "tuple",data:=.seq vs.toArray }) ι σ (.tup xs) (.ref h.objs.size):=
 .tup (Heap.get?_push_size _ rfl) (zbK S) (by simpa using r.push _)
end
section
variable {prog:Program} {w:World} {hB h h':Heap} {ι:Ad} {σ:zab}
theorem zht{ι:List Addr}(hn:ι.Nodup){i j:Nat}{a:Addr}(hi:ι[i]?=some a)(hj:ι[j]?=some a):i=j:=by
 obtain ⟨h1,e1⟩:=List.getElem?_eq_some_iff.mp hi
 obtain ⟨h2,e2⟩:=List.getElem?_eq_some_iff.mp hj
 have hp:=List.pairwise_iff_getElem.mp hn
 rcases Nat.lt_trichotomy i j with q | q | q
 ·exact absurd (e1.trans e2.symm) (hp i j h1 h2 q)
 ·exact q
 ·exact absurd (e2.trans e1.symm) (hp j i h2 h1 q)
theorem CelOk.evo{ι':Ad}{σ':zab}(hl:ι.vis.length=σ.length)(X:Evo [] h ι σ h' ι' σ'){a:Addr}{c:Cel}(x:CelOk prog w h ι σ a c)(hs:∀ o,h.get? a=some o→h'.get? a=some o):CelOk prog w h' ι' σ' a c:=by
 cases c with
 | list xs=>obtain ⟨vs,⟨n,e⟩,r⟩:=x;exact ⟨vs,⟨n,hs _ e⟩,r.evo hl X (NoSeq.nil _)⟩
 | dict kvs=>
  obtain ⟨ys,⟨o,es,ep,e,k⟩,k2,r⟩:=x
  exact ⟨ys,⟨o,es,ep,hs _ e,k⟩,k2,r.evo hl X (NoSeq.nil _)⟩
 | dead=>trivial
theorem ziF{i:Nat}{a:Addr}{c c₀:Cel}(hi:ι.vis[i]?=some a)(hc:σ[i]?=some c₀)(hd:c₀≠.dead)(hs:Heap.SameBut a h h')(ha:∃ o',h'.get? a=some o'):Evo [] h ι σ h' ι (σ.set i c) where
 pre:=fun _ _ e=>e
 fresh:=fun j b e e'=>by rw [e] at e';cases e'
 dead:=fun j e=>by
  have hj:i≠j:=fun q=>by subst q;rw [hc] at e;cases e;exact hd rfl
  rw [List.getElem?_set_ne hj];exact e
 alive:=fun b o e=>by
  by_cases hb:b=a
  ·subst hb;exact ha
  ·exact ⟨o,(hs.2 b hb).trans e⟩
 keep:=fun b o e hn _=>by
  have hb:b≠a:=fun q=>hn (q▸⟨i,c₀,hi,hc,hd⟩)
  exact ⟨⟨o.slots,(hs.2 b hb).trans e⟩,fun _=>(hs.2 b hb).trans e⟩
 hid:=fun _ h=>h
 hfresh:=fun _ h=>.inl h
theorem Step.set{i:Nat}{a:Addr}{c c₀:Cel}(S:StoreOk prog w hB h ι σ)(B:hB.StaysIn h')(hi:ι.vis[i]?=some a)(hc:σ[i]?=some c₀)(hd:c₀≠.dead)(hs:Heap.SameBut a h h')
  (hk:CelOk prog w h' ι (σ.set i c) a c) (ha:∃ o',h'.get? a=some o'):Step prog w hB h ι σ h' ι (σ.set i c):=by
 have X:=ziF (c:=c) hi hc hd hs ha
 refine ⟨X,⟨by rw [List.length_set];exact S.len,S.nodup,fun b hb=>by obtain ⟨o,ho⟩:=S.there b hb;exact X.alive b o ho,fun b hb=>by obtain ⟨o,ho,f⟩:=S.hthere b hb;exact ⟨o,(hs.2 b (fun q=>S.apart a (List.mem_of_getElem? hi) (q▸hb))).trans ho,f⟩,S.apart,S.base,S.hbase,S.sys,fun j b c' e e'=>?_⟩,B⟩
 by_cases hj:i=j
 ·subst hj
  rw [hi] at e;cases e
  rw [List.getElem?_set_self (List.getElem?_eq_some_iff.mp hc).1] at e';cases e'
  exact hk
 ·rw [List.getElem?_set_ne hj] at e'
  have hba:b≠a:=fun q=>hj (zht S.nodup hi (q▸e))
  exact (S.ok j b c' e e').evo S.len X fun o ho=>(hs.2 b hba).trans ho
theorem zhs(S:StoreOk prog w hB h ι σ){a:Addr}(ha:a∈ι.vis):(a==sysModules)=false:=by
 cases q:a==sysModules with
 | false=>rfl
 | true=>
  have:=eq_of_beq q
  subst this
  obtain ⟨o,ho⟩:=S.sys
  rw [S.base _ ha] at ho;cases ho
theorem zc7{a:Addr}(B:hB.StaysIn h)(ha:hB.get? a=none)(hs:Heap.SameBut a h h'):hB.StaysIn h':=fun b o e=>by
 have hb:b≠a:=fun q=>by rw [q,ha] at e;cases e
 exact (hs.2 b hb).trans (B b o e)
theorem Live.append{c:Cel}{a b:Addr}(hl:ι.vis.length=σ.length):Live (ι.add a) (σ++[c]) b→Live ι σ b∨b=a:=by
 rintro (⟨i,c',hi,hc,hd⟩ | q)
 rotate_left
 ·exact .inl (.inr q)
 simp only [Ad.add] at hi
 by_cases q:i<ι.vis.length
 ·rw [List.getElem?_append_left q] at hi
  rw [List.getElem?_append_left (hl▸q)] at hc
  exact .inl (.inl ⟨i,c',hi,hc,hd⟩)
 ·rw [List.getElem?_append_right (Nat.le_of_not_lt q)] at hi
  have:i-ι.vis.length=0:=by
   have:=(List.getElem?_eq_some_iff.mp hi).1
   simp at this;lia
  rw [this] at hi;simp at hi;exact .inr hi.symm
theorem zhM{a:Addr}(c:Cel)(hk:∀ b o,h.get? b=some o→h'.get? b=some o)(ha:h.get? a=none):Evo [] h ι σ h' (ι.add a) (σ++[c]) where
 pre:=fun i a e=>by simp only [Ad.add];rw [List.getElem?_append_left (List.getElem?_eq_some_iff.mp e).1];exact e
 fresh:=fun i b e e'=>by
  simp only [Ad.add] at e
  have hi:ι.vis.length≤i:=List.getElem?_eq_none_iff.mp e'
  rw [List.getElem?_append_right hi] at e
  have:i-ι.vis.length=0:=by
   have:=(List.getElem?_eq_some_iff.mp e).1
   simp at this;lia
  rw [this] at e;simp at e;rw [← e];exact ha
 dead:=fun i e=>by rw [List.getElem?_append_left (List.getElem?_eq_some_iff.mp e).1];exact e
 alive:=fun b o e=>⟨o,hk b o e⟩
 keep:=fun b o' e _ _=>⟨⟨o'.slots,hk _ _ e⟩,fun _=>hk _ _ e⟩
 hid:=fun _ h=>h
 hfresh:=fun _ h=>.inl h
theorem Step.newAt{a:Addr}(S:StoreOk prog w hB h ι σ)(B:hB.StaysIn h)(c:Cel)(hk:∀ b o,h.get? b=some o→h'.get? b=some o)(ha:h.get? a=none)(ht:∃ o,h'.get? a=some o)
  (hc:CelOk prog w h' (ι.add a) (σ++[c]) a c):Step prog w hB h ι σ h' (ι.add a) (σ++[c]):=by
 have X:=zhM (ι:=ι) (σ:=σ) c hk ha
 refine ⟨X,⟨by simp [Ad.add,S.len],?_,fun b hb=>?_,fun b hb=>?_,fun b hb=>?_,fun b hb=>?_,S.hbase,S.sys,fun j b c' e e'=>?_⟩,fun b o e=>hk b o (B b o e)⟩
 ·simp only [Ad.add]
  rw [List.nodup_append]
  refine ⟨S.nodup,by simp,fun x hx b hb q=>?_⟩
  rw [List.mem_singleton] at hb
  obtain ⟨o,ho⟩:=S.there x hx
  rw [q,hb,ha] at ho;cases ho
 ·rcases List.mem_append.mp hb with hb | hb
  ·obtain ⟨o,ho⟩:=S.there b hb;exact ⟨o,hk b o ho⟩
  ·rw [List.mem_singleton.mp hb];exact ht
 ·obtain ⟨o,ho,f⟩:=S.hthere b hb;exact ⟨o,hk b o ho,f⟩
 ·rcases List.mem_append.mp hb with hb | hb
  ·exact S.apart b hb
  ·rw [List.mem_singleton.mp hb];intro q;obtain ⟨o,ho,_⟩:=S.hthere _ q;rw [ha] at ho;cases ho
 ·rcases List.mem_append.mp hb with hb | hb
  ·exact S.base b hb
  ·rw [List.mem_singleton.mp hb];exact zaZ (fun b o e=>⟨o,B b o e⟩) ha
 ·simp only [Ad.add] at e
  by_cases q:j<ι.vis.length
  ·rw [List.getElem?_append_left q] at e
   rw [List.getElem?_append_left (S.len▸q)] at e'
   exact (S.ok j b c' e e').evo S.len X fun o' ho=>hk _ _ ho
  ·rw [List.getElem?_append_right (Nat.le_of_not_lt q)] at e
   rw [List.getElem?_append_right (by rw [← S.len];exact Nat.le_of_not_lt q)] at e'
   have h0:j-ι.vis.length=0:=by
    have:=(List.getElem?_eq_some_iff.mp e).1
    simp at this;lia
   rw [h0] at e;rw [← S.len,h0] at e'
   simp at e e'
   subst e;subst e';exact hc
theorem zay(h:Heap):h.get? h.objs.size=none:=by
 cases q:h.get? h.objs.size with
 | none=>rfl
 | some o=>exact absurd (Heap.lt_size q) (Nat.lt_irrefl _)
theorem Step.keeps(S:StoreOk prog w hB h ι σ)(B:hB.StaysIn h)(hk:∀ b o,h.get? b=some o→h'.get? b=some o):Step prog w hB h ι σ h' ι σ:=by
 have X:Evo [] h ι σ h' ι σ:=⟨fun _ _ e=>e,fun i a e e'=>(by rw [e] at e';cases e'),fun _ e=>e,fun b o e=>⟨o,hk b o e⟩,fun b o e _ _=>⟨⟨o.slots,hk b o e⟩,fun _=>hk b o e⟩,fun _ h=>h,fun _ h=>.inl h⟩
 exact ⟨X,⟨S.len,S.nodup,fun a ha=>by obtain ⟨o,ho⟩:=S.there a ha;exact ⟨o,hk _ _ ho⟩,fun a ha=>by obtain ⟨o,ho,f⟩:=S.hthere a ha;exact ⟨o,hk _ _ ho,f⟩,S.apart,S.base,S.hbase,S.sys,fun i a c e e'=>(S.ok i a c e e').evo S.len X fun o ho=>hk _ _ ho⟩,fun b o e=>hk b o (B b o e)⟩
theorem zct(S:StoreOk prog w hB h ι σ){a:Addr}(ha:h.get? a=none):¬ Live ι σ a:=by
 rintro (⟨i,c,hi,_⟩ | q)
 ·obtain ⟨o,ho⟩:=S.there _ (List.mem_of_getElem? hi)
  rw [ha] at ho;cases ho
 ·obtain ⟨o,ho,_⟩:=S.hthere _ q
  rw [ha] at ho;cases ho
theorem zdU(S:StoreOk prog w hB h ι σ)(a:Addr):(ι.add a).vis[σ.length]?=some a:=by
 simp only [Ad.add]
 rw [List.getElem?_append_right (by rw [S.len];exact Nat.le_refl _)];simp [S.len]
theorem SameBut.refl(a:Addr)(h:Heap):Heap.SameBut a h h:=⟨rfl,fun _ _=>rfl⟩
theorem Step.kill{i:Nat}{a:Addr}{c₀:Cel}(S:StoreOk prog w hB h ι σ)(B:hB.StaysIn h)(hi:ι.vis[i]?=some a)(hc:σ[i]?=some c₀)(hd:c₀≠.dead):Step prog w hB h ι σ h ι (σ.set i .dead):=
 Step.set S B hi hc hd (SameBut.refl a h) trivial (S.there a (List.mem_of_getElem? hi))
theorem zfr{i:Nat}{a:Addr}{c₀:Cel}(S:StoreOk prog w hB h ι σ)(hi:ι.vis[i]?=some a)(hc:σ[i]?=some c₀):¬ Live ι (σ.set i .dead) a:=by
 rintro (⟨j,c,hj,hcj,hd⟩ | q)
 ·obtain rfl:=zht S.nodup hi hj
  rw [List.getElem?_set_self (List.getElem?_eq_some_iff.mp hc).1] at hcj;cases hcj;exact hd rfl
 ·exact S.apart a (List.mem_of_getElem? hi) q
end
section
variable {prog:Program} {w:World} {hB:Heap} {A:Around} {s:Shared} {ι:Ad} {σ:zab}
noncomputable abbrev SimV(prog:Program)(w:World)(hB:Heap)(A:Around)(t:Sem Value)(r:M PV)(s:Shared)(ι:Ad)(σ:zab):Prop:=Sim prog w hB A Rep t r s ι σ
theorem zeO{t:Sem Value}{cx:Cx}{p:Pos}{xs:List PV}{vs:List Value}(S:StoreOk prog w hB s.heap ι σ)(B:hB.StaysIn s.heap)(r:RepL s.heap ι σ xs vs)
  (mk:∀(Q:Value→Shared→Prop)(E:Value→Shared→Prop),(∀ D h' n tk,s.heap.get? D=none→(∀ b o,s.heap.get? b=some o→h'.get? b=some o)→h'.get? D=some { cls:=.type "list",data:=.seq vs.toArray n }→Q (.ref D) { s with heap:=h',toks:=tk })→wpAny (model prog w) A t Q E s) :
  SimV prog w hB A t (zaw cx p xs) s ι σ:=by
 refine Sim.cond (fun _=>?_) (fun _=>?_)
 ·intro Q E _ hok _
  refine mk _ _ fun D h' n tk hD hk hd=>hok (.ref σ.length) (σ++[.list xs]) rfl _ _ tk _ (ι.add D) ?_ (.ref (zdU S D))
  have X:=zhM (ι:=ι) (σ:=σ) (.list xs) hk hD
  exact Step.newAt S B _ hk hD ⟨_,hd⟩ ⟨vs.toArray,⟨n,hd⟩,by simpa using r.evo S.len X (NoSeq.nil _)⟩
 ·intro Q E _ hok _
  refine mk _ _ fun D h' n tk hD hk hd=>hok _ _ rfl _ _ tk _ ι (Step.keeps S B hk) ?_
  have X:=(Step.keeps (prog:=prog) (w:=w) S B hk).evo
  exact .lst hd (zct S hD) (by simpa using r.evo S.len X (NoSeq.nil _))
theorem zb1{t:Sem Value}{cx:Cx}{p:Pos}{xs:List PV}{vs:List Value}(S:StoreOk prog w hB s.heap ι σ)(B:hB.StaysIn s.heap)(r:RepL s.heap ι σ xs vs)
  (mk:∀(Q:Value→Shared→Prop)(E:Value→Shared→Prop),(∀ tk,Q (.ref s.heap.objs.size) { s with heap:=s.heap.push { cls:=.type "list",data:=.seq vs.toArray },toks:=tk })→wpAny (model prog w) A t Q E s) :
  SimV prog w hB A t (zaw cx p xs) s ι σ:=
 zeO S B r fun Q E h=>mk Q E fun tk=>h _ _ 0 tk (zay _) (fun _ _ e=>Heap.get?_push_of_some _ e) (Heap.get?_push_size _ rfl)
theorem zjX{cx:Cx}{p:Pos}{xs:List PV}{vs:List Value}(S:StoreOk prog w hB s.heap ι σ)(B:hB.StaysIn s.heap)(r:RepL s.heap ι σ xs vs)(hsz:vs.length≤sizeLine) :
  SimV prog w hB A (newList vs) (zaw cx p xs) s ι σ:=
 zb1 S B r fun _ _ h=>wpAny_newObj_type (h s.toks) (by show vs.toArray.size≤sizeLine;rw [List.size_toArray];exact hsz)
theorem zoG{xs:List PV}{vs:List Value}(S:StoreOk prog w hB s.heap ι σ)(B:hB.StaysIn s.heap)(r:RepL s.heap ι σ xs vs)(hsz:vs.length≤sizeLine) :
  SimV prog w hB A (newTuple vs) (M.ret (.tup xs)) s ι σ:=by
 intro Q E _ hok _
 exact wpAny_newObj_type (hok _ _ rfl _ _ s.toks _ ι (Step.push S B _) (Rep.newTup S r)) (by show vs.toArray.size≤sizeLine;rw [List.size_toArray];exact hsz)
theorem zbT(S:StoreOk prog w hB s.heap ι σ){i:Nat}{a:Addr}(hi:ι.vis[i]?=some a):(∃ xs vs n,lget i σ=.ok xs σ∧σ[i]?=some (.list xs)∧s.heap.get? a=some { cls:=.type "list",data:=.seq vs n }∧RepL s.heap ι σ xs vs.toList)∨lget i σ=.stuck:=by
 unfold lget M.bind cget
 cases hc:σ[i]? with
 | none=>exact .inr rfl
 | some c=>
  cases c with
  | list xs=>obtain ⟨vs,⟨n,hp⟩,rl⟩:=S.ok _ _ _ hi hc;exact .inl ⟨xs,vs,n,rfl,rfl,hp,rl⟩
  | dict kvs=>exact .inr rfl
  | dead=>exact .inr rfl
theorem zig{v:PV}{t:Sem Value}(S:StoreOk prog w hB s.heap ι σ)(B:hB.StaysIn s.heap)(h:∀ Q E,(∀ y,Rep s.heap ι σ v y→Q y s)→wpAny (model prog w) A t Q E s):SimV prog w hB A t (zhI v) s ι σ:=by
 intro Q E hns hok herr
 refine h Q E fun y r=>?_
 cases v with
 | ref i=>
  obtain ⟨a,rfl,e⟩:=r.inv
  rcases zbT S e with ⟨xs,vs,n,h1,hc,hp,rl⟩ | h1
  ·have X:=Step.kill S B e hc (fun q=>nomatch q)
   exact hok (.lst xs) (σ.set i .dead) (zaa h1) (.ref a) s.heap s.toks _ ι X (.lst hp (zfr S e hc) (rl.evo S.len X.evo (NoSeq.nil _)))
  ·exact (hns (zae h1)).elim
 | _=>exact (hns rfl).elim
section
variable {α β:Type} {R:Heap→Ad→zab→α→β→Prop}
theorem Sim.cel{t:Sem β}{f:Cel→M α}{i:Nat}{a:Addr}(S:StoreOk prog w hB s.heap ι σ)(hi:ι.vis[i]?=some a)
  (k:∀ c,σ[i]?=some c→CelOk prog w s.heap ι σ a c→Sim prog w hB A R t (f c) s ι σ):Sim prog w hB A R t ((cget i).bind f) s ι σ:=by
 cases hc:σ[i]? with
 | none=>exact Sim.bstuck (by unfold cget;rw [hc])
 | some c=>exact (k c hc (S.ok _ _ _ hi hc)).res (zaa (by unfold cget;rw [hc]))
theorem Sim.lget{t:Sem β}{f:List PV→M α}{i:Nat}{a:Addr}(S:StoreOk prog w hB s.heap ι σ)(hi:ι.vis[i]?=some a)
  (k:∀ xs vs n,σ[i]?=some (.list xs)→s.heap.get? a=some { cls:=.type "list",data:=.seq vs n }→RepL s.heap ι σ xs vs.toList→Sim prog w hB A R t (f xs) s ι σ):Sim prog w hB A R t ((lget i).bind f) s ι σ:=by
 rcases zbT S hi with ⟨xs,vs,n,h1,hc,hp,rl⟩ | h1
 ·exact (k xs vs n hc hp rl).res (zaa h1)
 ·exact Sim.bstuck h1
theorem zcw(S:StoreOk prog w hB s.heap ι σ){v:PV}{x:Value}(r:Rep s.heap ι σ v x) :
  (∃ xs vs n a,litems v σ=.ok xs σ∧x=.ref a∧s.heap.get? a=some { cls:=.type "list",data:=.seq vs n }∧RepL s.heap ι σ xs vs.toList)∨litems v σ=.stuck:=by
 cases v with
 | lst xs=>obtain ⟨a,vs,n,e,e',_,rl⟩:=r.inv;exact .inl ⟨_,_,_,_,rfl,e,e',rl⟩
 | ref i=>
  obtain ⟨a,e,hi⟩:=r.inv
  rcases zbT S hi with ⟨xs,vs,n,h1,hc,hp,rl⟩ | h1
  ·exact .inl ⟨_,_,_,_,h1,e,hp,rl⟩
  ·exact .inr h1
 | _=>exact .inr rfl
theorem Sim.litems{t:Value→Sem β}{f:List PV→M α}{v:PV}{x:Value}(S:StoreOk prog w hB s.heap ι σ)(r:Rep s.heap ι σ v x)
  (k:∀ xs a vs n,s.heap.get? a=some { cls:=.type "list",data:=.seq vs n }→RepL s.heap ι σ xs vs.toList→Sim prog w hB A R (t (.ref a)) (f xs) s ι σ):Sim prog w hB A R (t x) ((litems v).bind f) s ι σ:=by
 rcases zcw S r with ⟨xs,vs,n,a,h1,e,hp,rl⟩ | h1
 ·rw [e];exact (k xs a vs n hp rl).res (zaa h1)
 ·exact Sim.bstuck h1
noncomputable def ziS(h:Heap)(ι:Ad)(σ:zab)(a:Addr)(vs:Array Value)(n:Nat):Prop:=h.get? a=some { cls:=.type "list",data:=.seq vs n }∨h.get? a=some { cls:=.type "tuple",data:=.seq vs n }∧¬ Live ι σ a
theorem ziB(S:StoreOk prog w hB s.heap ι σ){v:PV}{x:Value}(r:Rep s.heap ι σ v x) :
  (∃ xs vs n a,items v σ=.ok xs σ∧x=.ref a∧ziS s.heap ι σ a vs n∧RepL s.heap ι σ xs vs.toList)∨items v σ=.stuck:=by
 have o:items v=litems v→(∃ xs vs n a,items v σ=.ok xs σ∧x=.ref a∧ziS s.heap ι σ a vs n∧RepL s.heap ι σ xs vs.toList)∨items v σ=.stuck:=by
  intro q
  rw [q]
  rcases zcw S r with ⟨xs,vs,n,a,h1,e,hp,rl⟩ | h1
  ·exact .inl ⟨xs,vs,n,a,h1,e,.inl hp,rl⟩
  ·exact .inr h1
 cases v with
 | tup xs=>obtain ⟨a,vs,n,e,e',nl,rl⟩:=r.inv;exact .inl ⟨_,_,_,_,rfl,e,.inr ⟨e',nl⟩,rl⟩
 | _=>exact o rfl
theorem Sim.items{t:Value→Sem β}{f:List PV→M α}{v:PV}{x:Value}(S:StoreOk prog w hB s.heap ι σ)(r:Rep s.heap ι σ v x)
  (k:∀ xs a vs n,ziS s.heap ι σ a vs n→RepL s.heap ι σ xs vs.toList→Sim prog w hB A R (t (.ref a)) (f xs) s ι σ):Sim prog w hB A R (t x) ((items v).bind f) s ι σ:=by
 rcases ziB S r with ⟨xs,vs,n,a,h1,e,hp,rl⟩ | h1
 ·rw [e];exact (k xs a vs n hp rl).res (zaa h1)
 ·exact Sim.bstuck h1
end
end
section
variable {prog:Program} {w:World} {hB:Heap} {A:Around} {s:Shared} {ι:Ad} {σ:zab}
theorem small_iff{i:Int}:zbq i=true↔-(2 ^ 62)≤i∧i≤2 ^ 62:=by simp [zbq]
theorem zdx{i:Int}(h:zbq i=true):Builtin.Int.intBits i≤64:=by
 have:=small_iff.mp h
 unfold Builtin.Int.intBits
 split
 ·lia
 ·rename_i h0
  have hn:i.natAbs≠0:=by simpa using h0
  have:i.natAbs<2 ^ 63:=by lia
  have:=(Nat.log2_lt hn).mpr this
  lia
theorem zby{α:Type}(xs:Array α):∀(n:Nat)(acc:Array α),((List.replicate n xs).foldl (·++·) acc).toList=acc.toList++(List.replicate n xs.toList).flatten
 | 0,acc=>by simp
 | n+1,acc=>by rw [List.replicate_succ,List.foldl_cons,zby xs n,List.replicate_succ,List.flatten_cons,Array.toList_append,List.append_assoc]
theorem zja{h:Heap}{xs:List PV}{vs:List Value}(r:RepL h ι σ xs vs):∀ n:Nat,RepL h ι σ (zji xs n) (List.replicate n vs).flatten
 | 0=>.nil
 | n+1=>by unfold zji;rw [List.replicate_succ,List.flatten_cons,List.replicate_succ,List.flatten_cons];exact r.append (zja r n)
theorem zgb{x:Str}(h:(x.length==0)=true):x=⟨#[]⟩:=by
 obtain ⟨xs⟩:=x
 exact congrArg Str.mk (Array.eq_empty_of_size_eq_zero (eq_of_beq h))
theorem zib(x y:Str):(x++y).length=x.length+y.length:=Array.size_append
theorem zj7{x y:Str}{t u:Tok}(S:StoreOk prog w hB s.heap ι σ)(B:hB.StaysIn s.heap)(hb:x.length+y.length≤2 ^ 20):SimV prog w hB A (binaryOp .Add (.str x t) (.str y u)) (M.ret (.str (x++y))) s ι σ:=by
 refine Sim.val S B rfl fun Q E h=>P.add_str ?_
 have e1:x=⟨#[]⟩→x++y=y:=fun q=>by rw [q];exact congrArg Str.mk Array.empty_append
 have e2:y=⟨#[]⟩→x++y=x:=fun q=>by rw [q];exact congrArg Str.mk Array.append_empty
 split
 ·rename_i h0;exact h _ _ (by rw [e1 (zgb h0)];exact .str _ _)
 ·split
  ·rename_i h0;exact h _ _ (by rw [e2 (zgb h0)];exact .str _ _)
  ·exact ⟨by rw [zib];exact Nat.le_trans hb (by decide),h _ _ (.str _ _)⟩
theorem zcP(vs ws:Array Value):(vs.toList++ws.toList).toArray=vs++ws:=Array.toList_inj.mp Array.toList_append.symm
theorem zfF{xs:List PV}{vs:Array Value}(r:RepL s.heap ι σ xs vs.toList)(h:vs.isEmpty=true):xs=[]:=List.length_eq_zero_iff.mp (r.length.trans (Array.isEmpty_iff_size_eq_zero.mp h))
theorem zj6{xs ys:List PV}{l l':Addr}{vs ws:Array Value}{n n':Nat}(S:StoreOk prog w hB s.heap ι σ)(B:hB.StaysIn s.heap) (e:s.heap.get? l=some { cls:=.type "tuple",data:=.seq vs n }) (nl:¬ Live ι σ l) (rl:RepL s.heap ι σ xs vs.toList)
  (e':s.heap.get? l'=some { cls:=.type "tuple",data:=.seq ws n' }) (nl':¬ Live ι σ l') (rl':RepL s.heap ι σ ys ws.toList) (hb:xs.length+ys.length≤2 ^ 20):SimV prog w hB A (binaryOp .Add (.ref l) (.ref l')) (M.ret (.tup (xs++ys))) s ι σ:=by
 have hsz:vs.size+ws.size≤sizeLine:=Nat.le_trans (Nat.le_of_eq (congr (congrArg _ rl.length.symm) rl'.length.symm)) (Nat.le_trans hb (by decide))
 by_cases hv:vs.isEmpty=true
 ·rw [zfF rl hv]
  exact Sim.val S B rfl fun Q E h=>concat_meets ⟨_,e,rfl⟩ ⟨_,e',rfl⟩ noFill_tuple_add seq_tuple_add PySem.F.slot_tuple_add PySem.F.entry_tuple_add (PySem.F.args_tuple_add_2 _ _) (PyProof.Rows.tuple_addW0 _ _ vs ws n n' none none #[] #[] hv) ⟨e,e',h _ _ (.tup e' nl' rl')⟩
 ·by_cases hw:ws.isEmpty=true
  ·rw [zfF rl' hw,List.append_nil]
   exact Sim.val S B rfl fun Q E h=>concat_meets ⟨_,e,rfl⟩ ⟨_,e',rfl⟩ noFill_tuple_add seq_tuple_add PySem.F.slot_tuple_add PySem.F.entry_tuple_add (PySem.F.args_tuple_add_2 _ _) (PyProof.Rows.tuple_addW1 _ _ vs ws n n' none none #[] #[] hv hw) ⟨e,e',h _ _ (.tup e nl rl)⟩
  ·intro Q E _ hok _
   refine concat_meets ⟨_,e,rfl⟩ ⟨_,e',rfl⟩ noFill_tuple_add seq_tuple_add PySem.F.slot_tuple_add PySem.F.entry_tuple_add (PySem.F.args_tuple_add_2 _ _) (PyProof.Rows.tuple_addW2 _ _ vs ws n n' none none #[] #[] hv hw hsz) ⟨e,e',?_⟩
   have r:=Rep.newTup S (rl.append rl')
   rw [zcP] at r
   exact hok _ _ rfl _ _ s.toks _ ι (Step.push S B _) r
theorem zj8{cx:Cx}{p:Pos}{xs ys:List PV}{l l':Addr}{vs ws:Array Value}{n n':Nat}(S:StoreOk prog w hB s.heap ι σ)(B:hB.StaysIn s.heap) (e:s.heap.get? l=some { cls:=.type "list",data:=.seq vs n }) (rl:RepL s.heap ι σ xs vs.toList)
  (e':s.heap.get? l'=some { cls:=.type "list",data:=.seq ws n' }) (rl':RepL s.heap ι σ ys ws.toList) (hb:xs.length+ys.length≤2 ^ 20):SimV prog w hB A (binaryOp .Add (.ref l) (.ref l')) (zaw cx p (xs++ys)) s ι σ:=by
 have hsz:vs.size+ws.size≤sizeLine:=Nat.le_trans (Nat.le_of_eq (congr (congrArg _ rl.length.symm) rl'.length.symm)) (Nat.le_trans hb (by decide))
 refine zb1 S B (rl.append rl') fun Q E k=>P.add_list e e' ?_ hsz
 rw [← zcP]
 exact k s.toks
theorem zfB(x:Str)(n:Nat):(zc6 x n).length=n*x.length:=by
 unfold zc6 Str.length;simp [List.length_flatten,List.map_replicate]
theorem zjP(x:Str):zc6 x 1=x:=congrArg Str.mk (by rw [List.replicate_one,List.flatten_singleton,Array.toArray_toList])
theorem zjQ(n:Nat):zc6 ⟨#[]⟩ n=⟨#[]⟩:=zgb (by rw [zfB];exact beq_of_eq (Nat.mul_zero n))
theorem zic(x:Str)(n:Nat):zc6 x n=⟨(List.replicate n x.cps).foldl (·++·) #[]⟩:=congrArg Str.mk (Array.toList_inj.mp ((zby x.cps n #[]).symm))
theorem zpE{n:Int}(h0:0<n)(h1:n≤1000):1000≤((2:Int) ^ 63-1) / n:=Int.le_ediv_of_mul_le h0 (by lia)
theorem zjV{x:Str}{n:Int}{t u:Tok}(S:StoreOk prog w hB s.heap ι σ)(B:hB.StaysIn s.heap)(h0:0≤n)(h1:n≤1000)(h2:x.length≤1000):SimV prog w hB A (binaryOp .Mult (.str x t) (.int n u)) (M.ret (.str (zc6 x n.toNat))) s ι σ:=by
 have hmul:x.length*n.toNat≤1000*1000:=Nat.mul_le_mul h2 (by lia)
 refine Sim.val S B rfl fun Q E h=>P.mul_str (by rw [decide_eq_false (by lia),decide_eq_false (by lia)];rfl) (fun h3 h4 h5=>?_) (fun _ _=>decide_eq_false (Nat.not_lt.mpr (Nat.le_trans hmul (by decide)))) ?_
 ·have:=zpE (n:=n) (by lia) h1
  lia
 ·split
  ·rename_i h3
   exact ⟨by decide,h _ _ (by rw [show n.toNat=0 by lia];exact .str _ _)⟩
  ·split
   ·rename_i h3 h4
    have:zc6 x n.toNat=x:=by
     rcases Bool.or_eq_true_iff.mp h4 with q | q
     ·rw [show n.toNat=1 by have:=eq_of_beq q;lia,zjP]
     ·rw [zgb q,zjQ]
    exact h _ _ (by rw [this];exact .str _ _)
   ·rw [← zic]
    exact ⟨by rw [zfB,Nat.mul_comm];exact Nat.le_trans hmul (by decide),h _ _ (.str _ _)⟩
theorem zjW{cx:Cx}{p:Pos}{m:Int}{u:Tok}{xs:List PV}{l:Addr}{vs:Array Value}{n:Nat}(S:StoreOk prog w hB s.heap ι σ)(B:hB.StaysIn s.heap) (e:s.heap.get? l=some { cls:=.type "list",data:=.seq vs n }) (rl:RepL s.heap ι σ xs vs.toList)
  (h0:0≤m) (h1:m≤1000) (h2:xs.length≤1000):SimV prog w hB A (binaryOp .Mult (.ref l) (.int m u)) (zaw cx p (zji xs m.toNat)) s ι σ:=by
 have hx:xs.length=vs.size:=rl.length
 have hmul:vs.size*m.toNat≤1000*1000:=Nat.mul_le_mul (by lia) (by lia)
 have q:(List.replicate m.toNat vs.toList).flatten.toArray=List.foldl (fun x1 x2=>x1++x2) #[] (List.replicate (if vs.isEmpty=true then 0 else m.toNat) vs):=by
  apply Array.toList_inj.mp
  rw [zby]
  by_cases hv:vs.isEmpty=true
  ·rw [if_pos hv]
   have:vs=#[]:=Array.isEmpty_iff.mp hv
   subst this;simp
  ·rw [if_neg hv];simp
 refine zb1 S B (zja rl m.toNat) fun Q E k=>?_
 refine wpAny_binaryOp_repeat_ref (T:="list") (U:="int") (by decide) ⟨_,e,rfl⟩ (fun s'=>typeIs_int s' m u) noFill_list_mul F.fills_int_mul F.slot_int_rmul repeat_list F.slot_int_index.lookup
  (call_meets F.slot_int_rmul (typeIs_int s m u) F.entry_int_rmul (F.args_int_rmul_2 _ _) (int___rmul___int_list m u _ vs n)
   ⟨e,rfl,⟨_,e,rfl⟩,call_meets F.slot_list_mul ⟨_,e,rfl⟩ F.entry_list_mul (F.args_list_mul_2 _ _)
    (AutoListH.list___mul___list_int_3 _ vs n m u (by simp [Builtin.List.listFitsIndex];lia) (by lia) (by simp [Builtin.List.listTooLong,sizeLine];lia))
    ⟨e,?_⟩⟩)
 rw [← q]
 exact k s.toks
theorem rep3{n:Int}{k:Nat} (h:(decide (0≤n)&&decide (n≤1000)&&decide (k≤1000))=true):0≤n∧n≤1000∧k≤1000:=by
 rw [Bool.and_eq_true,Bool.and_eq_true] at h
 exact ⟨of_decide_eq_true h.1.1,of_decide_eq_true h.1.2,of_decide_eq_true h.2⟩
theorem zoO{cx:Cx}{p:Pos}{a b:PV}{x y:Value}(S:StoreOk prog w hB s.heap ι σ)(B:hB.StaysIn s.heap)(ra:Rep s.heap ι σ a x)(rb:Rep s.heap ι σ b y):SimV prog w hB A (binaryOp .Add x y) (addV cx p a b) s ι σ:=by
 cases a with
 | int i=>obtain ⟨t,rfl⟩:=ra.inv;exact Sim.onInt rb fun j u=>Sim.val S B rfl fun Q E h=>P.add_int (h _ _ (.int _ _))
 | str x=>obtain ⟨t,rfl⟩:=ra.inv;exact Sim.onStr rb fun y u=>Sim.cond (fun hb=>zj7 S B (of_decide_eq_true hb)) fun _=>Sim.fail
 | tup xs=>obtain ⟨l,vs,n,rfl,e,nl,rl⟩:=ra.inv;exact Sim.onTup rb fun ys l' ws n' e' nl' rl'=>Sim.cond (fun hb=>zj6 S B e nl rl e' nl' rl' (of_decide_eq_true hb)) fun _=>Sim.fail
 | lst xs=>obtain ⟨l,vs,n,rfl,e,nl,rl⟩:=ra.inv;exact Sim.onLst rb fun ys l' ws n' e' nl' rl'=>Sim.cond (fun hb=>zj8 S B e rl e' rl' (of_decide_eq_true hb)) fun _=>Sim.fail
 | _=>exact Sim.fail
theorem zoI{cx:Cx}{p:Pos}{a b:PV}{x y:Value}(S:StoreOk prog w hB s.heap ι σ)(B:hB.StaysIn s.heap)(ra:Rep s.heap ι σ a x)(rb:Rep s.heap ι σ b y):SimV prog w hB A (binaryOp .Mult x y) (mulV cx p a b) s ι σ:=by
 refine Sim.onInt rb fun n u=>?_
 cases a with
 | int i=>obtain ⟨t,rfl⟩:=ra.inv;exact Sim.cond (fun hb=>Sim.val S B rfl fun Q E h=>P.mul_int (h _ _ (.int _ _)) ((Bool.or_eq_true_iff.mp hb).elim (fun q=>IntMulOk.of_left (zdx q)) fun q=>IntMulOk.of_right (zdx q))) fun _=>Sim.fail
 | str x=>obtain ⟨t,rfl⟩:=ra.inv;exact Sim.cond (fun hb=>zjV S B (rep3 hb).1 (rep3 hb).2.1 (rep3 hb).2.2) fun _=>Sim.fail
 | lst xs=>obtain ⟨l,vs,m,rfl,e,nl,rl⟩:=ra.inv;exact Sim.cond (fun hb=>zjW S B e rl (rep3 hb).1 (rep3 hb).2.1 (rep3 hb).2.2) fun _=>Sim.fail
 | _=>exact Sim.fail
theorem zlt{cx:Cx}{p:Pos}{op:Operator}{a b:PV}{x y:Value}(S:StoreOk prog w hB s.heap ι σ)(B:hB.StaysIn s.heap)(ra:Rep s.heap ι σ a x)(rb:Rep s.heap ι σ b y) :
  SimV prog w hB A (binaryOp op x y) (znR cx p op a b) s ι σ:=by
 cases op with
 | Add=>exact zoO S B ra rb
 | Mult=>exact zoI S B ra rb
 | Sub=>exact Sim.onInt (t:=fun x=>binaryOp .Sub x y) ra fun i t=>Sim.onInt rb fun j u=>Sim.val S B rfl fun Q E h=>P.sub_int (h _ _ (.int _ _))
 | FloorDiv=>
  refine Sim.onInt (t:=fun x=>binaryOp .FloorDiv x y) ra fun i t=>Sim.onInt rb fun j u=>Sim.cond (fun hb=>?_) (fun _=>Sim.fail)
  have h1:=of_decide_eq_true (Bool.and_eq_true_iff.mp hb).1
  have h2:=of_decide_eq_true (Bool.and_eq_true_iff.mp hb).2
  refine Sim.val S B rfl fun Q E h=>AutoIntOps.floordiv_1 (fun q=>Int.ne_of_gt h1 (eq_of_beq q)) ?_ (h _ _ (.int _ _))
  rw [PyProof.noPylong_small (by lia)];exact Bool.false_ne_true
 | Mod=>
  refine Sim.onInt (t:=fun x=>binaryOp .Mod x y) ra fun i t=>Sim.onInt rb fun j u=>Sim.cond (fun hb=>?_) (fun _=>Sim.fail)
  exact Sim.val S B rfl fun Q E h=>AutoIntOps.mod_1 (fun q=>Int.ne_of_gt (of_decide_eq_true hb) (eq_of_beq q)) (h _ _ (.int _ _))
 | _=>exact Sim.fail
end
end Mine
namespace Mine
open PySem PySem.SeqAt
theorem zaR{α β:Type}{f:α→Option β}{x:α}{xs:List α}{zs:List β}(h:zar f (x::xs)=some zs):∃ y ys,f x=some y∧zar f xs=some ys∧zs=y::ys:=by
 simp only [zar] at h
 cases hf:f x with
 | none=>rw [hf] at h;cases h
 | some y=>
  rw [hf] at h
  cases hr:zar f xs with
  | none=>rw [hr] at h;cases h
  | some ys=>rw [hr] at h;cases h;exact ⟨y,ys,rfl,rfl,rfl⟩
theorem zaz{α β:Type}{f:α→Option β}:∀{xs:List α}{zs:List β},zar f xs=some zs→zs.length=xs.length
 | [],_,h=>by cases h;rfl
 | _::xs,_,h=>by obtain ⟨y,ys,_,h2,rfl⟩:=zaR h;simp [zaz h2]
noncomputable def zhr(xs ys:List PV)(j:Nat):Bool:=match xs[j]?,ys[j]? with
 | some a,some b=>eqv a b
 | _,_=>true
theorem ze6:∀ xs ys:List PV,((List.range (min xs.length ys.length)).all (zhr xs ys)&&xs.length==ys.length)=eqvs xs ys
 | [],[]=>rfl
 | [],_::_=>Bool.and_false _
 | _::_,[]=>Bool.and_false _
 | x::xs,y::ys=>by
  have ih:=ze6 xs ys
  have e1:min (x::xs).length (y::ys).length=min xs.length ys.length+1:=by simp only [List.length_cons];lia
  have e2:((x::xs).length==(y::ys).length)=(xs.length==ys.length):=by simp
  have e3:(List.range (min xs.length ys.length+1)).all (zhr (x::xs) (y::ys))=(eqv x y&&(List.range (min xs.length ys.length)).all (zhr xs ys)):=by
   rw [List.range_succ_eq_map,List.all_cons,List.all_map]
   congr 1
  rw [e1,e2,e3,Bool.and_assoc,ih];rfl
theorem zce{xs ys:List PV}(h:xs.length=ys.length):(List.range xs.length).all (zhr xs ys)=eqvs xs ys:=by
 have:=ze6 xs ys
 rw [← h,Nat.min_self] at this
 simpa using this
theorem zbW{xs ys:List PV}(h:xs.length≠ys.length):eqvs xs ys=false:=by
 rw [← ze6 xs ys];simp [h]
section
variable {prog:Program} {w:World} {hB:Heap} {h:Heap} {ι:Ad} {σ:zab}
inductive View (h:Heap) (ι:Ad) (σ:zab) (n:Nat):PV→Value→Prop
 | none:View h ι σ n .none .none
 | bool (b:Bool):View h ι σ n (.bool b) (.bool b)
 | int (i:Int) (t:Tok):View h ι σ n (.int i) (.int i t)
 | str (x:Str) (t:Tok):View h ι σ n (.str x) (.str x t)
 | lst {l:Addr} {vs:Array Value} {k:Nat} {xs zs:List PV}:h.get? l=some { cls:=.type "list",data:=.seq vs k }→RepL h ι σ xs vs.toList→zar (whole σ n) xs=some zs→View h ι σ n (.lst zs) (.ref l)
 | tup {l:Addr} {vs:Array Value} {k:Nat} {xs zs:List PV}:h.get? l=some { cls:=.type "tuple",data:=.seq vs k }→RepL h ι σ xs vs.toList→zar (whole σ n) xs=some zs→View h ι σ n (.tup zs) (.ref l)
theorem view(S:StoreOk prog w hB h ι σ){n:Nat}{a x:PV}{v:Value}(r:Rep h ι σ a v)(e:whole σ (n+1) a=some x):View h ι σ n x v:=by
 cases r with
 | none=>cases e;exact .none
 | bool b=>cases e;exact .bool b
 | int i t=>cases e;exact .int i t
 | str y t=>cases e;exact .str y t
 | tup e' _ rl=>
  simp only [whole] at e
  obtain ⟨zs,h1,rfl⟩:=Option.map_eq_some_iff.mp e
  exact .tup e' rl h1
 | lst e' _ rl=>
  simp only [whole] at e
  obtain ⟨zs,h1,rfl⟩:=Option.map_eq_some_iff.mp e
  exact .lst e' rl h1
 | ref hi=>
  simp only [whole] at e
  split at e
  ·rename_i xs hc
   obtain ⟨zs,h1,rfl⟩:=Option.map_eq_some_iff.mp e
   obtain ⟨vs,⟨k,hp⟩,rl⟩:=S.ok _ _ _ hi hc
   exact .lst hp rl h1
  ·cases e
 | exc=>cases e
theorem zmZ{n m:Nat} (ih:∀{x y:PV}{v:Value},View h ι σ n x v→View h ι σ m y v→x=y) (S:StoreOk prog w hB h ι σ) {xs:List PV} {vs:List Value} (r:RepL h ι σ xs vs) :
  ∀{ys zs us:List PV},RepL h ι σ ys vs→zar (whole σ (n+1)) xs=some zs→zar (whole σ (m+1)) ys=some us→zs=us:=by
 induction vs generalizing xs with
 | nil=>intro ys zs us r' e e';cases r;cases r';cases e;cases e';rfl
 | cons v vs ihv=>
  intro ys zs us r' e e'
  cases r with
  | cons r rs=>
   cases r' with
   | cons r' rs'=>
    obtain ⟨y,ys,h1,h2,rfl⟩:=zaR e
    obtain ⟨u,us,k1,k2,rfl⟩:=zaR e'
    rw [ih (view S r h1) (view S r' k1),ihv rs rs' h2 k2]
theorem zfz{n:Nat}(hn:n=0){xs zs:List PV}(e:zar (whole σ n) xs=some zs):xs=[]∧zs=[]:=by
 subst hn
 cases xs with
 | nil=>cases e;exact ⟨rfl,rfl⟩
 | cons x xs=>obtain ⟨y,ys,h1,_⟩:=zaR e;cases h1
theorem zi7{n m:Nat} (ih:∀ k,n=k+1→∀ l,m=l+1→∀{x y:PV}{v:Value},View h ι σ k x v→View h ι σ l y v→x=y) (S:StoreOk prog w hB h ι σ) {xs ys zs us:List PV} {vs:List Value} (r:RepL h ι σ xs vs) (r':RepL h ι σ ys vs)
  (e:zar (whole σ n) xs=some zs) (e':zar (whole σ m) ys=some us):zs=us:=by
 have hlen:xs.length=ys.length:=r.length.trans r'.length.symm
 cases n with
 | zero=>
  obtain ⟨rfl,rfl⟩:=zfz rfl e
  have:ys=[]:=List.length_eq_zero_iff.mp hlen.symm
  subst this;cases e';rfl
 | succ n=>
  cases m with
  | zero=>
   obtain ⟨rfl,rfl⟩:=zfz rfl e'
   have:xs=[]:=List.length_eq_zero_iff.mp hlen
   subst this;cases e;rfl
  | succ m=>exact zmZ (ih n rfl m rfl) S r r' e e'
theorem zg4{n m:Nat} (ih:∀ k,n=k+1→∀ l,m=l+1→∀{x y:PV}{v:Value},View h ι σ k x v→View h ι σ l y v→x=y) (S:StoreOk prog w hB h ι σ) {x y:PV} {v:Value} (a:View h ι σ n x v) (b:View h ι σ m y v):x=y:=by
 cases a with
 | lst e r o=>cases b with
  | lst e' r' o'=>rw [e] at e';cases e';rw [zi7 ih S r r' o o']
  | tup e'=>rw [e] at e';simp at e'
 | tup e r o=>cases b with
  | lst e'=>rw [e] at e';simp at e'
  | tup e' r' o'=>rw [e] at e';cases e';rw [zi7 ih S r r' o o']
 | _=>cases b;rfl
theorem zg5(S:StoreOk prog w hB h ι σ)(n:Nat):∀(m:Nat){x y:PV}{v:Value},View h ι σ n x v→View h ι σ m y v→x=y:=by
 induction n with
 | zero=>exact fun m _ _ _ a b=>zg4 (fun k q=>absurd q (by lia)) S a b
 | succ n ih=>exact fun m _ _ _ a b=>zg4 (fun k q l _=>by cases q;exact ih l) S a b
theorem zdM{α β:Type}{f:α→Option β}{P:β→Prop}(hP:∀ x y,f x=some y→P y):∀{xs:List α}{zs:List β},zar f xs=some zs→∀ z∈zs,P z
 | [],_,e=>by cases e;intro z hz;cases hz
 | x::xs,_,e=>by
  obtain ⟨y,ys,h1,h2,rfl⟩:=zaR e
  intro z hz
  rcases List.mem_cons.mp hz with rfl | hz
  ·exact hP x z h1
  ·exact zdM hP h2 z hz
theorem zgD:∀{zs:List PV},(∀ z∈zs,eqv z z=true)→eqvs zs zs=true
 | [],_=>rfl
 | z::zs,h=>Bool.and_eq_true_iff.mpr ⟨h z (.head _),zgD fun y hy=>h y (.tail _ hy)⟩
theorem ziI(n:Nat):∀{x a:PV},whole σ n a=some x→eqv x x=true:=by
 induction n with
 | zero=>intro x a e;cases e
 | succ n ih=>
  have sq:∀{xs:List PV}{x:PV}{c:List PV→PV}(_:∀ zs,eqv (c zs) (c zs)=eqvs zs zs),(zar (whole σ n) xs).map c=some x→eqv x x=true:=by
   intro xs x c hc e
   obtain ⟨zs,h1,rfl⟩:=Option.map_eq_some_iff.mp e
   rw [hc];exact zgD (zdM (fun x y q=>ih q) h1)
  intro x a e
  cases a with
  | none=>cases e;rfl
  | bool b=>cases e;exact beq_self_eq_true b
  | int b=>cases e;exact beq_self_eq_true b
  | str b=>cases e;exact beq_self_eq_true b
  | tup xs=>exact sq (c:=.tup) (fun _=>rfl) e
  | lst xs=>exact sq (c:=.lst) (fun _=>rfl) e
  | ref i=>
   change (match σ[i]? with | some (Cel.list xs)=>(zar (whole σ n) xs).map PV.lst | _=>Option.none)=some x at e
   cases hc:σ[i]? with
   | none=>rw [hc] at e;cases e
   | some c=>rw [hc] at e;cases c with
    | list xs=>exact sq (c:=.lst) (fun _=>rfl) e
    | dict _=>cases e
    | dead=>cases e
  | exc _=>cases e
theorem zeg(n:Nat){xs zs:List PV}(e:zar (whole σ n) xs=some zs):eqvs zs zs=true:=zgD (zdM (fun _ _ q=>ziI n q) e)
theorem zkP{n:Nat}{x:PV}{v:Value}(V:View h ι σ n x v):eqv x x=true:=by
 cases V with
 | none=>rfl
 | bool b=>exact beq_self_eq_true b
 | int b t=>exact beq_self_eq_true b
 | str b t=>exact beq_self_eq_true b
 | lst e r o=>exact zeg n o
 | tup e r o=>exact zeg n o
end
section
variable {prog:Program} {w:World} {hB:Heap} {s:Shared} {ι:Ad} {σ:zab}
theorem zeR{n m:Nat}{P:PV→PV→Value→Value→Prop} (hp:∀{a b x y:PV}{u v:Value},Rep s.heap ι σ a u→Rep s.heap ι σ b v→whole σ n a=some x→whole σ m b=some y→P x y u v) :
  ∀{xs ys zs us:List PV}{vs ws:List Value},RepL s.heap ι σ xs vs→RepL s.heap ι σ ys ws→zar (whole σ n) xs=some zs→zar (whole σ m) ys=some us→
   ∀ j (h1:j<vs.length) (h2:j<ws.length),∃ x y,zs[j]?=some x∧us[j]?=some y∧P x y vs[j] ws[j]
 | _,_,_,_,_,_,.nil,_,_,_,j,h1,_=>absurd h1 (Nat.not_lt_zero _)
 | _,_,_,_,_,_,.cons _ _,.nil,_,_,j,_,h2=>absurd h2 (Nat.not_lt_zero _)
 | _,_,_,_,_,_,.cons r rs,.cons r' rs',e,e',j,h1,h2=>by
  obtain ⟨y,ys,k1,k2,rfl⟩:=zaR e
  obtain ⟨u,us,l1,l2,rfl⟩:=zaR e'
  cases j with
  | zero=>exact ⟨y,u,rfl,rfl,hp r r' k1 l1⟩
  | succ j=>exact zeR hp rs rs' k2 l2 j (Nat.lt_of_succ_lt_succ h1) (Nat.lt_of_succ_lt_succ h2)
theorem zew{zs us:List PV}{j:Nat}{x y:PV}(h1:zs[j]?=some x)(h2:us[j]?=some y):zhr zs us j=eqv x y:=by simp only [zhr,h1,h2]
variable {A:Around} {n m:Nat}
theorem zeh(S:StoreOk prog w hB s.heap ι σ){x y:PV}{l l':Addr}(e:l=l')(vx:View s.heap ι σ n x (.ref l))(vy:View s.heap ι σ m y (.ref l')):EqAt A s (.ref l) (.ref l') (eqv x y):=by
 subst e
 rw [zg5 S n m vx vy,zkP vy]
 exact EqAt.same _
theorem zhp{l l':Addr}{vs vs':Array Value}{k k':Nat}{xs zs xs' zs':List PV} (e:s.heap.get? l=some { cls:=.type "list",data:=.seq vs k }) (r:RepL s.heap ι σ xs vs.toList) (o:zar (whole σ n) xs=some zs)
  (e':s.heap.get? l'=some { cls:=.type "list",data:=.seq vs' k' }) (r':RepL s.heap ι σ xs' vs'.toList) (o':zar (whole σ m) xs'=some zs') (hu:A.units<cLine)
  (he:∀{a b x y:PV}{u v:Value},Rep s.heap ι σ a u→Rep s.heap ι σ b v→whole σ n a=some x→whole σ m b=some y→EqAt A.in1 s u v (eqv x y)):RcAt A s (.ref l) (.ref l') (eqv (.lst zs) (.lst zs')):=by
 have hl:s.heap.IsList l vs:=⟨_,e,rfl,_,rfl⟩
 have hl':s.heap.IsList l' vs':=⟨_,e',rfl,_,rfl⟩
 have n1:zs.length=vs.size:=(zaz o).trans r.length
 have n2:zs'.length=vs'.size:=(zaz o').trans r'.length
 show RcAt A s (.ref l) (.ref l') (eqvs zs zs')
 by_cases hsz:vs.size=vs'.size
 ·rw [← zce (by lia:zs.length=zs'.length),n1]
  refine RcAt.lists hl hl' hsz hu fun j j1 j2=>?_
  obtain ⟨x,y,h1,h2,h3⟩:=zeR (s:=s) (P:=fun x y u v=>EqAt A.in1 s u v (eqv x y)) he r r' o o' j (by simpa using j1) (by simpa using j2)
  rw [zew h1 h2];simpa using h3
 ·rw [zbW (by lia:zs.length≠zs'.length)]
  exact RcAt.lists_lengths hl hl' (by simpa using hsz) hu
theorem zfG{l l':Addr}{vs vs':Array Value}{k k':Nat}{xs zs xs' zs':List PV} (e:s.heap.get? l=some { cls:=.type "tuple",data:=.seq vs k }) (r:RepL s.heap ι σ xs vs.toList) (o:zar (whole σ n) xs=some zs)
  (e':s.heap.get? l'=some { cls:=.type "tuple",data:=.seq vs' k' }) (r':RepL s.heap ι σ xs' vs'.toList) (o':zar (whole σ m) xs'=some zs') (hu:A.units<cLine)
  (he:∀{a b x y:PV}{u v:Value},Rep s.heap ι σ a u→Rep s.heap ι σ b v→whole σ n a=some x→whole σ m b=some y→EqAt A.in1 s u v (eqv x y)):RcAt A s (.ref l) (.ref l') (eqv (.tup zs) (.tup zs')):=by
 have hl:s.heap.IsTuple l vs:=⟨_,e,rfl,_,rfl⟩
 have hl':s.heap.IsTuple l' vs':=⟨_,e',rfl,_,rfl⟩
 have n1:zs.length=vs.size:=(zaz o).trans r.length
 have n2:zs'.length=vs'.size:=(zaz o').trans r'.length
 show RcAt A s (.ref l) (.ref l') (eqvs zs zs')
 rw [← ze6 zs zs',n1,n2]
 refine RcAt.tuples hl hl' hu fun j j1 j2=>?_
 obtain ⟨x,y,h1,h2,h3⟩:=zeR (s:=s) (P:=fun x y u v=>EqAt A.in1 s u v (eqv x y)) he r r' o o' j (by simpa using j1) (by simpa using j2)
 rw [zew h1 h2];simpa using h3
theorem zmt(S:StoreOk prog w hB s.heap ι σ){x y:PV}{u v:Value}(vx:View s.heap ι σ n x u)(vy:View s.heap ι σ m y v)(hu:A.units<cLine)
  (he:∀{a b x y:PV}{u v:Value},Rep s.heap ι σ a u→Rep s.heap ι σ b v→whole σ n a=some x→whole σ m b=some y→EqAt A.in1 s u v (eqv x y)):EqAt A s u v (eqv x y):=by
  cases vx with
  | none=>cases vy with
   | none=>exact EqAt.same _
   | bool y=>exact EqAt.none_bool  y
   | int y u=>exact EqAt.none_int  y u
   | str y u=>exact EqAt.none_str  y u
   | lst e r o=>exact EqAt.none_list  ⟨_,e,rfl,_,rfl⟩ hu
   | tup e r o=>exact EqAt.none_tuple  ⟨_,e,rfl,_,rfl⟩ hu
  | bool x=>cases vy with
   | none=>exact EqAt.bool_none x
   | bool y=>exact EqAt.bool_bool x y
   | int y u=>exact EqAt.bool_int x y u
   | str y u=>exact EqAt.bool_str x y u
   | lst e r o=>exact EqAt.bool_list x ⟨_,e,rfl,_,rfl⟩ hu
   | tup e r o=>exact EqAt.bool_tuple x ⟨_,e,rfl,_,rfl⟩ hu
  | int x t=>cases vy with
   | none=>exact EqAt.int_none x t
   | bool y=>exact EqAt.int_bool x t y
   | int y u=>exact EqAt.int_int x t y u
   | str y u=>exact EqAt.int_str x t y u
   | lst e r o=>exact EqAt.int_list x t ⟨_,e,rfl,_,rfl⟩ hu
   | tup e r o=>exact EqAt.int_tuple x t ⟨_,e,rfl,_,rfl⟩ hu
  | str x t=>cases vy with
   | none=>exact EqAt.str_none x t
   | bool y=>exact EqAt.str_bool x t y
   | int y u=>exact EqAt.str_int x t y u
   | str y u=>exact EqAt.str_str x t y u
   | lst e r o=>exact EqAt.str_list x t ⟨_,e,rfl,_,rfl⟩ hu
   | tup e r o=>exact EqAt.str_tuple x t ⟨_,e,rfl,_,rfl⟩ hu
  | @lst l1 _ _ _ _ e r o=>cases vy with
   | none=>exact EqAt.list_none  ⟨_,e,rfl,_,rfl⟩ hu
   | bool y=>exact EqAt.list_bool y ⟨_,e,rfl,_,rfl⟩ hu
   | int y u=>exact EqAt.list_int y u ⟨_,e,rfl,_,rfl⟩ hu
   | str y u=>exact EqAt.list_str y u ⟨_,e,rfl,_,rfl⟩ hu
   | tup e' r' o'=>exact EqAt.list_tuple ⟨_,e,rfl,_,rfl⟩ ⟨_,e',rfl,_,rfl⟩ hu
   | @lst l2 _ _ _ _ e' r' o'=>
    by_cases hll:l1=l2
    ·exact zeh S hll (.lst e r o) (.lst e' r' o')
    ·exact EqAt.of_refs hll (zhp e r o e' r' o' hu he)
  | @tup l1 _ _ _ _ e r o=>cases vy with
   | none=>exact EqAt.tuple_none  ⟨_,e,rfl,_,rfl⟩ hu
   | bool y=>exact EqAt.tuple_bool y ⟨_,e,rfl,_,rfl⟩ hu
   | int y u=>exact EqAt.tuple_int y u ⟨_,e,rfl,_,rfl⟩ hu
   | str y u=>exact EqAt.tuple_str y u ⟨_,e,rfl,_,rfl⟩ hu
   | lst e' r' o'=>exact EqAt.tuple_list ⟨_,e,rfl,_,rfl⟩ ⟨_,e',rfl,_,rfl⟩ hu
   | @tup l2 _ _ _ _ e' r' o'=>
    by_cases hll:l1=l2
    ·exact zeh S hll (.tup e r o) (.tup e' r' o')
    ·exact EqAt.of_refs hll (zfG e r o e' r' o' hu he)
theorem zlE{x y:PV}{u v:Value}(vx:View s.heap ι σ n x u)(vy:View s.heap ι σ m y v)(hu:A.units<cLine)
  (he:∀{a b x y:PV}{u v:Value},Rep s.heap ι σ a u→Rep s.heap ι σ b v→whole σ n a=some x→whole σ m b=some y→EqAt A.in1 s u v (eqv x y)):RcAt A s u v (eqv x y):=by
  cases vx with
  | none=>cases vy with
   | none=>exact RcAt.none_none
   | bool y=>exact RcAt.none_bool  y
   | int y u=>exact RcAt.none_int  y u
   | str y u=>exact RcAt.none_str  y u
   | lst e r o=>exact RcAt.none_list  ⟨_,e,rfl,_,rfl⟩ hu
   | tup e r o=>exact RcAt.none_tuple  ⟨_,e,rfl,_,rfl⟩ hu
  | bool x=>cases vy with
   | none=>exact RcAt.bool_none x
   | bool y=>exact RcAt.bool_bool x y
   | int y u=>exact RcAt.bool_int x y u
   | str y u=>exact RcAt.bool_str x y u
   | lst e r o=>exact RcAt.bool_list x ⟨_,e,rfl,_,rfl⟩ hu
   | tup e r o=>exact RcAt.bool_tuple x ⟨_,e,rfl,_,rfl⟩ hu
  | int x t=>cases vy with
   | none=>exact RcAt.int_none x t
   | bool y=>exact RcAt.int_bool x t y
   | int y u=>exact RcAt.int_int x t y u
   | str y u=>exact RcAt.int_str x t y u
   | lst e r o=>exact RcAt.int_list x t ⟨_,e,rfl,_,rfl⟩ hu
   | tup e r o=>exact RcAt.int_tuple x t ⟨_,e,rfl,_,rfl⟩ hu
  | str x t=>cases vy with
   | none=>exact RcAt.str_none x t
   | bool y=>exact RcAt.str_bool x t y
   | int y u=>exact RcAt.str_int x t y u
   | str y u=>exact RcAt.str_str x t y u
   | lst e r o=>exact RcAt.str_list x t ⟨_,e,rfl,_,rfl⟩ hu
   | tup e r o=>exact RcAt.str_tuple x t ⟨_,e,rfl,_,rfl⟩ hu
  | lst e r o=>cases vy with
   | none=>exact RcAt.list_none  ⟨_,e,rfl,_,rfl⟩ hu
   | bool y=>exact RcAt.list_bool y ⟨_,e,rfl,_,rfl⟩ hu
   | int y u=>exact RcAt.list_int y u ⟨_,e,rfl,_,rfl⟩ hu
   | str y u=>exact RcAt.list_str y u ⟨_,e,rfl,_,rfl⟩ hu
   | tup e' r' o'=>exact RcAt.list_tuple ⟨_,e,rfl,_,rfl⟩ ⟨_,e',rfl,_,rfl⟩ hu
   | lst e' r' o'=>exact zhp e r o e' r' o' hu he
  | tup e r o=>cases vy with
   | none=>exact RcAt.tuple_none  ⟨_,e,rfl,_,rfl⟩ hu
   | bool y=>exact RcAt.tuple_bool y ⟨_,e,rfl,_,rfl⟩ hu
   | int y u=>exact RcAt.tuple_int y u ⟨_,e,rfl,_,rfl⟩ hu
   | str y u=>exact RcAt.tuple_str y u ⟨_,e,rfl,_,rfl⟩ hu
   | lst e' r' o'=>exact RcAt.tuple_list ⟨_,e,rfl,_,rfl⟩ ⟨_,e',rfl,_,rfl⟩ hu
   | tup e' r' o'=>exact zfG e r o e' r' o' hu he
theorem zlD{l l':Addr}{vs vs':Array Value}{k k':Nat}{xs zs xs' zs':List PV} (e:s.heap.get? l=some { cls:=.type "list",data:=.seq vs k }) (r:RepL s.heap ι σ xs vs.toList) (o:zar (whole σ n) xs=some zs)
  (e':s.heap.get? l'=some { cls:=.type "list",data:=.seq vs' k' }) (r':RepL s.heap ι σ xs' vs'.toList) (o':zar (whole σ m) xs'=some zs') (hu:A.units<cLine)
  (he:∀{a b x y:PV}{u v:Value},Rep s.heap ι σ a u→Rep s.heap ι σ b v→whole σ n a=some x→whole σ m b=some y→EqAt A.in1 s u v (eqv x y)):RcNeAt A s (.ref l) (.ref l') (!eqv (.lst zs) (.lst zs')):=by
 have hl:s.heap.IsList l vs:=⟨_,e,rfl,_,rfl⟩
 have hl':s.heap.IsList l' vs':=⟨_,e',rfl,_,rfl⟩
 have n1:zs.length=vs.size:=(zaz o).trans r.length
 have n2:zs'.length=vs'.size:=(zaz o').trans r'.length
 show RcNeAt A s (.ref l) (.ref l') (!eqvs zs zs')
 have he':∀ j (j1:j<vs.size) (j2:j<vs'.size),EqAt A.in1 s vs[j] vs'[j] (zhr zs zs' j):=fun j j1 j2=>by
  obtain ⟨x,y,h1,h2,h3⟩:=zeR (s:=s) (P:=fun x y u v=>EqAt A.in1 s u v (eqv x y)) he r r' o o' j (by simpa using j1) (by simpa using j2)
  rw [zew h1 h2];simpa using h3
 by_cases hsz:vs.size=vs'.size
 ·rw [← zce (by lia:zs.length=zs'.length),n1]
  exact RcNeAt.lists hl hl' hsz hu he'
 ·rw [zbW (by lia:zs.length≠zs'.length)]
  exact RcNeAt.lists_lengths hl hl' (by simpa using hsz) hu
theorem zkb{l l':Addr}{vs vs':Array Value}{k k':Nat}{xs zs xs' zs':List PV} (e:s.heap.get? l=some { cls:=.type "tuple",data:=.seq vs k }) (r:RepL s.heap ι σ xs vs.toList) (o:zar (whole σ n) xs=some zs)
  (e':s.heap.get? l'=some { cls:=.type "tuple",data:=.seq vs' k' }) (r':RepL s.heap ι σ xs' vs'.toList) (o':zar (whole σ m) xs'=some zs') (hu:A.units<cLine)
  (he:∀{a b x y:PV}{u v:Value},Rep s.heap ι σ a u→Rep s.heap ι σ b v→whole σ n a=some x→whole σ m b=some y→EqAt A.in1 s u v (eqv x y)):RcNeAt A s (.ref l) (.ref l') (!eqv (.tup zs) (.tup zs')):=by
 have hl:s.heap.IsTuple l vs:=⟨_,e,rfl,_,rfl⟩
 have hl':s.heap.IsTuple l' vs':=⟨_,e',rfl,_,rfl⟩
 have n1:zs.length=vs.size:=(zaz o).trans r.length
 have n2:zs'.length=vs'.size:=(zaz o').trans r'.length
 show RcNeAt A s (.ref l) (.ref l') (!eqvs zs zs')
 have he':∀ j (j1:j<vs.size) (j2:j<vs'.size),EqAt A.in1 s vs[j] vs'[j] (zhr zs zs' j):=fun j j1 j2=>by
  obtain ⟨x,y,h1,h2,h3⟩:=zeR (s:=s) (P:=fun x y u v=>EqAt A.in1 s u v (eqv x y)) he r r' o o' j (by simpa using j1) (by simpa using j2)
  rw [zew h1 h2];simpa using h3
 rw [← ze6 zs zs',n1,n2]
 exact RcNeAt.tuples hl hl' hu he'
theorem zlC{x y:PV}{u v:Value}(vx:View s.heap ι σ n x u)(vy:View s.heap ι σ m y v)(hu:A.units<cLine)
  (he:∀{a b x y:PV}{u v:Value},Rep s.heap ι σ a u→Rep s.heap ι σ b v→whole σ n a=some x→whole σ m b=some y→EqAt A.in1 s u v (eqv x y)):RcNeAt A s u v (!eqv x y):=by
  cases vx with
  | none=>cases vy with
   | none=>exact RcNeAt.none_none
   | bool y=>exact RcNeAt.none_bool  y
   | int y u=>exact RcNeAt.none_int  y u
   | str y u=>exact RcNeAt.none_str  y u
   | lst e r o=>exact RcNeAt.none_list  ⟨_,e,rfl,_,rfl⟩ hu
   | tup e r o=>exact RcNeAt.none_tuple  ⟨_,e,rfl,_,rfl⟩ hu
  | bool x=>cases vy with
   | none=>exact RcNeAt.bool_none x
   | bool y=>exact RcNeAt.bool_bool x y
   | int y u=>exact RcNeAt.bool_int x y u
   | str y u=>exact RcNeAt.bool_str x y u
   | lst e r o=>exact RcNeAt.bool_list x ⟨_,e,rfl,_,rfl⟩ hu
   | tup e r o=>exact RcNeAt.bool_tuple x ⟨_,e,rfl,_,rfl⟩ hu
  | int x t=>cases vy with
   | none=>exact RcNeAt.int_none x t
   | bool y=>exact RcNeAt.int_bool x t y
   | int y u=>exact RcNeAt.int_int x t y u
   | str y u=>exact RcNeAt.int_str x t y u
   | lst e r o=>exact RcNeAt.int_list x t ⟨_,e,rfl,_,rfl⟩ hu
   | tup e r o=>exact RcNeAt.int_tuple x t ⟨_,e,rfl,_,rfl⟩ hu
  | str x t=>cases vy with
   | none=>exact RcNeAt.str_none x t
   | bool y=>exact RcNeAt.str_bool x t y
   | int y u=>exact RcNeAt.str_int x t y u
   | str y u=>exact RcNeAt.str_str x t y u
   | lst e r o=>exact RcNeAt.str_list x t ⟨_,e,rfl,_,rfl⟩ hu
   | tup e r o=>exact RcNeAt.str_tuple x t ⟨_,e,rfl,_,rfl⟩ hu
  | lst e r o=>cases vy with
   | none=>exact RcNeAt.list_none  ⟨_,e,rfl,_,rfl⟩ hu
   | bool y=>exact RcNeAt.list_bool y ⟨_,e,rfl,_,rfl⟩ hu
   | int y u=>exact RcNeAt.list_int y u ⟨_,e,rfl,_,rfl⟩ hu
   | str y u=>exact RcNeAt.list_str y u ⟨_,e,rfl,_,rfl⟩ hu
   | tup e' r' o'=>exact RcNeAt.list_tuple ⟨_,e,rfl,_,rfl⟩ ⟨_,e',rfl,_,rfl⟩ hu
   | lst e' r' o'=>exact zlD e r o e' r' o' hu he
  | tup e r o=>cases vy with
   | none=>exact RcNeAt.tuple_none  ⟨_,e,rfl,_,rfl⟩ hu
   | bool y=>exact RcNeAt.tuple_bool y ⟨_,e,rfl,_,rfl⟩ hu
   | int y u=>exact RcNeAt.tuple_int y u ⟨_,e,rfl,_,rfl⟩ hu
   | str y u=>exact RcNeAt.tuple_str y u ⟨_,e,rfl,_,rfl⟩ hu
   | lst e' r' o'=>exact RcNeAt.tuple_list ⟨_,e,rfl,_,rfl⟩ ⟨_,e',rfl,_,rfl⟩ hu
   | tup e' r' o'=>exact zkb e r o e' r' o' hu he
theorem zcG(S:StoreOk prog w hB s.heap ι σ):∀(n m:Nat)(A:Around){a b x y:PV}{u v:Value},Rep s.heap ι σ a u→Rep s.heap ι σ b v→whole σ n a=some x→whole σ m b=some y→A.units+n<cLine+1→EqAt A s u v (eqv x y)
 | 0,_,_,_,_,_,_,_,_,_,_,e,_,_=>by simp only [whole] at e;cases e
 | _+1,0,_,_,_,_,_,_,_,_,_,_,e,_=>by simp only [whole] at e;cases e
 | n+1,m+1,A,_,_,_,_,_,_,ra,rb,ea,eb,hu=>zmt S (view S ra ea) (view S rb eb) (by lia) fun r1 r2 e1 e2=>zcG S n m A.in1 r1 r2 e1 e2 (by rw [Around.in1_units];lia)
theorem zkc(S:StoreOk prog w hB s.heap ι σ):∀(n m:Nat)(A:Around){a b x y:PV}{u v:Value},Rep s.heap ι σ a u→Rep s.heap ι σ b v→whole σ n a=some x→whole σ m b=some y→A.units+n<cLine+1→RcAt A s u v (eqv x y)
 | 0,_,_,_,_,_,_,_,_,_,_,e,_,_=>by simp only [whole] at e;cases e
 | _+1,0,_,_,_,_,_,_,_,_,_,_,e,_=>by simp only [whole] at e;cases e
 | n+1,m+1,A,_,_,_,_,_,_,ra,rb,ea,eb,hu=>zlE (view S ra ea) (view S rb eb) (by lia) fun r1 r2 e1 e2=>zcG S n m A.in1 r1 r2 e1 e2 (by rw [Around.in1_units];lia)
theorem zka(S:StoreOk prog w hB s.heap ι σ):∀(n m:Nat)(A:Around){a b x y:PV}{u v:Value},Rep s.heap ι σ a u→Rep s.heap ι σ b v→whole σ n a=some x→whole σ m b=some y→A.units+n<cLine+1→RcNeAt A s u v (!eqv x y)
 | 0,_,_,_,_,_,_,_,_,_,_,e,_,_=>by simp only [whole] at e;cases e
 | _+1,0,_,_,_,_,_,_,_,_,_,_,e,_=>by simp only [whole] at e;cases e
 | n+1,m+1,A,_,_,_,_,_,_,ra,rb,ea,eb,hu=>zlC (view S ra ea) (view S rb eb) (by lia) fun r1 r2 e1 e2=>zcG S n m A.in1 r1 r2 e1 e2 (by rw [Around.in1_units];lia)
end
end Mine
namespace Mine
open PySem PySem.SeqAt PySem.W
section
variable {prog:Program} {w:World} {hB:Heap} {A:Around} {s:Shared} {ι:Ad} {σ:zab}
theorem zci(a:PV):(∃ x,wholeM a σ=.ok x σ∧whole σ zan a=some x)∨wholeM a σ=.stuck:=by
 unfold wholeM
 cases h:whole σ zan a with
 | none=>exact .inr rfl
 | some x=>exact .inl ⟨x,rfl,rfl⟩
theorem zf9(a:List PV):(∃ x,zdH a σ=.ok x σ∧zar (whole σ zan) a=some x)∨zdH a σ=.stuck:=by
 unfold zdH
 cases h:zar (whole σ zan) a with
 | none=>exact .inr rfl
 | some x=>exact .inl ⟨x,rfl,rfl⟩
theorem zai{α β γ:Type}(x:M α)(f:α→M β)(g:β→M γ):((x.bind f).bind g) σ=(x.bind fun a=>(f a).bind g) σ:=by
 unfold M.bind
 cases x σ <;> rfl
open Classical in
noncomputable def hitE(h:Heap)(ι:Ad)(σ:zab)(n:Nat)(x':PV)(y:Value):Bool:=decide (∃ a z,Rep h ι σ a y∧whole σ n a=some z∧eqv z x'=true)
open Classical in
theorem zmm(S:StoreOk prog w hB s.heap ι σ){n:Nat}{x' a z:PV}{y:Value}(r:Rep s.heap ι σ a y)(e:whole σ n a=some z):hitE s.heap ι σ n x' y=eqv z x':=by
 unfold hitE
 cases n with
 | zero=>cases e
 | succ n=>
  by_cases h:eqv z x'=true
  ·rw [h];exact decide_eq_true ⟨a,z,r,e,h⟩
  ·rw [Bool.not_eq_true] at h
   rw [h]
   refine decide_eq_false ?_
   rintro ⟨b,u,r',e',h'⟩
   rw [zg5 S n n (view S r' e') (view S r e),h] at h'
   cases h'
theorem hits(S:StoreOk prog w hB s.heap ι σ){n:Nat}{x':PV}:∀{xs zs:List PV}{vs:List Value},RepL s.heap ι σ xs vs→zar (whole σ n) xs=some zs→vs.map (hitE s.heap ι σ n x')=zs.map fun z=>eqv z x'
 | _,_,_,.nil,e=>by cases e;rfl
 | _,_,_,.cons r rs,e=>by
  obtain ⟨y,ys,h1,h2,rfl⟩:=zaR e
  rw [List.map_cons,List.map_cons,zmm S r h1,hits S rs h2]
theorem zoh(S:StoreOk prog w hB s.heap ι σ){n m:Nat}{x x':PV}{u:Value}(rx:Rep s.heap ι σ x u)(ex:whole σ m x=some x')(hu:A.units+n<cLine+1) :
  ∀{xs zs:List PV}{vs:List Value},RepL s.heap ι σ xs vs→zar (whole σ n) xs=some zs→∀ y∈vs,EqAt A s y u (hitE s.heap ι σ n x' y)
 | _,_,_,.nil,_,_,h=>nomatch h
 | _,_,_,.cons r rs,e,y,h=>by
  obtain ⟨z,zs,h1,h2,rfl⟩:=zaR e
  rcases List.mem_cons.mp h with rfl | h
  ·rw [zmm S r h1];exact zcG S n m A r rx h1 ex hu
  ·exact zoh S rx ex hu rs h2 y h
theorem znT(S:StoreOk prog w hB s.heap ι σ){n:Nat}{x':PV}{xs zs:List PV}{vs:Array Value}(r:RepL s.heap ι σ xs vs.toList)(e:zar (whole σ n) xs=some zs):vs.any (hitE s.heap ι σ n x')=zs.any fun z=>eqv z x':=by
 have:=hits S (x':=x') r e
 rw [← Array.any_toList]
 have h1:vs.toList.any (hitE s.heap ι σ n x')=(vs.toList.map (hitE s.heap ι σ n x')).any id:=by rw [List.any_map];rfl
 have h2:(zs.any fun z=>eqv z x')=(zs.map fun z=>eqv z x').any id:=by rw [List.any_map];rfl
 rw [h1,h2,this]
theorem zhi{x:PV}{ys:List PV}{u:Value}{t:Sem Value}{f:Bool→Bool}(S:StoreOk prog w hB s.heap ι σ)(B:hB.StaysIn s.heap)(rx:Rep s.heap ι σ x u){vs:Array Value}(ry:RepL s.heap ι σ ys vs.toList)(hu:A.units+600<cLine)
  (h:∀(e:Value→Bool),(∀ y,y∈vs→EqAt A.in1 s y u (e y))→∀ Q E,Q (.bool (f (vs.any e))) s→wpAny (model prog w) A t Q E s) :
  SimV prog w hB A t ((ziR x ys).bind fun r=>M.ret (.bool (f r))) s ι σ:=by
 refine Sim.res ?_ (zai _ _ _)
 refine Sim.part (fun x'=>whole σ zan x=some x') (zci x) fun x' h1=>?_
 refine Sim.res ?_ (zai _ _ _)
 refine Sim.part (fun zs=>zar (whole σ zan) ys=some zs) (zf9 ys) fun zs k1=>?_
 refine Sim.val S B rfl fun Q E hq=>h (hitE s.heap ι σ zan x') (fun y hy=>?_) Q E ?_
 ·exact zoh S rx h1 (by rw [Around.in1_units];show A.units+1+500<cLine+1;lia) ry k1 y (Array.mem_def.mp hy)
 ·rw [znT S ry k1];exact hq _ s.toks (.bool _)
theorem zoK{x c:PV}{u v:Value}(S:StoreOk prog w hB s.heap ι σ)(B:hB.StaysIn s.heap)(rx:Rep s.heap ι σ x u)(rc:Rep s.heap ι σ c v)(hu:A.units+600<cLine) :
  SimV prog w hB A (compareOp .In u v) ((items c).bind fun xs=>(ziR x xs).bind fun r=>M.ret (.bool r)) s ι σ∧SimV prog w hB A (compareOp .NotIn u v) ((items c).bind fun xs=>(ziR x xs).bind fun r=>M.ret (.bool !r)) s ι σ:=by
 constructor
 ·refine Sim.items S rc fun xs l vs n e rl=>zhi (f:=id) S B rx rl hu fun e' he Q E hq=>?_
  exact e.elim (fun e=>in_listAt e' ⟨_,e,rfl,_,rfl⟩ he hq) fun e=>in_tupleAt e' ⟨_,e.1,rfl,_,rfl⟩ he hq
 ·refine Sim.items S rc fun xs l vs n e rl=>zhi (f:=not) S B rx rl hu fun e' he Q E hq=>?_
  exact e.elim (fun e=>notIn_listAt e' ⟨_,e,rfl,_,rfl⟩ he hq) fun e=>notIn_tupleAt e' ⟨_,e.1,rfl,_,rfl⟩ he hq
theorem zfI{α β:Type}(x:PV)(k:Str→M α)(f:α→M β):(onStr x k).bind f σ=onStr x (fun y=>(k y).bind f) σ:=by cases x <;> rfl
theorem zn0{x c:PV}{u v:Value}(S:StoreOk prog w hB s.heap ι σ)(B:hB.StaysIn s.heap)(rx:Rep s.heap ι σ x u)(rc:Rep s.heap ι σ c v)(hu:A.units+600<cLine) :
  SimV prog w hB A (compareOp .In u v) ((inOp x c).bind fun r=>M.ret (.bool r)) s ι σ∧SimV prog w hB A (compareOp .NotIn u v) ((inOp x c).bind fun r=>M.ret (.bool !r)) s ι σ:=by
 have o:=zoK S B rx rc hu
 have o:inOp x c=(items c).bind (fun xs=>ziR x xs)→SimV prog w hB A (compareOp .In u v) ((inOp x c).bind fun r=>M.ret (.bool r)) s ι σ∧SimV prog w hB A (compareOp .NotIn u v) ((inOp x c).bind fun r=>M.ret (.bool !r)) s ι σ:=fun q=>And.intro (o.1.res (by rw [q];exact zai _ _ _)) (o.2.res (by rw [q];exact zai _ _ _))
 cases c with
 | str y=>
  obtain ⟨t,rfl⟩:=rc.inv
  constructor
  ·refine Sim.res ?_ (zfI x (fun s=>M.ret (zgc s y)) _)
   exact Sim.onStr (t:=fun u=>compareOp .In u (.str y t)) rx fun z t'=>Sim.val S B rfl fun Q E h=>P.in_str (h _ s.toks (.bool _))
  ·refine Sim.res ?_ (zfI x (fun s=>M.ret (zgc s y)) _)
   exact Sim.onStr (t:=fun u=>compareOp .NotIn u (.str y t)) rx fun z t'=>Sim.val S B rfl fun Q E h=>P.notIn_str (h _ s.toks (.bool _))
 | _=>exact o rfl
theorem zgw{b:PV}{y:Value}(rb:Rep s.heap ι σ b y):plainIs .none y=true∧(Value.none==y)=zgz b∧plainIs y .none=true∧(y==Value.none)=zgz b:=by
 cases b with
 | none=>cases rb.inv;exact ⟨rfl,rfl,rfl,rfl⟩
 | bool _=>cases rb.inv;exact ⟨rfl,rfl,rfl,rfl⟩
 | int _=>obtain ⟨_,rfl⟩:=rb.inv;exact ⟨rfl,rfl,rfl,rfl⟩
 | str _=>obtain ⟨_,rfl⟩:=rb.inv;exact ⟨rfl,rfl,rfl,rfl⟩
 | tup _=>obtain ⟨_,_,_,rfl,_⟩:=rb.inv;exact ⟨rfl,rfl,rfl,rfl⟩
 | lst _=>obtain ⟨_,_,_,rfl,_⟩:=rb.inv;exact ⟨rfl,rfl,rfl,rfl⟩
 | ref _=>obtain ⟨_,rfl,_⟩:=rb.inv;exact ⟨rfl,rfl,rfl,rfl⟩
 | exc _=>obtain ⟨_,_,_,rfl,_⟩:=rb.inv;exact ⟨rfl,rfl,rfl,rfl⟩
theorem zgy{b:PV}{y:Value}(p:Bool)(rb:Rep s.heap ι σ b y):plainIs (.bool p) y=true∧(Value.bool p==y)=zgA p b∧plainIs y (.bool p)=true∧(y==Value.bool p)=zgA p b:=by
 cases b with
 | none=>cases rb.inv;exact ⟨rfl,rfl,rfl,rfl⟩
 | bool q=>cases rb.inv;cases p <;> cases q <;> exact ⟨rfl,rfl,rfl,rfl⟩
 | int _=>obtain ⟨_,rfl⟩:=rb.inv;exact ⟨rfl,rfl,rfl,rfl⟩
 | str _=>obtain ⟨_,rfl⟩:=rb.inv;exact ⟨rfl,rfl,rfl,rfl⟩
 | tup _=>obtain ⟨_,_,_,rfl,_⟩:=rb.inv;exact ⟨rfl,rfl,rfl,rfl⟩
 | lst _=>obtain ⟨_,_,_,rfl,_⟩:=rb.inv;exact ⟨rfl,rfl,rfl,rfl⟩
 | ref _=>obtain ⟨_,rfl,_⟩:=rb.inv;exact ⟨rfl,rfl,rfl,rfl⟩
 | exc _=>obtain ⟨_,_,_,rfl,_⟩:=rb.inv;exact ⟨rfl,rfl,rfl,rfl⟩
theorem zeB{a b:PV}{x y:Value}{r:Bool}(ra:Rep s.heap ι σ a x)(rb:Rep s.heap ι σ b y)(e:zeC a b=some r):plainIs x y=true∧(x==y)=r:=by
 have o:zeC a b=zjl b→zgz a=false→(∀ p,zgA p a=false)→plainIs x y=true∧(x==y)=r:=by
  intro q h1 h2
  rw [q] at e
  cases b with
  | none=>cases rb.inv;cases e;exact ⟨(zgw ra).2.2.1,(zgw ra).2.2.2.trans h1⟩
  | bool p=>cases rb.inv;cases e;exact ⟨(zgy p ra).2.2.1,(zgy p ra).2.2.2.trans (h2 p)⟩
  | _=>cases e
 cases a with
 | none=>cases ra.inv;cases e;exact ⟨(zgw rb).1,(zgw rb).2.1⟩
 | bool p=>cases ra.inv;cases e;exact ⟨(zgy p rb).1,(zgy p rb).2.1⟩
 | _=>exact o rfl rfl fun _=>rfl
theorem ziJ{h:Heap}{k:Str}:∀{kvs:List (Str×PV)}{ys:List (Str×Value)}{z:PV},ys.map (·.1)=kvs.map (·.1)→RepL h ι σ (kvs.map (·.2)) (ys.map (·.2))→dat kvs k=some z→∃ v,valueAt ys k=some v∧Rep h ι σ z v
 | [],_,_,_,_,e=>by simp [dat] at e
 | (k',v')::r,[],_,e,_,_=>by simp at e
 | (k',v')::r,(j,y)::ys,z,e,rl,hz=>by
  simp only [List.map_cons,List.cons.injEq] at e rl
  obtain ⟨rfl,e⟩:=e
  cases rl with
  | cons r1 rs=>
   by_cases q:j=k
   ·subst q
    simp [dat] at hz;subst hz
    exact ⟨y,by simp [valueAt],r1⟩
   ·have:dat r k=some z:=by simpa [dat,q] using hz
    obtain ⟨v,h1,h2⟩:=ziJ e rs this
    exact ⟨v,by simpa [valueAt,q] using h1,h2⟩
theorem zjv{k:Str}:∀{kvs:List (Str×PV)}{ys:List (Str×Value)},ys.map (·.1)=kvs.map (·.1)→dat kvs k=none→valueAt ys k=none
 | [],[],_,_=>rfl
 | [],_::_,e,_=>by simp at e
 | (k',v')::r,[],e,_=>by simp at e
 | (k',v')::r,(j,y)::ys,e,hz=>by
  simp only [List.map_cons,List.cons.injEq] at e
  obtain ⟨rfl,e⟩:=e
  by_cases q:j=k
  ·subst q;simp [dat] at hz
  ·have:dat r k=none:=by simpa [dat,q] using hz
   simpa [valueAt,q] using zjv e this
theorem zoM{a b:PV}{t:Sem Value}{f:Bool→Bool}(S:StoreOk prog w hB s.heap ι σ)(B:hB.StaysIn s.heap)
  (h:∀ x' y',whole σ zan a=some x'→whole σ zan b=some y'→∀ Q E,Q (.bool (f (eqv x' y'))) s→wpAny (model prog w) A t Q E s):SimV prog w hB A t ((eqM a b).bind fun r=>M.ret (.bool (f r))) s ι σ:=by
 refine Sim.res ?_ (zai _ _ _)
 refine Sim.part (fun x'=>whole σ zan a=some x') (zci a) fun x' h1=>?_
 refine Sim.res ?_ (zai _ _ _)
 refine Sim.part (fun x'=>whole σ zan b=some x') (zci b) fun y' h2=>?_
 exact Sim.val S B rfl fun Q E hq=>h x' y' h1 h2 Q E (hq _ s.toks (.bool _))
theorem zln{a b:PV}{x y:Value}{t:Sem Value}{f:Bool→Bool}(S:StoreOk prog w hB s.heap ι σ)(B:hB.StaysIn s.heap)(ra:Rep s.heap ι σ a x)(rb:Rep s.heap ι σ b y)(hu:A.units+600<cLine)
  (h:∀ x' y',whole σ zan a=some x'→whole σ zan b=some y'→∀ Q E,Q (.bool (f (eqv x' y'))) s→wpAny (model prog w) A t Q E s)
  (hd:∀{d e:Addr}{yx yy:List (Str×Value)}{r:Bool},x=.ref d→y=.ref e→(d==sysModules)=false→(e==sysModules)=false→s.heap.DictOf (PySem.strKind prog w) d yx→s.heap.DictOf (PySem.strKind prog w) e yy→KeqHits A.in1 s yy yx r→∀ Q E,Q (.bool (f (yx.length==yy.length&&r))) s→wpAny (model prog w) A t Q E s) :
  SimV prog w hB A t ((eqX a b).bind fun r=>M.ret (.bool (f r))) s ι σ:=by
 exact zoM S B h
theorem zii{op:CmpOp}{a b:PV}{x y:Value}(S:StoreOk prog w hB s.heap ι σ)(B:hB.StaysIn s.heap)(ra:Rep s.heap ι σ a x)(rb:Rep s.heap ι σ b y)(hu:A.units+600<cLine) :
  SimV prog w hB A (compareOp op x y) (zac op a b) s ι σ:=by
 have num:∀{op:CmpOp}{f:Int→Int→Bool},(∀{i j:Int}{t u:Tok} {Q E},Q (.bool (f i j)) s→wpAny (model prog w) A (compareOp op (.int i t) (.int j u)) Q E s)→
   SimV prog w hB A (compareOp op x y) (onInt a fun i=>onInt b fun j=>M.ret (.bool (f i j))) s ι σ:=fun {op f} hw=>
  Sim.onInt (t:=fun x=>compareOp op x y) ra fun i t=>Sim.onInt rb fun j u=>Sim.val S B rfl fun Q E h=>hw (h _ s.toks (.bool _))
 have fuel:A.units+zan<cLine+1:=by show A.units+500<cLine+1;lia
 have hu1:A.units+1<cLine:=by lia
 cases op with
 | Eq=>exact zln (f:=id) S B ra rb hu (fun x' y' h1 h2 Q E hq=>zkc S zan zan A ra rb h1 h2 fuel prog w E Q hq) (fun ex ey lx ly ddx ddy hh Q E hq=>by rw [ex,ey];exact keq_eq lx ly ddx ddy (by lia) (fun _=>hh) hq)
 | NotEq=>exact zln (f:=not) S B ra rb hu (fun x' y' h1 h2 Q E hq=>zka S zan zan A ra rb h1 h2 fuel prog w E Q hq) (fun ex ey lx ly ddx ddy hh Q E hq=>by rw [ex,ey];exact keq_ne lx ly ddx ddy (by lia) (fun _=>hh) hq)
 | Lt=>exact num (f:=fun i j=>decide (i<j)) P.lt_int
 | LtE=>exact num (f:=fun i j=>decide (i≤j)) P.le_int
 | Gt=>exact num (f:=fun i j=>decide (j<i)) P.gt_int
 | GtE=>exact num (f:=fun i j=>decide (j≤i)) P.ge_int
 | Is=>exact Sim.lift fun r h=>Sim.val S B rfl fun Q E hq=>wpAny_is_plain (zeB ra rb h).1 (by rw [(zeB ra rb h).2];exact hq _ s.toks (.bool _))
 | IsNot=>exact Sim.lift fun r h=>Sim.val S B rfl fun Q E hq=>wpAny_isNot_plain (zeB ra rb h).1 (by rw [(zeB ra rb h).2];exact hq _ s.toks (.bool _))
 | In=>exact (zn0 S B ra rb hu).1
 | NotIn=>exact (zn0 S B ra rb hu).2
noncomputable abbrev RB:Heap→Ad→zab→Bool→Bool→Prop:=fun _ _ _ a b=>a=b
theorem zco{a:PV}{x:Value}(S:StoreOk prog w hB s.heap ι σ)(B:hB.StaysIn s.heap)(ra:Rep s.heap ι σ a x):Sim prog w hB A RB (truthy x) (zap a) s ι σ:=by
 cases a with
 | bool b=>cases ra.inv;exact Sim.val S B rfl fun Q E h=>wpAny_truthy_bool (h b s.toks rfl)
 | _=>exact Sim.fail
end
end Mine
namespace Mine
open PySem PySem.SeqAt PyProof.Rows
section
variable {prog:Program} {w:World} {hB:Heap} {A:Around} {s:Shared} {ι:Ad} {σ:zab}
theorem zk0(slice:Expr)(o i:Value):subscripted slice false o i=operate [i,o] (getItem o i)∨subscripted slice false o i=operate [o,i] (getItem o i):=by
 cases slice with
 | Slice _ _ st _=>cases st with
  | none=>exact .inl rfl
  | some _=>exact .inr rfl
 | _=>exact .inr rfl
theorem zbg{E:Value→Shared→Prop}{value slice:Expr}{o i:Value}{T id:String}{Q:Value→Shared→Prop}(hT:s.TypeIs o T)
  (hl:typeLookup (.type T) "__getitem__"=pure (some (.builtin id))) (h:wpAny (model prog w) A (getItem o i) Q E s) :
  wpAny (model prog w) A (subscriptTail value slice o i) Q E s:=by
 unfold subscriptTail
 refine wpAny_bind ?_
 rw [getitemInPython_of_ne hT.not_modules]
 refine wpAny_bind (wpAny_specialOf hT hl ?_)
 have fin:wpAny (model prog w) A (subscripted slice false o i) (fun r s₃=>wpAny (model prog w) A (letTemporaryGo value o r >>= fun _=>pure r) Q E s₃) E s:=by
  have h':=wpAny_mono (Q':=fun r s₃=>wpAny (model prog w) A (letTemporaryGo value o r >>= fun _=>pure r) Q E s₃) h (fun r s₃ h₃=>wpAny_bind (wpAny_letTemporaryGo (wpAny_pure h₃))) fun _ _ x=>x
  exact (zk0 slice o i).elim (fun q=>by rw [q];exact zdF h') fun q=>by rw [q];exact zdF h'
 exact wpAny_pure (wpAny_bind fin)
theorem zjD{α:Type}{xs:List α}{i:Int}{x:α}(e:atI xs i=some x):∃ k,seqIndex? i xs.length=some k∧xs[k]?=some x∧-(2 ^ 62)≤i∧i≤2 ^ 62:=by
 unfold atI at e
 split at e
 ·rename_i h
  obtain ⟨k,h1,h2⟩:=Option.bind_eq_some_iff.mp e
  exact ⟨k,h1,h2,(small_iff.mp h).1,(small_iff.mp h).2⟩
 ·cases e
theorem zfq{i:Int}{n k:Nat}(h:seqIndex? i n=some k):(0≤i∧k=i.toNat)∨(i<0∧-(n:Int)≤i∧k=(i+n).toNat):=by
 have f:∀{j:Int},(if (decide (0≤j)&&decide (j<n))=true then some j.toNat else none)=some k→0≤j∧k=j.toNat:=by
  intro j h
  by_cases c:(decide (0≤j)&&decide (j<n))=true
  ·rw [if_pos c] at h;cases h;exact ⟨of_decide_eq_true (Bool.and_eq_true_iff.mp c).1,rfl⟩
  ·rw [if_neg c] at h;cases h
 have h':=f h
 by_cases q:i<0
 ·rw [if_pos q] at h';exact .inr ⟨q,by lia,h'.2⟩
 ·rw [if_neg q] at h';exact .inl h'
theorem zeG{E:Value→Shared→Prop}{l:Addr}{vs:Array Value}{n:Nat}{k:Nat}{i:Int}{t:Tok}{x:Value}{Q:Value→Shared→Prop} (e:s.heap.get? l=some { cls:=.type "list",data:=.seq vs n })
  (hk:seqIndex? i vs.size=some k) (hx:vs[k]?=some x) (h1:-(2 ^ 62)≤i) (h2:i≤2 ^ 62) (h:Q x s):wpAny (model prog w) A (getItem (.ref l) (.int i t)) Q E s:=by
 have hl:s.heap.IsList l vs:=⟨_,e,rfl,_,rfl⟩
 rcases zfq hk with ⟨q,rfl⟩ | ⟨q,q2,rfl⟩
 ·exact wpAny_getItem_list hl q (by lia) hx h
 ·exact wpAny_getItem_list_neg hl q q2 (by lia) hx h
theorem Sim.ofLift{o:Option PV}{t:Sem Value}(h:∀ z,o=some z→SimV prog w hB A t (M.ret z) s ι σ):SimV prog w hB A t (M.lift o) s ι σ:=by
 cases o with
 | none=>exact Sim.stuck rfl
 | some z=>exact h z rfl
theorem zpU{vs:Array Value}{k:Nat}{v:Value}(h:vs.toList[k]?=some v):vs[k]?=some v:=(Array.getElem?_toList ..).symm.trans h
theorem zj0{value slice:Expr}{a:PV}{x:Value}{i:Int}{t:Tok}(S:StoreOk prog w hB s.heap ι σ)(B:hB.StaysIn s.heap)(ra:Rep s.heap ι σ a x) :
  SimV prog w hB A (subscriptTail value slice x (.int i t)) (zog a i) s ι σ:=by
 have seq:SimV prog w hB A (subscriptTail value slice x (.int i t)) ((items a).bind fun xs=>M.lift (atI xs i)) s ι σ:=by
  refine Sim.items (t:=fun x=>subscriptTail value slice x (.int i t)) S ra fun xs l vs n e rl=>Sim.ofLift fun z hz=>?_
  obtain ⟨k,h1,h2,h3,h4⟩:=zjD hz
  obtain ⟨v,hv,rv⟩:=rl.get h2
  have hv:=zpU hv
  rw [rl.length] at h1
  refine Sim.val S B rfl fun Q E hq=>?_
  rcases e with e | ⟨e,_⟩
  ·exact zbg ⟨_,e,rfl⟩ slot_list_getitem.lookup (zeG e h1 hv h3 h4 (hq _ s.toks rv))
  ·exact zbg ⟨_,e,rfl⟩ slot_tuple_getitem.lookup (PyProof.Rows.getItem_tuple ⟨_,e,rfl,_,rfl⟩ (by lia) (by lia) h1 hv (hq _ s.toks rv))
 cases a with
 | str z=>
  obtain ⟨u,rfl⟩:=ra.inv
  refine Sim.lift fun c hz=>?_
  obtain ⟨k,h1,h2,h3,h4⟩:=zjD hz
  refine Sim.val S B rfl fun Q E hq=>zbg (typeIs_str s z u) F.slot_str_getitem.lookup (P.getItem_str (by rw [decide_eq_false (by lia),decide_eq_false (by lia)];rfl) ?_ (hq _ _ (.str _ _)))
  rw [show z.length=z.cps.toList.length from rfl,h1]
  exact (Array.getElem?_toList ..).symm.trans h2
 | _=>exact seq
theorem zlk{value slice:Expr}{a b:PV}{x y:Value}(S:StoreOk prog w hB s.heap ι σ)(B:hB.StaysIn s.heap)(ra:Rep s.heap ι σ a x)(rb:Rep s.heap ι σ b y) :
  SimV prog w hB A (subscriptTail value slice x y) (zaf a b) s ι σ:=by
 cases b with
 | int i=>obtain ⟨t,rfl⟩:=rb.inv;exact zj0 S B ra
 | str k=>
  obtain ⟨t,rfl⟩:=rb.inv
  refine Sim.onRef (t:=fun x=>subscriptTail value slice x (.str k t)) ra fun i l hi=>Sim.res (Sim.cel S hi fun c hc ok=>?_) (zai _ _ _)
  cases c with
  | dict kvs=>
   obtain ⟨ys,hd,hk,rl⟩:=ok
   refine Sim.ofLift (o:=dat kvs k) fun z hz=>?_
   obtain ⟨v,hv,rv⟩:=ziJ hk rl hz
   exact Sim.val S B rfl fun Q E hq=>zbg hd.typeIs F.slot_dict_getitem.lookup (wpAny_getItem_of (strKind_is prog w k t) hd.mapOf hv (hq _ _ rv))
  | _=>exact Sim.fail
 | _=>exact Sim.fail
end
section
variable {prog:Program} {w:World} {hB:Heap} {A:Around} {E:Value→Shared→Prop} {s:Shared} {ι:Ad} {σ:zab}
theorem zcE(n:Nat)(i:Int):((clip n i:Nat):Int)=max 0 (min (if i<0 then i+n else i) n):=clipAt_cast n i
theorem zmE(n:Nat)(i:Int):clip n i≤n:=by have:=zcE n i;lia
theorem zp9(lo hi:Option Int)(n:Nat):Builtin.Str.strSliceIndices lo hi 1 n=(List.range (hi.elim n (clip n)-lo.elim 0 (clip n))).map ((lo.elim 0 (clip n))+·):=by
 rw [← sliceRange_one]
 unfold Builtin.Str.strSliceIndices
 cases lo with
 | none=>
  cases hi with
  | none=>simp
  | some j=>simp only [Option.elim,zcE];simp
 | some i=>
  cases hi with
  | none=>simp only [Option.elim,zcE];simp
  | some j=>simp only [Option.elim,zcE];simp
theorem zhf{α:Type}{lo hi:Option Int}{xs:List α}(h:hi.elim xs.length (clip xs.length)-lo.elim 0 (clip xs.length)=xs.length):slc lo hi xs=xs:=by
 unfold slc
 have h1:hi.elim xs.length (clip xs.length)≤xs.length:=by cases hi with | none=>exact Nat.le_refl _ | some j=>exact zmE _ _
 by_cases h0:xs.length=0
 ·have:xs=[]:=List.length_eq_zero_iff.mp h0
  subst this;simp
 ·have h2:lo.elim 0 (clip xs.length)=0:=by lia
  rw [h,h2];simp
theorem zks{sl:Addr}{vl vu:Value}{lo hi:Option Int}(hs:s.heap.IsSliceOf sl vl vu .none)(pl:IsPart vl lo)(pu:IsPart vu hi) :
  ∃ l u:Option (Int×Tok),s.heap.IsSlice sl l u none∧l.map (·.1)=lo∧u.map (·.1)=hi:=by
 cases pl with
 | none=>cases pu with
  | none=>exact ⟨none,none,hs,rfl,rfl⟩
  | int j u=>exact ⟨none,some (j,u),hs,rfl,rfl⟩
 | int i t=>cases pu with
  | none=>exact ⟨some (i,t),none,hs,rfl,rfl⟩
  | int j u=>exact ⟨some (i,t),some (j,u),hs,rfl,rfl⟩
theorem RepL.slc{h:Heap}{xs:List PV}{vs:List Value}(r:RepL h ι σ xs vs)(lo hi:Option Int):RepL h ι σ (slc lo hi xs) (slc lo hi vs):=by
 unfold Mine.slc
 rw [r.length]
 exact (r.drop _).take _
theorem zna{value slice:Expr}{cx:Cx}{p:Pos}{sl:Addr}{vl vu:Value}{lo hi:Option Int}{l:Addr}{vs:Array Value}{n:Nat}{xs:List PV}(S:StoreOk prog w hB s.heap ι σ)(B:hB.StaysIn s.heap)
  (hs:s.heap.IsSliceOf sl vl vu .none) (pl:IsPart vl lo) (pu:IsPart vu hi) (e:s.heap.get? l=some { cls:=.type "list",data:=.seq vs n }) (rl:RepL s.heap ι σ xs vs.toList) (hb:xs.length≤2 ^ 20) :
  SimV prog w hB A (subscriptTail value slice (.ref l) (.ref sl)) (zaw cx p (Mine.slc lo hi xs)) s ι σ:=by
 have hsz:vs.size≤sizeLine:=Nat.le_trans (Nat.le_of_eq rl.length.symm) (Nat.le_trans hb (by decide))
 refine zb1 S B (rl.slc lo hi) fun Q E k=>zbg ⟨_,e,rfl⟩ slot_list_getitem.lookup ?_
 refine wpAny_getItem_list_slice ⟨_,e,rfl,_,rfl⟩ hs pl pu .none (fun q=>nomatch q) ?_ hsz
 have q:slicePick vs lo hi none=(Mine.slc lo hi vs.toList).toArray:=by
  rw [slicePick_plain];unfold Mine.slc;rw [Array.length_toList];rfl
 rw [q]
 exact k s.toks
theorem zcn{v:Value}{o:Option Int}{Q:Option Int→Shared→Prop}(p:IsPart v o)(h:Q o s):wpAny (model prog w) A (Builtin.Slice.slicePartIndex v) Q E s:=by
 cases p with
 | none=>exact slicePart_none h
 | int i t=>exact slicePart_int h
theorem zeq{sl:Addr}{vl vu vk:Value}{lo hi k:Option Int}{n:Nat}{r:Int×Int}{Q:Int×Int×Nat→Shared→Prop}(hs:s.heap.IsSliceOf sl vl vu vk)(pl:IsPart vl lo)(pu:IsPart vu hi)(pk:IsPart vk k)(h0:(k.getD 1==0)=false)(hr:Builtin.Slice.sliceAdjust lo hi (k.getD 1) n=r)
  (h:Q (r.1,k.getD 1,Builtin.Slice.slicePlaces r.1 r.2 (k.getD 1)) s):wpAny (model prog w) A (Builtin.Slice.sliceApplied (.ref sl) (pure (n:Int))) Q E s:=by
 obtain ⟨os,hos,hcs,hds⟩:=id hs
 unfold Builtin.Slice.sliceApplied Builtin.Slice.sliceFields
 refine wpAny_bind (wpAny_bind (wpAny_field hos hds (x:=vl) rfl (wpAny_bind (wpAny_field hos hds (x:=vu) rfl (wpAny_bind (wpAny_field hos hds (x:=vk) rfl (wpAny_pure ?_)))))))
 refine wpAny_bind (zcn pk ?_)
 show wpAny _ _ (if (k.getD 1==0)=true then _ else _) _ _ s
 rw [if_neg (by rw [h0];exact Bool.false_ne_true)]
 refine wpAny_bind (zcn pl (wpAny_bind (zcn pu (wpAny_bind (wpAny_pure ?_)))))
 subst hr
 exact wpAny_pure h
theorem zdV{t sl:Addr}{items:Array Value}{vl vu vk:Value}{lo hi k:Option Int}{r:Int×Int}{cnt:Nat}{Q:Value→Shared→Prop}(ht:IsTup s.heap t items)(hs:s.heap.IsSliceOf sl vl vu vk)(pl:IsPart vl lo)(pu:IsPart vu hi)(pk:IsPart vk k)(h0:(k.getD 1==0)=false)
  (hr:Builtin.Slice.sliceAdjust lo hi (k.getD 1) items.size=r) (hc:Builtin.Slice.slicePlaces r.1 r.2 (k.getD 1)=cnt) (hle:cnt≤items.size)
  (h1:(r.1==0&&k.getD 1==1&&cnt==items.size)=true→Q (.ref t) s)
  (h2:(r.1==0&&k.getD 1==1&&cnt==items.size)=false→Q (.ref s.heap.objs.size) { s with heap:=s.heap.push { cls:=.type "tuple",data:=.seq ((List.range cnt).filterMap fun(j:Nat)=>items[(r.1+(j:Int)*k.getD 1).toNat]?).toArray } })
  (hsz:items.size≤sizeLine):wpAny (model prog w) A (getItem (.ref t) (.ref sl)) Q E s:=by
 have hpick:sizeOk (.seq ((List.range cnt).filterMap fun(j:Nat)=>items[(r.1+(j:Int)*k.getD 1).toNat]?).toArray):=by
  show (List.toArray _).size≤sizeLine
  rw [List.size_toArray]
  exact Nat.le_trans (List.length_filterMap_le _ _) (by rw [List.length_range];exact Nat.le_trans hle hsz)
 obtain ⟨os,hos,hcs,hds⟩:=id hs
 have hTs:s.TypeIs (.ref sl) "slice":=⟨os,hos,hcs⟩
 unfold getItem
 try with_reducible refine wpAny_holding ?_
 first | refine wpAny_bind (wpAny_pure ?_) | skip
 refine wpAny_bind (wpAny_sequenceKey ht.typeIs (by decide) ?_)
 refine wpAny_bind (wpAny_callSpecial?_slot (name:=Str.ofString "__getitem__") ht.typeIs slot_tuple_getitem
  (wpAny_call_entry slot_tuple_getitem ht.typeIs entry_tuple_getitem ?_ (args_tuple_getitem _ _)))
 show wpAny _ _ (Builtin.Tuple.tupleItemsOf (.ref t) >>= _) _ _ s
 refine wpAny_bind (tupleItemsOf_ ht ?_)
 refine wpAny_bind (wpAny_typeOf hTs ?_)
 rw [if_pos (by decide)]
 refine wpAny_bind (zeq hs pl pu pk h0 hr ?_)
 show wpAny _ _ (if (r.1==0&&k.getD 1==1&&Builtin.Slice.slicePlaces r.1 r.2 (k.getD 1)==items.size)=true then _ else _) _ _ s
 rw [hc]
 cases q:(r.1==0&&k.getD 1==1&&cnt==items.size) with
 | true=>
  rw [if_pos rfl]
  have h:=h1 q
  refine wpAny_bind (m:=Builtin.Tuple.tupleIsExact (.ref t)) ?_
  unfold Builtin.Tuple.tupleIsExact
  refine wpAny_bind (m:=typeOf (.ref t)) (wpAny_typeOf ht.typeIs (wpAny_pure ?_))
  rw [if_pos (by decide)]
  refine wpAny_bind (wpAny_rule ?_)
  exact wpAny_pure (a:=Fin.done (Flow.ret (Value.ref t))) ⟨Value.ref t,rfl,wpAny_pure h⟩
 | false=>
  rw [if_neg Bool.false_ne_true]
  have h:=h2 q
  first
   | exact wpAny_bind (m:=Builtin.Tuple.tupleExact _) (wpAny_newObj_type (wpAny_pure ⟨_,rfl,wpAny_pure h⟩) hpick)
   | exact wpAny_bind (m:=Builtin.Tuple.tupleExact _) (wpAny_newObj_type (wpAny_bind (wpAny_pure (wpAny_pure ⟨_,rfl,wpAny_pure h⟩))) hpick)
   | exact wpAny_bind (wpAny_bind (m:=Builtin.Tuple.tupleExact _) (wpAny_newObj_type (wpAny_pure (wpAny_pure ⟨_,rfl,wpAny_pure h⟩)) hpick))
   | exact wpAny_bind (wpAny_bind (m:=Builtin.Tuple.tupleExact _) (wpAny_newObj_type (wpAny_pure ⟨_,rfl,wpAny_pure h⟩) hpick))
theorem zpW(lo hi:Option Int)(n:Nat):Builtin.Slice.sliceAdjust lo hi 1 (n:Int)=(((lo.elim 0 (clip n):Nat):Int),((hi.elim n (clip n):Nat):Int)):=by
 have c:∀ v:Int,(if v<0 then max (v+(n:Int)) 0 else min v (n:Int))=((clip n v:Nat):Int):=fun v=>by
  rw [zcE];split <;> lia
 unfold Builtin.Slice.sliceAdjust
 simp only [show ¬ ((1:Int)<0) by decide,if_false,c]
 cases lo <;> cases hi <;> rfl
theorem zkd(a b:Nat):Builtin.Slice.slicePlaces (a:Int) (b:Int) 1=b-a:=by
 unfold Builtin.Slice.slicePlaces
 simp only [show (1:Int)>0 by decide,if_true,Int.ediv_one]
 split <;> lia
theorem znf(xs:Array Value)(a k:Nat):((List.range k).filterMap fun(j:Nat)=>xs[((a:Int)+(j:Int)*1).toNat]?)=(xs.toList.drop a).take k:=by
 have e:(fun(j:Nat)=>xs[((a:Int)+(j:Int)*1).toNat]?)=fun j=>xs[a+j]?:=by
  funext j
  rw [show ((a:Int)+(j:Int)*1).toNat=a+j by lia]
 rw [e]
 have:=pick_run xs a k
 rwa [List.filterMap_map] at this
theorem zlq{value slice:Expr}{sl:Addr}{vl vu:Value}{lo hi:Option Int}{l:Addr}{vs:Array Value}{n:Nat}{xs:List PV}(S:StoreOk prog w hB s.heap ι σ)(B:hB.StaysIn s.heap)(ra:Rep s.heap ι σ (.tup xs) (.ref l))
  (hs:s.heap.IsSliceOf sl vl vu .none) (pl:IsPart vl lo) (pu:IsPart vu hi) (e:s.heap.get? l=some { cls:=.type "tuple",data:=.seq vs n }) (rl:RepL s.heap ι σ xs vs.toList) (hb:xs.length≤2 ^ 20):SimV prog w hB A (subscriptTail value slice (.ref l) (.ref sl)) (M.ret (.tup (Mine.slc lo hi xs))) s ι σ:=by
 have hlen:xs.length=vs.size:=rl.length
 have hsz:vs.size≤sizeLine:=Nat.le_trans (Nat.le_of_eq hlen.symm) (Nat.le_trans hb (by decide))
 have hhi:hi.elim vs.size (clip vs.size)≤vs.size:=by cases hi with | none=>exact Nat.le_refl _ | some j=>exact zmE _ _
 intro Q E _ hok _
 refine zbg ⟨_,e,rfl⟩ slot_tuple_getitem.lookup (zdV (k:=none) ⟨_,e,rfl,_,rfl⟩ hs pl pu .none rfl (zpW lo hi vs.size) (zkd _ _) (Nat.le_trans (Nat.sub_le _ _) hhi) (fun q=>?_) (fun _=>?_) hsz)
 ·rw [Bool.and_eq_true] at q
  have q2:=eq_of_beq q.2
  exact hok _ _ rfl _ _ s.toks _ ι (Step.refl S B) (by rw [zhf (xs:=xs) (by rw [hlen];exact q2)];exact ra)
 ·have e2:(List.range (hi.elim vs.size (clip vs.size)-lo.elim 0 (clip vs.size))).filterMap (fun(j:Nat)=>vs[((((lo.elim 0 (clip vs.size):Nat):Int),((hi.elim vs.size (clip vs.size):Nat):Int)).1+(j:Int)*(none:Option Int).getD 1).toNat]?)=Mine.slc lo hi vs.toList:=by
   refine (znf vs _ _).trans ?_
   unfold Mine.slc;rw [Array.length_toList]
  rw [e2]
  exact hok _ _ rfl _ _ s.toks _ ι (Step.push S B _) (Rep.newTup S (rl.slc lo hi))
theorem zm9{value slice:Expr}{z:Str}{t:Tok}{sl:Addr}{vl vu:Value}{lo hi:Option Int}(S:StoreOk prog w hB s.heap ι σ)(B:hB.StaysIn s.heap)(hs:s.heap.IsSliceOf sl vl vu .none)(pl:IsPart vl lo)(pu:IsPart vu hi)(hb:z.length≤2 ^ 20) :
  SimV prog w hB A (subscriptTail value slice (.str z t) (.ref sl)) (M.ret (.str ⟨(Mine.slc lo hi z.cps.toList).toArray⟩)) s ι σ:=by
 obtain ⟨l,u,h1,rfl,rfl⟩:=zks hs pl pu
 refine Sim.val S B rfl fun Q E hq=>zbg (typeIs_str s z t) F.slot_str_getitem.lookup (wpAny_getItem_str_slice h1 (by decide) ?_)
 have hn:z.cps.toList.length=z.length:=rfl
 have e1:slicePicked z l u none=(List.range ((u.map (·.1)).elim z.length (clip z.length)-(l.map (·.1)).elim 0 (clip z.length))).map (((l.map (·.1)).elim 0 (clip z.length))+·):=zp9 _ _ _
 have e2:(slicePicked z l u none).filterMap (z.cps[·]?)=Mine.slc (l.map (·.1)) (u.map (·.1)) z.cps.toList:=by
  rw [e1,pick_run];rfl
 unfold sliceMade
 split
 ·rename_i hc
  have hc':(slicePicked z l u none).length=z.length:=eq_of_beq hc
  rw [e1,List.length_map,List.length_range] at hc'
  exact hq _ s.toks (by rw [zhf (xs:=z.cps.toList) hc'];exact .str _ _)
 ·rw [e2]
  refine ⟨?_,hq _ _ (.str _ _)⟩
  show (Mine.slc _ _ _).toArray.size≤sizeLine
  unfold Mine.slc
  rw [List.size_toArray,List.length_take,List.length_drop]
  exact Nat.le_trans (Nat.min_le_right _ _) (Nat.le_trans (Nat.sub_le _ _) (Nat.le_trans hb (by decide)))
theorem zoN{value slice:Expr}{cx:Cx}{p:Pos}{a:PV}{x:Value}{sl:Addr}{vl vu:Value}{lo hi:Option Int}(S:StoreOk prog w hB s.heap ι σ)(B:hB.StaysIn s.heap)(ra:Rep s.heap ι σ a x)
  (hs:s.heap.IsSliceOf sl vl vu .none) (pl:IsPart vl lo) (pu:IsPart vu hi) :
  SimV prog w hB A (subscriptTail value slice x (.ref sl)) (cut cx p false a lo hi) s ι σ:=by
 have lst:SimV prog w hB A (subscriptTail value slice x (.ref sl)) ((litems a).bind fun xs=>M.cond (decide (xs.length≤2 ^ 20)) (zaw cx p (slc lo hi xs)) M.fail) s ι σ:=
  Sim.litems (t:=fun x=>subscriptTail value slice x (.ref sl)) S ra fun xs l vs n e rl=>Sim.cond (fun hb=>zna S B hs pl pu e rl (of_decide_eq_true hb)) fun _=>Sim.fail
 cases a with
 | str z=>obtain ⟨t,rfl⟩:=ra.inv;exact Sim.cond (fun hb=>zm9 S B hs pl pu (of_decide_eq_true hb)) fun _=>Sim.fail
 | tup xs=>obtain ⟨l,vs,n,rfl,e,nl,rl⟩:=id ra.inv;exact Sim.cond (fun hb=>zlq S B ra hs pl pu e rl (of_decide_eq_true hb)) fun _=>Sim.fail
 | _=>exact lst
end
section
variable {prog:Program} {w:World} {hB:Heap} {A:Around} {s:Shared} {ι:Ad} {σ:zab}
theorem zgv{A':Around}(hh:A'.handled=none){l:Addr}{vs:Array Value}{n:Nat}
  (e:ziS s.heap ι σ l vs n)
  (Q:Value→Shared→Prop) (E:Value→Shared→Prop)
  (h:∀(o:Obj)(St:Nat→Heap→Prop),Walks prog w A' s.heap.objs.size [s.heap.objs.size,l] [s.heap.objs.size] vs.size (fun i v=>vs[i]?=some v) St→St 0 (s.heap.push o)→Q (.ref s.heap.objs.size) { s with heap:=s.heap.push o }) :
  wpAny (model prog w) A' (pyIter (.ref l)) Q E s:=by
 rcases e with e | ⟨e,_⟩
 ·have hne:l≠s.heap.objs.size:=Nat.ne_of_lt (Heap.lt_size e)
  exact wpAny_pyIter_list ⟨_,e,rfl,_,rfl⟩ (h _ _ (Walks.list hh _ l hne vs) ⟨⟨_,Heap.get?_push_size _ rfl,rfl,rfl⟩,⟨_,Heap.get?_push_of_some _ e,rfl,_,rfl⟩⟩)
 ·have hne:l≠s.heap.objs.size:=Nat.ne_of_lt (Heap.lt_size e)
  exact wpAny_pyIter_tuple ⟨_,e,rfl,_,rfl⟩ (h _ _ (Walks.tuple hh _ l hne vs) ⟨⟨_,Heap.get?_push_size _ rfl,rfl,rfl⟩,⟨_,Heap.get?_push_of_some _ e,rfl,_,rfl⟩⟩)
theorem zdS{o:Obj}{h':Heap}(hk:∀ b o',b∉[s.heap.objs.size]→(s.heap.push o).get? b=some o'→h'.get? b=some o'):∀ b o',s.heap.get? b=some o'→h'.get? b=some o':=fun b o' e=>
 hk b o' (fun hm=>absurd (Heap.lt_size e) (by rw [List.mem_singleton.mp hm];exact Nat.lt_irrefl _)) (Heap.get?_push_of_some _ e)
theorem zgl{α:Type}{o:Option (List α)}{b:α}{bs:List α}(h:zhR b o=some bs):∃ r,o=some r∧bs=b::r:=by
 cases o with
 | none=>cases h
 | some r=>cases h;exact ⟨r,rfl,rfl⟩
theorem zjB{h:Heap}:∀{xs:List PV}{vs:List Value}{bs:List Bool},RepL h ι σ xs vs→zbH xs=some bs→bs.length=vs.length∧∀(i:Nat)(v:Value),vs[i]?=some v→v=.bool ((bs[i]?).getD false)
 | [],_,_,r,e=>by cases r;cases e;exact ⟨rfl,fun i v h=>nomatch h⟩
 | x::xs,_,bs,r,e=>by
  cases r with
  | cons r rs=>
   cases x with
   | bool b=>
    obtain ⟨r',h1,rfl⟩:=zgl (o:=zbH xs) (b:=b) (bs:=bs) e
    obtain ⟨h2,h3⟩:=zjB rs h1
    refine ⟨congrArg Nat.succ h2,fun i v h=>?_⟩
    cases i with
    | zero=>exact (Option.some.inj h).symm.trans r.inv
    | succ i=>exact h3 i v h
   | _=>cases e
theorem zmj{h:Heap}:∀{xs:List PV}{vs:List Value}{bs:List Int},RepL h ι σ xs vs→zeo xs=some bs→bs.length=vs.length∧∀(i:Nat)(v:Value),vs[i]?=some v→∃(t:Tok),v=.int ((bs[i]?).getD 0) t
 | [],_,_,r,e=>by cases r;cases e;exact ⟨rfl,fun i v h=>nomatch h⟩
 | x::xs,_,bs,r,e=>by
  cases r with
  | cons r rs=>
   cases x with
   | int b=>
    obtain ⟨r',h1,rfl⟩:=zgl (o:=zeo xs) (b:=b) (bs:=bs) e
    obtain ⟨h2,h3⟩:=zmj rs h1
    refine ⟨congrArg Nat.succ h2,fun i v h=>?_⟩
    cases i with
    | zero=>obtain ⟨t,q⟩:=r.inv;exact ⟨t,(Option.some.inj h).symm.trans q⟩
    | succ i=>exact h3 i v h
   | _=>cases e
theorem zeL{h:Heap}:∀{xs:List PV}{vs:List Value}{ss:List Str},RepL h ι σ xs vs→zbt xs=some ss→StrsAre vs ss
 | [],_,_,r,e=>by cases r;cases e;exact .nil
 | x::xs,_,bs,r,e=>by
  cases r with
  | cons r rs=>
   cases x with
   | str b=>
    obtain ⟨r',h1,rfl⟩:=zgl (o:=zbt xs) (b:=b) (bs:=bs) e
    obtain ⟨t,rfl⟩:=r.inv
    exact .cons _ _ (zeL rs h1)
   | _=>cases e
theorem zlF{bs:List Bool}(f:Nat→Bool)(hf:∀ i b,bs[i]?=some b→f i=b):(List.range bs.length).map f=bs:=by
 apply List.ext_getElem?
 intro i
 simp only [List.getElem?_map]
 by_cases h:i<bs.length
 ·rw [List.getElem?_range h,List.getElem?_eq_getElem h];simp [hf i _ (List.getElem?_eq_getElem h)]
 ·rw [List.getElem?_eq_none (by simpa using h),List.getElem?_eq_none (by simpa using h)];rfl
theorem zeQ:∀(ns:List Int)(val:Nat→Int)(acc:Int),(∀ i b,ns[i]?=some b→val i=b)→zeK acc ns=true→
  ∀ j,j≤ns.length→acc+preSum val j=acc+(ns.take j).sum:=by
 intro ns val acc hv hok j hj
 congr 1
 induction j with
 | zero=>rfl
 | succ j ih=>
  have hlt:j<ns.length:=hj
  rw [preSum,ih (Nat.le_of_lt hlt),hv j ns[j] (List.getElem?_eq_getElem hlt),List.take_succ_eq_append_getElem hlt,List.sum_append,List.sum_cons,List.sum_nil,Int.add_zero]
theorem zhb:∀(ns:List Int)(acc:Int),zeK acc ns=true→∀ j,(h:j<ns.length)→zbq ns[j]=true∧zbq (acc+(ns.take (j+1)).sum)=true
 | [],_,_,j,h=>absurd h (Nat.not_lt_zero _)
 | x::r,acc,e,j,h=>by
  simp only [zeK,Bool.and_eq_true] at e
  cases j with
  | zero=>simp only [List.getElem_cons_zero,Nat.zero_add,List.take_succ_cons,List.take_zero,List.sum_cons,List.sum_nil,Int.add_zero];exact ⟨e.1.1,e.1.2⟩
  | succ j=>
   have:=zhb r (acc+x) e.2 j (by simpa using h)
   simp only [List.getElem_cons_succ,List.take_succ_cons,List.sum_cons]
   rw [← Int.add_assoc];exact this
theorem zoJ{v:PV}{x:Value}(S:StoreOk prog w hB s.heap ι σ)(B:hB.StaysIn s.heap)(r:Rep s.heap ι σ v x):SimV prog w hB A (call (.builtin "len") [x]) ((zpb v).bind fun n=>M.ret (.int n)) s ι σ:=by
 have core:∀{n:Nat},(∀ Q E,(∀ t tk,Q (.int n t) { s with toks:=tk })→n≤2 ^ 20→wpAny (model prog w) A (call (.builtin "len") [x]) Q E s)→SimV prog w hB A (call (.builtin "len") [x]) ((zhA n).bind fun n=>M.ret (.int n)) s ι σ:=by
  intro n h
  unfold zhA
  by_cases hn:n≤2 ^ 20
  ·rw [decide_eq_true hn]
   exact Sim.val S B rfl fun Q E hq=>h Q E (fun t tk=>hq _ tk (.int _ _)) hn
  ·rw [decide_eq_false hn];exact Sim.stuck rfl
 have big:∀{n:Nat},n≤2 ^ 20→(n:Int)<2 ^ 63:=fun h=>by lia
 cases v with
 | str y=>obtain ⟨t,rfl⟩:=r.inv;exact core fun Q E hq hn=>P.len_str (by have:=big hn;lia) (hq _ _)
 | tup xs=>obtain ⟨l,vs,n,rfl,e,nl,rl⟩:=r.inv;exact core fun Q E hq hn=>by rw [rl.length] at hq hn;exact PyProof.Rows.len_tuple ⟨_,e,rfl,_,rfl⟩ (big hn) (hq _ _)
 | lst xs=>obtain ⟨l,vs,n,rfl,e,nl,rl⟩:=r.inv;exact core fun Q E hq hn=>by rw [rl.length] at hq hn;exact Calls.call_len_list ⟨_,e,rfl,_,rfl⟩ (big hn) (hq _ _)
 | ref i=>
  obtain ⟨a,rfl,hi⟩:=r.inv
  refine Sim.res (Sim.cel S hi fun c hc ok=>?_) (zai _ _ _)
  cases c with
  | list xs=>
   obtain ⟨vs,⟨n,hp⟩,rl⟩:=ok
   exact core (n:=xs.length) fun Q E hq hn=>by rw [rl.length] at hq hn;exact Calls.call_len_list ⟨_,hp,rfl,_,rfl⟩ (big hn) (hq _ _)
  | dict kvs=>
   obtain ⟨ys,hd,hk,rl⟩:=ok
   have hlen:ys.length=kvs.length:=by have:=congrArg List.length hk;rwa [List.length_map,List.length_map] at this
   refine core (n:=kvs.length) fun Q E hq hn=>?_
   rw [← hlen] at hq hn
   exact call_len_dict (zhs S (List.mem_of_getElem? hi)) hd (big hn) (hq _ _)
  | dead=>exact Sim.fail
 | _=>exact Sim.fail
theorem zlu{v:PV}{x:Value}(S:StoreOk prog w hB s.heap ι σ)(B:hB.StaysIn s.heap)(hh:A.handled=none)(r:Rep s.heap ι σ v x) :
  SimV prog w hB A (call (.builtin "all") [x]) ((items v).bind fun xs=>(M.lift (zbH xs)).bind fun bs=>M.ret (.bool (bs.all id))) s ι σ∧SimV prog w hB A (call (.builtin "any") [x]) ((items v).bind fun xs=>(M.lift (zbH xs)).bind fun bs=>M.ret (.bool (bs.any id))) s ι σ:=by
 have core:∀{l:Addr}{vs:Array Value}{n:Nat}{xs:List PV}{bs:List Bool},ziS s.heap ι σ l vs n→RepL s.heap ι σ xs vs.toList→zbH xs=some bs→
   SimV prog w hB A (call (.builtin "all") [.ref l]) (M.ret (.bool (bs.all id))) s ι σ∧SimV prog w hB A (call (.builtin "any") [.ref l]) (M.ret (.bool (bs.any id))) s ι σ:=by
  intro l vs n xs bs e rl hb
  obtain ⟨h1,h2⟩:=zjB rl hb
  have tr:TruthOf prog w A.in1 (fun i v=>vs[i]?=some v) (fun i=>(bs[i]?).getD false):=fun i v s' Q E hv hq=>by
   rw [h2 i v ((Array.getElem?_toList ..).trans hv)]
   exact wpAny_truthy_bool hq
  have hmap:(List.range vs.size).map (fun i=>(bs[i]?).getD false)=bs:=by
   rw [← Array.length_toList,← h1]
   exact zlF _ fun i b hib=>by rw [hib];rfl
  constructor
  ·intro Q E _ hok _
   refine call_all_walk (zgv (A':=A.in1) hh e _ _ fun o St W st=>⟨_,_,_,_,_,_,_,rfl,W,st,tr,fun h' tk hk=>?_⟩)
   rw [show (List.range vs.size).all (fun i=>(bs[i]?).getD false)=bs.all id from (List.all_map (f:=fun i=>(bs[i]?).getD false) (p:=id) (l:=List.range vs.size)).symm.trans (by rw [hmap])]
   exact hok _ σ rfl _ h' tk _ ι (Step.keeps S B (zdS hk)) (.bool _)
  ·intro Q E _ hok _
   refine call_any_walk (zgv (A':=A.in1) hh e _ _ fun o St W st=>⟨_,_,_,_,_,_,_,rfl,W,st,tr,fun h' tk hk=>?_⟩)
   rw [show (List.range vs.size).any (fun i=>(bs[i]?).getD false)=bs.any id from (List.any_map (f:=fun i=>(bs[i]?).getD false) (p:=id) (l:=List.range vs.size)).symm.trans (by rw [hmap])]
   exact hok _ σ rfl _ h' tk _ ι (Step.keeps S B (zdS hk)) (.bool _)
 exact ⟨Sim.items (t:=fun x=>call (.builtin "all") [x]) S r fun xs l vs n e rl=>Sim.lift fun bs hb=>(core e rl hb).1,Sim.items (t:=fun x=>call (.builtin "any") [x]) S r fun xs l vs n e rl=>Sim.lift fun bs hb=>(core e rl hb).2⟩
theorem zoH{v:PV}{x:Value}(S:StoreOk prog w hB s.heap ι σ)(B:hB.StaysIn s.heap)(hh:A.handled=none)(r:Rep s.heap ι σ v x) :
  SimV prog w hB A (call (.builtin "sum") [x]) ((items v).bind fun xs=>(M.lift (zeo xs)).bind fun ns=>M.cond (zeK 0 ns) (M.ret (.int ns.sum)) M.fail) s ι σ:=by
 refine Sim.items (t:=fun x=>call (.builtin "sum") [x]) S r fun xs l vs n e rl=>Sim.lift fun ns hb=>Sim.cond (fun hok'=>?_) fun _=>Sim.fail
 obtain ⟨h1,h2⟩:=zmj rl hb
 have hv:∀(i:Nat)(b:Int),ns[i]?=some b→(ns[i]?).getD 0=b:=fun i b q=>by rw [q];rfl
 have hn:ns.length=vs.size:=h1
 intro Q E _ hok _
 refine call_sum_walk (zgv (A':=A.in1) hh e _ _ fun o St W st=>⟨_,_,_,_,_,_,fun i=>(ns[i]?).getD 0,rfl,W,st,fun b hb'=>?_,fun i v hv'=>h2 i v ((Array.getElem?_toList ..).trans hv'),fun j hj=>?_,fun h' tk t' hk=>?_⟩)
 ·rw [size_push]
  rcases List.mem_cons.mp hb' with rfl | hb'
  ·exact Nat.lt_succ_self _
  ·rw [List.mem_singleton.mp hb'];exact Nat.lt_succ_of_lt (e.elim Heap.lt_size fun e=>Heap.lt_size e.1)
 ·have hj':j<ns.length:=by lia
  obtain ⟨a1,a2⟩:=zhb ns 0 hok' j hj'
  have e1:=zeQ ns _ 0 hv hok' (j+1) hj'
  rw [Int.zero_add,Int.zero_add] at e1
  rw [Int.zero_add] at a2
  have b1:=small_iff.mp a1;have b2:=small_iff.mp a2
  rw [e1]
  have e2:(ns[j]?).getD 0=ns[j]:=hv j _ (List.getElem?_eq_getElem hj')
  simp only [e2]
  unfold InLong
  lia
 ·have e1:=zeQ ns _ 0 hv hok' ns.length (Nat.le_refl _)
  rw [Int.zero_add,Int.zero_add,List.take_length] at e1
  rw [← hn,e1]
  exact hok _ σ rfl _ h' tk _ ι (Step.keeps S B (zdS hk)) (.int _ _)
theorem zle{v:PV}{x:Value}(S:StoreOk prog w hB s.heap ι σ)(B:hB.StaysIn s.heap)(r:Rep s.heap ι σ v x) :
  SimV prog w hB A (call (.type "tuple") [x]) ((items v).bind fun xs=>M.cond (decide (xs.length≤2 ^ 20)) (M.ret (.tup xs)) M.fail) s ι σ:=by
 refine Sim.items (t:=fun x=>call (.type "tuple") [x]) S r fun xs l vs n e rl=>Sim.cond (fun hn=>?_) fun _=>Sim.fail
 have hsz:vs.size≤sizeLine:=Nat.le_trans (Nat.le_of_eq rl.length.symm) (Nat.le_trans (of_decide_eq_true hn) (by decide))
 rcases e with e | ⟨e,nl⟩
 ·intro Q E _ hok _
  refine call_tuple_list ⟨_,e,rfl,_,rfl⟩ (fun h' hk=>?_) hsz
  have X:=Step.keeps (prog:=prog) (w:=w) S B hk
  exact hok _ _ rfl _ _ s.toks _ ι (X.trans S.len (Step.push X.store X.stays _)) (Rep.newTup X.store (rl.step S.len X))
 ·exact Sim.val S B rfl fun Q E hq=>call_tuple_same ⟨_,e,rfl,_,rfl⟩ (hq _ s.toks (.tup e nl rl))
theorem zi0{cx:Cx}{p:Pos}{l:Addr}{vs:Array Value}{n:Nat}{xs:List PV}(S:StoreOk prog w hB s.heap ι σ)(B:hB.StaysIn s.heap)(e:ziS s.heap ι σ l vs n)(rl:RepL s.heap ι σ xs vs.toList)(hn:xs.length≤2 ^ 20) :
  SimV prog w hB A (call (.type "list") [.ref l]) (zaw cx p xs) s ι σ:=by
 refine zeO S B rl fun Q E h=>?_
 have hsz:vs.size≤sizeLine:=Nat.le_trans (Nat.le_of_eq rl.length.symm) (Nat.le_trans hn (by decide))
 rcases e with e | ⟨e,_⟩
 ·exact call_list_seq l (.inl rfl) e rfl rfl (fun h' c' hk hd=>h _ h' c' s.toks (zay _) hk hd) hsz
 ·exact call_list_seq l (.inr rfl) e rfl rfl (fun h' c' hk hd=>h _ h' c' s.toks (zay _) hk hd) hsz
end
end Mine
namespace Mine
open PySem
noncomputable section
noncomputable def arg0{β:Type}(vs:List PV)(k:M β):M β:=match vs with
 | []=>k
 | _::_=>M.fail
noncomputable def arg1{β:Type}(vs:List PV)(k:PV→M β):M β:=match vs with
 | []=>M.fail
 | v::r=>arg0 r (k v)
noncomputable def arg2{β:Type}(vs:List PV)(k:PV→PV→M β):M β:=match vs with
 | []=>M.fail
 | v::r=>arg1 r (k v)
noncomputable def zrn:PV→M PV
 | .bool b=>M.ret (.int (if b then 1 else 0))
 | _=>M.fail
noncomputable def zo9(cx:Cx)(p:Pos):PV→M PV
 | .ref i=>(cget i).bind fun c=>match c with
  | .list xs=>M.cond (decide (xs.length≤2 ^ 20)) (zaw cx p xs) M.fail
  | .dict kvs=>M.cond (cx.md.lp&&decide (kvs.length≤2 ^ 20)) (zaw cx p (kvs.map fun kv=>.str kv.1)) M.fail
  | .dead=>M.fail
 | v=>(items v).bind fun xs=>M.cond (decide (xs.length≤2 ^ 20)) (zaw cx p xs) M.fail
noncomputable def zpG(v:PV):M PV:=onRef v fun i=>(dget i).bind fun kvs=>M.cond (decide (kvs.length<1000)) (cnew (.dict kvs)) M.fail
inductive Bi where
 | len | all | any | sum | list | tuple | int | min | dict
 | sorted
noncomputable def zgN(cx:Cx)(p:Pos)(f:Bi)(vs:List PV):M PV:=match f with
 | .len=>arg1 vs fun v=>(zpb v).bind fun n=>M.ret (.int n)
 | .all=>arg1 vs fun v=>M.cond cx.md.lp ((items v).bind fun xs=>(M.lift (zbH xs)).bind fun bs=>M.ret (.bool (bs.all id))) M.fail
 | .any=>arg1 vs fun v=>M.cond cx.md.lp ((items v).bind fun xs=>(M.lift (zbH xs)).bind fun bs=>M.ret (.bool (bs.any id))) M.fail
 | .sum=>arg1 vs fun v=>M.cond cx.md.lp ((items v).bind fun xs=>(M.lift (zeo xs)).bind fun ns=>M.cond (zeK 0 ns) (M.ret (.int ns.sum)) M.fail) M.fail
 | .list=>arg1 vs (zo9 cx p)
 | .tuple=>arg1 vs fun v=>(items v).bind fun xs=>M.cond (decide (xs.length≤2 ^ 20)) (M.ret (.tup xs)) M.fail
 | .int=>arg1 vs zrn
 | .min=>arg2 vs fun a b=>onInt a fun a=>onInt b fun b=>M.cond cx.md.lp (M.ret (.int (if b<a then b else a))) M.fail
 | .sorted=>arg1 vs fun v=>M.cond cx.md.lp ((zdc v).bind fun xs=>(M.lift (zbt xs)).bind fun ss=>M.cond (decide (ss.length<64)) (zaw cx p ((zal ss).map .str)) M.fail) M.fail
 | .dict=>arg1 vs zpG
noncomputable def biTab:List (Str×Bi):=[("len",.len),("all",.all),("any",.any),("sum",.sum),("list",.list),("tuple",.tuple),("int",.int),("min",.min),("dict",.dict)
 ,("sorted",.sorted)
 ]
noncomputable def builtin(cx:Cx)(p:Pos)(f:Str)(vs:List PV):M PV:=(M.lift (biTab.lookup f)).bind fun b=>zgN cx p b vs
noncomputable def tnOf:PV→M Tn
 | .none=>M.ret .none
 | .bool _=>M.ret .bool
 | .int _=>M.ret .int
 | .str _=>M.ret .str
 | .tup _=>M.ret .tuple
 | .lst _=>M.ret .list
 | .ref i=>(cget i).bind fun c=>match c with
  | .list _=>M.ret .list
  | .dict _=>M.ret .dict
  | .dead=>M.fail
 | .exc _=>M.fail
inductive Mt where
 | append
 | join
 | get
 | dclear
noncomputable def znm:Tn→List (Str×Mt)
 | .list=>[("append",.append)
  ]
 | .str=>[("join",.join)
  ]
 | .dict=>[("get",.get)
  ,("clear",.dclear)
  ]
 | _=>[]
noncomputable def mtOf(T:Tn)(f:Str):Option Mt:=(znm T).lookup f
noncomputable def zrr(kvs:List (Str×PV))(vs:List PV):M PV:=match vs with
 | []=>M.fail
 | k::r=>onStr k fun k=>match r with
  | []=>M.ret ((dat kvs k).getD .none)
  | d::r=>arg0 r (M.ret ((dat kvs k).getD d))
noncomputable def zhQ(a b:List (Str×PV)):List (Str×PV):=b.foldl (fun d kv=>dput kv.1 kv.2 d) a
noncomputable def zdl(cx:Cx)(p:Pos)(m:Mt)(o:PV)(vs:List PV):M PV:=
 match m with
 | .get=>onRef o fun i=>(dget i).bind fun kvs=>zrr kvs vs
 | .dclear=>onRef o fun i=>arg0 vs ((dget i).bind fun kvs=>M.cond (decide (kvs.length<1000)) ((cset i (.dict [])).bind fun _=>M.ret .none) M.fail)
 | .append=>onRef o fun i=>arg1 vs fun v=>(lget i).bind fun xs=>M.cond (decide (xs.length<2 ^ 20)) ((cset i (.list (xs++[v]))).bind fun _=>M.ret .none) M.fail
 | .join=>onStr o fun s=>arg1 vs fun v=>(items v).bind fun xs=>(M.lift (zbt xs)).bind fun ss=>M.cond (decide ((ss.map (·.length)).sum+ss.length*s.length≤16777216)) (M.ret (.str (Str.join s ss))) M.fail
structure Src where
 xs:List PV
 watch:List (Nat×List PV)
open Classical in
noncomputable def chkW:List (Nat×List PV)→M Unit
 | []=>M.ret ()
 | (i,xs)::r=>fun σ=>if σ[i]?=some (.list xs) then chkW r σ else .stuck
noncomputable def zbp(a:Int):Nat→List PV
 | 0=>[]
 | n+1=>.int a::zbp (a+1) n
noncomputable def zd3:List Nat→List PV
 | []=>[]
 | c::r=>.str ⟨#[c]⟩::zd3 r
noncomputable def zat:PV→M Src
 | .tup xs=>M.ret ⟨xs,[]⟩
 | .lst xs=>M.ret ⟨xs,[]⟩
 | .str s=>M.ret ⟨zd3 s.cps.toList,[]⟩
 | .ref i=>(lget i).bind fun xs=>M.ret ⟨xs,[(i,xs)]⟩
 | _=>M.fail
noncomputable def zb9:Expr→Nat
 | .Name ..=>1
 | .Tuple ..=>2
 | .Starred ..=>3
 | .Set ..=>4
 | .Constant ..=>5
 | .Subscript ..=>6
 | .Slice ..=>7
 | .ListComp ..=>8
 | _=>0
noncomputable def nmOf(e:Expr):Option { x:Str×Pos // e=.Name x.1 x.2 }:=match e with
 | .Name x p=>some ⟨(x,p),rfl⟩
 | _=>Option.none
noncomputable def zes(sc:Scope)(ρ:Loc)(v:PV)(x:Str):Option Loc:=match sc.names.lookup x with
 | some .local=>some (ρ.set x v)
 | some .cell=>some (ρ.set x v)
 | _=>Option.none
noncomputable def zfv(sc:Scope)(ρ:Loc)(v:PV)(t:Expr):Option Loc:=(nmOf t).bind fun x=>zes sc ρ v x.1.1
noncomputable def zbk(sc:Scope)(ρ:Loc):List Expr→List PV→Option Loc
 | [],vs=>match vs with
  | []=>some ρ
  | _::_=>Option.none
 | t::ts,vs=>match vs with
  | []=>Option.none
  | v::vs=>(zfv sc ρ v t).bind fun ρ'=>zbk sc ρ' ts vs
noncomputable def zqW:PV→Option (List PV)
 | .tup vs=>some vs
 | _=>Option.none
noncomputable def zgO(sc:Scope)(ρ:Loc)(t:Expr)(v:PV):Option Loc:=
 match t with
 | .Tuple ts _ _=>(zqW v).bind (zbk sc ρ ts)
 | t=>zfv sc ρ v t
noncomputable def zgQ{α:Type}(sc:Scope):Loc→List Expr→List PV→(Loc→M α)→M α
 | ρ,[],vs,k=>match vs with
  | []=>k ρ
  | _::_=>M.fail
 | ρ,t::ts,vs,k=>match vs with
  | []=>M.fail
  | v::vs=>(M.lift (zfv sc ρ v t)).bind fun ρ'=>zgQ sc ρ' ts vs k
noncomputable def tupC{α:Type}(v:PV)(f:List PV→M α):M α:=match v with
 | .tup vs=>f vs
 | _=>M.fail
noncomputable def zop{α:Type}(sc:Scope)(ρ:Loc)(t:Expr)(v:PV)(k:Loc→M α):M α:=
 match t with
 | .Tuple ts _ _=>tupC v fun vs=>zgQ sc ρ ts vs k
 | t=>(M.lift (zfv sc ρ v t)).bind k
section
variable (E:Expr→M PV)
noncomputable def evs:List Expr→M (List PV)
 | []=>M.ret []
 | e::r=>(E e).bind fun v=>(evs r).bind fun vs=>M.ret (v::vs)
noncomputable def zfV(op:BoolOp):List Expr→M PV
 | []=>M.fail
 | [e]=>E e
 | e::r=>(E e).bind fun v=>(zap v).bind fun b=>match op,b with
  | .And,false=>M.ret v
  | .Or,true=>M.ret v
  | _,_=>zfV op r
noncomputable def ziH(a:PV):List CmpOp→List Expr→M PV
 | [],_=>M.fail
 | op::ops,es=>match es with
  | []=>M.fail
  | e::es=>match ops with
   | []=>match es with
    | []=>(E e).bind fun b=>zac op a b
    | _::_=>M.fail
   | op₂::ops₂=>(E e).bind fun b=>(zac op a b).bind fun c=>(zap c).bind fun t=>M.cond t (ziH b (op₂::ops₂) es) (M.ret c)
noncomputable def ze5:Option Expr→M (Option Int)
 | Option.none=>M.ret Option.none
 | some e=>(E e).bind fun v=>M.lift (zlM v)
end
noncomputable def zmz:Const→Option PV
 | .none=>some .none
 | .bool b=>some (.bool b)
 | .int i=>some (.int i)
 | .str s=>some (.str s)
 | _=>Option.none
noncomputable def zon(e:Expr):Option { x:Const×Nat×Pos // e=.Constant x.1 x.2.1 x.2.2 }:=match e with
 | .Constant c k p=>some ⟨(c,k,p),rfl⟩
 | _=>Option.none
noncomputable def strK(c:Const):Option { s:Str // c=.str s }:=match c with
 | .str s=>some ⟨s,rfl⟩
 | _=>Option.none
noncomputable def zez:List (Option Expr)→List Expr→Option (List (Str×PV))
 | [],vs=>match vs with
  | []=>some []
  | _::_=>Option.none
 | k::ks,vs=>match vs with
  | []=>Option.none
  | v::vs=>k.bind fun k=>(zon k).bind fun k=>(strK k.1.1).bind fun k=>(zon v).bind fun c=>(zmz c.1.1).bind fun x=>(zez ks vs).bind fun r=>some ((k.1,x)::r)
noncomputable def zaW(chk:M Unit)(f:PV→M (Option PV)):List PV→M (List PV)
 | []=>chk.bind fun _=>M.ret []
 | x::xs=>chk.bind fun _=>(f x).bind fun o=>(zaW chk f xs).bind fun ys=>M.ret (match o with | some y=>y::ys | Option.none=>ys)
noncomputable def inner(csc:Scope)(ρ:Loc):Loc:=fun y=>match csc.names.lookup y with
 | some .free=>ρ y
 | _=>Option.none
noncomputable def zmD(sc csc:Scope)(it:Expr):Bool:=
 decide (csc.kind=.function) &&
 (csc.names.all fun x=>match x.2 with
  | .local=>decide (csc.names.lookup x.1=some .local)&&decide (x.1≠"__debug__")
  | .free=>decide (sc.names.lookup x.1=some .cell)&&decide (csc.names.lookup x.1=some .free)
  | .globalImplicit=>decide (x.1≠"__debug__")
  | _=>false) &&
 decide ((csc.names.map (·.1)).Nodup) &&
 (zb9 it != 4)
noncomputable def isTg(e:Expr):Bool:=zb9 e==1 || zb9 e==2
noncomputable def znD(cx:Cx)(sc:Scope)(ρ:Loc)(v:PV)(x:Str):M Bool:=(M.lift (tyOf cx sc ρ x)).bind fun t=>zbV cx.G t v
noncomputable def zkr(G:Gl)(v:PV):List Ty→M Bool
 | []=>M.ret false
 | t::r=>(zbV G t v).bind fun b=>M.cond b (M.ret true) (zkr G v r)
noncomputable def zjN(cx:Cx)(sc:Scope)(ρ:Loc):List Expr→Option (List Ty)
 | []=>some []
 | e::r=>(nmOf e).bind fun x=>(tyOf cx sc ρ x.1.1).bind fun t=>(zjN cx sc ρ r).bind fun ts=>some (t::ts)
noncomputable def isTy(cx:Cx)(sc:Scope)(ρ:Loc)(v:PV)(es:List Expr):M Bool:=(M.lift (zjN cx sc ρ es)).bind fun ts=>M.cond ts.isEmpty M.fail (zkr cx.G v ts)
noncomputable def zau(args:List Expr):Bool:=decide (args.length≤10)&&args.all fun e=>zb9 e != 3
noncomputable def zbr(k:Int):Bool:=decide (-1000000≤k)&&decide (k≤1000000)
noncomputable def zbz(vs:List PV):M Src:=match vs with
 | []=>M.fail
 | v::r=>onInt v fun k=>match r with
  | []=>M.cond (zbr k) (M.ret ⟨zbp 0 k.toNat,[]⟩) M.fail
  | v::r=>arg0 r (onInt v fun l=>M.cond (zbr k&&zbr l) (M.ret ⟨zbp k (l-k).toNat,[]⟩) M.fail)
noncomputable def zqP(e:Expr):Option { x:Expr×List Expr×Pos // e=.Call x.1 x.2.1 [] x.2.2 }:=match e with
 | .Call f args kws p=>match kws with
  | []=>some ⟨(f,args,p),rfl⟩
  | _::_=>Option.none
 | _=>Option.none
noncomputable def zrm(y:Str):Callee→Bool
 | .bi z=>decide (z=y)
 | _=>false
noncomputable def zca(g:Str)(cx:Cx)(sc:Scope)(ρ:Loc)(e:Expr):Option (List Expr):=
 (zqP e).bind fun c=>(nmOf c.1.1).bind fun f=>(zaY cx sc ρ f.1.1).bind fun y=>bif zrm g y then some c.1.2.1 else Option.none
noncomputable def lsrc:PV→M Src
 | .lst xs=>M.ret ⟨xs,[]⟩
 | .ref i=>(lget i).bind fun xs=>M.ret ⟨xs,[(i,xs)]⟩
 | _=>M.fail
noncomputable def zcN:Nat→List PV→List PV
 | _,[]=>[]
 | i,x::r=>.tup [.int i,x]::zcN (i+1) r
noncomputable def zei(vs:List PV):M Src:=arg1 vs fun v=>(lsrc v).bind fun s=>M.ret ⟨zcN 0 s.xs,s.watch⟩
noncomputable def zdB(E:Expr→M PV)(args:List Expr)(F:List PV→M Src):M Src:=M.cond (zau args) ((evs E args).bind F) M.fail
noncomputable def zcM(cx:Cx)(sc:Scope)(ρ:Loc)(E:Expr→M PV)(t it:Expr):M Src:=
 match zca "range" cx sc ρ it with
 | some args=>zdB E args zbz
 | Option.none=>match zca "enumerate" cx sc ρ it with
  | some args=>M.cond (zb9 t==2) (zdB E args zei) M.fail
  | Option.none=>
    (E it).bind zat
noncomputable def zrq(cx:Cx)(sc:Scope)(ρ:Loc)(E:Expr→M PV)(x t:Expr):M PV:=match t with
 | .Tuple ts _ _=>M.cond (decide (ts.length≤10)) ((E x).bind fun v=>(isTy cx sc ρ v ts).bind fun b=>M.ret (.bool b)) M.fail
 | .Name t _=>(E x).bind fun v=>(znD cx sc ρ v t).bind fun b=>M.ret (.bool b)
 | _=>M.fail
noncomputable def evIs(cx:Cx)(sc:Scope)(ρ:Loc)(E:Expr→M PV)(es:List Expr):M PV:=match es with
 | [x,t]=>zrq cx sc ρ E x t
 | _=>M.fail
noncomputable def addS(ks:List Str)(k:Str):List Str:=bif ks.contains k then ks else ks++[k]
noncomputable def setL(ss:List Str):List Str:=ss.foldl addS []
noncomputable def zlN:List Expr→Option Expr
 | []=>Option.none
 | x::r=>match r with
  | []=>some x
  | _::_=>Option.none
noncomputable def zi6(cx:Cx)(sc:Scope)(ρ:Loc)(y:Str)(args:List Expr):Option Expr:=bif decide (y="sorted") then (zlN args).bind fun e=>(zca "set" cx sc ρ e).bind zlN else Option.none
noncomputable def zcY(cx:Cx)(p:Pos)(v:PV):M PV:=M.cond cx.md.lp ((litems v).bind fun xs=>(M.lift (zbt xs)).bind fun ss=>M.cond (decide (ss.length<64)) (zaw cx p ((zal (setL ss)).map .str)) M.fail) M.fail
noncomputable def zpy(cx:Cx)(sc:Scope)(ρ:Loc)(E:Expr→M PV)(y:Str)(args:List Expr)(p:Pos)(m:M PV):M PV:=match zi6 cx sc ρ y args with
 | some x=>M.cond (zau [x]) ((E x).bind fun v=>zcY cx p v) M.fail
 | Option.none=>m
noncomputable def zlX(o:Expr)(ap p:Pos)(args:List Expr):Bool:=
 decide (ap.endLine=p.line)&&zau args&&(zb9 o==1 || zb9 o==5 || zb9 o==6)
section
variable (cx:Cx) (sc:Scope) (ρ:Loc) (E:Expr→M PV)
noncomputable def zms(x:Str)(p:Pos):M PV:=match zaY cx sc ρ x with
 | some (.val v)=>M.cond (cx.G.fz.contains (p.line,p.col)) (zhI v) (M.ret v)
 | _=>M.fail
noncomputable def evUn(op:UnaryOp)(x:Expr):M PV:=match op with
 | .Not=>(E x).bind fun a=>(zap a).bind fun b=>M.ret (.bool !b)
 | .USub=>(E x).bind fun a=>onInt a fun i=>M.ret (.int (-i))
 | _=>M.fail
noncomputable def znK(v i:Expr)(p:Pos):M PV:=match i with
 | .Slice lo hi st _=>match st with
  | Option.none=>(E v).bind fun o=>(ze5 E lo).bind fun l=>(ze5 E hi).bind fun h=>cut cx p false o l h
  | some _=>M.fail
 | i=>(E v).bind fun o=>(E i).bind fun k=>zaf o k
noncomputable def evFn(f:Str)(args:List Expr)(p:Pos):M PV:=(M.lift (zaY cx sc ρ f)).bind fun c=>match c with
 | .fn a=>(evs E args).bind fun vs=>cx.call cx.md a vs
 | .bi y=>M.cond (decide (y="isinstance")) (evIs cx sc ρ E args) <|
   zpy cx sc ρ E y args p <|
   (M.lift (biTab.lookup y)).bind fun b=>(evs E args).bind fun vs=>zgN cx p b vs
 | _=>M.fail
noncomputable def zqJ(f:Expr)(args:List Expr)(p:Pos):M PV:=match f with
 | .Attribute o m ap=>M.cond (zlX o ap p args) ((E o).bind fun ov=>(tnOf ov).bind fun T=>(M.lift (mtOf T m)).bind fun k=>(evs E args).bind fun vs=>zdl cx p k ov vs) M.fail
 | .Name f _=>M.cond (zau args) (evFn cx sc ρ E f args p) M.fail
 | _=>M.fail
noncomputable def zqN(csc:Scope)(E:Loc→Expr→M PV)(t elt:Expr)(ifs:List Expr)(x:PV):M (Option PV):=M.noErr <|
 zop csc (inner csc ρ) t x fun ρ'=>match ifs with
  | []=>(E ρ' elt).bind fun y=>M.ret (some y)
  | c::r=>match r with
   | []=>(E ρ' c).bind fun cv=>(zap cv).bind fun b=>M.cond b ((E ρ' elt).bind fun y=>M.ret (some y)) (M.ret Option.none)
   | _::_=>M.fail
noncomputable def zjs(csc:Scope)(Ei:Loc→Expr→M PV)(elt:Expr)(gens:List Comprehension)(p:Pos):M PV:=match gens with
 | []=>M.fail
 | g::r=>match r with
  | _::_=>M.fail
  | []=>M.cond (decide (g.is_async=0)&&(cx.md.lp&&zmD sc csc g.iter&&isTg g.target))
   ((zcM cx sc ρ E g.target g.iter).bind fun src=>M.cond (decide (src.xs.length≤2 ^ 20)) ((zaW (chkW src.watch) (zqN ρ csc Ei g.target elt g.ifs) src.xs).bind fun ys=>zaw cx p ys) M.fail) M.fail
end
noncomputable def ev(cx:Cx):Nat→Scope→Loc→Expr→M PV
 | 0,_,_,_=>M.fail
 | n+1,sc,ρ,e=>match e with
  | .Constant c _ _=>M.lift (zmz c)
  | .Name x p=>zms cx sc ρ x p
  | .BoolOp op vs _=>zfV (ev cx n sc ρ) op vs
  | .BinOp l op r p=>(ev cx n sc ρ l).bind fun a=>(ev cx n sc ρ r).bind fun b=>znR cx p op a b
  | .UnaryOp op x _=>evUn (ev cx n sc ρ) op x
  | .IfExp t a b _=>(ev cx n sc ρ t).bind fun v=>(zap v).bind fun c=>M.cond c (ev cx n sc ρ a) (ev cx n sc ρ b)
  | .Compare l ops cs _=>(ev cx n sc ρ l).bind fun a=>ziH (ev cx n sc ρ) a ops cs
  | .Tuple es _ _=>M.cond (decide (es.length≤100)) ((evs (ev cx n sc ρ) es).bind fun vs=>M.ret (.tup vs)) M.fail
  | .List es p=>M.cond (decide (es.length≤100)) ((evs (ev cx n sc ρ) es).bind fun vs=>zaw cx p vs) M.fail
  | .Dict ks vs _=>(M.lift (zez ks vs)).bind fun l=>M.cond (decide (l.length≤15)) (cnew (.dict (zhQ [] l))) M.fail
  | .Subscript v i p=>znK cx (ev cx n sc ρ) v i p
  | .ListComp elt gens csc p=>zjs cx sc ρ (ev cx n sc ρ) csc (fun ρ' e=>ev { cx with md:=⟨false,cx.md.lp⟩ } n csc ρ' e) elt gens p
  | .Call f args kws p=>match kws with
   | []=>zqJ cx sc ρ (ev cx n sc ρ) f args p
   | _::_=>M.fail
  | _=>M.fail
inductive Fl where
 | next (ρ:Loc)
 | ret (v:PV)
noncomputable def zjm(e:Expr):Bool:=zb9 e==8
noncomputable def zqV(md:Md)(t e:Expr):Bool:=
 match t with
 | .Name ..=>true
 | .Tuple ..=>md.lp&&zb9 e != 2
 | .Subscript _ i _=>zb9 i != 7&&zb9 i != 2
 | _=>false
noncomputable def setAt(o i v:PV):M Unit:=onRef o fun a=>match i with
 | .str k=>(dget a).bind fun kvs=>M.cond (decide (kvs.length<1000)) (cset a (.dict (dput k v kvs))) M.fail
 | .int k=>(lget a).bind fun xs=>M.cond (decide (0≤k)&&decide (k.toNat<xs.length)&&decide (xs.length<2 ^ 20)) (cset a (.list (xs.set k.toNat v))) M.fail
 | _=>M.fail
noncomputable def asg(E:Expr→M PV)(sc:Scope)(ρ:Loc)(t:Expr)(v:PV):M Loc:=
 match t with
 | .Subscript o i _=>(E o).bind fun ov=>(E i).bind fun iv=>(setAt ov iv v).bind fun _=>M.ret ρ
 | t=>M.lift (zgO sc ρ t v)
noncomputable def flK(k:Loc→M Fl):Fl→M Fl
 | .next ρ=>k ρ
 | .ret v=>M.ret (.ret v)
noncomputable def exs(X:Loc→Stmt→M Fl)(ρ:Loc):List Stmt→M Fl
 | []=>M.ret (.next ρ)
 | s::r=>(X ρ s).bind (flK fun ρ'=>exs X ρ' r)
noncomputable def forL(chk:M Unit)(sc:Scope)(t:Expr)(X:Loc→M Fl):List PV→Loc→M Fl
 | [],ρ=>chk.bind fun _=>M.ret (.next ρ)
 | x::xs,ρ=>chk.bind fun _=>(M.lift (zgO sc ρ t x)).bind fun ρ'=>(X ρ').bind (flK fun ρ''=>forL chk sc t X xs ρ'')
noncomputable def Loc.drop(ρ:Loc)(x:Str):Loc:=fun y=>if y=x then Option.none else ρ y
section
variable (cx:Cx) (sc:Scope) (ρ:Loc) (X:Loc→Stmt→M Fl) (Xh:Loc→Stmt→M Fl)
end
noncomputable def ex(cx:Cx):Nat→Scope→Loc→Stmt→M Fl
 | 0,_,_,_=>M.fail
 | n+1,sc,ρ,s=>match s with
  | .Return e _=>match e with
   | some e=>(ev cx n sc ρ e).bind fun v=>M.ret (.ret v)
   | Option.none=>M.fail
  | .Assign ts e _=>match ts with
   | []=>M.fail
   | t::r=>M.cond (r.isEmpty&&zqV cx.md t e) ((ev cx n sc ρ e).bind fun v=>(asg (ev cx n sc ρ) sc ρ t v).bind fun ρ'=>M.ret (.next ρ')) M.fail
  | .If t a b _=>(ev cx n sc ρ t).bind fun v=>(zap v).bind fun c=>M.cond c (exs (ex cx n sc) ρ a) (exs (ex cx n sc) ρ b)
  | .For t it b o _=>M.cond (o.isEmpty&&(cx.md.lp&&isTg t)) ((zcM cx sc ρ (ev cx n sc ρ) t it).bind fun src=>
    forL (chkW src.watch) sc t (fun ρ'=>exs (ex cx n sc) ρ' b) src.xs ρ) M.fail
  | .Expr e _=>M.cond (zjm e) M.fail ((ev cx n sc ρ e).bind fun _=>M.ret (.next ρ))
  | .Pass _=>M.ret (.next ρ)
  | _=>M.fail
noncomputable def nest:Nat:=60
noncomputable def params(ps:List Str)(vs:List PV):Loc:=fun y=>(ps.zip vs).lookup y
noncomputable def zah(G:Gl):Nat→Md→Addr→List PV→M PV
 | 0,_,_,_=>M.fail
 | d+1,md,a,vs=>match G.fns.lookup a with
  | some f=>M.cond (decide (f.params.length=vs.length))
    ((exs (ex { G:=G,call:=zah G d,md:=md } nest f.scope) (params f.params vs) f.body).bind fun r=>match r with
     | .ret v=>M.ret v
     | .next _=>M.ret .none) M.fail
  | Option.none=>M.fail
end
end Mine
namespace Mine
open PySem PySem.SeqAt PyProof.Rows
theorem M.bind_assoc{α β γ:Type}(x:M α)(f:α→M β)(g:β→M γ):(x.bind f).bind g=x.bind fun a=>(f a).bind g:=funext fun _=>zai x f g
theorem M.ret_bind{α β:Type}(a:α)(f:α→M β):(M.ret a).bind f=f a:=rfl
theorem M.cond_bind{α β:Type}(b:Bool)(x y:M α)(f:α→M β):(M.cond b x y).bind f=M.cond b (x.bind f) (y.bind f):=by cases b <;> rfl
structure EnvOk (env:Env) (sc:Scope):Prop where
 kind:env.scope.kind=.function
 globals:env.globals=mainGlobals
 builtins:env.builtins=builtinsNs
 loc:∀ x,sc.names.lookup x=some .local→env.kindOf x=some .local
 cel:∀ x,sc.names.lookup x=some .cell→env.kindOf x=some .cell
 glob:∀ x,sc.names.lookup x=some .globalImplicit→env.kindOf x=some .globalImplicit
 nodebug:env.kindOf "__debug__"=none
theorem EnvOk.dbg{env:Env}{sc:Scope}(H:EnvOk env sc){x:Str}{k:NameKind}(h:env.kindOf x=some k):(x==("__debug__":Str))=false:=by
 cases q:x==("__debug__":Str) with
 | false=>rfl
 | true=>rw [eq_of_beq q,H.nodebug] at h;cases h
noncomputable def bis:List (Str×Value):=[("len",.builtin "len"),("all",.builtin "all"),("any",.builtin "any"),("sum",.builtin "sum"),("isinstance",.builtin "isinstance"),("sorted",.builtin "sorted"),("min",.builtin "min"),
 ("list",.type "list"),("tuple",.type "tuple"),("int",.type "int"),("dict",.type "dict"),("str",.type "str"),("bool",.type "bool"),("range",.type "range"),("enumerate",.type "enumerate"),("zip",.type "zip"),
 ("set",.type "set"),("ValueError",.type "ValueError")]
structure GOk (hB:Heap) (G:Gl):Prop where
 ns:∃ mg mb,hB.Ns mainGlobals mg∧hB.Ns builtinsNs mb∧
  (∀ x a,G.names.lookup x=some (.fn a)→mg x=some (.ref a))∧(∀ x a,G.names.lookup x=some (.cls a)→mg x=some (.ref a))∧
  (∀ x v,G.names.lookup x=some (.val v)→∃ y,mg x=some y∧Rep hB Ad.nil [] v y)∧
  (∀ x v,G.names.lookup x=none→bis.lookup x=some v→mg x=none∧mb x=some v)
section
variable {prog:Program} {w:World} {hB:Heap} {A:Around} {s:Shared} {ι:Ad} {σ:zab} {env:Env} {ρ:Loc} {fl:List Env} {sc:Scope}
theorem StoreOk.notBase(S:StoreOk prog w hB s.heap ι σ){a:Addr}{o:Obj}(e:hB.get? a=some o):¬ Live ι σ a:=by
 rintro (⟨i,c,hi,_⟩ | q)
 ·rw [S.base _ (List.mem_of_getElem? hi)] at e;cases e
 ·rw [S.hbase _ q] at e;cases e
theorem Rep.base(S:StoreOk prog w hB s.heap ι σ)(B:hB.StaysIn s.heap){x:PV}{v:Value}(r:Rep hB Ad.nil [] x v):Rep s.heap ι σ x v:=
 r.to ⟨fun e _=>⟨B _ _ e,S.notBase e⟩,fun e=>absurd e (by simp [Ad.nil]),fun e c d k _=>.exc (B _ _ e) c d k (S.notBase e)⟩
theorem zni{x:Str}{pos:Pos}{v:PV}(H:EnvOk env sc)(I:Inv prog w hB env ρ fl s.heap ι σ)(hv:ρ x=some v)(Q:Value→Shared→Prop)(E:Value→Shared→Prop)
  (h:∀ y,Rep s.heap ι σ v y→Q y s):wpAny (model prog w) A (eval (.Name x pos) env) Q E s:=by
 rcases I.fr.kinds x v hv with k | k
 ·obtain ⟨m,hn,hm⟩:=I.fr.ns
  obtain ⟨y,hy,r⟩:=hm x v hv k
  exact wpAny_Name (wpAny_loadName_local H.kind k hn hy (h y r)) (H.dbg k)
 ·obtain ⟨c,y,hc,hy,r⟩:=I.fr.cel x v hv k
  exact wpAny_Name (wpAny_loadName_cell H.kind k hc hy (h y r)) (H.dbg k)
theorem zeX{x:Str}{pos:Pos}{mg:Str→Option Value}{v:Value}(H:EnvOk env sc)(hB':hB.StaysIn s.heap)(k:sc.names.lookup x=some .globalImplicit)(hg:hB.Ns mainGlobals mg)(hv:mg x=some v)(Q:Value→Shared→Prop)(E:Value→Shared→Prop)
  (h:Q v s):wpAny (model prog w) A (eval (.Name x pos) env) Q E s:=
 Calls.Name_function_global H.kind (H.glob x k) (Calls.loadGlobal_global (H.globals▸hg.keeps hB') hv h) (H.dbg (H.glob x k))
theorem zo1{x:Str}{pos:Pos}{mg mb:Str→Option Value}{v:Value}(H:EnvOk env sc)(hB':hB.StaysIn s.heap)(k:sc.names.lookup x=some .globalImplicit)(hg:hB.Ns mainGlobals mg)(hm:mg x=none)(hb:hB.Ns builtinsNs mb)(hv:mb x=some v)
  (Q:Value→Shared→Prop) (E:Value→Shared→Prop) (h:Q v s):wpAny (model prog w) A (eval (.Name x pos) env) Q E s:=
 Calls.Name_function_global H.kind (H.glob x k) (Calls.loadGlobal_builtin (H.globals▸hg.keeps hB') hm (H.builtins▸hb.keeps hB') hv h) (H.dbg (H.glob x k))
noncomputable def zhV:Callee→Value→Prop
 | .fn a,v=>v=.ref a
 | .cls a,v=>v=.ref a
 | .bi x,v=>bis.lookup x=some v
 | .val _,_=>False
theorem zb4{cx:Cx}{x:Str}{c:Callee}(hr:zaY cx sc ρ x=some c):(∃ v,c=.val v∧ρ x=some v)∨(ρ x=none∧sc.names.lookup x=some .globalImplicit∧
  ((∃ a,c=.fn a∧cx.G.names.lookup x=some (.fn a))∨(∃ a,c=.cls a∧cx.G.names.lookup x=some (.cls a))∨(∃ v,c=.val v∧cx.G.names.lookup x=some (.val v))∨(c=.bi x∧cx.G.names.lookup x=none))):=by
 unfold zaY at hr
 cases h1:ρ x with
 | some v=>rw [h1] at hr;cases hr;exact .inl ⟨v,rfl,rfl⟩
 | none=>
  rw [h1] at hr
  cases h2:sc.names.lookup x with
  | none=>rw [h2] at hr;cases hr
  | some k=>
   rw [h2] at hr
   cases k with
   | globalImplicit=>
    refine .inr ⟨rfl,rfl,?_⟩
    cases h3:cx.G.names.lookup x with
    | none=>rw [h3] at hr;cases hr;exact .inr (.inr (.inr ⟨rfl,rfl⟩))
    | some g=>
     rw [h3] at hr
     cases g with
     | fn a=>cases hr;exact .inl ⟨a,rfl,rfl⟩
     | cls a=>cases hr;exact .inr (.inl ⟨a,rfl,rfl⟩)
     | val v=>cases hr;exact .inr (.inr (.inl ⟨v,rfl,rfl⟩))
   | _=>cases hr
theorem za0{cx:Cx}{x:Str}{pos:Pos}{c:Callee}(hG:GOk hB cx.G)(H:EnvOk env sc)(hB':hB.StaysIn s.heap)(hr:zaY cx sc ρ x=some c)(hc:∃ v,zhV c v)(Q:Value→Shared→Prop)(E:Value→Shared→Prop)
  (h:∀ v,zhV c v→Q v s):wpAny (model prog w) A (eval (.Name x pos) env) Q E s:=by
 obtain ⟨mg,mb,g1,g2,g3,g4,g5,g6⟩:=hG.ns
 rcases zb4 hr with ⟨v,rfl,_⟩ | ⟨_,k,⟨a,rfl,e⟩ | ⟨a,rfl,e⟩ | ⟨v,rfl,e⟩ | ⟨rfl,e⟩⟩
 ·exact hc.elim fun v hv=>hv.elim
 ·exact zeX H hB' k g1 (g3 x a e) Q E (h _ rfl)
 ·exact zeX H hB' k g1 (g4 x a e) Q E (h _ rfl)
 ·exact hc.elim fun v hv=>hv.elim
 ·obtain ⟨v,hv⟩:=hc
  obtain ⟨m1,m2⟩:=g6 x v e hv
  exact zo1 H hB' k g1 m1 g2 m2 Q E (h v hv)
theorem zm5{cx:Cx}{x:Str}{pos:Pos}(hG:GOk hB cx.G)(H:EnvOk env sc)(I:Inv prog w hB env ρ fl s.heap ι σ):SimV prog w hB A (eval (.Name x pos) env) (zms cx sc ρ x pos) s ι σ:=by
 have fin:∀{v:PV},(∀ Q E,(∀ y,Rep s.heap ι σ v y→Q y s)→wpAny (model prog w) A (eval (.Name x pos) env) Q E s)→SimV prog w hB A (eval (.Name x pos) env) (M.cond (cx.G.fz.contains (pos.line,pos.col)) (zhI v) (M.ret v)) s ι σ:=
  fun h=>Sim.cond (fun _=>zig I.store I.stays h) fun _=>Sim.val I.store I.stays rfl fun Q E hq=>h Q E fun y r=>hq y s.toks r
 unfold zms
 cases hr:zaY cx sc ρ x with
 | none=>exact Sim.fail
 | some c=>
  rcases zb4 hr with ⟨v,rfl,hρ⟩ | ⟨_,k,⟨a,rfl,e⟩ | ⟨a,rfl,e⟩ | ⟨v,rfl,e⟩ | ⟨rfl,e⟩⟩
  ·exact fin fun Q E h=>zni H I hρ Q E h
  ·exact Sim.fail
  ·exact Sim.fail
  ·obtain ⟨mg,mb,g1,g2,g3,g4,g5,g6⟩:=hG.ns
   obtain ⟨y,hy,r⟩:=g5 x v e
   exact fin fun Q E h=>zeX H I.stays k g1 hy Q E (h y (r.base I.store I.stays))
  ·exact Sim.fail
end
noncomputable abbrev EvIH(prog:Program)(w:World)(hB:Heap)(A:Around)(env:Env)(ρ:Loc)(fl:List Env)(E:Expr→M PV):Prop:=
 ∀ e s ι σ,Inv prog w hB env ρ fl s.heap ι σ→SimV prog w hB A (eval e env) (E e) s ι σ
section
variable {prog:Program} {w:World} {hB:Heap} {A:Around} {s:Shared} {ι:Ad} {σ:zab} {env:Env} {ρ:Loc} {fl:List Env} {sc:Scope} {E:Expr→M PV}
theorem Sim.map{α β γ δ:Type}{R:Heap→Ad→zab→α→β→Prop}{R':Heap→Ad→zab→γ→δ→Prop}{t:Sem β}{f:β→δ}{r:M α}{g:α→γ}(h:Sim prog w hB A R t r s ι σ)
  (hr:∀ h' ι' σ' a x,R h' ι' σ' a x→R' h' ι' σ' (g a) (f x)):Sim prog w hB A R' (t >>= fun x=>Pure.pure (f x)) (r.bind fun a=>M.ret (g a)) s ι σ:=by
 intro Q E hns hok herr
 have hne:r σ≠.stuck:=fun q=>hns (zae q)
 refine wpAny_bind (h _ _ hne (fun a σ₁ e₁ x h₁ tk₁ dr₁ ι₁ X₁ r₁=>wpAny_pure ?_) (fun C σ₁ e₁ e h₁ tk₁ dr₁ ι₁ X₁ F₁=>?_))
 ·exact hok _ σ₁ (zaa e₁) _ h₁ tk₁ dr₁ ι₁ X₁ (hr _ _ _ _ _ r₁)
 ·exact herr C σ₁ (zaq e₁) e h₁ tk₁ dr₁ ι₁ X₁ F₁
theorem zaF(e:Expr)(r:List Expr)(hne:∀ x p,e≠.Starred x p):starEach (e::r) env=(false,eval e env)::starEach r env:=by
 cases e with
 | Starred x p=>exact absurd rfl (hne x p)
 | _=>rfl
theorem zb0(IH:EvIH prog w hB A env ρ fl E)(hst:∀ e p,E (.Starred e p)=M.fail)(pos:Pos):∀(es:List Expr)(s:Shared)(ι:Ad)(σ:zab),Inv prog w hB env ρ fl s.heap ι σ→
  Sim prog w hB A RepL (spliced (backTo pos (starEach es env))) (evs E es) s ι σ
 | [],s,ι,σ,I=>Sim.pure I.store I.stays .nil
 | e::r,s,ι,σ,I=>by
  by_cases q:∃ x p,e=.Starred x p
  ·obtain ⟨x,p,rfl⟩:=q
   exact Sim.bstuck (by rw [hst];rfl)
  ·rw [zaF e r fun x p q'=>q ⟨x,p,q'⟩]
   intro Q Er hns hok herr
   show wpAny _ _ (spliced ((false,eval e env)::backTo pos (starEach r env))) _ _ _
   refine Calls.spliced_cons ?_
   have hne:E e σ≠.stuck:=fun q=>hns (zae q)
   refine IH e s ι σ I _ _ hne (fun v σ₁ e₁ x h₁ tk₁ dr₁ ι₁ X₁ r₁=>?_) (fun C σ₁ e₁ e h₁ tk₁ dr₁ ι₁ X₁ F₁=>herr C σ₁ (zaq e₁) e h₁ tk₁ dr₁ ι₁ X₁ F₁)
   have I₁:=I.step X₁
   have hne₂:evs E r σ₁≠.stuck:=fun q=>hns ((zaa e₁).trans (zae q))
   refine zb0 IH hst pos r { s with heap:=h₁,toks:=tk₁,drawn:=dr₁ } ι₁ σ₁ I₁ _ _ hne₂ (fun vs σ₂ e₂ ys h₂ tk₂ dr₂ ι₂ X₂ r₂=>?_) (fun C σ₂ e₂ e h₂ tk₂ dr₂ ι₂ X₂ F₂=>?_)
   ·exact hok (v::vs) σ₂ ((zaa e₁).trans (zaa e₂)) (x::ys) h₂ tk₂ dr₂ ι₂ (X₁.trans I.store.len X₂) (.cons (r₁.step I₁.store.len X₂) r₂)
   ·exact herr C σ₂ ((zaa e₁).trans (zaq e₂)) e h₂ tk₂ dr₂ ι₂ (X₁.trans I.store.len X₂) (F₂.older X₁.evo.alive)
theorem zdD{α β:Type}{x:M α}{f:α→M β}{σ':zab}{b:β}(h:x.bind f σ=.ok b σ'):∃ a σ₁,x σ=.ok a σ₁∧f a σ₁=.ok b σ':=by
 unfold M.bind at h
 cases q:x σ with
 | ok a σ₁=>rw [q] at h;exact ⟨a,σ₁,rfl,h⟩
 | err C σ₁=>rw [q] at h;cases h
 | stuck=>rw [q] at h;cases h
theorem zdX(E:Expr→M PV):∀(es:List Expr)(σ σ':zab)(vs:List PV),evs E es σ=.ok vs σ'→vs.length=es.length
 | [],σ,σ',vs,h=>by cases h;rfl
 | e::r,σ,σ',vs,h=>by
  obtain ⟨a,σ₁,_,h2⟩:=zdD h
  obtain ⟨b,σ₂,h3,h4⟩:=zdD h2
  cases h4
  exact congrArg Nat.succ (zdX E r _ _ _ h3)
theorem zlr{cx:Cx}{n:Nat}{c:Const}{k:Nat}{pos:Pos}(I:Inv prog w hB env ρ fl s.heap ι σ):SimV prog w hB A (eval (.Constant c k pos) env) (ev cx (n+1) sc ρ (.Constant c k pos)) s ι σ:=by
 cases c with
 | none=>exact Sim.val I.store I.stays rfl fun Q E h=>Constant_none (h _ s.toks .none)
 | bool b=>exact Sim.val I.store I.stays rfl fun Q E h=>Constant_bool (h _ s.toks (.bool b))
 | int i=>exact Sim.val I.store I.stays rfl fun Q E h=>wpAny_mkInt (h _ _ (.int _ _))
 | str x=>exact Sim.val I.store I.stays rfl fun Q E h=>Calls.Constant_str (h _ _ (.str _ _))
 | _=>exact Sim.fail
theorem zfC(IH:EvIH prog w hB A env ρ fl E)(pos:Pos)(op:BoolOp):∀(es:List Expr)(s:Shared)(ι:Ad)(σ:zab),Inv prog w hB env ρ fl s.heap ι σ→
  SimV prog w hB A (boolOp pos op (evalEach es env)) (zfV E op es) s ι σ
 | [],s,ι,σ,I=>Sim.fail
 | [e],s,ι,σ,I=>IH e s ι σ I
 | e::f₂::r,s,ι,σ,I=>by
  show SimV prog w hB A (eval e env >>= fun v=>standAt pos >>= fun _=>holding [v] (truthy v) >>= fun t=>_) _ s ι σ
  refine Sim.bind I.store.len (IH e s ι σ I) fun v σ₁ x h₁ tk₁ dr₁ ι₁ e₁ X₁ r₁=>Sim.standAt pos ?_
  have I₁:=I.step X₁
  refine Sim.bind I₁.store.len ((zco I₁.store I₁.stays r₁).holding [x]) fun b σ₂ t h₂ tk₂ dr₂ ι₂ e₂ X₂ r₂=>?_
  have I₂:=I₁.step X₂
  have r₁':=r₁.step I₁.store.len X₂
  subst r₂
  have go:=zfC IH pos op (f₂::r) { s with heap:=h₂,toks:=tk₂,drawn:=dr₂ } ι₂ σ₂ I₂
  cases op <;> cases b
  ·exact Sim.pure I₂.store I₂.stays r₁'
  ·exact go
  ·exact go
  ·exact Sim.pure I₂.store I₂.stays r₁'
theorem zl0(op:CmpOp)(e:Expr)(t:Sem Value)(h:∀ a b c,e≠.Set a b c):markedBehindIn op e t=t:=by
 have:behindInMarks op e=false:=by
  cases e with
  | Set a b c=>exact absurd rfl (h a b c)
  | _=>rfl
 unfold markedBehindIn;rw [this]
theorem zkm(x:M PV)(f:PV→M PV)(g:PV→M PV):(x.bind fun b=>(f b).bind fun c=>(zap c).bind fun t=>M.cond t (g b) (M.ret c)).bind zap σ=(x.bind fun b=>(f b).bind fun c=>(zap c).bind fun t=>M.cond t ((g b).bind zap) (zap c)) σ:=by
 rw [M.bind_assoc]
 refine congrFun (congrArg (M.bind x) (funext fun b=>?_)) σ
 rw [M.bind_assoc]
 refine congrArg (M.bind _) (funext fun c=>?_)
 rw [M.bind_assoc]
 exact congrArg (M.bind _) (funext fun t=>M.cond_bind _ _ _ _)
theorem zi1{α β:Type}{R:Heap→Ad→zab→α→β→Prop}{T:Value→Sem β}{U:Value→Sem β}{F:PV→M α}{G:PV→M α}{op:CmpOp}{e:Expr}{a:PV}{x:Value}(IH:EvIH prog w hB A env ρ fl E)(hu:A.units+600<cLine)(pos:Pos)(I:Inv prog w hB env ρ fl s.heap ι σ)(r:Rep s.heap ι σ a x)
  (hT:∀ b y h' tk dr ι' σ',Inv prog w hB env ρ fl h' ι' σ'→Rep h' ι' σ' b y→Sim prog w hB A R (T y) (F b) { s with heap:=h',toks:=tk,drawn:=dr } ι' σ')
  (hU:∀ z h' tk dr ι' σ',StoreOk prog w hB h' ι' σ'→hB.StaysIn h'→Rep h' ι' σ' (.bool false) z→Sim prog w hB A R (U z) (G (.bool false)) { s with heap:=h',toks:=tk,drawn:=dr } ι' σ') :
  Sim prog w hB A R (holding [x] (eval e env) >>= fun rv=>standAt pos >>= fun _=>holding [x,rv] (compareOp op x rv) >>= fun c=>release [x,rv] [c] >>= fun _=>holding [c,rv] (truthy c) >>= fun t=>if t then T rv else U c)
   ((E e).bind fun b=>(zac op a b).bind fun c=>(zap c).bind fun t=>M.cond t (F b) (G c)) s ι σ:=by
 refine Sim.bind I.store.len ((IH e s ι σ I).holding [x]) fun b σ₁ y h₁ tk₁ dr₁ ι₁ e₁ X₁ r₁=>Sim.standAt pos ?_
 have I₁:=I.step X₁
 refine Sim.bind I₁.store.len (Sim.holding _ (zii I₁.store I₁.stays (r.step I.store.len X₁) r₁ hu)) fun c σ₂ z h₂ tk₂ dr₂ ι₂ e₂ X₂ r₂=>?_
 have I₂:=I₁.step X₂
 refine Sim.tree (t:=holding [z,y] (truthy z) >>= fun t=>if t then T y else U z) ?_ fun Q E k=>wpAny_bind (zdL _ _ k)
 refine Sim.bind I₂.store.len (Sim.holding _ (zco I₂.store I₂.stays r₂)) fun t σ₃ u h₃ tk₃ dr₃ ι₃ e₃ X₃ r₃=>?_
 subst r₃
 refine Sim.iff (fun _=>hT b y h₃ tk₃ dr₃ ι₃ σ₃ (I₂.step X₃) ((r₁.step I₁.store.len X₂).step I₂.store.len X₃)) fun hu'=>?_
 cases c with
 | bool b'=>cases e₃;cases hu';exact hU z h₃ tk₃ dr₃ ι₃ _ X₃.store X₃.stays (r₂.step I₂.store.len X₃)
 | _=>cases e₃
theorem zhh(IH:EvIH prog w hB A env ρ fl E)(hset:∀ a b c,E (.Set a b c)=M.fail)(hu:A.units+600<cLine)(pos:Pos):∀(ops:List CmpOp)(es:List Expr)(a:PV)(x:Value)(s:Shared)(ι:Ad)(σ:zab),Inv prog w hB env ρ fl s.heap ι σ→Rep s.heap ι σ a x→
  SimV prog w hB A (compareChain pos x ops (markedEach ops es (evalEach es env))) (ziH E a ops es) s ι σ∧
  Sim prog w hB A RB (testChain pos x ops (markedEach ops es (evalEach es env))) ((ziH E a ops es).bind zap) s ι σ:=by
 intro ops
 induction ops with
 | nil=>intro es a x s ι σ I r;exact ⟨Sim.fail,Sim.bstuck rfl⟩
 | cons op ops ih=>
  intro es a x s ι σ I r
  cases es with
  | nil=>exact ⟨Sim.fail,Sim.bstuck rfl⟩
  | cons e es=>
   cases ops with
   | nil=>
    cases es with
    | cons _ _=>exact ⟨Sim.fail,Sim.bstuck rfl⟩
    | nil=>
     have go:markedEach [op] [e] (evalEach [e] env)=[eval e env]→SimV prog w hB A (compareChain pos x [op] (markedEach [op] [e] (evalEach [e] env))) (ziH E a [op] [e]) s ι σ∧Sim prog w hB A RB (testChain pos x [op] (markedEach [op] [e] (evalEach [e] env))) ((ziH E a [op] [e]).bind zap) s ι σ:=by
      intro hm
      rw [hm]
      refine ⟨?_,Sim.res ?_ (zai _ _ _)⟩
      ·exact Sim.bind I.store.len ((IH e s ι σ I).holding [x]) fun b σ₁ y h₁ tk₁ dr₁ ι₁ e₁ X₁ r₁=>Sim.standAt pos (Sim.operate _ (zii X₁.store X₁.stays (r.step I.store.len X₁) r₁ hu))
      ·exact Sim.bind I.store.len ((IH e s ι σ I).holding [x]) fun b σ₁ y h₁ tk₁ dr₁ ι₁ e₁ X₁ r₁=>Sim.standAt pos
        (Sim.bind X₁.store.len (Sim.operate _ (zii X₁.store X₁.stays (r.step I.store.len X₁) r₁ hu)) fun c σ₂ z h₂ tk₂ dr₂ ι₂ e₂ X₂ r₂=>Sim.holding _ (zco X₂.store X₂.stays r₂))
     by_cases q:zb9 e=4
     ·have hs:E e=M.fail:=by
       cases e with
       | Set b c d=>exact hset b c d
       | _=>cases q
      exact ⟨Sim.bstuck (by rw [hs];rfl),Sim.bstuck (zae (by rw [hs];rfl))⟩
     ·exact go (congrArg (·::[]) (zl0 op e _ fun a b c q'=>q (by rw [q'];rfl)))
   | cons op₂ ops=>
    refine ⟨?_,Sim.res ?_ (zkm _ _ _)⟩
    ·exact zi1 (T:=fun y=>compareChain pos y (op₂::ops) (markedEach (op₂::ops) es (evalEach es env))) (U:=Pure.pure) (G:=M.ret) IH hu pos I r (fun b y h' tk dr ι' σ' I' r'=>(ih es b y _ ι' σ' I' r').1) fun z h' tk dr ι' σ' S B r'=>Sim.pure S B r'
    ·exact zi1 (T:=fun y=>testChain pos y (op₂::ops) (markedEach (op₂::ops) es (evalEach es env))) (U:=fun _=>Pure.pure false) (G:=zap) IH hu pos I r (fun b y h' tk dr ι' σ' I' r'=>(ih es b y _ ι' σ' I' r').2) fun z h' tk dr ι' σ' S B r'=>Sim.pure S B rfl
end
section
variable {prog:Program} {w:World} {hB:Heap} {A:Around} {s:Shared} {ι:Ad} {σ:zab} {env:Env} {ρ:Loc} {fl:List Env} {sc:Scope} {E:Expr→M PV}
theorem M.bind_ret{α:Type}(x:M α)(σ:zab):x σ=(x.bind fun a=>M.ret a) σ:=by
 unfold M.bind;cases x σ <;> rfl
theorem zlc{e:Expr}{r:M PV}{t:Sem Value}(hl:ι.vis.length=σ.length)(h:SimV prog w hB A t r s ι σ):Sim prog w hB A RB (t >>= fun v=>standAt e.pos >>= fun _=>holding [v] (truthy v)) (r.bind zap) s ι σ:=
 Sim.bind hl h fun _ _ _ _ _ _ _ _ X₁ r₁=>Sim.standAt _ (Sim.holding _ (zco X₁.store X₁.stays r₁))
noncomputable def zq6(op:BoolOp)(b:Bool):Bool:=match op with
 | .And=>!b
 | .Or=>b
theorem zmS(op:BoolOp)(x:M PV)(g:M PV):((x.bind fun v=>(zap v).bind fun b=>match op,b with | .And,false=>M.ret v | .Or,true=>M.ret v | _,_=>g).bind zap) σ=((x.bind zap).bind fun b=>M.cond (zq6 op b) (M.ret b) (g.bind zap)) σ:=by
 rw [zai,zai]
 refine congrFun (congrArg (M.bind x) (funext fun v=>?_)) σ
 cases v with
 | bool b=>cases op <;> cases b <;> rfl
 | _=>rfl
theorem zeP (T:∀ e s ι σ,Inv prog w hB env ρ fl s.heap ι σ→Sim prog w hB A RB (isTrue e env (eval e env)) ((E e).bind zap) s ι σ) (op:BoolOp):∀(es:List Expr)(s:Shared)(ι:Ad)(σ:zab),Inv prog w hB env ρ fl s.heap ι σ→es≠[]→
  Sim prog w hB A RB (allTrue op es env) ((zfV E op es).bind zap) s ι σ
 | [],s,ι,σ,I,h=>absurd rfl h
 | [e],s,ι,σ,I,_=>by
  show Sim prog w hB A RB (isTrue e env (eval e env) >>= fun t=>match op,t with | .And,false=>Pure.pure false | .Or,true=>Pure.pure true | _,_=>allTrue op [] env) ((E e).bind zap) s ι σ
  have:(E e).bind zap=((E e).bind zap).bind fun b=>M.ret b:=by
   funext σ;exact M.bind_ret _ σ
  rw [this]
  refine Sim.bind I.store.len (T e s ι σ I) fun b σ₁ t h₁ tk₁ dr₁ ι₁ e₁ X₁ r₁=>?_
  subst r₁
  cases op <;> cases b <;> exact Sim.pure X₁.store X₁.stays rfl
 | e::f::r,s,ι,σ,I,_=>by
  show Sim prog w hB A RB (isTrue e env (eval e env) >>= fun t=>match op,t with | .And,false=>Pure.pure false | .Or,true=>Pure.pure true | _,_=>allTrue op (f::r) env)
   (((E e).bind fun v=>(zap v).bind fun b=>match op,b with | .And,false=>M.ret v | .Or,true=>M.ret v | _,_=>zfV E op (f::r)).bind zap) s ι σ
  refine Sim.res ?_ (zmS op _ _)
  refine Sim.bind I.store.len (T e s ι σ I) fun b σ₁ t h₁ tk₁ dr₁ ι₁ e₁ X₁ r₁=>?_
  subst r₁
  have go:=zeP T op (f::r) { s with heap:=h₁,toks:=tk₁,drawn:=dr₁ } ι₁ σ₁ (I.step X₁) (by simp)
  cases op <;> cases b
  ·exact Sim.pure X₁.store X₁.stays rfl
  ·exact go
  ·exact go
  ·exact Sim.pure X₁.store X₁.stays rfl
theorem zlR(x:M PV):((x.bind fun a=>(zap a).bind fun b=>M.ret (PV.bool !b)).bind zap) σ=((x.bind zap).bind fun b=>M.ret (!b)) σ:=by
 rw [M.bind_assoc,M.bind_assoc]
 exact congrFun (congrArg (M.bind x) (funext fun a=>M.bind_assoc _ _ _)) σ
theorem znF{α:Type}(x:M PV)(f:Bool→M α):(x.bind fun v=>(zap v).bind f) σ=((x.bind zap).bind f) σ:=(zai x zap f).symm
theorem zml(x a b:M PV):((x.bind fun v=>(zap v).bind fun c=>M.cond c a b).bind zap) σ=((x.bind zap).bind fun c=>M.cond c (a.bind zap) (b.bind zap)) σ:=by
 rw [zai,zai]
 refine congrFun (congrArg (M.bind x) (funext fun v=>?_)) σ
 rw [M.bind_assoc]
 exact congrArg (M.bind _) (funext fun c=>M.cond_bind _ _ _ _)
theorem zdK{cx:Cx}(hu:A.units+600<cLine):∀(n:Nat),(∀ k,k≤n→EvIH prog w hB A env ρ fl (ev cx k sc ρ))→∀(e:Expr)(s:Shared)(ι:Ad)(σ:zab),Inv prog w hB env ρ fl s.heap ι σ→
  Sim prog w hB A RB (isTrue e env (eval e env)) ((ev cx n sc ρ e).bind zap) s ι σ:=by
 intro n
 induction n with
 | zero=>intro _ e s ι σ I;exact Sim.stuck rfl
 | succ n ih=>
  intro IH e s ι σ I
  have T:=ih fun k hk=>IH k (Nat.le_succ_of_le hk)
  have IHn:=IH n (Nat.le_succ n)
  have W:∀ e',e'=e→Sim prog w hB A RB (eval e' env >>= fun v=>standAt e'.pos >>= fun _=>holding [v] (truthy v)) ((ev cx (n+1) sc ρ e').bind zap) s ι σ:=fun e' q=>zlc I.store.len (IH (n+1) (Nat.le_refl _) e' s ι σ I)
  cases e with
  | UnaryOp op x p=>
   cases op with
   | Not=>
    show Sim prog w hB A RB (isTrue x env (eval x env) >>= fun b=>Pure.pure (!b)) _ s ι σ
    refine Sim.res ?_ (zlR _)
    exact Sim.map (T x s ι σ I) fun _ _ _ a b q=>by rw [show a=b from q]
   | _=>exact W _ rfl
  | BoolOp op vs p=>
   show Sim prog w hB A RB (allTrue op vs env) ((zfV (ev cx n sc ρ) op vs).bind zap) s ι σ
   cases vs with
   | nil=>exact Sim.stuck rfl
   | cons v vs=>exact zeP T op (v::vs) s ι σ I (by simp)
  | IfExp t a b p=>
   show Sim prog w hB A RB (isTrue t env (eval t env) >>= fun c=>if c then isTrue a env (eval a env) else isTrue b env (eval b env)) _ s ι σ
   refine Sim.res ?_ (zml _ _ _)
   refine Sim.bind I.store.len (T t s ι σ I) fun c σ₁ x h₁ tk₁ dr₁ ι₁ e₁ X₁ r₁=>?_
   subst r₁
   exact Sim.iff (fun _=>T a _ _ _ (I.step X₁)) fun _=>T b _ _ _ (I.step X₁)
  | Compare l ops cs p=>
   show Sim prog w hB A RB (eval l env >>= fun v=>testChain p v ops (markedEach ops cs (evalEach cs env))) _ s ι σ
   refine Sim.res ?_ (zai _ _ _)
   refine Sim.bind I.store.len (IHn l s ι σ I) fun a σ₁ x h₁ tk₁ dr₁ ι₁ e₁ X₁ r₁=>?_
   exact (zhh IHn (fun a b c=>by cases n <;> rfl) hu p ops cs a x _ ι₁ σ₁ (I.step X₁) r₁).2
  | _=>exact W _ rfl
theorem zld{op:UnaryOp}{x:Expr}{p:Pos}{cx:Cx}{n:Nat}(IH:EvIH prog w hB A env ρ fl (ev cx n sc ρ))(I:Inv prog w hB env ρ fl s.heap ι σ) :
  SimV prog w hB A (eval (.UnaryOp op x p) env) (ev cx (n+1) sc ρ (.UnaryOp op x p)) s ι σ:=by
 cases op with
 | Not=>
  show SimV prog w hB A (eval x env >>= fun v=>standAt p >>= fun _=>holding [v] (unaryOp .Not v)) ((ev cx n sc ρ x).bind fun a=>(zap a).bind fun b=>M.ret (.bool !b)) s ι σ
  refine Sim.bind I.store.len (IH x s ι σ I) fun a σ₁ y h₁ tk₁ dr₁ ι₁ e₁ X₁ r₁=>Sim.standAt p (Sim.holding _ ?_)
  refine Sim.tree (t:=truthy y >>= fun b=>Pure.pure (.bool (!b))) (Sim.map (f:=fun b=>Value.bool (!b)) (zco X₁.store X₁.stays r₁) fun _ _ _ a b q=>by rw [show a=b from q];exact .bool _) fun Q E k=>?_
  unfold unaryOp
  exact wpAny_holding k
 | USub=>
  show SimV prog w hB A (eval x env >>= fun v=>standAt p >>= fun _=>holding [v] (unaryOp .USub v)) ((ev cx n sc ρ x).bind fun a=>onInt a fun i=>M.ret (.int (-i))) s ι σ
  refine Sim.bind I.store.len (IH x s ι σ I) fun a σ₁ y h₁ tk₁ dr₁ ι₁ e₁ X₁ r₁=>Sim.standAt p (Sim.holding _ ?_)
  exact Sim.onInt r₁ fun i t=>Sim.val X₁.store X₁.stays rfl fun Q E h=>P.neg_int (h _ _ (.int _ _))
 | _=>exact Sim.stuck rfl
theorem zj4{op:Operator}{l r:Expr}{p:Pos}{cx:Cx}{n:Nat}(IH:EvIH prog w hB A env ρ fl (ev cx n sc ρ))(I:Inv prog w hB env ρ fl s.heap ι σ) :
  SimV prog w hB A (eval (.BinOp l op r p) env) (ev cx (n+1) sc ρ (.BinOp l op r p)) s ι σ:=by
 show SimV prog w hB A (eval l env >>= fun a=>holding [a] (eval r env) >>= fun b=>standAt p >>= fun _=>operate [a,b] (binaryOp op a b)) ((ev cx n sc ρ l).bind fun a=>(ev cx n sc ρ r).bind fun b=>znR cx p op a b) s ι σ
 refine Sim.bind I.store.len (IH l s ι σ I) fun a σ₁ x h₁ tk₁ dr₁ ι₁ e₁ X₁ r₁=>?_
 have I₁:=I.step X₁
 refine Sim.bind I₁.store.len (Sim.holding _ (IH r _ ι₁ σ₁ I₁)) fun b σ₂ y h₂ tk₂ dr₂ ι₂ e₂ X₂ r₂=>Sim.standAt p (Sim.operate _ ?_)
 exact zlt X₂.store X₂.stays (r₁.step I₁.store.len X₂) r₂
theorem zll{t a b:Expr}{p:Pos}{cx:Cx}{n:Nat}(hu:A.units+600<cLine)(IH:∀ k,k≤n→EvIH prog w hB A env ρ fl (ev cx k sc ρ))(I:Inv prog w hB env ρ fl s.heap ι σ) :
  SimV prog w hB A (eval (.IfExp t a b p) env) (ev cx (n+1) sc ρ (.IfExp t a b p)) s ι σ:=by
 show SimV prog w hB A (isTrue t env (eval t env) >>= fun c=>if c then eval a env else eval b env) _ s ι σ
 refine Sim.res ?_ (znF _ _)
 refine Sim.bind I.store.len (zdK hu n IH t s ι σ I) fun c σ₁ x h₁ tk₁ dr₁ ι₁ e₁ X₁ r₁=>?_
 subst r₁
 exact Sim.iff (fun _=>IH n (Nat.le_refl _) a _ _ _ (I.step X₁)) fun _=>IH n (Nat.le_refl _) b _ _ _ (I.step X₁)
theorem zih{l:Expr}{ops:List CmpOp}{cs:List Expr}{p:Pos}{cx:Cx}{n:Nat}(hu:A.units+600<cLine)(IH:EvIH prog w hB A env ρ fl (ev cx n sc ρ))(I:Inv prog w hB env ρ fl s.heap ι σ) :
  SimV prog w hB A (eval (.Compare l ops cs p) env) (ev cx (n+1) sc ρ (.Compare l ops cs p)) s ι σ:=by
 show SimV prog w hB A (eval l env >>= fun v=>compareChain p v ops (markedEach ops cs (evalEach cs env))) ((ev cx n sc ρ l).bind fun a=>ziH (ev cx n sc ρ) a ops cs) s ι σ
 refine Sim.bind I.store.len (IH l s ι σ I) fun a σ₁ x h₁ tk₁ dr₁ ι₁ e₁ X₁ r₁=>?_
 exact (zhh IH (fun a b c=>by cases n <;> rfl) hu p ops cs a x _ ι₁ σ₁ (I.step X₁) r₁).1
theorem za7{cx:Cx}{n:Nat}(e:Expr)(p:Pos):ev cx n sc ρ (.Starred e p)=M.fail:=by cases n <;> rfl
theorem zjT{es:List Expr}{b:Nat}{p:Pos}{cx:Cx}{n:Nat}(IH:EvIH prog w hB A env ρ fl (ev cx n sc ρ))(I:Inv prog w hB env ρ fl s.heap ι σ) :
  SimV prog w hB A (eval (.Tuple es b p) env) (ev cx (n+1) sc ρ (.Tuple es b p)) s ι σ:=by
 show SimV prog w hB A (standAt p >>= fun _=>spliced (backTo p (starEach es env)) >>= fun vs=>newTuple vs) (M.cond (decide (es.length≤100)) ((evs (ev cx n sc ρ) es).bind fun vs=>M.ret (.tup vs)) M.fail) s ι σ
 refine Sim.standAt p (Sim.cond (fun hl=>?_) fun _=>Sim.fail)
 refine Sim.bind I.store.len (zb0 IH za7 p es s ι σ I) fun vs σ₁ ys h₁ tk₁ dr₁ ι₁ e₁ X₁ r₁=>zoG X₁.store X₁.stays r₁ ?_
 rw [← r₁.length,zdX _ _ _ _ _ e₁]
 exact Nat.le_trans (of_decide_eq_true hl) (by decide)
theorem zli{es:List Expr}{p:Pos}{cx:Cx}{n:Nat}(IH:EvIH prog w hB A env ρ fl (ev cx n sc ρ))(I:Inv prog w hB env ρ fl s.heap ι σ) :
  SimV prog w hB A (eval (.List es p) env) (ev cx (n+1) sc ρ (.List es p)) s ι σ:=by
 show SimV prog w hB A (standAt p >>= fun _=>spliced (backTo p (starEach es env)) >>= fun vs=>newList vs) (M.cond (decide (es.length≤100)) ((evs (ev cx n sc ρ) es).bind fun vs=>zaw cx p vs) M.fail) s ι σ
 refine Sim.standAt p (Sim.cond (fun hl=>?_) fun _=>Sim.fail)
 refine Sim.bind I.store.len (zb0 IH za7 p es s ι σ I) fun vs σ₁ ys h₁ tk₁ dr₁ ι₁ e₁ X₁ r₁=>zjX X₁.store X₁.stays r₁ ?_
 rw [← r₁.length,zdX _ _ _ _ _ e₁]
 exact Nat.le_trans (of_decide_eq_true hl) (by decide)
theorem ziZ(IH:EvIH prog w hB A env ρ fl E)(I:Inv prog w hB env ρ fl s.heap ι σ)(o:Option Expr):Sim prog w hB A (fun _ _ _ a x=>IsPart x a) (valueOrNone (evalOpt o env)) (ze5 E o) s ι σ:=by
 cases o with
 | none=>exact Sim.pure I.store I.stays .none
 | some e=>
  show Sim prog w hB A _ (eval e env) ((E e).bind fun v=>M.lift (zlM v)) s ι σ
  intro Q Er hns hok herr
  have hne:E e σ≠.stuck:=fun q=>hns (zae q)
  refine IH e s ι σ I Q Er hne (fun v σ₁ e₁ x h₁ tk₁ dr₁ ι₁ X₁ r₁=>?_) (fun C σ₁ e₁ e h₁ tk₁ dr₁ ι₁ X₁ F₁=>herr C σ₁ (zaq e₁) e h₁ tk₁ dr₁ ι₁ X₁ F₁)
  cases v with
  | none=>cases r₁.inv;exact hok _ σ₁ (zaa e₁) _ h₁ tk₁ dr₁ ι₁ X₁ .none
  | int i=>obtain ⟨t,rfl⟩:=r₁.inv;exact hok _ σ₁ (zaa e₁) _ h₁ tk₁ dr₁ ι₁ X₁ (.int i t)
  | _=>exact (hns (zaa e₁)).elim
theorem zlf(IH:EvIH prog w hB A env ρ fl E)(I:Inv prog w hB env ρ fl s.heap ι σ)(lo hi:Option Expr):Sim prog w hB A (fun h _ _ (c:Option Int×Option Int) k=>∃ sl vl vu,k=.ref sl∧h.IsSliceOf sl vl vu .none∧IsPart vl c.1∧IsPart vu c.2)
  (valueOrNone (evalOpt lo env) >>= fun l=>holding [l] (valueOrNone (evalOpt hi env)) >>= fun u=>holding [l,u] (Pure.pure .none) >>= fun st=>newFields "slice" [l,u,st])
  ((ze5 E lo).bind fun l=>(ze5 E hi).bind fun h=>M.ret (l,h)) s ι σ:=by
 refine Sim.bind I.store.len (ziZ IH I lo) fun l σ₂ vl h₂ tk₂ dr₂ ι₂ e₂ X₂ pl=>?_
 have I₂:=I.step X₂
 refine Sim.bind I₂.store.len (Sim.holding _ (ziZ IH I₂ hi)) fun u σ₃ vu h₃ tk₃ dr₃ ι₃ e₃ X₃ pu=>?_
 refine Sim.tree (t:=newFields "slice" [vl,vu,.none]) ?_ fun Q E k=>wpAny_bind (wpAny_holding (wpAny_pure k))
 intro Q Er hns hok herr
 exact wpAny_newObj_type (hok _ σ₃ rfl _ _ tk₃ dr₃ ι₃ (Step.push X₃.store X₃.stays _) ⟨_,vl,vu,rfl,Heap.IsSliceOf.new _ _ _ _,pl,pu⟩)
theorem zid{α β γ:Type}(a:M α)(b:M β)(f:α→β→M γ):(a.bind fun l=>b.bind fun h=>f l h) σ=((a.bind fun l=>b.bind fun h=>M.ret (l,h)).bind fun c=>f c.1 c.2) σ:=by
 rw [zai]
 exact congrFun (congrArg (M.bind a) (funext fun l=>(M.bind_assoc b (fun h=>M.ret (l,h)) (fun c=>f c.1 c.2)).symm)) σ
theorem zm4{v i:Expr}{p:Pos}{cx:Cx}(IH:EvIH prog w hB A env ρ fl E)(I:Inv prog w hB env ρ fl s.heap ι σ) :
  SimV prog w hB A (eval (.Subscript v i p) env) (znK cx E v i p) s ι σ:=by
 have plain:znK cx E v i p=((E v).bind fun o=>(E i).bind fun k=>zaf o k)→eval (.Subscript v i p) env=(eval v env >>= fun o=>holding [o] (eval i env) >>= fun k=>standAt p >>= fun _=>subscriptTail v i o k)→SimV prog w hB A (eval (.Subscript v i p) env) (znK cx E v i p) s ι σ:=by
  intro q q'
  rw [q,q']
  refine Sim.bind I.store.len (IH v s ι σ I) fun o σ₁ x h₁ tk₁ dr₁ ι₁ e₁ X₁ r₁=>?_
  exact Sim.bind X₁.store.len (Sim.holding _ (IH i _ ι₁ σ₁ (I.step X₁))) fun k σ₂ y h₂ tk₂ dr₂ ι₂ e₂ X₂ r₂=>Sim.standAt p (zlk X₂.store X₂.stays (r₁.step X₁.store.len X₂) r₂)
 cases i with
 | Slice lo hi st q=>
  cases st with
  | some st=>
   exact Sim.fail
  | none=>
   show SimV prog w hB A (eval v env >>= fun o=>holding [o] (valueOrNone (evalOpt lo env) >>= fun l=>holding [l] (valueOrNone (evalOpt hi env)) >>= fun u=>holding [l,u] (Pure.pure .none) >>= fun st=>newFields "slice" [l,u,st]) >>= fun k=>standAt p >>= fun _=>subscriptTail v (.Slice lo hi none q) o k)
    ((E v).bind fun o=>(ze5 E lo).bind fun l=>(ze5 E hi).bind fun h=>cut cx p false o l h) s ι σ
   refine Sim.bind I.store.len (IH v s ι σ I) fun o σ₁ x h₁ tk₁ dr₁ ι₁ e₁ X₁ r₁=>?_
   refine Sim.res ?_ (zid _ _ _)
   refine Sim.bind X₁.store.len (Sim.holding _ (zlf IH (I.step X₁) lo hi)) fun c σ₂ k h₂ tk₂ dr₂ ι₂ e₂ X₂ r₂=>Sim.standAt p ?_
   obtain ⟨sl,vl,vu,rfl,hs,pl,pu⟩:=r₂
   exact zoN X₂.store X₂.stays (r₁.step X₁.store.len X₂) hs pl pu
 | _=>exact plain rfl rfl
end
end Mine
namespace Mine
open PySem PySem.SeqAt PyProof.Rows PySem.W
noncomputable def zia:Tn→String
 | .none=>"NoneType" | .bool=>"bool" | .int=>"int" | .str=>"str" | .tuple=>"tuple" | .list=>"list" | .dict=>"dict"
noncomputable def zeJ:Ty→Value
 | .bi T=>.type (zia T)
 | .valueError=>.type "ValueError"
 | .own C=>.ref C
structure ClsOk (K:Frag) (G:Gl):Prop where
section
variable {K:Frag}
theorem zqt(T U:Tn):kitOne K (.type (zia T)) (.type (zia U))=some (subT T U):=by
 cases T <;> cases U <;> first | rfl | decide +kernel
variable {prog:Program} {w:World} {hB:Heap} {A:Around} {s:Shared} {ι:Ad} {σ:zab} {env:Env} {ρ:Loc} {fl:List Env} {sc:Scope} {G:Gl}
theorem ziM{i:Nat}{c:Cel}{σ':zab}(h:cget i σ=.ok c σ'):σ'=σ∧σ[i]?=some c:=by
 unfold cget at h
 cases q:σ[i]? with
 | none=>rw [q] at h;cases h
 | some c=>rw [q] at h;cases h;exact ⟨rfl,rfl⟩
theorem zcH{i:Nat}{C:Addr}{σ':zab}(h:cget i σ=.err C σ'):False:=by
 unfold cget at h
 cases q:σ[i]? with
 | none=>rw [q] at h;cases h
 | some c=>rw [q] at h;cases h
theorem zcz{T:Tn}{t:Ty}{b:Bool}{σ':zab}(h:isBi T t σ=.ok b σ'):σ'=σ∧kitOne K (.type (zia T)) (zeJ t)=some b:=by
 cases t with
 | bi U=>cases h;exact ⟨rfl,zqt T U⟩
 | _=>cases h
theorem zmd{v:PV}{x:Value}{t₀:Ty}(C:ClsOk K G)(S:StoreOk prog w hB s.heap ι σ)(r:Rep s.heap ι σ v x)(hne:zbV G t₀ v σ≠.stuck) :
  ∃ tv H,KitX K x tv H∧H s.heap∧x≠.builtin "__main__.__loader__#opaque"∧∀ t b σ',zbV G t v σ=.ok b σ'→σ'=σ∧kitOne K tv (zeJ t)=some b:=by
 cases v with
 | none=>cases r.inv;exact ⟨_,_,kitx_none,trivial,(fun q=>nomatch q),fun t b σ' h=>zcz (T:=.none) h⟩
 | bool b=>cases r.inv;exact ⟨_,_,kitx_bool,trivial,(fun q=>nomatch q),fun t b σ' h=>zcz (T:=.bool) h⟩
 | int i=>obtain ⟨_,rfl⟩:=r.inv;exact ⟨_,_,kitx_int,trivial,(fun q=>nomatch q),fun t b σ' h=>zcz (T:=.int) h⟩
 | str i=>obtain ⟨_,rfl⟩:=r.inv;exact ⟨_,_,kitx_str,trivial,(fun q=>nomatch q),fun t b σ' h=>zcz (T:=.str) h⟩
 | tup xs=>obtain ⟨_,_,_,rfl,e,_⟩:=r.inv;exact ⟨_,_,kitx_tuple,⟨_,e,rfl⟩,(fun q=>nomatch q),fun t b σ' h=>zcz (T:=.tuple) h⟩
 | lst xs=>obtain ⟨_,_,_,rfl,e,_⟩:=r.inv;exact ⟨_,_,kitx_list,⟨_,e,rfl⟩,(fun q=>nomatch q),fun t b σ' h=>zcz (T:=.list) h⟩
 | ref i=>
  obtain ⟨a,rfl,hi⟩:=r.inv
  cases hc:cget i σ with
  | err=>exact (zcH hc).elim
  | stuck=>exact (hne (zae hc)).elim
  | ok c σ₁=>
   obtain ⟨rfl,hc'⟩:=ziM hc
   cases c with
   | list xs=>
    obtain ⟨vs,⟨n,hp⟩,_⟩:=S.ok _ _ _ hi hc'
    exact ⟨_,_,kitx_list,⟨_,hp,rfl⟩,(fun q=>nomatch q),fun t b σ' h=>zcz (T:=.list) ((zaa hc).symm.trans h)⟩
   | dict kvs=>
    obtain ⟨ys,hd,_⟩:=S.ok _ _ _ hi hc'
    exact ⟨_,_,kitx_dict,hd.typeIs (s:=s),(fun q=>nomatch q),fun t b σ' h=>zcz (T:=.dict) ((zaa hc).symm.trans h)⟩
   | dead=>exact (hne (zaa hc)).elim
 | exc D=>exact (hne rfl).elim
theorem zdn{β:Type}{x:Str}{v:β}:∀{l:List (Str×β)},l.lookup x=some v→(x,v)∈l
 | (y,w)::l,h=>by
  rw [List.lookup_cons] at h
  cases q:x==y with
  | true=>rw [q] at h;cases h;rw [eq_of_beq q];exact .head _
  | false=>rw [q] at h;exact .tail _ (zdn h)
theorem zkQ:∀ e∈tyTab,bis.lookup e.1=some (zeJ e.2):=by decide +kernel
theorem ziY{cx:Cx}{x:Str}{pos:Pos}{t:Ty}(hG:GOk hB cx.G)(H:EnvOk env sc)(hB':hB.StaysIn s.heap)(ht:tyOf cx sc ρ x=some t)(Q:Value→Shared→Prop)(E:Value→Shared→Prop)(h:Q (zeJ t) s) :
  wpAny (model prog w) A (eval (.Name x pos) env) Q E s:=by
 unfold tyOf at ht
 cases hr:zaY cx sc ρ x with
 | none=>rw [hr] at ht;cases ht
 | some c=>
  rw [hr] at ht
  cases c with
  | cls a=>cases ht;exact za0 hG H hB' hr ⟨_,rfl⟩ Q E fun v hv=>by cases hv;exact h
  | bi y=>
   have hb:bis.lookup y=some (zeJ t):=zkQ _ (zdn ht)
   exact za0 hG H hB' hr ⟨_,hb⟩ Q E fun v' hv=>by
    have hv':bis.lookup y=some v':=hv
    rw [hb] at hv';cases hv';exact h
  | _=>cases ht
end
section
variable {prog:Program} {w:World} {hB:Heap} {A:Around} {s:Shared} {ι:Ad} {σ:zab} {env:Env} {ρ:Loc} {fl:List Env} {sc:Scope} {E:Expr→M PV} {K:Frag}
theorem Sim.nest{α β γ δ:Type}{R:Heap→Ad→zab→α→β→Prop}{R':Heap→Ad→zab→δ→γ→Prop}{t:Sem β}{k:β→Sem γ}{r:M α}{f:α→M δ}(hl:ι.vis.length=σ.length)
  (h1:Sim prog w hB A R t r s ι σ)
  (h2:∀ a σ' x h' tk dr ι',r σ=.ok a σ'→Step prog w hB s.heap ι σ h' ι' σ'→R h' ι' σ' a x→Sim prog w hB A R' (k x) (f a) { s with heap:=h',toks:=tk,drawn:=dr } ι' σ')
  (Q:γ→Shared→Prop) (E:Value→Shared→Prop) (hns:(r.bind f) σ≠.stuck)
  (hok:∀ a σ',(r.bind f) σ=.ok a σ'→∀ x h' tk dr ι',Step prog w hB s.heap ι σ h' ι' σ'→R' h' ι' σ' a x→Q x { s with heap:=h',toks:=tk,drawn:=dr })
  (herr:∀ C σ',(r.bind f) σ=.err C σ'→∀ e h' tk dr ι',Step prog w hB s.heap ι σ h' ι' σ'→Fly s.heap h' e C→E (.ref e) { s with heap:=h',toks:=tk,drawn:=dr }) :
  wpAny (model prog w) A t (fun x s₁=>wpAny (model prog w) A (k x) Q E s₁) E s:=by
 have hne:r σ≠.stuck:=fun q=>hns (zae q)
 refine h1 _ _ hne (fun a σ₁ e₁ x h₁ tk₁ dr₁ ι₁ X₁ r₁=>?_) (fun C σ₁ e₁ e h₁ tk₁ dr₁ ι₁ X₁ F₁=>?_)
 ·have hb:(r.bind f) σ=f a σ₁:=zaa e₁
  refine h2 a σ₁ x h₁ tk₁ dr₁ ι₁ e₁ X₁ r₁ Q E (by rw [← hb];exact hns) (fun b σ₂ e₂ y h₂ tk₂ dr₂ ι₂ X₂ r₂=>?_) (fun C σ₂ e₂ e h₂ tk₂ dr₂ ι₂ X₂ F₂=>?_)
  ·exact hok b σ₂ (hb.trans e₂) y h₂ tk₂ dr₂ ι₂ (X₁.trans hl X₂) r₂
  ·exact herr C σ₂ (hb.trans e₂) e h₂ tk₂ dr₂ ι₂ (X₁.trans hl X₂) (F₂.older X₁.evo.alive)
 ·exact herr C σ₁ (zaq e₁) e h₁ tk₁ dr₁ ι₁ X₁ F₁
theorem Sim.arg0{α β:Type}{R:Heap→Ad→zab→α→β→Prop}{t:List Value→Sem β}{k:M α}{vs:List PV}{xs:List Value}(r:RepL s.heap ι σ vs xs)(h:Sim prog w hB A R (t []) k s ι σ):Sim prog w hB A R (t xs) (arg0 vs k) s ι σ:=by
 cases r with
 | nil=>exact h
 | cons=>exact Sim.fail
theorem Sim.arg1{α β:Type}{R:Heap→Ad→zab→α→β→Prop}{t:List Value→Sem β}{k:PV→M α}{vs:List PV}{xs:List Value}(r:RepL s.heap ι σ vs xs)(h:∀ v x,Rep s.heap ι σ v x→Sim prog w hB A R (t [x]) (k v) s ι σ):Sim prog w hB A R (t xs) (arg1 vs k) s ι σ:=by
 cases r with
 | nil=>exact Sim.fail
 | cons r rs=>exact Sim.arg0 (t:=fun xs=>t (_::xs)) rs (h _ _ r)
theorem Sim.arg2{α β:Type}{R:Heap→Ad→zab→α→β→Prop}{t:List Value→Sem β}{k:PV→PV→M α}{vs:List PV}{xs:List Value}(r:RepL s.heap ι σ vs xs)(h:∀ v x u y,Rep s.heap ι σ v x→Rep s.heap ι σ u y→Sim prog w hB A R (t [x,y]) (k v u) s ι σ):Sim prog w hB A R (t xs) (arg2 vs k) s ι σ:=by
 cases r with
 | nil=>exact Sim.fail
 | cons r rs=>exact Sim.arg1 (t:=fun xs=>t (_::xs)) rs fun u y r'=>h _ _ u y r r'
theorem zaL{e:Expr}{r:List Expr}(h:zau (e::r)=true):zau r=true∧∀ x p,e≠.Starred x p:=by
 unfold zau at h ⊢
 rw [Bool.and_eq_true,List.all_cons,Bool.and_eq_true] at h
 exact ⟨Bool.and_eq_true_iff.mpr ⟨decide_eq_true (Nat.le_of_succ_le (of_decide_eq_true h.1)),h.2.2⟩,fun x p q=>by have:=h.2.1;rw [q] at this;cases this⟩
theorem zaH(pos:Pos):∀{es:List Expr},zau es=true→(backTo pos (starEach es env)).any (·.1)=false
 | [],_=>rfl
 | e::r,h=>by
  obtain ⟨h1,h2⟩:=zaL h
  rw [zaF e r h2]
  show (false || (backTo pos (starEach r env)).any (·.1))=false
  rw [zaH pos h1];rfl
theorem zeu{f:Value}(IH:EvIH prog w hB A env ρ fl E)(hst:∀ e p,E (.Starred e p)=M.fail)(pos:Pos){es:List Expr}(hp:zau es=true)(I:Inv prog w hB env ρ fl s.heap ι σ) :
  Sim prog w hB A (fun h ι σ vs (a:Args)=>RepL h ι σ vs a.pos∧a.kw=[]) (evalArgs f true (backTo pos (starEach es env)) []) (evs E es) s ι σ:=by
 have X:=zb0 IH hst pos es s ι σ I
 cases es with
 | nil=>exact Sim.val I.store I.stays rfl fun Q E h=>PySem.evalArgs_none (h _ s.toks ⟨.nil,rfl⟩)
 | cons e r=>
  rw [zaF e r (zaL hp).2] at X ⊢
  intro Q Er hns hok herr
  exact Calls.evalArgs_plain (X _ _ hns (fun a σ' q x h' tk dr ι' Y r=>hok a σ' q ⟨x,[]⟩ h' tk dr ι' Y ⟨r,rfl⟩) herr)
theorem zj3{cv:Value}{cx:Cx}{f y:Str}{fp p:Pos}{args:List Expr}{r:List PV→M PV}(hG:GOk hB cx.G)(H:EnvOk env sc)(IH:EvIH prog w hB A env ρ fl E)(hst:∀ e p,E (.Starred e p)=M.fail)(I:Inv prog w hB env ρ fl s.heap ι σ)
  (hp:zau args=true) (hr:zaY cx sc ρ f=some (.bi y)) (hb:bis.lookup y=some cv) (hcv:(∃ i,cv=.builtin i)∨∃ i,cv=.type i)
  (hc:∀ vs xs s' ι' σ',Inv prog w hB env ρ fl s'.heap ι' σ'→RepL s'.heap ι' σ' vs xs→SimV prog w hB A (call cv xs) (r vs) s' ι' σ') :
  SimV prog w hB A (eval (.Call (.Name f fp) args [] p) env) ((evs E args).bind r) s ι σ:=by
 intro Q Er hns hok herr
 refine Call_Name rfl (za0 hG H I.stays hr ⟨cv,hb⟩ _ _ fun v hv=>?_)
 have hv':bis.lookup y=some v:=hv
 rw [hb] at hv';cases hv'
 have Z:=Sim.nest (k:=fun(a:Args)=>call cv ([]++a.pos) a.kw) (f:=r) I.store.len (zeu (f:=cv) IH hst p hp I) (fun vs σ₁ a h₁ tk₁ dr₁ ι₁ e₁ X₁ r₁=>by
  obtain ⟨a,kw⟩:=a
  obtain ⟨r₁,q⟩:=r₁
  cases q
  exact hc vs a _ ι₁ σ₁ (I.step X₁) r₁) Q Er hns hok herr
 rcases hcv with ⟨i,rfl⟩ | ⟨i,rfl⟩
 ·exact Calls.callWith_builtin (zaH p hp) Z
 ·exact PyProof.Rows.callWith_type (zaH p hp) Z
theorem znC{G:Gl}{v:PV}{tv:Value}(hk:∀ t b σ',zbV G t v σ=.ok b σ'→σ'=σ∧kitOne K tv (zeJ t)=some b)(hne:∀ t C σ',zbV G t v σ≠.err C σ')(ts:List Ty) :
  (∃ b,zkr G v ts σ=.ok b σ∧kitAny K tv (ts.map zeJ)=some b)∨zkr G v ts σ=.stuck:=by
 induction ts with
 | nil=>exact .inl ⟨false,rfl,rfl⟩
 | cons t r ih=>
  cases h:zbV G t v σ with
  | ok b σ'=>
   obtain ⟨rfl,hk'⟩:=hk t b σ' h
   cases b with
   | true=>exact .inl ⟨true,zaa h,by rw [List.map_cons];unfold kitAny;rw [hk']⟩
   | false=>
    rcases ih with ⟨b,h1,h2⟩ | h1
    ·exact .inl ⟨b,(zaa h).trans h1,by rw [List.map_cons];unfold kitAny;rw [hk',h2]⟩
    ·exact .inr ((zaa h).trans h1)
  | err C σ'=>exact absurd h (hne t C σ')
  | stuck=>exact .inr (zae h)
theorem zef{G:Gl}{v:PV}(t:Ty)(C:Addr)(σ':zab):zbV G t v σ≠.err C σ':=by
 intro h
 have b:∀ T t,isBi T t σ≠.err C σ':=fun T t h=>by cases t <;> cases h
 cases v with
 | ref i=>
  cases hc:cget i σ with
  | stuck=>rw [show zbV G t (.ref i) σ=_ from zae hc] at h;cases h
  | err=>exact zcH hc
  | ok c σ₁=>
   obtain ⟨rfl,_⟩:=ziM hc
   rw [show zbV G t (.ref i) σ₁=_ from zaa hc] at h
   cases c with
   | list _=>exact b _ _ h
   | dict _=>exact b _ _ h
   | dead=>cases h
 | exc D=>exact nomatch (show (Rs.stuck:Rs Bool)=.err C σ' from h)
 | _=>exact b _ _ h
theorem zjM{cx:Cx}{e:Expr}{r:List Expr}{ts:List Ty}(h:zjN cx sc ρ (e::r)=some ts):∃ x p t ts',e=.Name x p∧tyOf cx sc ρ x=some t∧zjN cx sc ρ r=some ts'∧ts=t::ts':=by
 obtain ⟨x,h1,q⟩:=Option.bind_eq_some_iff.mp h
 obtain ⟨t,h2,q₂⟩:=Option.bind_eq_some_iff.mp q
 obtain ⟨ts',h3,q₃⟩:=Option.bind_eq_some_iff.mp q₂
 cases q₃
 exact ⟨_,_,t,ts',x.2,h2,h3,rfl⟩
theorem zc5{cx:Cx}{pos:Pos}(hG:GOk hB cx.G)(H:EnvOk env sc)(B:hB.StaysIn s.heap):∀{es:List Expr}{ts:List Ty},zjN cx sc ρ es=some ts→ts.length=es.length∧∀(Q:List Value→Shared→Prop)(E:Value→Shared→Prop),Q (ts.map zeJ) s→
  wpAny (model prog w) A (spliced (backTo pos (starEach es env))) Q E s
 | [],ts,h=>by cases h;exact ⟨rfl,fun Q E q=>Calls.spliced_nil q⟩
 | e::r,ts,h=>by
  obtain ⟨x,p,t,ts',rfl,h1,h2,rfl⟩:=zjM h
  have ih:=zc5 (pos:=pos) hG H B h2
  exact ⟨congrArg Nat.succ ih.1,fun Q E q=>Calls.spliced_cons (ziY hG H B h1 _ _ (ih.2 _ _ q))⟩
theorem zcX:bis.lookup ("isinstance":Str)=some (.builtin "isinstance"):=by decide +kernel
theorem zhg{cx:Cx}{f:Str}{fp p:Pos}{x te:Expr}{g:PV→M Bool}(hG:GOk hB cx.G)(H:EnvOk env sc)(IH:EvIH prog w hB A env ρ fl E)(I:Inv prog w hB env ρ fl s.heap ι σ)
  (hp:zau [x,te]=true) (hr:zaY cx sc ρ f=some (.bi "isinstance"))
  (hg:∀ v xv s' ι' σ',Inv prog w hB env ρ fl s'.heap ι' σ'→Rep s'.heap ι' σ' v xv→g v σ'=.stuck∨∃ b,g v σ'=.ok b σ'∧∀(Q:Value→Shared→Prop)(E:Value→Shared→Prop),(∀ h' tk,(∀ a o,s'.heap.get? a=some o→h'.get? a=some o)→Q (.bool b) { s' with heap:=h',toks:=tk })→
    wpAny (model prog w) A (eval te env) (fun tv s₁=>wpAny (model prog w) A (call (.builtin "isinstance") [xv,tv]) Q E s₁) E s') :
  SimV prog w hB A (eval (.Call (.Name f fp) [x,te] [] p) env) ((E x).bind fun v=>(g v).bind fun b=>M.ret (.bool b)) s ι σ:=by
 intro Q Er hns hok herr
 refine Call_Name rfl (za0 hG H I.stays hr ⟨_,zcX⟩ _ _ fun v hv=>?_)
 have hv':bis.lookup ("isinstance":Str)=some v:=hv
 rw [zcX] at hv';cases hv'
 obtain ⟨h1,h2⟩:=zaL hp
 obtain ⟨_,h3⟩:=zaL h1
 refine Calls.callWith_builtin (zaH p hp) ?_
 rw [zaF x [te] h2,zaF te [] h3]
 refine Calls.evalArgs_plain (Calls.spliced_cons ?_)
 refine IH x s ι σ I _ _ (fun q=>hns (zae q)) (fun v σ₁ e₁ xv h₁ tk₁ dr₁ ι₁ X₁ r₁=>?_) (fun C σ₁ e₁ e h₁ tk₁ dr₁ ι₁ X₁ F₁=>herr C σ₁ (zaq e₁) e h₁ tk₁ dr₁ ι₁ X₁ F₁)
 rcases hg v xv { s with heap:=h₁,toks:=tk₁,drawn:=dr₁ } ι₁ σ₁ (I.step X₁) r₁ with q | ⟨b,e₂,k⟩
 ·exact (hns ((zaa e₁).trans (zae q))).elim
 ·refine Calls.spliced_cons (wpAny_mono (k Q Er fun h₂ tk₂ hk=>?_) (fun tv s₁ h'=>Calls.spliced_nil h') fun _ _ e=>e)
  have X₂:=Step.keeps (prog:=prog) (w:=w) X₁.store X₁.stays hk
  exact hok _ σ₁ ((zaa e₁).trans (zaa e₂)) _ _ _ _ ι₁ (X₁.trans I.store.len X₂) (.bool b)
theorem zqx{cx:Cx}{t:Str}{q:Pos}{v:PV}{xv:Value}(C:ClsOk K cx.G)(hG:GOk hB cx.G)(hK:K.In hB)(H:EnvOk env sc)(S:StoreOk prog w hB s.heap ι σ)(B:hB.StaysIn s.heap)(r:Rep s.heap ι σ v xv) :
  znD cx sc ρ v t σ=.stuck∨∃ b,znD cx sc ρ v t σ=.ok b σ∧∀(Q:Value→Shared→Prop)(E:Value→Shared→Prop),(∀ h' tk,(∀ a o,s.heap.get? a=some o→h'.get? a=some o)→Q (.bool b) { s with heap:=h',toks:=tk })→
   wpAny (model prog w) A (eval (.Name t q) env) (fun tv s₁=>wpAny (model prog w) A (call (.builtin "isinstance") [xv,tv]) Q E s₁) E s:=by
 unfold znD
 cases ht:tyOf cx sc ρ t with
 | none=>exact .inl rfl
 | some t'=>
  cases hi:zbV cx.G t' v σ with
  | stuck=>exact .inl hi
  | err D σ'=>exact absurd hi (zef _ _ _)
  | ok b σ'=>
   obtain ⟨tv,Hh,Z,hH,hx,hk⟩:=zmd (K:=K) (t₀:=t') C S r (by rw [hi];exact fun q=>nomatch q)
   obtain ⟨rfl,hk'⟩:=hk t' b σ' hi
   exact .inr ⟨b,hi,fun Q E hq=>ziY hG H B ht _ _ (kia_one Z (hK.keeps B) hH hk' hx fun tk=>hq s.heap tk fun _ _ e=>e)⟩
theorem zpj{cx:Cx}{es:List Expr}{k:Nat}{q:Pos}{v:PV}{xv:Value}(hl:es.length≤10)(C:ClsOk K cx.G)(hG:GOk hB cx.G)(hK:K.In hB)(H:EnvOk env sc)(S:StoreOk prog w hB s.heap ι σ)(B:hB.StaysIn s.heap)(r:Rep s.heap ι σ v xv) :
  isTy cx sc ρ v es σ=.stuck∨∃ b,isTy cx sc ρ v es σ=.ok b σ∧∀(Q:Value→Shared→Prop)(E:Value→Shared→Prop),(∀ h' tk,(∀ a o,s.heap.get? a=some o→h'.get? a=some o)→Q (.bool b) { s with heap:=h',toks:=tk })→
   wpAny (model prog w) A (eval (.Tuple es k q) env) (fun tv s₁=>wpAny (model prog w) A (call (.builtin "isinstance") [xv,tv]) Q E s₁) E s:=by
 unfold isTy
 cases hts:zjN cx sc ρ es with
 | none=>exact .inl rfl
 | some tys=>
  cases tys with
  | nil=>exact .inl rfl
  | cons t tys=>
   show zkr cx.G v (t::tys) σ=.stuck∨∃ b,zkr cx.G v (t::tys) σ=.ok b σ∧_
   by_cases hne:zbV cx.G t v σ=.stuck
   ·exact .inl (zae hne)
   ·have X:=Step.push (prog:=prog) (w:=w) S B { cls:=.type "tuple",data:=.seq ((t::tys).map zeJ).toArray }
    obtain ⟨tv,Hh,Z,hH,hx,hk⟩:=zmd (K:=K) (s:={ s with heap:=s.heap.push { cls:=.type "tuple",data:=.seq ((t::tys).map zeJ).toArray } }) C X.store (r.step S.len X) hne
    rcases znC (K:=K) hk (fun t C σ'=>zef _ _ _) (t::tys) with ⟨b,h1,h2⟩ | h1
    ·have sp:=zc5 (prog:=prog) (w:=w) (A:=A) (pos:=q) hG H B hts
     refine .inr ⟨b,h1,fun Q E hq=>wpAny_bind (wpAny_standAt (wpAny_bind (sp.2 _ _ (wpAny_newObj_type ?_ ?_))))⟩
     ·exact kia_tup Z (hK.keeps X.stays) hH (Heap.get?_push_size _ rfl) h2 hx fun tk=>hq _ tk fun _ _ e=>Heap.get?_push_of_some _ e
     ·show ((t::tys).map zeJ).toArray.size≤sizeLine
      rw [List.size_toArray,List.length_map,sp.1]
      exact Nat.le_trans hl (by decide)
    ·exact .inl h1
theorem zjZ{cx:Cx}{f:Str}{fp p:Pos}{args:List Expr}(C:ClsOk K cx.G)(hG:GOk hB cx.G)(hK:K.In hB)(H:EnvOk env sc)(IH:EvIH prog w hB A env ρ fl E)(I:Inv prog w hB env ρ fl s.heap ι σ)
  (hp:zau args=true) (hr:zaY cx sc ρ f=some (.bi "isinstance")) :
  SimV prog w hB A (eval (.Call (.Name f fp) args [] p) env) (evIs cx sc ρ E args) s ι σ:=by
 match args,hp with
 | [],_=>exact Sim.fail
 | [x],_=>exact Sim.fail
 | x::y::z::r,_=>exact Sim.fail
 | [x,te],hp=>
  cases te with
  | Name t q=>exact zhg hG H IH I hp hr fun v xv s' ι' σ' I' r'=>zqx C hG hK H I'.store I'.stays r'
  | Tuple es k q=>exact Sim.cond (fun hl=>zhg hG H IH I hp hr fun v xv s' ι' σ' I' r'=>zpj (of_decide_eq_true hl) C hG hK H I'.store I'.stays r') fun _=>Sim.fail
  | _=>exact Sim.fail
end
section
variable {prog:Program} {w:World} {hB:Heap} {A:Around} {s:Shared} {ι:Ad} {σ:zab} {h h':Heap} {env:Env} {ρ:Loc} {fl:List Env} {sc:Scope}
noncomputable def PR(h:Heap)(ι:Ad)(σ:zab)(kvs:List (Str×PV))(ys:List (Str×Value)):Prop:=
 ys.map (·.1)=kvs.map (·.1)∧RepL h ι σ (kvs.map (·.2)) (ys.map (·.2))
theorem PR.nil:PR h ι σ [] []:=⟨rfl,.nil⟩
theorem PR.cons{k:Str}{v:PV}{x:Value}{kvs:List (Str×PV)}{ys:List (Str×Value)}(r:Rep h ι σ v x)(p:PR h ι σ kvs ys):PR h ι σ ((k,v)::kvs) ((k,x)::ys):=⟨by simp [p.1],.cons r p.2⟩
theorem PR.inv{kv:Str×PV}{kvs:List (Str×PV)}{ys:List (Str×Value)}(p:PR h ι σ (kv::kvs) ys):∃ x ys',ys=(kv.1,x)::ys'∧Rep h ι σ kv.2 x∧PR h ι σ kvs ys':=by
 obtain ⟨h1,h2⟩:=p
 cases ys with
 | nil=>simp at h1
 | cons y ys'=>
  obtain ⟨k,x⟩:=y
  simp only [List.map_cons,List.cons.injEq] at h1
  obtain ⟨rfl,h1⟩:=h1
  cases h2 with
  | cons r rs=>exact ⟨x,ys',rfl,r,h1,rs⟩
theorem PR.nil_inv{ys:List (Str×Value)}(p:PR h ι σ [] ys):ys=[]:=by
 have:=p.1;simpa using this
theorem PR.append{a b:List (Str×PV)}{xs ys:List (Str×Value)}(p:PR h ι σ a xs)(q:PR h ι σ b ys):PR h ι σ (a++b) (xs++ys):=⟨by simp [p.1,q.1],by simpa using p.2.append q.2⟩
theorem PR.length{kvs:List (Str×PV)}{ys:List (Str×Value)}(p:PR h ι σ kvs ys):ys.length=kvs.length:=by
 have:=congrArg List.length p.1;simpa using this
theorem PR.any(k:Str):∀{kvs:List (Str×PV)}{ys:List (Str×Value)},PR h ι σ kvs ys→(ys.any fun kv=>decide (kv.1=k))=kvs.any fun kv=>decide (kv.1=k)
 | [],_,p=>by rw [p.nil_inv];rfl
 | kv::kvs,_,p=>by
  obtain ⟨x,ys',rfl,_,q⟩:=p.inv
  simp only [List.any_cons,PR.any k q]
theorem PR.mapPut{k:Str}{v:PV}{x:Value}(r:Rep h ι σ v x):∀{kvs:List (Str×PV)}{ys:List (Str×Value)},PR h ι σ kvs ys→
  PR h ι σ (kvs.map fun kv=>if kv.1=k then (kv.1,v) else kv) (ys.map fun kv=>if kv.1=k then (kv.1,x) else kv)
 | [],_,p=>by rw [p.nil_inv];exact PR.nil
 | (k',v')::kvs,_,p=>by
  obtain ⟨y,ys',rfl,r',q⟩:=p.inv
  simp only [List.map_cons]
  by_cases hk:k'=k
  ·simp only [hk,if_true];exact PR.cons r (PR.mapPut r q)
  ·simp only [hk,if_false];exact PR.cons r' (PR.mapPut r q)
theorem PR.put{k:Str}{v:PV}{x:Value}{kvs:List (Str×PV)}{ys:List (Str×Value)}(p:PR h ι σ kvs ys)(r:Rep h ι σ v x):PR h ι σ (dput k v kvs) (stored ys k x):=by
 unfold dput stored
 rw [p.any k]
 split
 ·exact PR.mapPut r p
 ·exact p.append (PR.cons r PR.nil)
theorem PR.merge:∀{b:List (Str×PV)}{ys:List (Str×Value)}{a:List (Str×PV)}{xs:List (Str×Value)},PR h ι σ a xs→PR h ι σ b ys→PR h ι σ (zhQ a b) (merged xs ys)
 | [],_,_,_,p,q=>by rw [q.nil_inv];exact p
 | kv::b,_,a,xs,p,q=>by
  obtain ⟨y,ys',rfl,r',q'⟩:=q.inv
  show PR h ι σ (zhQ (dput kv.1 kv.2 a) b) (merged (stored xs kv.1 y) ys')
  exact PR.merge (p.put r') q'
theorem PR.evo{ι':Ad}{σ':zab}{kvs:List (Str×PV)}{ys:List (Str×Value)}(hl:ι.vis.length=σ.length)(X:Evo [] h ι σ h' ι' σ')(p:PR h ι σ kvs ys):PR h' ι' σ' kvs ys:=⟨p.1,p.2.evo hl X (NoSeq.nil _)⟩
theorem DictOf.there{K:Type} [DecidableEq K] {knd:PySem.KeyKind prog w K} {a:Addr} {ys:List (K×Value)} (d:h.DictOf knd a ys):∃ o,h.get? a=some o:=by
 obtain ⟨o,_,_,ho,_⟩:=d;exact ⟨o,ho⟩
theorem zi5{i:Nat}{a:Addr}{kvs kvs':List (Str×PV)}{ys':List (Str×Value)}(S:StoreOk prog w hB s.heap ι σ)(B:hB.StaysIn s.heap)(hi:ι.vis[i]?=some a)(hc:σ[i]?=some (.dict kvs))(hs:Heap.SameBut a s.heap h')
  (hp:h'.DictOf (PySem.strKind prog w) a ys') (r:PR s.heap ι σ kvs' ys'):Step prog w hB s.heap ι σ h' ι (σ.set i (.dict kvs')):=by
 have B':=zc7 B (S.base a (List.mem_of_getElem? hi)) hs
 have X:=ziF (c:=.dict kvs') hi hc (by intro q;cases q) hs (DictOf.there hp)
 have r':=r.evo S.len X
 exact Step.set S B' hi hc (by intro q;cases q) hs ⟨ys',hp,r'.1,r'.2⟩ (DictOf.there hp)
theorem zgm{D:Addr}{kvs:List (Str×PV)}{ys:List (Str×Value)}(S:StoreOk prog w hB s.heap ι σ)(B:hB.StaysIn s.heap)(hk:∀ b o,s.heap.get? b=some o→h'.get? b=some o)(hD:s.heap.get? D=none)
  (hp:h'.DictOf (PySem.strKind prog w) D ys) (r:PR s.heap ι σ kvs ys):Step prog w hB s.heap ι σ h' (ι.add D) (σ++[.dict kvs]):=by
 have X:=zhM (ι:=ι) (σ:=σ) (.dict kvs) hk hD
 have r':=r.evo S.len X
 exact Step.newAt S B _ hk hD (DictOf.there hp) ⟨ys,hp,r'.1,r'.2⟩
theorem zkw(S:StoreOk prog w hB s.heap ι σ){i:Nat}{a:Addr}(hi:ι.vis[i]?=some a):(∃ kvs ys,dget i σ=.ok kvs σ∧σ[i]?=some (.dict kvs)∧s.heap.DictOf (PySem.strKind prog w) a ys∧PR s.heap ι σ kvs ys)∨dget i σ=.stuck:=by
 unfold dget M.bind cget
 cases hc:σ[i]? with
 | none=>exact .inr rfl
 | some c=>
  cases c with
  | list xs=>exact .inr rfl
  | dict kvs=>obtain ⟨ys,hd,h1,h2⟩:=S.ok _ _ _ hi hc;exact .inl ⟨kvs,ys,rfl,rfl,hd,h1,h2⟩
  | dead=>exact .inr rfl
theorem zgd{n:Nat}(h:n<1000):n≤sizeLine:=Nat.le_trans (Nat.le_of_lt h) (by decide)
theorem Sim.dget{α β:Type}{R:Heap→Ad→zab→α→β→Prop}{t:Sem β}{f:List (Str×PV)→M α}{i:Nat}{a:Addr}(S:StoreOk prog w hB s.heap ι σ)(hi:ι.vis[i]?=some a)
  (k:∀ kvs ys,σ[i]?=some (.dict kvs)→s.heap.DictOf (PySem.strKind prog w) a ys→PR s.heap ι σ kvs ys→Sim prog w hB A R t (f kvs) s ι σ):Sim prog w hB A R t ((dget i).bind f) s ι σ:=by
 rcases zkw S hi with ⟨kvs,ys,h1,hc,hd,p⟩ | h1
 ·exact (k kvs ys hc hd p).res (zaa h1)
 ·exact Sim.bstuck h1
theorem zlp{v:PV}{x:Value}(S:StoreOk prog w hB s.heap ι σ)(B:hB.StaysIn s.heap)(r:Rep s.heap ι σ v x):SimV prog w hB A (call (.type "dict") [x]) (zpG v) s ι σ:=by
 refine Sim.onRef (t:=fun x=>call (.type "dict") [x]) r fun i a hi=>Sim.dget S hi fun kvs ys hc hd p=>Sim.cond (fun hn=>?_) fun _=>Sim.fail
 intro Q Er _ hok _
 refine kt_call_dict (zhs S (List.mem_of_getElem? hi)) hd (zgd (by rw [p.length];exact of_decide_eq_true hn)) fun h' hd' hs=>?_
 have hk:∀ b o,s.heap.get? b=some o→h'.get? b=some o:=fun b o e=>(hs.2 b (Nat.ne_of_lt (Heap.lt_size e))).trans (Heap.get?_push_of_some _ e)
 exact hok (.ref σ.length) (σ++[.dict kvs]) rfl _ h' s.toks _ _ (zgm S B hk (zay _) hd' p) (.ref (zdU S _))
theorem zg0{c:Const}{kc:Nat}{cp:Pos}{v:PV}(hc:zmz c=some v)(Q:Value→Shared→Prop)(E:Value→Shared→Prop) (hq:∀ x tk,(∀ h,Rep h ι σ v x)→Q x { s with toks:=tk }) :
  wpAny (model prog w) A (eval (.Constant c kc cp) env) Q E s:=by
 cases c with
 | none=>cases hc;exact Constant_none (hq _ s.toks fun _=>.none)
 | bool b=>cases hc;exact Constant_bool (hq _ s.toks fun _=>.bool _)
 | int i=>cases hc;exact wpAny_mkInt (hq _ _ fun _=>.int _ _)
 | str x=>cases hc;exact Calls.Constant_str (hq _ _ fun _=>.str _ _)
 | _=>cases hc
theorem znr{pos:Pos}:∀(ks:List (Option Expr))(vs:List Expr)(l:List (Str×PV)),zez ks vs=some l→ks.all (·.isSome)=true∧ks.length=vs.length∧ks.length=l.length∧
  ∀(s:Shared)(Q:List (Value×Value)→Shared→Prop)(E:Value→Shared→Prop),(∀ xs ys tk,Carries (PySem.strKind prog w) xs ys→(∀ h,PR h ι σ l ys)→Q xs { s with toks:=tk })→wpAny (model prog w) A (evalPairs (pairTrees ks vs env pos)) Q E s:=by
 intro ks
 induction ks with
 | nil=>
  intro vs l h
  cases vs with
  | nil=>cases h;exact ⟨rfl,rfl,rfl,fun s Q E hq=>pairTrees_nil_walk (hq [] [] s.toks trivial fun _=>PR.nil)⟩
  | cons _ _=>cases h
 | cons k ks ih=>
  intro vs l h
  cases vs with
  | nil=>cases h
  | cons v vs=>
   obtain ⟨k,rfl,q⟩:=Option.bind_eq_some_iff.mp h
   obtain ⟨c,h1,q₁⟩:=Option.bind_eq_some_iff.mp q
   obtain ⟨k',h2,q₂⟩:=Option.bind_eq_some_iff.mp q₁
   obtain ⟨cv,h3,q₃⟩:=Option.bind_eq_some_iff.mp q₂
   obtain ⟨x,h4,q₄⟩:=Option.bind_eq_some_iff.mp q₃
   obtain ⟨r,h5,q₅⟩:=Option.bind_eq_some_iff.mp q₄
   obtain ⟨⟨c,ck,cp⟩,rfl⟩:=c
   obtain ⟨k',hk⟩:=k'
   have hk':c=.str k':=hk
   subst hk'
   obtain ⟨⟨cv,vk,vp⟩,rfl⟩:=cv
   cases q₅
   obtain ⟨a1,a2,a3,a4⟩:=ih vs r h5
   refine ⟨a1,congrArg Nat.succ a2,congrArg Nat.succ a3,fun s Q E hq=>?_⟩
   refine pairTrees_cons_walk ?_
   refine zg0 (ι:=ι) (σ:=σ) (c:=.str k') rfl _ _ fun kx tk₁ rk=>?_
   refine zg0 (ι:=ι) (σ:=σ) (c:=cv) h4 _ _ fun vx tk₂ rv=>?_
   refine a4 _ _ _ fun xs ys tk hcar hpr=>?_
   obtain ⟨kt,rfl⟩:=(rk s.heap).inv
   exact hq ((.str k' kt,vx)::xs) ((k',vx)::ys) tk ⟨strKind_is _ _ _ _,rfl,hcar⟩ fun h=>PR.cons (rv h) (hpr h)
theorem zmf{o:Obj}{a:Addr}(ha:a=s.heap.objs.size)(hs:Heap.SameBut a (s.heap.push o) h'):∀ b o',s.heap.get? b=some o'→h'.get? b=some o':=fun b o' e=>
 (hs.2 b (by rw [ha];exact Nat.ne_of_lt (Heap.lt_size e))).trans (Heap.get?_push_of_some _ e)
theorem zlo{ks:List (Option Expr)}{vs:List Expr}{p:Pos}(I:Inv prog w hB env ρ fl s.heap ι σ) :
  SimV prog w hB A (eval (.Dict ks vs p) env) ((M.lift (zez ks vs)).bind fun l=>M.cond (decide (l.length≤15)) (cnew (.dict (zhQ [] l))) M.fail) s ι σ:=by
  refine Sim.lift fun l hl=>Sim.cond (fun hn=>?_) fun _=>Sim.fail
  have hn:=of_decide_eq_true hn
  obtain ⟨a1,a2,a3,a4⟩:=znr (prog:=prog) (w:=w) (ι:=ι) (σ:=σ) (env:=env) (A:=A) (pos:=p) ks vs l hl
  intro Q Er _ hok _
  by_cases h0:ks=[]
  ·subst h0
   have:vs=[]:=List.length_eq_zero_iff.mp a2.symm
   subst this
   have:l=[]:=List.length_eq_zero_iff.mp a3.symm
   subst this
   refine wpAny_Dict_empty ?_
   exact hok (.ref σ.length) (σ++[.dict []]) rfl _ _ s.toks _ _ (zgm I.store I.stays (fun b o e=>Heap.get?_push_of_some _ e) (zay _) (Heap.DictOf.new s.heap) PR.nil) (.ref (zdU I.store _))
  ·refine wpAny_Dict_walk (knd:=PySem.strKind prog w) a1 a2 h0 (by rw [a3];exact hn) (a4 _ _ _ fun xs ys tk hcar hpr=>⟨ys,hcar,Heap.DictOf.new s.heap,fun h' hd hs=>?_⟩)
   exact hok (.ref σ.length) (σ++[.dict (zhQ [] l)]) rfl _ h' _ _ _ (zgm I.store I.stays (zmf rfl hs) (zay _) hd (PR.merge PR.nil (hpr _))) (.ref (zdU I.store _))
end
theorem zl7(a b:List Nat):a≤b∨b≤a:=by
 rcases Std.le_total (a:=a) (b:=b) with h | h
 ·exact .inl h
 ·exact .inr h
theorem zhc(a b:Str):zoE a b=true↔a.cps.toList≤b.cps.toList:=by simp [zoE]
theorem ziW{a b:Str}(h:a.cps.toList=b.cps.toList):a=b:=by
 obtain ⟨x⟩:=a;obtain ⟨y⟩:=b;congr 1;exact Array.toList_inj.mp h
theorem zc2(x:Str):∀ l:List Str,(ze1 x l).Perm (x::l)
 | []=>.refl _
 | y::r=>by
  simp only [ze1]
  split
  ·exact .refl _
  ·exact ((zc2 x r).cons y).trans (.swap x y r)
theorem zaX:∀ l:List Str,(zal l).Perm l
 | []=>.refl _
 | x::r=>(zc2 x (zal r)).trans ((zaX r).cons x)
noncomputable def SLe(a b:Str):Prop:=a.cps.toList≤b.cps.toList
theorem zdy(x:Str):∀ l:List Str,l.Pairwise SLe→(ze1 x l).Pairwise SLe
 | [],_=>by simp [ze1]
 | y::r,h=>by
  simp only [ze1]
  obtain ⟨h1,h2⟩:=List.pairwise_cons.mp h
  split
  ·rename_i q
   rw [zhc] at q
   refine List.pairwise_cons.mpr ⟨fun z hz=>?_,h⟩
   rcases List.mem_cons.mp hz with rfl | hz
   ·exact q
   ·exact List.le_trans q (h1 z hz)
  ·rename_i q
   have hyx:y.cps.toList≤x.cps.toList:=by
    rcases zl7 x.cps.toList y.cps.toList with k | k
    ·exact (q ((zhc x y).mpr k)).elim
    ·exact k
   refine List.pairwise_cons.mpr ⟨fun z hz=>?_,zdy x r h2⟩
   rcases List.mem_cons.mp ((zc2 x r).mem_iff.mp hz) with rfl | hz
   ·exact hyx
   ·exact h1 z hz
theorem zbl:∀ l:List Str,(zal l).Pairwise SLe
 | []=>.nil
 | x::r=>zdy x _ (zbl r)
theorem zhn:∀(l:List Str)(p:Str),risingS p l=true→(p::l).Pairwise SLe
 | [],p,_=>by simp
 | x::r,p,h=>by
  simp only [risingS,Bool.and_eq_true,Bool.not_eq_true',ltCps_eq,decide_eq_false_iff_not] at h
  have ih:=zhn r x h.2
  have hpx:SLe p x:=List.not_lt.mp h.1
  refine List.pairwise_cons.mpr ⟨fun z hz=>?_,ih⟩
  rcases List.mem_cons.mp hz with rfl | hz
  ·exact hpx
  ·exact List.le_trans hpx ((List.pairwise_cons.mp ih).1 z hz)
theorem zeM{ss ss':List Str}(hp:ss'.Perm ss)(hs:sortedS ss'=true):ss'=zal ss:=by
 have h1:ss'.Pairwise SLe:=by
  cases ss' with
  | nil=>exact .nil
  | cons x r=>exact zhn r x hs
 exact List.Perm.eq_of_pairwise (le:=SLe) (fun a b _ _ h1 h2=>ziW (List.le_antisymm h1 h2)) h1 (zbl ss) (hp.trans (zaX ss).symm)
section
variable {prog:Program} {w:World} {hB:Heap} {A:Around} {s:Shared} {ι:Ad} {σ:zab} {h h':Heap} {env:Env} {ρ:Loc} {fl:List Env} {sc:Scope}
theorem zcr:∀{vs:List Value}{ss:List Str},StrsAre vs ss→RepL h ι σ (ss.map .str) vs
 | _,_,.nil=>.nil
 | _,_,.cons x t r=>.cons (.str x t) (zcr r)
theorem zcm:∀{ys:List (Str×Value)}{vs:List Value},vs.length=ys.length→(∀(j:Nat)(v:Value),vs[j]?=some v→∃ k x,ys[j]?=some (k,x)∧(PySem.strKind prog w).is k v=true)→StrsAre vs (ys.map (·.1))
 | [],[],_,_=>.nil
 | (k,x)::ys,v::vs,hl,h=>by
  obtain ⟨k',x',h1,h2⟩:=h 0 v rfl
  simp at h1
  obtain ⟨rfl,rfl⟩:=h1
  obtain ⟨t,rfl⟩:∃ t,v=.str k t:=by
   cases v <;> simp [PySem.strKind,Value.isStrOf] at h2
   exact ⟨_,by rw [h2]⟩
  exact .cons k t (zcm (by simpa using hl) fun j u hu=>by simpa using h (j+1) u (by simpa using hu))
 | [],_::_,hl,_=>by simp at hl
 | _::_,[],hl,_=>by simp at hl
theorem zfo:∀(kvs:List (Str×PV)),zbt (kvs.map fun kv=>PV.str kv.1)=some (kvs.map (·.1))
 | []=>rfl
 | kv::r=>congrArg (zhR kv.1) (zfo r)
theorem zcQ{a:Addr}{vs:List Value}{out:Array Value}{b:Addr}{o:Obj}(hb:b≠a)(e:h.get? b=some o):(sortedHeap h a vs out).get? b=some o:=by
 unfold sortedHeap
 rw [Heap.get?_update_other _ _ (Ne.symm hb)]
 refine Heap.get?_push_of_some _ (Heap.get?_push_of_some _ ?_)
 rw [Heap.get?_update_other _ _ (Ne.symm hb)];exact e
theorem zc8{a:Addr}{vs:List Value}{out:Array Value}{n:Nat}(ho:h.get? a=some (seqObj "list" vs.toArray n)):∃ e,(sortedHeap h a vs out).get? a=some (seqObj "list" out e):=by
 unfold sortedHeap
 have ha:=Heap.lt_size ho
 have h1:=get?_update_seq ho (fun _=>#[])
 exact ⟨_,get?_update_seq (Heap.get?_push_of_some _ (Heap.get?_push_of_some _ h1)) (fun _=>out)⟩
theorem zcZ{t:Sem Value}{cx:Cx}{p:Pos}{xs:List PV}(S:StoreOk prog w hB s.heap ι σ)(B:hB.StaysIn s.heap)
  (mk:∀(Q:Value→Shared→Prop)(E:Value→Shared→Prop),(∀ D h' n tk (vs:List Value),RepL s.heap ι σ xs vs→s.heap.get? D=none→(∀ b o,s.heap.get? b=some o→h'.get? b=some o)→h'.get? D=some { cls:=.type "list",data:=.seq vs.toArray n }→Q (.ref D) { s with heap:=h',toks:=tk })→wpAny (model prog w) A t Q E s) :
  SimV prog w hB A t (zaw cx p xs) s ι σ:=by
 refine Sim.cond (fun _=>?_) (fun _=>?_)
 ·intro Q E _ hok _
  refine mk _ _ fun D h' n tk vs r hD hk hd=>hok (.ref σ.length) (σ++[.list xs]) rfl _ _ tk _ (ι.add D) ?_ (.ref (zdU S D))
  have X:=zhM (ι:=ι) (σ:=σ) (.list xs) hk hD
  exact Step.newAt S B _ hk hD ⟨_,hd⟩ ⟨vs.toArray,⟨n,hd⟩,by simpa using r.evo S.len X (NoSeq.nil _)⟩
 ·intro Q E _ hok _
  refine mk _ _ fun D h' n tk vs r hD hk hd=>hok _ _ rfl _ _ tk _ ι (Step.keeps S B hk) ?_
  have X:=(Step.keeps (prog:=prog) (w:=w) S B hk).evo
  exact .lst hd (zct S hD) (by simpa using r.evo S.len X (NoSeq.nil _))
theorem znI(h:Heap){a:Addr}(ha:h.objs.size≤a):h.get? a=none:=by
 cases q:h.get? a with
 | none=>rfl
 | some o=>exact absurd (Heap.lt_size q) (Nat.not_lt.mpr ha)
theorem zf7{a:Addr}{ys:List (Str×Value)}{Q:Value→Shared→Prop}{E:Value→Shared→Prop}(hh:A.handled=none)(lo:(a==sysModules)=false)(hd:s.heap.DictOf (PySem.strKind prog w) a ys)(h64:ys.length<64)
  (hQ:∀ D h' n tk (vs:List Value),StrsAre vs (zal (ys.map (·.1)))→s.heap.get? D=none→(∀ b o,s.heap.get? b=some o→h'.get? b=some o)→h'.get? D=some { cls:=.type "list",data:=.seq vs.toArray n }→Q (.ref D) { s with heap:=h',toks:=tk }) :
  wpAny (model prog w) A (call (.builtin "sorted") [.ref a]) Q E s:=by
 obtain ⟨ep,hat⟩:=hd.dictAt
 refine Calls.call_function_entry kind_sorted plain_sorted entry_sorted (args_sorted1 _) ?_
 unfold Builtin.«sorted»
 refine wpAny_bind (m:=checkCount "sorted" 1 1 _) (wpAny_pure ?_)
 refine wpAny_bind (kdu_collect (A:=A.in1) (kdl_dict (knd:=PySem.strKind prog w) (kvs:=ys) (ep:=ep) lo) hh hat (Nat.le_trans (Nat.le_of_lt h64) (by decide)) fun h₁ tk acc hk hacc=>?_)
 have hl:acc.toList.length=ys.length:=by rw [Array.length_toList];exact hacc.1
 have hS:StrsAre acc.toList (ys.map (·.1)):=zcm (prog:=prog) (w:=w) hl fun j v e=>hacc.2 j v (by rw [← Array.getElem?_toList];exact e)
 refine wpAny_bind (wpAny_newList ?_ (by rw [hl];exact Nat.le_trans (Nat.le_of_lt h64) (by decide)))
 have hoL:(h₁.push (seqObj "list" acc.toList.toArray 0)).get? h₁.objs.size=some (seqObj "list" acc.toList.toArray 0):=Heap.get?_push_size _ rfl
 refine wpAny_bind (wpAny_holding (wpAny_call_entry slot_list_sort ⟨_,hoL,rfl⟩ entry_list_sort (list_sort_treeK strKind_oneLt hoL hS.keysOf (fun v₁ v₂ rest e=>keyKind_strs (by rw [← e];exact hS)) (by rw [hl];exact h64) fun st' a1 a2=>⟨_,rfl,?_⟩) (args_list_sort _)))
 obtain ⟨ss',b1,b2,b3⟩:=sorted_out_str hS a1 a2
 obtain ⟨e,he⟩:=zc8 (vs:=acc.toList) (out:=(arrOf st').map (·.2)) hoL
 refine wpAny_pure ⟨_,rfl,?_⟩
 refine hQ h₁.objs.size _ e tk ((arrOf st').map (·.2)).toList (by rw [← zeM b2 b3];exact b1) (zaZ (fun b o e=>⟨o,hk b o e⟩) (zay h₁)) (fun b o eb=>zcQ (Nat.ne_of_lt (Heap.lt_size (hk b o eb))) (Heap.get?_push_of_some _ (hk b o eb))) ?_
 rw [Array.toArray_toList];exact he
theorem zeN{cx:Cx}{p:Pos}{l:Addr}{vs:Array Value}{n:Nat}{xs:List PV}(S:StoreOk prog w hB s.heap ι σ)(B:hB.StaysIn s.heap) (e:s.heap.get? l=some { cls:=.type "list",data:=.seq vs n }) (rl:RepL s.heap ι σ xs vs.toList) :
  SimV prog w hB A (call (.builtin "sorted") [.ref l]) ((M.lift (zbt xs)).bind fun ss=>M.cond (decide (ss.length<64)) (zaw cx p ((zal ss).map .str)) M.fail) s ι σ:=by
 refine Sim.lift fun ss ha=>Sim.cond (fun hn=>?_) fun _=>Sim.fail
 have hS:=zeL rl ha
 refine zcZ (cx:=cx) (p:=p) (xs:=(zal ss).map .str) S B fun Q E hq=>?_
 refine sorted_strs (vs:=vs.toList) ⟨_,e,rfl,n,rfl⟩ hS (by rw [StrsAre.length hS];exact of_decide_eq_true hn) fun out ss' b1 b2 b3=>?_
 obtain ⟨e',he⟩:=sortedAll_at s.heap vs.toList out
 exact hq _ _ e' s.toks out.toList (by rw [← zeM b2 b3];exact zcr b1) (znI _ (Nat.le_succ _)) (fun _ _=>sortedAll_old) (by rw [Array.toArray_toList];exact he)
theorem zjU{cx:Cx}{p:Pos}{v:PV}{x:Value}(S:StoreOk prog w hB s.heap ι σ)(B:hB.StaysIn s.heap)(hh:A.handled=none)(r:Rep s.heap ι σ v x) :
  SimV prog w hB A (call (.builtin "sorted") [x]) ((zdc v).bind fun xs=>(M.lift (zbt xs)).bind fun ss=>M.cond (decide (ss.length<64)) (zaw cx p ((zal ss).map .str)) M.fail) s ι σ:=by
 cases v with
 | lst xs=>obtain ⟨l,vs,n,rfl,e,nl,rl⟩:=r.inv;exact zeN S B e rl
 | ref i=>
  obtain ⟨a,rfl,hi⟩:=r.inv
  refine Sim.res (Sim.cel S hi fun c hc ok=>?_) (zai _ _ _)
  cases c with
  | list xs=>obtain ⟨vs,⟨n,hp⟩,rl⟩:=ok;exact zeN S B hp rl
  | dict kvs=>
   obtain ⟨ys,hd,p1,p2⟩:=ok
   refine Sim.lift fun ss ha=>Sim.cond (fun hn=>?_) fun _=>Sim.fail
   rw [zfo] at ha;cases ha
   refine zcZ (cx:=cx) (p:=p) (xs:=(zal (kvs.map (·.1))).map .str) S B fun Q E hq=>?_
   refine zf7 hh (zhs S (List.mem_of_getElem? hi)) hd (by rw [← List.length_map (f:=(·.1)),p1];exact of_decide_eq_true hn) fun D h' n tk vs b1 b2 b3 b4=>hq D h' n tk vs ?_ b2 b3 b4
   rw [p1] at b1;exact zcr b1
  | dead=>exact Sim.fail
 | _=>exact Sim.fail
end
section
variable {prog:Program} {w:World} {hB:Heap} {A:Around} {s:Shared} {ι:Ad} {σ:zab} {h h':Heap} {env:Env} {ρ:Loc} {fl:List Env} {sc:Scope} {cx:Cx} {p:Pos} {o:PV} {x:Value} {vs:List PV} {xs:List Value}
theorem zlj{v:PV}(hlp:cx.md.lp=true→A.handled=none)(S:StoreOk prog w hB s.heap ι σ)(B:hB.StaysIn s.heap)(r:Rep s.heap ι σ v x):SimV prog w hB A (call (.type "list") [x]) (zo9 cx p v) s ι σ:=by
 have seq:SimV prog w hB A (call (.type "list") [x]) ((items v).bind fun xs=>M.cond (decide (xs.length≤2 ^ 20)) (zaw cx p xs) M.fail) s ι σ:=
  Sim.items (t:=fun x=>call (.type "list") [x]) S r fun xs l vs n e rl=>Sim.cond (fun hn=>zi0 S B e rl (of_decide_eq_true hn)) fun _=>Sim.fail
 cases v with
 | ref i=>
  obtain ⟨a,rfl,hi⟩:=r.inv
  refine Sim.cel S hi fun c hc ok=>?_
  cases c with
  | list xs=>obtain ⟨vs,⟨n,hp⟩,rl⟩:=ok;exact Sim.cond (fun hn=>zi0 S B (.inl hp) rl (of_decide_eq_true hn)) fun _=>Sim.fail
  | dict kvs=>
   obtain ⟨ys,hd,p1,p2⟩:=ok
   refine Sim.cond (fun hn=>?_) fun _=>Sim.fail
   have hn':=Bool.and_eq_true_iff.mp hn
   have hlen:ys.length≤sizeLine:=by rw [← List.length_map (f:=(·.1)),p1,List.length_map];exact Nat.le_trans (of_decide_eq_true hn'.2) (by decide)
   refine zcZ (cx:=cx) (p:=p) (xs:=kvs.map fun kv=>.str kv.1) S B fun Q E hq=>?_
   obtain ⟨ep,hat⟩:=hd.dictAt
   refine kdl_call (kdl_dict (knd:=PySem.strKind prog w) (kvs:=ys) (ep:=ep) (zhs S (List.mem_of_getElem? hi))) (hlp hn'.1) hat hlen fun h' tk acc c' hk hD hacc=>?_
   have hS:StrsAre acc.toList (ys.map (·.1)):=zcm (prog:=prog) (w:=w) hacc.1 fun j v e=>hacc.2 j v ((Array.getElem?_toList ..).symm.trans e)
   rw [p1] at hS
   have r2:=zcr (h:=s.heap) (ι:=ι) (σ:=σ) hS
   rw [List.map_map] at r2
   exact hq _ h' c' tk acc.toList r2 (zay _) hk (by rw [Array.toArray_toList];exact hD)
  | dead=>exact Sim.fail
 | _=>exact seq
theorem repD{kvs:List (Str×PV)}{ys:List (Str×Value)}(q:PR h ι σ kvs ys){k:Str}{d:PV}{y:Value}(r:Rep h ι σ d y):Rep h ι σ ((dat kvs k).getD d) ((valueAt ys k).getD y):=by
 cases hd:dat kvs k with
 | none=>rw [zjv q.1 hd];exact r
 | some z=>obtain ⟨v,h1,h2⟩:=ziJ q.1 q.2 hd;rw [h1];exact h2
theorem zm8(S:StoreOk prog w hB s.heap ι σ)(B:hB.StaysIn s.heap)(r:Rep s.heap ι σ o x)(rs:RepL s.heap ι σ vs xs) :
  SimV prog w hB A (call (.builtin "dict.get") (x::xs)) (zdl cx p .get o vs) s ι σ:=by
 refine Sim.onRef (t:=fun x=>call (.builtin "dict.get") (x::xs)) r fun i a hi=>Sim.dget S hi fun kvs ys hc hd q=>?_
 have lo:=zhs S (List.mem_of_getElem? hi)
 cases rs with
 | nil=>exact Sim.fail
 | cons rk rs=>
  refine Sim.onStr (t:=fun y=>call (.builtin "dict.get") (.ref a::y::_)) rk fun k t=>?_
  cases rs with
  | nil=>exact Sim.val S B rfl fun Q E hq=>call_meetsIn F.slot_dict_get hd.typeIs F.entry_dict_get (F.args_dict_get_2 _ _) (meets_dict_get (PySem.strKind prog w) a (strKind_is _ _ k t) lo) ⟨_,hd.mapOf,hq _ _ (repD q .none)⟩
  | cons rd rs=>exact Sim.arg0 (t:=fun l=>call (.builtin "dict.get") (.ref a::.str k t::_::l)) rs (Sim.val S B rfl fun Q E hq=>call_meetsIn F.slot_dict_get hd.typeIs F.entry_dict_get (F.args_dict_get_3 _ _ _) (meets_dict_get_default (PySem.strKind prog w) a (strKind_is _ _ k t) lo _) ⟨_,hd.mapOf,hq _ _ (repD q rd)⟩)
theorem zj2(S:StoreOk prog w hB s.heap ι σ)(B:hB.StaysIn s.heap)(r:Rep s.heap ι σ o x)(rs:RepL s.heap ι σ vs xs) :
  SimV prog w hB A (call (.builtin "dict.clear") (x::xs)) (zdl cx p .dclear o vs) s ι σ:=by
 refine Sim.onRef (t:=fun x=>call (.builtin "dict.clear") (x::xs)) r fun i a hi=>Sim.arg0 (t:=fun xs=>call (.builtin "dict.clear") (.ref a::xs)) rs (Sim.dget S hi fun kvs ys hc hd q=>Sim.cond (fun hn=>?_) fun _=>Sim.fail)
 intro Q Er _ hok _
 refine call_meetsIn F.slot_dict_clear hd.typeIs F.entry_dict_clear (F.args_dict_clear_1 _) (meets_dict_clear (PySem.strKind prog w) a) ⟨ys,hd,zgd (by rw [q.length];exact of_decide_eq_true hn),fun h' hd' hs=>?_⟩
 exact hok .none (σ.set i (.dict [])) rfl _ h' _ _ ι (zi5 S B hi hc hs hd' PR.nil) .none
end
noncomputable def keyV:Value→Str
 | .str s _=>s
 | _=>""
section
variable {prog:Program} {w:World} {A:Around} {s:Shared} {E:Value→Shared→Prop}
theorem zk2{k:Str}{v:Value}(h:(PySem.strKind prog w).is k v=true):∃ t,v=.str k t:=by
 obtain ⟨t,e⟩:=Value.isStrOf_shape h
 exact ⟨t,e⟩
structure SetAt (prog:Program) (w:World) (h:Heap) (a:Addr) (ks:List Str) (es:Array (Int×Value)) (ep:Nat) (t:SetTable):Prop where
 at_:h.get? a=some { cls:=.type "set",data:=.set es ep t }
 els:ElemsOf (PySem.strKind prog w) es.toList
 mem:(es.toList.map fun e=>keyV e.2).Perm ks
 few:ks.length<scanBound
 fits:t.fits es.size=true
 led:w.params.followText "set-order"=false→t.led=true
 plain:es.size≠0→t.plain=false
noncomputable def SetS(prog:Program)(w:World)(h:Heap)(a:Addr)(ks:List Str):Prop:=∃ es ep t,SetAt prog w h a ks es ep t
theorem SetAt.size{h:Heap}{a:Addr}{ks:List Str}{es:Array (Int×Value)}{ep:Nat}{t:SetTable}(S:SetAt prog w h a ks es ep t):es.size=ks.length:=by
 rw [← S.mem.length_eq,List.length_map,Array.length_toList]
theorem zko(t:SetTable)(es:Array (Int×Value))(h:Int)(x:Value):(layNew t es h x).2.1.led=t.led:=by
 unfold layNew
 cases t.freeSlot h with
 | none=>rfl
 | some p=>
  show (SetTable.orStandIn _ _).led=_
  unfold SetTable.orStandIn
  cases SetTable.fits _ _ <;> rfl
theorem zir{t t':SetTable}{hs:Array Int}{n:Nat}{o:Array Nat}(h:t.relaid hs n=some (t',o)):t'.led=t.led∧t'.plain=t.plain:=by
 unfold SetTable.relaid SetTable.laid at h
 obtain ⟨x,_,h⟩:=Option.bind_eq_some_iff.mp h
 cases h
 exact ⟨rfl,rfl⟩
theorem zho(t:SetTable)(es:Array (Int×Value))(n:Nat):(relayAll t es n).2.1.led=t.led∧(t.plain=false→(relayAll t es n).2.1.plain=false):=by
 unfold relayAll
 cases q:t.relaid (es.map (·.1)) n with
 | none=>exact ⟨rfl,fun _=>rfl⟩
 | some p=>
  obtain ⟨t',o⟩:=p
  obtain ⟨h1,h2⟩:=zir q
  dsimp only
  cases (coversAll o es.size&&t'.fits (o.filterMap (es[·]?)).size) with
  | true=>exact ⟨h1,fun e=>h2.trans e⟩
  | false=>exact ⟨rfl,fun _=>rfl⟩
end
section
variable {prog:Program} {w:World} {A:Around} {s:Shared} {E:Value→Shared→Prop}
theorem SetAt.store{h:Heap}{a:Addr}{ks':List Str}{es es':Array (Int×Value)}{ep:Nat}{t t':SetTable} (S:h.get? a=some { cls:=.type "set",data:=.set es ep t }) (hel:ElemsOf (PySem.strKind prog w) es'.toList)
  (hm:(es'.toList.map fun e=>keyV e.2).Perm ks') (hk:ks'.length<scanBound) (hf:t'.fits es'.size=true) (hl:w.params.followText "set-order"=false→t'.led=true) (hp:t'.plain=false) :
  SetAt prog w (h.update a (Obj.putSet es' t')) a ks' es' (ep+1) t':=by
 have hg:=Heap.get?_update_self (Obj.putSet es' t') S rfl
 exact ⟨hg,hel,hm,hk,hf,hl,fun _=>hp⟩
theorem zny{es:Array (Int×Value)}(hel:ElemsOf (PySem.strKind prog w) es.toList)(k:Str):k∈(es.toList.map fun e=>keyV e.2)↔∃ e∈es.toList,(PySem.strKind prog w).is k e.2=true:=by
 rw [List.mem_map]
 constructor
 ·rintro ⟨e,he,rfl⟩
  obtain ⟨⟨k,hk,_⟩,_⟩:=hel e he
  obtain ⟨t,ht⟩:=zk2 hk
  exact ⟨e,he,by rw [ht];exact strKind_is _ _ _ _⟩
 ·rintro ⟨e,he,hk⟩
  obtain ⟨t,ht⟩:=zk2 hk
  exact ⟨e,he,by rw [ht];rfl⟩
theorem zmT{l ks:List Str}{k:Str}(h:l.Perm ks)(hn:k∉l):(l++[k]).Perm (addS ks k):=by
 have:ks.contains k=false:=by
  cases q:ks.contains k with
  | false=>rfl
  | true=>exact (hn (h.mem_iff.mpr (List.contains_iff_mem.mp q))).elim
 unfold addS;rw [this];exact h.append_right _
theorem zpY{ks:List Str}{k:Str}(h:k∈ks):addS ks k=ks:=by
 unfold addS;rw [List.contains_iff_mem.mpr h];rfl
theorem zou{a:Addr}{ks:List Str}{k:Str}{tk:Tok}{Q:Bool→Shared→Prop}(hS:SetS prog w s.heap a ks)(hroom:ks.length+1<scanBound) (h:∀ b h',Heap.SameBut a s.heap h'→SetS prog w h' a (addS ks k)→Q b { s with heap:=h' }) :
  wpAny (model prog w) A (setAddHashed a (.str k tk) ((PySem.strKind prog w).hash k)) Q E s:=by
 obtain ⟨es,ep,t,S⟩:=hS
 have hkey:(PySem.strKind prog w).is k (.str k tk)=true:=strKind_is _ _ k tk
 have hb:es.size<scanBound:=by rw [S.size];exact S.few
 unfold setAddHashed setAddHashedIn
 refine wpAny_holding (wpAny_bind (wpAny_setState_of S.at_ rfl S.fits ?_))
 dsimp only
 rw [byScan_of (knd:=PySem.strKind prog w) rfl hb S.els]
 simp only [↓reduceIte]
 unfold setAddByScan
 refine wpAny_bind ?_
 refine wpAny_bind (wpAny_rule ?_)
 refine wpAny_bind (wpAny_setScan_of hkey S.at_ rfl S.fits S.els ?_)
 have mem:=zny (prog:=prog) (w:=w) S.els k
 cases hr:List.findIdx? (fun e=>(PySem.strKind prog w).is k e.2) es.toList with
 | some j=>
  dsimp only
  obtain ⟨hj,hpj,_⟩:=List.findIdx?_eq_some_iff_getElem.mp hr
  have hk:k∈ks:=S.mem.mem_iff.mp (mem.mpr ⟨es.toList[j],List.getElem_mem hj,hpj⟩)
  exact wpAny_pure (wpAny_pure (h false s.heap (Heap.SameBut.refl a s.heap) (by rw [zpY hk];exact ⟨es,ep,t,S⟩)))
 | none=>
  dsimp only
  have hk:k∉(es.toList.map fun e=>keyV e.2):=fun q=>by
   obtain ⟨e,he,hp⟩:=mem.mp q
   have:=List.findIdx?_eq_none_iff.mp hr e he
   rw [hp] at this;cases this
  have hperm:=layNew_perm t es ((PySem.strKind prog w).hash k) (.str k tk)
  have hfits:=layNew_fits t es ((PySem.strKind prog w).hash k) (.str k tk)
  have hled:=zko t es ((PySem.strKind prog w).hash k) (.str k tk)
  generalize hL:layNew t es ((PySem.strKind prog w).hash k) (.str k tk)=L at hperm hfits hled ⊢
  obtain ⟨es1,t1,wasDummy,gave⟩:=L
  dsimp only at hperm hfits hled ⊢
  rw [Array.toList_push] at hperm
  have hel1:ElemsOf (PySem.strKind prog w) es1.toList:=(S.els.push hkey rfl).perm hperm
  have hm1:(es1.toList.map fun e=>keyV e.2).Perm (addS ks k):=(hperm.map _).trans (by rw [List.map_append];exact zmT S.mem hk)
  have hk1:(addS ks k).length<scanBound:=by
   rw [← hm1.length_eq,List.length_map,hperm.length_eq,List.length_append,Array.length_toList,S.size];exact hroom
  have hz1:es1.size<scanBound:=by rw [← Array.length_toList,← List.length_map (f:=fun e=>keyV e.2),hm1.length_eq];exact hk1
  have gw:∀(b:Bool){s₁:Shared}{Q':Unit→Shared→Prop},Q' () s₁→wpAny (model prog w) A (match b with | true=>rule "set.scan.the-table-gave-way" | false=>pure ()) Q' E s₁:=fun b s₁ Q' hq=>by
   cases b
   ·exact wpAny_pure hq
   ·exact wpAny_rule hq
  refine wpAny_bind (gw _ ?_)
  have tail:∀ t2:SetTable,t2.fits es1.size=true→t2.led=t1.led→t2.plain=false→wpAny (model prog w) A (do
    storeSet a es1 t2
    if (!wasDummy&&t2.tooFull)=true then do
      (match (relayAll t2 es1 (SetTable.grown es1.size)).2.2 with | true=>rule "set.scan.the-table-gave-way" | false=>pure ())
      storeSet a (relayAll t2 es1 (SetTable.grown es1.size)).1 (relayAll t2 es1 (SetTable.grown es1.size)).2.1
      pure (some true)
     else pure (some true)) (fun r s'=>wpAny (model prog w) A (match r with | some added=>pure added | none=>setAddHashedIn a (.str k tk) ((PySem.strKind prog w).hash k) 99999) Q E s') E s:=fun t2 hf2 hl2 hp2=>by
   have hl2':w.params.followText "set-order"=false→t2.led=true:=fun q=>hl2.trans (hled.trans (S.led q))
   refine wpAny_bind (wpAny_storeSet_of S.at_ rfl ?_ (fits_of_scanBound hz1))
   have S1:=SetAt.store (prog:=prog) (w:=w) (t':=t2) S.at_ hel1 hm1 hk1 hf2 hl2' hp2
   have b1:=Heap.SameBut.update s.heap a (Obj.putSet es1 t2)
   split
   ·have hp:=relayAll_perm t2 es1 (SetTable.grown es1.size)
    have hfr:=relayAll_fits t2 es1 (SetTable.grown es1.size)
    obtain ⟨l1,l2⟩:=zho t2 es1 (SetTable.grown es1.size)
    have hz2:(relayAll t2 es1 (SetTable.grown es1.size)).1.size<scanBound:=by rw [← Array.length_toList,hp.length_eq,Array.length_toList];exact hz1
    refine wpAny_bind (gw _ ?_)
    refine wpAny_bind (wpAny_storeSet_of S1.at_ rfl ?_ (fits_of_scanBound hz2))
    exact wpAny_pure (wpAny_pure (h true _ (b1.trans (Heap.SameBut.update _ a _)) ⟨_,_,_,SetAt.store (prog:=prog) (w:=w) S1.at_ (hel1.perm hp) ((hp.map _).trans hm1) hk1 hfr (fun q=>l1.trans (hl2' q)) (l2 hp2)⟩))
   ·exact wpAny_pure (wpAny_pure (h true _ b1 ⟨_,_,_,S1⟩))
  split
  ·refine wpAny_bind (wpAny_pure ?_)
   exact tail _ (SetTable.fits_plain_off hfits) rfl rfl
  ·rename_i hpl
   refine wpAny_bind (wpAny_pure ?_)
   exact tail t1 hfits rfl (by cases q:t1.plain with | true=>exact (hpl q).elim | false=>rfl)
end
theorem zpX(ks:List Str)(k:Str):(addS ks k).length≤ks.length+1:=by
 unfold addS
 cases ks.contains k
 ·exact Nat.le_of_eq List.length_append
 ·exact Nat.le_succ _
theorem zim:∀(ss ks:List Str),(ss.foldl addS ks).length≤ks.length+ss.length
 | [],_=>Nat.le_refl _
 | s::ss,ks=>Nat.le_trans (zim ss (addS ks s)) (by rw [List.length_cons,Nat.add_comm ss.length,← Nat.add_assoc];exact Nat.add_le_add_right (zpX ks s) _)
theorem zlz(ss:List Str)(i:Nat):(setL (ss.take i)).length≤i:=Nat.le_trans (zim _ _) (by rw [List.length_nil,Nat.zero_add];exact List.length_take_le _ _)
theorem zlA{ss:List Str}{i:Nat}{x:Str}(h:ss[i]?=some x):setL (ss.take (i+1))=addS (setL (ss.take i)) x:=by
 unfold setL;rw [List.take_add_one,h,Option.toList_some,List.foldl_append];rfl
section
variable {prog:Program} {w:World} {A:Around} {R:Result→Shared→Prop} {I:Addr} {fp wr:List Addr} {G:Array GenState→Array GenState→Prop} {P:Nat→Value→Prop} {St:Nat→Shared→Prop} {s:Shared} {E:Value→Shared→Prop}
theorem SetS.at'{h h':Heap}{a:Addr}{ks:List Str}(S:SetS prog w h a ks)(e:∀ o,h.get? a=some o→h'.get? a=some o):SetS prog w h' a ks:=by
 obtain ⟨es,ep,t,S⟩:=S
 exact ⟨es,ep,t,e _ S.at_,S.els,S.mem,S.few,S.fits,S.led,S.plain⟩
theorem zh8{ss:List Str}(W:WalksS prog w A.in1 I fp wr G ss.length P St)(S:Addr)(hSf:S∉fp)
  (hval:∀ i v,P i v→∃ x t,ss[i]?=some x∧v=.str x t) (hb:ss.length+1<scanBound) :
  ∀(k i:Nat)(s:Shared),ss.length-i=k→i≤ss.length→St i s→SetS prog w s.heap S (setL (ss.take i))→
   (∀ s',Moved (S::wr) G s s'→SetS prog w s'.heap S (setL ss)→R (.ok (.ret .none)) s')→
   codeAny (model prog w) A (.builtin "set.update.loop" ⟨[.ref S,.ref I],[]⟩) R s:=by
 have hSw:S∉wr:=fun h=>hSf (W.sub _ h)
 have hsub:∀ b∈wr,b∈S::wr:=fun b hb=>List.mem_cons_of_mem _ hb
 intro k
 induction k with
 | zero=>
  intro i s hk hi hst hS hR
  have hin:i=ss.length:=Nat.le_antisymm hi (Nat.le_of_sub_eq_zero hk)
  subst hin
  refine codeAny_builtin F.entry_set_update_loop ?_
  rw [Around.under_plainId F.plain_set_update_loop _]
  show wpAny _ A.in1 (pyNext (.ref I) >>= _) _ _ s
  refine wpAny_bind (W.done s _ _ hst fun s' hm=>?_)
  show wpAny _ A.in1 (ret Value.none) _ _ s'
  rw [List.take_length] at hS
  exact wpAny_pure (hR s' (hm.mono hsub) (hS.at' fun o e=>hm.heap S o hSw e))
 | succ k ih=>
  intro i s hk hi hst hS hR
  have hlt:i<ss.length:=Nat.lt_of_sub_pos (by rw [hk];exact Nat.succ_pos k)
  refine codeAny_builtin F.entry_set_update_loop ?_
  rw [Around.under_plainId F.plain_set_update_loop _]
  show wpAny _ A.in1 (pyNext (.ref I) >>= _) _ _ s
  refine wpAny_bind (W.item i s _ _ hlt hst fun v s' hP hst' hm=>?_)
  obtain ⟨x,t,hx,rfl⟩:=hval i v hP
  have hS':=hS.at' fun o e=>hm.heap S o hSw e
  show wpAny _ A.in1 (holding [Value.str x t] (setAdd S (.str x t)) >>= _) _ _ s'
  refine wpAny_bind (wpAny_holding ?_)
  unfold setAdd
  refine wpAny_holding ?_
  refine wpAny_bind ((PySem.strKind prog w).pyHash (k:=x) (strKind_is _ _ _ _) ?_)
  refine zou (s:={ s' with toks:=s'.toks+1 }) hS' (Nat.lt_of_le_of_lt (Nat.succ_le_succ (zlz ss i)) (Nat.lt_of_le_of_lt (Nat.succ_le_succ hi) hb)) fun b h' hsb hS2=>?_
  rw [← zlA hx] at hS2
  refine wpAny_pure ⟨plainId_quiet F.plain_set_update_loop _,ih (i+1) _ (by rw [← Nat.sub_sub,hk];rfl) hlt (W.frame _ s' _ _ hst' (Nat.le_succ _) fun b hb o e=>?_) hS2 fun s'' hm'' hS''=>?_⟩
  ·rw [hsb.2 b (fun h:b=S=>hSf (by rw [← h];exact hb))];exact e
  ·refine hR s'' (Moved.trans W.gtrans ((hm.mono hsub).then_heap (Nat.le_succ _) fun b o hb e=>?_) hm'') hS''
   rw [hsb.2 b (fun h:b=S=>hb (by rw [h];exact List.mem_cons_self))];exact e
noncomputable abbrev zbB(led:Bool):Obj:={ cls:=.type "set",dict:=none,data:=.set #[] 0 (.fresh 0 0 led) }
theorem ziL(a:Value){Q₁:Value→Shared→Prop} (h:Q₁ (.ref s.heap.objs.size) { s with heap:=s.heap.push (zbB (!w.params.followText "set-order")) }) :
  codeAny (model prog w) A (.call (.builtin "set.__new__") ⟨[.type "set",a],[]⟩) (wants Q₁ E) s:=by
 refine codeAny_of_tree ?_
 show wpAny _ A.in1 (do checkBuiltinCall "set.__new__" ⟨[.type "set",a],[]⟩;again (.builtin "set.__new__" ⟨[.type "set",a],[]⟩)) _ _ s
 refine wpAny_bind (wpAny_of_eq (F.newCall_set_1 a) (wpAny_pure ⟨plainId_quiet F.plain_set_new _,codeAny_builtin F.entry_set_new ?_⟩))
 rw [Around.under_plainId F.plain_set_new _]
 unfold Builtin.«set.__new__» Builtin.Frozenset.newClass
 have hsub:=sub_set_self
 obtain ⟨hp,g,d,tk,os⟩:=s
 dsimp only
 wp_walk
 refine wpAny_askSetting (wpAny_pure ?_)
 dsimp only
 simp only [newObj]
 refine wpAny_bind (wpAny_alloc (wpAny_pure ?_))
 exact wpAny_pure h
theorem znc(led:Bool){h:Heap}{a:Addr}(ho:h.get? a=some (zbB led))(hl:led=!w.params.followText "set-order"):SetS prog w h a []:=
 ⟨#[],0,_,ho,(fun _ he=>nomatch he),.nil,by decide,rfl,(fun q=>by show led=true;rw [hl,q];rfl),fun q=>(q rfl).elim⟩
theorem zjH{l:Addr}{items:Array Value}{ss:List Str}{Q:Value→Shared→Prop}
  (hh:A.handled=none) (hl:s.heap.IsList l items) (hi:StrsAre items.toList ss) (hb:ss.length+1<scanBound)
  (h:∀(h':Heap)(tk:Nat),SetS prog w h' s.heap.objs.size (setL ss)→(∀ b o,s.heap.get? b=some o→h'.get? b=some o)→Q (.ref s.heap.objs.size) { s with heap:=h',toks:=tk }) :
  wpAny (model prog w) A (call (.type "set") [.ref l]) Q E s:=by
 have hsz:items.size=ss.length:=by rw [← Array.length_toList];exact StrsAre.length hi
 obtain ⟨c,tl,hmro⟩:=F.called_set.mro
 have hmade:=F.called_set.made
 have hsub:=F.called_set.sub
 refine wpAny_call (codeAny_of_tree ?_)
 show wpAny _ _ (callAny (.type "set") _) _ _ _
 refine wpAny_pure ⟨Code.quiet_builtin _ (by decide +kernel),codeAny_builtin F.entry_type_call ?_⟩
 rw [Around.under_plain (weight_type_call_type "set" [.ref l] []) rfl]
 have h1:=F.called_set.notType
 have h2:=F.called_set.canCreate
 have hct:=F.typeCall_set_1 (.ref l)
 repeat (any_goals (first | assumption | wp_step))
 refine codeAny_mono (ziL (.ref l) (E:=E) (Q₁:=fun obj s₁=>obj=.ref s.heap.objs.size∧s₁={ s with heap:=s.heap.push (zbB (!w.params.followText "set-order")) }) ⟨rfl,rfl⟩) fun r s₁ hr=>?_
 cases r with
 | error e=>exact hr
 | ok fl=>
  cases fl with
  | ret obj=>
   obtain ⟨rfl,rfl⟩:=hr
   generalize hled:(!w.params.followText "set-order")=led
   have hS:(s.heap.push (zbB led)).get? s.heap.objs.size=some (zbB led):=Heap.get?_push_size _ rfl
   have hT:Shared.TypeIs { s with heap:=s.heap.push (zbB led) } (.ref s.heap.objs.size) "set":=⟨_,hS,rfl⟩
   have hli:=F.called_set.init.lookup
   have hbi:=F.called_set.init.bind (.ref s.heap.objs.size)
   repeat (any_goals (first | assumption | wp_step))
   refine codeAny_mono (codeAny_call_builtin (R:=wants (fun r s₂=>r=.none∧∃ h' tk,s₂={ s with heap:=h',toks:=tk }∧SetS prog w h' s.heap.objs.size (setL ss)∧
     (∀ b o,s.heap.get? b=some o→h'.get? b=some o)) E) F.called_set.init.plain F.entry_set_init (check_set_init_1 hT ?_)) fun r₂ s₂ hr₂=>?_
   ·obtain ⟨ol,hol,hcl,nl,hdl⟩:=hl
    obtain ⟨ocls,odict,odata,oslots⟩:=ol
    simp only at hcl hdl
    subst hcl;subst hdl
    have hol':(s.heap.push (zbB led)).get? l=some { cls:=.type "list",dict:=odict,data:=.seq items nl,slots:=oslots }:=Heap.get?_push_of_some _ hol
    have hsls:=F.sub_list_set
    have hslf:=F.sub_list_frozenset
    have hne:(Value.type "list"==Value.type "dict")=false:=by decide
    have hl1:(s.heap.push (zbB led)).IsList l items:=⟨_,hol',rfl,nl,rfl⟩
    unfold Builtin.«set.__init__» noKeywords Builtin.Frozenset.updateFrom
    generalize hPI:pyIter=PI
    wp_walk
    subst hPI
    refine wpAny_pyIter_list hl1 ?_
    refine wpAny_bind (wpAny_runValue ?_)
    have hlS:l<s.heap.objs.size:=Heap.lt_size hol
    have hh3:A.in1.in1.in1.handled=none:=by simp [hh]
    have hneI:l≠(s.heap.push (zbB led)).objs.size:=by
     rw [Heap.size_push];exact Nat.ne_of_lt (Nat.lt_succ_of_lt hlS)
    have hSf:s.heap.objs.size∉[(s.heap.push (zbB led)).objs.size,l]:=by
     rw [Heap.size_push];simp only [List.mem_cons,List.mem_singleton,List.not_mem_nil,or_false,not_or]
     exact ⟨Nat.ne_of_lt (Nat.lt_succ_self _),Nat.ne_of_gt hlS⟩
    have hval:∀(i:Nat)(v:Value),items[i]?=some v→∃ x t,ss[i]?=some x∧v=.str x t:=fun i v hv=>let ⟨x,t,a,b⟩:=StrsAre.item hi i v (by rw [Array.getElem?_toList];exact hv);⟨x,t,b,a⟩
    refine zh8 (hsz▸(Walks.list hh3 _ l hneI items).toS) s.heap.objs.size hSf hval hb (ss.length-0) 0 _ rfl (Nat.zero_le _)
     ⟨⟨_,Heap.get?_push_size _ rfl,rfl,rfl⟩,(hl1.push _)⟩ (znc led (Heap.get?_push_of_some _ hS) hled.symm) ?_
    intro s' hm hS'
    obtain ⟨h',g',d',tk',os'⟩:=s'
    have eg:g'=s.gens:=hm.gens
    have ed:d'=s.drawn:=hm.drawn
    have eo:os'=s.os:=hm.os
    subst eg;subst ed;subst eo
    show wpAny _ _ _ _ _ _
    refine wpAny_pure ?_
    show wpAny _ _ (ret Value.none) _ _ _
    refine wpAny_pure ⟨rfl,h',tk',rfl,hS',fun b o e=>?_⟩
    have hb:=Heap.lt_size e
    have hb1:b≠s.heap.objs.size:=Nat.ne_of_lt hb
    have hb2:b≠(s.heap.push (zbB led)).objs.size:=by
     rw [Heap.size_push];exact Nat.ne_of_lt (Nat.lt_succ_of_lt hb)
    exact hm.heap b o (by simp only [List.mem_cons,List.mem_singleton,List.not_mem_nil,or_false,not_or];exact ⟨hb1,hb2⟩) (Heap.get?_push_of_some _ (Heap.get?_push_of_some _ e))
   ·cases r₂ with
    | error e=>exact hr₂
    | ok fl₂=>
     cases fl₂ with
     | ret r=>
      obtain ⟨rfl,h',tk,rfl,hS',hk'⟩:=hr₂
      repeat (any_goals (first | assumption | wp_step))
      exact h _ _ hS' hk'
     | _=>exact hr₂.elim
  | _=>exact hr.elim
end
end Mine
namespace PySem.F
theorem zbJ:Manifest.owners.lookup (String.ofList ['r','o','t','a','r','e','t','i','_','t','e','s'].reverse)=some Manifest.sig_set_iterator:=by kernel_rfl
theorem slot_set_iterator_next:Slot "set_iterator" "__next__" "set_iterator.__next__":=
 .of (owner:="set_iterator") (n:="__next__") (by rw [typeLookup_type,builtinLookup_eq_fast];kernel_rfl) (by decide +kernel) (by decide +kernel) (by decide +kernel)
  (by first | exact .inl (by decide +kernel) | exact .inr (by decide +kernel)) (by rw [isSubtype_type];kernel_rfl)
theorem entry_set_iterator_next:entryFor table "set_iterator.__next__"=some Builtin.«set_iterator.__next__»:=entryFor_of_tree (by kernel_rfl)
theorem args_set_iterator_next_1(a:Value):argsOk "set_iterator.__next__" ⟨[a],[]⟩:=by
 unfold argsOk;rw [signature?_of (id:="set_iterator.__next__") (n:=['_','_','t','x','e','n','_','_']) (o:=['r','o','t','a','r','e','t','i','_','t','e','s']) (by kernel_rfl) zbJ];kernel_rfl
theorem entry_set_iter:entryFor table "set.__iter__"=some Builtin.«frozenset.__iter__»:=
 entryFor_alias (id':="frozenset.__iter__") (by kernel_rfl) rfl (by decide +kernel) (by kernel_rfl)
end PySem.F
namespace Mine
open PySem PySem.SeqAt PyProof.Rows PySem.W
theorem zdY{α:Type}:∀(l:List α)(i:Nat)(h:i<l.length),(l[i]::l.eraseIdx i).Perm l
 | _::_,0,_=>.rfl
 | x::r,i+1,h=>(List.Perm.swap x _ _).trans ((zdY r i (Nat.lt_of_succ_lt_succ h)).cons x)
theorem zoU{α:Type}(next:Nat→Nat)(n:Nat):∀(k:Nat)(l:List α)(out:Array α),l.length≤n→(pickOrder.go next n k l out).toList.Perm (out.toList++l):=by
 induction n with
 | zero=>
  intro k l out h
  cases l with
  | nil=>rw [List.append_nil];exact .rfl
  | cons x r=>cases h
 | succ n ih=>
  intro k l out h
  cases l with
  | nil=>rw [List.append_nil];exact .rfl
  | cons x r=>
   have hi:next k % (x::r).length<(x::r).length:=Nat.mod_lt _ (Nat.succ_pos _)
   have e:pickOrder.go next (n+1) k (x::r) out=pickOrder.go next n (k+1) ((x::r).eraseIdx (next k % (x::r).length)) (out.push (x::r)[next k % (x::r).length]):=by
    show (match (x::r)[next k % (x::r).length]? with | some x'=>pickOrder.go next n (k+1) ((x::r).eraseIdx (next k % (x::r).length)) (out.push x') | none=>out)=_
    rw [List.getElem?_eq_getElem hi]
   rw [e]
   refine (ih (k+1) _ _ (by rw [List.length_eraseIdx,if_pos hi];exact Nat.le_of_succ_le_succ h)).trans ?_
   rw [Array.toList_push,List.append_assoc]
   exact (List.Perm.refl _).append (zdY _ _ hi)
theorem zhq{α:Type}(next:Nat→Nat)(xs:Array α):(pickOrder next xs).toList.Perm xs.toList:=zoU next xs.size 0 xs.toList #[] (Nat.le_of_eq (Array.length_toList ..))
section
variable {prog:Program} {w:World} {A:Around} {s:Shared} {E:Value→Shared→Prop}
theorem zkL{src:Source}{n:Nat}{Q:Nat→Shared→Prop}(hn:0<n) (h:∀ i,i<n→Q i { s with drawn:=s.drawn.bump src }):wpAny (model prog w) A (choose src n) Q E s:=
 fun _ _ _=>⟨Nat.ne_of_gt hn,h _ (Nat.mod_lt _ hn)⟩
theorem zgZ{α:Type}(n:Nat):∀(xs:List α)(s:Shared)(Q:List α→Shared→Prop),xs.length≤n→(∀ ys dr,ys.Perm xs→Q ys { s with drawn:=dr })→wpAny (model prog w) A (drawOrder n xs) Q E s:=by
 induction n with
 | zero=>
  intro xs s Q hn h
  cases xs with
  | nil=>exact wpAny_pure (h [] s.drawn .rfl)
  | cons x r=>cases hn
 | succ n ih=>
  intro xs s Q hn h
  cases xs with
  | nil=>exact wpAny_pure (h [] s.drawn .rfl)
  | cons x r=>
   show wpAny _ _ (choose .order (x::r).length >>= _) _ _ s
   refine wpAny_bind (zkL (Nat.succ_pos _) fun i hi=>?_)
   rw [List.getElem?_eq_getElem hi]
   refine wpAny_bind (ih _ _ _ (by rw [List.length_eraseIdx,if_pos hi];exact Nat.le_of_succ_le_succ hn) fun ys dr hp=>wpAny_pure ?_)
   exact h _ dr ((hp.cons _).trans (zdY _ _ hi))
theorem zin(a:Addr):setDrawn a=(do let (es,_,t) ← setState a;let byText ← setsByText;return !byText&&(!t.plain&&decide (es.size>1))):=rfl
end
noncomputable abbrev itO(first:Value)(i:Nat)(D:Addr)(n ep:Nat):Obj:={ cls:=.type "set_iterator",data:=.fields #[first,.int i 0,.ref D,.int n 0,.int ep 0] }
inductive SMode (w:World) (D T:Addr) (es:Array (Int×Value)) (ep:Nat) (t:SetTable) (vs:List Value) (h:Heap) (i:Nat):Value→Prop
 | drawn (pl:List Nat) (n:Nat) (hT:h.get? T=some { cls:=.type "tuple",data:=.seq (pl.map fun(i:Nat)=>rawInt i).toArray n }) (hl:pl.length=es.size) (hv:∀(j p:Nat),pl[j]?=some p→∃ e:Int×Value,es[p]?=some e∧vs[j]?=some e.2):SMode w D T es ep t vs h i (.ref T)
 | text (z:Nat) (hw:w.params.followText "set-order"=true) (hv:vs=(pickOrder (w.params.setOrder D ep) es).toList.map (·.2)):SMode w D T es ep t vs h i (.int z 0)
 | one (z:Nat) (hw:w.params.followText "set-order"=false) (h1:es.size≤1) (hv:vs=es.toList.map (·.2)) (hz:SetTable.below t.place z=i):SMode w D T es ep t vs h i (.int z 0)
section
variable {prog:Program} {w:World} {A:Around} {s:Shared} {E:Value→Shared→Prop} {ks:List Str} {I D T:Addr} {es:Array (Int×Value)} {ep:Nat} {t:SetTable} {vs:List Value} {first:Value} {i:Nat}
theorem zh2(j:Nat):SetTable.below #[j] 0=0∧SetTable.below #[j] (j+1)=1:=by
 constructor
 ·show SetTable.below.go #[j] 0 1 0 1=0
  simp [SetTable.below.go]
 ·show SetTable.below.go #[j] (j+1) 1 0 1=1
  simp [SetTable.below.go]
theorem zjG{Q:Option Value→Shared→Prop}(ho:s.heap.get? I=some (itO first i D es.size ep))(S:SetAt prog w s.heap D ks es ep t)(hl:vs.length=es.size)(M:SMode w D T es ep t vs s.heap i first){v:Value}(hv:vs[i]?=some v)
  (hQ:∀ f' h',Heap.SameBut I s.heap h'→h'.get? I=some (itO f' (i+1) D es.size ep)→SMode w D T es ep t vs s.heap (i+1) f'→Q (some v) { s with heap:=h' }) :
  wpAny (model prog w) A (pyNext (.ref I)) Q E s:=by
 have hT:s.TypeIs (.ref I) "set_iterator":=⟨_,ho,rfl⟩
 have hi:i<es.size:=hl▸(List.getElem?_eq_some_iff.mp hv).1
 unfold pyNext
 refine wpAny_bind (wpAny_attempt (wpAny_callSpecial?_slot (name:=Str.ofString "__next__") hT F.slot_set_iterator_next
  (wpAny_call_entry F.slot_set_iterator_next hT F.entry_set_iterator_next ?_ (F.args_set_iterator_next_1 _))))
 refine wpAny_bind (wpAny_pure ?_)
 refine wpAny_bind (wpAny_fieldsOf ho rfl ?_)
 show wpAny _ _ (setEntries D >>= _) _ _ s
 refine wpAny_bind (wpAny_bind (wpAny_setState_of S.at_ rfl S.fits (wpAny_pure ?_)))
 rw [if_neg (by simp)]
 have two:∀ z:Nat,SMode w D T es ep t vs s.heap (i+1) (.int z 0)→∀{Q':Fin→Shared→Prop}{E':Value→Shared→Prop},(∀ s',wpAny (model prog w) A (pure (some v)) Q E s'→Q' (.done (.ret v)) s')→wpAny (model prog w) A.in1 (do setField (.ref I) 0 (rawInt z);setField (.ref I) 1 (rawInt ((i:Int)+1));ret v) Q' E' s:=fun z M' Q' E' k=>by
  refine wpAny_bind (wpAny_setField ho rfl (show 0<5 by decide) ?_)
  have ho1:(s.heap.update I (Obj.mapFields (·.setIfInBounds 0 (rawInt z)))).get? I=some (itO (rawInt z) i D es.size ep):=Heap.get?_update_self _ ho rfl
  refine wpAny_bind (wpAny_setField ho1 rfl (show 1<5 by decide) ?_)
  exact wpAny_pure (k _ (wpAny_pure (hQ (.int z 0) _ ((Heap.SameBut.update ..).trans (Heap.SameBut.update ..)) (Heap.get?_update_self _ ho1 rfl) M')))
 cases M with
 | drawn pl n hTp hpl hp=>
  have hi':i<pl.length:=hpl▸hi
  obtain ⟨e,he,hve⟩:=hp i pl[i] (List.getElem?_eq_getElem hi')
  rw [hv] at hve;cases hve
  show wpAny _ _ (seqItems? (.ref T) >>= _) _ _ s
  refine wpAny_bind (wpAny_seqItems hTp rfl ?_)
  have hpi:(pl.map fun(i:Nat)=>rawInt i).toArray[((i:Nat):Int).toNat]?=some (.int (pl[i]:Nat) 0):=by
   rw [Int.toNat_natCast,List.getElem?_toArray,List.getElem?_map,List.getElem?_eq_getElem hi'];rfl
  dsimp only
  rw [hpi]
  show wpAny _ _ (setNextDrawn D _ _ >>= _) _ _ s
  refine wpAny_bind (wpAny_bind (wpAny_setState_of S.at_ rfl S.fits ?_))
  dsimp only
  rw [if_neg (by simp),Int.toNat_natCast,he]
  refine wpAny_pure ?_
  refine wpAny_bind (wpAny_setField ho rfl (show 1<5 by decide) ?_)
  exact wpAny_pure ⟨_,rfl,wpAny_pure (hQ (.ref T) _ (Heap.SameBut.update ..) (Heap.get?_update_self _ ho rfl) (.drawn pl n hTp hpl hp))⟩
 | text z hw hv'=>
  have he:((pickOrder (w.params.setOrder D ep) es)[i]?).map (fun e:Int×Value=>(e.2,z))=some (v,z):=by
   rw [hv',List.getElem?_map,Array.getElem?_toList] at hv
   cases q:(pickOrder (w.params.setOrder D ep) es)[i]? with
   | none=>rw [q] at hv;cases hv
   | some e=>rw [q] at hv;cases hv;rfl
  show wpAny _ _ (setNext D _ _ _ >>= _) _ _ s
  refine wpAny_bind (wpAny_bind (wpAny_setState_of S.at_ rfl S.fits ?_))
  dsimp only
  refine wpAny_bind (wpAny_bind (wpAny_askSetting (wpAny_pure ?_)))
  rw [show (model prog w).w.params.followText "set-order"=true from hw]
  rw [if_pos rfl,if_neg (by simp)]
  refine wpAny_bind (wpAny_bind (wpAny_setState_of S.at_ rfl S.fits ?_))
  dsimp only
  refine wpAny_bind (wpAny_bind (wpAny_askSetting (wpAny_pure ?_)))
  rw [show (model prog w).w.params.followText "set-order"=true from hw]
  rw [if_pos rfl]
  refine wpAny_bind (wpAny_askSetting (wpAny_pure (wpAny_pure ?_)))
  rw [Int.toNat_natCast,Int.toNat_natCast]
  rw [show ((pickOrder ((model prog w).w.params.setOrder D ep) es)[i]?).map (fun e:Int×Value=>(e.2,z))=some (v,z) from he]
  exact two z (.text z hw hv') fun s' h=>⟨_,rfl,h⟩
 | one z hw h1 hv' hz=>
  have hi0:i=0:=Nat.lt_one_iff.mp (Nat.lt_of_lt_of_le hi h1)
  have hs1:es.size=1:=Nat.le_antisymm h1 (Nat.lt_of_le_of_lt (Nat.zero_le _) hi)
  have hp1:t.place.size=1:=by
   have:=S.fits
   unfold SetTable.fits at this
   rw [Bool.and_eq_true] at this
   exact (eq_of_beq this.1).trans hs1
  obtain ⟨j,hj⟩:∃ j,t.place=#[j]:=Array.size_eq_one_iff.mp hp1
  obtain ⟨e,he⟩:∃ e,es=#[e]:=Array.size_eq_one_iff.mp hs1
  subst hi0
  show wpAny _ _ (setNext D _ _ _ >>= _) _ _ s
  refine wpAny_bind (wpAny_bind (wpAny_setState_of S.at_ rfl S.fits ?_))
  dsimp only
  refine wpAny_bind (wpAny_bind (wpAny_askSetting (wpAny_pure ?_)))
  rw [show (model prog w).w.params.followText "set-order"=false from hw,if_neg Bool.false_ne_true]
  show wpAny _ _ (if (!t.plain&&decide (es.size>1))=true then _ else _) _ _ s
  rw [decide_eq_false (Nat.not_lt.mpr h1),Bool.and_false,if_neg Bool.false_ne_true]
  show wpAny _ _ ((if (!t.led&&!es.isEmpty)=true then _ else _) >>= _) _ _ s
  rw [S.led hw,Bool.not_true,Bool.false_and,if_neg Bool.false_ne_true]
  refine wpAny_bind (wpAny_pure (wpAny_pure ?_))
  rw [Int.toNat_natCast,hz,hj,he]
  rw [hv',he] at hv
  cases hv
  subst he
  exact two (j+1) (.one (j+1) hw h1 hv' (by rw [hj];exact (zh2 j).2)) fun s' h=>⟨_,rfl,h⟩
end
section
variable {prog:Program} {w:World} {A:Around} {s:Shared} {E:Value→Shared→Prop} {ks:List Str} {I D T:Addr} {es:Array (Int×Value)} {ep:Nat} {t:SetTable} {vs:List Value} {first:Value} {i:Nat}
theorem zos{Q:Fin→Shared→Prop}{E:Value→Shared→Prop}(hh:A.handled=none) (h:∀ e h',(∀ b o,s.heap.get? b=some o→h'.get? b=some o)→h'.get? e=some { cls:=.type "StopIteration",data:=.fields #[] }∨Shared.TypeIs { s with heap:=h' } (.ref e) "StopIteration"→E (.ref e) { s with heap:=h' }) :
  wpAny (model prog w) A (do raiseNew (← newExc (.type "StopIteration") [])) Q E s:=by
 refine wpAny_bind ?_
 simp only [newExc,newTuple]
 refine wpAny_bind (wpAny_newObj_type ?_ (by size_fits))
 refine wpAny_bind (m:=firstArgMember _ _) (wpAny_of_eq (a:=Value.none) (by first | rfl | (simp only [firstArgMember];rfl)) ?_)
 refine wpAny_newObj_type ?_ (by size_fits)
 simp only [raiseNew]
 refine wpAny_bind (wpAny_handled ?_)
 rw [hh]
 refine wpAny_bind (wpAny_pure (wpAny_throw ?_))
 exact h _ _ (fun b o e=>Heap.get?_push_of_some _ (Heap.get?_push_of_some _ e)) (.inr ⟨_,Heap.get?_push_size _ rfl,rfl⟩)
theorem zkI{Q:Option Value→Shared→Prop}(hh:A.handled=none)(ho:s.heap.get? I=some (itO first es.size D es.size ep))(S:SetAt prog w s.heap D ks es ep t)(M:SMode w D T es ep t vs s.heap es.size first)
  (hQ:∀ h',(∀ b o,b≠I→s.heap.get? b=some o→h'.get? b=some o)→Q none { s with heap:=h' }) :
  wpAny (model prog w) A (pyNext (.ref I)) Q E s:=by
 have hT:s.TypeIs (.ref I) "set_iterator":=⟨_,ho,rfl⟩
 unfold pyNext
 refine wpAny_bind (wpAny_attempt (wpAny_callSpecial?_slot (name:=Str.ofString "__next__") hT F.slot_set_iterator_next
  (wpAny_call_entry F.slot_set_iterator_next hT F.entry_set_iterator_next ?_ (F.args_set_iterator_next_1 _))))
 refine wpAny_bind (wpAny_pure ?_)
 refine wpAny_bind (wpAny_fieldsOf ho rfl ?_)
 show wpAny _ _ (setEntries D >>= _) _ _ s
 refine wpAny_bind (wpAny_bind (wpAny_setState_of S.at_ rfl S.fits (wpAny_pure ?_)))
 rw [if_neg (by simp)]
 have last:∀(h₁:Heap),Heap.SameBut I s.heap h₁→wpAny (model prog w) A.in1 (do raiseNew (← newExc (.type "StopIteration") [])) (fun(_:Fin) _=>False) (fun e s'=>wpAny (model prog w) A (do if ← isInstance e (.type "StopIteration") then pure none else throw e) Q E s') { s with heap:=h₁ }:=fun h₁ hs=>by
  refine zos (s:={ s with heap:=h₁ }) hh fun e h' hk ht=>?_
  have ht:Shared.TypeIs { s with heap:=h' } (.ref e) "StopIteration":=ht.elim (fun q=>⟨_,q,rfl⟩) id
  refine wpAny_bind (wpAny_isInstance (T:="StopIteration") (b:=true) ht isSubtype_stop ?_)
  exact wpAny_pure (hQ h' fun b o hb q=>hk b o ((hs.2 b hb).trans q))
 cases M with
 | drawn pl n hTp hpl hp=>
  show wpAny _ _ (seqItems? (.ref T) >>= _) _ _ s
  refine wpAny_bind (wpAny_seqItems hTp rfl ?_)
  have hpi:(pl.map fun(i:Nat)=>rawInt i).toArray[((es.size:Nat):Int).toNat]?=none:=by
   rw [Int.toNat_natCast,List.getElem?_toArray];exact List.getElem?_eq_none (by rw [List.length_map,hpl];exact Nat.le_refl _)
  dsimp only
  rw [hpi]
  refine wpAny_bind (wpAny_setField ho rfl (show 0<5 by decide) ?_)
  have ho1:(s.heap.update I (Obj.mapFields (·.setIfInBounds 0 (rawInt 0)))).get? I=some (itO (rawInt 0) es.size D es.size ep):=Heap.get?_update_self _ ho rfl
  refine wpAny_bind (wpAny_setField ho1 rfl (show 2<5 by decide) ?_)
  refine wpAny_mono (last _ ((Heap.SameBut.update ..).trans (Heap.SameBut.update ..))) (fun _ _ q=>q.elim) fun _ _ q=>q
 | text z hw hv'=>
  have he:((pickOrder (w.params.setOrder D ep) es)[es.size]?).map (fun e:Int×Value=>(e.2,z))=none:=by
   rw [Array.getElem?_eq_none (Nat.le_of_eq (by rw [← Array.length_toList,(zhq _ _).length_eq,Array.length_toList]))];rfl
  show wpAny _ _ (setNext D _ _ _ >>= _) _ _ s
  refine wpAny_bind (wpAny_bind (wpAny_setState_of S.at_ rfl S.fits ?_))
  dsimp only
  refine wpAny_bind (wpAny_bind (wpAny_askSetting (wpAny_pure ?_)))
  rw [show (model prog w).w.params.followText "set-order"=true from hw]
  rw [if_pos rfl,if_neg (by simp)]
  refine wpAny_bind (wpAny_bind (wpAny_setState_of S.at_ rfl S.fits ?_))
  dsimp only
  refine wpAny_bind (wpAny_bind (wpAny_askSetting (wpAny_pure ?_)))
  rw [show (model prog w).w.params.followText "set-order"=true from hw]
  rw [if_pos rfl]
  refine wpAny_bind (wpAny_askSetting (wpAny_pure (wpAny_pure ?_)))
  rw [Int.toNat_natCast,Int.toNat_natCast]
  rw [show ((pickOrder ((model prog w).w.params.setOrder D ep) es)[es.size]?).map (fun e:Int×Value=>(e.2,z))=none from he]
  refine wpAny_bind (wpAny_setField ho rfl (show 2<5 by decide) ?_)
  refine wpAny_mono (last _ (Heap.SameBut.update ..)) (fun _ _ q=>q.elim) fun _ _ q=>q
 | one z hw h1 hv' hz=>
  show wpAny _ _ (setNext D _ _ _ >>= _) _ _ s
  refine wpAny_bind (wpAny_bind (wpAny_setState_of S.at_ rfl S.fits ?_))
  dsimp only
  refine wpAny_bind (wpAny_bind (wpAny_askSetting (wpAny_pure ?_)))
  rw [show (model prog w).w.params.followText "set-order"=false from hw,if_neg Bool.false_ne_true]
  show wpAny _ _ (if (!t.plain&&decide (es.size>1))=true then _ else _) _ _ s
  rw [decide_eq_false (Nat.not_lt.mpr h1),Bool.and_false,if_neg Bool.false_ne_true]
  show wpAny _ _ ((if (!t.led&&!es.isEmpty)=true then _ else _) >>= _) _ _ s
  rw [S.led hw,Bool.not_true,Bool.false_and,if_neg Bool.false_ne_true]
  refine wpAny_bind (wpAny_pure (wpAny_pure ?_))
  rw [Int.toNat_natCast,hz,Array.getElem?_eq_none (Nat.le_refl _)]
  refine wpAny_bind (wpAny_setField ho rfl (show 2<5 by decide) ?_)
  refine wpAny_mono (last _ (Heap.SameBut.update ..)) (fun _ _ q=>q.elim) fun _ _ q=>q
end
end Mine
namespace PySem.F
theorem slot_set_iterator_iter:Slot "set_iterator" "__iter__" "set_iterator.__iter__":=
 .of (owner:="set_iterator") (n:="__iter__") (by rw [typeLookup_type,builtinLookup_eq_fast];kernel_rfl) (by decide +kernel) (by decide +kernel) (by decide +kernel)
  (by first | exact .inl (by decide +kernel) | exact .inr (by decide +kernel)) (by rw [isSubtype_type];kernel_rfl)
theorem entry_set_iterator_iter:entryFor table "set_iterator.__iter__"=some Builtin.«dict_keyiterator.__iter__»:=
 entryFor_alias (id':="dict_keyiterator.__iter__") (by kernel_rfl) rfl (by decide +kernel) (by kernel_rfl)
theorem args_set_iterator_iter_1(a:Value):argsOk "set_iterator.__iter__" ⟨[a],[]⟩:=by
 unfold argsOk;rw [signature?_of (id:="set_iterator.__iter__") (n:=['_','_','r','e','t','i','_','_']) (o:=['r','o','t','a','r','e','t','i','_','t','e','s']) (by kernel_rfl) zbJ];kernel_rfl
end PySem.F
namespace Mine
open PySem PySem.SeqAt PyProof.Rows PySem.W PySem.Calls
section
variable {prog:Program} {w:World} {A:Around} {s:Shared} {E:Value→Shared→Prop} {ks:List Str} {I D T:Addr} {es:Array (Int×Value)} {ep:Nat} {t:SetTable} {vs:List Value} {first:Value} {i:Nat}
theorem SetAt.at'{h h':Heap}(S:SetAt prog w h D ks es ep t)(e:∀ o,h.get? D=some o→h'.get? D=some o):SetAt prog w h' D ks es ep t:=⟨e _ S.at_,S.els,S.mem,S.few,S.fits,S.led,S.plain⟩
theorem SMode.at'{h h':Heap}(M:SMode w D T es ep t vs h i first)(e:∀ o,h.get? T=some o→h'.get? T=some o):SMode w D T es ep t vs h' i first:=by
 cases M with
 | drawn pl n hT hl hv=>exact .drawn pl n (e _ hT) hl hv
 | text z hw hv=>exact .text z hw hv
 | one z hw h1 hv hz=>exact .one z hw h1 hv hz
theorem zkO(hh:A.handled=none)(hDI:D≠I)(hTI:T≠I)(hl:vs.length=es.size) :
  Walks prog w A I [I,D,T] [I] es.size (fun i v=>vs[i]?=some v) (fun i h=>∃ first,h.get? I=some (itO first i D es.size ep)∧SetAt prog w h D ks es ep t∧SMode w D T es ep t vs h i first) where
 sub:=fun b hb=>by rw [List.mem_singleton.mp hb];exact .head _
 frame:=fun i h h' st hk=>by
  obtain ⟨f,a,b,c⟩:=st
  exact ⟨f,hk I (.head _) _ a,b.at' fun o e=>hk D (.tail _ (.head _)) o e,c.at' fun o e=>hk T (.tail _ (.tail _ (.head _))) o e⟩
 item:=fun i s Q E hi st hQ=>by
  obtain ⟨f,a,b,c⟩:=st
  have hi':i<vs.length:=by rw [hl];exact hi
  refine zjG (v:=vs[i]) a b hl c (List.getElem?_eq_getElem hi') fun f' h' hs ho' M'=>?_
  exact hQ vs[i] h' s.toks (List.getElem?_eq_getElem hi') ⟨f',ho',b.at' fun o e=>(hs.2 D hDI).trans e,M'.at' fun o e=>(hs.2 T hTI).trans e⟩ fun b o hb e=>(hs.2 b (fun q=>hb (by rw [q];exact .head _))).trans e
 done:=fun s Q E st hQ=>by
  obtain ⟨f,a,b,c⟩:=st
  exact zkI hh a b c fun h' hk=>hQ h' s.toks fun b o hb e=>hk b o (fun q=>hb (by rw [q];exact .head _)) e
 self:=fun i s Q E st hQ=>by
  obtain ⟨f,a,b,c⟩:=st
  have hT:s.TypeIs (.ref I) "set_iterator":=⟨_,a,rfl⟩
  refine wpAny_pyIter_slot hT F.slot_set_iterator_iter (wpAny_call_entry F.slot_set_iterator_iter hT F.entry_set_iterator_iter ?_ (F.args_set_iterator_iter_1 _))
  show wpAny _ _ (ret (.ref I)) _ _ s
  exact wpAny_pure ⟨_,rfl,"set_iterator",_,hT,F.slot_set_iterator_next.lookup,hQ⟩
theorem zis{pl:List Nat}(hp:pl.Perm (List.range es.size)):((pl.filterMap (es[·]?)).map (·.2)).Perm (es.toList.map (·.2))∧∀(j p:Nat),pl[j]?=some p→∃ e:Int×Value,es[p]?=some e∧((pl.filterMap (es[·]?)).map (·.2))[j]?=some e.2:=by
 refine ⟨((hp.filterMap _).trans (by rw [filterMap_getElem?_range])).map _,?_⟩
 have all:∀ p∈pl,p<es.size:=fun p h=>List.mem_range.mp (hp.mem_iff.mp h)
 have go:∀(l:List Nat),(∀ p∈l,p<es.size)→∀(j p:Nat),l[j]?=some p→∃ e:Int×Value,es[p]?=some e∧((l.filterMap (es[·]?)).map (·.2))[j]?=some e.2:=by
  intro l
  induction l with
  | nil=>intro _ j p h;cases h
  | cons x r ih=>
   intro ha j p h
   have hx:=ha x (.head _)
   rw [List.filterMap_cons_some (Array.getElem?_eq_getElem hx)]
   cases j with
   | zero=>cases h;exact ⟨_,Array.getElem?_eq_getElem hx,rfl⟩
   | succ j=>exact ih (fun p h=>ha p (.tail _ h)) j p h
 exact go pl all
theorem zjJ{Q:Value→Shared→Prop}(S:SetAt prog w s.heap D ks es ep t)
  (hQ:∀ I T h₁ dr vs first,s.heap.objs.size≤I→T≠I→(T=D∨s.heap.objs.size≤T)→(∀ b o,s.heap.get? b=some o→h₁.get? b=some o)→(vs:List Value).Perm (es.toList.map (·.2))→h₁.get? I=some (itO first 0 D es.size ep)→SMode w D T es ep t vs h₁ 0 first→Q (.ref I) { s with heap:=h₁,drawn:=dr }) :
  wpAny (model prog w) A (pyIter (.ref D)) Q E s:=by
 have hT:s.TypeIs (.ref D) "set":=⟨_,S.at_,rfl⟩
 have hD:=Heap.lt_size S.at_
 refine wpAny_pyIter_slot hT F.slot_set_iter (wpAny_call_entry F.slot_set_iter hT F.entry_set_iter ?_ (F.args_set_iter_1 _))
 refine wpAny_bind (wpAny_pure ?_)
 refine wpAny_bind (wpAny_bind (wpAny_bind (wpAny_setState_of S.at_ rfl S.fits (wpAny_pure (wpAny_pure ?_)))))
 rw [zin]
 refine wpAny_bind (wpAny_bind (wpAny_setState_of S.at_ rfl S.fits ?_))
 refine wpAny_bind (wpAny_bind (wpAny_askSetting (wpAny_pure (wpAny_pure ?_))))
 cases q:(!(model prog w).w.params.followText "set-order"&&(!t.plain&&decide (es.size>1))) with
 | true=>
  rw [if_pos rfl]
  refine wpAny_bind (zgZ es.size (List.range es.size) _ _ (Nat.le_of_eq List.length_range) fun pl dr hp=>?_)
  have hlen:pl.length=es.size:=hp.length_eq.trans List.length_range
  refine wpAny_bind (wpAny_newObj_type ?_ (by show (pl.map fun(i:Nat)=>rawInt i).toArray.size≤sizeLine;rw [List.size_toArray,List.length_map,hlen,S.size];exact fits_of_scanBound S.few))
  have S₁:=S.at' (h':=s.heap.push { cls:=.type "tuple",data:=.seq (pl.map fun(i:Nat)=>rawInt i).toArray }) fun o e=>Heap.get?_push_of_some _ e
  refine wpAny_bind (wpAny_setEpoch_of (s:={ s with heap:=s.heap.push { cls:=.type "tuple",data:=.seq (pl.map fun(i:Nat)=>rawInt i).toArray },drawn:=dr }) S₁.at_ rfl S₁.fits ?_)
  have hne:s.heap.objs.size≠(s.heap.push { cls:=.type "tuple",data:=.seq (pl.map fun(i:Nat)=>rawInt i).toArray }).objs.size:=by rw [Heap.size_push];exact Nat.ne_of_lt (Nat.lt_succ_self _)
  refine wpAny_bind (wpAny_newObj_type (wpAny_pure ⟨_,rfl,"set_iterator",_,⟨_,Heap.get?_push_size _ rfl,rfl⟩,F.slot_set_iterator_next.lookup,?_⟩) (by show 5≤_;decide))
  obtain ⟨p1,p2⟩:=zis hp
  exact hQ _ s.heap.objs.size _ dr _ (.ref s.heap.objs.size) (by rw [Heap.size_push];exact Nat.le_succ _) hne (.inr (Nat.le_refl _)) (fun b o e=>Heap.get?_push_of_some _ (Heap.get?_push_of_some _ e)) p1 (Heap.get?_push_size _ rfl)
   (.drawn pl 0 (Heap.get?_push_of_some _ (Heap.get?_push_size _ rfl)) hlen p2)
 | false=>
  rw [if_neg Bool.false_ne_true]
  refine wpAny_bind (wpAny_pure ?_)
  refine wpAny_bind (wpAny_setEpoch_of S.at_ rfl S.fits ?_)
  refine wpAny_bind (wpAny_newObj_type (wpAny_pure ⟨_,rfl,"set_iterator",_,⟨_,Heap.get?_push_size _ rfl,rfl⟩,F.slot_set_iterator_next.lookup,?_⟩) (by show 5≤_;decide))
  have fin:∀ vs:List Value,vs.Perm (es.toList.map (·.2))→SMode w D D es ep t vs (s.heap.push (itO (.int (0:Nat) 0) 0 D es.size ep)) 0 (.int (0:Nat) 0)→Q (.ref s.heap.objs.size) { s with heap:=s.heap.push (itO (.int (0:Nat) 0) 0 D es.size ep) }:=fun vs hv M=>
   hQ _ D _ s.drawn vs _ (Nat.le_refl _) (Nat.ne_of_lt hD) (.inl rfl) (fun b o e=>Heap.get?_push_of_some _ e) hv (Heap.get?_push_size _ rfl) M
  cases hw:w.params.followText "set-order" with
  | true=>exact fin _ ((zhq _ _).map _) (.text 0 hw rfl)
  | false=>
   have h1:es.size≤1:=by
    rw [show (model prog w).w.params.followText "set-order"=false from hw,Bool.not_false,Bool.true_and] at q
    by_cases h:es.size≤1
    ·exact h
    ·rw [S.plain (fun e=>h (by rw [e];exact Nat.zero_le _)),decide_eq_true (Nat.not_le.mp h)] at q
     cases q
   refine fin _ .rfl (.one 0 hw h1 rfl ?_)
   have hp:t.place.size=es.size:=by
    have:=S.fits
    unfold SetTable.fits at this
    rw [Bool.and_eq_true] at this
    exact eq_of_beq this.1
   rcases Nat.le_one_iff_eq_zero_or_eq_one.mp h1 with e | e
   ·rw [Array.size_eq_zero_iff.mp (hp.trans e)];rfl
   ·obtain ⟨j,hj⟩:=Array.size_eq_one_iff.mp (hp.trans e)
    rw [hj];exact (zh2 j).1
end
section
variable {prog:Program} {w:World} {A:Around} {s:Shared} {E:Value→Shared→Prop} {ks:List Str} {D:Addr} {es:Array (Int×Value)} {ep:Nat} {t:SetTable}
theorem znH{r:Addr}{Q:Bool→Shared→Prop}(hT:s.TypeIs (.ref r) "set")(h:Q false s):wpAny (model prog w) A (Builtin.List.listLengthHint (.ref r)) Q E s:=by
 unfold Builtin.List.listLengthHint
 refine wpAny_bind (wpAny_specialOf hT PySem.F.slot_set_len.lookup ?_)
 generalize hid:("set.__len__":String)=id0
 wp_delta
 rw [show splitId id0=some ("set","__len__") from by subst hid;decide +kernel]
 subst hid
 refine wpAny_bind (wpAny_isInstance (T:="set") (b:=true) hT (by rw [isSubtype_type];kernel_rfl) ?_)
 refine wpAny_ite_split (fun hab=>absurd hab (by decide)) (fun _=>?_)
 refine wpAny_ite_split (fun _=>?_) (fun hab=>absurd (by decide +kernel) hab)
 refine wpAny_bind (wpAny_typeOf hT ?_)
 exact wpAny_pure h
theorem zgk{vs:List Value}{acc:Array Value}{n:Nat}(hl:vs.length=n)(h:ItemsOf (fun i v=>vs[i]?=some v) acc n):acc.toList=vs:=by
 refine List.ext_getElem? fun i=>?_
 by_cases q:i<n
 ·have hq:i<acc.size:=by rw [h.1];exact q
  have:=h.2 i acc[i] (Array.getElem?_eq_getElem hq)
  rw [this,Array.getElem?_toList];exact Array.getElem?_eq_getElem hq
 ·rw [List.getElem?_eq_none (by rw [Array.length_toList,h.1];exact Nat.not_lt.mp q),List.getElem?_eq_none (by rw [hl];exact Nat.not_lt.mp q)]
theorem zgY{R:Result→Shared→Prop}(hh:A.handled=none)(C:SetAt prog w s.heap D ks es ep t)(S:Addr)(hSD:S≠D)(res:Value)(c₀:Nat) (hS:s.heap.get? S=some { cls:=.type "list",data:=.seq #[] c₀ })
  (hR:∀ h' tk dr acc' c',(∀ b o,b≠S→s.heap.get? b=some o→h'.get? b=some o)→h'.get? S=some { cls:=.type "list",dict:=none,data:=.seq acc' c',slots:=#[] }→acc'.toList.Perm (es.toList.map (·.2))→R (.ok (.ret res)) { s with heap:=h',toks:=tk,drawn:=dr }) :
  wpAny (model prog w) A.in1 (Builtin.List.listExtendWith (.ref S) (.ref D) res)
   (fun fin s'=>match fin with | .done f=>R (.ok f) s' | .again c'=>c'.quiet=true∧codeAny (model prog w) A c' R s') (fun e s'=>R (.error e) s') s:=by
 have hSl:=Heap.lt_size hS
 have hDl:=Heap.lt_size C.at_
 unfold Builtin.List.listExtendWith
 refine wpAny_bind (wpAny_typeOf (T:="set") ⟨_,C.at_,rfl⟩ ?_)
 have h1:Builtin.List.listSameRef (.ref S) (.ref D)=false:=by simp [Builtin.List.listSameRef,hSD]
 rw [h1,show (Value.type "set"==Value.type "list")=false by decide,show (Value.type "set"==Value.type "tuple")=false by decide,Bool.or_false,Bool.or_false,if_neg Bool.false_ne_true]
 refine wpAny_bind (zjJ C fun I T h₁ dr vs first hI hTI hT hk hvs ho M=>?_)
 have hl:vs.length=es.size:=hvs.length_eq.trans (by rw [List.length_map,Array.length_toList])
 have W:=zkO (prog:=prog) (w:=w) (A:=A.in1) (ks:=ks) (I:=I) (D:=D) (T:=T) (ep:=ep) (t:=t) (vs:=vs) hh (Nat.ne_of_lt (Nat.lt_of_lt_of_le hDl hI)) hTI hl
 have hSI:S≠I:=Nat.ne_of_lt (Nat.lt_of_lt_of_le hSl hI)
 have hSf:S∉[I,D,T]:=by
  rw [List.mem_cons,List.mem_cons,List.mem_singleton,not_or,not_or]
  exact ⟨hSI,hSD,fun q=>hT.elim (fun e=>hSD (q.trans e)) fun e=>absurd hSl (by rw [q];exact Nat.not_lt.mpr e)⟩
 have st:∃ first,h₁.get? I=some (itO first 0 D es.size ep)∧SetAt prog w h₁ D ks es ep t∧SMode w D T es ep t vs h₁ 0 first:=⟨first,ho,C.at' fun o e=>hk D o e,M⟩
 have key:∀(h:Heap)(c₁ tk:Nat),(∃ first,h.get? I=some (itO first 0 D es.size ep)∧SetAt prog w h D ks es ep t∧SMode w D T es ep t vs h 0 first)→(∀ b o,b≠S→s.heap.get? b=some o→h.get? b=some o)→
   h.get? S=some { cls:=.type "list",data:=.seq #[] c₁ }→codeAny (model prog w) A (.builtin "list.extend.loop" ⟨[.ref S,.ref I,res],[]⟩) R { s with heap:=h,toks:=tk,drawn:=dr }:=by
  intro h c₁ tk hst hk hS₁
  refine codeAny_extend_loopS W.toS (by rw [C.size];exact fits_of_scanBound C.few) S hSf res es.size 0 _ #[] c₁ rfl (Nat.zero_le _) hst hS₁ (ItemsOf.nil _) fun s' acc' c' hm hS' hacc=>?_
  rw [Moved.eq_with hm]
  refine hR s'.heap s'.toks dr acc' c' (fun b o hb e=>hm.heap b o (fun hmem=>?_) (hk b o hb e)) hS' (by rw [zgk hl hacc];exact hvs)
  rcases List.mem_cons.mp hmem with e' | hmem
  ·exact hb e'
  ·exact absurd (Heap.lt_size e) (by rw [List.mem_singleton.mp hmem];exact Nat.not_lt.mpr hI)
 have hS₁:=hk S _ hS
 refine wpAny_bind (wpAny_holding (znH ⟨_,hk D _ C.at_,rfl⟩ ?_))
 refine wpAny_ite_split (fun _=>?_) (fun _=>wpAny_pure ⟨plainId_quiet PySem.F.plain_extend_loop _,key _ c₀ _ st (fun b o _ e=>hk b o e) hS₁⟩)
 refine wpAny_bind (wpAny_rule ?_)
 refine wpAny_bind ?_
 show wpAny _ _ (updateSeq S (·.push .none) >>= fun _=>updateSeq S (·.pop)) _ _ _
 refine wpAny_bind (wpAny_updateSeq hS₁ rfl ?_)
 have hS₂:=Heap.get?_update_self (Obj.mapSeq (·.push Value.none)) hS₁ rfl
 refine wpAny_updateSeq (hz:=by seq_fits) hS₂ rfl ?_
 have hS₃:=Heap.get?_update_self (Obj.mapSeq (·.pop)) hS₂ rfl
 have oth:∀ b,b≠S→∀ o,h₁.get? b=some o→((h₁.update S (Obj.mapSeq (·.push Value.none))).update S (Obj.mapSeq (·.pop))).get? b=some o:=fun b hb o e=>
  (Heap.get?_update_other _ _ (Ne.symm hb)).trans ((Heap.get?_update_other _ _ (Ne.symm hb)).trans e)
 exact wpAny_pure ⟨plainId_quiet PySem.F.plain_extend_loop _,key _ _ _ (W.frame 0 _ _ st fun b hb o e=>oth b (fun h=>hSf (h▸hb)) o e) (fun b o hb e=>oth b hb o (hk b o e)) hS₃⟩
theorem zf8{R:List Value→Shared→Prop}(hh:A.handled=none)(C:SetAt prog w s.heap D ks es ep t)
  (h:∀(h':Heap)(tk:Nat)(dr:Drawn)(acc:Array Value),(∀ b o,s.heap.get? b=some o→h'.get? b=some o)→acc.toList.Perm (es.toList.map (·.2))→R acc.toList { s with heap:=h',toks:=tk,drawn:=dr }) :
  wpAny (model prog w) A (collect (.ref D)) R E s:=by
 have hDl:=Heap.lt_size C.at_
 unfold collect
 refine wpAny_bind (wpAny_runValue (codeAny_builtin entry_proto_collect' ?_))
 rw [Around.under_plainId PySem.F.plain_proto_collect _]
 show wpAny _ A.in1 (newList [] >>= fun l=>again (.builtin "list.__iadd__" ⟨[l,.ref D],[]⟩)) _ _ s
 refine wpAny_bind (wpAny_newObj_type ?_)
 refine wpAny_pure ⟨plainId_quiet PySem.F.plain_list_iadd _,codeAny_builtin entry_list_iadd' ?_⟩
 rw [Around.under_plainId PySem.F.plain_list_iadd _]
 have hS₁:(s.heap.push { cls:=.type "list",data:=.seq ([]:List Value).toArray }).get? s.heap.objs.size=some { cls:=.type "list",data:=.seq #[] }:=Heap.get?_push_size _ rfl
 show wpAny _ A.in1 (Builtin.List.listExtendWith (.ref s.heap.objs.size) (.ref D) (.ref s.heap.objs.size)) _ _ _
 have key:=zgY (A:=A) (s:={ s with heap:=s.heap.push { cls:=.type "list",data:=.seq ([]:List Value).toArray } })
  (R:=fun(q:Result)(s':Shared)=>∃(h':Heap)(tk:Nat)(dr:Drawn)(acc':Array Value)(c':Nat),q=.ok (.ret (.ref s.heap.objs.size))∧s'={ s with heap:=h',toks:=tk,drawn:=dr }∧
   (∀ b o,s.heap.get? b=some o→h'.get? b=some o)∧h'.get? s.heap.objs.size=some { cls:=.type "list",dict:=none,data:=.seq acc' c',slots:=#[] }∧acc'.toList.Perm (es.toList.map (·.2)))
  hh (C.at' fun o e=>Heap.get?_push_of_some _ e) s.heap.objs.size (Nat.ne_of_gt hDl) (.ref s.heap.objs.size) 0 hS₁
  (fun h' tk dr acc' c' hk hS' hacc=>⟨h',tk,dr,acc',c',rfl,rfl,fun b o e=>hk b o (Nat.ne_of_lt (Heap.lt_size e)) (Heap.get?_push_of_some _ e),hS',hacc⟩)
 refine wpAny_mono key (fun fin s' x=>?_) fun e s' x=>?_
 ·cases fin with
  | done f=>
   obtain ⟨h',tk,dr,acc',c',e,rfl,hk,hS',hacc⟩:=x
   cases e
   show wpAny _ A (load s.heap.objs.size >>= _) _ _ _
   refine wpAny_bind (wpAny_load hS' ?_)
   exact wpAny_pure (h h' tk dr acc' hk hacc)
  | again c₁=>
   refine ⟨x.1,codeAny_mono x.2 fun q s₂ y=>?_⟩
   obtain ⟨h',tk,dr,acc',c',rfl,rfl,hk,hS',hacc⟩:=y
   show wpAny _ A (load s.heap.objs.size >>= _) _ _ _
   refine wpAny_bind (wpAny_load hS' ?_)
   exact wpAny_pure (h h' tk dr acc' hk hacc)
 ·obtain ⟨_,_,_,_,_,e',_⟩:=x
  cases e'
theorem ziV(hel:ElemsOf (PySem.strKind prog w) es.toList):∀ l:List (Int×Value),(∀ e∈l,e∈es.toList)→StrsAre (l.map (·.2)) (l.map fun e=>keyV e.2)
 | [],_=>.nil
 | e::l,h=>by
  obtain ⟨⟨k,hk,_⟩,_⟩:=hel e (h e (.head _))
  obtain ⟨t,ht⟩:=zk2 hk
  rw [List.map_cons,List.map_cons,ht]
  exact .cons k t (ziV hel l fun e he=>h e (.tail _ he))
theorem zk1:∀{vs us:List Value}{l:List Str},us.Perm vs→StrsAre vs l→∃ l',l'.Perm l∧StrsAre us l':=by
 intro vs us l p
 induction p generalizing l with
 | nil=>intro h;exact ⟨l,.rfl,h⟩
 | cons x p ih=>
  intro h
  cases h with
  | cons s t h=>obtain ⟨l',p',h'⟩:=ih h;exact ⟨s::l',p'.cons s,.cons s t h'⟩
 | swap x y r=>
  intro h
  cases h with
  | cons s t h=>cases h with
   | cons s' t' h=>exact ⟨_,.swap _ _ _,.cons s' t' (.cons s t h)⟩
 | trans p q ih1 ih2=>intro h;obtain ⟨l1,p1,h1⟩:=ih2 h;obtain ⟨l2,p2,h2⟩:=ih1 h1;exact ⟨l2,p2.trans p1,h2⟩
theorem zgX{Q:Value→Shared→Prop}(hh:A.handled=none)(C:SetAt prog w s.heap D ks es ep t)(h64:ks.length<64)
  (hQ:∀ L h' n tk dr (vs:List Value),StrsAre vs (zal ks)→s.heap.get? L=none→(∀ b o,s.heap.get? b=some o→h'.get? b=some o)→h'.get? L=some { cls:=.type "list",data:=.seq vs.toArray n }→Q (.ref L) { s with heap:=h',toks:=tk,drawn:=dr }) :
  wpAny (model prog w) A (call (.builtin "sorted") [.ref D]) Q E s:=by
 refine Calls.call_function_entry kind_sorted plain_sorted entry_sorted (args_sorted1 _) ?_
 unfold Builtin.«sorted»
 refine wpAny_bind (m:=checkCount "sorted" 1 1 _) (wpAny_pure ?_)
 refine wpAny_bind (zf8 (A:=A.in1) hh C fun h₁ tk dr acc hk hacc=>?_)
 obtain ⟨l,hlp,hS⟩:=zk1 hacc (ziV C.els es.toList fun _ h=>h)
 have hlk:l.Perm ks:=hlp.trans C.mem
 have hl:acc.toList.length<64:=by rw [StrsAre.length hS,hlk.length_eq];exact h64
 refine wpAny_bind (wpAny_newList ?_ (Nat.le_trans (Nat.le_of_lt hl) (by decide)))
 have hoL:(h₁.push (seqObj "list" acc.toList.toArray 0)).get? h₁.objs.size=some (seqObj "list" acc.toList.toArray 0):=Heap.get?_push_size _ rfl
 refine wpAny_bind (wpAny_holding (wpAny_call_entry slot_list_sort ⟨_,hoL,rfl⟩ entry_list_sort (list_sort_treeK strKind_oneLt hoL hS.keysOf (fun v₁ v₂ rest e=>keyKind_strs (by rw [← e];exact hS)) hl fun st' a1 a2=>⟨_,rfl,?_⟩) (args_list_sort _)))
 obtain ⟨ss',b1,b2,b3⟩:=sorted_out_str hS a1 a2
 obtain ⟨e,he⟩:=zc8 (vs:=acc.toList) (out:=(arrOf st').map (·.2)) hoL
 refine wpAny_pure ⟨_,rfl,?_⟩
 refine hQ h₁.objs.size _ e tk dr ((arrOf st').map (·.2)).toList (by rw [← zeM (b2.trans hlk) b3];exact b1) (zaZ (fun b o e=>⟨o,hk b o e⟩) (zay h₁)) (fun b o eb=>zcQ (Nat.ne_of_lt (Heap.lt_size (hk b o eb))) (Heap.get?_push_of_some _ (hk b o eb))) ?_
 rw [Array.toArray_toList];exact he
end
end Mine
namespace Mine
open PySem PySem.SeqAt PyProof.Rows PySem.W
section
variable {prog:Program} {w:World} {hB:Heap} {A:Around} {s:Shared} {ι:Ad} {σ:zab} {env:Env} {ρ:Loc} {fl:List Env} {sc:Scope} {E:Expr→M PV} {K:Frag}
theorem zl3{md:Md}{d:Nat}(H:Ar md d fl A)(h:md.lp=true):A.handled=none:=H.quiet (.inr h)
noncomputable def znS:Bi→Value
 | .len=>.builtin "len" | .all=>.builtin "all" | .any=>.builtin "any" | .sum=>.builtin "sum" | .list=>.type "list" | .tuple=>.type "tuple" | .int=>.type "int" | .min=>.builtin "min" | .dict=>.type "dict"
 | .sorted=>.builtin "sorted"
theorem zmQ:∀ e∈biTab,bis.lookup e.1=some (znS e.2):=by decide +kernel
theorem zkC(b:Bi):(∃ i,znS b=.builtin i)∨∃ i,znS b=.type i:=by
 cases b <;> first | exact .inl ⟨_,rfl⟩ | exact .inr ⟨_,rfl⟩
theorem zij{d:Nat}{cx:Cx}{p:Pos}{b:Bi}{vs:List PV}{xs:List Value}(H:Ar cx.md d fl A)(S:StoreOk prog w hB s.heap ι σ)(B:hB.StaysIn s.heap)(r:RepL s.heap ι σ vs xs) :
  SimV prog w hB A (call (znS b) xs) (zgN cx p b vs) s ι σ:=by
 have lp:∀{t:Sem Value}{m:M PV},(A.handled=none→SimV prog w hB A t m s ι σ)→SimV prog w hB A t (M.cond cx.md.lp m M.fail) s ι σ:=fun h=>Sim.cond (fun q=>h (zl3 H q)) fun _=>Sim.fail
 cases b with
 | len=>exact Sim.arg1 (t:=fun l=>call (.builtin "len") l) r fun v x r=>zoJ S B r
 | all=>exact Sim.arg1 (t:=fun l=>call (.builtin "all") l) r fun v x r=>lp fun hh=>(zlu S B hh r).1
 | any=>exact Sim.arg1 (t:=fun l=>call (.builtin "any") l) r fun v x r=>lp fun hh=>(zlu S B hh r).2
 | sum=>exact Sim.arg1 (t:=fun l=>call (.builtin "sum") l) r fun v x r=>lp fun hh=>zoH S B hh r
 | list=>exact Sim.arg1 (t:=fun l=>call (.type "list") l) r fun v x r=>zlj (zl3 H) S B r
 | tuple=>exact Sim.arg1 (t:=fun l=>call (.type "tuple") l) r fun v x r=>zle S B r
 | int=>
  refine Sim.arg1 (t:=fun l=>call (.type "int") l) r fun v x r=>?_
  cases v with
  | bool b=>cases r.inv;exact Sim.val S B rfl fun Q E h=>call_int_bool (h _ _ (.int _ _))
  | _=>exact Sim.fail
 | min=>
  refine Sim.arg2 (t:=fun l=>call (.builtin "min") l) r fun v x v' x' ra rb=>Sim.onInt (t:=fun x=>call (.builtin "min") [x,x']) ra fun a t=>Sim.onInt (t:=fun x=>call (.builtin "min") [.int a t,x]) rb fun b u=>lp fun hh=>?_
  intro Q E hns hok _
  refine min_two_ints hh fun h' tk hk=>?_
  exact hok _ σ rfl (if b<a then .int b u else .int a t) h' tk _ ι (Step.keeps S B hk) (by split <;> exact .int _ _)
 | sorted=>exact Sim.arg1 (t:=fun l=>call (.builtin "sorted") l) r fun v x r=>lp fun hh=>zjU S B hh r
 | dict=>exact Sim.arg1 (t:=fun l=>call (.type "dict") l) r fun v x r=>zlp S B r
end
section
variable {prog:Program} {w:World} {hB:Heap} {A:Around} {s:Shared} {ι:Ad} {σ:zab} {env:Env} {ρ:Loc} {fl:List Env} {sc:Scope} {E:Expr→M PV} {K:Frag}
noncomputable def mtId:Mt→String
 | .append=>"list.append" | .join=>"str.join"
 | .get=>"dict.get"
 | .dclear=>"dict.clear"
noncomputable def zje:Mt→Str
 | .append=>"append" | .join=>"join"
 | .get=>"get"
 | .dclear=>"clear"
noncomputable def mtTn:Mt→Tn
 | .join=>.str
 | .get=>.dict
 | .dclear=>.dict
 | _=>.list
theorem znl(k:Mt):PlainAttrs (zia (mtTn k))∧Slot (zia (mtTn k)) (zje k) (mtId k)∧typeOf (.builtin (mtId k))=pure (.type "method_descriptor"):=by
 cases k with
 | append=>exact ⟨F.plainAttrs_list,F.slot_list_append,F.type_list_append⟩
 | join=>exact ⟨F.plainAttrs_str,F.slot_str_join,F.type_str_join⟩
 | get=>exact ⟨F.plainAttrs_dict,F.slot_dict_get,F.type_dict_get⟩
 | dclear=>exact ⟨F.plainAttrs_dict,F.slot_dict_clear,F.type_dict_clear⟩
theorem zqp{T:Tn}{m:Str}{k:Mt}(h:mtOf T m=some k):T=mtTn k∧m=zje k:=by
 have go:∀ T,(∀ e∈znm T,T=mtTn e.2∧e.1=zje e.2):=fun T=>by cases T <;> decide +kernel
 exact go T _ (zdn h)
theorem zkW{v:PV}{x:Value}{T:Tn}{σ':zab}(S:StoreOk prog w hB s.heap ι σ)(r:Rep s.heap ι σ v x)(h:tnOf v σ=.ok T σ'):σ'=σ∧((znm T).isEmpty=false→s.TypeIs x (zia T)∧∀ a,x=.ref a→∃ ob,s.heap.get? a=some ob∧ob.dict=none):=by
 cases v with
 | str y=>obtain ⟨t,rfl⟩:=r.inv;cases h;exact ⟨rfl,fun _=>⟨typeIs_str _ _ _,fun a q=>nomatch q⟩⟩
 | lst xs=>obtain ⟨l,vs,n,rfl,e,_⟩:=r.inv;cases h;exact ⟨rfl,fun _=>⟨⟨_,e,rfl⟩,fun a q=>by cases q;exact ⟨_,e,rfl⟩⟩⟩
 | ref i=>
  obtain ⟨a,rfl,hi⟩:=r.inv
  cases hc:cget i σ with
  | stuck=>rw [show tnOf (.ref i) σ=_ from zae hc] at h;cases h
  | err=>exact (zcH hc).elim
  | ok c σ₁=>
   obtain ⟨rfl,hc'⟩:=ziM hc
   rw [show tnOf (.ref i) σ₁=_ from zaa hc] at h
   cases c with
   | list xs=>
    cases h
    obtain ⟨vs,⟨n,hp⟩,_⟩:=S.ok _ _ _ hi hc'
    exact ⟨rfl,fun _=>⟨⟨_,hp,rfl⟩,fun a q=>by cases q;exact ⟨_,hp,rfl⟩⟩⟩
   | dict kvs=>
    cases h
    obtain ⟨ys,hd,_⟩:=S.ok _ _ _ hi hc'
    exact ⟨rfl,fun _=>⟨hd.typeIs,fun a q=>by cases q;obtain ⟨o,es,ep,ho,hdd,_⟩:=hd;exact ⟨_,ho,hdd.2.1⟩⟩⟩
   | dead=>cases h
 | exc=>cases h
 | none=>cases h;exact ⟨rfl,fun q=>nomatch q⟩
 | bool=>cases h;exact ⟨rfl,fun q=>nomatch q⟩
 | int=>cases h;exact ⟨rfl,fun q=>nomatch q⟩
 | tup=>cases h;exact ⟨rfl,fun q=>nomatch q⟩
theorem mt_T(k:Mt):(znm (mtTn k)).isEmpty=false:=by cases k <;> rfl
theorem zi4{i:Nat}{a:Addr}{xs ys:List PV}{us:Array Value}{m:Nat}{h':Heap}(S:StoreOk prog w hB s.heap ι σ)(B:hB.StaysIn s.heap)(hi:ι.vis[i]?=some a)(hc:σ[i]?=some (.list xs))(hs:Heap.SameBut a s.heap h')
  (hp:h'.get? a=some { cls:=.type "list",data:=.seq us m }) (r:RepL s.heap ι σ ys us.toList):Step prog w hB s.heap ι σ h' ι (σ.set i (.list ys)):=by
 have B':=zc7 B (S.base a (List.mem_of_getElem? hi)) hs
 have X:=ziF (c:=.list ys) hi hc (by intro q;cases q) hs ⟨_,hp⟩
 exact Step.set S B' hi hc (by intro q;cases q) hs ⟨us,⟨m,hp⟩,r.evo S.len X (NoSeq.nil _)⟩ ⟨_,hp⟩
theorem zo5{n:Nat}(h:n<2 ^ 20):n<sizeLine:=Nat.lt_of_lt_of_le h (by decide)
theorem zj5{i:Nat}{a:Addr}{v:PV}{y:Value}(S:StoreOk prog w hB s.heap ι σ)(B:hB.StaysIn s.heap)(hi:ι.vis[i]?=some a)(r:Rep s.heap ι σ v y) :
  SimV prog w hB A (call (.builtin "list.append") [.ref a,y]) ((lget i).bind fun xs=>M.cond (decide (xs.length<2 ^ 20)) ((cset i (.list (xs++[v]))).bind fun _=>M.ret .none) M.fail) s ι σ:=by
 refine Sim.lget S hi fun ys us n hc hp rl=>Sim.cond (fun hn=>?_) fun _=>Sim.fail
 intro Q Er hns hok _
 refine wpAny_list_append_plain ⟨n,hp⟩ (fun h' ⟨m,hp'⟩ hs=>?_) (Nat.le_of_lt (Nat.lt_of_le_of_lt (Nat.le_of_eq rl.length.symm) (zo5 (of_decide_eq_true hn))))
 refine hok .none (σ.set i (.list (ys++[v]))) rfl _ h' s.toks _ ι (zi4 S B hi hc hs hp' ?_) .none
 rw [Array.toList_push];exact rl.append (.cons r .nil)
theorem zm6{z:Str}{t:Tok}{l:Addr}{us:Array Value}{n:Nat}{ys:List PV}(S:StoreOk prog w hB s.heap ι σ)(B:hB.StaysIn s.heap)(e:ziS s.heap ι σ l us n)(rl:RepL s.heap ι σ ys us.toList) :
  SimV prog w hB A (call (.builtin "str.join") [.str z t,.ref l]) ((M.lift (zbt ys)).bind fun ss=>M.cond (decide ((ss.map (·.length)).sum+ss.length*z.length≤16777216)) (M.ret (.str (Str.join z ss))) M.fail) s ι σ:=by
 refine Sim.lift fun ss hb=>Sim.cond (fun hn=>?_) fun _=>Sim.fail
 refine Sim.val S B rfl fun Q E hq=>?_
 have hj:∀ t' k,Q (.str (Txt.join z ss) t') { s with toks:=k }:=fun t' k=>by
  show Q (.str (Builtin.Str.glued z ss) t') _
  rw [StrLaws.glued_eq_join];exact hq _ k (.str _ _)
 rcases e with e | ⟨e,_⟩
 ·exact join_list ⟨_,e,rfl,_,rfl⟩ (zeL rl hb) (of_decide_eq_true hn) hj
 ·exact join_tuple ⟨_,e,rfl,_,rfl⟩ (zeL rl hb) (of_decide_eq_true hn) hj
theorem zjY{cx:Cx}{p:Pos}{k:Mt}{o:PV}{x:Value}{vs:List PV}{xs:List Value}(hu:A.units+600<cLine)(S:StoreOk prog w hB s.heap ι σ)(B:hB.StaysIn s.heap)(r:Rep s.heap ι σ o x)(rs:RepL s.heap ι σ vs xs) :
  SimV prog w hB A (call (.builtin (mtId k)) (x::xs)) (zdl cx p k o vs) s ι σ:=by
 cases k with
 | get=>exact zm8 S B r rs
 | dclear=>exact zj2 S B r rs
 | append=>exact Sim.onRef (t:=fun x=>call (.builtin "list.append") (x::xs)) r fun i a hi=>Sim.arg1 (t:=fun xs=>call (.builtin "list.append") (.ref a::xs)) rs fun v y rv=>zj5 S B hi rv
 | join=>exact Sim.onStr (t:=fun x=>call (.builtin "str.join") (x::xs)) r fun z t=>Sim.arg1 (t:=fun xs=>call (.builtin "str.join") (.str z t::xs)) rs fun v y rv=>Sim.items (t:=fun y=>call (.builtin "str.join") [.str z t,y]) S rv fun ys l us n e rl=>zm6 S B e rl
end
section
variable {prog:Program} {w:World} {hB:Heap} {A:Around} {s:Shared} {ι:Ad} {σ:zab} {env:Env} {ρ:Loc} {fl:List Env} {sc:Scope} {E:Expr→M PV} {K:Frag}
theorem zdd(pos:Pos):∀{es:List Expr},zau es=true→(backTo pos (starEach es env)).all (fun x=>!x.1)=true
 | [],_=>rfl
 | e::r,h=>by
  obtain ⟨h1,h2⟩:=zaL h
  rw [zaF e r h2]
  show (true&&(backTo pos (starEach r env)).all (fun x=>!x.1))=true
  rw [zdd pos h1];rfl
theorem zlh{cx:Cx}{o:Expr}{m:Str}{ap p:Pos}{args:List Expr}(hu:A.units+600<cLine)(IH:EvIH prog w hB A env ρ fl E)(hst:∀ e p,E (.Starred e p)=M.fail)(I:Inv prog w hB env ρ fl s.heap ι σ) :
  SimV prog w hB A (eval (.Call (.Attribute o m ap) args [] p) env) (M.cond (zlX o ap p args) ((E o).bind fun ov=>(tnOf ov).bind fun T=>(M.lift (mtOf T m)).bind fun k=>(evs E args).bind fun vs=>zdl cx p k ov vs) M.fail) s ι σ:=by
 refine Sim.cond (fun hm=>?_) fun _=>Sim.fail
 unfold zlX at hm
 rw [Bool.and_eq_true,Bool.and_eq_true] at hm
 obtain ⟨⟨hline,hp⟩,ho⟩:=hm
 have hbase:attributeBase o m env (eval o env)=eval o env:=by
  cases o with
  | _=>first | rfl | cases ho
 intro Q Er hns hok herr
 refine wpAny_Call_method_lateS hbase ?_ (beq_iff_eq.mpr (of_decide_eq_true hline)) ?_
 ·rw [zdd p hp,Bool.true_and]
  have:=of_decide_eq_true (Bool.and_eq_true_iff.mp hp).1
  exact decide_eq_true (Nat.lt_of_le_of_lt this (by decide))
 ·have hne:E o σ≠.stuck:=fun q=>hns (zae q)
  refine IH o s ι σ I _ _ hne (fun ov σ₁ e₁ x h₁ tk₁ dr₁ ι₁ X₁ r₁=>?_) (fun C σ₁ e₁ e h₁ tk₁ dr₁ ι₁ X₁ F₁=>herr C σ₁ (zaq e₁) e h₁ tk₁ dr₁ ι₁ X₁ F₁)
  have I₁:=I.step X₁
  cases hT:tnOf ov σ₁ with
  | stuck=>exact (hns ((zaa e₁).trans (zae hT))).elim
  | err C σ₂=>exact (noErr_tnOf hT).elim
  | ok T σ₂=>
   obtain ⟨rfl,hty⟩:=zkW (s:={ s with heap:=h₁,toks:=tk₁,drawn:=dr₁ }) I₁.store r₁ hT
   cases hk:mtOf T m with
   | none=>exact (hns ((zaa e₁).trans ((zaa hT).trans (by rw [hk];rfl)))).elim
   | some k=>
    obtain ⟨rfl,rfl⟩:=zqp hk
    obtain ⟨pa,sl,ty⟩:=znl k
    obtain ⟨t1,t2⟩:=hty (mt_T k)
    refine ⟨_,_,pa,sl,ty,t1,t2,Calls.callWith_builtin (zaH p hp) ?_⟩
    have eq:((E o).bind fun ov=>(tnOf ov).bind fun T=>(M.lift (mtOf T (zje k))).bind fun k=>(evs E args).bind fun vs=>zdl cx p k ov vs) σ=((evs E args).bind fun vs=>zdl cx p k ov vs) σ₂:=(zaa e₁).trans ((zaa hT).trans (by rw [hk];rfl))
    refine Sim.nest (R':=Rep) (s:={ s with heap:=h₁,toks:=tk₁,drawn:=dr₁ }) (k:=fun(a:Args)=>call (.builtin (mtId k)) ([x]++a.pos) a.kw) (f:=fun vs=>zdl cx p k ov vs) I₁.store.len (zeu (f:=.builtin (mtId k)) IH hst p hp I₁) (fun vs σ₃ a h₃ tk₃ dr₃ ι₃ e₃ X₃ r₃=>?_) Q Er (eq▸hns) (fun a σ' q y h' tk dr ι' X r=>?_) (fun C σ' q e h' tk dr ι' X F=>?_)
    ·obtain ⟨a,kw⟩:=a
     obtain ⟨r₃,q⟩:=r₃
     cases q
     exact zjY hu X₃.store X₃.stays (r₁.step I₁.store.len X₃) r₃
    ·exact hok a σ' (eq.trans q) y h' tk dr ι' (X₁.trans I.store.len X) r
    ·exact herr C σ' (eq.trans q) e h' tk dr ι' (X₁.trans I.store.len X) (F.older X₁.evo.alive)
where
 noErr_tnOf {ov:PV} {σ σ':zab} {C:Addr} (h:tnOf ov σ=.err C σ'):False:=by
  cases ov with
  | ref i=>
   cases hc:cget i σ with
   | stuck=>rw [show tnOf (.ref i) σ=_ from zae hc] at h;cases h
   | err=>exact zcH hc
   | ok c σ₁=>rw [show tnOf (.ref i) σ=_ from zaa hc] at h;cases c <;> cases h
  | _=>cases h
structure FnOk (hB:Heap) (a:Addr) (f:FnD):Prop where
 fd:∃ o fd,hB.get? a=some o∧o.data=.func fd∧fd.body=.stmts f.body∧fd.scope=f.scope∧fd.closure=[]∧fd.globals=mainGlobals∧fd.builtins=builtinsNs∧hB.CodeRec fd.code fd.qualname∧
  ∀ vals:List Value,f.params.length=vals.length→bindArgs fd ⟨vals,[]⟩=pure (f.params.zip vals)
 gen:f.scope.isGenerator=false
 cor:f.scope.isCoroutine=false
 kind:f.scope.kind=.function
 nodebug:f.scope.names.lookup ("__debug__":Str)=none
 nodup:f.params.Nodup
 nodupN:(f.scope.names.map (·.1)).Nodup
 pars:∀ x∈f.params,f.scope.names.lookup x=some .local∨f.scope.names.lookup x=some .cell
structure GlobOk (hB:Heap) (K:Frag) (G:Gl):Prop where
 g:GOk hB G
 cls:ClsOk K G
 inK:K.In hB
 nolimit:hB.NoLimit
 fnObj:∀ x a,G.names.lookup x=some (.fn a)→∃ o fd,hB.get? a=some o∧o.data=.func fd
 fns:∀ a f,G.fns.lookup a=some f→FnOk hB a f
noncomputable abbrev ziT(prog:Program)(w:World)(hB:Heap)(d:Nat)(call:Md→Addr→List PV→M PV):Prop:=
 ∀(md:Md)(A:Around)(fl:List Env)(a:Addr)(vs:List PV)(xs:List Value)(s:Shared)(ι:Ad)(σ:zab),Ar md d fl A→StoreOk prog w hB s.heap ι σ→hB.StaysIn s.heap→Stk hB fl s.heap ι σ→RepL s.heap ι σ vs xs→
  SimV prog w hB A (PySem.call (.ref a) xs) (call md a vs) s ι σ
theorem zj9{cx:Cx}{f:Str}{a:Addr}(hr:zaY cx sc ρ f=some (.fn a)):cx.G.names.lookup f=some (.fn a):=by
 rcases zb4 hr with ⟨v,q,_⟩ | ⟨_,k,⟨a,q,e⟩ | ⟨a,q,e⟩ | ⟨v,q,e⟩ | ⟨q,e⟩⟩
 ·cases q
 ·cases q;exact e
 ·cases q
 ·cases q
 ·cases q
theorem zoL{cx:Cx}{d:Nat}{f:Str}{fp p:Pos}{args:List Expr}{a:Addr}(hG:GlobOk hB K cx.G)(hA:Ar cx.md d fl A)(hc:ziT prog w hB d cx.call)(H:EnvOk env sc)(IH:EvIH prog w hB A env ρ fl E)(hst:∀ e p,E (.Starred e p)=M.fail)(I:Inv prog w hB env ρ fl s.heap ι σ)
  (hp:zau args=true) (hr:zaY cx sc ρ f=some (.fn a)) :
  SimV prog w hB A (eval (.Call (.Name f fp) args [] p) env) ((evs E args).bind fun vs=>cx.call cx.md a vs) s ι σ:=by
 intro Q Er hns hok herr
 refine Call_Name rfl (za0 hG.g H I.stays hr ⟨_,rfl⟩ _ _ fun v hv=>?_)
 cases hv
 obtain ⟨o,fd,ho,hd⟩:=hG.fnObj f a (zj9 hr)
 refine Calls.callWith_function (o:=o) (fd:=fd) ?_
 have hne:evs E args σ≠.stuck:=fun q=>hns (zae q)
 refine zeu (f:=.ref a) IH hst p hp I _ _ hne (fun vs σ₁ e₁ x h₁ tk₁ dr₁ ι₁ X₁ r₁=>?_) (fun C σ₁ e₁ e h₁ tk₁ dr₁ ι₁ X₁ F₁=>herr C σ₁ (zaq e₁) e h₁ tk₁ dr₁ ι₁ X₁ F₁)
 obtain ⟨x,kw⟩:=x
 obtain ⟨r₁,q⟩:=r₁
 cases q
 have I₁:=I.step X₁
 have eq:((evs E args).bind fun vs=>cx.call cx.md a vs) σ=cx.call cx.md a vs σ₁:=zaa e₁
 refine ⟨⟨I₁.stays _ _ ho,hd⟩,hc cx.md A fl a vs x { s with heap:=h₁,toks:=tk₁,drawn:=dr₁ } ι₁ σ₁ hA I₁.store I₁.stays I₁.stk r₁ Q Er (eq▸hns) (fun b σ₂ e₂ y h₂ tk₂ dr₂ ι₂ X₂ r₂=>?_) (fun C σ₂ e₂ e h₂ tk₂ dr₂ ι₂ X₂ F₂=>?_)⟩
 ·exact hok b σ₂ (eq.trans e₂) y h₂ tk₂ dr₂ ι₂ (X₁.trans I.store.len X₂) r₂
 ·exact herr C σ₂ (eq.trans e₂) e h₂ tk₂ dr₂ ι₂ (X₁.trans I.store.len X₂) (F₂.older X₁.evo.alive)
end
structure Itr (prog:Program) (w:World) (hB:Heap) (A:Around) (t:Expr) (I:Addr) (fp own hd:List Addr) (src:Src) (St:Nat→Heap→Prop) (h₁:Heap) (ι₁:Ad) (σ₁:zab):Prop where
 notLive:∀ b∈fp,¬ zcO ι₁ σ₁ b
 there:∀ i h,St i h→∀ b∈fp,∃ o,h.get? b=some o∧∀ es n,o.data≠.dict es n
 sub:∀ b∈own,b∈fp
 fresh:∀ b∈own,b∉ι₁.vis∧(b∈ι₁.hid→b∈hd)
 hdIn:∀ b∈hd,b∈ι₁.hid
 hdT:∀ i h,St i h→∀ b∈hd,∃ o,h.get? b=some o∧∀ vs,o.data≠.fields vs
 ownOk:∀ i h ι,St i h→(∀ b∈hd,b∈ι.hid)→Off ι own h
 frame:∀ i h h',St i h→(∀ b∈fp,∀ o,h.get? b=some o→h'.get? b=some o)→St i h'
 item:∀(D:List Addr)(i:Nat)(s:Shared)(ι:Ad)(σ:zab)(x:PV),NoSeq D h₁→Evo (own++D) h₁ ι₁ σ₁ s.heap ι σ→StoreOk prog w hB s.heap ι σ→St i s.heap→chkW src.watch σ=.ok () σ→src.xs[i]?=some x→
  ∀(P:Option Value→Shared→Prop)(Q:Value→Shared→Prop)(E:Value→Shared→Prop),(∀ v s₁,wpAny (model prog w) A (letOwnedTupleGo t (.ref I) v) (fun _ s₂=>Q v s₂) E s₁→P (some v) s₁)→
   (∀ v h' tk,Rep h' ι σ x v→St (i+1) h'→(∀ b o,b∉own→s.heap.get? b=some o→h'.get? b=some o)→Q v { s with heap:=h',toks:=tk })→wpAny (model prog w) A (pyNext (.ref I)) P E s
 done:∀(D:List Addr)(s:Shared)(ι:Ad)(σ:zab),NoSeq D h₁→Evo (own++D) h₁ ι₁ σ₁ s.heap ι σ→StoreOk prog w hB s.heap ι σ→St src.xs.length s.heap→chkW src.watch σ=.ok () σ→
  ∀(Q:Option Value→Shared→Prop)(E:Value→Shared→Prop),(∀ h' tk,(∀ b o,b∉own→s.heap.get? b=some o→h'.get? b=some o)→(∀ b∈hd,∃ o,h'.get? b=some o∧∀ vs,o.data≠.fields vs)→Q none { s with heap:=h',toks:=tk })→wpAny (model prog w) A (pyNext (.ref I)) Q E s
 self:∀(i:Nat)(s:Shared)(Q:Value→Shared→Prop)(E:Value→Shared→Prop),St i s.heap→Q (.ref I) s→wpAny (model prog w) A (pyIter (.ref I)) Q E s
section
variable {prog:Program} {w:World} {hB:Heap} {A:Around} {s:Shared} {ι:Ad} {σ:zab} {t:Expr}
noncomputable def ownTs:List String:=["enumerate","zip","dict_itemiterator","dict_reverseitemiterator","odict_iterator","itertools.zip_longest","itertools.pairwise"]
noncomputable def zgU(h:Heap)(I:Addr):Prop:=∃ o T,h.get? I=some o∧o.cls=.type T∧ownTs.contains T=false
theorem zkJ{I:Addr}{v:Value}{Q:Unit→Shared→Prop}{E:Value→Shared→Prop}(hI:zgU s.heap I)(hQ:Q () s):wpAny (model prog w) A (letOwnedTupleGo t (.ref I) v) Q E s:=by
 obtain ⟨o,T,ho,hc,hT⟩:=hI
 obtain ⟨c,d,dt,sl⟩:=o
 have hc:c=.type T:=hc
 subst hc
 have go:∀(a:Addr)(vs:Array Value)(m:Sem Unit),wpAny (model prog w) A (if (ownTs.contains T&&vs[0]?==some (rawInt a))=true then m else Pure.pure ()) Q E s:=fun a vs m=>by
  rw [hT,Bool.false_and,if_neg Bool.false_ne_true];exact wpAny_pure hQ
 have two:∀ ts c p,wpAny (model prog w) A (letOwnedTupleGo (.Tuple ts c p) (.ref I) v) Q E s:=fun ts c p=>by
  cases v with
  | ref a=>
   refine wpAny_bind (wpAny_load ho ?_)
   cases dt with
   | fields vs=>exact go a vs _
   | _=>exact wpAny_pure hQ
  | _=>exact wpAny_pure hQ
 cases t with
 | Tuple ts c p=>exact two ts c p
 | List ts p=>exact two ts 0 p
 | _=>exact wpAny_pure hQ
theorem zgj{h:Heap}{a:Addr}{T:String}{fs:Array Value}(p:∃ o,h.get? a=some o∧o.cls=.type T∧o.data=.fields fs)(hT:ownTs.contains T=false):zgU h a:=by
 obtain ⟨o,ho,hc,_⟩:=p;exact ⟨o,T,ho,hc,hT⟩
theorem Evo.but{own:List Addr}{h h':Heap}(hk:∀ b o,b∉own→h.get? b=some o→h'.get? b=some o)(ht:∀ b∈own,∃ o,h'.get? b=some o):Evo own h ι σ h' ι σ where
 pre:=fun _ _ e=>e
 fresh:=fun i a e e'=>by rw [e] at e';cases e'
 dead:=fun _ e=>e
 alive:=fun b o e=>by
  by_cases hb:b∈own
  ·exact ht b hb
  ·exact ⟨o,hk b o hb e⟩
 keep:=fun b o e _ hb=>⟨⟨o.slots,hk b o hb e⟩,fun _=>hk b o hb e⟩
 hid:=fun _ h=>h
 hfresh:=fun _ h=>.inl h
theorem NoSeq.append{D E:List Addr}{h:Heap}(a:NoSeq D h)(b:NoSeq E h):NoSeq (D++E) h:=fun c hc=>by
 rcases List.mem_append.mp hc with hc | hc
 ·exact a c hc
 ·exact b c hc
theorem zfT{h:Heap}(S:StoreOk prog w hB h ι σ):∀ b∈[h.objs.size],b∉ι.vis∧b∉ι.hid:=fun b hb=>by
 rw [List.mem_singleton.mp hb]
 exact ⟨fun q=>by obtain ⟨o,ho⟩:=S.there _ q;exact absurd (Heap.lt_size ho) (Nat.lt_irrefl _),fun q=>by obtain ⟨o,ho,_⟩:=S.hthere _ q;exact absurd (Heap.lt_size ho) (Nat.lt_irrefl _)⟩
theorem zeU{h:Heap}{a:Addr}{o:Obj}{T:String}(ho:h.get? a=some o)(hc:o.cls=.type T)(hd:∀ vs n,o.data≠.seq vs n):NoSeq [a] h:=by
 intro b hb o' ho'
 rw [List.mem_singleton.mp hb,ho] at ho'
 cases ho'
 exact ⟨hd,.inr fun C q=>(by rw [hc] at q;cases q)⟩
theorem Itr.ofWalks{I:Addr}{fp own:List Addr}{n:Nat}{P:Nat→Value→Prop}{St:Nat→Heap→Prop}{xs:List PV}{h₁:Heap}{ι₁:Ad}{σ₁:zab}(W:Walks prog w A I fp own n P St)(hn:n=xs.length)(hl:ι₁.vis.length=σ₁.length)
  (hnl:∀ b∈fp,¬ Live ι₁ σ₁ b) (ht:∀ i h,St i h→∀ b∈fp,∃ o,h.get? b=some o∧∀ es n,o.data≠.dict es n) (ho:∀ i h,St i h→NoSeq own h) (h0:St 0 h₁) (hfr:∀ b∈own,b∉ι₁.vis∧b∉ι₁.hid) (hgo:∀ i h,St i h→zgU h I) (hP:∀ i v x,P i v→xs[i]?=some x→Rep h₁ ι₁ σ₁ x v) :
  Itr prog w hB A t I fp own [] ⟨xs,[]⟩ St h₁ ι₁ σ₁ where
 notLive:=fun b hb=>zaT (hnl b hb)
 there:=ht
 sub:=W.sub
 fresh:=fun b hb=>⟨(hfr b hb).1,fun q=>((hfr b hb).2 q).elim⟩
 hdIn:=fun _ hb=>nomatch hb
 hdT:=fun _ _ _ _ hb=>nomatch hb
 ownOk:=fun i h _ st _=>(ho i h st).off
 frame:=W.frame
 item:=fun D i s ι σ x hD X S st _ hx P Q E hp h=>by
  refine W.item i s P E (by rw [hn];exact (List.getElem?_eq_some_iff.mp hx).1) st fun v h' tk hv st' hk=>hp v _ (zkJ (hgo _ _ st') (h v h' tk ?_ st' hk))
  have Y:Evo own s.heap ι σ h' ι σ:=Evo.but hk fun b hb=>by obtain ⟨o,ho,_⟩:=ht _ _ st' b (W.sub b hb);exact ⟨o,ho⟩
  exact (hP i v x hv hx).evo hl (X.trans hl Y fun b hb o e=>List.mem_append_left _ hb) ((ho 0 _ h0).append hD)
 done:=fun D s ι σ hD X S st _ Q E h=>W.done s Q E (by rw [hn];exact st) fun h' tk hk=>h h' tk hk fun _ hb=>nomatch hb
 self:=W.self
theorem zgM{i:Nat}{xs:List PV}{σ':zab}(h:chkW [(i,xs)] σ=.ok () σ'):σ[i]?=some (.list xs):=by
 unfold chkW at h
 by_cases q:σ[i]?=some (.list xs)
 ·exact q
 ·rw [if_neg q] at h;cases h
theorem Itr.live{I l:Addr}{j:Nat}{xs:List PV}{h₁:Heap}{ι₁:Ad}{σ₁:zab}(hh:A.handled=none)(hj:ι₁.vis[j]?=some l)(hne:I≠l)(hnl:¬ Live ι₁ σ₁ I)(hit:h₁.IsListIter I l 0)(hfr:∀ b∈[I],b∉ι₁.vis∧b∉ι₁.hid) :
  Itr prog w hB A t I [I] [I] [] ⟨xs,[(j,xs)]⟩ (fun i h=>h.IsListIter I l i) h₁ ι₁ σ₁ where
 notLive:=fun b hb=>by rw [List.mem_singleton.mp hb];exact zaT hnl
 there:=fun i h st b hb=>by
  rw [List.mem_singleton.mp hb]
  obtain ⟨o,ho,_,hd⟩:=st
  exact ⟨o,ho,fun es n q=>by rw [hd] at q;cases q⟩
 sub:=fun _ hb=>hb
 fresh:=fun b hb=>⟨(hfr b hb).1,fun q=>((hfr b hb).2 q).elim⟩
 hdIn:=fun _ hb=>nomatch hb
 hdT:=fun _ _ _ _ hb=>nomatch hb
 ownOk:=fun i h _ st _=>by
  obtain ⟨o',ho',hc,hd⟩:=st
  exact (zeU ho' hc fun vs n q=>by rw [hd] at q;cases q).off
 frame:=fun i h h' st hk=>by obtain ⟨o,ho,r⟩:=st;exact ⟨o,hk I (.head _) o ho,r⟩
 item:=fun D i s ι σ x hD X S st hc hx P Q E hP h=>by
  have hcel:=zgM hc
  have hl:ι.vis[j]?=some l:=X.pre _ _ hj
  obtain ⟨vs,⟨n,hp⟩,rl⟩:=S.ok _ _ _ hl hcel
  obtain ⟨v,hv,r⟩:=rl.get hx
  refine wpAny_pyNext_list_item st ⟨_,hp,rfl,n,rfl⟩ (x:=v) (by rw [← Array.getElem?_toList];exact hv) fun h' hit' hs=>hP v _ (zkJ (zgj hit' (by decide +kernel)) (h v h' s.toks ?_ hit' fun b o hb e=>(hs.2 b (fun q=>hb (by rw [q];exact .head _))).trans e))
  have Y:Evo [I] s.heap ι σ h' ι σ:=Evo.but (fun b o hb e=>(hs.2 b (fun q=>hb (by rw [q];exact .head _))).trans e) fun b hb=>by rw [List.mem_singleton.mp hb];obtain ⟨o,ho,_⟩:=hit';exact ⟨o,ho⟩
  refine r.evo S.len Y fun b hb o ho=>?_
  rw [List.mem_singleton.mp hb] at ho
  obtain ⟨o',ho',hc',hd'⟩:=st
  rw [ho] at ho';cases ho'
  exact ⟨fun vs n q=>(by rw [hd'] at q;cases q),.inr fun C q=>(by rw [hc'] at q;cases q)⟩
 done:=fun D s ι σ hD X S st hc Q E h=>by
  have hcel:=zgM hc
  have hl:ι.vis[j]?=some l:=X.pre _ _ hj
  obtain ⟨vs,⟨n,hp⟩,rl⟩:=S.ok _ _ _ hl hcel
  refine wpAny_pyNext_list_end hh st ⟨_,hp,rfl,n,rfl⟩ ?_ fun h' he=>h h' s.toks (fun b o hb e=>he b o (fun q=>hb (by rw [q];exact .head _)) e) fun _ hb=>nomatch hb
  rw [← Array.getElem?_toList]
  exact List.getElem?_eq_none (by rw [rl.length];exact Nat.le_refl _)
 self:=fun _ _ _ _ st hq=>wpAny_pyIter_listiter st hq
theorem zmI(x:List Nat)(i:Nat):(zd3 x)[i]?=(x[i]?).map fun c=>PV.str ⟨#[c]⟩:=by
 induction x generalizing i with
 | nil=>simp [zd3]
 | cons c r ih=>cases i with
  | zero=>simp [zd3]
  | succ i=>simp [zd3,ih]
theorem zmH(x:List Nat):(zd3 x).length=x.length:=by
 induction x with
 | nil=>rfl
 | cons c r ih=>simp [zd3,ih]
theorem zjL(a:Int)(n i:Nat)(h:i<n):(zbp a n)[i]?=some (PV.int (a+i)):=by
 induction n generalizing a i with
 | zero=>lia
 | succ n ih=>cases i with
  | zero=>simp [zbp]
  | succ i=>simp only [zbp,List.getElem?_cons_succ];rw [ih (a+1) i (by lia)];congr 2;push_cast;lia
theorem zfA(a:Int)(n:Nat):(zbp a n).length=n:=by
 induction n generalizing a with
 | zero=>rfl
 | succ n ih=>simp [zbp,ih]
noncomputable def Made(prog:Program)(w:World)(hB:Heap)(A:Around)(t:Expr)(D:List Addr)(h₀:Heap)(src:Src)(h₁:Heap)(ι₁:Ad)(σ₁:zab)(it:Value):Prop:=
 ∃ I fp own hd St,it=.ref I∧Itr prog w hB A t I fp own hd src St h₁ ι₁ σ₁∧St 0 h₁∧(∀ b∈own,h₀.get? b=none)∧∀ b∈D,b∉fp
theorem zey{D:List Addr}{o₁:Obj}{n:Nat}{P:Nat→Value→Prop}{St:Nat→Heap→Prop}{xs:List PV}{fp:List Addr}(hDt:∀ b∈D,∃ o,s.heap.get? b=some o)(S:StoreOk prog w hB s.heap ι σ)
  (W:Walks prog w A s.heap.objs.size (s.heap.objs.size::fp) [s.heap.objs.size] n P St) (hn:n=xs.length) (hfp:∀ b∈fp,¬ Live ι σ b∧b∉D) (ht:∀ i h,St i h→∀ b∈s.heap.objs.size::fp,∃ o,h.get? b=some o∧∀ es n,o.data≠.dict es n)
  (ho:∀ i h,St i h→NoSeq [s.heap.objs.size] h) (hgo:∀ i h,St i h→zgU h s.heap.objs.size) (h0:St 0 (s.heap.push o₁)) (hP:∀ i v x,P i v→xs[i]?=some x→Rep s.heap ι σ x v):Made prog w hB A t D s.heap ⟨xs,[]⟩ (s.heap.push o₁) ι σ (.ref s.heap.objs.size):=by
 refine ⟨_,_,_,_,St,rfl,Itr.ofWalks W hn S.len (fun b hb=>?_) ht ho h0 (zfT S) hgo (fun i v x hv hx=>(hP i v x hv hx).push _),h0,fun b hb=>?_,fun b hb hm=>?_⟩
 ·rcases List.mem_cons.mp hb with rfl | hb
  ·exact zbK S
  ·exact (hfp b hb).1
 ·rw [List.mem_singleton.mp hb];exact zay _
 ·rcases List.mem_cons.mp hm with q | hm
  ·obtain ⟨o,ho⟩:=hDt b hb;rw [q,zay] at ho;cases ho
  ·exact (hfp b hm).2 hb
theorem zg7{h:Heap}{a b:Addr}{T U:String}{x y:Value}{vs:Array Value}{n:Nat}(p:∃ o,h.get? a=some o∧o.cls=.type T∧o.data=.fields #[x,y])(q:∃ o,h.get? b=some o∧o.cls=.type U∧∃ n,o.data=.seq vs n):∀ c∈[a,b],∃ o,h.get? c=some o∧∀ es n,o.data≠.dict es n:=by
 obtain ⟨o,ho,_,hd⟩:=p
 obtain ⟨o',ho',_,n',hd'⟩:=q
 intro c hc
 rcases List.mem_cons.mp hc with rfl | hc
 ·exact ⟨o,ho,fun es n q=>by rw [hd] at q;cases q⟩
 ·rw [List.mem_singleton.mp hc];exact ⟨o',ho',fun es n q=>by rw [hd'] at q;cases q⟩
theorem za1{h:Heap}{a:Addr}{T:String}{fs:Array Value}(p:∃ o,h.get? a=some o∧o.cls=.type T∧o.data=.fields fs):NoSeq [a] h:=by
 obtain ⟨o,ho,hc,hd⟩:=p
 exact zeU ho hc fun vs n q=>by rw [hd] at q;cases q
theorem zi8{h:Heap}{xs:List PV}{vs:Array Value}(rl:RepL h ι σ xs vs.toList)(i:Nat)(v:Value)(x:PV)(hv:vs[i]?=some v)(hx:xs[i]?=some x):Rep h ι σ x v:=by
 obtain ⟨v',hv',r'⟩:=rl.get hx
 rw [← Array.getElem?_toList,hv'] at hv;cases hv
 exact r'
theorem zmX{D:List Addr}{v:PV}{x:Value}(hh:A.handled=none)(hD:NoSeq D s.heap)(hDt:∀ b∈D,∃ o,s.heap.get? b=some o)(S:StoreOk prog w hB s.heap ι σ)(B:hB.StaysIn s.heap)(r:Rep s.heap ι σ v x)(Q:Value→Shared→Prop)(E:Value→Shared→Prop)
  (hns:zat v σ≠.stuck) (h:∀ src it h₁,zat v σ=.ok src σ→Step prog w hB s.heap ι σ h₁ ι σ→Made prog w hB A t D s.heap src h₁ ι σ it→Q it { s with heap:=h₁ }) :
  wpAny (model prog w) A (pyIter x) Q E s:=by
 have fresh:∀ b∈D,b≠s.heap.objs.size:=fun b hb q=>by obtain ⟨o,ho⟩:=hDt b hb;rw [q,zay] at ho;cases ho
 cases v with
 | tup xs=>
  obtain ⟨a,vs,n,rfl,e,nl,rl⟩:=r.inv
  exact wpAny_pyIter_tuple ⟨_,e,rfl,_,rfl⟩ (h ⟨xs,[]⟩ _ _ rfl (Step.push S B _) (zey hDt S (Walks.tuple hh _ a (Nat.ne_of_lt (Heap.lt_size e)) vs) rl.length.symm (fun b hb=>by rw [List.mem_singleton.mp hb];exact ⟨nl,fun q=>(hD a q _ e).1 _ _ rfl⟩)
   (fun i h st=>zg7 (n:=0) st.1 st.2) (fun i h st=>za1 st.1) (fun i h st=>zgj st.1 (by decide +kernel)) ⟨⟨_,Heap.get?_push_size _ rfl,rfl,rfl⟩,⟨_,Heap.get?_push_of_some _ e,rfl,_,rfl⟩⟩ (zi8 rl)))
 | lst xs=>
  obtain ⟨a,vs,n,rfl,e,nl,rl⟩:=r.inv
  exact wpAny_pyIter_list ⟨_,e,rfl,_,rfl⟩ (h ⟨xs,[]⟩ _ _ rfl (Step.push S B _) (zey hDt S (Walks.list hh _ a (Nat.ne_of_lt (Heap.lt_size e)) vs) rl.length.symm (fun b hb=>by rw [List.mem_singleton.mp hb];exact ⟨nl,fun q=>(hD a q _ e).1 _ _ rfl⟩)
   (fun i h st=>zg7 (n:=0) st.1 st.2) (fun i h st=>za1 st.1) (fun i h st=>zgj st.1 (by decide +kernel)) ⟨⟨_,Heap.get?_push_size _ rfl,rfl,rfl⟩,⟨_,Heap.get?_push_of_some _ e,rfl,_,rfl⟩⟩ (zi8 rl)))
 | str y=>
  obtain ⟨u,rfl⟩:=r.inv
  have key:∀{T:String}(_:ownTs.contains T=false)(_:Walks prog w A s.heap.objs.size [s.heap.objs.size] [s.heap.objs.size] y.cps.size (SignAt y) (fun i h=>h.IsStrIter s.heap.objs.size T y u i)),
    Q (.ref s.heap.objs.size) { s with heap:=s.heap.push { cls:=.type T,data:=.fields #[.str y u,.int 0 0] } }:=fun hT Ws=>
   h ⟨zd3 y.cps.toList,[]⟩ _ _ rfl (Step.push S B _) (zey hDt S Ws ((zmH _).symm▸rfl) (fun b hb=>nomatch hb)
    (fun i h st b hb=>by obtain ⟨o,ho,_,hd⟩:=st;rw [List.mem_singleton.mp hb];exact ⟨o,ho,fun es n q=>(by rw [hd] at q;cases q)⟩) (fun i h st=>za1 st) (fun i h st=>zgj st hT) ⟨_,Heap.get?_push_size _ rfl,rfl,rfl⟩
    (fun i v x hv hx=>by
     obtain ⟨c,u',hc,rfl⟩:=hv
     rw [zmI,Array.getElem?_toList,hc] at hx
     cases hx
     exact .str _ _))
  cases ha:y.cps.all (·<128) with
  | false=>exact wpAny_pyIter_wide ha (key (by decide +kernel) (Walks.strWide hh _ y u))
  | true=>exact wpAny_pyIter_ascii ha (key (by decide +kernel) (Walks.strAscii hh _ y u))
 | ref j=>
  obtain ⟨a,rfl,hi⟩:=r.inv
  rcases zbT S hi with ⟨xs,vs,n,h1,hc,hp,rl⟩ | h1
  ·have hne:s.heap.objs.size≠a:=(Nat.ne_of_lt (Heap.lt_size hp)).symm
   have hit:(s.heap.push { cls:=.type "list_iterator",data:=.fields #[.ref a,.int 0 0] }).IsListIter s.heap.objs.size a 0:=⟨_,Heap.get?_push_size _ rfl,rfl,rfl⟩
   exact wpAny_pyIter_list ⟨_,hp,rfl,_,rfl⟩ (h ⟨xs,[(j,xs)]⟩ _ _ (zaa h1) (Step.push S B _) ⟨_,_,_,_,_,rfl,Itr.live hh hi hne (zbK S) hit (zfT S),hit,fun b hb=>by rw [List.mem_singleton.mp hb];exact zay _,fun b hb hm=>fresh b hb (List.mem_singleton.mp hm)⟩)
  ·exact (hns (zae h1)).elim
 | _=>exact (hns rfl).elim
theorem zjr{h h':Heap}{a:Addr}(hk:∀ b o,h.get? b=some o→h'.get? b=some o)(ha:h.get? a=none):Evo [] h ι σ h' (ι.hide a) σ where
 pre:=fun _ _ e=>e
 fresh:=fun i b e e'=>by simp only [Ad.hide] at e;rw [e] at e';cases e'
 dead:=fun _ e=>e
 alive:=fun b o e=>⟨o,hk b o e⟩
 keep:=fun b o e _ _=>⟨⟨o.slots,hk b o e⟩,fun _=>hk b o e⟩
 hid:=fun _ h=>.tail _ h
 hfresh:=fun b hb=>by
  rcases List.mem_cons.mp hb with rfl | hb
  ·exact .inr ha
  ·exact .inl hb
theorem StoreOk.hide{h h':Heap}{a:Addr}(S:StoreOk prog w hB h ι σ)(hk:∀ b o,h.get? b=some o→h'.get? b=some o)(ha:h.get? a=none)(ht:∃ o,h'.get? a=some o∧∀ vs,o.data≠.fields vs)(hb:hB.get? a=none):StoreOk prog w hB h' (ι.hide a) σ:=by
 have X:=zjr (ι:=ι) (σ:=σ) hk ha
 refine ⟨S.len,S.nodup,fun b hb=>?_,fun b hb=>?_,fun b hb=>?_,S.base,fun b hb'=>?_,S.sys,fun i b c e e'=>(S.ok i b c e e').evo S.len X fun o ho=>hk _ _ ho⟩
 ·obtain ⟨o,ho⟩:=S.there b hb;exact ⟨o,hk _ _ ho⟩
 ·rcases List.mem_cons.mp hb with rfl | hb
  ·exact ht
  ·obtain ⟨o,ho,f⟩:=S.hthere b hb;exact ⟨o,hk _ _ ho,f⟩
 ·intro q
  rcases List.mem_cons.mp q with rfl | q
  ·obtain ⟨o,ho⟩:=S.there _ hb;rw [ha] at ho;cases ho
  ·exact S.apart b hb q
 ·rcases List.mem_cons.mp hb' with rfl | hb'
  ·exact hb
  ·exact S.hbase b hb'
theorem zbi{h:Heap}(B:hB.StaysIn h){a:Addr}(ha:h.get? a=none):hB.get? a=none:=zaZ (fun b o e=>⟨o,B b o e⟩) ha
end
section
variable {prog:Program} {w:World} {hB:Heap} {A:Around} {s:Shared} {ι:Ad} {σ:zab} {env:Env} {ρ:Loc} {fl:List Env} {sc:Scope} {E:Expr→M PV} {K:Frag} {t:Expr}
theorem zdw{g:Str}{cx:Cx}{it:Expr}{args:List Expr}(h:zca g cx sc ρ it=some args):∃ f fp p,it=.Call (.Name f fp) args [] p∧zaY cx sc ρ f=some (.bi g):=by
 obtain ⟨c,h1,q₁⟩:=Option.bind_eq_some_iff.mp h
 obtain ⟨f,h2,q₂⟩:=Option.bind_eq_some_iff.mp q₁
 obtain ⟨y,h3,q₃⟩:=Option.bind_eq_some_iff.mp q₂
 obtain ⟨⟨g,as,p⟩,rfl⟩:=c
 obtain ⟨⟨f,fp⟩,hf⟩:=f
 have hf':g=.Name f fp:=hf
 subst hf'
 cases y with
 | bi z=>
  have q₃:(bif decide (z=g) then some as else none)=some args:=q₃
  cases q:decide (z=g) with
  | true=>rw [q] at q₃;cases q₃;rw [of_decide_eq_true q] at h3;exact ⟨f,fp,p,rfl,h3⟩
  | false=>rw [q] at q₃;cases q₃
 | _=>cases q₃
theorem Made.older{D:List Addr}{src:Src}{h₀ h₁ h₂:Heap}{v:Value}(X:Made prog w hB A t D h₁ src h₂ ι σ v)(hal:∀ b o,h₀.get? b=some o→∃ o',h₁.get? b=some o'):Made prog w hB A t D h₀ src h₂ ι σ v:=by
 obtain ⟨I,fp,own,hh,St,e,X,st,hn,hd⟩:=X
 exact ⟨I,fp,own,hh,St,e,X,st,fun b hb=>zaZ hal (hn b hb),hd⟩
theorem zfK{D:List Addr}{a b:Int}{t' u v:Tok}{tk:Nat}(hh:A.handled=none)(hDt:∀ b∈D,∃ o,s.heap.get? b=some o)(S:StoreOk prog w hB s.heap ι σ)(B:hB.StaysIn s.heap)(Q:Value→Shared→Prop)(E:Value→Shared→Prop)(ha:zbr a=true)(hb:zbr b=true)
  (h:∀ it h₁,Step prog w hB s.heap ι σ h₁ ι σ→Made prog w hB A t D s.heap ⟨zbp a (b-a).toNat,[]⟩ h₁ ι σ it→Q it { s with heap:=h₁,toks:=tk }) :
  wpAny (model prog w) A (pyIter (.ref s.heap.objs.size)) Q E { s with heap:=s.heap.push { cls:=.type "range",data:=.fields #[.int a t',.int b u,.int 1 v] },toks:=tk }:=by
 unfold zbr at ha hb
 rw [Bool.and_eq_true,decide_eq_true_eq,decide_eq_true_eq] at ha hb
 have X₁:Step prog w hB s.heap ι σ (s.heap.push { cls:=.type "range",data:=.fields #[.int a t',.int b u,.int 1 v] }) ι σ:=Step.push S B _
 have hd:∀ c∈D,∃ o,(s.heap.push { cls:=.type "range",data:=.fields #[.int a t',.int b u,.int 1 v] }).get? c=some o:=fun c hc=>by obtain ⟨o,ho⟩:=hDt c hc;exact ⟨o,Heap.get?_push_of_some _ ho⟩
 have hrs:=rangeSize_one a b
 have hsize:Builtin.Range.rangeSize a b 1=(((b-a).toNat:Nat):Int):=by rw [hrs];split <;> lia
 refine wpAny_pyIter_range (IsRange.new s.heap a b 1 t' u v) (small_one (by lia) (by lia) (by lia) (by lia)) ?_
 generalize hH:s.heap.push { cls:=.type "range",data:=.fields #[.int a t',.int b u,.int 1 v] }=H at X₁ hd
 refine h _ _ (X₁.trans S.len (Step.push X₁.store X₁.stays _)) ?_
 have M:=zey (s:={ s with heap:=H }) (A:=A) (t:=t) (D:=D) (xs:=zbp a (b-a).toNat) hd X₁.store (Walks.range hh H.objs.size a 1 (b-a).toNat) (zfA _ _).symm (fun b hb=>nomatch hb)
  (fun i h st b hb=>by rw [List.mem_singleton.mp hb];exact ⟨_,st,fun es n q=>nomatch q⟩) (fun i h st=>zeU st rfl fun vs n q=>nomatch q) (fun i h st=>⟨_,_,st,rfl,by decide +kernel⟩) (o₁:={ cls:=.type "range_iterator",data:=.fields #[.int a 0,.int (((b-a).toNat:Nat):Int) 0,.int 1 0] })
  (by
   show IsRangeIter _ _ _ _ _
   rw [Int.ofNat_zero,Int.zero_mul,Int.add_zero,Int.sub_zero]
   exact Heap.get?_push_size _ rfl)
  (fun i v x hv hx=>by
   obtain ⟨t',rfl⟩:=hv
   have hi:i<(b-a).toNat:=by have:=(List.getElem?_eq_some_iff.mp hx).1;rwa [zfA] at this
   rw [zjL a _ i hi] at hx;cases hx
   rw [Int.mul_one];exact .int _ _)
 rw [hsize]
 exact M.older fun b o e=>⟨o,by rw [← hH];exact Heap.get?_push_of_some _ e⟩
theorem zmW{D:List Addr}{vs:List PV}{xs:List Value}(hh:A.handled=none)(hDt:∀ b∈D,∃ o,s.heap.get? b=some o)(S:StoreOk prog w hB s.heap ι σ)(B:hB.StaysIn s.heap)(r:RepL s.heap ι σ vs xs)(Q:Value→Shared→Prop)(E:Value→Shared→Prop)
  (hns:zbz vs σ≠.stuck) (h:∀ src it h₁ tk,zbz vs σ=.ok src σ→Step prog w hB s.heap ι σ h₁ ι σ→Made prog w hB A t D s.heap src h₁ ι σ it→Q it { s with heap:=h₁,toks:=tk }) :
  wpAny (model prog w) A (call (.type "range") xs) (fun x s₁=>wpAny (model prog w) A (pyIter x) Q E s₁) E s:=by
 cases r with
 | nil=>exact (hns rfl).elim
 | cons r rs=>
  rename_i v xv vs xs
  cases v with
  | int k=>
   obtain ⟨t,rfl⟩:=r.inv
   cases rs with
   | nil=>
    have hns:M.cond (zbr k) (M.ret (Src.mk (zbp 0 k.toNat) [])) M.fail σ≠.stuck:=hns
    cases hk:zbr k with
    | false=>rw [hk] at hns;exact (hns rfl).elim
    | true=>
     refine call_range_1 (zfK hh hDt S B Q E (by decide) hk fun it h₁ X Md=>h _ it h₁ _ ?_ X Md)
     rw [Int.sub_zero]
     show M.cond (zbr k) (M.ret (Src.mk (zbp 0 k.toNat) [])) M.fail σ=_
     rw [hk];rfl
   | cons r rs=>
    cases rs with
    | cons _ _=>exact (hns rfl).elim
    | nil=>
     rename_i v₂ xv₂
     cases v₂ with
     | int l=>
      obtain ⟨u,rfl⟩:=r.inv
      have hns:M.cond (zbr k&&zbr l) (M.ret (Src.mk (zbp k (l-k).toNat) [])) M.fail σ≠.stuck:=hns
      cases hk:zbr k&&zbr l with
      | false=>rw [hk] at hns;exact (hns rfl).elim
      | true=>
       refine call_range_2 (zfK hh hDt S B Q E (Bool.and_eq_true_iff.mp hk).1 (Bool.and_eq_true_iff.mp hk).2 fun it h₁ X Md=>h _ it h₁ _ ?_ X Md)
       show M.cond (zbr k&&zbr l) (M.ret (Src.mk (zbp k (l-k).toNat) [])) M.fail σ=_
       rw [hk];rfl
     | _=>exact (hns rfl).elim
  | _=>exact (hns rfl).elim
theorem zhP:∀(xs:List PV)(a i:Nat),(zcN a xs)[i]?=(xs[i]?).map fun x=>.tup [.int ((a+i:Nat):Int),x]
 | [],_,_=>rfl
 | x::r,a,0=>rfl
 | x::r,a,i+1=>(zhP r (a+1) i).trans (by rw [Nat.add_right_comm];rfl)
theorem zhO:∀(xs:List PV)(a:Nat),(zcN a xs).length=xs.length
 | [],_=>rfl
 | _::r,a=>congrArg Nat.succ (zhO r (a+1))
theorem zkq{e:Expr}(h:zb9 e=2):∃ a b c,e=.Tuple a b c:=by
 cases e with
 | Tuple a b c=>exact ⟨a,b,c,rfl⟩
 | _=>cases h
theorem zdv{h:Heap}{e it:Addr}{i:Int}{old:Value}(he:IsEnum h e it i old):∃ o,h.get? e=some o∧o.cls=.type "enumerate"∧o.data=.fields #[.none,.bool false,.ref it,rawInt i,.none,old]:=⟨_,he,rfl,rfl⟩
theorem Itr.enum{e it l:Addr}{xs:List PV}{wt:List (Nat×List PV)}{fp:List Addr}{Pl:Heap→Prop}{h₁:Heap}{ι₁:Ad}{σ₁:zab}(hh:A.handled=none)(ht:zb9 t=2)(hne:e≠it)(hnl:∀ b∈e::it::fp,¬ Live ι₁ σ₁ b)(hth:∀ h,Pl h→∀ b∈fp,∃ o,h.get? b=some o∧∀ es n,o.data≠.dict es n)
  (hfr:∀ b∈[e,it],b∉ι₁.vis∧b∉ι₁.hid) (hPl:∀ h h',Pl h→(∀ b∈fp,∀ o,h.get? b=some o→h'.get? b=some o)→Pl h') (hfp:∀ b∈fp,b∉[e,it])
  (get:∀(D:List Addr)(s:Shared)(ι:Ad)(σ:zab),NoSeq D h₁→Evo ([e,it]++D) h₁ ι₁ σ₁ s.heap ι σ→StoreOk prog w hB s.heap ι σ→NoSeq [e,it] s.heap→Pl s.heap→chkW wt σ=.ok () σ→∃ items,s.heap.IsList l items∧RepL s.heap ι σ xs items.toList) :
  Itr prog w hB A t e (e::it::fp) [e,it] [] ⟨zcN 0 xs,wt⟩ (fun i h=>(∃ old,IsEnum h e it (i:Nat) old)∧h.IsListIter it l i∧Pl h) h₁ ι₁ σ₁:=by
 have own:∀{b:Addr},b∉[e,it]→b≠e∧b≠it:=fun hb=>⟨fun q=>hb (q▸.head _),fun q=>hb (q▸.tail _ (.head _))⟩
 have ok:∀(i:Nat)(h:Heap),((∃ old,IsEnum h e it (i:Nat) old)∧h.IsListIter it l i∧Pl h)→NoSeq [e,it] h:=fun i h st=>by
  obtain ⟨⟨old,he⟩,hit,_⟩:=st
  exact NoSeq.append (D:=[e]) (za1 (zdv he)) (za1 hit)
 have th:∀(i:Nat)(h:Heap),((∃ old,IsEnum h e it (i:Nat) old)∧h.IsListIter it l i∧Pl h)→∀ b∈e::it::fp,∃ o,h.get? b=some o∧∀ es n,o.data≠.dict es n:=fun i h st b hb=>by
  obtain ⟨⟨old,he⟩,⟨o,ho,_,hd⟩,hp⟩:=st
  rcases List.mem_cons.mp hb with rfl | hb
  ·exact ⟨_,he,fun es n q=>nomatch q⟩
  ·rcases List.mem_cons.mp hb with rfl | hb
   ·exact ⟨o,ho,fun es n q=>by rw [hd] at q;cases q⟩
   ·exact hth h hp b hb
 have sub:∀ b∈[e,it],b∈e::it::fp:=fun b hb=>by
  rcases List.mem_cons.mp hb with rfl | hb
  ·exact .head _
  ·rw [List.mem_singleton.mp hb];exact .tail _ (.head _)
 refine ⟨fun b hb=>zaT (hnl b hb),th,sub,fun b hb=>⟨(hfr b hb).1,fun q=>((hfr b hb).2 q).elim⟩,fun _ hb=>(nomatch hb),fun _ _ _ _ hb=>(nomatch hb),fun i h _ st _=>(ok i h st).off,fun i h h' st hk=>?_,fun D i s ι σ x hD X S st hc hx P Q E hP h=>?_,fun D s ι σ hD X S st hc Q E h=>?_,fun i s Q E st hq=>?_⟩
 ·obtain ⟨⟨old,he⟩,hit,hp⟩:=st
  exact ⟨⟨old,hk e (.head _) _ he⟩,hit.at fun o e=>hk it (.tail _ (.head _)) o e,hPl h h' hp fun b hb=>hk b (.tail _ (.tail _ hb))⟩
 ·obtain ⟨items,hl,rl⟩:=get D s ι σ hD X S (ok _ _ st) st.2.2 hc
  have hx:(zcN 0 xs)[i]?=some x:=hx
  rw [zhP] at hx
  obtain ⟨y,hy,rfl⟩:=Option.map_eq_some_iff.mp hx
  obtain ⟨v,hv,r⟩:=rl.get hy
  obtain ⟨⟨old,he⟩,hit,hp⟩:=id st
  obtain ⟨ta,tb,tc,rfl⟩:=zkq ht
  refine wpAny_pyNext_enum_item he hit hl (x:=v) (by rw [← Array.getElem?_toList];exact hv) hne fun h' ho hit' hT hsz hk=>hP _ _ (wpAny_letOwnedTupleGo_enum ho fun h'' he'' hs=>?_)
  have keep:∀ b o,b∉[e,it]→s.heap.get? b=some o→h''.get? b=some o:=fun b o hb q=>(hs.2 b (own hb).1).trans (hk b o (own hb).1 (own hb).2 q)
  have st':(∃ old,IsEnum h'' e it ((i+1:Nat):Int) old)∧h''.IsListIter it l (i+1)∧Pl h'':=⟨⟨v,he''⟩,hit'.at fun o q=>(hs.2 it hne.symm).trans q,hPl _ _ hp fun b hb o q=>keep b o (hfp b hb) q⟩
  have Y:Evo [e,it] s.heap ι σ h'' ι σ:=Evo.but keep fun b hb=>by obtain ⟨o,ho,_⟩:=th _ _ st' b (sub b hb);exact ⟨o,ho⟩
  have hTe:s.heap.objs.size≠e:=fun q=>by have:=Heap.lt_size he;rw [q] at this;exact Nat.lt_irrefl _ this
  refine h (.ref s.heap.objs.size) h'' _ (.tup ((hs.2 _ hTe).trans hT) (zbK S) (.cons ?_ (.cons (r.evo S.len Y (ok _ _ st)) .nil))) st' keep
  rw [Nat.zero_add];exact .int _ _
 ·obtain ⟨items,hl,rl⟩:=get D s ι σ hD X S (ok _ _ st) st.2.2 hc
  obtain ⟨⟨old,he⟩,hit,hp⟩:=st
  refine wpAny_pyNext_enum_end hh he hit hl ?_ fun h' hx=>h h' s.toks (fun b o hb q=>hx b o (own hb).2 q) fun _ hb=>nomatch hb
  rw [← Array.getElem?_toList]
  exact List.getElem?_eq_none (by rw [← rl.length];exact Nat.le_of_eq (zhO xs 0).symm)
 ·obtain ⟨⟨old,he⟩,_⟩:=st
  exact wpAny_pyIter_enum he hq
theorem zow{h:Heap}(S:StoreOk prog w hB h ι σ):(∀ b∈[h.objs.size+1,h.objs.size],b∉ι.vis∧b∉ι.hid)∧(∀ b∈[h.objs.size+1,h.objs.size],h.get? b=none):=by
 have n:∀ b∈[h.objs.size+1,h.objs.size],∀ o,h.get? b≠some o:=fun b hb o q=>by
  have:=Heap.lt_size q
  rcases List.mem_cons.mp hb with rfl | hb
  ·exact absurd this (Nat.not_lt.mpr (Nat.le_succ _))
  ·rw [List.mem_singleton.mp hb] at this;exact Nat.lt_irrefl _ this
 exact ⟨fun b hb=>⟨fun q=>by obtain ⟨o,ho⟩:=S.there _ q;exact n b hb o ho,fun q=>by obtain ⟨o,ho,_⟩:=S.hthere _ q;exact n b hb o ho⟩,fun b hb=>by
  cases q:h.get? b with
  | none=>rfl
  | some o=>exact (n b hb o q).elim⟩
theorem zot{D:List Addr}{vs:List PV}{xs:List Value}(hh:A.handled=none)(ht:zb9 t=2)(hD:NoSeq D s.heap)(hDt:∀ b∈D,∃ o,s.heap.get? b=some o)(S:StoreOk prog w hB s.heap ι σ)(B:hB.StaysIn s.heap)(r:RepL s.heap ι σ vs xs)(Q:Value→Shared→Prop)(E:Value→Shared→Prop)
  (hns:zei vs σ≠.stuck) (h:∀ src it h₁ tk,zei vs σ=.ok src σ→Step prog w hB s.heap ι σ h₁ ι σ→Made prog w hB A t D s.heap src h₁ ι σ it→Q it { s with heap:=h₁,toks:=tk }) :
  wpAny (model prog w) A (call (.type "enumerate") xs) (fun x s₁=>wpAny (model prog w) A (pyIter x) Q E s₁) E s:=by
 obtain ⟨fr,nw⟩:=zow S
 have nl2:∀ b∈[s.heap.objs.size+1,s.heap.objs.size],¬ Live ι σ b:=fun b hb q=>q.elim (fun ⟨i,c,hi,_⟩=>(fr b hb).1 (List.mem_of_getElem? hi)) (fr b hb).2
 have hDf:∀ b∈D,b∉[s.heap.objs.size+1,s.heap.objs.size]:=fun b hb q=>by obtain ⟨o,ho⟩:=hDt b hb;rw [nw b q] at ho;cases ho
 cases r with
 | nil=>exact (hns rfl).elim
 | cons r rs=>
  cases rs with
  | cons _ _=>exact (hns rfl).elim
  | nil=>
   rename_i v xv
   cases v with
   | lst ys=>
    obtain ⟨a,as,n,rfl,e,nl,rl⟩:=r.inv
    refine call_enumerate_list ⟨_,e,rfl,_,rfl⟩ fun h' he hit hsz hk=>wpAny_pyIter_enum he ?_
    have X:=Step.keeps S B hk
    have ha:a∉[s.heap.objs.size+1,s.heap.objs.size]:=fun q=>by rw [nw a q] at e;cases e
    refine h ⟨zcN 0 ys,[]⟩ _ h' s.toks rfl X ⟨_,_,_,_,_,rfl,Itr.enum (l:=a) (fp:=[a]) (Pl:=fun h=>h.get? a=some { cls:=.type "list",data:=.seq as n }) hh ht (Nat.succ_ne_self _) (fun b hb=>?_) (fun h hp b hb=>by rw [List.mem_singleton.mp hb];exact ⟨_,hp,fun es n q=>nomatch q⟩) fr
     (fun h h' hp hk=>hk a (.head _) _ hp) (fun b hb=>by rw [List.mem_singleton.mp hb];exact ha) (fun D s' ι' σ' hD X' S' ho hp _=>⟨as,⟨_,hp,rfl,_,rfl⟩,(rl.step S.len X).evo S.len X' (NoSeq.append (fun b hb o q=>?_) hD)⟩),⟨⟨.none,he⟩,hit,hk _ _ e⟩,nw,fun b hb q=>?_⟩
    ·rcases List.mem_cons.mp hb with rfl | hb
     ·exact nl2 _ (.head _)
     ·rcases List.mem_cons.mp hb with rfl | hb
      ·exact nl2 _ (.tail _ (.head _))
      ·rw [List.mem_singleton.mp hb];exact nl
    ·exact (NoSeq.append (D:=[s.heap.objs.size+1]) (za1 (zdv he)) (za1 hit)) b hb o q
    ·rcases List.mem_cons.mp q with rfl | q
     ·exact hDf _ hb (.head _)
     ·rcases List.mem_cons.mp q with rfl | q
      ·exact hDf _ hb (.tail _ (.head _))
      ·rw [List.mem_singleton.mp q] at hb;exact (hD a hb _ e).1 _ _ rfl
   | ref j=>
    obtain ⟨a,rfl,hi⟩:=r.inv
    rcases zbT S hi with ⟨ys,as,n,h1,hc,e,rl⟩ | h1
    ·refine call_enumerate_list ⟨_,e,rfl,_,rfl⟩ fun h' he hit hsz hk=>wpAny_pyIter_enum he ?_
     have X:=Step.keeps S B hk
     refine h ⟨zcN 0 ys,[(j,ys)]⟩ _ h' s.toks (show (lsrc (.ref j)).bind (fun s=>M.ret (Src.mk (zcN 0 s.xs) s.watch)) σ=_ from zaa (show lsrc (.ref j) σ=.ok ⟨ys,[(j,ys)]⟩ σ from zaa h1)) X ⟨_,_,_,_,_,rfl,Itr.enum (l:=a) (fp:=[]) (Pl:=fun _=>True) hh ht (Nat.succ_ne_self _) nl2 (fun h hp b hb=>nomatch hb) fr
      (fun h h' hp hk=>trivial) (fun b hb=>nomatch hb) (fun D s' ι' σ' hD X' S' ho hp hc'=>?_),⟨⟨.none,he⟩,hit,trivial⟩,nw,hDf⟩
     obtain ⟨vs,⟨n,hp⟩,rl⟩:=S'.ok _ _ _ (X'.pre _ _ hi) (zgM hc')
     exact ⟨vs,⟨_,hp,rfl,n,rfl⟩,rl⟩
    ·exact (hns (show (lsrc (.ref j)).bind (fun s=>M.ret (Src.mk (zcN 0 s.xs) s.watch)) σ=_ from zae (show lsrc (.ref j) σ=.stuck from zae h1))).elim
   | _=>exact (hns rfl).elim
theorem FrOk.dynT{h':Heap}{ι':Ad}{σ':zab}(F:FrOk hB env ρ h' ι' σ'):∀ b∈dyn env,∃ o,h'.get? b=some o:=fun b hb=>by
 rcases List.mem_cons.mp hb with rfl | hb
 ·obtain ⟨m,⟨o,_,_,ho,_⟩,_⟩:=F.ns;exact ⟨o,ho⟩
 ·obtain ⟨y,o,ho,_⟩:=F.cellsAt b hb;exact ⟨o,ho⟩
theorem zfw{cx:Cx}{g:Str}{T:String}{it:Expr}{args:List Expr}{F:List PV→M Src}(hg:bis.lookup g=some (.type T))(hc:zca g cx sc ρ it=some args)
  (hF:∀(s:Shared)(ι:Ad)(vs:List PV)(xs:List Value)(σ:zab),NoSeq (dyn env) s.heap→(∀ b∈dyn env,∃ o,s.heap.get? b=some o)→StoreOk prog w hB s.heap ι σ→hB.StaysIn s.heap→RepL s.heap ι σ vs xs→∀(Q:Value→Shared→Prop)(E:Value→Shared→Prop),F vs σ≠.stuck→
   (∀ src it h₁ tk dr ι₁,F vs σ=.ok src σ→Step prog w hB s.heap ι σ h₁ ι₁ σ→Made prog w hB A t (dyn env) s.heap src h₁ ι₁ σ it→Q it { s with heap:=h₁,toks:=tk,drawn:=dr })→wpAny (model prog w) A (call (.type T) xs) (fun x s₁=>wpAny (model prog w) A (pyIter x) Q E s₁) E s)
  (hG:GlobOk hB K cx.G) (H:EnvOk env sc) (IH:EvIH prog w hB A env ρ fl E) (hst:∀ e p,E (.Starred e p)=M.fail) (I:Inv prog w hB env ρ fl s.heap ι σ) (Q:Value→Shared→Prop) (Er:Value→Shared→Prop)
  (hns:zdB E args F σ≠.stuck)
  (hok:∀ src σ₁,zdB E args F σ=.ok src σ₁→∀ itv h₁ tk dr ι₁,Step prog w hB s.heap ι σ h₁ ι₁ σ₁→Made prog w hB A t (dyn env) s.heap src h₁ ι₁ σ₁ itv→Q itv { s with heap:=h₁,toks:=tk,drawn:=dr })
  (herr:∀ C σ',zdB E args F σ=.err C σ'→∀ e h' tk dr ι',Step prog w hB s.heap ι σ h' ι' σ'→Fly s.heap h' e C→Er (.ref e) { s with heap:=h',toks:=tk,drawn:=dr }) :
  wpAny (model prog w) A (eval it env) (fun x s₁=>wpAny (model prog w) A (pyIter x) Q Er s₁) Er s:=by
 obtain ⟨f,fp,p,rfl,hres⟩:=zdw hc
 have hns:M.cond (zau args) ((evs E args).bind F) M.fail σ≠.stuck:=hns
 cases hp:zau args with
 | false=>rw [hp] at hns;exact (hns rfl).elim
 | true=>
  have eq:zdB E args F σ=((evs E args).bind F) σ:=by unfold zdB;rw [hp];rfl
  have hns:((evs E args).bind F) σ≠.stuck:=by rw [hp] at hns;exact hns
  refine Call_Name rfl (za0 hG.g H I.stays hres ⟨_,hg⟩ _ _ fun v hv=>?_)
  have hv':bis.lookup g=some v:=hv
  rw [hg] at hv';cases hv'
  refine PyProof.Rows.callWith_type (zaH p hp) ?_
  refine zeu (f:=.type T) IH hst p hp I _ _ (fun q=>hns (zae q)) (fun vs σ₁ e₁ x h₁ tk₁ dr₁ ι₁ X₁ r₁=>?_) (fun C σ₁ e₁ e h₁ tk₁ dr₁ ι₁ X₁ F₁=>herr C σ₁ (eq.trans (zaq e₁)) e h₁ tk₁ dr₁ ι₁ X₁ F₁)
  obtain ⟨x,kw⟩:=x
  obtain ⟨r₁,q⟩:=r₁
  cases q
  have I₁:=I.step X₁
  refine hF { s with heap:=h₁,toks:=tk₁,drawn:=dr₁ } ι₁ vs _ σ₁ I₁.fr.noSeq I₁.fr.dynT I₁.store I₁.stays r₁ Q Er (fun q=>hns ((zaa e₁).trans q)) fun src itv h₂ tk₂ dr₂ ι₂ e₂ X₂ Md=>?_
  exact hok src σ₁ (eq.trans ((zaa e₁).trans e₂)) itv h₂ tk₂ dr₂ ι₂ (X₁.trans I.store.len X₂) (Md.older X₁.evo.alive)
theorem znU{cx:Cx}{it:Expr}(hG:GlobOk hB K cx.G)(hh:A.handled=none)(H:EnvOk env sc)(IH:EvIH prog w hB A env ρ fl E)(hst:∀ e p,E (.Starred e p)=M.fail)(I:Inv prog w hB env ρ fl s.heap ι σ)(Q:Value→Shared→Prop)(Er:Value→Shared→Prop)
  (hns:zcM cx sc ρ E t it σ≠.stuck)
  (hok:∀ src σ₁,zcM cx sc ρ E t it σ=.ok src σ₁→∀ itv h₁ tk dr ι₁,Step prog w hB s.heap ι σ h₁ ι₁ σ₁→Made prog w hB A t (dyn env) s.heap src h₁ ι₁ σ₁ itv→Q itv { s with heap:=h₁,toks:=tk,drawn:=dr })
  (herr:∀ C σ',zcM cx sc ρ E t it σ=.err C σ'→∀ e h' tk dr ι',Step prog w hB s.heap ι σ h' ι' σ'→Fly s.heap h' e C→Er (.ref e) { s with heap:=h',toks:=tk,drawn:=dr }) :
  wpAny (model prog w) A (eval it env) (fun x s₁=>wpAny (model prog w) A (pyIter x) Q Er s₁) Er s:=by
 cases hr:zca "range" cx sc ρ it with
 | some args=>
  have e:zcM cx sc ρ E t it=zdB E args zbz:=by unfold zcM;rw [hr]
  rw [e] at hns hok herr
  exact zfw (by decide +kernel) hr (fun s ι vs xs σ hD hDt S B r Q E hns h=>zmW hh hDt S B r Q E hns fun src it h₁ tk=>h src it h₁ tk _ ι) hG H IH hst I Q Er hns hok herr
 | none=>
  cases he:zca "enumerate" cx sc ρ it with
  | some args=>
   have e:zcM cx sc ρ E t it=M.cond (zb9 t==2) (zdB E args zei) M.fail:=by unfold zcM;rw [hr];dsimp only;rw [he]
   rw [e] at hns hok herr
   cases ht:zb9 t==2 with
   | false=>rw [ht] at hns;exact (hns rfl).elim
   | true=>
    rw [ht] at hns hok herr
    exact zfw (by decide +kernel) he (fun s ι vs xs σ hD hDt S B r Q E hns h=>zot hh (eq_of_beq ht) hD hDt S B r Q E hns fun src it h₁ tk=>h src it h₁ tk _ ι) hG H IH hst I Q Er hns hok herr
  | none=>
   have e:zcM cx sc ρ E t it=(E it).bind zat:=by
    unfold zcM;rw [hr];dsimp only;rw [he]
   rw [e] at hns hok herr
   refine IH it s ι σ I _ _ (fun q=>hns (zae q)) (fun v σ₁ e₁ x h₁ tk₁ dr₁ ι₁ X₁ r₁=>?_) (fun C σ₁ e₁ e h₁ tk₁ dr₁ ι₁ X₁ F₁=>herr C σ₁ (zaq e₁) e h₁ tk₁ dr₁ ι₁ X₁ F₁)
   have I₁:=I.step X₁
   refine zmX (t:=t) (s:={ s with heap:=h₁,toks:=tk₁,drawn:=dr₁ }) hh I₁.fr.noSeq I₁.fr.dynT I₁.store I₁.stays r₁ Q Er (fun q=>hns ((zaa e₁).trans q)) fun src itv h₂ e₂ X₂ Md=>?_
   exact hok src σ₁ ((zaa e₁).trans e₂) itv h₂ tk₁ dr₁ ι₁ (X₁.trans I.store.len X₂) (Md.older X₁.evo.alive)
end
section
variable {prog:Program} {w:World} {hB:Heap} {A:Around} {s:Shared} {ι:Ad} {σ:zab} {env:Env} {ρ:Loc} {fl:List Env} {sc:Scope} {h h':Heap}
theorem StoreOk.but{D:List Addr}(S:StoreOk prog w hB h ι σ)(hk:∀ b o,b∉D→h.get? b=some o→h'.get? b=some o)(ht:∀ b∈D,∃ o,h'.get? b=some o)(hO:Off ι D h)(hn:∀ b∈D,¬ zcO ι σ b)(hh:∀ b∈D,b∈ι.hid→∃ o,h'.get? b=some o∧∀ vs,o.data≠.fields vs):StoreOk prog w hB h' ι σ:=by
 have X:Evo D h ι σ h' ι σ:=Evo.but hk ht
 refine ⟨S.len,S.nodup,fun a ha=>?_,fun a ha=>?_,S.apart,S.base,S.hbase,S.sys,fun i a c e e'=>?_⟩
 ·obtain ⟨o,ho⟩:=S.there a ha;exact X.alive a o ho
 ·by_cases hD:a∈D
  ·exact hh a hD ha
  ·obtain ⟨o,ho,f⟩:=S.hthere a ha;exact ⟨o,hk a o hD ho,f⟩
 ·have x:=S.ok i a c e e'
  cases c with
  | dead=>trivial
  | list xs=>
   have ha:a∉D:=fun q=>hn a q ⟨i,_,e,e',by intro q;cases q⟩
   obtain ⟨vs,⟨n,hp⟩,r⟩:=x
   exact ⟨vs,⟨n,hk a _ ha hp⟩,r.evo' S.len X hO⟩
  | dict kvs=>
   have ha:a∉D:=fun q=>hn a q ⟨i,_,e,e',by intro q;cases q⟩
   obtain ⟨ys,⟨o,es,ep,ho,k⟩,k2,r⟩:=x
   exact ⟨ys,⟨o,es,ep,hk a _ ha ho,k⟩,k2,r.evo' S.len X hO⟩
theorem Inv.but{D:List Addr}(I:Inv prog w hB env ρ fl h ι σ)(hk:∀ b o,b∉D→h.get? b=some o→h'.get? b=some o)(ht:∀ b∈D,∃ o,h'.get? b=some o)(hb:∀ b∈D,hB.get? b=none)(hO:Off ι D h)(hn:∀ b∈D,¬ zcO ι σ b)(hh:∀ b∈D,b∈ι.hid→∃ o,h'.get? b=some o∧∀ vs,o.data≠.fields vs)
  (hnd:∀ b∈D,∀ o,h.get? b=some o→∀ es n,o.data≠.dict es n) (hD:∀ b∈dyn env,b∉D):Inv prog w hB env ρ fl h' ι σ:=by
 have X:Evo D h ι σ h' ι σ:=Evo.but hk ht
 refine ⟨fun b o e=>hk b o (fun q=>by rw [hb b q] at e;cases e) (I.stays b o e),I.store.but hk ht hO hn hh,I.fr.evo I.store.len X hO hD,I.stk.evo I.store.len X fun b hbD hf=>?_⟩
 obtain ⟨o,es,n,ho,hd⟩:=I.stk.dicts b hf
 exact (hnd b hbD o ho es n hd).elim
theorem EvoW.but{D:List Addr}(hk:∀ b o,b∉D→h.get? b=some o→h'.get? b=some o):EvoW D h ι σ h' ι σ:=
 ⟨fun _ _ e=>e,fun i a e e'=>(by rw [e] at e';cases e'),fun _ e=>e,fun b o e _ hb=>⟨⟨o.slots,hk b o hb e⟩,fun _=>hk b o hb e⟩,fun _ h=>.inl h⟩
theorem Evo.lost{D own:List Addr}{h₀:Heap}{ι₀:Ad}{σ₀:zab}(X:Evo D h₀ ι₀ σ₀ h ι σ)(hk:∀ b o,b∉own→h.get? b=some o→h'.get? b=some o)(hf:∀ b∈own,h₀.get? b=none):Evo D h₀ ι₀ σ₀ h' ι σ where
 pre:=X.pre
 fresh:=X.fresh
 dead:=X.dead
 alive:=fun b o e=>by
  obtain ⟨o',e'⟩:=X.alive b o e
  exact ⟨o',hk b o' (fun q=>by rw [hf b q] at e;cases e) e'⟩
 keep:=fun b o e hn hD=>by
  have hb:b∉own:=fun q=>by rw [hf b q] at e;cases e
  obtain ⟨⟨sl,e₂⟩,k⟩:=X.keep b o e hn hD
  exact ⟨⟨sl,hk b _ hb e₂⟩,fun q=>hk b _ hb (k q)⟩
 hid:=X.hid
 hfresh:=X.hfresh
theorem StoreOk.lost{D:List Addr}(S:StoreOk prog w hB h ι σ)(hk:∀ b o,b∉D→h.get? b=some o→h'.get? b=some o)(hO:Off ι D h)(hv:∀ b∈D,b∉ι.vis∧(b∈ι.hid→∃ o,h'.get? b=some o∧∀ vs,o.data≠.fields vs)):StoreOk prog w hB h' ι σ:=by
 have X:EvoW D h ι σ h' ι σ:=EvoW.but hk
 refine ⟨S.len,S.nodup,fun a ha=>?_,fun a ha=>?_,S.apart,S.base,S.hbase,S.sys,fun i a c e e'=>?_⟩
 ·obtain ⟨o,ho⟩:=S.there a ha;exact ⟨o,hk a o (fun q=>(hv a q).1 ha) ho⟩
 ·by_cases hD:a∈D
  ·exact (hv a hD).2 ha
  ·obtain ⟨o,ho,f⟩:=S.hthere a ha;exact ⟨o,hk a o hD ho,f⟩
 ·have x:=S.ok i a c e e'
  have ha:a∉D:=fun q=>(hv a q).1 (List.mem_of_getElem? e)
  cases c with
  | dead=>trivial
  | list xs=>obtain ⟨vs,⟨n,hp⟩,r⟩:=x;exact ⟨vs,⟨n,hk a _ ha hp⟩,r.evoW S.len X hO⟩
  | dict kvs=>obtain ⟨ys,⟨o,es,ep,ho,k⟩,k2,r⟩:=x;exact ⟨ys,⟨o,es,ep,hk a _ ha ho,k⟩,k2,r.evoW S.len X hO⟩
theorem Inv.lost{D:List Addr}(I:Inv prog w hB env ρ fl h ι σ)(hk:∀ b o,b∉D→h.get? b=some o→h'.get? b=some o)(hb:∀ b∈D,hB.get? b=none)(hO:Off ι D h)(hv:∀ b∈D,b∉ι.vis∧(b∈ι.hid→∃ o,h'.get? b=some o∧∀ vs,o.data≠.fields vs))
  (hnd:∀ b∈D,∀ o,h.get? b=some o→∀ es n,o.data≠.dict es n) (hD:∀ b∈dyn env,b∉D):Inv prog w hB env ρ fl h' ι σ:=by
 have X:EvoW D h ι σ h' ι σ:=EvoW.but hk
 refine ⟨fun b o e=>hk b o (fun q=>by rw [hb b q] at e;cases e) (I.stays b o e),I.store.lost hk hO hv,I.fr.evoW I.store.len X hO hD,I.stk.evoW I.store.len X fun b hbD hf=>?_⟩
 obtain ⟨o,es,n,ho,hd⟩:=I.stk.dicts b hf
 exact (hnd b hbD o ho es n hd).elim
theorem Inv.lost'{D:List Addr}(I:Inv prog w hB env ρ fl h ι σ)(hk:∀ b o,b∉D→h.get? b=some o→h'.get? b=some o)(hb:∀ b∈D,hB.get? b=none)(hO:Off ι D h)(hv:∀ b∈D,b∉ι.vis∧(b∈ι.hid→∃ o,h'.get? b=some o∧∀ vs,o.data≠.fields vs))
  (hnf:∀ b∈D,b∉fl.filterMap (·.frame)) (hD:∀ b∈dyn env,b∉D):Inv prog w hB env ρ fl h' ι σ:=by
 have X:EvoW D h ι σ h' ι σ:=EvoW.but hk
 exact ⟨fun b o e=>hk b o (fun q=>by rw [hb b q] at e;cases e) (I.stays b o e),I.store.lost hk hO hv,I.fr.evoW I.store.len X hO hD,I.stk.evoW I.store.len X fun b hbD hf=>(hnf b hbD hf).elim⟩
theorem Itr.freshAt{t:Expr}{I:Addr}{fp own hd:List Addr}{src:Src}{St:Nat→Heap→Prop}{h₁:Heap}{ι₁:Ad}{σ₁:zab}{D:List Addr}(Z:Itr prog w hB A t I fp own hd src St h₁ ι₁ σ₁)(st₀:St 0 h₁)(X:Evo D h₁ ι₁ σ₁ h ι σ)(hh:∀ b∈hd,∃ o,h'.get? b=some o∧∀ vs,o.data≠.fields vs):∀ b∈own,b∉ι.vis∧(b∈ι.hid→∃ o,h'.get? b=some o∧∀ vs,o.data≠.fields vs):=fun b hb=>by
 obtain ⟨o,ho,_⟩:=Z.there 0 h₁ st₀ b (Z.sub b hb)
 refine ⟨fun q=>?_,fun q=>hh b ((Z.fresh b hb).2 ((X.hfresh b q).resolve_right fun e=>by rw [ho] at e;cases e))⟩
 obtain ⟨i,hi⟩:=List.getElem?_of_mem q
 cases q':ι₁.vis[i]? with
 | none=>have:=X.fresh i b hi q';rw [ho] at this;cases this
 | some a=>have:=X.pre i a q';rw [hi] at this;cases this;exact (Z.fresh b hb).1 (List.mem_of_getElem? q')
theorem Itr.okAt{t:Expr}{I:Addr}{fp own hd:List Addr}{src:Src}{St:Nat→Heap→Prop}{h₁:Heap}{ι₁:Ad}{σ₁:zab}{D:List Addr}{i:Nat}(Z:Itr prog w hB A t I fp own hd src St h₁ ι₁ σ₁)(X:Evo D h₁ ι₁ σ₁ h ι σ)(st:St i h):Off ι own h:=Z.ownOk _ _ ι st fun b hb=>X.hid b (Z.hdIn b hb)
theorem zf3{a c:Addr}{m:Str→Option Value}{y:Option Value}(hn:h.Ns a m)(hc:h.IsCell c y):a≠c:=by
 rintro rfl
 obtain ⟨o,es,ep,ho,hd,_⟩:=hn
 obtain ⟨o',ho',hd'⟩:=hc
 rw [ho] at ho';cases ho'
 rw [hd] at hd';cases hd'
theorem IsCell.sameBut{a c:Addr}{y:Option Value}(hc:h.IsCell c y)(hs:Heap.SameBut a h h')(hne:c≠a):h'.IsCell c y:=by
 obtain ⟨o,ho,hd⟩:=hc;exact ⟨o,(hs.2 c hne).trans ho,hd⟩
theorem zbL{x z:Str}{c d:Addr}:∀{l:List (Str×Addr)},(l.Pairwise fun x y=>x.2≠y.2)→l.lookup x=some c→l.lookup z=some d→z≠x→d≠c
 | [],_,h,_,_=>by simp at h
 | (n,e)::r,hp,hx,hz,hne=>by
  rw [List.pairwise_cons] at hp
  rw [List.lookup_cons] at hx hz
  cases qx:x==n with
  | true=>
   rw [qx] at hx;cases hx
   have:(z==n)=false:=by
    cases qz:z==n with
    | false=>rfl
    | true=>exact (hne ((eq_of_beq qz).trans (eq_of_beq qx).symm)).elim
   rw [this] at hz
   exact fun q=>hp.1 (z,d) (mem_of_lookup hz) q.symm
  | false=>
   rw [qx] at hx
   cases qz:z==n with
   | true=>rw [qz] at hz;cases hz;exact hp.1 (x,c) (mem_of_lookup hx)
   | false=>rw [qz] at hz;exact zbL hp.2 hx hz hne
theorem Inv.setLocal{x:Str}{v:PV}{y:Value}{m:Str→Option Value}(I:Inv prog w hB env ρ fl h ι σ)(hx:env.kindOf x=some .local)(hm:h.Ns env.locals m)(hv:∀ x v,ρ x=some v→env.kindOf x=some .local→∃ y,m x=some y∧Rep h ι σ v y)
  (hn:h'.Ns env.locals (fun z=>if z=x then some y else m z)) (hs:Heap.SameBut env.locals h h') (r:Rep h ι σ v y):Inv prog w hB env (ρ.set x v) fl h' ι σ:=by
 have F:=I.fr
 have hk:∀ b o,b∉[env.locals]→h.get? b=some o→h'.get? b=some o:=fun b o hb e=>(hs.2 b (fun q=>hb (by rw [q];exact .head _))).trans e
 have ht:∀ b∈[env.locals],∃ o,h'.get? b=some o:=fun b hb=>by rw [List.mem_singleton.mp hb];obtain ⟨o,_,_,ho,_⟩:=hn;exact ⟨o,ho⟩
 have X:Evo [env.locals] h ι σ h' ι σ:=Evo.but hk ht
 have hO:Off ι [env.locals] h:=fun b hb=>.inr (F.noSeq b (by rw [List.mem_singleton.mp hb];exact .head _))
 have hnl:∀ b∈[env.locals],¬ zcO ι σ b:=fun b hb=>by rw [List.mem_singleton.mp hb];exact zaT (F.own _ (.head _)).1
 have cne:∀ c y,h.IsCell c y→c≠env.locals:=fun c y hc=>(zf3 hm hc).symm
 have up:∀ {c y},h.IsCell c y→h'.IsCell c y:=fun hc=>IsCell.sameBut hc hs (cne _ _ hc)
 refine ⟨fun b o e=>hk b o (fun q=>by rw [List.mem_singleton.mp q,(F.own _ (.head _)).2] at e;cases e) (I.stays b o e),I.store.but hk ht hO hnl (fun b hb q=>by rw [List.mem_singleton.mp hb] at q;exact ((F.off _ (.head _)).2 q).elim),?_,I.stk.evo I.store.len X fun b hb _=>?_⟩
 ·refine ⟨⟨_,hn,fun z u e k=>?_⟩,fun z u e k=>?_,fun z u e=>?_,fun z k=>?_,F.apart,F.own,fun b hb=>?_,F.off⟩
  ·by_cases hz:z=x
   ·subst hz
    simp only [Loc.set,if_true] at e;cases e
    exact ⟨y,by simp,r.evo' I.store.len X hO⟩
   ·simp only [Loc.set,hz,if_false] at e
    obtain ⟨y',hy,r'⟩:=hv z u e k
    exact ⟨y',by simp only [hz,if_false];exact hy,r'.evo' I.store.len X hO⟩
  ·have hz:z≠x:=fun q=>by rw [q,hx] at k;cases k
   simp only [Loc.set,hz,if_false] at e
   obtain ⟨c,y',hc,hy,r'⟩:=F.cel z u e k
   exact ⟨c,y',hc,up hy,r'.evo' I.store.len X hO⟩
  ·by_cases hz:z=x
   ·subst hz;exact .inl hx
   ·simp only [Loc.set,hz,if_false] at e;exact F.kinds z u e
  ·obtain ⟨c,y',hc,hy⟩:=F.cells z k;exact ⟨c,y',hc,up hy⟩
  ·obtain ⟨y',hy⟩:=F.cellsAt b hb;exact ⟨y',up hy⟩
 ·rw [List.mem_singleton.mp hb];obtain ⟨o,es,ep,ho,hd,_⟩:=hn;exact ⟨o,es,ep,ho,hd⟩
theorem Inv.setCell{x:Str}{v:PV}{y:Value}{c:Addr}{y₀:Option Value}(I:Inv prog w hB env ρ fl h ι σ)(hx:env.kindOf x=some .cell)(hc:env.cells.lookup x=some c)(hc₀:h.IsCell c y₀)
  (hn:h'.IsCell c (some y)) (hs:Heap.SameBut c h h') (r:Rep h ι σ v y):Inv prog w hB env (ρ.set x v) fl h' ι σ:=by
 have F:=I.fr
 have hmem:c∈dyn env:=.tail _ (List.mem_map_of_mem (f:=Prod.snd) (mem_of_lookup hc))
 have hk:∀ b o,b∉[c]→h.get? b=some o→h'.get? b=some o:=fun b o hb e=>(hs.2 b (fun q=>hb (by rw [q];exact .head _))).trans e
 have ht:∀ b∈[c],∃ o,h'.get? b=some o:=fun b hb=>by rw [List.mem_singleton.mp hb];obtain ⟨o,ho,_⟩:=hn;exact ⟨o,ho⟩
 have X:Evo [c] h ι σ h' ι σ:=Evo.but hk ht
 have hO:Off ι [c] h:=fun b hb=>.inr (F.noSeq b (by rw [List.mem_singleton.mp hb];exact hmem))
 have hnl:∀ b∈[c],¬ zcO ι σ b:=fun b hb=>by rw [List.mem_singleton.mp hb];exact zaT (F.own _ hmem).1
 refine ⟨fun b o e=>hk b o (fun q=>by rw [List.mem_singleton.mp q,(F.own _ hmem).2] at e;cases e) (I.stays b o e),I.store.but hk ht hO hnl (fun b hb q=>by rw [List.mem_singleton.mp hb] at q;exact ((F.off _ hmem).2 q).elim),?_,I.stk.evo I.store.len X fun b hb hf=>?_⟩
 ·refine ⟨?_,fun z u e k=>?_,fun z u e=>?_,fun z k=>?_,F.apart,F.own,fun b hb=>?_,F.off⟩
  ·obtain ⟨m,hm,hv⟩:=F.ns
   refine ⟨m,hm.sameBut hs (zf3 hm hc₀),fun z u e k=>?_⟩
   have hz:z≠x:=fun q=>by rw [q,hx] at k;cases k
   simp only [Loc.set,hz,if_false] at e
   obtain ⟨y',hy,r'⟩:=hv z u e k
   exact ⟨y',hy,r'.evo' I.store.len X hO⟩
  ·by_cases hz:z=x
   ·subst hz
    simp only [Loc.set,if_true] at e;cases e
    exact ⟨c,y,hc,hn,r.evo' I.store.len X hO⟩
   ·simp only [Loc.set,hz,if_false] at e
    obtain ⟨c',y',hc',hy,r'⟩:=F.cel z u e k
    exact ⟨c',y',hc',IsCell.sameBut hy hs (zbL F.apart hc hc' hz),r'.evo' I.store.len X hO⟩
  ·by_cases hz:z=x
   ·subst hz;exact .inr hx
   ·simp only [Loc.set,hz,if_false] at e;exact F.kinds z u e
  ·by_cases hz:z=x
   ·subst hz;exact ⟨c,_,hc,hn⟩
   ·obtain ⟨c',y',hc',hy⟩:=F.cells z k;exact ⟨c',y',hc',IsCell.sameBut hy hs (zbL F.apart hc hc' hz)⟩
  ·by_cases hbc:b=c
   ·subst hbc;exact ⟨_,hn⟩
   ·obtain ⟨y',hy⟩:=F.cellsAt b hb;exact ⟨y',IsCell.sameBut hy hs hbc⟩
 ·rw [List.mem_singleton.mp hb] at hf
  obtain ⟨o,es,n,ho,hd⟩:=I.stk.dicts c hf
  obtain ⟨o',ho',hd'⟩:=hc₀
  rw [ho] at ho';cases ho'
  rw [hd] at hd';cases hd'
theorem zk5(H:EnvOk env sc):(env.scope.kind==.class || (env.scope.kind==.module&&env.locals != env.globals))=false:=by rw [H.kind];rfl
theorem zch{x:Str}{v:PV}{y:Value}(H:EnvOk env sc)(I:Inv prog w hB env ρ fl s.heap ι σ)(hx:env.kindOf x=some .local∨env.kindOf x=some .cell)(r:Rep s.heap ι σ v y)(Q:Unit→Shared→Prop)(E:Value→Shared→Prop)
  (hQ:∀ h' tk,(∀ b o,b∉dyn env→s.heap.get? b=some o→h'.get? b=some o)→Inv prog w hB env (ρ.set x v) fl h' ι σ→Q () { s with heap:=h',toks:=tk }) :
  wpAny (model prog w) A (storeName env x y) Q E s:=by
 rcases hx with hx | hx
 ·obtain ⟨m,hm,hv⟩:=I.fr.ns
  exact wpAny_storeName_local hx hm (fun h' hn hs=>hQ h' _ (fun b o hb e=>(hs.2 b (fun q=>hb (by rw [q];exact .head _))).trans e) (I.setLocal hx hm hv hn hs r)) (zk5 H)
 ·obtain ⟨c,y₀,hc,hy⟩:=I.fr.cells x hx
  have hmem:c∈dyn env:=.tail _ (List.mem_map_of_mem (f:=Prod.snd) (mem_of_lookup hc))
  exact wpAny_storeName_cell H.kind hx hc hy fun h' hn hs=>hQ h' s.toks (fun b o hb e=>(hs.2 b (fun q=>hb (by rw [q];exact hmem))).trans e) (I.setCell hx hc hy hn hs r)
theorem zf6{x:Str}{v:PV}{y:Value}(H:EnvOk env sc)(I:Inv prog w hB env ρ fl s.heap ι σ)(hx:env.kindOf x=some .local)(r:Rep s.heap ι σ v y)(Q:Unit→Shared→Prop)(E:Value→Shared→Prop)
  (hQ:∀ h' tk,Heap.SameBut env.locals s.heap h'→Inv prog w hB env (ρ.set x v) fl h' ι σ→Q () { s with heap:=h',toks:=tk }) :
  wpAny (model prog w) A (storeName env x y) Q E s:=by
 obtain ⟨m,hm,hv⟩:=I.fr.ns
 exact wpAny_storeName_local hx hm (fun h' hn hs=>hQ h' _ hs (I.setLocal hx hm hv hn hs r)) (zk5 H)
theorem FrOk.sub{ρ':Loc}(F:FrOk hB env ρ h ι σ)(hs:∀ x v,ρ' x=some v→ρ x=some v):FrOk hB env ρ' h ι σ:=by
 refine ⟨?_,fun x v e=>F.cel x v (hs x v e),fun x v e=>F.kinds x v (hs x v e),F.cells,F.apart,F.own,F.cellsAt,F.off⟩
 obtain ⟨m,hn,hv⟩:=F.ns
 exact ⟨m,hn,fun x v e=>hv x v (hs x v e)⟩
theorem Inv.sub{ρ':Loc}(I:Inv prog w hB env ρ fl h ι σ)(hs:∀ x v,ρ' x=some v→ρ x=some v):Inv prog w hB env ρ' fl h ι σ:=⟨I.stays,I.store,I.fr.sub hs,I.stk⟩
theorem zcC(F:FrOk hB env ρ h ι σ):∀ b∈dyn env,∃ o,h.get? b=some o:=fun b hb=>by
 rcases List.mem_cons.mp hb with rfl | hb
 ·obtain ⟨m,⟨o,_,_,ho,_⟩,_⟩:=F.ns;exact ⟨o,ho⟩
 ·obtain ⟨y,o,ho,_⟩:=F.cellsAt b hb;exact ⟨o,ho⟩
end
noncomputable def clOf(env:Env):List (Str×NameKind)→List (Str×Addr)→List (Str×Addr)
 | [],acc=>acc
 | (x,k)::r,acc=>if (k==NameKind.free)=true then clOf env r ((x,(env.cells.lookup x).getD 0)::acc) else clOf env r acc
theorem zfe{scope:Scope}{env:Env}(hfree:∀ x∈scope.names,x.2=.free→∃ c,env.cells.lookup x.1=some c):closureFor scope env=pure (clOf env scope.names []):=by
 simp only [closureFor]
 generalize ([]:List (Str×Addr))=acc
 revert hfree
 generalize scope.names=l
 intro hfree
 induction l generalizing acc with
 | nil=>simp [clOf]
 | cons x r ih=>
  obtain ⟨n,k⟩:=x
  simp only [List.forIn_cons]
  cases hk:k==NameKind.free with
  | true=>
   obtain ⟨c,hc⟩:=hfree (n,k) (.head _) (eq_of_beq hk)
   have:cellOf env n=pure c:=by unfold cellOf;rw [hc]
   simp only [hk,if_true,this,pure_bind,clOf,hc,Option.getD_some]
   exact ih _ fun x hx=>hfree x (.tail _ hx)
  | false=>
   simp only [hk,Bool.false_eq_true,if_false,pure_bind,clOf]
   exact ih _ fun x hx=>hfree x (.tail _ hx)
theorem zeF{env:Env}{c:Str×Addr}:∀{l:List (Str×NameKind)}{acc:List (Str×Addr)},(∀ x∈l,x.2=.free→∃ c,env.cells.lookup x.1=some c)→c∈clOf env l acc→c∈acc∨((c.1,NameKind.free)∈l∧env.cells.lookup c.1=some c.2)
 | [],_,_,h=>.inl h
 | (x,k)::r,acc,hf,h=>by
  unfold clOf at h
  split at h
  ·rename_i hk
   have hk:=eq_of_beq hk;subst hk
   obtain ⟨d,hd⟩:=hf (x,.free) (.head _) rfl
   rcases zeF (fun y hy=>hf y (.tail _ hy)) h with h | ⟨h1,h2⟩
   ·rcases List.mem_cons.mp h with rfl | h
    ·exact .inr ⟨.head _,by simp only [hd,Option.getD_some]⟩
    ·exact .inl h
   ·exact .inr ⟨.tail _ h1,h2⟩
  ·rcases zeF (fun y hy=>hf y (.tail _ hy)) h with h | ⟨h1,h2⟩
   ·exact .inl h
   ·exact .inr ⟨.tail _ h1,h2⟩
theorem zgL{env:Env}{x:Str}{c:Addr}:∀{l:List (Str×NameKind)}{acc:List (Str×Addr)},(x,NameKind.free)∈l→env.cells.lookup x=some c→(x,c)∈clOf env l acc
 | (y,k)::r,acc,hm,hc=>by
  have sub:∀{l:List (Str×NameKind)}{acc:List (Str×Addr)},(x,c)∈acc→(x,c)∈clOf env l acc:=by
   intro l
   induction l with
   | nil=>intro acc h;exact h
   | cons z r ih=>intro acc h;obtain ⟨z,kz⟩:=z;unfold clOf;split;exact ih (.tail _ h);exact ih h
  unfold clOf
  rcases List.mem_cons.mp hm with q | hm
  ·cases q
   simp only [beq_self_eq_true,if_true]
   exact sub (by rw [hc];exact .head _)
  ·split
   ·exact zgL hm hc
   ·exact zgL hm hc
theorem zd2{env:Env}:∀{l:List (Str×NameKind)}{acc:List (Str×Addr)},(l.map (·.1)).Nodup→(acc.map (·.1)).Nodup→(∀ x∈l,x.1∉acc.map (·.1))→((clOf env l acc).map (·.1)).Nodup
 | [],_,_,h,_=>h
 | (x,k)::r,acc,hl,ha,hd=>by
  rw [List.map_cons,List.nodup_cons] at hl
  unfold clOf
  split
  ·refine zd2 hl.2 ?_ fun y hy=>?_
   ·rw [List.map_cons,List.nodup_cons];exact ⟨hd (x,k) (.head _),ha⟩
   ·rw [List.map_cons,List.mem_cons]
    rintro (q | q)
    ·exact hl.1 (q▸List.mem_map_of_mem (f:=Prod.fst) hy)
    ·exact hd y (.tail _ hy) q
  ·exact zd2 hl.2 ha fun y hy=>hd y (.tail _ hy)
theorem za3{β:Type}{x:Str}{c:β}:∀{l:List (Str×β)},(l.map (·.1)).Nodup→(x,c)∈l→l.lookup x=some c
 | (y,d)::r,hn,hm=>by
  rw [List.map_cons,List.nodup_cons] at hn
  rw [List.lookup_cons]
  rcases List.mem_cons.mp hm with q | hm'
  ·cases q;simp
  ·have:(x==y)=false:=by
    cases q:x==y with
    | false=>rfl
    | true=>
     have e:=eq_of_beq q
     subst e
     exact (hn.1 (List.mem_map.mpr ⟨_,hm',rfl⟩)).elim
   rw [this];exact za3 hn.2 hm'
theorem zfH{env:Env}(ha:env.cells.Pairwise fun x y=>x.2≠y.2):∀{l:List (Str×Addr)},(l.map (·.1)).Nodup→(∀ x∈l,env.cells.lookup x.1=some x.2)→l.Pairwise fun x y=>x.2≠y.2
 | [],_,_=>.nil
 | x::r,hn,hc=>by
  rw [List.map_cons,List.nodup_cons] at hn
  refine List.pairwise_cons.mpr ⟨fun y hy=>?_,zfH ha hn.2 fun z hz=>hc z (.tail _ hz)⟩
  exact zbL ha (hc y (.tail _ hy)) (hc x (.head _)) fun q=>hn.1 (q▸List.mem_map_of_mem (f:=Prod.fst) hy)
structure CompOk (sc csc:Scope) (it:Expr):Prop where
 kind:csc.kind=.function
 loc:∀ x,(x,NameKind.local)∈csc.names→csc.names.lookup x=some .local∧x≠"__debug__"
 free:∀ x,(x,NameKind.free)∈csc.names→sc.names.lookup x=some .cell∧csc.names.lookup x=some .free
 glob:∀ x,(x,NameKind.globalImplicit)∈csc.names→x≠"__debug__"
 kinds:∀ x k,(x,k)∈csc.names→k=.local∨k=.free∨k=.globalImplicit
 nodup:(csc.names.map (·.1)).Nodup
 it:∀(env:Env)(x:Value),foldedSetIterable it env x=pure x
theorem zfc{sc csc:Scope}{it:Expr}(h:zmD sc csc it=true):CompOk sc csc it:=by
 simp only [zmD,Bool.and_eq_true,decide_eq_true_eq,List.all_eq_true] at h
 obtain ⟨⟨⟨hk,hn⟩,hd⟩,hi⟩:=h
 refine ⟨hk,fun x hx=>?_,fun x hx=>?_,fun x hx=>?_,fun x k hx=>?_,hd,fun env x=>?_⟩
 ·have:=hn _ hx;simpa using this
 ·have:=hn _ hx;simpa using this
 ·have:=hn _ hx;simpa using this
 ·have:=hn _ hx
  cases k <;> simp at this ⊢
 ·cases it <;> first | rfl | cases hi
section
variable {prog:Program} {w:World} {hB:Heap} {A:Around} {s:Shared} {ι:Ad} {σ:zab} {env:Env} {ρ:Loc} {fl:List Env} {sc csc:Scope} {K:Frag}
theorem zcT{env:Env}{x:Str}:∀{names:List (Str×NameKind)},
  (names.map fun (n,k)=>if (k==NameKind.free&&env.scope.kind==.function&&env.kindOf n==some .cell) then (n,NameKind.cell) else (n,k)).lookup x =
   (names.lookup x).map fun k=>if (k==NameKind.free&&env.scope.kind==.function&&env.kindOf x==some .cell) then NameKind.cell else k
 | []=>rfl
 | (n,k)::r=>by
  have ih:=@zcT env x r
  show List.lookup x ((if (k==NameKind.free&&env.scope.kind==.function&&env.kindOf n==some .cell)=true then (n,NameKind.cell) else (n,k))::_)=_
  cases hx:x==n with
  | true=>
   have:=eq_of_beq hx;subst this
   by_cases hc:(k==NameKind.free&&env.scope.kind==.function&&env.kindOf x==some .cell)=true
   ·rw [if_pos hc];simp only [List.lookup_cons,hx,Option.map_some,hc,if_true]
   ·rw [if_neg hc];simp only [List.lookup_cons,hx,Option.map_some,hc]
    rfl
  | false=>
   by_cases hc:(k==NameKind.free&&env.scope.kind==.function&&env.kindOf n==some .cell)=true
   ·rw [if_pos hc];simp only [List.lookup_cons,hx];exact ih
   ·rw [if_neg hc];simp only [List.lookup_cons,hx];exact ih
theorem za2{cl:List (Str×Addr)}{C:Addr}(x:Str):(compEnvC csc cl C env).kindOf x=(csc.names.lookup x).map fun k=>if (k==NameKind.free&&env.scope.kind==.function&&env.kindOf x==some .cell) then NameKind.cell else k:=
 zcT
theorem CompOk.envOk{it:Expr}(O:CompOk sc csc it)(H:EnvOk env sc)(cl:List (Str×Addr))(C:Addr):EnvOk (compEnvC csc cl C env) csc where
 kind:=O.kind
 globals:=H.globals
 builtins:=H.builtins
 loc:=fun x hx=>by rw [za2,hx];rfl
 cel:=fun x hx=>by rw [za2,hx];rfl
 glob:=fun x hx=>by rw [za2,hx];rfl
 nodebug:=by
  rw [za2]
  cases hx:csc.names.lookup ("__debug__":Str) with
  | none=>rfl
  | some k=>
   have hm:=mem_of_lookup hx
   rcases O.kinds _ _ hm with rfl | rfl | rfl
   ·exact ((O.loc _ hm).2 rfl).elim
   ·have:=H.cel _ (O.free _ hm).1;rw [H.nodebug] at this;cases this
   ·exact (O.glob _ hm rfl).elim
theorem CompOk.frame{it:Expr}{h':Heap}{ι':Ad}{C:Addr}{m:Str→Option Value}(O:CompOk sc csc it)(H:EnvOk env sc)(F:FrOk hB env ρ h' ι' σ)(hn:h'.Ns C m)(hnl:C∉ι'.vis∧C∉ι'.hid)(hb:hB.get? C=none) :
  FrOk hB (compEnvC csc (clOf env csc.names []) C env) (inner csc ρ) h' ι' σ:=by
 have hfree:∀ x∈csc.names,x.2=.free→∃ c,env.cells.lookup x.1=some c:=fun x hx hk=>by
  obtain ⟨x,k⟩:=x
  dsimp only at hk;subst hk
  obtain ⟨c,_,hc,_⟩:=F.cells x (H.cel _ (O.free x hx).1)
  exact ⟨c,hc⟩
 have hmem:∀ c∈clOf env csc.names [],(c.1,NameKind.free)∈csc.names∧env.cells.lookup c.1=some c.2:=fun c hc=>(zeF hfree hc).elim (fun q=>nomatch q) id
 have hnd:((clOf env csc.names []).map (·.1)).Nodup:=zd2 O.nodup .nil fun _ _=>List.not_mem_nil
 have isFree:∀ x v,inner csc ρ x=some v→csc.names.lookup x=some .free∧ρ x=some v:=fun x v e=>by
  unfold inner at e
  split at e
  ·rename_i q;exact ⟨q,e⟩
  ·cases e
 have kCell:∀ x,(compEnvC csc (clOf env csc.names []) C env).kindOf x=some .cell→(x,NameKind.free)∈csc.names:=fun x hx=>by
  rw [za2] at hx
  cases q:csc.names.lookup x with
  | none=>rw [q] at hx;cases hx
  | some k=>
   have hm:=mem_of_lookup q
   rw [q] at hx
   rcases O.kinds _ _ hm with rfl | rfl | rfl
   ·cases hx
   ·exact hm
   ·cases hx
 have look:∀ x c,(x,NameKind.free)∈csc.names→env.cells.lookup x=some c→(clOf env csc.names []).lookup x=some c:=fun x c hx hc=>za3 hnd (zgL hx hc)
 refine ⟨⟨m,hn,fun x v e k=>?_⟩,fun x v e k=>?_,fun x v e=>?_,fun x k=>?_,?_,fun b hb'=>?_,fun b hb'=>?_,fun b hb'=>?_⟩
 ·obtain ⟨q,_⟩:=isFree x v e
  rw [za2,q] at k
  have:=H.cel _ (O.free x (mem_of_lookup q)).1
  simp [this,H.kind] at k
 ·obtain ⟨q,e'⟩:=isFree x v e
  obtain ⟨c,y,hc,hy,r⟩:=F.cel x v e' (H.cel _ (O.free x (mem_of_lookup q)).1)
  exact ⟨c,y,look x c (mem_of_lookup q) hc,hy,r⟩
 ·obtain ⟨q,_⟩:=isFree x v e
  have:=H.cel _ (O.free x (mem_of_lookup q)).1
  right;rw [za2,q];simp [this,H.kind]
 ·have hx:=kCell x k
  obtain ⟨c,y,hc,hy⟩:=F.cells x (H.cel _ (O.free x hx).1)
  exact ⟨c,y,look x c hx hc,hy⟩
 ·exact zfH F.apart hnd fun x hx=>(hmem x hx).2
 ·rcases List.mem_cons.mp hb' with rfl | hb'
  ·exact ⟨fun q=>q.elim (fun ⟨i,c,hi,_⟩=>hnl.1 (List.mem_of_getElem? hi)) hnl.2,hb⟩
  ·obtain ⟨c,hc,rfl⟩:=List.mem_map.mp hb'
   exact F.own _ (.tail _ (List.mem_map_of_mem (f:=Prod.snd) (mem_of_lookup (hmem c hc).2)))
 ·obtain ⟨c,hc,rfl⟩:=List.mem_map.mp hb'
  exact F.cellsAt _ (List.mem_map_of_mem (f:=Prod.snd) (mem_of_lookup (hmem c hc).2))
 ·rcases List.mem_cons.mp hb' with rfl | hb'
  ·exact hnl
  ·obtain ⟨c,hc,rfl⟩:=List.mem_map.mp hb'
   exact F.off _ (.tail _ (List.mem_map_of_mem (f:=Prod.snd) (mem_of_lookup (hmem c hc).2)))
theorem CompOk.dyn{it:Expr}{h':Heap}{ι':Ad}{C:Addr}(O:CompOk sc csc it)(H:EnvOk env sc)(F:FrOk hB env ρ h' ι' σ):∀ b∈dyn (compEnvC csc (clOf env csc.names []) C env),b=C∨b∈Mine.dyn env:=by
 have hfree:∀ x∈csc.names,x.2=.free→∃ c,env.cells.lookup x.1=some c:=fun x hx hk=>by
  obtain ⟨x,k⟩:=x
  dsimp only at hk;subst hk
  obtain ⟨c,_,hc,_⟩:=F.cells x (H.cel _ (O.free x hx).1)
  exact ⟨c,hc⟩
 intro b hb
 rcases List.mem_cons.mp hb with rfl | hb
 ·exact .inl rfl
 ·obtain ⟨c,hc,rfl⟩:=List.mem_map.mp hb
  rcases zeF hfree hc with q | ⟨_,q⟩
  ·exact nomatch q
  ·exact .inr (.tail _ (List.mem_map_of_mem (f:=Prod.snd) (mem_of_lookup q)))
structure CompEnd (prog:Program) (w:World) (hB:Heap) (h₁:Heap) (ι₁:Ad) (σ₁:zab) (D C:Addr) (H:Heap) (ι':Ad) (σ':zab) (ys:List PV):Prop where
 evo:Evo [] h₁ ι₁ σ₁ H ι' σ'
 store:StoreOk prog w hB H ι' σ'
 stays:hB.StaysIn H
 hid:D∈ι'.hid
 newD:h₁.get? D=none
 newC:h₁.get? C=none
 ne:D≠C
 ns:∃ m,H.Ns C m
 offC:C∉ι'.vis∧C∉ι'.hid
 baseC:hB.get? C=none
 lst:∃ vs,H.PlainList D vs∧RepL H ι' σ' ys vs.toList
noncomputable abbrev zej(cx:Cx)(n:Nat)(csc:Scope)(ρ:Loc)(t elt:Expr)(ifs:List Expr):PV→M (Option PV):=zqN ρ csc (fun ρ' e=>ev { cx with md:=⟨false,cx.md.lp⟩ } n csc ρ' e) t elt ifs
end
section
variable {prog:Program} {w:World} {hB:Heap} {A:Around} {s:Shared} {ι:Ad} {σ:zab} {env:Env} {ρ:Loc} {fl:List Env} {sc:Scope} {D:List Addr}
theorem zd5{ρ':Loc}{v:PV}{t:Expr}(hb:zfv sc ρ v t=some ρ'):∃ x p,t=.Name x p∧(sc.names.lookup x=some .local∨sc.names.lookup x=some .cell)∧ρ'=ρ.set x v:=by
 obtain ⟨x,_,hb⟩:=Option.bind_eq_some_iff.mp hb
 unfold zes at hb
 refine ⟨x.1.1,x.1.2,x.2,?_⟩
 cases q:sc.names.lookup x.1.1 with
 | none=>rw [q] at hb;cases hb
 | some k=>
  rw [q] at hb
  cases k with
  | «local»=>cases hb;exact ⟨.inl rfl,rfl⟩
  | cell=>cases hb;exact ⟨.inr rfl,rfl⟩
  | _=>cases hb
theorem zme(H:EnvOk env sc){x:Str}(h:sc.names.lookup x=some .local∨sc.names.lookup x=some .cell):env.kindOf x=some .local∨env.kindOf x=some .cell:=h.imp (H.loc x) (H.cel x)
theorem zem{t:Expr}{ts:List Expr}{vs:List PV}{ρ':Loc}(hb:zbk sc ρ (t::ts) vs=some ρ'):∃ v vs' y py,vs=v::vs'∧t=.Name y py∧(sc.names.lookup y=some .local∨sc.names.lookup y=some .cell)∧zbk sc (ρ.set y v) ts vs'=some ρ':=by
 cases vs with
 | nil=>cases hb
 | cons v vs=>
  obtain ⟨ρ₁,h1,h2⟩:=Option.bind_eq_some_iff.mp hb
  obtain ⟨y,py,e,hk,rfl⟩:=zd5 h1
  exact ⟨v,vs,y,py,rfl,e,hk,h2⟩
noncomputable def zjF(prog:Program)(w:World)(hB:Heap)(A:Around)(ι:Ad)(σ:zab)(env:Env)(fl:List Env)(sc:Scope)(D:List Addr):Prop:=
 ∀(y:Str)(v:PV)(yv:Value)(ρ:Loc)(s:Shared),(sc.names.lookup y=some .local∨sc.names.lookup y=some .cell)→Inv prog w hB env ρ fl s.heap ι σ→Rep s.heap ι σ v yv→∀(Q:Unit→Shared→Prop)(E:Value→Shared→Prop),
  (∀ h' tk,(∀ b o,b∉D→s.heap.get? b=some o→h'.get? b=some o)→Inv prog w hB env (ρ.set y v) fl h' ι σ→Q () { s with heap:=h',toks:=tk })→wpAny (model prog w) A (storeName env y yv) Q E s
theorem zhd(H:EnvOk env sc):zjF prog w hB A ι σ env fl sc (dyn env):=fun y v yv ρ s hk I r Q E hQ=>zch H I (zme H hk) r Q E hQ
theorem zk4(H:EnvOk env sc)(hc:∀ y,sc.names.lookup y≠some .cell):zjF prog w hB A ι σ env fl sc [env.locals]:=fun y v yv ρ s hk I r Q E hQ=>
 zf6 H I (H.loc y (hk.resolve_right (hc y))) r Q E fun h' tk hs I'=>hQ h' tk (fun b o hb e=>(hs.2 b fun q=>hb (by rw [q];exact .head _)).trans e) I'
theorem zfx(hD:∀ b∈D,b∈dyn env)(hS:zjF prog w hB A ι σ env fl sc D){ρ':Loc}(Q:Unit→Shared→Prop)(E:Value→Shared→Prop)(ts:List Expr):∀(vs:List PV)(xs:List Value)(ρ:Loc)(s:Shared),zbk sc ρ ts vs=some ρ'→Inv prog w hB env ρ fl s.heap ι σ→RepL s.heap ι σ vs xs→
  (∀ h' tk,(∀ b o,b∉D→s.heap.get? b=some o→h'.get? b=some o)→Inv prog w hB env ρ' fl h' ι σ→Q () { s with heap:=h',toks:=tk })→
  wpAny (model prog w) A (assignInOrder ((assignEach ts env).map (·.2)) xs) Q E s:=by
 induction ts with
 | nil=>
  intro vs xs ρ s hb I r hQ
  cases vs with
  | nil=>cases hb;cases r;exact wpAny_pure (hQ s.heap s.toks (fun _ _ _ e=>e) I)
  | cons _ _=>cases hb
 | cons t ts ih=>
  intro vs xs ρ s hb I r hQ
  obtain ⟨v,vs,y,py,rfl,rfl,hk,hb₂⟩:=zem hb
  cases r with
  | cons r rs=>
   refine wpAny_bind (wpAny_holding (wpAny_assign_Name (hS y v _ ρ s hk I r _ _ fun h₁ tk₁ hk₁ I₁=>?_)))
   have X₁:Evo D s.heap ι σ h₁ ι σ:=Evo.but hk₁ fun b hb=>zcC I₁.fr b (hD b hb)
   exact ih vs _ _ { s with heap:=h₁,toks:=tk₁ } hb₂ I₁ (rs.evo I.store.len X₁ fun b hb=>I.fr.noSeq b (hD b hb)) fun h₂ tk₂ hk₂ I₂=>hQ h₂ tk₂ (fun b o hb e=>hk₂ b o hb (hk₁ b o hb e)) I₂
theorem zdE{ρ':Loc}(ts:List Expr):∀{vs:List PV}{ρ:Loc},zbk sc ρ ts vs=some ρ'→ts.length=vs.length∧(assignEach ts env).length=ts.length∧(assignEach ts env).findIdx? (·.1)=none:=by
 induction ts with
 | nil=>
  intro vs ρ hb
  cases vs with
  | nil=>exact ⟨rfl,rfl,rfl⟩
  | cons _ _=>cases hb
 | cons t ts ih=>
  intro vs ρ hb
  obtain ⟨v,vs,y,py,rfl,rfl,hk,hb₂⟩:=zem hb
  obtain ⟨h1,h2,h3⟩:=ih hb₂
  refine ⟨congrArg Nat.succ h1,congrArg Nat.succ h2,?_⟩
  show List.findIdx? _ ((false,assign (.Name y py) env)::assignEach ts env)=_
  rw [List.findIdx?_cons,h3];rfl
theorem ziU{t:Expr}{v:PV}{y:Value}{ρ':Loc}(hh:A.handled=none)(hD:∀ b∈D,b∈dyn env)(hS:zjF prog w hB A ι σ env fl sc D)(hb:zgO sc ρ t v=some ρ')(I:Inv prog w hB env ρ fl s.heap ι σ)(r:Rep s.heap ι σ v y)(Q:Unit→Shared→Prop)(E:Value→Shared→Prop)
  (hQ:∀ h' tk,(∀ b o,b∉D→s.heap.get? b=some o→h'.get? b=some o)→Inv prog w hB env ρ' fl h' ι σ→Q () { s with heap:=h',toks:=tk }):wpAny (model prog w) A (assign t env y) Q E s:=by
 have one:zfv sc ρ v t=some ρ'→wpAny (model prog w) A (assign t env y) Q E s:=fun hb=>by
  obtain ⟨x,p,rfl,hk,rfl⟩:=zd5 hb
  exact wpAny_assign_Name (hS x v y ρ s hk I r Q E hQ)
 cases t with
 | Tuple ts k p=>
  obtain ⟨xs,hv,hb⟩:=Option.bind_eq_some_iff.mp hb
  cases v with
  | tup ys=>
   cases hv
   obtain ⟨a,vs,m,rfl,hp,nl,rl⟩:=r.inv
   obtain ⟨b1,b2,b3⟩:=zdE (env:=env) ts hb
   refine wpAny_assign_Tuple hh ⟨_,hp,rfl,_,rfl⟩ ((b2.trans b1).trans rl.length) b3 fun h₂ hx=>?_
   have hk:∀ b o,s.heap.get? b=some o→h₂.get? b=some o:=fun b o e=>hx b o (Nat.ne_of_lt (Heap.lt_size e)) e
   have X₂:Step prog w hB s.heap ι σ h₂ ι σ:=Step.keeps I.store I.stays hk
   exact zfx hD hS Q E ts xs vs.toList ρ { s with heap:=h₂ } hb (I.step X₂) (rl.step I.store.len X₂) fun h₃ tk₃ hk₃ I₃=>hQ h₃ tk₃ (fun b o hb e=>hk₃ b o hb (hk b o e)) I₃
  | _=>cases hv
 | _=>exact one hb
theorem zf1{t:Expr}{v:PV}{ρ':Loc}(hb:zfv sc ρ v t=some ρ'){z:Str}(hz:sc.names.lookup z≠some .local∧sc.names.lookup z≠some .cell):ρ' z=ρ z:=by
 obtain ⟨x,p,rfl,hk,rfl⟩:=zd5 hb
 have:z≠x:=fun q=>by rw [q] at hz;exact hk.elim hz.1 hz.2
 unfold Loc.set;rw [if_neg this]
theorem zel{z:Str}(hz:sc.names.lookup z≠some .local∧sc.names.lookup z≠some .cell):∀(ts:List Expr){vs:List PV}{ρ ρ':Loc},zbk sc ρ ts vs=some ρ'→ρ' z=ρ z
 | [],vs,ρ,ρ',hb=>by
  cases vs with
  | nil=>cases hb;rfl
  | cons _ _=>cases hb
 | t::ts,vs,ρ,ρ',hb=>by
  cases vs with
  | nil=>cases hb
  | cons v vs=>
   obtain ⟨ρ₁,h1,h2⟩:=Option.bind_eq_some_iff.mp hb
   exact (zel hz ts h2).trans (zf1 h1 hz)
theorem zkB{t:Expr}{v:PV}{ρ':Loc}(hb:zgO sc ρ t v=some ρ'){z:Str}(hz:sc.names.lookup z≠some .local∧sc.names.lookup z≠some .cell):ρ' z=ρ z:=by
 have one:zfv sc ρ v t=some ρ'→ρ' z=ρ z:=fun hb=>zf1 hb hz
 cases t with
 | Tuple ts k p=>
  obtain ⟨xs,_,hb⟩:=Option.bind_eq_some_iff.mp hb
  exact zel hz ts hb
 | _=>exact one hb
end
noncomputable def zrs(E:Expr→M PV)(elt:Expr)(ifs:List Expr):M (Option PV):=
 match ifs with
 | []=>(E elt).bind fun y=>M.ret (some y)
 | c::r=>match r with
  | []=>(E c).bind fun cv=>(zap cv).bind fun b=>M.cond b ((E elt).bind fun y=>M.ret (some y)) (M.ret Option.none)
  | _::_=>M.fail
theorem zpa{α β γ:Type}(o:Option β)(f:β→Option γ)(g:γ→M α):(M.lift (o.bind f)).bind g=(M.lift o).bind fun a=>(M.lift (f a)).bind g:=by cases o <;> rfl
theorem zfn{α:Type}(sc:Scope)(k:Loc→M α):∀(ts:List Expr)(vs:List PV)(ρ:Loc),zgQ sc ρ ts vs k=(M.lift (zbk sc ρ ts vs)).bind k
 | [],vs,ρ=>by cases vs <;> rfl
 | t::ts,vs,ρ=>by
  cases vs with
  | nil=>rfl
  | cons v vs=>exact Eq.trans (congrArg (M.bind (M.lift (zfv sc ρ v t))) (funext fun ρ'=>zfn sc k ts vs ρ')) (zpa _ _ _).symm
theorem zmL{α:Type}(sc:Scope)(ρ:Loc)(t:Expr)(v:PV)(k:Loc→M α):zop sc ρ t v k=(M.lift (zgO sc ρ t v)).bind k:=by
 cases t with
 | Tuple ts a p=>cases v with
  | tup vs=>exact zfn sc k ts vs ρ
  | _=>rfl
 | _=>rfl
theorem zlS{α:Type}{x:M α}{σ:zab}(h:M.noErr x σ≠.stuck):∃ a σ',x σ=.ok a σ'∧M.noErr x σ=.ok a σ':=by
 unfold M.noErr at h ⊢
 cases q:x σ with
 | ok a σ'=>exact ⟨a,σ',rfl,rfl⟩
 | err=>rw [q] at h;exact (h rfl).elim
 | stuck=>rw [q] at h;exact (h rfl).elim
theorem zfZ(l:List (Nat×List PV))(σ:zab):chkW l σ=.ok () σ∨chkW l σ=.stuck:=by
 induction l with
 | nil=>exact .inl rfl
 | cons p r ih=>
  obtain ⟨i,xs⟩:=p
  unfold chkW
  by_cases q:σ[i]?=some (.list xs)
  ·rw [if_pos q];exact ih
  ·rw [if_neg q];exact .inr rfl
section
variable {prog:Program} {w:World} {hB:Heap} {A:Around} {s:Shared} {ι:Ad} {σ:zab} {env cenv:Env} {ρ:Loc} {fl:List Env} {sc csc:Scope} {K:Frag}
theorem znV{E:Expr→M PV}{elt:Expr}{ρ':Loc}{o:Option PV}{σ₂:zab}(IH:EvIH prog w hB A cenv ρ' fl E)(I:Inv prog w hB cenv ρ' fl s.heap ι σ) (hr:((E elt).bind fun y=>M.ret (some y)) σ=.ok o σ₂) (Qs:Value→Shared→Prop) (Er:Value→Shared→Prop)
  (hs:∀ y x h' tk dr ι',o=some y→Step prog w hB s.heap ι σ h' ι' σ₂→Rep h' ι' σ₂ y x→Qs x { s with heap:=h',toks:=tk,drawn:=dr }):wpAny (model prog w) A (eval elt cenv) Qs Er s:=by
 obtain ⟨y,σ',e,e'⟩:=zdD hr
 cases e'
 refine IH elt s ι σ I _ _ (fun q=>?_) (fun y' σ'' q x h' tk dr ι' X r=>?_) (fun C σ' q _ _ _ _ _ _ _=>?_)
 ·rw [e] at q;cases q
 ·rw [e] at q;cases q;exact hs y x h' tk dr ι' rfl X r
 ·rw [e] at q;cases q
theorem zh5{cx:Cx}{n:Nat}{elt:Expr}{ifs:List Expr}{ρ':Loc}(hu:A.units+600<cLine)(IH:∀ k,k≤n→EvIH prog w hB A cenv ρ' fl (ev cx k csc ρ'))(I:Inv prog w hB cenv ρ' fl s.heap ι σ)
  {o:Option PV} {σ₂:zab} (hr:zrs (ev cx n csc ρ') elt ifs σ=.ok o σ₂) (Qs:Value→Shared→Prop) (Qn:Shared→Prop) (E:Value→Shared→Prop)
  (hs:∀ y x h' tk dr ι',o=some y→Step prog w hB s.heap ι σ h' ι' σ₂→Rep h' ι' σ₂ y x→Qs x { s with heap:=h',toks:=tk,drawn:=dr })
  (hn:∀ h' tk dr ι',o=none→Step prog w hB s.heap ι σ h' ι' σ₂→Qn { s with heap:=h',toks:=tk,drawn:=dr }) :
  wpAny (model prog w) A (forIn ifs true fun c r=>if r=true then do let ok ← isTrue c cenv (eval c cenv);pure (ForInStep.yield ok) else pure (ForInStep.yield r)) (fun ok s₃=>
   if ok=true then wpAny (model prog w) A (eval elt cenv) Qs E s₃ else Qn s₃) E s:=by
 cases ifs with
 | nil=>exact wpAny_tests_nil (by rw [if_pos rfl];exact znV (IH n (Nat.le_refl _)) I hr Qs E hs)
 | cons c r=>
  cases r with
  | cons _ _=>cases hr
  | nil=>
   refine wpAny_tests_one ?_
   have hr:(((ev cx n csc ρ' c).bind zap).bind fun b=>M.cond b ((ev cx n csc ρ' elt).bind fun y=>M.ret (some y)) (M.ret Option.none)) σ=.ok o σ₂:=(zai _ _ _).trans hr
   obtain ⟨b,σ',e,hr'⟩:=zdD hr
   refine zdK (A:=A) (prog:=prog) (w:=w) (hB:=hB) (env:=cenv) (fl:=fl) (sc:=csc) hu n IH c s ι σ I _ _ (fun q=>?_) (fun b' τ q x h' tk dr ι' X r=>?_) (fun C τ q _ _ _ _ _ _ _=>?_)
   ·rw [e] at q;cases q
   ·rw [e] at q;cases q;cases r
    cases b with
    | true=>rw [if_pos rfl];exact znV (s:={ s with heap:=h',toks:=tk,drawn:=dr }) (IH n (Nat.le_refl _)) (I.step X) hr' Qs E fun y x' h'' tk' dr' ι'' ho X' r'=>hs y x' h'' tk' dr' ι'' ho (X.trans I.store.len X') r'
    | false=>rw [if_neg Bool.false_ne_true];cases hr';exact hn h' tk dr ι' rfl X
   ·rw [e] at q;cases q
structure CompFix (prog:Program) (w:World) (hB:Heap) (A:Around) (t:Expr) (cenv:Env) (I D C:Addr) (fp own hd:List Addr) (src:Src) (St:Nat→Heap→Prop) (h₁:Heap) (ι₁:Ad) (σ₁:zab):Prop where
 loc:cenv.locals=C
 len:ι₁.vis.length=σ₁.length
 Z:Itr prog w hB A t I fp own hd src St h₁ ι₁ σ₁
 st₀:St 0 h₁
 own:∀ b∈own,hB.get? b=none
 dyn:∀ b∈dyn cenv,b∉fp
 newD:h₁.get? D=none
 newC:h₁.get? C=none
 ne:D≠C
 notDyn:D∉Mine.dyn cenv
 baseD:hB.get? D=none
structure CompAt (prog:Program) (w:World) (hB:Heap) (cenv:Env) (ρi:Loc) (fl:List Env) (own:List Addr) (St:Nat→Heap→Prop) (h₁:Heap) (ι₁:Ad) (σ₁:zab) (D:Addr) (H:Heap) (ι':Ad) (σ':zab) (ys:List PV) (vs:Array Value) (j:Nat):Prop where
 inv:Inv prog w hB cenv ρi fl H ι' σ'
 evo:Evo own h₁ ι₁ σ₁ H ι' σ'
 hid:D∈ι'.hid
 lst:H.PlainList D vs
 rep:RepL H ι' σ' ys vs.toList
 st:St j H
section
variable {t:Expr} {I D C:Addr} {fp own hd:List Addr} {src:Src} {St:Nat→Heap→Prop} {h₁ H h':Heap} {ι₁ ι' ι'':Ad} {σ₁ σ' σ'':zab} {ρi:Loc} {ys:List PV} {vs:Array Value} {j:Nat}
theorem CompFix.fpT(F:CompFix prog w hB A t cenv I D C fp own hd src St h₁ ι₁ σ₁):∀ b∈fp,∃ o,h₁.get? b=some o:=fun b hb=>by obtain ⟨o,ho,_⟩:=F.Z.there 0 h₁ F.st₀ b hb;exact ⟨o,ho⟩
theorem CompFix.D_fp(F:CompFix prog w hB A t cenv I D C fp own hd src St h₁ ι₁ σ₁):D∉fp:=fun q=>by obtain ⟨o,ho⟩:=F.fpT D q;rw [F.newD] at ho;cases ho
theorem CompFix.C_fp(F:CompFix prog w hB A t cenv I D C fp own hd src St h₁ ι₁ σ₁):C∉fp:=fun q=>by obtain ⟨o,ho⟩:=F.fpT C q;rw [F.newC] at ho;cases ho
theorem CompAt.notL(F:CompFix prog w hB A t cenv I D C fp own hd src St h₁ ι₁ σ₁)(V:CompAt prog w hB cenv ρi fl own St h₁ ι₁ σ₁ D H ι' σ' ys vs j):∀ b∈fp,¬ zcO ι' σ' b:=fun b hb=>by obtain ⟨o,ho⟩:=F.fpT b hb;exact V.evo.weak.notLiveV F.len ho (F.Z.notLive b hb)
theorem CompAt.noDict(F:CompFix prog w hB A t cenv I D C fp own hd src St h₁ ι₁ σ₁)(V:CompAt prog w hB cenv ρi fl own St h₁ ι₁ σ₁ D H ι' σ' ys vs j):∀ b∈fp,∀ o,H.get? b=some o→∀ es n,o.data≠.dict es n:=fun b hb o ho=>by
 obtain ⟨o',ho',hd⟩:=F.Z.there _ _ V.st b hb;rw [ho] at ho';cases ho';exact hd
theorem CompAt.vnotD(V:CompAt prog w hB cenv ρi fl own St h₁ ι₁ σ₁ D H ι' σ' ys vs j):¬ zcO ι' σ' D:=by
 rintro ⟨i,c,hi,_⟩;exact V.inv.store.apart D (List.mem_of_getElem? hi) V.hid
theorem CompAt.item(F:CompFix prog w hB A t cenv I D C fp own hd src St h₁ ι₁ σ₁)(V:CompAt prog w hB cenv ρi fl own St h₁ ι₁ σ₁ D H ι' σ' ys vs j)(hk:∀ b o,b∉own→H.get? b=some o→h'.get? b=some o)(st:St (j+1) h'):CompAt prog w hB cenv ρi fl own St h₁ ι₁ σ₁ D h' ι' σ' ys vs (j+1):=by
 have ht:∀ b∈own,∃ o,h'.get? b=some o:=fun b hb=>by obtain ⟨o,ho,_⟩:=F.Z.there _ _ st b (F.Z.sub b hb);exact ⟨o,ho⟩
 have Y:Evo own H ι' σ' h' ι' σ':=Evo.but hk ht
 have hO:=F.Z.okAt V.evo V.st
 have hfr:=F.Z.freshAt F.st₀ V.evo (F.Z.hdT _ _ st)
 refine ⟨V.inv.but hk ht F.own hO (fun b hb=>V.notL F b (F.Z.sub b hb)) (fun b hb q=>(hfr b hb).2 q) (fun b hb=>V.noDict F b (F.Z.sub b hb)) (fun b hb q=>F.dyn b hb (F.Z.sub b q)),V.evo.trans F.len Y fun b hb _ _=>hb,V.hid,?_,V.rep.evo' V.inv.store.len Y hO,st⟩
 obtain ⟨n,hp⟩:=V.lst
 exact ⟨n,hk D _ (fun q=>F.D_fp (F.Z.sub D q)) hp⟩
theorem CompAt.bound{ρj:Loc}(F:CompFix prog w hB A t cenv I D C fp own hd src St h₁ ι₁ σ₁)(V:CompAt prog w hB cenv ρi fl own St h₁ ι₁ σ₁ D H ι' σ' ys vs j)(hk:∀ b o,b∉[C]→H.get? b=some o→h'.get? b=some o)(I₃:Inv prog w hB cenv ρj fl h' ι' σ'):CompAt prog w hB cenv ρj fl own St h₁ ι₁ σ₁ D h' ι' σ' ys vs j:=by
 have hCd:C∈dyn cenv:=F.loc▸.head _
 have Y:Evo [C] H ι' σ' h' ι' σ':=Evo.but hk fun b hb=>by rw [List.mem_singleton.mp hb];exact I₃.fr.dynT C hCd
 have hO:NoSeq [C] H:=fun b hb=>V.inv.fr.noSeq b (by rw [List.mem_singleton.mp hb];exact hCd)
 refine ⟨I₃,V.evo.trans F.len Y (fun b hb o e=>by rw [List.mem_singleton.mp hb,F.newC] at e;cases e),V.hid,?_,V.rep.evo V.inv.store.len Y hO,F.Z.frame _ _ _ V.st fun b hb o e=>hk b o (fun q=>F.C_fp (by rw [← List.mem_singleton.mp q];exact hb)) e⟩
 obtain ⟨n,hp⟩:=V.lst
 exact ⟨n,hk D _ (fun q=>F.ne (List.mem_singleton.mp q)) hp⟩
theorem CompAt.step{ρj:Loc}(F:CompFix prog w hB A t cenv I D C fp own hd src St h₁ ι₁ σ₁)(V:CompAt prog w hB cenv ρi fl own St h₁ ι₁ σ₁ D H ι' σ' ys vs j)(Y:Step prog w hB H ι' σ' h' ι'' σ'')(hρ:∀ z u,ρj z=some u→ρi z=some u):CompAt prog w hB cenv ρj fl own St h₁ ι₁ σ₁ D h' ι'' σ'' ys vs j:=by
 refine ⟨(V.inv.step Y).sub hρ,V.evo.trans F.len Y.evo (fun b hb=>nomatch hb),Y.evo.hid D V.hid,?_,V.rep.step V.inv.store.len Y,F.Z.frame _ _ _ V.st fun b hb o e=>(Y.evo.keep b o e (V.notL F b hb) List.not_mem_nil).2 (V.noDict F b hb o e)⟩
 obtain ⟨n,hp⟩:=V.lst
 exact ⟨n,(Y.evo.keep D _ hp V.vnotD List.not_mem_nil).2 fun _ _ q=>nomatch q⟩
theorem CompAt.put{z:PV}{zx:Value}(F:CompFix prog w hB A t cenv I D C fp own hd src St h₁ ι₁ σ₁)(V:CompAt prog w hB cenv ρi fl own St h₁ ι₁ σ₁ D H ι' σ' ys vs j)(r:Rep H ι' σ' z zx)(hp:h'.PlainList D (vs.push zx))(hs:Heap.SameBut D H h'):CompAt prog w hB cenv ρi fl own St h₁ ι₁ σ₁ D h' ι' σ' (ys++[z]) (vs.push zx) j:=by
 have hk:∀ b o,b∉[D]→H.get? b=some o→h'.get? b=some o:=fun b o hb e=>(hs.2 b (fun q=>hb (by rw [q];exact .head _))).trans e
 have one:∀{P:Addr→Prop},P D→∀ b∈[D],P b:=fun p b hb=>by rw [List.mem_singleton.mp hb];exact p
 have ht:∃ o,h'.get? D=some o∧∀ vs,o.data≠.fields vs:=by obtain ⟨n,hp⟩:=hp;exact ⟨_,hp,fun _ q=>nomatch q⟩
 have ht':∀ b∈[D],∃ o,h'.get? b=some o:=one ⟨_,ht.choose_spec.1⟩
 have Y:Evo [D] H ι' σ' h' ι' σ':=Evo.but hk ht'
 have hO:Off ι' [D] H:=Off.hid V.hid
 refine ⟨V.inv.but hk ht' (one F.baseD) hO (one V.vnotD) (one fun _=>ht) (one fun o ho=>?_) (fun b hb q=>F.notDyn (by rw [← List.mem_singleton.mp q];exact hb)),V.evo.trans F.len Y (fun b hb o e=>by rw [List.mem_singleton.mp hb,F.newD] at e;cases e),V.hid,hp,?_,F.Z.frame _ _ _ V.st fun b hb o e=>hk b o (fun q=>F.D_fp (by rw [← List.mem_singleton.mp q];exact hb)) e⟩
 ·obtain ⟨n,hp⟩:=V.lst;rw [hp] at ho;cases ho;exact fun _ _ q=>nomatch q
 ·rw [Array.toList_push];exact (V.rep.append (.cons r .nil)).evo' V.inv.store.len Y hO
end
theorem zky{chk:M Unit}{f:PV→M (Option PV)}{v:PV}{r:List PV}{ys:List PV}{o:Option PV}{σ₂:zab}(hchk:chk σ=.ok () σ)(hf:f v σ=.ok o σ₂):((zaW chk f (v::r)).bind fun r=>M.ret (ys++r)) σ=((zaW chk f r).bind fun r=>M.ret ((ys++o.toList)++r)) σ₂:=by
 refine Eq.trans (zai _ _ _) ((zaa hchk).trans ((zai _ _ _).trans ((zaa hf).trans ((zai _ _ _).trans ?_))))
 refine congrFun (congrArg (M.bind _) (funext fun a=>?_)) σ₂
 cases o with
 | none=>rw [Option.toList_none,List.append_nil];rfl
 | some y=>rw [Option.toList_some,List.append_assoc];rfl
theorem CompAt.done{t:Expr}{I D C:Addr}{fp own hd:List Addr}{src:Src}{St:Nat→Heap→Prop}{h₀ h₁ H h':Heap}{ι₀ ι₁ ι':Ad}{σ₀ σ₁ σ':zab}{ρi:Loc}{ys:List PV}{vs:Array Value}{j:Nat}(F:CompFix prog w hB A t cenv I D C fp own hd src St h₁ ι₁ σ₁)(V:CompAt prog w hB cenv ρi fl own St h₁ ι₁ σ₁ D H ι' σ' ys vs j)
  (hl₀:ι₀.vis.length=σ₀.length) (XX:Evo [] h₀ ι₀ σ₀ h₁ ι₁ σ₁) (hown₀:∀ b∈own,h₀.get? b=none) (hk:∀ b o,b∉own→H.get? b=some o→h'.get? b=some o) (hh:∀ b∈hd,∃ o,h'.get? b=some o∧∀ vs,o.data≠.fields vs):CompEnd prog w hB h₀ ι₀ σ₀ D C h' ι' σ' ys:=by
 have hO:=F.Z.okAt V.evo V.st
 have I₂:=V.inv.lost hk F.own hO (F.Z.freshAt F.st₀ V.evo hh) (fun b hb=>V.noDict F b (F.Z.sub b hb)) (fun b hb q=>F.dyn b hb (F.Z.sub b q))
 obtain ⟨n',hp'⟩:=V.lst
 obtain ⟨m,hm,_⟩:=I₂.fr.ns
 exact ⟨(XX.trans hl₀ V.evo fun b hb o e=>by rw [hown₀ b hb] at e;cases e).lost hk hown₀,I₂.store,I₂.stays,V.hid,zaZ XX.alive F.newD,zaZ XX.alive F.newC,F.ne,⟨m,F.loc▸hm⟩,F.loc▸I₂.fr.off _ (.head _),F.loc▸(I₂.fr.own _ (.head _)).2,vs,⟨n',hk D _ (fun q=>F.D_fp (F.Z.sub D q)) hp'⟩,V.rep.evoW V.inv.store.len (EvoW.but hk) hO⟩
inductive CompI (P:Heap→Ad→zab→List PV→Array Value→Nat→Prop) (chk:M Unit) (f:PV→M (Option PV)) (xs:List PV) (r:Rs (List PV)) (s:Shared):Nat→Shared→Prop
 | mk (H:Heap) (tk:Nat) (dr:Drawn) (ι':Ad) (σ':zab) (ys:List PV) (vs:Array Value) (j:Nat):P H ι' σ' ys vs j→j≤xs.length→ys.length≤j→r=((zaW chk f (xs.drop j)).bind fun r=>M.ret (ys++r)) σ'→CompI P chk f xs r s (xs.length+1-j) { s with heap:=H,toks:=tk,drawn:=dr }
theorem znO{chk:M Unit}{f:PV→M (Option PV)}{xs:List PV}{k:List PV→M (List PV)}(hc:chk σ=.ok () σ∨chk σ=.stuck) (hns:((zaW chk f xs).bind k) σ≠.stuck):chk σ=.ok () σ:=by
 rcases hc with q | q
 ·exact q
 ·refine (hns (zae ?_)).elim
  cases xs <;> exact zae q
theorem zns{α:Type}{o:Option α}{a:α}{τ:zab}(h:M.lift o σ=.ok a τ):o=some a∧τ=σ:=by
 cases o with
 | none=>cases h
 | some b=>cases h;exact ⟨rfl,rfl⟩
theorem zmv{α:Type}{xs:List α}{j:Nat}{v:α}(hx:xs[j]?=some v):xs.drop j=v::xs.drop (j+1):=by
 have hj:=(List.getElem?_eq_some_iff.mp hx).1
 rw [List.drop_eq_getElem_cons hj,(List.getElem?_eq_some_iff.mp hx).2]
theorem zfS{t:Expr}{v:PV}{ρ':Loc}(hb:zgO csc (inner csc ρ) t v=some ρ'):∀ z u,inner csc ρ z=some u→ρ' z=some u:=fun z u e=>by
 have hz:csc.names.lookup z=some .free:=by
  unfold inner at e
  cases q:csc.names.lookup z with
  | none=>rw [q] at e;cases e
  | some k=>rw [q] at e;cases k with
   | free=>rfl
   | _=>cases e
 exact (zkB hb ⟨fun q=>(by rw [hz] at q;cases q),fun q=>(by rw [hz] at q;cases q)⟩).trans e
theorem zhT{elt target iter:Expr}{ifs:List Expr}{scope:Scope}{pos:Pos}{it acc:Value}{R:Result→Shared→Prop}(I:Nat→Shared→Prop)
  (turn:∀ n s,I n s→wpAny (model prog w) A (pyNext it) (fun r s₁=>match r with
   | none=>R (.ok .next) s₁
   | some v=>wpAny (model prog w) A (letOwnedTupleGo target it v) (fun _ s₀=>wpAny (model prog w) A (assign target env v) (fun _ s₂=>
     wpAny (model prog w) A (forIn ifs true fun c r=>if r=true then do let ok ← isTrue c env (eval c env);pure (ForInStep.yield ok) else pure (ForInStep.yield r)) (fun ok s₃=>
      if ok=true then wpAny (model prog w) A (eval elt env) (fun x s₄=>
       wpAny (model prog w) A (call (.builtin "list.append") [acc,x]) (fun _ s₅=>∃ m,m<n∧I m s₅) (notedBy (model prog w) A env fun e s'=>R (.error e) s') s₄) (notedBy (model prog w) A env fun e s'=>R (.error e) s') s₃
      else ∃ m,m<n∧I m s₃) (notedBy (model prog w) A env fun e s'=>R (.error e) s') s₂) (notedBy (model prog w) A env fun e s'=>R (.error e) s') s₀) (notedBy (model prog w) A env fun e s'=>R (.error e) s') s₁) (notedBy (model prog w) A env fun e s'=>R (.error e) s') s)
  (n:Nat) (h:I n s):codeAny (model prog w) A (.compLoop (.ListComp elt [⟨target,iter,ifs,0⟩] scope pos) 0 it acc env) R s:=by
 have id':∀{X:Value→Shared→Prop},∀ e s,X e s→X e s:=fun _ _ h=>h
 refine codeAny_loop rfl I (fun n s hI=>?_) n h
 show wpAny _ A ((compTurn (.ListComp elt [⟨target,iter,ifs,0⟩] scope pos) 0 it acc env).onRaise (fun x=>do noteFrame x env;theTreesLotGoes x)) _ _ s
 refine wpAny_noted ?_
 rw [compTurn_list]
 refine wpAny_bind (wpAny_standAt (wpAny_bind (wpAny_mono (turn n s hI) (fun r s₁ h₁=>?_) id')))
 cases r with
 | none=>exact wpAny_pure h₁
 | some v=>
  refine wpAny_bind (wpAny_mono h₁ (fun _ s₀ h₀=>wpAny_bind (wpAny_mono h₀ (fun _ s₂ h₂=>wpAny_bind (wpAny_mono h₂ (fun ok s₃ h₃=>?_) id')) id')) id')
  cases ok with
  | false=>exact wpAny_pure ⟨rfl,h₃⟩
  | true=>exact wpAny_bind (wpAny_bind (wpAny_mono h₃ (fun x s₄ h₄=>wpAny_bind (wpAny_mono h₄ (fun _ s₅ h₅=>wpAny_pure (wpAny_pure ⟨rfl,h₅⟩)) id')) id'))
theorem zh4{cx:Cx}{n:Nat}{pos:Pos}{t elt it:Expr}{ifs:List Expr}{I D C:Addr}{fp own hd:List Addr}{src:Src}{St:Nat→Heap→Prop}{h₀ h₁:Heap}{ι₀ ι₁:Ad}{σ₀ σ₁:zab}{R:Result→Shared→Prop}
  (hh:A.handled=none) (hu:A.units+600<cLine) (O:CompOk sc csc it) (H:EnvOk cenv csc) (F:CompFix prog w hB A t cenv I D C fp own hd src St h₁ ι₁ σ₁)
  (IH:∀ k,k≤n→∀ ρ',EvIH prog w hB A cenv ρ' fl (ev { cx with md:=⟨false,cx.md.lp⟩ } k csc ρ'))
  (hl₀:ι₀.vis.length=σ₀.length) (XX:Evo [] h₀ ι₀ σ₀ h₁ ι₁ σ₁) (hown₀:∀ b∈own,h₀.get? b=none) (hsz:src.xs.length≤2 ^ 20)
  (hns:zaW (chkW src.watch) (zej cx n csc ρ t elt ifs) src.xs σ₁≠.stuck)
  (hR:∀ H tk dr ι' σ' ys,zaW (chkW src.watch) (zej cx n csc ρ t elt ifs) src.xs σ₁=.ok ys σ'→CompEnd prog w hB h₀ ι₀ σ₀ D C H ι' σ' ys→R (.ok .next) { s with heap:=H,toks:=tk,drawn:=dr })
  (V₀:CompAt prog w hB cenv (inner csc ρ) fl own St h₁ ι₁ σ₁ D s.heap (ι₁.hide D) σ₁ [] #[] 0) :
  codeAny (model prog w) A (.compLoop (.ListComp elt [⟨t,it,ifs,0⟩] csc pos) 0 (.ref I) (.ref D) cenv) R s:=by
 refine zhT (CompI (CompAt prog w hB cenv (inner csc ρ) fl own St h₁ ι₁ σ₁ D) (chkW src.watch) (zej cx n csc ρ t elt ifs) src.xs (zaW (chkW src.watch) (zej cx n csc ρ t elt ifs) src.xs σ₁) s) ?_ (src.xs.length+1)
  (.mk s.heap s.toks s.drawn (ι₁.hide D) σ₁ [] #[] 0 V₀ (Nat.zero_le _) (Nat.zero_le _) (M.bind_ret _ _))
 intro k s' L
 cases L with
 | mk H' tk dr ι' σ' ys vs j V hj hlen eq=>
  rw [eq] at hns hR
  have hchk:=znO (zfZ src.watch σ') hns
  have X':Evo (own++[]) h₁ ι₁ σ₁ H' ι' σ':=(List.append_nil own).symm▸V.evo
  cases hx:src.xs[j]? with
  | none=>
   have hje:src.xs.length≤j:=List.getElem?_eq_none_iff.mp hx
   rw [List.drop_eq_nil_of_le hje] at hR
   have hst:St src.xs.length H':=Nat.le_antisymm hj hje▸V.st
   exact F.Z.done [] _ ι' σ' (NoSeq.nil _) X' V.inv.store hst hchk _ _ fun h₂ tk₂ hk hd₂=>hR h₂ tk₂ _ ι' σ' ys (((zai _ _ _).trans (zaa hchk)).trans (congrArg (Rs.ok · σ') (List.append_nil ys))) (V.done F hl₀ XX hown₀ hk hd₂)
  | some v=>
   rw [zmv hx] at eq hns
   obtain ⟨o,σ₂,hg,hfo⟩:=zlS fun q=>hns (zae ((zaa hchk).trans (zae q)))
   rw [zky hchk hfo] at eq
   obtain ⟨ρ',τ,hb,hg₂⟩:=zdD ((congrFun (zmL csc (inner csc ρ) t v _) _).symm.trans hg)
   obtain ⟨hb₂,rfl⟩:=zns hb
   have hcl:∀ y,csc.names.lookup y≠some .cell:=fun y q=>by rcases O.kinds _ _ (mem_of_lookup q) with q | q | q <;> cases q
   have hjl:j<src.xs.length:=(List.getElem?_eq_some_iff.mp hx).1
   refine F.Z.item [] j _ ι' τ v (NoSeq.nil _) X' V.inv.store V.st hchk hx _ _ _ (fun _ _ h=>h) fun y h₂ tk₂ r₂ st₂ hk₂=>?_
   have V₂:=V.item F hk₂ st₂
   refine ziU (s:={ s with heap:=h₂,toks:=tk₂,drawn:=dr }) hh (fun b hb=>by rw [List.mem_singleton.mp hb];exact .head _) (zk4 H hcl) hb₂ V₂.inv r₂ _ _ fun h₃ tk₃ hk₃ I₃=>?_
   have V₃:=V₂.bound F (F.loc▸hk₃) I₃
   refine zh5 (s:={ s with heap:=h₃,toks:=tk₃,drawn:=dr }) hu (fun k hk=>IH k hk _) I₃ hg₂ _ _ _ (fun z zx h₄ tk₄ dr₄ ι₄ ho Y₄ r₄=>?_) (fun h₄ tk₄ dr₄ ι₄ ho Y₄=>?_)
   ·subst ho
    have V₄:=V₃.step F Y₄ (zfS hb₂)
    refine wpAny_list_append_plain (s:={ s with heap:=h₄,toks:=tk₄,drawn:=dr₄ }) V₄.lst (fun h₅ hp₅ hs₅=>⟨_,Nat.sub_lt_sub_left (Nat.lt_succ_of_lt hjl) (Nat.lt_succ_self j),.mk h₅ _ _ ι₄ σ₂ _ _ (j+1) (V₄.put F r₄ hp₅ hs₅) hjl ?_ eq⟩) ?_
    ·rw [List.length_append];exact Nat.succ_le_succ hlen
    ·rw [show vs.size=ys.length from V₄.rep.length.symm]
     exact Nat.le_trans hlen (Nat.le_trans (Nat.le_of_lt hjl) (Nat.le_trans hsz (by decide)))
   ·subst ho
    exact ⟨_,Nat.sub_lt_sub_left (Nat.lt_succ_of_lt hjl) (Nat.lt_succ_self j),.mk h₄ _ _ ι₄ σ₂ ys vs (j+1) (V₃.step F Y₄ (zfS hb₂)) hjl (Nat.le_succ_of_le hlen) (by rw [eq,Option.toList_none,List.append_nil])⟩
end
section
variable {prog:Program} {w:World} {hB:Heap} {A:Around} {s:Shared} {ι:Ad} {σ:zab} {env cenv:Env} {ρ:Loc} {fl:List Env} {sc csc:Scope} {K:Frag}
noncomputable def zfb(cx:Cx)(n:Nat)(sc csc:Scope)(ρ:Loc)(t elt it:Expr)(ifs:List Expr):M (List PV):=
 (zcM cx sc ρ (ev cx n sc ρ) t it).bind fun src=>M.cond (decide (src.xs.length≤2 ^ 20)) (zaW (chkW src.watch) (zej cx n csc ρ t elt ifs) src.xs) M.fail
theorem zkK{cx:Cx}{n:Nat}{pos pos':Pos}{t elt it:Expr}{ifs:List Expr}{use:Option (Value→Sem Unit)}(hG:GlobOk hB K cx.G)(hh:A.handled=none)(hu:A.units+600<cLine)(O:CompOk sc csc it)(H:EnvOk env sc)
  (IHo:EvIH prog w hB A env ρ fl (ev cx n sc ρ)) (IHi:∀ cenv,EnvOk cenv csc→∀ k,k≤n→∀ ρ',EvIH prog w hB A cenv ρ' fl (ev { cx with md:=⟨false,cx.md.lp⟩ } k csc ρ')) (I:Inv prog w hB env ρ fl s.heap ι σ)
  (Q:Value→Shared→Prop) (Er:Value→Shared→Prop) (hns:zfb cx n sc csc ρ t elt it ifs σ≠.stuck)
  (hok:∀ ys σ',zfb cx n sc csc ρ t elt it ifs σ=.ok ys σ'→∀ D C H tk dr ι',CompEnd prog w hB s.heap ι σ D C H ι' σ' ys→compPost (model prog w) A Er use Q (.ref D) C (.ok .next) { s with heap:=H,toks:=tk,drawn:=dr })
  (herr:∀ C σ',zfb cx n sc csc ρ t elt it ifs σ=.err C σ'→∀ e h' tk dr ι',Step prog w hB s.heap ι σ h' ι' σ'→Fly s.heap h' e C→Er (.ref e) { s with heap:=h',toks:=tk,drawn:=dr }) :
  wpAny (model prog w) A (comprehension (.ListComp elt [⟨t,it,ifs,0⟩] csc pos) csc env pos' (newList []) false (eval it env) use) Q Er s:=by
 have hfree:∀ x∈csc.names,x.2=.free→∃ c,env.cells.lookup x.1=some c:=fun x hx hk=>by
  obtain ⟨x,k⟩:=x
  dsimp only at hk;subst hk
  obtain ⟨c,_,hc,_⟩:=I.fr.cells x (H.cel _ (O.free x hx).1)
  exact ⟨c,hc⟩
 have hcell:∀ y∈csc.names,y.2≠.cell:=fun y hy q=>by
  obtain ⟨y,k⟩:=y
  dsimp only at q;subst q
  rcases O.kinds _ _ hy with q | q | q <;> cases q
 refine wpAny_comprehension_free (cl:=clOf env csc.names []) rfl (fun x=>O.it env x) (zfe hfree) O.kind (fun y hy hk=>by obtain ⟨y,k⟩:=y;dsimp only at hk;subst hk;exact (O.loc y hy).1) ?_
 refine znU hG hh H IHo za7 I _ _ (fun q=>hns (zae q)) (fun src σ₁ e₁ itv h₁ tk₁ dr₁ ι₁ X₁ Md=>?_) (fun C σ' e e' h' tk dr ι' X F=>herr C σ' (zaq e) e' h' tk dr ι' X F)
 obtain ⟨Ia,fp,own,hd,St,rfl,Z,st,hown₀,hdyn⟩:=Md
 have I₁:=I.step X₁
 have eqc:zfb cx n sc csc ρ t elt it ifs σ=(M.cond (decide (src.xs.length≤2 ^ 20)) (zaW (chkW src.watch) (zej cx n csc ρ t elt ifs) src.xs) M.fail) σ₁:=zaa e₁
 have hsz:src.xs.length≤2 ^ 20:=by
  by_cases q:src.xs.length≤2 ^ 20
  ·exact q
  ·exact (hns (by rw [eqc,decide_eq_false q];rfl)).elim
 rw [decide_eq_true hsz] at eqc
 refine wpAny_newObj_type (wpAny_newFunctionEnv hcell (by intro y hy;simp at hy) (fun h₃ hns₃ hsb₃=>?_) O.kind)
 dsimp only at hns₃ hsb₃ ⊢
 generalize hH2:h₁.push { cls:=.type "list",dict:=none,data:=.seq ([]:List Value).toArray }=H2 at hns₃ hsb₃ ⊢
 have hC:H2.objs.size=h₁.objs.size+1:=by rw [← hH2,Heap.size_push]
 have hDC:h₁.objs.size≠H2.objs.size:=by rw [hC];exact Nat.ne_of_lt (Nat.lt_succ_self _)
 have below:∀ b,b<h₁.objs.size→b≠H2.objs.size:=fun b hb=>by rw [hC];exact Nat.ne_of_lt (Nat.lt_succ_of_lt hb)
 have old:∀ b o,h₁.get? b=some o→h₃.get? b=some o:=fun b o e=>hsb₃.extBut b o (below b (Heap.lt_size e)) (Heap.get?_push_of_some _ (hH2▸Heap.get?_push_of_some _ e))
 have hacc:h₃.PlainList h₁.objs.size #[]:=⟨_,hsb₃.extBut _ _ hDC (Heap.get?_push_of_some _ (hH2▸Heap.get?_push_size _ rfl))⟩
 have hC₁:h₁.get? H2.objs.size=none:=by
  cases q:h₁.get? H2.objs.size with
  | none=>rfl
  | some o=>exact (below _ (Heap.lt_size q) rfl).elim
 have hB₁:=I₁.stays
 have S₃:=I₁.store.hide old (zay h₁) (by obtain ⟨n,hp⟩:=hacc;exact ⟨_,hp,fun _ q=>nomatch q⟩) (zbi hB₁ (zay h₁))
 have XH:=zjr (ι:=ι₁) (σ:=σ₁) old (zay h₁)
 have F₃:=I₁.fr.step I₁.store.len XH
 have offC:H2.objs.size∉(ι₁.hide h₁.objs.size).vis∧H2.objs.size∉(ι₁.hide h₁.objs.size).hid:=by
  refine ⟨fun q=>?_,fun q=>?_⟩
  ·obtain ⟨o,ho⟩:=I₁.store.there _ q;rw [hC₁] at ho;cases ho
  ·rcases List.mem_cons.mp q with q | q
   ·exact hDC q.symm
   ·obtain ⟨o,ho,_⟩:=I₁.store.hthere _ q;rw [hC₁] at ho;cases ho
 have I₃:Inv prog w hB (compEnvC csc (clOf env csc.names []) H2.objs.size env) (inner csc ρ) fl h₃ (ι₁.hide h₁.objs.size) σ₁:=
  ⟨fun b o e=>old b o (hB₁ b o e),S₃,O.frame H F₃ hns₃ offC (zbi hB₁ hC₁),I₁.stk.step I₁.store.len XH⟩
 have st₃:St 0 h₃:=Z.frame _ _ _ st fun b _ o e=>old b o e
 have hdc:=O.dyn (C:=H2.objs.size) H F₃
 have loop:∀ s₃:Shared,s₃={ s with heap:=h₃,toks:=tk₁+([]:List (Str×Value)).length,drawn:=dr₁ }→
   codeAny (model prog w) A (.compLoop (.ListComp elt [⟨t,it,ifs,0⟩] csc pos) 0 (.ref Ia) (.ref h₁.objs.size) (compEnvC csc (clOf env csc.names []) H2.objs.size env))
    (compPost (model prog w) A Er use Q (.ref h₁.objs.size) H2.objs.size) s₃:=by
  rintro s₃ rfl
  refine zh4 (s:={ s with heap:=h₃,toks:=tk₁+([]:List (Str×Value)).length,drawn:=dr₁ }) (ρ:=ρ) (C:=H2.objs.size) (fp:=fp) hh hu O (O.envOk H _ _) ⟨rfl,I₁.store.len,Z,st,fun b hb=>zbi I.stays (hown₀ b hb),fun b hb q=>?_,zay h₁,hC₁,hDC,fun q=>?_,zbi hB₁ (zay h₁)⟩ (IHi _ (O.envOk H _ _)) I.store.len X₁.evo hown₀ hsz
   (fun q=>hns (eqc.trans q)) (fun H tk dr ι' σ' ys e X=>hok ys σ' (eqc.trans e) _ _ H tk dr ι' X) ⟨I₃,XH.wide (fun _ hb=>nomatch hb),.head _,hacc,.nil,st₃⟩
  ·rcases hdc b hb with rfl | hb
   ·obtain ⟨o,ho,_⟩:=Z.there 0 h₁ st _ q;rw [hC₁] at ho;cases ho
   ·exact hdyn b hb q
  ·rcases hdc _ q with q | q
   ·exact hDC q
   ·obtain ⟨o,ho⟩:=zcC I₁.fr _ q;rw [zay] at ho;cases ho
 exact codeAny_compStart_list (loop _ rfl) (Z.self 0 _ _ _ st₃ (loop _ rfl))
theorem zdg{c:Cel}{D a:Addr}{l:List Addr}(hl:ι.vis.length=σ.length)(hD:D∈ι.hid)(hs:∀ a∈l,a∈ι.hid)(h:¬ Live ι σ a):¬ Live ⟨ι.vis++[D],l⟩ (σ++[c]) a:=by
 intro q
 rcases Live.append (ι:=⟨ι.vis,l⟩) hl q with q | q
 ·exact zbm hs h q
 ·exact h (.inr (q▸hD))
theorem RepL.adopt{h:Heap}{c:Cel}{D:Addr}{l:List Addr}(hl:ι.vis.length=σ.length)(hD:D∈ι.hid)(hs:∀ a∈l,a∈ι.hid){xs:List PV}{vs:List Value}(r:RepL h ι σ xs vs):RepL h ⟨ι.vis++[D],l⟩ (σ++[c]) xs vs:=
 r.to ⟨fun e nl=>⟨e,zdg hl hD hs nl⟩,fun e=>(List.getElem?_append_left (List.getElem?_eq_some_iff.mp e).1).trans e,fun e c d k nl=>.exc e c d k (zdg hl hD hs nl)⟩
theorem CompEnd.go{h₀ H h':Heap}{ι₀ ι':Ad}{σ₀ σ':zab}{D C:Addr}{ys:List PV}(X:CompEnd prog w hB h₀ ι₀ σ₀ D C H ι' σ' ys)(hs:Heap.SameBut C H h') :
  Evo [] h₀ ι₀ σ₀ h' ι' σ'∧StoreOk prog w hB h' ι' σ'∧hB.StaysIn h'∧∃ vs,h'.PlainList D vs∧RepL h' ι' σ' ys vs.toList:=by
 have hk:∀ b o,b∉[C]→H.get? b=some o→h'.get? b=some o:=fun b o hb e=>(hs.2 b (fun q=>hb (by rw [q];exact .head _))).trans e
 have hO:Off ι' [C] H:=fun b hb=>by
  rw [List.mem_singleton.mp hb]
  obtain ⟨m,o,es,ep,ho,hd,_⟩:=X.ns
  refine .inr fun o' ho'=>?_
  rw [ho] at ho';cases ho'
  exact ⟨fun vs n q=>(by rw [hd] at q;cases q),.inl fun vs q=>(by rw [hd] at q;cases q)⟩
 obtain ⟨vs,⟨n,hp⟩,rl⟩:=X.lst
 refine ⟨X.evo.lost hk fun b hb=>by rw [List.mem_singleton.mp hb];exact X.newC,X.store.lost hk hO fun b hb=>by rw [List.mem_singleton.mp hb];exact ⟨X.offC.1,fun q=>(X.offC.2 q).elim⟩,fun b o e=>hk b o (fun q=>?_) (X.stays b o e),vs,⟨n,hk D _ (by simpa using X.ne) hp⟩,rl.evoW X.store.len (EvoW.but hk) hO⟩
 rw [List.mem_singleton.mp q,X.baseC] at e;cases e
theorem zfY{h₀ H h':Heap}{ι₀ ι':Ad}{σ₀ σ':zab}{D C:Addr}{ys:List PV}{cx:Cx}{p:Pos}(S₀:StoreOk prog w hB h₀ ι₀ σ₀)(X:CompEnd prog w hB h₀ ι₀ σ₀ D C H ι' σ' ys)(hs:Heap.SameBut C H h') :
  ∃ v ι'' σ'',zaw cx p ys σ'=.ok v σ''∧Step prog w hB h₀ ι₀ σ₀ h' ι'' σ''∧Rep h' ι'' σ'' v (.ref D)∧(C∉ι''.vis∧C∉ι''.hid):=by
 obtain ⟨Y,S,B,vs,⟨n,hp⟩,rl⟩:=X.go hs
 have hsub:∀ a∈ι₀.hid,a∈ι'.hid:=Y.hid
 have hD₀:D∉ι₀.hid:=fun q=>by obtain ⟨o,ho,_⟩:=S₀.hthere D q;rw [X.newD] at ho;cases ho
 have hDv:D∉ι'.vis:=fun q=>S.apart D q X.hid
 cases hm:cx.G.mu.contains (p.line,p.col) with
 | true=>
  refine ⟨.ref σ'.length,⟨ι'.vis++[D],ι₀.hid⟩,σ'++[.list ys],by unfold zaw;rw [hm];rfl,⟨⟨fun i a e=>?_,fun i a e e'=>?_,fun i e=>?_,Y.alive,Y.keep,fun _ h=>h,fun _ h=>.inl h⟩,⟨?_,?_,fun a ha=>?_,fun a ha=>S.hthere a (hsub a ha),fun a ha q=>?_,fun a ha=>?_,fun a ha=>S.hbase a (hsub a ha),S.sys,fun i a c e e'=>?_⟩,B⟩,.ref ?_,fun q=>?_,fun q=>X.offC.2 (hsub C q)⟩
  ·show (ι'.vis++[D])[i]?=_
   have:=Y.pre i a e
   rw [List.getElem?_append_left (List.getElem?_eq_some_iff.mp this).1];exact this
  ·change (ι'.vis++[D])[i]?=_ at e
   by_cases q:i<ι'.vis.length
   ·rw [List.getElem?_append_left q] at e;exact Y.fresh i a e e'
   ·rw [List.getElem?_append_right (Nat.le_of_not_lt q)] at e
    have:i-ι'.vis.length=0:=by
     have:=(List.getElem?_eq_some_iff.mp e).1
     simp at this;lia
    rw [this] at e;simp at e;rw [← e];exact X.newD
  ·have:=Y.dead i e
   rw [List.getElem?_append_left (List.getElem?_eq_some_iff.mp this).1];exact this
  ·show (ι'.vis++[D]).length=_
   simp [S.len]
  ·show (ι'.vis++[D]).Nodup
   rw [List.nodup_append]
   exact ⟨S.nodup,by simp,fun x hx b hb q=>hDv (by rw [List.mem_singleton] at hb;rw [← hb,← q];exact hx)⟩
  ·rcases List.mem_append.mp ha with ha | ha
   ·exact S.there a ha
   ·rw [List.mem_singleton.mp ha];exact ⟨_,hp⟩
  ·rcases List.mem_append.mp ha with ha | ha
   ·exact S.apart a ha (hsub a q)
   ·rw [List.mem_singleton.mp ha] at q;exact hD₀ q
  ·rcases List.mem_append.mp ha with ha | ha
   ·exact S.base a ha
   ·rw [List.mem_singleton.mp ha];exact S.hbase D X.hid
  ·change (ι'.vis++[D])[i]?=_ at e
   by_cases q:i<ι'.vis.length
   ·rw [List.getElem?_append_left q] at e
    rw [List.getElem?_append_left (S.len▸q)] at e'
    have x:=S.ok i a c e e'
    cases c with
    | dead=>trivial
    | list xs=>obtain ⟨vs,hp,r⟩:=x;exact ⟨vs,hp,r.adopt S.len X.hid hsub⟩
    | dict kvs=>obtain ⟨zs,d,k2,r⟩:=x;exact ⟨zs,d,k2,r.adopt S.len X.hid hsub⟩
   ·rw [List.getElem?_append_right (Nat.le_of_not_lt q)] at e
    rw [List.getElem?_append_right (by rw [← S.len];exact Nat.le_of_not_lt q)] at e'
    have h0:i-ι'.vis.length=0:=by
     have:=(List.getElem?_eq_some_iff.mp e).1
     simp at this;lia
    rw [h0] at e;rw [← S.len,h0] at e'
    simp at e e'
    subst e;subst e';exact ⟨vs,⟨n,hp⟩,rl.adopt S.len X.hid hsub⟩
  ·show (ι'.vis++[D])[σ'.length]?=_
   rw [List.getElem?_append_right (by rw [S.len];exact Nat.le_refl _)];simp [S.len]
  ·rcases List.mem_append.mp q with q | q
   ·exact X.offC.1 q
   ·exact X.ne (List.mem_singleton.mp q).symm
 | false=>
  refine ⟨.lst ys,⟨ι'.vis,ι₀.hid⟩,σ',by unfold zaw;rw [hm];rfl,⟨Y.unhide,S.unhide hsub,B⟩,.lst hp ?_ (rl.unhide hsub),X.offC.1,fun q=>X.offC.2 (hsub C q)⟩
  rintro (⟨i,c,hi,_⟩ | q)
  ·exact hDv (List.mem_of_getElem? hi)
  ·exact hD₀ q
theorem zfa{cx:Cx}{n:Nat}{t elt it:Expr}{ifs:List Expr}{p:Pos}:((zcM cx sc ρ (ev cx n sc ρ) t it).bind fun src=>M.cond (decide (src.xs.length≤2 ^ 20)) ((zaW (chkW src.watch) (zej cx n csc ρ t elt ifs) src.xs).bind fun ys=>zaw cx p ys) M.fail) σ=((zfb cx n sc csc ρ t elt it ifs).bind fun ys=>zaw cx p ys) σ:=
 (congrFun (congrArg (M.bind _) (funext fun(src:Src)=>(M.cond_bind (decide (src.xs.length≤2 ^ 20)) (zaW (chkW src.watch) (zej cx n csc ρ t elt ifs) src.xs) M.fail fun ys=>zaw cx p ys).symm)) σ).trans (zai _ _ _).symm
theorem zls{cx:Cx}{n:Nat}{p:Pos}{t elt it:Expr}{ifs:List Expr}(hG:GlobOk hB K cx.G)(hh:A.handled=none)(hu:A.units+600<cLine)(O:CompOk sc csc it)(H:EnvOk env sc)
  (IHo:EvIH prog w hB A env ρ fl (ev cx n sc ρ)) (IHi:∀ cenv,EnvOk cenv csc→∀ k,k≤n→∀ ρ',EvIH prog w hB A cenv ρ' fl (ev { cx with md:=⟨false,cx.md.lp⟩ } k csc ρ')) (I:Inv prog w hB env ρ fl s.heap ι σ) :
  SimV prog w hB A (eval (.ListComp elt [⟨t,it,ifs,0⟩] csc p) env) ((zfb cx n sc csc ρ t elt it ifs).bind fun ys=>zaw cx p ys) s ι σ:=by
 intro Q Er hns hok herr
 rw [eval_ListComp]
 refine zkK hG hh hu O H IHo IHi I Q Er (fun q=>hns (zae q)) (fun ys σ' e D C H' tk dr ι' X=>?_) (fun C σ' e e' h' tk dr ι' X F=>herr C σ' (zaq e) e' h' tk dr ι' X F)
 refine ⟨X.ns.choose,X.ns.choose_spec,fun h' hs=>?_⟩
 obtain ⟨v,ι'',σ'',hm,Y,r,_⟩:=zfY (cx:=cx) (p:=p) I.store X hs
 exact hok v σ'' ((zaa e).trans hm) _ h' tk dr ι'' Y r
end
end Mine
namespace Mine
open PySem PySem.SeqAt PyProof.Rows PySem.W PySem.Calls
section
variable {prog:Program} {w:World} {hB:Heap} {A:Around} {s:Shared} {ι:Ad} {σ:zab} {env:Env} {ρ:Loc} {fl:List Env} {sc:Scope} {E:Expr→M PV} {K:Frag}
theorem zl1{W:(Value→Shared→Prop)→(Value→Shared→Prop)→Prop}{cx:Cx}{p:Pos}{xs:List PV}(S:StoreOk prog w hB s.heap ι σ)(B:hB.StaysIn s.heap)
  (mk:∀(Q:Value→Shared→Prop)(E:Value→Shared→Prop),(∀ D h' n tk dr (vs:List Value),RepL s.heap ι σ xs vs→s.heap.get? D=none→(∀ b o,s.heap.get? b=some o→h'.get? b=some o)→h'.get? D=some { cls:=.type "list",data:=.seq vs.toArray n }→Q (.ref D) { s with heap:=h',toks:=tk,drawn:=dr })→W Q E)
  (Q:Value→Shared→Prop) (E:Value→Shared→Prop) (hok:∀ a σ',zaw cx p xs σ=.ok a σ'→∀ x h' tk dr ι',Step prog w hB s.heap ι σ h' ι' σ'→Rep h' ι' σ' a x→Q x { s with heap:=h',toks:=tk,drawn:=dr }):W Q E:=by
 unfold zaw at hok
 refine mk _ _ fun D h' n tk dr vs r hD hk hd=>?_
 cases q:cx.G.mu.contains (p.line,p.col) with
 | true=>
  rw [q] at hok
  refine hok (.ref σ.length) (σ++[.list xs]) rfl _ _ tk dr (ι.add D) ?_ (.ref (zdU S D))
  have X:=zhM (ι:=ι) (σ:=σ) (.list xs) hk hD
  exact Step.newAt S B _ hk hD ⟨_,hd⟩ ⟨vs.toArray,⟨n,hd⟩,by simpa using r.evo S.len X (NoSeq.nil _)⟩
 | false=>
  rw [q] at hok
  refine hok _ _ rfl _ _ tk dr ι (Step.keeps S B hk) ?_
  have X:=(Step.keeps (prog:=prog) (w:=w) S B hk).evo
  exact .lst hd (zct S hD) (by simpa using r.evo S.len X (NoSeq.nil _))
theorem zeS{as:List Expr}{x:Expr}(h:zlN as=some x):as=[x]:=by
 cases as with
 | nil=>cases h
 | cons a r=>cases r with
  | nil=>cases h;rfl
  | cons _ _=>cases h
theorem zio{cx:Cx}{y:Str}{args:List Expr}{x:Expr}(h:zi6 cx sc ρ y args=some x):y="sorted"∧∃ g gp q,args=[.Call (.Name g gp) [x] [] q]∧zaY cx sc ρ g=some (.bi "set"):=by
 unfold zi6 at h
 cases q:decide (y="sorted") with
 | false=>rw [q] at h;cases h
 | true=>
  rw [q] at h
  obtain ⟨e,h1,h2⟩:=Option.bind_eq_some_iff.mp h
  obtain ⟨as,h3,h4⟩:=Option.bind_eq_some_iff.mp h2
  obtain ⟨g,gp,q',rfl,hr⟩:=zdw h3
  rw [zeS h1,zeS h4]
  exact ⟨of_decide_eq_true q,g,gp,q',rfl,hr⟩
theorem zmJ:bis.lookup ("set":Str)=some (.type "set"):=by decide +kernel
theorem zf0:bis.lookup ("sorted":Str)=some (.builtin "sorted"):=by decide +kernel
theorem zlm{cx:Cx}{f fy:Str}{fp p:Pos}{args:List Expr}{m:M PV}(hG:GlobOk hB K cx.G)(hq:cx.md.rz=true∨cx.md.lp=true→A.handled=none)(H:EnvOk env sc)(IH:EvIH prog w hB A env ρ fl E)(I:Inv prog w hB env ρ fl s.heap ι σ)
  (hp:zau args=true) (hr:zaY cx sc ρ f=some (.bi fy)) (hm:SimV prog w hB A (eval (.Call (.Name f fp) args [] p) env) m s ι σ):SimV prog w hB A (eval (.Call (.Name f fp) args [] p) env) (zpy cx sc ρ E fy args p m) s ι σ:=by
 unfold zpy
 cases hs:zi6 cx sc ρ fy args with
 | none=>exact hm
 | some x=>
  clear hm
  obtain ⟨rfl,g,gp,q,rfl,hg⟩:=zio hs
  refine Sim.cond (fun hx=>?_) fun _=>Sim.fail
  intro Q Er hns hok herr
  refine Call_Name rfl (za0 hG.g H I.stays hr ⟨_,zf0⟩ _ _ fun v hv=>?_)
  have hv':bis.lookup ("sorted":Str)=some v:=hv
  rw [zf0] at hv';cases hv'
  refine Calls.callWith_builtin (zaH p hp) ?_
  rw [zaF _ [] (zaL hp).2]
  refine Calls.evalArgs_plain (Calls.spliced_cons ?_)
  refine Call_Name rfl (za0 hG.g H I.stays hg ⟨_,zmJ⟩ _ _ fun v hv=>?_)
  have hv':bis.lookup ("set":Str)=some v:=hv
  rw [zmJ] at hv';cases hv'
  refine PyProof.Rows.callWith_type (zaH q hx) ?_
  rw [zaF _ [] (zaL hx).2]
  refine Calls.evalArgs_plain (Calls.spliced_cons ?_)
  refine IH x s ι σ I _ _ (fun q=>hns (zae q)) (fun v σ₁ e₁ xv h₁ tk₁ dr₁ ι₁ X₁ r₁=>?_) (fun C σ₁ e₁ e h₁ tk₁ dr₁ ι₁ X₁ F₁=>herr C σ₁ (zaq e₁) e h₁ tk₁ dr₁ ι₁ X₁ F₁)
  refine Calls.spliced_nil ?_
  have hns:zcY cx p v σ₁≠.stuck:=fun q=>hns ((zaa e₁).trans q)
  cases lp:cx.md.lp with
  | false=>exact (hns (by unfold zcY;rw [lp];rfl)).elim
  | true=>
   have e2:zcY cx p v σ₁=((litems v).bind fun xs=>(M.lift (zbt xs)).bind fun ss=>M.cond (decide (ss.length<64)) (zaw cx p ((zal (setL ss)).map .str)) M.fail) σ₁:=by unfold zcY;rw [lp];rfl
   rcases zcw (s:={ s with heap:=h₁,toks:=tk₁,drawn:=dr₁ }) X₁.store r₁ with ⟨xs,vs,n,a,h1,rfl,hpl,rl⟩ | h1
   ·cases ha:zbt xs with
    | none=>exact (hns (e2.trans ((zaa h1).trans (by rw [ha];rfl)))).elim
    | some ss=>
     cases h64:decide (ss.length<64) with
     | false=>exact (hns (e2.trans ((zaa h1).trans (by rw [ha];show M.cond (decide (ss.length<64)) _ _ σ₁=_;rw [h64];rfl)))).elim
     | true=>
      have e3:zcY cx p v σ₁=zaw cx p ((zal (setL ss)).map .str) σ₁:=e2.trans ((zaa h1).trans (by rw [ha];show M.cond (decide (ss.length<64)) _ _ σ₁=_;rw [h64];rfl))
      have h64:=of_decide_eq_true h64
      have hh:=hq (.inr lp)
      refine zl1 (s:={ s with heap:=h₁,toks:=tk₁,drawn:=dr₁ }) (cx:=cx) (p:=p) (xs:=(zal (setL ss)).map .str) (W:=fun Q' E'=>wpAny (model prog w) A (call (.type "set") [.ref a]) (fun v s₁=>wpAny (model prog w) A (spliced []) (fun vs s₂=>wpAny (model prog w) A (call (.builtin "sorted") (v::vs)) Q' E' s₂) E' s₁) E' { s with heap:=h₁,toks:=tk₁,drawn:=dr₁ }) X₁.store X₁.stays (fun Q' E' hq'=>?_) Q Er
       (fun a' σ' e₃ x' h' tk dr ι' X₂ r₂=>hok a' σ' ((zaa e₁).trans (e3.trans e₃)) x' h' tk dr ι' (X₁.trans I.store.len X₂) r₂)
      have hS:=zeL rl ha
      refine zjH hh ⟨_,hpl,rfl,n,rfl⟩ hS (Nat.lt_of_le_of_lt (Nat.succ_le_of_lt h64) (by decide)) fun h₂ tk₂ S₂ hk₂=>Calls.spliced_nil ?_
      obtain ⟨es,ep,t,S₂⟩:=S₂
      refine zgX hh S₂ (Nat.lt_of_le_of_lt (zim ss []) (by rw [List.length_nil,Nat.zero_add];exact h64)) fun L h' n tk dr vs b1 b2 b3 b4=>?_
      exact hq' L h' n tk dr vs (zcr b1) (zaZ (fun b o e=>⟨o,hk₂ b o e⟩) b2) (fun b o e=>b3 b o (hk₂ b o e)) b4
   ·exact (hns (e2.trans (zae h1))).elim
end
end Mine
namespace Mine
open PySem PySem.SeqAt PyProof.Rows PySem.W
section
variable {prog:Program} {w:World} {hB:Heap} {A:Around} {fl:List Env} {K:Frag}
theorem Ar.units600{md:Md}{d:Nat}(H:Ar md d fl A):A.units+600<cLine:=by have:=H.units;lia
theorem Ar.inner{md:Md}{d:Nat}(H:Ar md d fl A):Ar ⟨false,md.lp⟩ d fl A:=⟨H.frames,H.depth,H.units,fun q=>H.quiet (q.elim (fun q=>nomatch q) .inr)⟩
theorem zj1{cx:Cx}{env:Env}{sc csc:Scope}{ρ:Loc}{n:Nat}{elt:Expr}{gens:List Comprehension}{p:Pos}{s:Shared}{ι:Ad}{σ:zab}(hG:GlobOk hB K cx.G)(hq:cx.md.lp=true→A.handled=none)(hu:A.units+600<cLine)(H:EnvOk env sc)
  (IHo:EvIH prog w hB A env ρ fl (ev cx n sc ρ)) (IHi:∀ cenv,EnvOk cenv csc→∀ k,k≤n→∀ ρ',EvIH prog w hB A cenv ρ' fl (ev { cx with md:=⟨false,cx.md.lp⟩ } k csc ρ')) (I:Inv prog w hB env ρ fl s.heap ι σ) :
  SimV prog w hB A (eval (.ListComp elt gens csc p) env) (zjs cx sc ρ (ev cx n sc ρ) csc (fun ρ' e=>ev { cx with md:=⟨false,cx.md.lp⟩ } n csc ρ' e) elt gens p) s ι σ:=by
 cases gens with
 | nil=>exact Sim.fail
 | cons g r=>
  cases r with
  | cons _ _=>exact Sim.fail
  | nil=>
   obtain ⟨t,it,ifs,a⟩:=g
   refine Sim.cond (fun q=>?_) fun _=>Sim.fail
   rw [Bool.and_eq_true,Bool.and_eq_true,Bool.and_eq_true] at q
   obtain ⟨ha,⟨hlp,hco⟩,hnm⟩:=q
   have ha₂:a=0:=of_decide_eq_true ha
   subst ha₂
   exact (zls hG (hq hlp) hu (zfc hco) H IHo IHi I).res zfa
theorem zm7{cx:Cx}{d:Nat}{E:Expr→M PV}{env:Env}{sc:Scope}{ρ:Loc}{f:Str}{fp p:Pos}{args:List Expr}{s:Shared}{ι:Ad}{σ:zab}(hG:GlobOk hB K cx.G)(hA:Ar cx.md d fl A)(hc:ziT prog w hB d cx.call)(H:EnvOk env sc)(IH:EvIH prog w hB A env ρ fl E)(hst:∀ e p,E (.Starred e p)=M.fail)(I:Inv prog w hB env ρ fl s.heap ι σ)(hp:zau args=true) :
  SimV prog w hB A (eval (.Call (.Name f fp) args [] p) env) (evFn cx sc ρ E f args p) s ι σ:=by
 refine Sim.lift fun c hr=>?_
 cases c with
 | fn a=>exact zoL hG hA hc H IH hst I hp hr
 | bi y=>
  refine Sim.cond (fun q=>?_) fun _=>?_
  ·have q:=of_decide_eq_true q
   subst q
   exact zjZ hG.cls hG.g hG.inK H IH I hp hr
  ·refine zlm hG hA.quiet H IH I hp hr ?_
   refine Sim.lift fun b hb=>?_
   exact zj3 hG.g H IH hst I hp hr (zmQ _ (zdn hb)) (zkC b) fun vs xs s' ι' σ' I' r'=>zij hA I'.store I'.stays r'
 | _=>exact Sim.fail
theorem zi2{cx:Cx}{d:Nat}(hG:GlobOk hB K cx.G)(hc:ziT prog w hB d cx.call):∀(n:Nat)(md:Md)(_:Ar md d fl A)(env:Env)(sc:Scope)(_:EnvOk env sc)(ρ:Loc),EvIH prog w hB A env ρ fl (ev { cx with md:=md } n sc ρ):=by
 intro n
 induction n using Nat.strongRecOn with
 | _ n ih=>
  intro md hA env sc H ρ e s ι σ I
  cases n with
  | zero=>exact Sim.fail
  | succ n=>
   have IHk:∀ k,k≤n→EvIH prog w hB A env ρ fl (ev { cx with md:=md } k sc ρ):=fun k hk=>ih k (Nat.lt_succ_of_le hk) md hA env sc H ρ
   have IH:=IHk n (Nat.le_refl _)
   have hu:=hA.units600
   cases e with
   | Constant c k p=>exact zlr I
   | Name x p=>exact zm5 hG.g H I
   | BoolOp op vs p=>exact zfC IH p op vs s ι σ I
   | BinOp l op r p=>exact zj4 IH I
   | UnaryOp op x p=>exact zld IH I
   | IfExp t a b p=>exact zll hu IHk I
   | Compare l ops cs p=>exact zih hu IH I
   | Tuple es k p=>exact zjT IH I
   | List es p=>exact zli IH I
   | Dict ks vs p=>exact zlo I
   | Subscript v i p=>exact zm4 IH I
   | ListComp elt gens csc p=>exact zj1 (cx:={ cx with md:=md }) hG (fun q=>hA.quiet (.inr q)) hu H IH (fun cenv Hc k hk ρ'=>ih k (Nat.lt_succ_of_le hk) _ hA.inner cenv csc Hc ρ') I
   | Call f args kws p=>
    cases kws with
    | cons k ks=>exact Sim.fail
    | nil=>
     cases f with
     | Attribute o m ap=>exact zlh hu IH za7 I
     | Name f fp=>exact Sim.cond (fun hp=>zm7 (cx:={ cx with md:=md }) hG hA hc H IH za7 I hp) fun _=>Sim.fail
     | _=>exact Sim.fail
   | _=>exact Sim.fail
end
structure Soft (h₀:Heap) (fr:List Addr) (h h':Heap):Prop where
 soft:∀ b o,h.get? b=some o→∃ o',h'.get? b=some o'∧o'.cls=o.cls∧o'.dict=o.dict∧((∀ vs,o.data≠.fields vs)→o'.data=o.data∧(b∉fr→o'=o))∧(∀ vs,o.data=.fields vs→∃ vs',o'.data=.fields vs')
 hard:∀ b o,h.get? b=some o→h₀.get? b≠none→(∃ sl,h'.get? b=some { o with slots:=sl })∧(b∉fr→h'.get? b=some o)
theorem Soft.refl(h₀:Heap)(fr:List Addr)(h:Heap):Soft h₀ fr h h:=
 ⟨fun _ o e=>⟨o,e,rfl,rfl,fun _=>⟨rfl,fun _=>rfl⟩,fun vs q=>⟨vs,q⟩⟩,fun _ o e _=>⟨⟨o.slots,e⟩,fun _=>e⟩⟩
theorem Soft.trans{h₀ h₁ h₂ h₃:Heap}{fr:List Addr}(X:Soft h₀ fr h₁ h₂)(Y:Soft h₀ fr h₂ h₃):Soft h₀ fr h₁ h₃ where
 soft:=fun b o e=>by
  obtain ⟨o₂,e₂,a₂,b₂,c₂,d₂⟩:=X.soft b o e
  obtain ⟨o₃,e₃,a₃,b₃,c₃,d₃⟩:=Y.soft b o₂ e₂
  refine ⟨o₃,e₃,a₃.trans a₂,b₃.trans b₂,fun q=>?_,fun vs q=>?_⟩
  ·have hc:=c₂ q
   have hq:∀ vs,o₂.data≠.fields vs:=fun vs=>by rw [hc.1];exact q vs
   have hc':=c₃ hq
   exact ⟨hc'.1.trans hc.1,fun hb=>(hc'.2 hb).trans (hc.2 hb)⟩
  ·obtain ⟨vs',q'⟩:=d₂ vs q
   exact d₃ vs' q'
 hard:=fun b o e hn=>by
  obtain ⟨⟨sl,e₂⟩,k₂⟩:=X.hard b o e hn
  obtain ⟨⟨sl',e₃⟩,_⟩:=Y.hard b _ e₂ hn
  exact ⟨⟨sl',e₃⟩,fun hb=>(Y.hard b o (k₂ hb) hn).2 hb⟩
theorem Soft.slots{h₀ h h':Heap}{fr:List Addr}(X:Heap.SlotsOnly fr h h'):Soft h₀ fr h h' where
 soft:=fun b o e=>by
  obtain ⟨sl,e'⟩:=X.2.2 b o e
  refine ⟨_,e',rfl,rfl,fun _=>⟨rfl,fun hb=>?_⟩,fun vs q=>⟨vs,q⟩⟩
  have:=(X.2.1 b hb).trans e
  rw [e'] at this;exact Option.some.inj this
 hard:=fun b o e _=>⟨X.2.2 b o e,fun hb=>(X.2.1 b hb).trans e⟩
theorem Soft.push(h₀ h:Heap)(fr:List Addr)(o:Obj):Soft h₀ fr h (h.push o):=
 ⟨fun _ o' e=>⟨o',Heap.get?_push_of_some _ e,rfl,rfl,fun _=>⟨rfl,fun _=>rfl⟩,fun vs q=>⟨vs,q⟩⟩,fun _ o' e _=>⟨⟨o'.slots,Heap.get?_push_of_some _ e⟩,fun _=>Heap.get?_push_of_some _ e⟩⟩
theorem Obj.dict_mapFields(f:Array Value→Array Value)(o:Obj):(Obj.mapFields f o).dict=o.dict:=by
 obtain ⟨c,d,dt,sl⟩:=o;cases dt <;> rfl
theorem Soft.upd{h₀ h:Heap}{fr:List Addr}{a:Addr}{o:Obj}{vs:Array Value}(f:Array Value→Array Value)(ho:h.get? a=some o)(hd:o.data=.fields vs)(hn:h₀.get? a=none):Soft h₀ fr h (h.update a (Obj.mapFields f)) where
 soft:=fun b o' e=>by
  by_cases hb:b=a
  ·subst hb
   rw [ho] at e;cases e
   have hd':=Obj.data_mapFields hd f
   exact ⟨_,Heap.get?_update_self _ ho (Obj.isFreed_of_fields hd'),Obj.cls_mapFields _ _,Obj.dict_mapFields _ _,fun q=>(q _ hd).elim,fun _ _=>⟨_,hd'⟩⟩
  ·exact ⟨o',(Heap.get?_update_other _ _ (Ne.symm hb)).trans e,rfl,rfl,fun _=>⟨rfl,fun _=>rfl⟩,fun vs q=>⟨vs,q⟩⟩
 hard:=fun b o' e hb0=>by
  have hb:b≠a:=fun q=>hb0 (q▸hn)
  have:=(Heap.get?_update_other (h:=h) (Obj.mapFields f) (Ne.symm hb)).trans e
  exact ⟨⟨o'.slots,this⟩,fun _=>this⟩
section
variable {prog:Program} {w:World} {hB:Heap} {A:Around} {s:Shared} {ι:Ad} {σ:zab} {env:Env} {ρ:Loc} {fl:List Env} {sc:Scope} {h₀ h h':Heap} {fr:List Addr}
theorem zkU(X:Soft h₀ fr h h')(hd:∀ b∈fr,∃ o es n,h.get? b=some o∧o.data=.dict es n):RepTo h ι σ h' ι σ where
 seq:=fun e nl=>by
  obtain ⟨o',e',_,_,c,_⟩:=X.soft _ _ e
  have hb:_∉fr:=fun q=>by obtain ⟨o,es,n,ho,hd⟩:=hd _ q;rw [e] at ho;cases ho;cases hd
  have:=(c fun _ q=>nomatch q).2 hb
  subst this
  exact ⟨e',nl⟩
 vis:=fun e=>e
 exc:=fun e c d k nl=>by
  obtain ⟨o',e',a,b,_,f⟩:=X.soft _ _ e
  obtain ⟨vs',q⟩:=f _ d
  exact .exc e' (a.trans c) q (b.trans k) nl
theorem Rep.soft(X:Soft h₀ fr h h')(hd:∀ b∈fr,∃ o es n,h.get? b=some o∧o.data=.dict es n){x:PV}{v:Value}(r:Rep h ι σ x v):Rep h' ι σ x v:=r.to (zkU X hd)
theorem RepL.soft(X:Soft h₀ fr h h')(hd:∀ b∈fr,∃ o es n,h.get? b=some o∧o.data=.dict es n){xs:List PV}{vs:List Value}(r:RepL h ι σ xs vs):RepL h' ι σ xs vs:=r.to (zkU X hd)
theorem Ns.soft{a:Addr}{m:Str→Option Value}(X:Soft h₀ fr h h')(hn:h.Ns a m):h'.Ns a m:=by
 obtain ⟨o,es,ep,ho,hd,r⟩:=hn
 obtain ⟨o',e',_,_,c,_⟩:=X.soft a o ho
 exact ⟨o',es,ep,e',(c fun vs q=>by rw [hd] at q;cases q).1.trans hd,r⟩
theorem IsCell.soft{a:Addr}{y:Option Value}(X:Soft h₀ fr h h')(hn:h.IsCell a y):h'.IsCell a y:=by
 obtain ⟨o,ho,hd⟩:=hn
 obtain ⟨o',e',_,_,c,_⟩:=X.soft a o ho
 exact ⟨o',e',(c fun vs q=>by rw [hd] at q;cases q).1.trans hd⟩
theorem StoreOk.soft(S:StoreOk prog w hB h ι σ)(X:Soft h₀ fr h h')(hd:∀ b∈fr,∃ o es n,h.get? b=some o∧o.data=.dict es n)(hnl:∀ b∈fr,¬ Live ι σ b):StoreOk prog w hB h' ι σ:=by
 refine ⟨S.len,S.nodup,fun a ha=>?_,fun a ha=>?_,S.apart,S.base,S.hbase,S.sys,fun i a c e e'=>?_⟩
 ·obtain ⟨o,ho⟩:=S.there a ha;obtain ⟨o',e,_⟩:=X.soft a o ho;exact ⟨o',e⟩
 ·obtain ⟨o,ho,f⟩:=S.hthere a ha;obtain ⟨o',e,_,_,c,_⟩:=X.soft a o ho;exact ⟨o',e,fun vs=>by rw [(c f).1];exact f vs⟩
 ·have x:=S.ok i a c e e'
  cases c with
  | dead=>trivial
  | list xs=>
   have hb:a∉fr:=fun q=>hnl a q (.inl ⟨i,_,e,e',by intro q;cases q⟩)
   obtain ⟨vs,⟨n,hp⟩,r⟩:=x
   obtain ⟨o',e',_,_,c,_⟩:=X.soft _ _ hp
   have:=(c fun _ q=>nomatch q).2 hb
   subst this
   exact ⟨vs,⟨n,e'⟩,r.soft X hd⟩
  | dict kvs=>
   have hb:a∉fr:=fun q=>hnl a q (.inl ⟨i,_,e,e',by intro q;cases q⟩)
   obtain ⟨ys,⟨o,es,ep,ho,hx,hdt,k⟩,k2,r⟩:=x
   obtain ⟨o',e',_,_,c,_⟩:=X.soft _ _ ho
   have:=(c fun vs q=>by rw [hdt] at q;cases q).2 hb
   subst this
   exact ⟨ys,⟨o',es,ep,e',hx,hdt,k⟩,k2,r.soft X hd⟩
theorem FrOk.soft(F:FrOk hB env ρ h ι σ)(X:Soft h₀ fr h h')(hd:∀ b∈fr,∃ o es n,h.get? b=some o∧o.data=.dict es n):FrOk hB env ρ h' ι σ:=by
 refine ⟨?_,fun x v e k=>?_,F.kinds,fun x k=>?_,F.apart,F.own,fun b hb=>?_,F.off⟩
 ·obtain ⟨m,hn,hv⟩:=F.ns
  refine ⟨m,Ns.soft X hn,fun x v e k=>?_⟩
  obtain ⟨y,hy,r⟩:=hv x v e k
  exact ⟨y,hy,r.soft X hd⟩
 ·obtain ⟨c,y,hc,hy,r⟩:=F.cel x v e k
  exact ⟨c,y,hc,IsCell.soft X hy,r.soft X hd⟩
 ·obtain ⟨c,y,hc,hy⟩:=F.cells x k
  exact ⟨c,y,hc,IsCell.soft X hy⟩
 ·obtain ⟨y,hy⟩:=F.cellsAt b hb
  exact ⟨y,IsCell.soft X hy⟩
theorem Stk.soft(S:Stk hB fl h ι σ)(X:Soft h₀ fr h h'):Stk hB fl h' ι σ:=by
 refine ⟨FunFrames.map S.fun_ fun b hb o ho hd=>?_,S.notLive,fun b hb=>?_⟩
 ·obtain ⟨o',e',_,_,c,_⟩:=X.soft b o ho
  exact ⟨o',e',fun vs=>by rw [(c hd).1];exact hd vs⟩
 ·obtain ⟨o,es,n,ho,hd⟩:=S.dicts b hb
  obtain ⟨o',e',_,_,c,_⟩:=X.soft b o ho
  exact ⟨o',es,n,e',(c fun vs q=>by rw [hd] at q;cases q).1.trans hd⟩
theorem Evo.soft{D:List Addr}{ι₀:Ad}{σ₀:zab}(Y:Evo D h₀ ι₀ σ₀ h ι σ)(X:Soft h₀ fr h h')(hd:∀ b∈fr,∃ o es n,h.get? b=some o∧o.data=.dict es n):Evo D h₀ ι₀ σ₀ h' ι σ where
 pre:=Y.pre
 fresh:=Y.fresh
 dead:=Y.dead
 alive:=fun b o e=>by obtain ⟨o₁,e₁⟩:=Y.alive b o e;obtain ⟨o₂,e₂,_⟩:=X.soft b o₁ e₁;exact ⟨o₂,e₂⟩
 keep:=fun b o e hn hD=>by
  obtain ⟨⟨sl,e₁⟩,k⟩:=Y.keep b o e hn hD
  have hne:h₀.get? b≠none:=by rw [e];intro q;cases q
  obtain ⟨⟨sl',e₂⟩,_⟩:=X.hard b _ e₁ hne
  refine ⟨⟨sl',e₂⟩,fun q=>(X.hard b o (k q) hne).2 fun hb=>?_⟩
  obtain ⟨o',es,n,ho,hd'⟩:=hd b hb
  rw [k q] at ho;cases ho
  exact q es n hd'
 hid:=Y.hid
 hfresh:=Y.hfresh
theorem zjR(B:hB.StaysIn h)(X:Soft h₀ fr h h')(hb:∀ b o,hB.get? b=some o→h₀.get? b≠none)(hf:∀ b∈fr,hB.get? b=none):hB.StaysIn h':=fun b o e=>
 (X.hard b o (B b o e) (hb b o e)).2 fun q=>by rw [hf b q] at e;cases e
noncomputable def Fly'(h h':Heap)(e C:Addr):Prop:=h.get? e=Option.none∧∃ oe vs T oT ts,h'.get? e=some oe∧(oe.cls=.ref C∧oe.dict=Option.none)∧oe.data=.fields vs∧1<vs.size∧
  (vs[1]?=some (.ref T)∧T≠e∧h.get? T=Option.none∧h'.get? T=some oT∧oT.data=.fields ts∧3<ts.size)
theorem zd9{outer:List Env}{L e C:Addr}{head:Value}{hadNext:Bool}{Q:Unit→Shared→Prop}{E:Value→Shared→Prop}{oe:Obj}{vs:Array Value}(hfr:A.frames=some (env::outer))(S:Stk hB (env::outer) s.heap ι σ)(hf:env.frame=some L)
  (hn:h₀.get? e=none) (hn0:∀ b o,h₀.get? b=some o→∃ o',s.heap.get? b=some o') (he:s.heap.get? e=some oe) (hc:oe.cls=.ref C∧oe.dict=none) (hd:oe.data=.fields vs) (hsz:1<vs.size)
  (h:∀ h',Soft h₀ ((env::outer).filterMap (·.frame)) s.heap h'→Fly' h₀ h' e C→Q () { s with heap:=h' }) :
  wpAny (model prog w) A (do let a ← frameOf env;let pl ← entryPlaceOf L hadNext;let b ← EntryCells.newEntry head a .none (rawInt L) .none pl;setField (.ref e) 1 b) Q E s:=by
 have hene:e∉(env::outer).filterMap (·.frame):=fun hm=>by
  obtain ⟨_,o,ho,hnf⟩:=S.fun_.mem hm
  rw [he] at ho;cases ho;exact hnf vs hd
 refine wpAny_bind (wpAny_frameOf_fun hfr S.fun_ hf fun h₁ hs₁=>?_)
 refine wpAny_bind (wpAny_entryPlaceOf fun pl hpl=>?_)
 unfold EntryCells.newEntry newFields
 refine wpAny_bind (wpAny_newObj_type ?_ (hpl.sizeOk5 _ _ _ _ _))
 generalize hT:({ cls:=.type "traceback",dict:=none,data:=.fields ([head,.ref L,.none,rawInt L,.none]++(if pl.isEmpty then List.replicate 6 Value.none else pl)).toArray }:Obj)=oT
 have he₁:h₁.get? e=some oe:=(hs₁.2.1 e hene).trans he
 have he₂:=Heap.get?_push_of_some (h:=h₁) oT he₁
 have hX:Soft h₀ ((env::outer).filterMap (·.frame)) s.heap ((h₁.push oT).update e (Obj.mapFields (·.setIfInBounds 1 (Value.ref h₁.objs.size)))):=
  ((Soft.slots hs₁).trans (Soft.push _ _ _ oT)).trans (Soft.upd _ he₂ hd hn)
 have hTe:h₁.objs.size≠e:=Nat.ne_of_gt (Heap.lt_size he₁)
 have hfree:oT.isFreed=false:=by rw [← hT];rfl
 have hd₃:=Obj.data_mapFields hd (·.setIfInBounds 1 (Value.ref h₁.objs.size))
 refine wpAny_setField he₂ hd hsz (h _ hX ⟨hn,_,_,h₁.objs.size,oT,_,Heap.get?_update_self _ he₂ (Obj.isFreed_of_fields hd₃),⟨(Obj.cls_mapFields _ _).trans hc.1,(Obj.dict_mapFields _ _).trans hc.2⟩,hd₃,by simpa using hsz,⟨by simp [hsz],hTe,?_,(Heap.get?_update_other _ _ (Ne.symm hTe)).trans (Heap.get?_push_size h₁ hfree),by rw [← hT],?_⟩⟩)
 ·refine zaZ (h₂:=h₁) (fun b o eb=>?_) (zay h₁)
  obtain ⟨o',e'⟩:=hn0 b o eb
  obtain ⟨sl,e''⟩:=hs₁.2.2 b o' e'
  exact ⟨_,e''⟩
 ·simp only [List.size_toArray,List.length_append,List.length_cons,List.length_nil];lia
theorem zd8{outer:List Env}{L e C:Addr}{Q:Unit→Shared→Prop}{E:Value→Shared→Prop}(hfr:A.frames=some (env::outer))(S:Stk hB (env::outer) s.heap ι σ)(hf:env.frame=some L)
  (F:Fly h₀ s.heap e C) (hn0:∀ b o,h₀.get? b=some o→∃ o',s.heap.get? b=some o')
  (h:∀ h' oe vs T,Soft h₀ ((env::outer).filterMap (·.frame)) s.heap h'→Fly h₀ h' e C→h'.get? e=some oe→oe.data=.fields vs→vs[1]?=some (.ref T)→Q () { s with heap:=h' }) :
  wpAny (model prog w) A (noteFrame (.ref e) env) Q E s:=by
 have key:∀{h':Heap},Soft h₀ ((env::outer).filterMap (·.frame)) s.heap h'→Fly h₀ h' e C→(∃ oe vs T,h'.get? e=some oe∧oe.data=.fields vs∧vs[1]?=some (.ref T))→Q () { s with heap:=h' }:=by
  rintro h' X F' ⟨oe,vs,T,a,b,c⟩;exact h h' oe vs T X F' a b c
 obtain ⟨hn,oe,vs,he,hc,hd,hsz,ht⟩:=F
 have tb:∀{h':Heap},Soft h₀ ((env::outer).filterMap (·.frame)) s.heap h'→Fly' h₀ h' e C→Q () { s with heap:=h' }:=by
  rintro h' X ⟨hn,oe,vs,T,oT,ts,h1,h2,h3,h4,h5⟩
  exact key X ⟨hn,oe,vs,h1,h2,h3,h4,.inr ⟨T,oT,ts,h5⟩⟩ ⟨oe,vs,T,h1,h3,h5.1⟩
 unfold noteFrame
 simp only [hf]
 rcases ht with h1 | ⟨T,oT,ts,h1,hTe,hTn,hT,hdT,h3⟩
 ·refine wpAny_bind (wpAny_field he hd h1 ?_)
  rw [if_neg (by decide)]
  exact zd9 hfr S hf hn hn0 he hc hd hsz fun h' X F'=>tb X F'
 ·refine wpAny_bind (wpAny_field he hd h1 ?_)
  rw [if_pos (show (Value.ref T != Value.none)=true from by simp)]
  obtain ⟨x,hx⟩:∃ x,ts[3]?=some x:=⟨_,Array.getElem?_eq_getElem h3⟩
  refine wpAny_bind (wpAny_field hT hdT hx ?_)
  cases q:x==rawInt L with
  | true=>exact wpAny_pure (tb (Soft.refl _ _ _) ⟨hn,oe,vs,T,oT,ts,he,hc,hd,hsz,h1,hTe,hTn,hT,hdT,h3⟩)
  | false=>
   refine wpAny_bind (wpAny_setField hT hdT h3 ?_)
   have X₁:Soft h₀ ((env::outer).filterMap (·.frame)) s.heap (s.heap.update T (Obj.mapFields (·.setIfInBounds 3 Value.none))):=Soft.upd _ hT hdT hTn
   refine zd9 (s:={ s with heap:=s.heap.update T (Obj.mapFields (·.setIfInBounds 3 Value.none)) }) hfr (S.soft X₁) hf hn (fun b o eb=>?_) ((Heap.get?_update_other _ _ hTe).trans he) hc hd hsz fun h' X F'=>tb (X₁.trans X) F'
   obtain ⟨o',e'⟩:=hn0 b o eb
   obtain ⟨o'',e'',_⟩:=X₁.soft b o' e'
   exact ⟨o'',e''⟩
theorem zd7{e C:Addr}{L:Option Addr}{Q:Unit→Shared→Prop}{E:Value→Shared→Prop}(F:Fly h₀ s.heap e C) (h:∀ h',Soft h₀ fr s.heap h'→Fly h₀ h' e C→Q () { s with heap:=h' }):wpAny (model prog w) A (setFlight (.ref e) L) Q E s:=by
 obtain ⟨hn,oe,vs,he,hc,hd,hsz,ht⟩:=F
 unfold setFlight
 rcases ht with h1 | ⟨T,oT,ts,h1,hTe,hTn,hT,hdT,h3⟩
 ·refine wpAny_bind (wpAny_field he hd h1 ?_)
  rw [if_neg (by decide)]
  exact wpAny_pure (h s.heap (Soft.refl _ _ _) ⟨hn,oe,vs,he,hc,hd,hsz,.inl h1⟩)
 ·refine wpAny_bind (wpAny_field he hd h1 ?_)
  rw [if_pos (show (Value.ref T != Value.none)=true from by simp)]
  have hdT':=Obj.data_mapFields hdT (·.setIfInBounds 3 (L.elim Value.none fun f=>rawInt f))
  refine wpAny_setField hT hdT h3 (h _ (Soft.upd _ hT hdT hTn) ⟨hn,oe,vs,(Heap.get?_update_other _ _ hTe).trans he,hc,hd,hsz,.inr ⟨T,_,_,h1,hTe,hTn,Heap.get?_update_self _ hT (Obj.isFreed_of_fields hdT'),hdT',by simpa using h3⟩⟩)
theorem zjI{outer:List Env}{L e C:Addr}{Q:Unit→Shared→Prop}{E:Value→Shared→Prop}(hfr:A.frames=some (env::outer))(S:Stk hB (env::outer) s.heap ι σ)(hf:env.frame=some L)
  (F:Fly h₀ s.heap e C) (hn0:∀ b o,h₀.get? b=some o→∃ o',s.heap.get? b=some o')
  (h:∀ h',Soft h₀ ((env::outer).filterMap (·.frame)) s.heap h'→Fly h₀ h' e C→Q () { s with heap:=h' }) :
  wpAny (model prog w) A (leaving env (.ref e)) Q E s:=by
 unfold leaving
 refine wpAny_bind (zd8 hfr S hf F hn0 fun h₁ oe vs T X₁ F₁ _ _ _=>?_)
 exact zd7 (s:={ s with heap:=h₁ }) (fr:=(env::outer).filterMap (·.frame)) F₁ fun h₂ X₂ F₂=>h h₂ (X₁.trans X₂) F₂
end
noncomputable def zkh:Loc:=fun _=>Option.none
noncomputable def FlR(prog:Program)(w:World)(hB:Heap)(env:Env)(fl:List Env)(h':Heap)(ι':Ad)(σ':zab)(f:Fl)(x:Flow):Prop:=
 match f with
 | .next ρ'=>x=.next∧Inv prog w hB env ρ' fl h' ι' σ'
 | .ret v=>∃ y,x=.ret y∧Rep h' ι' σ' v y∧Inv prog w hB env zkh fl h' ι' σ'
noncomputable def SimX(prog:Program)(w:World)(hB:Heap)(A:Around)(env:Env)(fl:List Env)(t:Sem Flow)(r:M Fl)(s:Shared)(ι:Ad)(σ:zab):Prop:=
 ∀(Q:Flow→Shared→Prop)(E:Value→Shared→Prop),r σ≠.stuck→
  (∀ f σ',r σ=.ok f σ'→∀ x h' tk dr ι',Evo (dyn env) s.heap ι σ h' ι' σ'→FlR prog w hB env fl h' ι' σ' f x→Q x { s with heap:=h',toks:=tk,drawn:=dr })→
  (∀ C σ',r σ=.err C σ'→∀ e h' tk dr ι',Evo (dyn env) s.heap ι σ h' ι' σ'→Inv prog w hB env zkh fl h' ι' σ'→Fly s.heap h' e C→E (.ref e) { s with heap:=h',toks:=tk,drawn:=dr })→
  wpAny (model prog w) A t Q E s
section
variable {prog:Program} {w:World} {hB:Heap} {A:Around} {s:Shared} {ι:Ad} {σ:zab} {env:Env} {ρ:Loc} {fl:List Env} {sc:Scope} {K:Frag}
theorem SimX.fail{t:Sem Flow}:SimX prog w hB A env fl t M.fail s ι σ:=fun _ _ h _ _=>(h rfl).elim
theorem SimX.cond{t:Sem Flow}{b:Bool}{x y:M Fl}(hx:b=true→SimX prog w hB A env fl t x s ι σ)(hy:b=false→SimX prog w hB A env fl t y s ι σ):SimX prog w hB A env fl t (M.cond b x y) s ι σ:=by
 cases b
 ·exact hy rfl
 ·exact hx rfl
theorem SimX.res{t:Sem Flow}{r r':M Fl}(h:SimX prog w hB A env fl t r s ι σ)(e:r' σ=r σ):SimX prog w hB A env fl t r' s ι σ:=
 fun Q E hns hok herr=>h Q E (e▸hns) (fun a σ' q=>hok a σ' (e.trans q)) (fun C σ' q=>herr C σ' (e.trans q))
theorem Inv.noRho'{h:Heap}(I:Inv prog w hB env ρ fl h ι σ):Inv prog w hB env zkh fl h ι σ:=I.sub fun _ _ e=>nomatch e
theorem SimX.after{α β:Type}{R:Heap→Ad→zab→α→β→Prop}{t:Sem β}{r:M α}{f:α→M Fl}{k:β→Sem Flow}(I:Inv prog w hB env ρ fl s.heap ι σ)(h1:Sim prog w hB A R t r s ι σ)
  (h2:∀ a σ' x h' tk dr ι',r σ=.ok a σ'→Step prog w hB s.heap ι σ h' ι' σ'→R h' ι' σ' a x→SimX prog w hB A env fl (k x) (f a) { s with heap:=h',toks:=tk,drawn:=dr } ι' σ') :
  SimX prog w hB A env fl (t >>= k) (r.bind f) s ι σ:=by
 intro Q E hns hok herr
 have hl:=I.store.len
 have hne:r σ≠.stuck:=fun q=>hns (zae q)
 refine wpAny_bind (h1 _ _ hne (fun a σ₁ e₁ x h₁ tk₁ dr₁ ι₁ X₁ r₁=>?_) (fun C σ₁ e₁ e h₁ tk₁ dr₁ ι₁ X₁ F₁=>?_))
 ·have hb:(r.bind f) σ=f a σ₁:=by simp only [M.bind,e₁]
  refine h2 a σ₁ x h₁ tk₁ dr₁ ι₁ e₁ X₁ r₁ Q E (by rw [← hb];exact hns) (fun b σ₂ e₂ y h₂ tk₂ dr₂ ι₂ X₂ r₂=>?_) (fun C σ₂ e₂ e h₂ tk₂ dr₂ ι₂ X₂ I₂ F₂=>?_)
  ·exact hok b σ₂ (hb.trans e₂) y h₂ tk₂ dr₂ ι₂ ((X₁.evo.wide fun _ q=>nomatch q).trans hl X₂ fun b hb _ _=>hb) r₂
  ·exact herr C σ₂ (hb.trans e₂) e h₂ tk₂ dr₂ ι₂ ((X₁.evo.wide fun _ q=>nomatch q).trans hl X₂ fun b hb _ _=>hb) I₂ (F₂.older X₁.evo.alive)
 ·exact herr C σ₁ (zaq e₁) e h₁ tk₁ dr₁ ι₁ (X₁.evo.wide fun _ q=>nomatch q) (I.step X₁).noRho' F₁
theorem SimX.standAt{t:Sem Flow}{r:M Fl}(p:Pos)(h:SimX prog w hB A env fl t r s ι σ):SimX prog w hB A env fl (do standAt p;t) r s ι σ:=fun Q E hns hok herr=>wpAny_bind (wpAny_standAt (h Q E hns hok herr))
theorem SimX.pure{f:Fl}{x:Flow}(h:FlR prog w hB env fl s.heap ι σ f x):SimX prog w hB A env fl (pure x) (M.ret f) s ι σ:=by
 intro Q E _ hok _
 exact wpAny_pure (hok f σ rfl x s.heap s.toks _ ι ((Evo.refl _ _ _).wide fun _ q=>nomatch q) h)
noncomputable abbrev ExIH(prog:Program)(w:World)(hB:Heap)(A:Around)(env:Env)(fl:List Env)(X:Loc→Stmt→M Fl):Prop:=
 ∀ st ρ s ι σ,Inv prog w hB env ρ fl s.heap ι σ→SimX prog w hB A env fl (exec st env) (X ρ st) s ι σ
theorem zkF{X:Loc→Stmt→M Fl}(IH:ExIH prog w hB A env fl X):∀(l:List Stmt)(ρ:Loc)(s:Shared)(ι:Ad)(σ:zab),Inv prog w hB env ρ fl s.heap ι σ→SimX prog w hB A env fl (execs l env) (exs X ρ l) s ι σ
 | [],ρ,s,ι,σ,I=>fun Q E _ hok _=>wpAny_execs_nil (hok _ σ rfl _ s.heap s.toks _ ι ((Evo.refl _ _ _).wide fun _ q=>nomatch q) ⟨rfl,I⟩)
 | st::rest,ρ,s,ι,σ,I=>by
  intro Q E hns hok herr
  have hne:X ρ st σ≠.stuck:=fun q=>hns (zae q)
  refine wpAny_execs_cons (IH st ρ s ι σ I _ _ hne (fun f σ₁ e₁ x h₁ tk₁ dr₁ ι₁ X₁ r₁=>?_) (fun C σ₁ e₁ e h₁ tk₁ dr₁ ι₁ X₁ I₁ F₁=>herr C σ₁ (zaq e₁) e h₁ tk₁ dr₁ ι₁ X₁ I₁ F₁))
  cases f with
  | next ρ'=>
   obtain ⟨rfl,I₁⟩:=r₁
   have hb:exs X ρ (st::rest) σ=exs X ρ' rest σ₁:=zaa e₁
   refine zkF IH rest ρ' { s with heap:=h₁,toks:=tk₁,drawn:=dr₁ } ι₁ σ₁ I₁ Q E (by rw [← hb];exact hns) (fun b σ₂ e₂ y h₂ tk₂ dr₂ ι₂ X₂ r₂=>?_) (fun C σ₂ e₂ e h₂ tk₂ dr₂ ι₂ X₂ I₂ F₂=>?_)
   ·exact hok b σ₂ (hb.trans e₂) y h₂ tk₂ dr₂ ι₂ (X₁.trans I.store.len X₂ fun b hb _ _=>hb) r₂
   ·exact herr C σ₂ (hb.trans e₂) e h₂ tk₂ dr₂ ι₂ (X₁.trans I.store.len X₂ fun b hb _ _=>hb) I₂ (F₂.older X₁.alive)
  | ret v=>
   obtain ⟨y,rfl,r₁,I₁⟩:=r₁
   exact hok (.ret v) σ₁ (zaa e₁) _ h₁ tk₁ dr₁ ι₁ X₁ ⟨y,rfl,r₁,I₁⟩
theorem zmV{E:Expr→M PV}{e:Expr}{p:Pos}(IH:EvIH prog w hB A env ρ fl E)(I:Inv prog w hB env ρ fl s.heap ι σ):SimX prog w hB A env fl (exec (.Return (some e) p) env) ((E e).bind fun v=>M.ret (.ret v)) s ι σ:=by
 rw [exec_Return_some]
 refine SimX.standAt p (SimX.after I (IH e s ι σ I) fun v σ₁ x h₁ tk₁ dr₁ ι₁ e₁ X₁ r₁=>SimX.pure ⟨x,rfl,r₁,(I.step X₁).noRho'⟩)
theorem x_if{cx:Cx}{n:Nat}{t:Expr}{a b:List Stmt}{p:Pos}{X:Loc→Stmt→M Fl}(hu:A.units+600<cLine)(IHe:∀ k,k≤n→EvIH prog w hB A env ρ fl (ev cx k sc ρ))(IH:ExIH prog w hB A env fl X)(I:Inv prog w hB env ρ fl s.heap ι σ) :
  SimX prog w hB A env fl (exec (.If t a b p) env) ((ev cx n sc ρ t).bind fun v=>(zap v).bind fun c=>M.cond c (exs X ρ a) (exs X ρ b)) s ι σ:=by
 rw [exec_If,← M.bind_assoc]
 refine SimX.standAt p (SimX.after I (zdK hu n IHe t s ι σ I) fun c σ₁ x h₁ tk₁ dr₁ ι₁ e₁ X₁ r₁=>?_)
 cases r₁
 cases c
 ·exact zkF IH b ρ _ ι₁ σ₁ (I.step X₁)
 ·exact zkF IH a ρ _ ι₁ σ₁ (I.step X₁)
theorem zp1{E:Expr→M PV}{e:Expr}{p:Pos}(H:EnvOk env sc)(hc:zjm e=false)(hE:∀ elt g s p,E (.SetComp elt g s p)=M.fail)(hE':∀ k v g s p,E (.DictComp k v g s p)=M.fail)(IH:EvIH prog w hB A env ρ fl E)(I:Inv prog w hB env ρ fl s.heap ι σ) :
  SimX prog w hB A env fl (exec (.Expr e p) env) ((E e).bind fun _=>M.ret (.next ρ)) s ι σ:=by
 have hi:interactive env=false:=by simp [interactive,H.kind]
 have go:swapsWith e none p.line env=Pure.pure false→SimX prog w hB A env fl (exec (.Expr e p) env) ((E e).bind fun _=>M.ret (.next ρ)) s ι σ:=by
  intro hs Q Er hns hok herr
  have hne:E e σ≠.stuck:=fun q=>hns (zae q)
  refine wpAny_Expr_any (IH e s ι σ I _ _ hne (fun v σ₁ e₁ x h₁ tk₁ dr₁ ι₁ X₁ r₁=>?_) (fun C σ₁ e₁ e h₁ tk₁ dr₁ ι₁ X₁ F₁=>?_)) hi hs
  ·exact hok (.next ρ) σ₁ (zaa e₁) _ h₁ tk₁ dr₁ ι₁ (X₁.evo.wide fun _ q=>nomatch q) ⟨rfl,I.step X₁⟩
  ·exact herr C σ₁ (zaq e₁) e h₁ tk₁ dr₁ ι₁ (X₁.evo.wide fun _ q=>nomatch q) (I.step X₁).noRho' F₁
 cases e with
 | ListComp=>cases hc
 | SetComp=>rw [hE];exact SimX.fail
 | DictComp=>rw [hE'];exact SimX.fail
 | _=>exact go rfl
theorem ziG{h':Heap}{ρ':Loc}(F':FrOk hB env ρ' h' ι σ)(hk:∀ b o,b∉dyn env→s.heap.get? b=some o→h'.get? b=some o):Evo (dyn env) s.heap ι σ h' ι σ:=Evo.but hk (zcC F')
theorem zgW{cx:Cx}{n:Nat}{y:Str}{py p sp:Pos}{t elt it:Expr}{ifs:List Expr}{csc:Scope} (hsw:swapsWith (.ListComp elt [⟨t,it,ifs,0⟩] csc p) (some (.Name y py)) sp.line env=Pure.pure true)
  (hG:GlobOk hB K cx.G) (hh:A.handled=none) (hu:A.units+600<cLine) (O:CompOk sc csc it) (H:EnvOk env sc) (hy:env.kindOf y=some .local∨env.kindOf y=some .cell)
  (IHo:EvIH prog w hB A env ρ fl (ev cx n sc ρ)) (IHi:∀ cenv,EnvOk cenv csc→∀ k,k≤n→∀ ρ',EvIH prog w hB A cenv ρ' fl (ev { cx with md:=⟨false,cx.md.lp⟩ } k csc ρ')) (I:Inv prog w hB env ρ fl s.heap ι σ) :
  SimX prog w hB A env fl (exec (.Assign [.Name y py] (.ListComp elt [⟨t,it,ifs,0⟩] csc p) sp) env) (((zfb cx n sc csc ρ t elt it ifs).bind fun ys=>zaw cx p ys).bind fun v=>M.ret (.next (ρ.set y v))) s ι σ:=by
 rw [exec_Assign_Name_used _ _ _ _ hsw]
 refine SimX.standAt sp ?_
 intro Q Er hns hok herr
 refine wpAny_bind ?_
 show wpAny _ A (comprehension (.ListComp elt [⟨t,it,ifs,0⟩] csc p) csc env _ (newList []) false (eval it env) (some (assign (.Name y py) env)) >>= fun _=>Pure.pure ()) _ _ _
 refine wpAny_bind (zkK hG hh hu O H IHo IHi I _ Er (fun q=>hns (zae (zae q))) (fun ys σ' e D C H' tk dr ι' X=>?_) (fun C σ' e e' h' tk dr ι' X F=>herr C σ' (zaq (zaq e)) e' h' tk dr ι' (X.evo.wide fun _ q=>nomatch q) (I.step X).noRho' F))
 obtain ⟨v,ι'',σ'',hm,Y,r,offC⟩:=zfY (cx:=cx) (p:=p) I.store X (Heap.SameBut.refl C H')
 show wpAny _ A (assign (.Name y py) env (.ref D)) _ _ _
 have I₁:=I.step Y
 have hCf:C∉fl.filterMap (·.frame):=fun q=>by obtain ⟨o,ho⟩:=I.stk.there q;rw [X.newC] at ho;cases ho
 have hCd:C∉dyn env:=fun q=>by obtain ⟨o,ho⟩:=zcC I.fr C q;rw [X.newC] at ho;cases ho
 refine wpAny_assign_Name (zch (s:={ s with heap:=H',toks:=tk,drawn:=dr }) H I₁ hy r _ _ fun h₂ tk₂ hk₂ I₂=>?_)
 obtain ⟨m,hmC⟩:=X.ns
 have hm₂:h₂.Ns C m:=by obtain ⟨o,es,ep,ho,q⟩:=hmC;exact ⟨o,es,ep,hk₂ C o hCd ho,q⟩
 refine ⟨m,hm₂,fun h₃ hs₃=>wpAny_pure (wpAny_pure ?_)⟩
 have hk₃:∀ b o,b∉[C]→h₂.get? b=some o→h₃.get? b=some o:=fun b o hb e=>(hs₃.2 b (fun q=>hb (by rw [q];exact .head _))).trans e
 have hO:Off ι'' [C] h₂:=fun b hb=>by
  rw [List.mem_singleton.mp hb]
  obtain ⟨o,es,ep,ho,hd,_⟩:=hm₂
  refine .inr fun o' ho'=>?_
  rw [ho] at ho';cases ho'
  exact ⟨fun vs n q=>(by rw [hd] at q;cases q),.inl fun vs q=>(by rw [hd] at q;cases q)⟩
 have I₃:=I₂.lost' hk₃ (fun b hb=>by rw [List.mem_singleton.mp hb];exact X.baseC) hO (fun b hb=>by rw [List.mem_singleton.mp hb];exact ⟨offC.1,fun q=>(offC.2 q).elim⟩) (fun b hb=>by rw [List.mem_singleton.mp hb];exact hCf) (fun b hb q=>hCd (by rw [← List.mem_singleton.mp q];exact hb))
 have X₂:Evo (dyn env) s.heap ι σ h₂ ι'' σ'':=(Y.evo.wide fun _ q=>nomatch q).trans I.store.len (ziG (s:={ s with heap:=H',toks:=tk,drawn:=dr }) I₂.fr hk₂) fun b hb _ _=>hb
 refine hok (.next (ρ.set y v)) σ'' (zaa ((zaa e).trans hm)) _ h₃ tk₂ _ ι'' (X₂.lost hk₃ fun b hb=>by rw [List.mem_singleton.mp hb];exact X.newC) ⟨rfl,I₃⟩
end
section
variable {prog:Program} {w:World} {hB:Heap} {A:Around} {s:Shared} {ι:Ad} {σ:zab} {env:Env} {ρ:Loc} {fl:List Env} {sc:Scope} {K:Frag}
theorem RepL.setAt{h:Heap}{v:PV}{y:Value}(r:Rep h ι σ v y):∀{xs:List PV}{vs:List Value}(k:Nat),RepL h ι σ xs vs→RepL h ι σ (xs.set k v) (vs.set k y)
 | _,_,_,.nil=>.nil
 | _,_,0,.cons _ rs=>.cons r rs
 | _,_,k+1,.cons r' rs=>.cons r' (RepL.setAt r k rs)
theorem zlg{o i v:PV}{x y z:Value}(S:StoreOk prog w hB s.heap ι σ)(B:hB.StaysIn s.heap)(ro:Rep s.heap ι σ o x)(ri:Rep s.heap ι σ i y)(rv:Rep s.heap ι σ v z) :
  Sim prog w hB A (fun _ _ _ (_:Unit) (_:Unit)=>True) (setItem x y z) (setAt o i v) s ι σ:=by
 refine Sim.onRef (t:=fun x=>setItem x y z) ro fun j a hi=>?_
 cases i with
 | str k=>
  obtain ⟨t,rfl⟩:=ri.inv
  refine Sim.dget S hi fun kvs ys hc hd q=>Sim.cond (fun hn=>?_) fun _=>Sim.fail
  intro Q Er _ hok _
  refine wpAny_setItem_pairs (hsz:=zgd (by rw [q.length];exact of_decide_eq_true hn)) (strKind_is _ _ k t) hd fun h' hd' hs=>?_
  exact hok () (σ.set j (.dict (dput k v kvs))) rfl _ h' _ _ ι (zi5 S B hi hc hs hd' (q.put rv)) trivial
 | int k=>
  obtain ⟨t,rfl⟩:=ri.inv
  refine Sim.lget S hi fun ys us n hc hp rl=>Sim.cond (fun hn=>?_) fun _=>Sim.fail
  rw [Bool.and_eq_true,Bool.and_eq_true] at hn
  have n1:=of_decide_eq_true hn.1.1
  have n2:=of_decide_eq_true hn.1.2
  have n3:=of_decide_eq_true hn.2
  have e1:ys.length=us.size:=rl.length
  intro Q Er _ hok _
  refine ki_setAt (n:=n) hp n1 (by lia) (by lia) ?_
  refine hok () (σ.set j (.list (ys.set k.toNat v))) rfl _ _ s.toks _ ι (zi4 S B hi hc (Heap.SameBut.update ..) (IsL.update hp _) ?_) trivial
  rw [Array.toList_setIfInBounds];exact RepL.setAt rv _ rl
 | _=>exact Sim.fail
theorem zh3{E:Expr→M PV}{o i e:Expr}{tp sp:Pos}(IH:EvIH prog w hB A env ρ fl E)(I:Inv prog w hB env ρ fl s.heap ι σ) :
  SimX prog w hB A env fl (exec (.Assign [.Subscript o i tp] e sp) env) ((E e).bind fun v=>(asg E sc ρ (.Subscript o i tp) v).bind fun ρ'=>M.ret (.next ρ')) s ι σ:=by
 intro Q Er hns hok herr
 have as:((E e).bind fun v=>(asg E sc ρ (.Subscript o i tp) v).bind fun ρ'=>M.ret (Fl.next ρ'))=(E e).bind fun v=>(E o).bind fun ov=>(E i).bind fun iv=>(setAt ov iv v).bind fun _=>M.ret (.next ρ):=by
  refine congrArg (M.bind _) (funext fun v=>(M.bind_assoc _ _ _).trans (congrArg (M.bind _) (funext fun ov=>(M.bind_assoc _ _ _).trans (congrArg (M.bind _) (funext fun iv=>M.bind_assoc _ _ _)))))
 rw [as] at hns hok herr
 refine wpAny_Assign_Subscript (IH e s ι σ I _ _ (fun q=>hns (zae q)) (fun v σ₁ e₁ x h₁ tk₁ dr₁ ι₁ X₁ r₁=>?_) (fun C σ₁ e₁ e h₁ tk₁ dr₁ ι₁ X₁ F₁=>herr C σ₁ (zaq e₁) e h₁ tk₁ dr₁ ι₁ (X₁.evo.wide fun _ q=>nomatch q) (I.step X₁).noRho' F₁)) (by cases e <;> rfl)
 rw [zaa e₁] at hns hok herr
 have I₁:=I.step X₁
 refine IH o { s with heap:=h₁,toks:=tk₁,drawn:=dr₁ } ι₁ σ₁ I₁ _ _ (fun q=>hns (zae q)) (fun ov σ₂ e₂ y h₂ tk₂ dr₂ ι₂ X₂ r₂=>?_) (fun C σ₂ e₂ e h₂ tk₂ dr₂ ι₂ X₂ F₂=>herr C σ₂ (zaq e₂) e h₂ tk₂ dr₂ ι₂ ((X₁.trans I.store.len X₂).evo.wide fun _ q=>nomatch q) (I₁.step X₂).noRho' (F₂.older X₁.evo.alive))
 rw [zaa e₂] at hns hok herr
 have I₂:=I₁.step X₂
 have Y₂:=X₁.trans I.store.len X₂
 refine IH i { s with heap:=h₂,toks:=tk₂,drawn:=dr₂ } ι₂ σ₂ I₂ _ _ (fun q=>hns (zae q)) (fun iv σ₃ e₃ z h₃ tk₃ dr₃ ι₃ X₃ r₃=>?_) (fun C σ₃ e₃ e h₃ tk₃ dr₃ ι₃ X₃ F₃=>herr C σ₃ (zaq e₃) e h₃ tk₃ dr₃ ι₃ ((Y₂.trans I.store.len X₃).evo.wide fun _ q=>nomatch q) (I₂.step X₃).noRho' (F₃.older Y₂.evo.alive))
 rw [zaa e₃] at hns hok herr
 have I₃:=I₂.step X₃
 have Y₃:=Y₂.trans I.store.len X₃
 refine zlg (s:={ s with heap:=h₃,toks:=tk₃,drawn:=dr₃ }) I₃.store I₃.stays ((r₂.step I₂.store.len X₃)) r₃ ((r₁.step I₁.store.len X₂).step I₂.store.len X₃) _ _ (fun q=>hns (zae q)) (fun u σ₄ e₄ _ h₄ tk₄ dr₄ ι₄ X₄ _=>?_) (fun C σ₄ e₄ e h₄ tk₄ dr₄ ι₄ X₄ F₄=>herr C σ₄ (zaq e₄) e h₄ tk₄ dr₄ ι₄ ((Y₃.trans I.store.len X₄).evo.wide fun _ q=>nomatch q) (I₃.step X₄).noRho' (F₄.older Y₃.evo.alive))
 exact hok (.next ρ) σ₄ (zaa e₄) _ h₄ tk₄ dr₄ ι₄ ((Y₃.trans I.store.len X₄).evo.wide fun _ q=>nomatch q) ⟨rfl,I₃.step X₄⟩
end
section
variable {prog:Program} {w:World} {hB:Heap} {A:Around} {s:Shared} {ι:Ad} {σ:zab} {env:Env} {ρ:Loc} {fl:List Env} {sc:Scope} {K:Frag}
theorem SimX.res'{t:Sem Flow}{r r':M Fl}(h:SimX prog w hB A env fl t r s ι σ)(e:r' σ≠.stuck→r' σ=r σ):SimX prog w hB A env fl t r' s ι σ:=
 fun Q E hns hok herr=>h Q E (e hns▸hns) (fun a σ' q=>hok a σ' ((e hns).trans q)) (fun C σ' q=>herr C σ' ((e hns).trans q))
theorem zor{y:Str}{v:PV}{x:Value}{py:Pos}(H:EnvOk env sc)(I:Inv prog w hB env ρ fl s.heap ι σ)(hy:env.kindOf y=some .local∨env.kindOf y=some .cell)(r:Rep s.heap ι σ v x) :
  SimX prog w hB A env fl (do standAt py;bindName env y x;Pure.pure .next) (M.ret (.next (ρ.set y v))) s ι σ:=by
 intro Q E _ hok _
 refine wpAny_bind (wpAny_standAt (wpAny_bind (wpAny_bindName (zch H I hy r _ _ fun h' tk hk I'=>wpAny_pure ?_))))
 exact hok (.next (ρ.set y v)) σ rfl _ h' tk _ ι (ziG I'.fr hk) ⟨rfl,I'⟩
theorem zfk(sc:Scope)(ρ:Loc)(y:Str):((sc.names.lookup y=some .local∨sc.names.lookup y=some .cell)∧∀ v,zes sc ρ v y=some (ρ.set y v))∨∀ v,zes sc ρ v y=none:=by
 unfold zes
 cases sc.names.lookup y with
 | none=>exact .inr fun _=>rfl
 | some k=>
  cases k with
  | «local»=>exact .inl ⟨.inl rfl,fun _=>rfl⟩
  | cell=>exact .inl ⟨.inr rfl,fun _=>rfl⟩
  | _=>exact .inr fun _=>rfl
theorem zqU{r:M PV}{y:Str} (h:(r.bind fun v=>(M.lift (zes sc ρ v y)).bind fun ρ'=>M.ret (Fl.next ρ')) σ≠.stuck):(r.bind fun v=>(M.lift (zes sc ρ v y)).bind fun ρ'=>M.ret (Fl.next ρ')) σ=(r.bind fun v=>M.ret (.next (ρ.set y v))) σ:=by
 cases hr:r σ with
 | stuck=>exact (zae hr).trans (zae hr).symm
 | err C σ'=>exact (zaq hr).trans (zaq hr).symm
 | ok v σ'=>
  rw [zaa hr] at h ⊢
  rw [zaa hr]
  rcases zfk sc ρ y with ⟨_,hb⟩ | hb
  ·rw [hb];rfl
  ·rw [hb] at h;exact (h rfl).elim
theorem zf5{E:Expr→M PV}{y:Str}{py sp:Pos}{e:Expr} (hs:swapsWith e (some (.Name y py)) sp.line env=Pure.pure false) (IH:EvIH prog w hB A env ρ fl E) (H:EnvOk env sc) (I:Inv prog w hB env ρ fl s.heap ι σ) :
  SimX prog w hB A env fl (exec (.Assign [.Name y py] e sp) env) ((E e).bind fun v=>(M.lift (zes sc ρ v y)).bind fun ρ'=>M.ret (.next ρ')) s ι σ:=by
 rw [exec_Assign_Name env y py e sp hs]
 refine SimX.standAt sp (SimX.after I (IH e s ι σ I) fun v σ₁ x h₁ tk₁ dr₁ ι₁ e₁ X₁ r₁=>?_)
 rcases zfk sc ρ y with ⟨hk,hb⟩ | hb
 ·rw [hb];exact zor (s:={ s with heap:=h₁,toks:=tk₁,drawn:=dr₁ }) H (I.step X₁) (zme H hk) r₁
 ·rw [hb];exact SimX.fail
theorem zkH{cx:Cx}{d n:Nat}{md:Md}{y:Str}{py sp p:Pos}{elt:Expr}{gens:List Comprehension}{csc:Scope} (hsw:swapsWith (.ListComp elt gens csc p) (some (.Name y py)) sp.line env=Pure.pure true) (hy:env.kindOf y=some .local) (hG:GlobOk hB K cx.G) (hc:ziT prog w hB d cx.call) (hA:Ar md d fl A) (H:EnvOk env sc) (I:Inv prog w hB env ρ fl s.heap ι σ) :
  SimX prog w hB A env fl (exec (.Assign [.Name y py] (.ListComp elt gens csc p) sp) env) ((zjs { cx with md:=md } sc ρ (ev { cx with md:=md } n sc ρ) csc (fun ρ' e=>ev { cx with md:=⟨false,md.lp⟩ } n csc ρ' e) elt gens p).bind fun v=>(M.lift (zes sc ρ v y)).bind fun ρ'=>M.ret (.next ρ')) s ι σ:=by
 cases gens with
 | nil=>exact SimX.fail
 | cons g r=>
  cases r with
  | cons _ _=>exact SimX.fail
  | nil=>
   obtain ⟨t,it,ifs,a⟩:=g
   unfold zjs
   rw [M.cond_bind]
   refine SimX.cond (fun q=>?_) fun _=>SimX.fail
   rw [Bool.and_eq_true,Bool.and_eq_true,Bool.and_eq_true] at q
   obtain ⟨ha,⟨hlp,hco⟩,hnm⟩:=q
   have ha₂:a=0:=of_decide_eq_true ha
   subst ha₂
   refine (zgW (cx:={ cx with md:=md }) (n:=n) (t:=t) (ifs:=ifs) hsw hG (hA.quiet (.inr hlp)) hA.units600 (zfc hco) H (.inl hy) (zi2 (A:=A) (fl:=fl) hG hc n md hA env sc H ρ)
    (fun cenv Hc k hk ρ'=>zi2 hG hc k _ hA.inner cenv csc Hc ρ') I).res' fun hns=>(zqU hns).trans ?_
   exact congrFun (congrArg (fun m=>M.bind m _) (funext fun τ=>zfa)) σ
theorem zgV{cx:Cx}{d n:Nat}{md:Md}{y:Str}{py sp:Pos}{e:Expr}(hG:GlobOk hB K cx.G)(hc:ziT prog w hB d cx.call)(hA:Ar md d fl A)(H:EnvOk env sc)(I:Inv prog w hB env ρ fl s.heap ι σ) :
  SimX prog w hB A env fl (exec (.Assign [.Name y py] e sp) env) ((ev { cx with md:=md } n sc ρ e).bind fun v=>(asg (ev { cx with md:=md } n sc ρ) sc ρ (.Name y py) v).bind fun ρ'=>M.ret (.next ρ')) s ι σ:=by
 have plain:swapsWith e (some (.Name y py)) sp.line env=Pure.pure false→SimX prog w hB A env fl (exec (.Assign [.Name y py] e sp) env) ((ev { cx with md:=md } n sc ρ e).bind fun v=>(asg (ev { cx with md:=md } n sc ρ) sc ρ (.Name y py) v).bind fun ρ'=>M.ret (.next ρ')) s ι σ:=
  fun hs=>zf5 hs (zi2 (A:=A) (fl:=fl) hG hc n md hA env sc H ρ) H I
 cases e with
 | SetComp=>cases n <;> exact SimX.fail
 | DictComp=>cases n <;> exact SimX.fail
 | ListComp elt gens csc p=>
  generalize hb:(env.blockKind==.function&&env.kindOf y==some .local&&py.line==p.line&&!(csc.names.any fun (m,k)=>m==y&&(k==.local || k==.cell)))=b
  have hsw:swapsWith (.ListComp elt gens csc p) (some (.Name y py)) sp.line env=Pure.pure b:=hb▸rfl
  cases b with
  | false=>exact plain hsw
  | true=>
   cases n with
   | zero=>exact SimX.fail
   | succ n=>
    rw [Bool.and_eq_true,Bool.and_eq_true,Bool.and_eq_true] at hb
    exact zkH hsw (eq_of_beq hb.1.1.2) hG hc hA H I
 | _=>exact plain rfl
theorem zf4{E:Expr→M PV}{ts:List Expr}{k:Nat}{tp sp:Pos}{e:Expr}(hh:A.handled=none)(H:EnvOk env sc)(he:zb9 e≠2)(IH:EvIH prog w hB A env ρ fl E)(I:Inv prog w hB env ρ fl s.heap ι σ) :
  SimX prog w hB A env fl (exec (.Assign [.Tuple ts k tp] e sp) env) ((E e).bind fun v=>(asg E sc ρ (.Tuple ts k tp) v).bind fun ρ'=>M.ret (.next ρ')) s ι σ:=by
 intro Q Er hns hok herr
 refine Assign_Tuple (IH e s ι σ I _ _ (fun q=>hns (zae q)) (fun v σ₁ e₁ x h₁ tk₁ dr₁ ι₁ X₁ r₁=>?_) (fun C σ₁ e₁ e h₁ tk₁ dr₁ ι₁ X₁ F₁=>herr C σ₁ (zaq e₁) e h₁ tk₁ dr₁ ι₁ (X₁.evo.wide fun _ q=>nomatch q) (I.step X₁).noRho' F₁)) (by cases e <;> rfl) (by cases e <;> first | rfl | exact (he rfl).elim)
 rw [zaa e₁] at hns hok
 have I₁:=I.step X₁
 cases v with
 | tup xs=>
  obtain ⟨a,vs,m,rfl,hp,nl,rl⟩:=r₁.inv
  have hns:(M.lift (zbk sc ρ ts xs)).bind (fun ρ'=>M.ret (Fl.next ρ')) σ₁≠.stuck:=hns
  cases hb:zbk sc ρ ts xs with
  | none=>rw [hb] at hns;exact (hns rfl).elim
  | some ρ'=>
   obtain ⟨b1,b2,b3⟩:=zdE (env:=env) ts hb
   have hsz:(assignEach ts env).length=vs.size:=(b2.trans b1).trans rl.length
   refine wpAny_assign_Tuple (s:={ s with heap:=h₁,toks:=tk₁,drawn:=dr₁ }) hh ⟨_,hp,rfl,_,rfl⟩ hsz b3 fun h₂ hx=>?_
   have hk:∀ b o,h₁.get? b=some o→h₂.get? b=some o:=fun b o e=>hx b o (Nat.ne_of_lt (Heap.lt_size e)) e
   have X₂:Step prog w hB h₁ ι₁ σ₁ h₂ ι₁ σ₁:=Step.keeps I₁.store I₁.stays hk
   refine zfx (fun _ h=>h) (zhd H) _ _ ts xs vs.toList ρ { s with heap:=h₂,toks:=tk₁,drawn:=dr₁ } hb (I₁.step X₂) (rl.step I₁.store.len X₂) fun h₃ tk₃ hk₃ I₃=>?_
   exact hok (.next ρ') σ₁ (by show (M.lift (zbk sc ρ ts xs)).bind (fun ρ'=>M.ret (Fl.next ρ')) σ₁=_;rw [hb];rfl) _ h₃ tk₃ _ ι₁ (((X₁.trans I.store.len X₂).evo.wide fun _ q=>nomatch q).trans I.store.len (ziG (s:={ s with heap:=h₂,toks:=tk₁,drawn:=dr₁ }) I₃.fr hk₃) fun b hb _ _=>hb) ⟨rfl,I₃⟩
 | _=>exact (hns rfl).elim
end
section
variable {prog:Program} {w:World} {hB:Heap} {A:Around} {s:Shared} {ι:Ad} {σ:zab} {env:Env} {ρ:Loc} {fl outer:List Env} {sc:Scope} {K:Frag}
theorem Inv.soft{h₀ h h':Heap}(I:Inv prog w hB env ρ fl h ι σ) (X:Soft h₀ (fl.filterMap (·.frame)) h h') (B₀:∀ b o,hB.get? b=some o→h₀.get? b≠none):Inv prog w hB env ρ fl h' ι σ:=
 ⟨zjR I.stays X B₀ fun b hb=>(I.stk.fun_.mem hb).1,I.store.soft X I.stk.dicts I.stk.notLive,I.fr.soft X I.stk.dicts,I.stk.soft X⟩
theorem ziX{h:Heap}(B:hB.StaysIn h):∀ b o,hB.get? b=some o→h.get? b≠Option.none:=fun b o e q=>by rw [B b o e] at q;cases q
theorem zh6{L e C:Addr}{h₀:Heap}{ι₀:Ad}{σ₀:zab}{E:Value→Shared→Prop}(hfr:A.frames=some (env::outer))(hf:env.frame=some L)(I:Inv prog w hB env zkh (env::outer) s.heap ι σ)(X:Evo (dyn env) h₀ ι₀ σ₀ s.heap ι σ)(F:Fly h₀ s.heap e C)(B₀:hB.StaysIn h₀)
  (hE:∀ h',Evo (dyn env) h₀ ι₀ σ₀ h' ι σ→Inv prog w hB env zkh (env::outer) h' ι σ→Fly h₀ h' e C→E (.ref e) { s with heap:=h' }) :
  notedBy (model prog w) A env (fun e s'=>cameBackBy (model prog w) A env E e s') (.ref e) s:=by
 refine zd8 hfr I.stk hf F X.alive fun h₁ oe vs T X₁ F₁ he hd h1=>?_
 refine wpAny_bind (wpAny_field (s:={ s with heap:=h₁ }) he hd h1 ?_)
 rw [if_neg (by simp)]
 refine zd7 (s:={ s with heap:=h₁ }) (fr:=(env::outer).filterMap (·.frame)) F₁ fun h₂ X₂ F₂=>?_
 have XX:=X₁.trans X₂
 exact hE h₂ (X.soft XX I.stk.dicts) (I.soft XX (ziX B₀)) F₂
structure ForFix (prog:Program) (w:World) (hB:Heap) (A:Around) (t:Expr) (env:Env) (I:Addr) (fp own hd:List Addr) (src:Src) (St:Nat→Heap→Prop) (h₀:Heap) (ι₀:Ad) (σ₀:zab) (h₁:Heap) (ι₁:Ad) (σ₁:zab):Prop where
 len₀:ι₀.vis.length=σ₀.length
 X:Evo [] h₀ ι₀ σ₀ h₁ ι₁ σ₁
 len:ι₁.vis.length=σ₁.length
 Z:Itr prog w hB A t I fp own hd src St h₁ ι₁ σ₁
 st₀:St 0 h₁
 own₀:∀ b∈own,h₀.get? b=none
 own:∀ b∈own,hB.get? b=none
 dyn:∀ b∈dyn env,b∉fp
structure ForAt (prog:Program) (w:World) (hB:Heap) (env:Env) (fl:List Env) (own:List Addr) (St:Nat→Heap→Prop) (h₁:Heap) (ι₁:Ad) (σ₁:zab) (ρ':Loc) (H:Heap) (ι':Ad) (σ':zab) (j:Nat):Prop where
 inv:Inv prog w hB env ρ' fl H ι' σ'
 evo:Evo (own++dyn env) h₁ ι₁ σ₁ H ι' σ'
 st:St j H
section
variable {t:Expr} {I:Addr} {fp own hd:List Addr} {src:Src} {St:Nat→Heap→Prop} {h₀ h₁ H h':Heap} {ι₀ ι₁ ι' ι'':Ad} {σ₀ σ₁ σ' σ'':zab} {ρi ρj:Loc} {j:Nat}
theorem ForFix.base(F:ForFix prog w hB A t env I fp own hd src St h₀ ι₀ σ₀ h₁ ι₁ σ₁)(X:Evo (own++Mine.dyn env) h₁ ι₁ σ₁ h' ι' σ'):Evo (Mine.dyn env) h₀ ι₀ σ₀ h' ι' σ':=
 (F.X.wide fun _ q=>nomatch q).trans F.len₀ X fun b hb o e=>by
  rcases List.mem_append.mp hb with hb | hb
  ·rw [F.own₀ b hb] at e;cases e
  ·exact hb
theorem ForAt.notL(F:ForFix prog w hB A t env I fp own hd src St h₀ ι₀ σ₀ h₁ ι₁ σ₁)(V:ForAt prog w hB env fl own St h₁ ι₁ σ₁ ρi H ι' σ' j):∀ b∈fp,¬ zcO ι' σ' b:=fun b hb=>by
 obtain ⟨o,ho,_⟩:=F.Z.there 0 h₁ F.st₀ b hb
 exact V.evo.weak.notLiveV F.len ho (F.Z.notLive b hb)
theorem ForAt.noDict(F:ForFix prog w hB A t env I fp own hd src St h₀ ι₀ σ₀ h₁ ι₁ σ₁)(V:ForAt prog w hB env fl own St h₁ ι₁ σ₁ ρi H ι' σ' j):∀ b∈fp,∀ o,H.get? b=some o→∀ es n,o.data≠.dict es n:=fun b hb o ho=>by
 obtain ⟨o',ho',hd⟩:=F.Z.there _ _ V.st b hb;rw [ho] at ho';cases ho';exact hd
theorem ForAt.item(F:ForFix prog w hB A t env I fp own hd src St h₀ ι₀ σ₀ h₁ ι₁ σ₁)(V:ForAt prog w hB env fl own St h₁ ι₁ σ₁ ρi H ι' σ' j)(hk:∀ b o,b∉own→H.get? b=some o→h'.get? b=some o)(st:St (j+1) h'):ForAt prog w hB env fl own St h₁ ι₁ σ₁ ρi h' ι' σ' (j+1):=by
 have ht:∀ b∈own,∃ o,h'.get? b=some o:=fun b hb=>by obtain ⟨o,ho,_⟩:=F.Z.there _ _ st b (F.Z.sub b hb);exact ⟨o,ho⟩
 have hfr:=F.Z.freshAt F.st₀ V.evo (F.Z.hdT _ _ st)
 exact ⟨V.inv.but hk ht F.own (F.Z.okAt V.evo V.st) (fun b hb=>V.notL F b (F.Z.sub b hb)) (fun b hb q=>(hfr b hb).2 q) (fun b hb=>V.noDict F b (F.Z.sub b hb)) (fun b hb q=>F.dyn b hb (F.Z.sub b q)),V.evo.trans F.len (Evo.but hk ht) fun b hb _ _=>List.mem_append_left _ hb,st⟩
theorem ForAt.bound(F:ForFix prog w hB A t env I fp own hd src St h₀ ι₀ σ₀ h₁ ι₁ σ₁)(V:ForAt prog w hB env fl own St h₁ ι₁ σ₁ ρi H ι' σ' j)(hk:∀ b o,b∉Mine.dyn env→H.get? b=some o→h'.get? b=some o)(I₃:Inv prog w hB env ρj fl h' ι' σ'):ForAt prog w hB env fl own St h₁ ι₁ σ₁ ρj h' ι' σ' j:=
 ⟨I₃,V.evo.trans F.len (Evo.but hk (zcC I₃.fr)) fun b hb _ _=>List.mem_append_right _ hb,F.Z.frame _ _ _ V.st fun b hb o e=>hk b o (fun q=>F.dyn b q hb) e⟩
theorem ForAt.step(F:ForFix prog w hB A t env I fp own hd src St h₀ ι₀ σ₀ h₁ ι₁ σ₁)(V:ForAt prog w hB env fl own St h₁ ι₁ σ₁ ρi H ι' σ' j)(X:Evo (Mine.dyn env) H ι' σ' h' ι'' σ'')(I₃:Inv prog w hB env ρj fl h' ι'' σ''):ForAt prog w hB env fl own St h₁ ι₁ σ₁ ρj h' ι'' σ'' j:=
 ⟨I₃,V.evo.trans F.len X fun b hb _ _=>List.mem_append_right _ hb,F.Z.frame _ _ _ V.st fun b hb o e=>(X.keep b o e (V.notL F b hb) fun q=>F.dyn b q hb).2 (V.noDict F b hb o e)⟩
end
inductive ForI (P:Loc→Heap→Ad→zab→Nat→Prop) (k:List PV→Loc→M Fl) (xs:List PV) (r:Rs Fl) (s:Shared):Nat→Shared→Prop
 | mk (H:Heap) (tk:Nat) (dr:Drawn) (ρ':Loc) (ι':Ad) (σ':zab) (j:Nat):P ρ' H ι' σ' j→j≤xs.length→r=k (xs.drop j) ρ' σ'→ForI P k xs r s (xs.length+1-j) { s with heap:=H,toks:=tk,drawn:=dr }
theorem zpt{chk:M Unit}{t:Expr}{X:Loc→M Fl}{xs:List PV}(hc:chk σ=.ok () σ∨chk σ=.stuck)(hns:forL chk sc t X xs ρ σ≠.stuck):chk σ=.ok () σ:=by
 rcases hc with q | q
 ·exact q
 ·refine (hns ?_).elim
  cases xs <;> exact zae q
theorem zkG{X:Loc→M Fl}{L Ia:Addr}{t:Expr}{b:List Stmt}{fp own hd:List Addr}{src:Src}{St:Nat→Heap→Prop}{h₀:Heap}{ι₀:Ad}{σ₀:zab}{R:Result→Shared→Prop}{Q:Flow→Shared→Prop}{E:Value→Shared→Prop}(F:ForFix prog w hB A t env Ia fp own hd src St h₀ ι₀ σ₀ s.heap ι σ)(B₀:hB.StaysIn h₀)(hh:A.handled=none)(H:EnvOk env sc)(hfr:A.frames=some (env::outer))(hf:env.frame=some L)
  (hR:∀ f s',Q f s'→R (.ok f) s') (hRe:∀ e s',cameBackBy (model prog w) A env E e s'→R (.error e) s')
  (hX:∀ ρ s ι σ,Inv prog w hB env ρ (env::outer) s.heap ι σ→SimX prog w hB A env (env::outer) (execs b env) (X ρ) s ι σ) (I:Inv prog w hB env ρ (env::outer) s.heap ι σ)
  (hns:forL (chkW src.watch) sc t X src.xs ρ σ≠.stuck)
  (hok:∀ a σ',forL (chkW src.watch) sc t X src.xs ρ σ=.ok a σ'→∀ x h' tk dr ι',Evo (dyn env) h₀ ι₀ σ₀ h' ι' σ'→FlR prog w hB env (env::outer) h' ι' σ' a x→Q x { s with heap:=h',toks:=tk,drawn:=dr })
  (herr:∀ C σ',forL (chkW src.watch) sc t X src.xs ρ σ=.err C σ'→∀ e h' tk dr ι',Evo (dyn env) h₀ ι₀ σ₀ h' ι' σ'→Inv prog w hB env zkh (env::outer) h' ι' σ'→Fly h₀ h' e C→E (.ref e) { s with heap:=h',toks:=tk,drawn:=dr }) :
  codeAny (model prog w) A (.forLoop t (.ref Ia) b [] env) R s:=by
 have hD:NoSeq (dyn env) s.heap:=I.fr.noSeq
 refine codeAny_forLoop_any (ForI (ForAt prog w hB env (env::outer) own St s.heap ι σ) (forL (chkW src.watch) sc t X) src.xs (forL (chkW src.watch) sc t X src.xs ρ σ) s) ?_ (src.xs.length+1)
  (.mk s.heap s.toks s.drawn ρ ι σ 0 ⟨I,(Evo.refl _ _ _).wide (fun _ q=>nomatch q),F.st₀⟩ (Nat.zero_le _) rfl)
 intro k s' V
 cases V with
 | mk H' tk dr ρ' ι' σ' j V hj eq=>
  rw [eq] at hns hok herr
  have hchk:=zpt (zfZ src.watch σ') hns
  cases hx:src.xs[j]? with
  | none=>
   have hje:src.xs.length≤j:=List.getElem?_eq_none_iff.mp hx
   rw [List.drop_eq_nil_of_le hje] at hok
   have hst:St src.xs.length H':=Nat.le_antisymm hj hje▸V.st
   refine F.Z.done (dyn env) { s with heap:=H',toks:=tk,drawn:=dr } ι' σ' hD V.evo V.inv.store hst hchk _ _ fun h₂ tk₂ hk hd₂=>?_
   have I₂:=V.inv.lost hk F.own (F.Z.okAt V.evo V.st) (F.Z.freshAt F.st₀ V.evo hd₂) (fun b hb=>V.noDict F b (F.Z.sub b hb)) (fun b hb q=>F.dyn b hb (F.Z.sub b q))
   exact wpAny_execs_nil (hR _ _ (hok (.next ρ') σ' (zaa hchk) _ h₂ tk₂ _ ι' ((F.base V.evo).lost hk F.own₀) ⟨rfl,I₂⟩))
  | some v=>
   rw [zmv hx] at eq hns hok herr
   have e1:forL (chkW src.watch) sc t X (v::src.xs.drop (j+1)) ρ' σ'=((M.lift (zgO sc ρ' t v)).bind fun ρ₂=>(X ρ₂).bind (flK fun ρ''=>forL (chkW src.watch) sc t X (src.xs.drop (j+1)) ρ'')) σ':=zaa hchk
   cases hb:zgO sc ρ' t v with
   | none=>exact (hns (e1.trans (by rw [hb];rfl))).elim
   | some ρ₂=>
    have e2:forL (chkW src.watch) sc t X (v::src.xs.drop (j+1)) ρ' σ'=(X ρ₂).bind (flK fun ρ''=>forL (chkW src.watch) sc t X (src.xs.drop (j+1)) ρ'') σ':=e1.trans (by rw [hb];rfl)
    rw [e2] at eq hns hok herr
    have hjl:j<src.xs.length:=(List.getElem?_eq_some_iff.mp hx).1
    refine F.Z.item (dyn env) j { s with heap:=H',toks:=tk,drawn:=dr } ι' σ' v hD V.evo V.inv.store V.st hchk hx _ _ _ (fun _ _ h=>h) fun y h₂ tk₂ r₂ st₂ hk₂=>?_
    have V₂:=V.item F hk₂ st₂
    refine ziU (s:={ s with heap:=h₂,toks:=tk₂,drawn:=dr }) hh (fun _ h=>h) (zhd H) hb V₂.inv r₂ _ _ fun h₃ tk₃ hk₃ I₃=>?_
    have V₃:=V₂.bound F hk₃ I₃
    refine hX ρ₂ { s with heap:=h₃,toks:=tk₃,drawn:=dr } ι' σ' I₃ _ _ (fun q=>hns (zae q)) (fun f σ₂ e₂ z h₄ tk₄ dr₄ ι₄ X₄ r₄=>?_) (fun C σ₂ e₂ e h₄ tk₄ dr₄ ι₄ X₄ I₄ F₄=>?_)
    ·cases f with
     | next ρ''=>obtain ⟨rfl,I₄⟩:=r₄;exact ⟨_,Nat.sub_lt_sub_left (Nat.lt_succ_of_lt hjl) (Nat.lt_succ_self j),.mk h₄ tk₄ dr₄ ρ'' ι₄ σ₂ (j+1) (V₃.step F X₄ I₄) hjl (eq.trans (zaa e₂))⟩
     | ret u=>
      obtain ⟨z,rfl,r₄,I₄⟩:=r₄
      exact hR _ _ (hok (.ret u) σ₂ (zaa e₂) _ h₄ tk₄ dr₄ ι₄ (F.base (V₃.step F X₄ I₄).evo) ⟨z,rfl,r₄,I₄⟩)
    ·have V₄:=V₃.step F X₄ I₄
     have cb:=zh6 (s:={ s with heap:=h₄,toks:=tk₄,drawn:=dr₄ }) hfr hf I₄ (F.base V₄.evo) (F₄.older (F.base V₃.evo).alive) B₀ fun h' X₅ I₅ F₅=>herr C σ₂ (zaq e₂) e h' tk₄ dr₄ ι₄ X₅ I₅ F₅
     exact wpAny_mono cb (fun _ _ h=>hRe _ _ h) fun _ _ h=>hRe _ _ h
theorem zoQ{cx:Cx}{E:Expr→M PV}{t it:Expr}(hE:∀ a b c,E (.Set a b c)=M.fail)(hns:zcM cx sc ρ E t it σ≠.stuck)(v:Value):foldedSetIterable it env v=Pure.pure v:=by
 cases it with
 | Set a b c=>exact (hns (zae (by rw [hE];rfl))).elim
 | _=>rfl
theorem zq0{cx:Cx}{E:Expr→M PV}{X:Loc→M Fl}{L:Addr}{p:Pos}{t it:Expr}{b:List Stmt}(hG:GlobOk hB K cx.G)(hh:A.handled=none)(H:EnvOk env sc)(hfr:A.frames=some (env::outer))(hf:env.frame=some L)
  (IHe:EvIH prog w hB A env ρ (env::outer) E) (hst:∀ e p,E (.Starred e p)=M.fail) (hE:∀ a b c,E (.Set a b c)=M.fail)
  (hX:∀ ρ s ι σ,Inv prog w hB env ρ (env::outer) s.heap ι σ→SimX prog w hB A env (env::outer) (execs b env) (X ρ) s ι σ)
  (I:Inv prog w hB env ρ (env::outer) s.heap ι σ) :
  SimX prog w hB A env (env::outer) (exec (.For t it b [] p) env) ((zcM cx sc ρ E t it).bind fun src=>forL (chkW src.watch) sc t X src.xs ρ) s ι σ:=by
 intro Q Er hns hok herr
 refine wpAny_For (znU hG hh H IHe hst I _ _ (fun q=>hns (zae q)) (fun src σ₁ e₁ itv h₁ tk₁ dr₁ ι₁ X₁ Md=>?_) (fun C σ' e e' h' tk dr ι' X F=>herr C σ' (zaq e) e' h' tk dr ι' (X.evo.wide fun _ q=>nomatch q) (I.step X).noRho' F)) (zoQ hE fun q=>hns (zae q))
 obtain ⟨Ia,fp,own,hd,St,rfl,Z,st₀,hown₀,hdyn⟩:=Md
 rw [zaa e₁] at hns hok herr
 have I₁:=I.step X₁
 exact zkG (s:={ s with heap:=h₁,toks:=tk₁,drawn:=dr₁ }) ⟨I.store.len,X₁.evo,I₁.store.len,Z,st₀,hown₀,fun b hb=>zbi I.stays (hown₀ b hb),hdyn⟩ I.stays hh H hfr hf (fun _ _ h=>h) (fun _ _ h=>h) hX I₁ hns hok herr
end
noncomputable def zmU(_:Heap)(_:Frag)(_:Gl):Prop:=True
section
variable {prog:Program} {w:World} {hB:Heap} {A:Around} {s:Shared} {ι:Ad} {σ:zab} {env:Env} {ρ:Loc} {fl outer:List Env} {sc:Scope} {K:Frag} {h h':Heap}
theorem SimX.lift{γ:Type}{t:Sem Flow}{o:Option γ}{f:γ→M Fl}(k:∀ a,o=some a→SimX prog w hB A env fl t (f a) s ι σ):SimX prog w hB A env fl t ((M.lift o).bind f) s ι σ:=by
 cases o with
 | none=>exact SimX.fail
 | some a=>exact k a rfl
theorem zqb{cx:Cx}{d:Nat}{L:Addr}(hG:GlobOk hB K cx.G)(hX:zmU hB K cx.G)(hc:ziT prog w hB d cx.call)(H:EnvOk env sc)(hf:env.frame=some L):∀(n:Nat)(md:Md)(A:Around),Ar md d (env::outer) A→
  ExIH prog w hB A env (env::outer) (ex { cx with md:=md } n sc):=by
 intro n
 induction n with
 | zero=>intro md A hA st ρ s ι σ I;exact SimX.fail
 | succ n ih=>
  intro md A hA st ρ s ι σ I
  have IH:=ih md A hA
  have EV:∀ ρ k,EvIH prog w hB A env ρ (env::outer) (ev { cx with md:=md } k sc ρ):=fun ρ k=>zi2 hG hc k md hA env sc H ρ
  have hu:=hA.units600
  cases st with
  | Return v p=>
   cases v with
   | none=>exact SimX.fail
   | some e=>exact zmV (EV ρ n) I
  | Assign ts e p=>
   cases ts with
   | nil=>exact SimX.fail
   | cons t r=>
    refine SimX.cond (fun q=>?_) fun _=>SimX.fail
    rw [Bool.and_eq_true] at q
    obtain ⟨hr,q⟩:=q
    cases r with
    | cons _ _=>cases hr
    | nil=>
    cases t with
    | Name y py=>exact zgV hG hc hA H I
    | Tuple ts k tp=>
     have q:=Bool.and_eq_true_iff.mp q
     exact zf4 (hA.quiet (.inr q.1)) H (fun h=>by have:=q.2;rw [h] at this;cases this) (EV ρ n) I
    | Subscript o i tp=>exact zh3 (EV ρ n) I
    | _=>cases q
  | If t a b p=>exact x_if hu (fun k _=>EV ρ k) IH I
  | For t it b orelse p=>
   refine SimX.cond (fun q=>?_) fun _=>SimX.fail
   rw [Bool.and_eq_true,Bool.and_eq_true] at q
   obtain ⟨ho,hlp,hnm⟩:=q
   cases orelse with
   | cons _ _=>cases ho
   | nil=>exact zq0 (cx:={ cx with md:=md }) hG (hA.quiet (.inr hlp)) H hA.frames hf (EV ρ n) za7 (fun a b c=>by cases n <;> rfl) (fun ρ s ι σ I=>zkF IH b ρ s ι σ I) I
  | Expr e p=>
   show SimX prog w hB A env (env::outer) _ (M.cond (zjm e) M.fail ((ev { cx with md:=md } n sc ρ e).bind fun _=>M.ret (.next ρ))) s ι σ
   refine SimX.cond (fun _=>SimX.fail) fun q=>?_
   exact zp1 H q (fun _ _ _ _=>by cases n <;> rfl) (fun _ _ _ _ _=>by cases n <;> rfl) (EV ρ n) I
  | Pass p=>exact fun Q E _ hok _=>wpAny_Pass (hok (.next ρ) σ rfl _ s.heap s.toks _ ι ((Evo.refl _ _ _).wide (fun _ q=>nomatch q)) ⟨rfl,I⟩)
  | _=>exact SimX.fail
end
theorem zcd:∀{names:List (Str×NameKind)}{n:Nat}{acc:List (Str×Addr)}{p:Str×Addr},p∈acc→p∈cellsFrom n names acc
 | [],_,_,_,h=>h
 | (x,k)::r,n,acc,p,h=>by
  unfold cellsFrom
  split
  ·exact zcd (.tail _ h)
  ·exact zcd h
theorem zbf{x:Str}:∀{names:List (Str×NameKind)}{n:Nat}{acc:List (Str×Addr)},(x,NameKind.cell)∈names→∃ c,(x,c)∈cellsFrom n names acc
 | (y,k)::r,n,acc,h=>by
  unfold cellsFrom
  rcases List.mem_cons.mp h with q | h
  ·cases q
   simp only [beq_self_eq_true,if_true]
   exact ⟨n,zcd (.head _)⟩
  ·split
   ·exact zbf h
   ·exact zbf h
theorem zbe:∀{names:List (Str×NameKind)}{n:Nat}{acc:List (Str×Addr)},(names.map (·.1)).Nodup→(acc.map (·.1)).Nodup→(∀ x∈names,x.1∉acc.map (·.1))→((cellsFrom n names acc).map (·.1)).Nodup
 | [],_,_,_,h,_=>h
 | (x,k)::r,n,acc,hl,ha,hd=>by
  rw [List.map_cons,List.nodup_cons] at hl
  unfold cellsFrom
  split
  ·refine zbe hl.2 ?_ fun y hy=>?_
   ·rw [List.map_cons,List.nodup_cons];exact ⟨hd (x,k) (.head _),ha⟩
   ·rw [List.map_cons,List.mem_cons]
    rintro (q | q)
    ·exact hl.1 (q▸List.mem_map_of_mem (f:=Prod.fst) hy)
    ·exact hd y (.tail _ hy) q
  ·exact zbe hl.2 ha fun y hy=>hd y (.tail _ hy)
theorem zfl{kd:Str→Option NameKind}{x:Str}:∀{ps:List Str}{xs:List Value}{m:Str→Option Value},x∉ps→bindL kd (ps.zip xs) m x=m x
 | [],_,_,_=>rfl
 | _::_,[],_,_=>rfl
 | p::ps,y::xs,m,h=>by
  show bindL kd (ps.zip xs) _ x=_
  rw [zfl fun q=>h (.tail _ q)]
  split
  ·have:x≠p:=fun q=>h (q▸.head _)
   simp only [this,if_false]
  ·rfl
theorem zfm{kd:Str→Option NameKind}{x:Str}:∀{ps:List Str}{xs:List Value}{m:Str→Option Value},x∉ps→bindC kd (ps.zip xs) m x=m x
 | [],_,_,_=>rfl
 | _::_,[],_,_=>rfl
 | p::ps,y::xs,m,h=>by
  show bindC kd (ps.zip xs) _ x=_
  rw [zfm fun q=>h (.tail _ q)]
  split
  ·rfl
  ·have:x≠p:=fun q=>h (q▸.head _)
   simp only [this,if_false]
section
variable {prog:Program} {w:World} {hB:Heap} {A:Around} {s:Shared} {ι:Ad} {σ:zab} {env:Env} {ρ:Loc} {fl outer:List Env} {sc:Scope} {K:Frag} {h h':Heap}
theorem zhZ{kd:Str→Option NameKind}{x:Str}{v:PV}(hk:kd x=some .local):∀{ps:List Str}{vs:List PV}{xs:List Value}{m:Str→Option Value},ps.Nodup→RepL h ι σ vs xs→(ps.zip vs).lookup x=some v→∃ y,bindL kd (ps.zip xs) m x=some y∧Rep h ι σ v y
 | [],_,_,_,_,_,e=>by simp at e
 | _::_,_,_,_,_,.nil,e=>by simp at e
 | p::ps,_,_,m,hn,.cons (v:=y) (xs:=vs) (vs:=xs) r rs,e=>by
  rw [List.nodup_cons] at hn
  rw [List.zip_cons_cons,List.lookup_cons] at e
  cases q:x==p with
  | true=>
   rw [q] at e
   cases e
   have:=eq_of_beq q;subst this
   refine ⟨y,?_,r⟩
   show bindL kd (ps.zip xs) _ x=_
   rw [zfl hn.1,if_pos hk];simp
  | false=>
   rw [q] at e
   show ∃ z,bindL kd (ps.zip xs) _ x=some z∧_
   exact zhZ (ps:=ps) (xs:=xs) hk hn.2 rs e
theorem zh0{kd:Str→Option NameKind}{x:Str}{v:PV}(hk:kd x=some .cell):∀{ps:List Str}{vs:List PV}{xs:List Value}{m:Str→Option Value},ps.Nodup→RepL h ι σ vs xs→(ps.zip vs).lookup x=some v→∃ y,bindC kd (ps.zip xs) m x=some y∧Rep h ι σ v y
 | [],_,_,_,_,_,e=>by simp at e
 | _::_,_,_,_,_,.nil,e=>by simp at e
 | p::ps,_,_,m,hn,.cons (v:=y) (xs:=vs) (vs:=xs) r rs,e=>by
  rw [List.nodup_cons] at hn
  rw [List.zip_cons_cons,List.lookup_cons] at e
  cases q:x==p with
  | true=>
   rw [q] at e
   cases e
   have:=eq_of_beq q;subst this
   refine ⟨y,?_,r⟩
   show bindC kd (ps.zip xs) _ x=_
   rw [zfm hn.1,if_neg (by rw [hk];decide)];simp
  | false=>
   rw [q] at e
   show ∃ z,bindC kd (ps.zip xs) _ x=some z∧_
   exact zh0 (ps:=ps) (xs:=xs) hk hn.2 rs e
theorem zcS{x:Str}{v:PV}:∀{ps:List Str}{vs:List PV},(ps.zip vs).lookup x=some v→x∈ps
 | [],_,e=>by simp at e
 | _::_,[],e=>by simp at e
 | p::ps,_::vs,e=>by
  rw [List.zip_cons_cons,List.lookup_cons] at e
  cases q:x==p with
  | true=>rw [eq_of_beq q];exact .head _
  | false=>rw [q] at e;exact .tail _ (zcS e)
theorem zkz{a:Addr}{f:FnD}{fd:FuncData}{vs:List PV}{xs:List Value}{s₁:Shared}(O:FnOk hB a f)(hs:fd.scope=f.scope)(S:StoreOk prog w hB s.heap ι σ)(B:hB.StaysIn s.heap)(T:Stk hB fl s.heap ι σ)(r:RepL s.heap ι σ vs xs)
  (x:InCallC s (callEnvC fd s.heap.objs.size a).locals (bindL (callEnvC fd s.heap.objs.size a).kindOf (f.params.zip xs) fun _=>none) (callEnvC fd s.heap.objs.size a).cells
    (bindC (callEnvC fd s.heap.objs.size a).kindOf (f.params.zip xs) fun _=>none) s₁) :
  Inv prog w hB (callEnvC fd s.heap.objs.size a) (params f.params vs) (callEnvC fd s.heap.objs.size a::fl) s₁.heap ι σ:=by
 have hk:=x.toInCall.keep
 have X:Step prog w hB s.heap ι σ s₁.heap ι σ:=Step.keeps S B hk
 have r₁:=r.step S.len X
 have kind:∀ y,(callEnvC fd s.heap.objs.size a).kindOf y=f.scope.names.lookup y:=fun y=>by rw [← hs];rfl
 have hcs:(callEnvC fd s.heap.objs.size a).cells=cellsFrom (s.heap.objs.size+1) f.scope.names []:=by rw [← hs];rfl
 have hnd:((callEnvC fd s.heap.objs.size a).cells.map (·.1)).Nodup:=by rw [hcs];exact zbe O.nodupN .nil fun _ _=>List.not_mem_nil
 have new:∀ b,s.heap.objs.size≤b→s.heap.get? b=none:=fun b hb=>by
  cases q:s.heap.get? b with
  | none=>rfl
  | some o=>exact absurd (Heap.lt_size q) (Nat.not_lt.mpr hb)
 have newD:∀ b∈dyn (callEnvC fd s.heap.objs.size a),s.heap.get? b=none:=fun b hb=>by
  rcases List.mem_cons.mp hb with rfl | hb
  ·exact new _ (Nat.le_refl _)
  ·obtain ⟨c,hc,rfl⟩:=List.mem_map.mp hb
   exact new _ (Nat.le_of_lt (x.above c.1 c.2 hc))
 have offD:∀ b∈dyn (callEnvC fd s.heap.objs.size a),b∉ι.vis∧b∉ι.hid:=fun b hb=>by
  refine ⟨fun q=>?_,fun q=>?_⟩
  ·obtain ⟨o,ho⟩:=S.there b q;rw [newD b hb] at ho;cases ho
  ·obtain ⟨o,ho,_⟩:=S.hthere b q;rw [newD b hb] at ho;cases ho
 have zek:∀ y c,(y,c)∈(callEnvC fd s.heap.objs.size a).cells→∃ z,s₁.heap.IsCell c z:=fun y c hc=>⟨_,x.cell y c (za3 hnd hc)⟩
 have lt:Inv prog w hB (callEnvC fd s.heap.objs.size a) (params f.params vs) fl s₁.heap ι σ:=by
  refine ⟨X.stays,X.store,⟨⟨_,x.toInCall.ns,fun y v e k=>?_⟩,fun y v e k=>?_,fun y v e=>?_,fun y k=>?_,x.apart,fun b hb=>⟨?_,zbi B (newD b hb)⟩,fun b hb=>?_,offD⟩,T.step S.len X.evo⟩
  ·exact zhZ k O.nodup r₁ e
  ·obtain ⟨z,hz,rz⟩:=zh0 (m:=fun _=>none) k O.nodup r₁ e
   have hm:(y,NameKind.cell)∈f.scope.names:=mem_of_lookup (by rw [← kind];exact k)
   obtain ⟨c,hc⟩:=zbf (n:=s.heap.objs.size+1) (acc:=[]) hm
   rw [← hcs] at hc
   have hl:=za3 hnd hc
   exact ⟨c,z,hl,by rw [← hz];exact x.cell y c hl,rz⟩
  ·rw [kind];exact O.pars y (zcS e)
  ·have hm:(y,NameKind.cell)∈f.scope.names:=mem_of_lookup (by rw [← kind];exact k)
   obtain ⟨c,hc⟩:=zbf (n:=s.heap.objs.size+1) (acc:=[]) hm
   rw [← hcs] at hc
   have hl:=za3 hnd hc
   exact ⟨c,_,hl,x.cell y c hl⟩
  ·rintro (⟨i,c,hi,_⟩ | q)
   ·exact (offD b hb).1 (List.mem_of_getElem? hi)
   ·exact (offD b hb).2 q
  ·obtain ⟨c,hc,rfl⟩:=List.mem_map.mp hb
   exact zek c.1 c.2 hc
 obtain ⟨o,es,ep,ho,hd,_⟩:=x.toInCall.ns
 have hL:(callEnvC fd s.heap.objs.size a).frame=some (callEnvC fd s.heap.objs.size a).locals:=rfl
 refine ⟨lt.stays,lt.store,lt.fr,⟨⟨?_,⟨_,o,hL,zbi B (newD _ (.head _)),ho,fun us q=>by rw [hd] at q;cases q⟩,lt.stk.fun_⟩,fun b hb=>?_,fun b hb=>?_⟩⟩
 ·show fd.scope.kind≠.module
  rw [hs,O.kind];decide
 ·rw [List.filterMap_cons,hL] at hb
  rcases List.mem_cons.mp hb with rfl | hb
  ·exact (lt.fr.own _ (.head _)).1
  ·exact lt.stk.notLive b hb
 ·rw [List.filterMap_cons,hL] at hb
  rcases List.mem_cons.mp hb with rfl | hb
  ·exact ⟨o,es,ep,ho,hd⟩
  ·exact lt.stk.dicts b hb
theorem zi3{G:Gl}(hG:GlobOk hB K G)(hX:zmU hB K G):∀ d,ziT prog w hB d (zah G d)
 | 0=>fun _ _ _ _ _ _ _ _ _ _ _ _ _ _=>Sim.fail
 | d+1=>by
  intro md A fl a vs xs s ι σ hA S B T r
  have IH:=zi3 hG hX d
  cases hf:G.fns.lookup a with
  | none=>simp only [zah,hf];exact Sim.fail
  | some f=>
   simp only [zah,hf]
   refine Sim.cond (fun hlen=>?_) fun _=>Sim.fail
   have hlen:f.params.length=vs.length:=of_decide_eq_true hlen
   intro Q E hns hok herr
   have O:=hG.fns a f hf
   obtain ⟨o,fd,ho,hd,hbody,hs,hclo,hgl,hbi,hcr,hba⟩:=O.fd
   have hxl:f.params.length=xs.length:=hlen.trans r.length
   have hfr:(A.deeper (callEnvC fd s.heap.objs.size a)).frames=some (callEnvC fd s.heap.objs.size a::fl):=by simp [Around.deeper,hA.frames]
   have hA':Ar md d (callEnvC fd s.heap.objs.size a::fl) (A.deeper (callEnvC fd s.heap.objs.size a)):=
    ⟨hfr,by have:=hA.depth;show A.depth+1+d<_;lia,by have:=hA.units;show A.units+3+8*d+2000<_;lia,hA.quiet⟩
   have H:EnvOk (callEnvC fd s.heap.objs.size a) f.scope:=⟨by show fd.scope.kind=_;rw [hs];exact O.kind,hgl,hbi,fun y hy=>by show fd.scope.names.lookup y=_;rw [hs];exact hy,
    fun y hy=>by show fd.scope.names.lookup y=_;rw [hs];exact hy,fun y hy=>by show fd.scope.names.lookup y=_;rw [hs];exact hy,by show fd.scope.names.lookup _=_;rw [hs];exact O.nodebug⟩
   refine wpAny_call (codeAny_call_cells (binds:=f.params.zip xs) (by have:=hA.depth;lia) (B _ _ ho) hd (hG.nolimit.keeps B) (hcr.keeps B) hbody (hba xs hxl) hclo (fun y hy=>?_) (fun s₁ x=>?_) (by rw [hs];exact O.cor) (by rw [hs];exact O.gen) (by rw [hs];exact O.kind))
   ·have hm:y.1∈f.params:=(List.of_mem_zip (a:=y.1) (b:=y.2) hy).1
    rw [hs]
    rcases O.pars y.1 hm with q | q
    ·exact .inl q
    ·refine .inr ⟨q,?_⟩
     obtain ⟨c,hc⟩:=zbf (n:=s.heap.objs.size+1) (acc:=[]) (mem_of_lookup q)
     rw [za3 (zbe (acc:=[]) O.nodupN .nil fun _ _=>List.not_mem_nil) hc];rfl
   ·have I:=zkz O hs S B T r x
    obtain ⟨h₁,tk₁,rfl⟩:=x.toInCall.same
    have hk:=x.toInCall.keep
    have newD:∀ b∈dyn (callEnvC fd s.heap.objs.size a),s.heap.get? b=none:=fun b hb=>by
     have new:∀ b,s.heap.objs.size≤b→s.heap.get? b=none:=fun b hb=>by
      cases q:s.heap.get? b with
      | none=>rfl
      | some o=>exact absurd (Heap.lt_size q) (Nat.not_lt.mpr hb)
     rcases List.mem_cons.mp hb with rfl | hb
     ·exact new _ (Nat.le_refl _)
     ·obtain ⟨c,hc,rfl⟩:=List.mem_map.mp hb
      exact new _ (Nat.le_of_lt (x.above c.1 c.2 hc))
    have X₁:Step prog w hB s.heap ι σ h₁ ι σ:=Step.keeps S B hk
    have base:∀ {h₂ ι₂ σ₂},Evo (dyn (callEnvC fd s.heap.objs.size a)) h₁ ι σ h₂ ι₂ σ₂→Evo [] s.heap ι σ h₂ ι₂ σ₂:=fun X=>X₁.evo.trans S.len X fun b hb o e=>by rw [newD b hb] at e;cases e
    have EX:=zkF (zqb (cx:={ G:=G,call:=zah G d,md:=md }) hG hX IH H rfl nest md _ hA') f.body (params f.params vs) { s with heap:=h₁,toks:=tk₁ } ι σ I
    refine EX _ _ (fun q=>hns (by simp only [M.bind,q])) (fun fl' σ₂ e₂ z h₂ tk₂ dr₂ ι₂ X₂ r₂=>?_) (fun C σ₂ e₂ e h₂ tk₂ dr₂ ι₂ X₂ I₂ F₂=>?_)
    ·cases fl' with
     | next ρ'=>
      obtain ⟨rfl,I₂⟩:=r₂
      exact hok .none σ₂ (by simp only [M.bind,e₂,M.ret]) _ h₂ tk₂ dr₂ ι₂ ⟨base X₂,I₂.store,I₂.stays⟩ .none
     | ret v=>
      obtain ⟨y,rfl,ry,I₂⟩:=r₂
      exact hok v σ₂ (by simp only [M.bind,e₂,M.ret]) _ h₂ tk₂ dr₂ ι₂ ⟨base X₂,I₂.store,I₂.stays⟩ ry
    ·have F:=F₂.older X₁.evo.alive
     refine zjI (s:={ s with heap:=h₂,toks:=tk₂,drawn:=dr₂ }) hfr I₂.stk rfl F (base X₂).alive fun h₃ Y F₃=>?_
     have I₃:=I₂.soft Y (ziX B)
     exact herr C σ₂ (by simp only [M.bind,e₂]) e h₃ tk₂ dr₂ ι₂ ⟨(base X₂).soft Y I₂.stk.dicts,I₃.store,I₃.stays⟩ F₃
end
theorem zcg{α:Type}{n:Str}:∀{ps:List Str}{vs:List α},ps.length=vs.length→n∈ps→∃ v,(ps.zip vs).lookup n=some v
 | p::ps,v::vs,hl,hm=>by
  rw [List.zip_cons_cons,List.lookup_cons]
  cases q:n==p with
  | true=>exact ⟨v,rfl⟩
  | false=>
   rcases List.mem_cons.mp hm with rfl | hm
   ·simp at q
   ·exact zcg (by simpa using hl) hm
theorem zjo{α β:Type}{f g:α→Option β}:∀{l:List α},(∀ x∈l,f x=g x)→l.filterMap f=l.filterMap g
 | [],_=>rfl
 | x::r,h=>by
  rw [List.filterMap_cons,List.filterMap_cons,h x (.head _),zjo fun y hy=>h y (.tail _ hy)]
theorem zdA{α:Type}:∀{ps:List Str}{vs:List α},ps.Nodup→ps.length=vs.length→ps.filterMap (fun n=>((ps.zip vs).lookup n).map (n,·))=ps.zip vs
 | [],[],_,_=>rfl
 | p::ps,v::vs,hn,hl=>by
  rw [List.nodup_cons] at hn
  rw [List.filterMap_cons,List.zip_cons_cons]
  simp only [List.lookup_cons,beq_self_eq_true,Option.map_some]
  congr 1
  refine Eq.trans (zjo fun n hm=>?_) (zdA hn.2 (by simpa using hl))
  have:(n==p)=false:=by
   cases q:n==p with
   | false=>rfl
   | true=>exact (hn.1 (eq_of_beq q▸hm)).elim
  rw [this]
theorem zkA{fd:FuncData}{ps:List Arg}(hp:fd.params=⟨[],ps,none,[],[],none,[]⟩)(hdf:fd.defaults=.none) (hn:(ps.map (·.arg)).Nodup) (vals:List Value) (hl:(ps.map (·.arg)).length=vals.length) :
  bindArgs fd ⟨vals,[]⟩=pure ((ps.map (·.arg)).zip vals):=by
 have hsq:(seqItems? .none:Sem _)=pure none:=rfl
 have hmiss:((ps.map (·.arg)).filter fun n=>(((ps.map (·.arg)).zip vals).lookup n).isNone)=[]:=by
  rw [List.filter_eq_nil_iff]
  intro n hm
  obtain ⟨v,hv⟩:=zcg hl hm
  rw [hv];simp
 unfold bindArgs
 simp only [hp,hdf,hsq,List.map_nil,List.nil_append,List.append_nil,List.forIn_nil,pure_bind,Option.getD_none,List.drop_nil,List.length_nil,Nat.sub_zero,Nat.zero_sub]
 rw [← hl,List.take_length,List.drop_length]
 have hz:=zdA hn hl
 rw [List.filterMap_map] at hz
 simp [hmiss,hz]
noncomputable def fnOf(d:DefRec):FnD:=⟨d.params.args.map (·.arg),d.scope,d.body⟩
noncomputable def zlK(p:Arguments):Bool:=p.posonlyargs.isEmpty&&p.vararg.isNone&&p.kwonlyargs.isEmpty&&p.kw_defaults.isEmpty&&p.kwarg.isNone&&p.defaults.isEmpty
theorem zlJ{p:Arguments}(h:zlK p=true):p=⟨[],p.args,none,[],[],none,[]⟩:=by
 obtain ⟨a,b,c,d,e,f,g⟩:=p
 simp only [zlK,Bool.and_eq_true,List.isEmpty_iff,Option.isNone_iff_eq_none] at h
 obtain ⟨⟨⟨⟨⟨rfl,rfl⟩,rfl⟩,rfl⟩,rfl⟩,rfl⟩:=h
 rfl
noncomputable def zpw(d:DefRec):Bool:=zlK d.params&&!d.scope.isGenerator&&!d.scope.isCoroutine&&decide (d.scope.kind=.function)&&decide (d.scope.names.lookup ("__debug__":Str)=none)&&decide ((d.params.args.map (·.arg)).Nodup) &&
 decide ((d.scope.names.map (·.1)).Nodup)&&(d.params.args.map (·.arg)).all fun x=>decide (d.scope.names.lookup x=some .local) || decide (d.scope.names.lookup x=some .cell)
theorem zpv{p:Program}{loose:List Str}{mean:ExcName→Option Value}{mg mb:Str→Option Value}{h:Heap}(T:Top p loose mean mg mb h){d:DefRec}(hd:d∈recsOf p)(hc:zpw d=true){a:Addr}(ha:mg d.name=some (.ref a)):FnOk h a (fnOf d):=by
 simp only [zpw,Bool.and_eq_true,Bool.not_eq_true',decide_eq_true_eq,List.all_eq_true,Bool.or_eq_true] at hc
 obtain ⟨⟨⟨⟨⟨⟨⟨hp,hg⟩,hco⟩,hk⟩,hdb⟩,hn⟩,hnn⟩,hpar⟩:=hc
 obtain ⟨a',o,pm,code,doc,hm,ho,hdt,hcr⟩:=T.fn d hd
 rw [ha] at hm;cases hm
 exact ⟨⟨o,_,ho,hdt,rfl,rfl,rfl,rfl,rfl,hcr,fun vals hl=>zkA (zlJ hp) rfl hn vals hl⟩,hg,hco,hk,hdb,hn,hnn,fun x hx=>hpar x hx⟩
noncomputable def zkS(K:Frag)(a:Addr):Option (List Value):=match K.lookup a with
 | some o=>match o.data with
  | .seq vs _=>if (o.cls==.type "tuple"&&o.dict.isNone&&o.slots.size==0)=true then some vs.toList else none
  | _=>none
 | none=>none
theorem zm0{K:Frag}{a:Addr}{vs:List Value}(h:zkS K a=some vs):∃ ar n,K.lookup a=some { cls:=.type "tuple",data:=.seq ar n }∧ar.toList=vs:=by
 unfold zkS at h
 split at h
 ·rename_i o ho
  split at h
  ·rename_i ar n hd
   split at h
   ·rename_i q
    simp only [Bool.and_eq_true,beq_iff_eq,Option.isNone_iff_eq_none] at q
    obtain ⟨⟨q1,q2⟩,q3⟩:=q
    cases h
    obtain ⟨c,d,dt,sl⟩:=o
    dsimp only at q1 q2 q3 hd
    subst q1 q2 hd
    have:sl=#[]:=Array.eq_empty_of_size_eq_zero q3
    subst this
    exact ⟨ar,n,ho,rfl⟩
   ·cases h
  ·cases h
 ·cases h
noncomputable def zqz(i:Int):Value→Bool
 | .int j _=>i==j
 | _=>false
noncomputable def zqy(x:Str):Value→Bool
 | .str y _=>x==y
 | _=>false
noncomputable def ziE(x:PV)(v:Value):Bool:=match x with
 | .int i=>zqz i v
 | .str s=>zqy s v
 | _=>false
noncomputable def zeD:List PV→List Value→Bool
 | [],vs=>vs.isEmpty
 | x::xs,vs=>match vs with
  | []=>false
  | v::vs=>ziE x v&&zeD xs vs
noncomputable def refV:Value→Option Addr
 | .ref a=>some a
 | _=>none
noncomputable def zp8(K:Frag)(xs:List PV)(v:Value):Bool:=match (refV v).bind (zkS K) with
 | some vs=>zeD xs vs
 | none=>false
noncomputable def zn5(K:Frag)(x:PV)(v:Value):Bool:=match x with
 | .tup xs=>zp8 K xs v
 | x=>ziE x v
theorem zeT{a:Addr}:¬ Live Ad.nil [] a:=by
 rintro (⟨i,c,hi,_⟩ | q)
 ·simp [Ad.nil] at hi
 ·exact nomatch q
theorem zfU{h:Heap}{x:PV}{v:Value}(e:ziE x v=true):Rep h Ad.nil [] x v:=by
 cases x with
 | int i=>cases v with
  | int j t=>rw [show i=j from eq_of_beq e];exact .int _ _
  | _=>cases e
 | str s=>cases v with
  | str u t=>rw [show s=u from eq_of_beq e];exact .str _ _
  | _=>cases e
 | _=>cases e
theorem ze4{h:Heap}:∀(xs:List PV)(vs:List Value),zeD xs vs=true→RepL h Ad.nil [] xs vs
 | [],vs,e=>by
  cases vs with
  | nil=>exact .nil
  | cons _ _=>cases e
 | x::xs,vs,e=>by
  cases vs with
  | nil=>cases e
  | cons v vs=>exact .cons (zfU (Bool.and_eq_true_iff.mp e).1) (ze4 xs vs (Bool.and_eq_true_iff.mp e).2)
theorem zoS{v:Value}{a:Addr}(h:refV v=some a):v=.ref a:=by
 cases v with
 | ref b=>cases h;rfl
 | _=>cases h
theorem zlB{K:Frag}{h:Heap}(X:K.In h){x:PV}{v:Value}(e:zn5 K x v=true):Rep h Ad.nil [] x v:=by
 cases x with
 | tup xs=>
  have e:(match (refV v).bind (zkS K) with | some vs=>zeD xs vs | none=>false)=true:=e
  cases q:(refV v).bind (zkS K) with
  | none=>rw [q] at e;cases e
  | some vs=>
   rw [q] at e
   obtain ⟨a,h1,h2⟩:=Option.bind_eq_some_iff.mp q
   obtain ⟨ar,n,hk,rfl⟩:=zm0 h2
   rw [zoS h1]
   exact .tup (X _ _ hk) zeT (ze4 xs ar.toList e)
 | _=>exact zfU e
noncomputable def zki(K:Frag)(fns:List (Addr×FnD))(q:Str×GV):Bool:=match q.2 with
 | .fn a=>(nsIn K mainGlobals q.1==some (some (.ref a)))&&(fns.lookup a).isSome
 | .cls C=>(nsIn K mainGlobals q.1==some (some (.ref C)))&&excIn K C [.type "ValueError",.type "Exception",.type "BaseException",.type "object"] "ValueError.__new__"
 | .val v=>match nsIn K mainGlobals q.1 with
  | some (some y)=>zn5 K v y
  | _=>false
noncomputable def zpQ(K:Frag)(names:List (Str×GV))(q:Str×Value):Bool:=(names.lookup q.1).isSome || ((nsIn K mainGlobals q.1==some none)&&(bootBuiltins q.1==some q.2)&&decide (q.1≠"__name__"))
noncomputable def zoo(K:Frag)(D:Addr):Bool:=(findIn K (.ref D) "__getattribute__"==some (some (.builtin "BaseException.__getattribute__")))&&(findIn K (.ref D) "__getattr__"==some none)&&(mroIn K D (.type "BaseException")==some true)&&hasDictIn K D&&(findIn K (.ref D) "__class__"==some (some (.builtin "object.__class__"))) &&
 (specialIn K (.builtin "object.__class__") "__get__"==some (some (.builtin "getset_descriptor.__get__")))&&(takesIn K (.builtin "object.__class__")==some true)&&(mroIn K D (.type "object")==some true)
noncomputable def znY(K:Frag)(G:Gl):Bool:=(G.clss.all fun C=>(G.clss.all fun D=>kitOne K (.ref C) (.ref D)==some (G.sub.contains (C,D)))&&(kitOne K (.ref C) (.type "ValueError")==some true)) &&
 G.sub.all fun q=>exmOne K (.ref q.1) (.ref q.2)==some true
noncomputable def zn6(K:Frag)(AL:List Addr)(rs:List DefRec):Bool:=(AL.zip rs).all fun q=>zpw q.2&&(nsIn K mainGlobals q.2.name==some (some (.ref q.1)))
noncomputable def zpu(AL:List Addr)(rs:List DefRec):List (Addr×FnD):=(AL.zip rs).map fun q=>(q.1,fnOf q.2)
section
variable {p:Program} {loose:List Str} {mean:ExcName→Option Value} {mg mb:Str→Option Value} {h:Heap} {K:Frag} {G:Gl} {AL:List Addr}
theorem zfN{β:Type}{f:Str×β→Bool}{l:List (Str×β)}(h:l.all f=true){x:Str}{b:β}(e:l.lookup x=some b):f (x,b)=true:=List.all_eq_true.mp h _ (mem_of_lookup e)
theorem zcR{β:Type}:∀{l:List (Addr×β)}{n:Addr}{c:β},l.lookup n=some c→(n,c)∈l
 | (k,v)::r,n,c,h=>by
  rw [List.lookup_cons] at h
  cases hb:n==k with
  | true=>rw [hb] at h;cases h;rw [beq_iff_eq.mp hb];exact List.mem_cons_self
  | false=>rw [hb] at h;exact List.mem_cons_of_mem _ (zcR h)
theorem zmo(T:Top p loose mean mg mb h)(X:K.In h)(hf:G.fns=zpu AL (recsOf p))(c1:G.names.all (zki K G.fns)=true)(c2:bis.all (zpQ K G.names)=true)(c3:G.clss.all (zoo K)=true)(c4:znY K G=true)(c5:zn6 K AL (recsOf p)=true) :
  GlobOk h K G∧zmU h K G:=by
 have fns:∀ a f,G.fns.lookup a=some f→FnOk h a f:=fun a f e=>by
  have hm:=zcR e
  rw [hf,zpu] at hm
  obtain ⟨q,hq,he⟩:=List.mem_map.mp hm
  cases he
  have:=List.all_eq_true.mp c5 q hq
  rw [Bool.and_eq_true,beq_iff_eq] at this
  exact zpv T (List.of_mem_zip (a:=q.1) (b:=q.2) hq).2 this.1 (mg_of X T.g this.2)
 have nm:=fun {x b} (e:G.names.lookup x=some b)=>zfN c1 e
 refine ⟨⟨⟨mg,mb,T.g,T.b,fun x a e=>?_,fun x a e=>?_,fun x v e=>?_,fun x v e e'=>?_⟩,?_,X,T.nolimit,fun x a e=>?_,fns⟩,?_⟩
 ·have:=nm e;simp only [zki,Bool.and_eq_true,beq_iff_eq] at this;exact mg_of X T.g this.1
 ·have:=nm e;simp only [zki,Bool.and_eq_true,beq_iff_eq] at this;exact mg_of X T.g this.1
 ·have:=nm e
  simp only [zki] at this
  split at this
  ·rename_i y hy;exact ⟨y,mg_of X T.g hy,zlB X this⟩
  ·cases this
 ·have:=zfN c2 e'
  simp only [zpQ,e,Option.isSome_none,Bool.false_or,Bool.and_eq_true,beq_iff_eq,decide_eq_true_eq] at this
  exact ⟨mg_none_of X T.g this.1.1,(T.builtins x this.2).trans this.1.2⟩
 ·exact ⟨⟩
 ·have:=nm e
  simp only [zki,Bool.and_eq_true] at this
  obtain ⟨f,hff⟩:=Option.isSome_iff_exists.mp this.2
  obtain ⟨o,fd,ho,hd,_⟩:=(fns a f hff).fd
  exact ⟨o,fd,ho,hd⟩
 ·exact trivial
theorem zg3{P:Params}:∀{vs:List Value}{xs:List WData},WellAll P h vs xs→(∀ x∈xs,∃ i,x=.int i)→∃ is:List Int,xs=is.map .int∧RepL h Ad.nil [] (is.map .int) vs
 | _,_,.nil,_=>⟨[],rfl,.nil⟩
 | _,_,.cons a b,hx=>by
  obtain ⟨i,hi⟩:=hx _ (.head _)
  subst hi
  obtain ⟨is,rfl,r⟩:=zg3 b fun x hx'=>hx x (.tail _ hx')
  cases a with
  | int _ t=>exact ⟨i::is,rfl,.cons (.int i t) r⟩
theorem zqr{prog:Program}{w:World}{s:Shared}{a:Addr}{is:List Int}{xs:List Value}{D:Nat}{σ':zab}(hG:GlobOk s.heap K G)(hX:zmU s.heap K G)(hsys:∃ o,s.heap.get? sysModules=some o)(hD:D≤600)(r:RepL s.heap Ad.nil [] [.lst (is.map .int)] xs)
  (hL:zah G D ⟨true,true⟩ a [.lst (is.map .int)] []=.ok (.bool true) σ') (Q:Value→Shared→Prop) (E:Value→Shared→Prop) (hQ:∀ h' tk dr,(∀ b o,s.heap.get? b=some o→h'.get? b=some o)→Q (.bool true) { s with heap:=h',toks:=tk,drawn:=dr }) :
  wpAny (model prog w) callerA (PySem.call (.ref a) xs) Q E s:=by
 have S:StoreOk prog w s.heap s.heap Ad.nil []:=⟨rfl,.nil,(fun _ q=>nomatch q),(fun _ q=>nomatch q),(fun _ q=>nomatch q),(fun _ q=>nomatch q),(fun _ q=>nomatch q),hsys,fun i a c e=>by simp [Ad.nil] at e⟩
 refine zi3 (prog:=prog) (w:=w) hG hX D ⟨true,true⟩ callerA [] a _ xs s Ad.nil [] ⟨rfl,(by show 301+D<1000;lia),(by show 4+8*D+2000<9900;lia),fun _=>rfl⟩ S (fun _ _ e=>e) ⟨trivial,(fun _ q=>nomatch q),(fun _ q=>nomatch q)⟩ r Q E (by rw [hL];intro q;cases q) (fun v σ₁ e₁ x h₁ tk₁ dr₁ ι₁ X₁ r₁=>?_) (fun C σ₁ e₁=>by rw [hL] at e₁;cases e₁)
 rw [hL] at e₁;cases e₁
 cases r₁
 exact hQ h₁ tk₁ dr₁ X₁.stays
theorem zdz{R:WRecords}:∀{xs:List WData},WShape.hasItems R xs .int=true→∀ x∈xs,∃ i,x=.int i
 | [],_,_,hx=>nomatch hx
 | a::r,h,x,hx=>by
  simp only [WShape.hasItems,Bool.and_eq_true] at h
  rcases List.mem_cons.mp hx with rfl | hx
  ·exact hasW_int h.1
  ·exact zdz h.2 x hx
theorem znv{l:OpenLaw}(hm:l.most=some 63){args:List WData}(hpre:l.row.toRowW.claim.pre args=true):∃ xs,args=[.list xs]∧(∀ x∈xs,∃ i,x=.int i)∧xs.length≤63:=by
 obtain ⟨h1,h2⟩:=pre_splitW hpre
 obtain ⟨d,r,rfl,hd,hr⟩:=hasAllW_cons h1
 obtain rfl:=hasAllW_nil hr
 obtain ⟨xs,rfl,hx⟩:=hasW_list hd
 refine ⟨xs,rfl,zdz hx,?_⟩
 have h3:l.pre.holds [] { args:=[WData.list xs] }=true:=h2
 unfold OpenLaw.pre at h3
 rw [hm] at h3
 by_cases q:xs.length≤63
 ·exact q
 ·exfalso
  revert h3
  simp only [WTm.holds,WTm.value,List.getElem?_cons_zero]
  have:(63:Int)<(xs.length:Int):=by lia
  have hl:less? (WData.int 63) (WData.int (xs.length:Int))=some true:=by
   show (Num.less? (WData.int 63) (WData.int (xs.length:Int)))=some true
   simp [Num.less?,this]
  simp [hl]
theorem znu{l:OpenLaw}{args:List WData}:l.row.toRowW.claim.post args (.bool true) args=true:=by
 show (WShape.has [] (.bool true) .bool&&WTm.holds [] (.eq .res (.lit (.bool true))) { args:=args,res:=some (.bool true),after:=args })=true
 have h1:WShape.has [] (.bool true) .bool=true:=by simp [WShape.has,WShape.arms]
 rw [h1,Bool.true_and]
 have h2:W.same (WData.bool true) (WData.bool true)=true:=by first | decide +kernel | kernel_rfl | simp [W.same]
 simp [WTm.holds,WTm.value,h2]
theorem zpe{l:OpenLaw}(hm:l.most=some 63){D:Nat}{A₀:Addr}(hD:D≤600)(hL:∀ is:List Int,is.length≤63→∃ σ',zah G D ⟨true,true⟩ A₀ [.lst (is.map .int)] []=.ok (.bool true) σ')
  {prog:Program} {w:World} {s:Shared} {cl:Str→Option Addr} {mn:ExcName→Option Value} (hG:GlobOk s.heap K G) (hX:zmU s.heap K G) (hsys:∃ o,s.heap.get? sysModules=some o) (hgens:s.gens=#[]) {args:List WData} {vals:List Value}
  (hpre:l.row.toRowW.claim.pre args=true) (wl:WellAll w.params s.heap vals args) :
  wpAny (model prog w) callerA (PySem.call (.ref A₀) vals) (fun v s'=>GoodWG l.row.toRowW.claim cl mn args s (.ok (.ret v)) s') (fun e s'=>GoodWG l.row.toRowW.claim cl mn args s (.error e) s') s:=by
 obtain ⟨xs,rfl,hi,hlen⟩:=znv hm hpre
 cases wl with
 | cons a b=>
  cases b
  cases a with
  | list ho hw=>
   obtain ⟨is,rfl,r⟩:=zg3 hw hi
   obtain ⟨σ',hc⟩:=hL is (by simpa using hlen)
   refine zqr hG hX hsys hD (.cons (.lst ho zeT (by simpa using r)) .nil) hc _ _ fun h' tk dr hk=>GoodW.toG ⟨.inl ⟨.bool true,.bool true,[],rfl,fun _=>rfl,.bool true,znu,fun _=>⟨.nil,fun _ q=>nomatch q⟩⟩,hk,rfl,hgens⟩
end
end Mine
namespace Mine
open PySem
noncomputable section
noncomputable def fnAt(p:Program)(k:Nat):FnD:=
 match p.main.body[k]? with
 | some (.FunctionDef _ a b _ _ _ sc _ _ _)=>⟨a.args.map (·.arg),sc,b⟩
 | _=>⟨[],⟨.function,[],false,false,[]⟩,[]⟩
theorem za5{α β γ:Type}(x:M α)(f:α→M β)(g:β→M γ):(x.bind f).bind g=x.bind fun a=>(f a).bind g:=M.bind_assoc x f g
theorem zjz{α β:Type}(b:Bool)(x y:M α)(f:α→M β):(M.cond b x y).bind f=M.cond b (x.bind f) (y.bind f):=M.cond_bind b x y f
theorem zrv{α:Type}(x:M α):x.bind M.ret=x:=by
 funext σ;unfold M.bind;cases x σ <;> rfl
theorem za6{α β:Type}{x:M α}{f g:α→M β}(h:∀ a,f a=g a):x.bind f=x.bind g:=congrArg (M.bind x) (funext h)
theorem zfi{α:Type}{b:Bool}{x y x' y':M α}(h:x=x')(h':y=y'):M.cond b x y=M.cond b x' y':=by rw [h,h']
noncomputable abbrev LL:=List (Str×Option PV)
noncomputable def locN(l:LL):Loc:=fun y=>match l.lookup y with
 | some o=>o
 | Option.none=>Option.none
noncomputable def LL.put(x:Str)(v:PV):LL→LL
 | []=>[(x,some v)]
 | (y,o)::r=>match x==y with
  | true=>(y,some v)::r
  | false=>(y,o)::LL.put x v r
noncomputable def LL.drop(x:Str):LL→LL
 | []=>[]
 | (y,o)::r=>(y,match y==x with | true=>Option.none | false=>o)::LL.drop x r
theorem zdo(z:Str)(o:Option PV)(r:LL)(y:Str):locN ((z,o)::r) y=bif y==z then o else locN r y:=by
 unfold locN
 rw [List.lookup_cons]
 cases y==z <;> rfl
theorem zn3(ρ:Loc)(x:Str)(v:PV)(y:Str):ρ.set x v y=bif y==x then some v else ρ y:=by
 unfold Loc.set
 cases h:y==x with
 | true=>rw [if_pos (eq_of_beq h)];rfl
 | false=>rw [if_neg fun q=>by rw [beq_iff_eq.mpr q] at h;cases h];rfl
theorem znq(x:Str)(v:PV)(l:LL):locN (l.put x v)=(locN l).set x v:=by
 induction l with
 | nil=>funext y;rw [zn3];exact zdo x (some v) [] y
 | cons p r ih=>
  obtain ⟨z,o⟩:=p
  funext y
  have ihy:=congrFun ih y
  rw [zn3] at ihy ⊢
  unfold LL.put
  rw [zdo]
  cases hx:x==z with
  | true=>
   have hxz:=eq_of_beq hx
   subst hxz
   show locN ((x,some v)::r) y=_
   rw [zdo]
   cases y==x <;> rfl
  | false=>
   show locN ((z,o)::LL.put x v r) y=_
   rw [zdo,ihy]
   cases hz:y==z with
   | true=>
    rw [eq_of_beq hz]
    cases hq:z==x with
    | true=>rw [beq_iff_eq.mpr (eq_of_beq hq).symm] at hx;cases hx
    | false=>rfl
   | false=>cases y==x <;> rfl
section
variable {α:Type}
noncomputable def zmO(sc:Scope)(l:LL)(v:PV)(x:Str)(k:LL→M α):M α:=match sc.names.lookup x with
 | some .local=>k (l.put x v)
 | some .cell=>k (l.put x v)
 | _=>M.fail
noncomputable def zmM(sc:Scope)(l:LL)(v:PV)(t:Expr)(k:LL→M α):M α:=(M.lift (nmOf t)).bind fun x=>zmO sc l v x.1.1 k
noncomputable def nilL(vs:List PV)(m:M α):M α:=match vs with
 | []=>m
 | _::_=>M.fail
noncomputable def zkx(vs:List PV)(f:PV→List PV→M α):M α:=match vs with
 | []=>M.fail
 | v::vs=>f v vs
noncomputable def tupL(v:PV)(f:List PV→M α):M α:=match v with
 | .tup vs=>f vs
 | _=>M.fail
noncomputable def zgP(sc:Scope):LL→List Expr→List PV→(LL→M α)→M α
 | l,[],vs,k=>nilL vs (k l)
 | l,t::ts,vs,k=>zkx vs fun v vs=>zmM sc l v t fun l'=>zgP sc l' ts vs k
noncomputable def zmK(sc:Scope)(l:LL)(t:Expr)(v:PV)(k:LL→M α):M α:=
 match t with
 | .Tuple ts _ _=>tupL v fun vs=>zgP sc l ts vs k
 | t=>zmM sc l v t k
noncomputable def asgL(E:Expr→M PV)(sc:Scope)(l:LL)(t:Expr)(v:PV)(k:LL→M α):M α:=
 match t with
 | .Subscript o i _=>(E o).bind fun ov=>(E i).bind fun iv=>(setAt ov iv v).bind fun _=>k l
 | t=>zmK sc l t v k
noncomputable def exsL(X:Stmt→LL→(LL→M α)→M α):List Stmt→LL→(LL→M α)→M α
 | [],l,k=>k l
 | s::r,l,k=>X s l fun l'=>exsL X r l' k
noncomputable def zam(chk:M Unit)(sc:Scope)(t:Expr)(X:LL→(LL→M α)→M α):List PV→LL→(LL→M α)→M α
 | [],l,k=>chk.bind fun _=>k l
 | x::xs,l,k=>chk.bind fun _=>zmK sc l t x fun l'=>X l' fun l''=>zam chk sc t X xs l'' k
end
noncomputable def exL(cx:Cx){α:Type}(r:M PV→M α):Nat→Scope→Stmt→LL→(LL→M α)→M α
 | 0,_,_,_,_=>M.fail
 | n+1,sc,s,l,k=>match s with
  | .Return e _=>match e with
   | some e=>r (ev cx n sc (locN l) e)
   | Option.none=>M.fail
  | .Assign ts e _=>match ts with
   | []=>M.fail
   | t::rs=>M.cond (rs.isEmpty&&zqV cx.md t e) ((ev cx n sc (locN l) e).bind fun v=>asgL (ev cx n sc (locN l)) sc l t v k) M.fail
  | .If t a b _=>(ev cx n sc (locN l) t).bind fun v=>(zap v).bind fun c=>M.cond c (exsL (exL cx r n sc) a l k) (exsL (exL cx r n sc) b l k)
  | .For t it b o _=>M.cond (o.isEmpty&&(cx.md.lp&&isTg t)) ((zcM cx sc (locN l) (ev cx n sc (locN l)) t it).bind fun src=>zam (chkW src.watch) sc t (exsL (exL cx r n sc) b) src.xs l k) M.fail
  | .Expr e _=>M.cond (zjm e) M.fail ((ev cx n sc (locN l) e).bind fun _=>k l)
  | .Pass _=>k l
  | _=>M.fail
section
variable {α:Type}
noncomputable def zgu(r0:PV→M α)(k:Loc→M α):Fl→M α
 | .next ρ=>k ρ
 | .ret v=>r0 v
theorem zjp(r0:PV→M α)(k:Loc→M α)(g:Loc→M Fl)(f:Fl):(flK g f).bind (zgu r0 k)=zgu r0 (fun ρ=>(g ρ).bind (zgu r0 k)) f:=by cases f <;> rfl
theorem zmN{k:LL→M α}{k':Loc→M α}(hk:∀ l,k l=k' (locN l))(sc:Scope)(l:LL)(v:PV)(x:Str):zmO sc l v x k=(M.lift (zes sc (locN l) v x)).bind k':=by
 have h:k (l.put x v)=k' ((locN l).set x v):=(hk _).trans (congrArg k' (znq x v l))
 unfold zmO zes
 cases sc.names.lookup x with
 | none=>rfl
 | some q=>
  cases q with
  | «local»=>exact h
  | cell=>exact h
  | _=>rfl
theorem zhz{β γ:Type}(o:Option β)(f:β→Option γ)(g:γ→M α):(M.lift (o.bind f)).bind g=(M.lift o).bind fun a=>(M.lift (f a)).bind g:=by cases o <;> rfl
theorem zhY{k:LL→M α}{k':Loc→M α}(hk:∀ l,k l=k' (locN l))(sc:Scope)(l:LL)(v:PV)(t:Expr):zmM sc l v t k=(M.lift (zfv sc (locN l) v t)).bind k':=
 (za6 (x:=M.lift (nmOf t)) fun x=>zmN hk sc l v x.1.1).trans (zhz (nmOf t) (fun x=>zes sc (locN l) v x.1.1) k').symm
theorem ziN{k:LL→M α}{k':Loc→M α}(hk:∀ l,k l=k' (locN l))(sc:Scope)(ts:List Expr):∀(vs:List PV)(l:LL),zgP sc l ts vs k=(M.lift (zbk sc (locN l) ts vs)).bind k':=by
 induction ts with
 | nil=>
  intro vs l
  cases vs with
  | nil=>exact hk l
  | cons _ _=>rfl
 | cons t ts ih=>
  intro vs l
  cases vs with
  | nil=>rfl
  | cons v vs=>exact (zhY (k':=fun ρ=>(M.lift (zbk sc ρ ts vs)).bind k') (fun l'=>ih vs l') sc l v t).trans (zhz _ _ _).symm
theorem zox(v:PV)(f:List PV→Option Loc)(g:List PV→M α)(k':Loc→M α) (h:∀ vs,g vs=(M.lift (f vs)).bind k'):tupL v g=(M.lift ((zqW v).bind f)).bind k':=by
 cases v with
 | tup vs=>exact h vs
 | _=>rfl
theorem zhX{k:LL→M α}{k':Loc→M α}(hk:∀ l,k l=k' (locN l))(sc:Scope)(l:LL)(t:Expr)(v:PV):zmK sc l t v k=(M.lift (zgO sc (locN l) t v)).bind k':=by
 have o:=zhY hk sc l v t
 cases t with
 | Tuple ts a p=>exact zox v _ _ k' fun vs=>ziN hk sc ts vs l
 | _=>exact o
theorem zpT{k:LL→M α}{k':Loc→M α}(hk:∀ l,k l=k' (locN l))(E:Expr→M PV)(sc:Scope)(l:LL)(t:Expr)(v:PV):asgL E sc l t v k=(asg E sc (locN l) t v).bind k':=by
 have o:=zhX hk sc l t v
 cases t with
 | Subscript o i p=>exact Eq.symm ((za5 _ _ _).trans (za6 fun a=>(za5 _ _ _).trans (za6 fun b=>(za5 _ _ _).trans (za6 fun _=>(hk l).symm))))
 | _=>exact o
theorem zgC{X:Stmt→LL→(LL→M α)→M α}{Y:Loc→Stmt→M Fl}{r0:PV→M α} (h:∀ s l k k',(∀ l,k l=k' (locN l))→X s l k=(Y (locN l) s).bind (zgu r0 k')) (b:List Stmt) :
  ∀(l:LL)(k:LL→M α)(k':Loc→M α),(∀ l,k l=k' (locN l))→exsL X b l k=(exs Y (locN l) b).bind (zgu r0 k'):=by
 induction b with
 | nil=>exact fun l k k' hk=>hk l
 | cons s b ih=>exact fun l k k' hk=>(h s l _ (fun ρ=>(exs Y ρ b).bind (zgu r0 k')) fun l'=>ih l' k k' hk).trans (Eq.symm ((za5 _ _ _).trans (za6 fun f=>zjp _ _ _ f)))
theorem znJ{chk:M Unit}{sc:Scope}{t:Expr}{X:LL→(LL→M α)→M α}{Y:Loc→M Fl}{r0:PV→M α} (h:∀ l k k',(∀ l,k l=k' (locN l))→X l k=(Y (locN l)).bind (zgu r0 k')) (xs:List PV) :
  ∀(l:LL)(k:LL→M α)(k':Loc→M α),(∀ l,k l=k' (locN l))→zam chk sc t X xs l k=(forL chk sc t Y xs (locN l)).bind (zgu r0 k'):=by
 induction xs with
 | nil=>exact fun l k k' hk=>Eq.symm ((za5 _ _ _).trans (za6 fun _=>(hk l).symm))
 | cons x xs ih=>
  intro l k k' hk
  refine Eq.symm ((za5 _ _ _).trans (za6 fun _=>((za5 _ _ _).trans ?_)))
  refine Eq.trans (za6 fun ρ=>(za5 _ _ _).trans (za6 fun f=>zjp _ _ _ f)) (Eq.symm (zhX (fun l'=>h l' _ _ fun l''=>ih l'' k k' hk) sc l t x))
end
theorem zqI(cx:Cx)(n:Nat):∀(md:Md){α:Type}(r:M PV→M α)(r0:PV→M α)(_:∀ m,r m=m.bind r0)(sc:Scope)(s:Stmt)(l:LL)(k:LL→M α)(k':Loc→M α),(∀ l,k l=k' (locN l))→
  exL { cx with md:=md } r n sc s l k=(ex { cx with md:=md } n sc (locN l) s).bind (zgu r0 k'):=by
 induction n with
 | zero=>exact fun _ _ _ _ _ _ _ _ _ _ _=>rfl
 | succ n ihn=>
  intro md α r r0 hr sc s l k k' hk
  have ih:=fun s l k k' hk=>ihn md r r0 hr sc s l k k' hk
  cases s with
  | Return e p=>
   cases e with
   | none=>rfl
   | some e=>exact (hr _).trans (Eq.symm (za5 _ _ _))
  | Assign ts e p=>
   cases ts with
   | nil=>rfl
   | cons t rs=>exact Eq.symm ((zjz _ _ _ _).trans (zfi ((za5 _ _ _).trans (za6 fun v=>(za5 _ _ _).trans (zpT hk _ sc l t v).symm)) rfl))
  | If t a b p=>exact Eq.symm ((za5 _ _ _).trans (za6 fun v=>(za5 _ _ _).trans (za6 fun c=>(zjz _ _ _ _).trans (zfi (zgC ih a l k k' hk).symm (zgC ih b l k k' hk).symm))))
  | For t it b o p=>exact Eq.symm ((zjz _ _ _ _).trans (zfi ((za5 _ _ _).trans (za6 fun src=>(znJ (Y:=fun ρ'=>exs (ex { cx with md:=md } n sc) ρ' b) (fun l k k' hk=>zgC ih b l k k' hk) src.xs l k k' hk).symm)) rfl))
  | Expr e p=>exact Eq.symm ((zjz _ _ _ _).trans (zfi rfl ((za5 _ _ _).trans (za6 fun _=>(hk l).symm))))
  | Pass p=>exact hk l
  | _=>rfl
noncomputable def zpk(ps:List Str)(vs:List PV)(names:List (Str×NameKind)):LL:=
 (ps.zip vs).map (fun p=>(p.1,some p.2))++(names.filter fun n=>!ps.contains n.1&&(n.2==.local || n.2==.cell)).map fun n=>(n.1,Option.none)
theorem zfO:∀(l r:LL),(∀ p∈r,p.2=Option.none)→locN (l++r)=locN l
 | [],r,h=>by
  funext y
  simp only [List.nil_append,locN,List.lookup_nil]
  induction r with
  | nil=>rfl
  | cons p r ih=>
   obtain ⟨n,o⟩:=p
   have:=h _ (.head _)
   dsimp only at this;subst this
   rw [List.lookup_cons]
   cases y==n with
   | true=>rfl
   | false=>exact ih fun p hp=>h p (.tail _ hp)
 | (n,o)::l,r,h=>by
  have ih:=zfO l r h
  funext y
  have ihy:=congrFun ih y
  simp only [List.cons_append,locN,List.lookup_cons] at ihy ⊢
  cases y==n with
  | true=>rfl
  | false=>exact ihy
theorem zl4(ps:List Str)(vs:List PV)(names:List (Str×NameKind)):locN (zpk ps vs names)=params ps vs:=by
 unfold zpk
 rw [zfO _ _ (fun p hp=>by obtain ⟨n,_,rfl⟩:=List.mem_map.mp hp;rfl)]
 funext y
 unfold params locN
 generalize ps.zip vs=l
 induction l with
 | nil=>rfl
 | cons p r ih=>
  obtain ⟨n,o⟩:=p
  simp only [List.map_cons,List.lookup_cons]
  cases y==n with
  | true=>rfl
  | false=>exact ih
noncomputable def zak(G:Gl)(C:Md→Addr→List PV→M PV)(md:Md)(a:Addr)(vs:List PV):M PV:=
 match G.fns.lookup a with
 | some f=>M.cond (decide (f.params.length=vs.length)) (exsL (exL { G:=G,call:=C,md:=md } (fun m=>m) nest f.scope) f.body (zpk f.params vs f.scope.names) fun _=>M.ret .none) M.fail
 | Option.none=>M.fail
theorem zd4(G:Gl)(d:Nat)(md:Md)(a:Addr)(vs:List PV):zah G (d+1) md a vs=zak G (zah G d) md a vs:=by
 unfold zak
 show (match G.fns.lookup a with
  | some f=>M.cond (decide (f.params.length=vs.length)) ((exs (ex { G:=G,call:=zah G d,md:=md } nest f.scope) (params f.params vs) f.body).bind fun r=>match r with
   | .ret v=>M.ret v
   | .next _=>M.ret .none) M.fail
  | Option.none=>M.fail)=_
 cases G.fns.lookup a with
 | none=>rfl
 | some f=>
  refine zfi ?_ rfl
  rw [zgC (r0:=M.ret) (Y:=ex { G:=G,call:=zah G d,md:=md } nest f.scope) (fun s l k k' hk=>zqI { G:=G,call:=zah G d,md:=md } nest md _ M.ret (fun m=>(zrv m).symm) f.scope s l k k' hk) _ _ _ (fun _=>M.ret .none) (fun _=>rfl),zl4]
  exact za6 fun r=>by cases r <;> rfl
noncomputable abbrev zad:=Md→Addr→List PV→M PV
set_option genInjectivity false in
set_option genSizeOf false in
structure Adr where
 (is_name:Addr:=0) (is_within:Addr:=0) (is_saying:Addr:=0) (need_saying:Addr:=0) (halves:Addr:=0) (size_in:Addr:=0) (gather_names:Addr:=0) (names_in:Addr:=0) (l_cell_at:Addr:=0) (l_names:Addr:=0) (l_saying:Addr:=0) (l_met:Addr:=0) (l_is_name:Addr:=0) (l_is_saying:Addr:=0) (law:Addr:=0) (l_true:Addr:=0) (need_row:Addr:=0) (begun:Addr:=0) (parts:Addr:=0) (is_whole:Addr:=0) (same_claim:Addr:=0) (without:Addr:=0) (clashes:Addr:=0) (stands_for:Addr:=0) (stands:Addr:=0) (ended:Addr:=0) (next_claim:Addr:=0) (setting_of:Addr:=0) (worked:Addr:=0) (shut:Addr:=0) (l_right:Addr:=0) (joined:Addr:=0) (neatly:Addr:=0) (l_settings:Addr:=0) (l_is_neat:Addr:=0) (l_is_neat_whole:Addr:=0) (need_tree:Addr:=0) (of_clash:Addr:=0) (of_tree:Addr:=0) (middle:Addr:=0) (leads:Addr:=0) (l_pair:Addr:=0) (l_is_between:Addr:=0) (SayError:Addr:=0) (BadSaying:Addr:=0) (BadRow:Addr:=0) (BadTree:Addr:=0) (BadCut:Addr:=0)
noncomputable def Md.inn(md:Md):Md:=⟨false,md.lp⟩
noncomputable def p0:Pos:=⟨0,0,0,0⟩
noncomputable def G0(mu:Bool):Gl:={ names:=[],fns:=[],sub:=[],clss:=[],mu:=match mu with | true=>[(0,0)] | false=>[],fz:=[] }
noncomputable def cxM(md:Md)(mu:Bool):Cx:={ G:=G0 mu,call:=fun _ _ _=>M.fail,md:=md }
noncomputable def mkL(mu:Bool)(xs:List PV):M PV:=M.cond mu (cnew (.list xs)) (M.ret (.lst xs))
noncomputable def opM(mu:Bool)(op:Operator)(a b:PV):M PV:=znR (cxM ⟨false,false⟩ mu) p0 op a b
noncomputable def cutM(mu:Bool)(v:PV)(lo hi:Option Int):M PV:=cut (cxM ⟨false,false⟩ mu) p0 false v lo hi
noncomputable def biM(md:Md)(mu:Bool)(f:Str)(vs:List PV):M PV:=builtin (cxM md mu) p0 f vs
noncomputable def zet(md:Md)(mu:Bool)(v:PV):M PV:=zcY (cxM md mu) p0 v
noncomputable def zfs(md:Md)(mu:Bool)(m:Str)(o:PV)(args:M (List PV)):M PV:=(tnOf o).bind fun T=>(M.lift (mtOf T m)).bind fun k=>args.bind fun vs=>zdl (cxM md mu) p0 k o vs
noncomputable def zde(x:M PV):M (Option Int):=x.bind fun v=>M.lift (zlM v)
noncomputable def isM(G:Gl)(t:Ty)(v:PV):M PV:=(zbV G t v).bind fun b=>M.ret (.bool b)
noncomputable def zaU(md:Md)(mu:Bool)(src:M Src)(f:PV→M (Option PV)):M PV:=
 M.cond (md.lp&&true&&true) (src.bind fun s=>M.cond (decide (s.xs.length≤2 ^ 20)) ((zaW (chkW s.watch) (fun x=>M.noErr (f x)) s.xs).bind fun ys=>mkL mu ys) M.fail) M.fail
noncomputable def boM(op:BoolOp)(x y:M PV):M PV:=x.bind fun v=>(zap v).bind fun b=>match op,b with
 | .And,false=>M.ret v
 | .Or,true=>M.ret v
 | _,_=>y
noncomputable def orM(x y:M PV):M PV:=boM .Or x y
noncomputable def andM(x y:M PV):M PV:=boM .And x y
noncomputable def notM(x:M PV):M PV:=x.bind fun a=>(zap a).bind fun b=>M.ret (.bool !b)
noncomputable def seqM:List (M PV)→M (List PV)
 | []=>M.ret []
 | x::r=>x.bind fun v=>(seqM r).bind fun vs=>M.ret (v::vs)
noncomputable def ifM{α:Type}(x:M PV)(a b:M α):M α:=x.bind fun v=>(zap v).bind fun c=>M.cond c a b
noncomputable def tup2{α:Type}(v:PV)(f:PV→PV→M α):M α:=tupL v fun vs=>zkx vs fun a vs=>zkx vs fun b vs=>nilL vs (f a b)
noncomputable def tup3{α:Type}(v:PV)(f:PV→PV→PV→M α):M α:=tupL v fun vs=>zkx vs fun a vs=>zkx vs fun b vs=>zkx vs fun c vs=>nilL vs (f a b c)
noncomputable def stAt(b:List Stmt)(i:Nat):Stmt:=match b[i]? with
 | some s=>s
 | Option.none=>.Pass p0
noncomputable def forT:Stmt→Expr
 | .For t _ _ _ _=>t
 | _=>.Name "" p0
noncomputable def forB:Stmt→List Stmt
 | .For _ _ b _ _=>b
 | .While _ b _ _=>b
 | _=>[]
theorem ret_bind{α β:Type}(a:α)(f:α→M β):(M.ret a).bind f=f a:=rfl
noncomputable def PP:Program:=PySem.Challenge.pw_uf010027_11
noncomputable def GG:Gl where
 names:=([("is_whole",.fn 83),("is_name",.fn 88),("is_within",.fn 95),("is_saying",.fn 102),("need_saying",.fn 109),("halves",.fn 116),("size_in",.fn 121),("gather_names",.fn 128),("names_in",.fn 135),("need_row",.fn 140),("begun",.fn 145),("parts",.fn 152),("same_claim",.fn 159),("without",.fn 166),("clashes",.fn 173),("stands_for",.fn 180),("stands",.fn 187),("ended",.fn 194),("next_claim",.fn 199),("setting_of",.fn 206)]:List (Str×GV))++([("worked",.fn 213),("shut",.fn 220),("need_tree",.fn 227),("of_clash",.fn 234),("of_tree",.fn 241),("middle",.fn 248),("joined",.fn 255),("neatly",.fn 262),("leads",.fn 269),("_law_cell_at",.fn 276),("_law_names",.fn 281),("_law_saying",.fn 288),("_law_met",.fn 293),("_law_true",.fn 300),("_law_is_name",.fn 305),("_law_is_saying",.fn 310),("_law_settings",.fn 317),("_law_is_neat",.fn 324),("_law_is_neat_whole",.fn 331),("_law_pair",.fn 338)]:List (Str×GV))++([("_law_is_between",.fn 343),("_law_right",.fn 348),("law",.fn 355),("SayError",.cls 24),("BadSaying",.cls 37),("BadRow",.cls 49),("BadTree",.cls 61),("BadCut",.cls 73),("LETTERS",.val (.str "abcdefghijklmnopqrstuvwxyz")),("TOLD",.val (.tup [.str "yes",.str "no",.str "not",.str "and",.str "or"])),("MOST_LETTERS",.val (.int 6)),("MOST_DEEP",.val (.int 100)),("MOST_SAYINGS",.val (.int 6)),("MOST_SIZE",.val (.int 60)),("MOST_TOGETHER",.val (.int 59))]:List (Str×GV))
 fns:=[(83,fnAt PP 11),(88,fnAt PP 12),(95,fnAt PP 13),(102,fnAt PP 14),(109,fnAt PP 15),(116,fnAt PP 16),(121,fnAt PP 17),(128,fnAt PP 18),(135,fnAt PP 19),(140,fnAt PP 23),(145,fnAt PP 24),(152,fnAt PP 25),(159,fnAt PP 27),(166,fnAt PP 28),(173,fnAt PP 29),(180,fnAt PP 30),(187,fnAt PP 31),(194,fnAt PP 32),(199,fnAt PP 33),(206,fnAt PP 34),(213,fnAt PP 35),(220,fnAt PP 36),(227,fnAt PP 38),(234,fnAt PP 39),(241,fnAt PP 40),(248,fnAt PP 41),(255,fnAt PP 44),(262,fnAt PP 45),(269,fnAt PP 46),(276,fnAt PP 48),(281,fnAt PP 49),(288,fnAt PP 50),(293,fnAt PP 51),(300,fnAt PP 52),(305,fnAt PP 53),(310,fnAt PP 54),(317,fnAt PP 55),(324,fnAt PP 56),(331,fnAt PP 57),(338,fnAt PP 58),(343,fnAt PP 59),(348,fnAt PP 60),(355,fnAt PP 61)]
 sub:=[(24,24),(37,37),(49,49),(61,61),(73,73),(37,24),(49,24),(61,24),(73,24)]
 clss:=[24,37,49,61,73]
 mu:=[(298,20)]
 fz:=[(304,21)]
noncomputable def ALL:List Addr:=[83,88,95,102,109,116,121,128,135,140,145,152,159,166,173,180,187,194,199,206,213,220,227,234,241,248,255,262,269,276,281,288,293,300,305,310,317,324,331,338,343,348,355]
noncomputable def AA:Adr:={ is_whole:=83,is_name:=88,is_within:=95,is_saying:=102,need_saying:=109,halves:=116,size_in:=121,gather_names:=128,names_in:=135,need_row:=140,begun:=145,parts:=152,same_claim:=159,without:=166,clashes:=173,stands_for:=180,stands:=187,ended:=194,next_claim:=199,setting_of:=206,worked:=213,shut:=220,need_tree:=227,of_clash:=234,of_tree:=241,middle:=248,joined:=255,neatly:=262,leads:=269,l_cell_at:=276,l_names:=281,l_saying:=288,l_met:=293,l_true:=300,l_is_name:=305,l_is_saying:=310,l_settings:=317,l_is_neat:=324,l_is_neat_whole:=331,l_pair:=338,l_is_between:=343,l_right:=348,law:=355,SayError:=24,BadSaying:=37,BadRow:=49,BadTree:=61,BadCut:=73 }
noncomputable def FN(k:Nat):FnD:=fnAt PP k
noncomputable def XX(C:zad)(md:Md)(n k:Nat):Stmt→LL→(LL→M PV)→M PV:=exL { G:=GG,call:=C,md:=md } (fun m=>m) n (FN k).scope
noncomputable def XK(C:zad)(md:Md)(n k i:Nat):LL→M PV:=fun l=>exsL (XX C md n k) (List.drop i (FN k).body) l (fun _=>M.ret PV.none)
noncomputable def zmi(A:Adr)(G:Gl)(C:zad)(md:Md)(v1:PV):M PV:=
 (ifM (orM (notM (isM G (.bi .str) v1)) (orM (notM ((biM md false "len" [v1]).bind fun v2=>((zac .LtE (.int 1) v2).bind fun v3=>(zap v3).bind fun v4=>M.cond v4 (zac .LtE v2 (.int 6)) (M.ret v3)))) (zac .In v1 (.tup [.str "yes",.str "no",.str "not",.str "and",.str "or"]))))
 (M.ret (.bool false))
 ((seqM [(zaU md false (zat v1) fun v5=>(zac .In v5 (.str "abcdefghijklmnopqrstuvwxyz")).bind fun v6=>M.ret (some v6))]).bind fun v7=>(biM md false "all" v7)))
theorem zhG(C:zad)(md:Md)(v1:PV):zak GG C md AA.is_name [v1]=zmi AA GG C md v1:=by kernel_rfl
noncomputable def ziC(A:Adr)(G:Gl)(C:zad)(md:Md)(v1:PV):M PV:=
 (C md A.is_within [v1,(.int 100)])
theorem ze0(C:zad)(md:Md)(v1:PV):zak GG C md AA.is_saying [v1]=ziC AA GG C md v1:=by kernel_rfl
noncomputable def zgo(A:Adr)(G:Gl)(C:zad)(md:Md)(v1:PV):M PV:=
 (ifM (notM (C md A.is_saying [v1]))
 M.fail
 (M.ret PV.none))
theorem zgn(C:zad)(md:Md)(v1:PV):zak GG C md AA.need_saying [v1]=zgo AA GG C md v1:=by kernel_rfl
noncomputable def zlb(A:Adr)(G:Gl)(C:zad)(md:Md)(v1:PV):M PV:=
 (((seqM [(zaU md false ((C md A.halves [v1]).bind zat) fun v2=>(C md.inn A.size_in [v2]).bind fun v3=>M.ret (some v3))]).bind fun v4=>(biM md false "sum" v4)).bind fun v5=>(opM false .Add (.int 1) v5))
theorem zla(C:zad)(md:Md)(v1:PV):zak GG C md AA.size_in [v1]=zlb AA GG C md v1:=by kernel_rfl
noncomputable def zcA(A:Adr)(G:Gl)(C:zad)(md:Md)(kk:PV→PV→Option PV→M PV)(v1:PV)(v2:PV)(v3:Option PV)(v4:PV):M PV:=
 ((C md A.gather_names [v4,v2]).bind fun _=>
 (kk v1 v2 (some v4)))
noncomputable def zbF(A:Adr)(G:Gl)(C:zad)(md:Md)  (v1:PV) (v2:PV) (v3:Option PV):M PV:=
 (M.ret PV.none)
noncomputable def zax(A:Adr)(G:Gl)(C:zad)(md:Md)(chk:M Unit):List PV→PV→PV→Option PV→M PV
 | [],v1,v2,v3=>chk.bind fun _=>zbF A G C md v1 v2 v3
 | x::xs,v1,v2,v3=>chk.bind fun _=>zcA A G C md (zax A G C md chk xs) v1 v2 v3 x
noncomputable def zcW(A:Adr)(G:Gl)(C:zad)(md:Md)(F1:M Unit→List PV→PV→PV→Option PV→M PV)(v1 v2:PV):M PV:=
 (ifM ((zaf v1 (.int 0)).bind fun v3=>(zac .Eq v3 (.str "name")))
 ((zaf v1 (.int 1)).bind fun v4=>((setAt v2 v4 (.bool true)).bind fun _=>
 (M.cond (md.lp&&true) (((C md A.halves [v1]).bind zat).bind fun v5=>F1 (chkW v5.watch) v5.xs v1 v2 Option.none) M.fail)))
 (M.cond (md.lp&&true) (((C md A.halves [v1]).bind zat).bind fun v6=>F1 (chkW v6.watch) v6.xs v1 v2 Option.none) M.fail))
noncomputable def zfu(A:Adr)(G:Gl)(C:zad)(md:Md)(v1 v2:PV):M PV:=zcW A G C md (zax A G C md) v1 v2
noncomputable def zaC(v1 v2 v3:Option PV):LL:=[("saying",v1),("found",v2),("part",v3)]
theorem zcL(C:zad)(md:Md)(chk:M Unit):∀(xs:List PV)(v1:PV)(v2:PV)(v3:Option PV),zam chk (FN 18).scope (forT (stAt (FN 18).body 1)) (exsL (XX C md 59 18) (forB (stAt (FN 18).body 1))) xs (zaC (some v1) (some v2) v3) (XK C md 60 18 2)=zax AA GG C md  chk xs v1 v2 v3:=by
 intro xs
 induction xs with
 | nil=>
  intro v1 v2 v3
  have e:(XK C md 60 18 2) (zaC (some v1) (some v2) v3)=zbF AA GG C md  v1 v2 v3:=by kernel_rfl
  show (chk.bind fun _=>(XK C md 60 18 2) (zaC (some v1) (some v2) v3))=chk.bind fun _=>zbF AA GG C md  v1 v2 v3
  rw [e]
 | cons x xs ih=>
  intro v1 v2 v3
  have k:(fun v1' v2' v3'=>zam chk (FN 18).scope (forT (stAt (FN 18).body 1)) (exsL (XX C md 59 18) (forB (stAt (FN 18).body 1))) xs (zaC (some v1') (some v2') v3') (XK C md 60 18 2))=zax AA GG C md  chk xs:=by funext s0 s1 s2;exact ih s0 s1 s2
  have e:zam chk (FN 18).scope (forT (stAt (FN 18).body 1)) (exsL (XX C md 59 18) (forB (stAt (FN 18).body 1))) (x::xs) (zaC (some v1) (some v2) v3) (XK C md 60 18 2)=chk.bind fun _=>zcA AA GG C md (fun v1' v2' v3'=>zam chk (FN 18).scope (forT (stAt (FN 18).body 1)) (exsL (XX C md 59 18) (forB (stAt (FN 18).body 1))) xs (zaC (some v1') (some v2') v3') (XK C md 60 18 2)) v1 v2 v3 x:=by kernel_rfl
  rw [k] at e
  exact e
theorem zcV(C:zad)(md:Md)(v1 v2:PV):zak GG C md AA.gather_names [v1,v2]=zfu AA GG C md v1 v2:=by
 have r1:(fun chk' xs' v1' v2' v3'=>zam chk' (FN 18).scope (forT (stAt (FN 18).body 1)) (exsL (XX C md 59 18) (forB (stAt (FN 18).body 1))) xs' (zaC (some v1') (some v2') v3') (XK C md 60 18 2))=zax AA GG C md:=by funext s0 s1 s2 s3 s4;exact zcL C md s0 s1 s2 s3 s4
 have e:zak GG C md AA.gather_names [v1,v2]=zcW AA GG C md (fun chk' xs' v1' v2' v3'=>zam chk' (FN 18).scope (forT (stAt (FN 18).body 1)) (exsL (XX C md 59 18) (forB (stAt (FN 18).body 1))) xs' (zaC (some v1') (some v2') v3') (XK C md 60 18 2)) v1 v2:=by kernel_rfl
 rw [r1] at e
 exact e
noncomputable def zeW(A:Adr)(G:Gl)(C:zad)(md:Md)(kk:PV→PV→Option PV→M PV)(v1:PV)(v2:PV)(v3:Option PV)(v4:PV):M PV:=
 ((C md A.gather_names [v4,v2]).bind fun _=>
 (kk v1 v2 (some v4)))
noncomputable def zc0(A:Adr)(G:Gl)(C:zad)(md:Md)  (v1:PV) (v2:PV) (v3:Option PV):M PV:=
 (biM md false "sorted" [v2])
noncomputable def zbj(A:Adr)(G:Gl)(C:zad)(md:Md)(chk:M Unit):List PV→PV→PV→Option PV→M PV
 | [],v1,v2,v3=>chk.bind fun _=>zc0 A G C md v1 v2 v3
 | x::xs,v1,v2,v3=>chk.bind fun _=>zeW A G C md (zbj A G C md chk xs) v1 v2 v3 x
noncomputable def zdO(A:Adr)(G:Gl)(C:zad)(md:Md)(F1:M Unit→List PV→PV→PV→Option PV→M PV)(v1:PV):M PV:=
 ((cnew (.dict [])).bind fun v2=>
 (M.cond (md.lp&&true) ((zat v1).bind fun v3=>F1 (chkW v3.watch) v3.xs v1 v2 Option.none) M.fail))
noncomputable def zfJ(A:Adr)(G:Gl)(C:zad)(md:Md)(v1:PV):M PV:=zdO A G C md (zbj A G C md) v1
noncomputable def za8(v1 v2 v3:Option PV):LL:=[("sayings",v1),("found",v2),("saying",v3)]
theorem zer(C:zad)(md:Md)(chk:M Unit):∀(xs:List PV)(v1:PV)(v2:PV)(v3:Option PV),zam chk (FN 19).scope (forT (stAt (FN 19).body 1)) (exsL (XX C md 59 19) (forB (stAt (FN 19).body 1))) xs (za8 (some v1) (some v2) v3) (XK C md 60 19 2)=zbj AA GG C md  chk xs v1 v2 v3:=by
 intro xs
 induction xs with
 | nil=>
  intro v1 v2 v3
  have e:(XK C md 60 19 2) (za8 (some v1) (some v2) v3)=zc0 AA GG C md  v1 v2 v3:=by kernel_rfl
  show (chk.bind fun _=>(XK C md 60 19 2) (za8 (some v1) (some v2) v3))=chk.bind fun _=>zc0 AA GG C md  v1 v2 v3
  rw [e]
 | cons x xs ih=>
  intro v1 v2 v3
  have k:(fun v1' v2' v3'=>zam chk (FN 19).scope (forT (stAt (FN 19).body 1)) (exsL (XX C md 59 19) (forB (stAt (FN 19).body 1))) xs (za8 (some v1') (some v2') v3') (XK C md 60 19 2))=zbj AA GG C md  chk xs:=by funext s0 s1 s2;exact ih s0 s1 s2
  have e:zam chk (FN 19).scope (forT (stAt (FN 19).body 1)) (exsL (XX C md 59 19) (forB (stAt (FN 19).body 1))) (x::xs) (za8 (some v1) (some v2) v3) (XK C md 60 19 2)=chk.bind fun _=>zeW AA GG C md (fun v1' v2' v3'=>zam chk (FN 19).scope (forT (stAt (FN 19).body 1)) (exsL (XX C md 59 19) (forB (stAt (FN 19).body 1))) xs (za8 (some v1') (some v2') v3') (XK C md 60 19 2)) v1 v2 v3 x:=by kernel_rfl
  rw [k] at e
  exact e
theorem zkl(C:zad)(md:Md)(v1:PV):zak GG C md AA.names_in [v1]=zfJ AA GG C md v1:=by
 have r1:(fun chk' xs' v1' v2' v3'=>zam chk' (FN 19).scope (forT (stAt (FN 19).body 1)) (exsL (XX C md 59 19) (forB (stAt (FN 19).body 1))) xs' (za8 (some v1') (some v2') v3') (XK C md 60 19 2))=zbj AA GG C md:=by funext s0 s1 s2 s3 s4;exact zer C md s0 s1 s2 s3 s4
 have e:zak GG C md AA.names_in [v1]=zdO AA GG C md (fun chk' xs' v1' v2' v3'=>zam chk' (FN 19).scope (forT (stAt (FN 19).body 1)) (exsL (XX C md 59 19) (forB (stAt (FN 19).body 1))) xs' (za8 (some v1') (some v2') v3') (XK C md 60 19 2)) v1:=by kernel_rfl
 rw [r1] at e
 exact e
noncomputable def zkk(A:Adr)(G:Gl)(C:zad)(md:Md)(v1:PV):M PV:=
 (ifM (orM (notM (isM G (.bi .list) v1)) (notM ((biM md false "len" [v1]).bind fun v2=>((zac .LtE (.int 1) v2).bind fun v3=>(zap v3).bind fun v4=>M.cond v4 (zac .LtE v2 (.int 6)) (M.ret v3)))))
 M.fail
 (ifM (notM ((seqM [(zaU md false (zat v1) fun v5=>(C md.inn A.is_saying [v5]).bind fun v6=>M.ret (some v6))]).bind fun v7=>(biM md false "all" v7)))
 M.fail
 (ifM (((seqM [(zaU md false (zat v1) fun v8=>(C md.inn A.size_in [v8]).bind fun v9=>M.ret (some v9))]).bind fun v10=>(biM md false "sum" v10)).bind fun v11=>(zac .Gt v11 (.int 60)))
 M.fail
 (M.ret PV.none))))
theorem zkj(C:zad)(md:Md)(v1:PV):zak GG C md AA.need_row [v1]=zkk AA GG C md v1:=by kernel_rfl
noncomputable def zpS(A:Adr)(G:Gl)(C:zad)(md:Md)(v1:PV):M PV:=
 ((C md A.need_row [v1]).bind fun _=>
 (zaU md false (zei [v1]) fun v2=>tup2 v2 fun v3 v4=>M.ret (some (.tup [v3,(.bool true),v4]))))
theorem zpR(C:zad)(md:Md)(v1:PV):zak GG C md AA.begun [v1]=zpS AA GG C md v1:=by kernel_rfl
noncomputable def zhm(A:Adr)(G:Gl)(C:zad)(md:Md)(v1 v2:PV):M PV:=
 (ifM (orM (notM (isM G (.bi .tuple) v1)) (orM ((biM md false "len" [v1]).bind fun v3=>(zac .NotEq v3 (.int 3))) (orM (notM ((seqM [(zaf v1 (.int 0))]).bind fun v4=>(C md A.is_whole v4))) (notM ((zaf v1 (.int 1)).bind fun v5=>(isM G (.bi .bool) v5))))))
 (M.ret (.bool false))
 (zac .Eq v1 v2))
theorem zhl(C:zad)(md:Md)(v1 v2:PV):zak GG C md AA.same_claim [v1,v2]=zhm AA GG C md v1 v2:=by kernel_rfl
noncomputable def zfy(A:Adr)(G:Gl)(C:zad)(md:Md)(kk:PV→PV→Option PV→Option PV→M PV)(v1:PV)(v2:PV)(v3:Option PV)(v4:Option PV)(v5:PV):M PV:=
 (tup2 v5 fun v6 v7=>
 (ifM (C md A.same_claim [v2,v7])
 (((zde (M.ret v6)).bind fun v8=>(cutM false v1 Option.none v8)).bind fun v9=>(((zde (opM false .Add v6 (.int 1))).bind fun v10=>(cutM false v1 v10 Option.none)).bind fun v11=>(opM false .Add v9 v11)))
 (kk v1 v2 (some v6) (some v7))))
noncomputable def zdG(A:Adr)(G:Gl)(C:zad)(md:Md)  (v1:PV) (v2:PV) (v3:Option PV) (v4:Option PV):M PV:=
 (M.ret PV.none)
noncomputable def zbh(A:Adr)(G:Gl)(C:zad)(md:Md)(chk:M Unit):List PV→PV→PV→Option PV→Option PV→M PV
 | [],v1,v2,v3,v4=>chk.bind fun _=>zdG A G C md v1 v2 v3 v4
 | x::xs,v1,v2,v3,v4=>chk.bind fun _=>zfy A G C md (zbh A G C md chk xs) v1 v2 v3 v4 x
noncomputable def zeI(A:Adr)(G:Gl)(C:zad)(md:Md)(F1:M Unit→List PV→PV→PV→Option PV→Option PV→M PV)(v1 v2:PV):M PV:=
 (M.cond (md.lp&&true) ((zei [v1]).bind fun v3=>F1 (chkW v3.watch) v3.xs v1 v2 Option.none Option.none) M.fail)
noncomputable def zg1(A:Adr)(G:Gl)(C:zad)(md:Md)(v1 v2:PV):M PV:=zeI A G C md (zbh A G C md) v1 v2
noncomputable def zbo(v1 v2 v3 v4:Option PV):LL:=[("claims",v1),("claim",v2),("place",v3),("other",v4)]
theorem zeH(C:zad)(md:Md)(chk:M Unit):∀(xs:List PV)(v1:PV)(v2:PV)(v3:Option PV)(v4:Option PV),zam chk (FN 28).scope (forT (stAt (FN 28).body 0)) (exsL (XX C md 59 28) (forB (stAt (FN 28).body 0))) xs (zbo (some v1) (some v2) v3 v4) (XK C md 60 28 1)=zbh AA GG C md  chk xs v1 v2 v3 v4:=by
 intro xs
 induction xs with
 | nil=>
  intro v1 v2 v3 v4
  have e:(XK C md 60 28 1) (zbo (some v1) (some v2) v3 v4)=zdG AA GG C md  v1 v2 v3 v4:=by kernel_rfl
  show (chk.bind fun _=>(XK C md 60 28 1) (zbo (some v1) (some v2) v3 v4))=chk.bind fun _=>zdG AA GG C md  v1 v2 v3 v4
  rw [e]
 | cons x xs ih=>
  intro v1 v2 v3 v4
  have k:(fun v1' v2' v3' v4'=>zam chk (FN 28).scope (forT (stAt (FN 28).body 0)) (exsL (XX C md 59 28) (forB (stAt (FN 28).body 0))) xs (zbo (some v1') (some v2') v3' v4') (XK C md 60 28 1))=zbh AA GG C md  chk xs:=by funext s0 s1 s2 s3;exact ih s0 s1 s2 s3
  have e:zam chk (FN 28).scope (forT (stAt (FN 28).body 0)) (exsL (XX C md 59 28) (forB (stAt (FN 28).body 0))) (x::xs) (zbo (some v1) (some v2) v3 v4) (XK C md 60 28 1)=chk.bind fun _=>zfy AA GG C md (fun v1' v2' v3' v4'=>zam chk (FN 28).scope (forT (stAt (FN 28).body 0)) (exsL (XX C md 59 28) (forB (stAt (FN 28).body 0))) xs (zbo (some v1') (some v2') v3' v4') (XK C md 60 28 1)) v1 v2 v3 v4 x:=by kernel_rfl
  rw [k] at e
  exact e
theorem zkN(C:zad)(md:Md)(v1 v2:PV):zak GG C md AA.without [v1,v2]=zg1 AA GG C md v1 v2:=by
 have r1:(fun chk' xs' v1' v2' v3' v4'=>zam chk' (FN 28).scope (forT (stAt (FN 28).body 0)) (exsL (XX C md 59 28) (forB (stAt (FN 28).body 0))) xs' (zbo (some v1') (some v2') v3' v4') (XK C md 60 28 1))=zbh AA GG C md:=by funext s0 s1 s2 s3 s4 s5;exact zeH C md s0 s1 s2 s3 s4 s5
 have e:zak GG C md AA.without [v1,v2]=zeI AA GG C md (fun chk' xs' v1' v2' v3' v4'=>zam chk' (FN 28).scope (forT (stAt (FN 28).body 0)) (exsL (XX C md 59 28) (forB (stAt (FN 28).body 0))) xs' (zbo (some v1') (some v2') v3' v4') (XK C md 60 28 1)) v1 v2:=by kernel_rfl
 rw [r1] at e
 exact e
noncomputable def zmG(A:Adr)(G:Gl)(C:zad)(md:Md)(v1 v2:PV):M PV:=
 (andM (((zaf v1 (.int 2)).bind fun v3=>(zaf v3 (.int 0))).bind fun v4=>(zac .Eq v4 (.str "name"))) (andM (zaf v1 (.int 1)) (andM (notM (zaf v2 (.int 1))) ((zaf v1 (.int 2)).bind fun v5=>((zaf v2 (.int 2)).bind fun v6=>(zac .Eq v5 v6))))))
theorem zmF(C:zad)(md:Md)(v1 v2:PV):zak GG C md AA.clashes [v1,v2]=zmG AA GG C md v1 v2:=by kernel_rfl
noncomputable def zhe(A:Adr)(G:Gl)(C:zad)(md:Md)(v1 v2:PV):M PV:=
 (ifM (orM (notM (isM G (.bi .tuple) v2)) (orM ((biM md false "len" [v2]).bind fun v3=>(zac .Lt v3 (.int 2))) (notM ((zaf v2 (.int 0)).bind fun v4=>(isM G (.bi .str) v4)))))
 (M.ret (.bool false))
 (((seqM [(M.ret v1),(zaf v2 (.int 1))]).bind fun v5=>(C md A.without v5)).bind fun v6=>
 (ifM (zac .Is v6 PV.none)
 (M.ret (.bool false))
 (M.cond (md.lp&&true) (((seqM [(zaf v2 (.int 1))]).bind fun v7=>(C md A.parts v7)).bind fun v8=>(tup2 v8 fun v9 v10=>
 (ifM ((zaf v2 (.int 0)).bind fun v11=>(zac .Eq v11 (.str "shut")))
 (andM ((biM md false "len" [v2]).bind fun v12=>(zac .Eq v12 (.int 2))) (zac .Eq v9 (.str "shut")))
 (ifM ((zaf v2 (.int 0)).bind fun v13=>(zac .Eq v13 (.str "clash")))
 (andM ((biM md false "len" [v2]).bind fun v14=>(zac .Eq v14 (.int 3))) (andM (((seqM [(M.ret v1),(zaf v2 (.int 2))]).bind fun v15=>(C md A.without v15)).bind fun v16=>(zac .IsNot v16 PV.none)) ((seqM [(zaf v2 (.int 1)),(zaf v2 (.int 2))]).bind fun v17=>(C md A.clashes v17))))
 (ifM ((zaf v2 (.int 0)).bind fun v18=>(zac .Eq v18 (.str "apart")))
 (andM ((biM md false "len" [v2]).bind fun v19=>(zac .Eq v19 (.int 3))) (andM (zac .Eq v9 (.str "apart")) ((seqM [(opM false .Add v6 v10),(zaf v2 (.int 2))]).bind fun v20=>(C md A.stands_for v20))))
 (ifM (orM ((zaf v2 (.int 0)).bind fun v21=>(zac .NotEq v21 (.str "fork"))) (orM ((biM md false "len" [v2]).bind fun v22=>(zac .NotEq v22 (.int 4))) (zac .NotEq v9 (.str "fork"))))
 (M.ret (.bool false))
 (andM ((seqM [((cutM false v10 Option.none (some 1)).bind fun v23=>(opM false .Add v6 v23)),(zaf v2 (.int 2))]).bind fun v24=>(C md A.stands_for v24)) ((seqM [((cutM false v10 (some 1) Option.none).bind fun v25=>(opM false .Add v6 v25)),(zaf v2 (.int 3))]).bind fun v26=>(C md A.stands_for v26))))))))) M.fail))))
theorem zbI(C:zad)(md:Md)(v1 v2:PV):zak GG C md AA.stands_for [v1,v2]=zhe AA GG C md v1 v2:=by kernel_rfl
noncomputable def zm3(A:Adr)(G:Gl)(C:zad)(md:Md)(v1 v2:PV):M PV:=
 ((seqM [(C md A.begun [v1]),(M.ret v2)]).bind fun v3=>(C md A.stands_for v3))
theorem zm2(C:zad)(md:Md)(v1 v2:PV):zak GG C md AA.stands [v1,v2]=zm3 AA GG C md v1 v2:=by kernel_rfl
noncomputable def zju(A:Adr)(G:Gl)(C:zad)(md:Md)(kk:PV→PV→Option PV→M PV)(v1:PV)(v2:PV)(v3:Option PV)(v4:PV):M PV:=
 (ifM (C md A.clashes [v2,v4])
 (M.ret (.tup [(.str "clash"),v2,v4]))
 (kk v1 v2 (some v4)))
noncomputable def zgH(A:Adr)(G:Gl)(C:zad)(md:Md)  (kk:PV→Option PV→Option PV→M PV) (v1:PV) (v2:PV) (v3:Option PV):M PV:=
 (kk v1 (some v2) v3)
noncomputable def zbb(A:Adr)(G:Gl)(C:zad)(md:Md)(kk:PV→Option PV→Option PV→M PV)(chk:M Unit):List PV→PV→PV→Option PV→M PV
 | [],v1,v2,v3=>chk.bind fun _=>zgH A G C md kk v1 v2 v3
 | x::xs,v1,v2,v3=>chk.bind fun _=>zju A G C md (zbb A G C md kk chk xs) v1 v2 v3 x
noncomputable def zgG(A:Adr)(G:Gl)(C:zad)(md:Md)(F2:M Unit→List PV→PV→PV→Option PV→M PV)(kk:PV→Option PV→Option PV→M PV)(v1:PV)(v2:Option PV)(v3:Option PV)(v4:PV):M PV:=
 (ifM (((C md A.parts [v4]).bind fun v5=>(zaf v5 (.int 0))).bind fun v6=>(zac .Eq v6 (.str "shut")))
 (M.ret (.tup [(.str "shut"),v4]))
 (M.cond (md.lp&&true) ((zat v1).bind fun v7=>F2 (chkW v7.watch) v7.xs v1 v4 v3) M.fail))
noncomputable def zgI(A:Adr)(G:Gl)(C:zad)(md:Md)  (v1:PV) (v2:Option PV) (v3:Option PV):M PV:=
 (M.ret PV.none)
noncomputable def zaS(A:Adr)(G:Gl)(C:zad)(md:Md)(chk:M Unit):List PV→PV→Option PV→Option PV→M PV
 | [],v1,v2,v3=>chk.bind fun _=>zgI A G C md v1 v2 v3
 | x::xs,v1,v2,v3=>chk.bind fun _=>zgG A G C md (zbb A G C md (zaS A G C md chk xs)) (zaS A G C md chk xs) v1 v2 v3 x
noncomputable def zmu(A:Adr)(G:Gl)(C:zad)(md:Md)(F1:M Unit→List PV→PV→Option PV→Option PV→M PV)(v1:PV):M PV:=
 (M.cond (md.lp&&true) ((zat v1).bind fun v2=>F1 (chkW v2.watch) v2.xs v1 Option.none Option.none) M.fail)
noncomputable def zpB(A:Adr)(G:Gl)(C:zad)(md:Md)(v1:PV):M PV:=zmu A G C md (zaS A G C md) v1
noncomputable def zaO(v1 v2 v3:Option PV):LL:=[("claims",v1),("claim",v2),("other",v3)]
theorem zgE(C:zad)(md:Md)(kl:LL→M PV)(chk:M Unit):∀(xs:List PV)(v1:PV)(v2:PV)(v3:Option PV),zam chk (FN 32).scope (forT (stAt (forB (stAt (FN 32).body 0)) 1)) (exsL (XX C md 58 32) (forB (stAt (forB (stAt (FN 32).body 0)) 1))) xs (zaO (some v1) (some v2) v3) (fun l=>exsL (XX C md 59 32) (List.drop 2 (forB (stAt (FN 32).body 0))) l kl)=zbb AA GG C md (fun v1' v2' v3'=>kl (zaO (some v1') v2' v3')) chk xs v1 v2 v3:=by
 intro xs
 induction xs with
 | nil=>
  intro v1 v2 v3
  have e:(fun l=>exsL (XX C md 59 32) (List.drop 2 (forB (stAt (FN 32).body 0))) l kl) (zaO (some v1) (some v2) v3)=zgH AA GG C md (fun v1' v2' v3'=>kl (zaO (some v1') v2' v3')) v1 v2 v3:=by kernel_rfl
  show (chk.bind fun _=>(fun l=>exsL (XX C md 59 32) (List.drop 2 (forB (stAt (FN 32).body 0))) l kl) (zaO (some v1) (some v2) v3))=chk.bind fun _=>zgH AA GG C md (fun v1' v2' v3'=>kl (zaO (some v1') v2' v3')) v1 v2 v3
  rw [e]
 | cons x xs ih=>
  intro v1 v2 v3
  have k:(fun v1' v2' v3'=>zam chk (FN 32).scope (forT (stAt (forB (stAt (FN 32).body 0)) 1)) (exsL (XX C md 58 32) (forB (stAt (forB (stAt (FN 32).body 0)) 1))) xs (zaO (some v1') (some v2') v3') (fun l=>exsL (XX C md 59 32) (List.drop 2 (forB (stAt (FN 32).body 0))) l kl))=zbb AA GG C md (fun v1' v2' v3'=>kl (zaO (some v1') v2' v3')) chk xs:=by funext s0 s1 s2;exact ih s0 s1 s2
  have e:zam chk (FN 32).scope (forT (stAt (forB (stAt (FN 32).body 0)) 1)) (exsL (XX C md 58 32) (forB (stAt (forB (stAt (FN 32).body 0)) 1))) (x::xs) (zaO (some v1) (some v2) v3) (fun l=>exsL (XX C md 59 32) (List.drop 2 (forB (stAt (FN 32).body 0))) l kl)=chk.bind fun _=>zju AA GG C md (fun v1' v2' v3'=>zam chk (FN 32).scope (forT (stAt (forB (stAt (FN 32).body 0)) 1)) (exsL (XX C md 58 32) (forB (stAt (forB (stAt (FN 32).body 0)) 1))) xs (zaO (some v1') (some v2') v3') (fun l=>exsL (XX C md 59 32) (List.drop 2 (forB (stAt (FN 32).body 0))) l kl)) v1 v2 v3 x:=by kernel_rfl
  rw [k] at e
  exact e
theorem zgF(C:zad)(md:Md)(chk:M Unit):∀(xs:List PV)(v1:PV)(v2:Option PV)(v3:Option PV),zam chk (FN 32).scope (forT (stAt (FN 32).body 0)) (exsL (XX C md 59 32) (forB (stAt (FN 32).body 0))) xs (zaO (some v1) v2 v3) (XK C md 60 32 1)=zaS AA GG C md  chk xs v1 v2 v3:=by
 intro xs
 induction xs with
 | nil=>
  intro v1 v2 v3
  have e:(XK C md 60 32 1) (zaO (some v1) v2 v3)=zgI AA GG C md  v1 v2 v3:=by kernel_rfl
  show (chk.bind fun _=>(XK C md 60 32 1) (zaO (some v1) v2 v3))=chk.bind fun _=>zgI AA GG C md  v1 v2 v3
  rw [e]
 | cons x xs ih=>
  intro v1 v2 v3
  have k:(fun v1' v2' v3'=>zam chk (FN 32).scope (forT (stAt (FN 32).body 0)) (exsL (XX C md 59 32) (forB (stAt (FN 32).body 0))) xs (zaO (some v1') v2' v3') (XK C md 60 32 1))=zaS AA GG C md  chk xs:=by funext s0 s1 s2;exact ih s0 s1 s2
  have q2:(fun chk' xs' v1' v2' v3'=>zam chk' (FN 32).scope (forT (stAt (forB (stAt (FN 32).body 0)) 1)) (exsL (XX C md 58 32) (forB (stAt (forB (stAt (FN 32).body 0)) 1))) xs' (zaO (some v1') (some v2') v3') (fun l=>exsL (XX C md 59 32) (List.drop 2 (forB (stAt (FN 32).body 0))) l (fun l=>zam chk (FN 32).scope (forT (stAt (FN 32).body 0)) (exsL (XX C md 59 32) (forB (stAt (FN 32).body 0))) xs l (XK C md 60 32 1))))=zbb AA GG C md (zaS AA GG C md  chk xs):=by rw [← k];funext s0 s1 s2 s3 s4;exact zgE C md (fun l=>zam chk (FN 32).scope (forT (stAt (FN 32).body 0)) (exsL (XX C md 59 32) (forB (stAt (FN 32).body 0))) xs l (XK C md 60 32 1)) s0 s1 s2 s3 s4
  have e:zam chk (FN 32).scope (forT (stAt (FN 32).body 0)) (exsL (XX C md 59 32) (forB (stAt (FN 32).body 0))) (x::xs) (zaO (some v1) v2 v3) (XK C md 60 32 1)=chk.bind fun _=>zgG AA GG C md (fun chk' xs' v1' v2' v3'=>zam chk' (FN 32).scope (forT (stAt (forB (stAt (FN 32).body 0)) 1)) (exsL (XX C md 58 32) (forB (stAt (forB (stAt (FN 32).body 0)) 1))) xs' (zaO (some v1') (some v2') v3') (fun l=>exsL (XX C md 59 32) (List.drop 2 (forB (stAt (FN 32).body 0))) l (fun l=>zam chk (FN 32).scope (forT (stAt (FN 32).body 0)) (exsL (XX C md 59 32) (forB (stAt (FN 32).body 0))) xs l (XK C md 60 32 1)))) (fun v1' v2' v3'=>zam chk (FN 32).scope (forT (stAt (FN 32).body 0)) (exsL (XX C md 59 32) (forB (stAt (FN 32).body 0))) xs (zaO (some v1') v2' v3') (XK C md 60 32 1)) v1 v2 v3 x:=by kernel_rfl
  rw [k,q2] at e
  exact e
theorem zpA(C:zad)(md:Md)(v1:PV):zak GG C md AA.ended [v1]=zpB AA GG C md v1:=by
 have r1:(fun chk' xs' v1' v2' v3'=>zam chk' (FN 32).scope (forT (stAt (FN 32).body 0)) (exsL (XX C md 59 32) (forB (stAt (FN 32).body 0))) xs' (zaO (some v1') v2' v3') (XK C md 60 32 1))=zaS AA GG C md:=by funext s0 s1 s2 s3 s4;exact zgF C md s0 s1 s2 s3 s4
 have e:zak GG C md AA.ended [v1]=zmu AA GG C md (fun chk' xs' v1' v2' v3'=>zam chk' (FN 32).scope (forT (stAt (FN 32).body 0)) (exsL (XX C md 59 32) (forB (stAt (FN 32).body 0))) xs' (zaO (some v1') v2' v3') (XK C md 60 32 1)) v1:=by kernel_rfl
 rw [r1] at e
 exact e
noncomputable def zbu(A:Adr)(G:Gl)(C:zad)(md:Md)(kk:PV→PV→PV→Option PV→Option PV→Option PV→Option PV→M PV)(v1:PV)(v2:PV)(v3:PV)(v4:Option PV)(v5:Option PV)(v6:Option PV)(v7:Option PV)(v8:PV):M PV:=
 (M.cond (md.lp&&true) ((C md A.parts [v8]).bind fun v9=>(tup2 v9 fun v10 v11=>
 (ifM (zac .Eq v10 (.str "apart"))
 (M.ret v8)
 (ifM (zac .Eq v10 (.str "fork"))
 (((seqM [(zaU md false (zat v11) fun v12=>(((seqM [(opM false .Add v1 (.lst [v12]))]).bind fun v13=>(C md.inn A.ended v13)).bind fun v14=>(zac .Is v14 PV.none)).bind fun v15=>(zap v15).bind fun v16=>M.cond v16 (M.ret (some v12)) (M.ret Option.none))]).bind fun v17=>(biM md false "len" v17)).bind fun v18=>
 (ifM (zac .Lt v18 v3)
 (kk v1 v8 v18 (some v8) (some v10) (some v11) (some v18))
 (kk v1 v2 v3 (some v8) (some v10) (some v11) (some v18))))
 (kk v1 v2 v3 (some v8) (some v10) (some v11) v7))))) M.fail)
noncomputable def zb6(A:Adr)(G:Gl)(C:zad)(md:Md)  (v1:PV) (v2:PV) (v3:PV) (v4:Option PV) (v5:Option PV) (v6:Option PV) (v7:Option PV):M PV:=
 (M.ret v2)
noncomputable def zaI(A:Adr)(G:Gl)(C:zad)(md:Md)(chk:M Unit):List PV→PV→PV→PV→Option PV→Option PV→Option PV→Option PV→M PV
 | [],v1,v2,v3,v4,v5,v6,v7=>chk.bind fun _=>zb6 A G C md v1 v2 v3 v4 v5 v6 v7
 | x::xs,v1,v2,v3,v4,v5,v6,v7=>chk.bind fun _=>zbu A G C md (zaI A G C md chk xs) v1 v2 v3 v4 v5 v6 v7 x
noncomputable def zcu(A:Adr)(G:Gl)(C:zad)(md:Md)(F1:M Unit→List PV→PV→PV→PV→Option PV→Option PV→Option PV→Option PV→M PV)(v1:PV):M PV:=
 (M.cond (md.lp&&true) ((zat v1).bind fun v2=>F1 (chkW v2.watch) v2.xs v1 PV.none (.int 3) Option.none Option.none Option.none Option.none) M.fail)
noncomputable def zed(A:Adr)(G:Gl)(C:zad)(md:Md)(v1:PV):M PV:=zcu A G C md (zaI A G C md) v1
noncomputable def zaQ(v1 v2 v3 v4 v5 v6 v7:Option PV):LL:=[("claims",v1),("best",v2),("least",v3),("claim",v4),("kind",v5),("some",v6),("ways",v7)]
theorem zdh(C:zad)(md:Md)(chk:M Unit):∀(xs:List PV)(v1:PV)(v2:PV)(v3:PV)(v4:Option PV)(v5:Option PV)(v6:Option PV)(v7:Option PV),zam chk (FN 33).scope (forT (stAt (FN 33).body 2)) (exsL (XX C md 59 33) (forB (stAt (FN 33).body 2))) xs (zaQ (some v1) (some v2) (some v3) v4 v5 v6 v7) (XK C md 60 33 3)=zaI AA GG C md  chk xs v1 v2 v3 v4 v5 v6 v7:=by
 intro xs
 induction xs with
 | nil=>
  intro v1 v2 v3 v4 v5 v6 v7
  have e:(XK C md 60 33 3) (zaQ (some v1) (some v2) (some v3) v4 v5 v6 v7)=zb6 AA GG C md  v1 v2 v3 v4 v5 v6 v7:=by kernel_rfl
  show (chk.bind fun _=>(XK C md 60 33 3) (zaQ (some v1) (some v2) (some v3) v4 v5 v6 v7))=chk.bind fun _=>zb6 AA GG C md  v1 v2 v3 v4 v5 v6 v7
  rw [e]
 | cons x xs ih=>
  intro v1 v2 v3 v4 v5 v6 v7
  have k:(fun v1' v2' v3' v4' v5' v6' v7'=>zam chk (FN 33).scope (forT (stAt (FN 33).body 2)) (exsL (XX C md 59 33) (forB (stAt (FN 33).body 2))) xs (zaQ (some v1') (some v2') (some v3') v4' v5' v6' v7') (XK C md 60 33 3))=zaI AA GG C md  chk xs:=by funext s0 s1 s2 s3 s4 s5 s6;exact ih s0 s1 s2 s3 s4 s5 s6
  have e:zam chk (FN 33).scope (forT (stAt (FN 33).body 2)) (exsL (XX C md 59 33) (forB (stAt (FN 33).body 2))) (x::xs) (zaQ (some v1) (some v2) (some v3) v4 v5 v6 v7) (XK C md 60 33 3)=chk.bind fun _=>zbu AA GG C md (fun v1' v2' v3' v4' v5' v6' v7'=>zam chk (FN 33).scope (forT (stAt (FN 33).body 2)) (exsL (XX C md 59 33) (forB (stAt (FN 33).body 2))) xs (zaQ (some v1') (some v2') (some v3') v4' v5' v6' v7') (XK C md 60 33 3)) v1 v2 v3 v4 v5 v6 v7 x:=by kernel_rfl
  rw [k] at e
  exact e
theorem zhu(C:zad)(md:Md)(v1:PV):zak GG C md AA.next_claim [v1]=zed AA GG C md v1:=by
 have r1:(fun chk' xs' v1' v2' v3' v4' v5' v6' v7'=>zam chk' (FN 33).scope (forT (stAt (FN 33).body 2)) (exsL (XX C md 59 33) (forB (stAt (FN 33).body 2))) xs' (zaQ (some v1') (some v2') (some v3') v4' v5' v6' v7') (XK C md 60 33 3))=zaI AA GG C md:=by funext s0 s1 s2 s3 s4 s5 s6 s7 s8;exact zdh C md s0 s1 s2 s3 s4 s5 s6 s7 s8
 have e:zak GG C md AA.next_claim [v1]=zcu AA GG C md (fun chk' xs' v1' v2' v3' v4' v5' v6' v7'=>zam chk' (FN 33).scope (forT (stAt (FN 33).body 2)) (exsL (XX C md 59 33) (forB (stAt (FN 33).body 2))) xs' (zaQ (some v1') (some v2') (some v3') v4' v5' v6' v7') (XK C md 60 33 3)) v1:=by kernel_rfl
 rw [r1] at e
 exact e
noncomputable def zda(A:Adr)(G:Gl)(C:zad)(md:Md)(kk:PV→PV→Option PV→Option PV→Option PV→M PV)(v1:PV)(v2:PV)(v3:Option PV)(v4:Option PV)(v5:Option PV)(v6:PV):M PV:=
 (tup3 v6 fun v7 v8 v9=>
 (ifM ((zaf v9 (.int 0)).bind fun v10=>(zac .Eq v10 (.str "name")))
 ((zaf v9 (.int 1)).bind fun v11=>((setAt v2 v11 v8).bind fun _=>
 (kk v1 v2 (some v7) (some v8) (some v9))))
 (kk v1 v2 (some v7) (some v8) (some v9))))
noncomputable def zb2(A:Adr)(G:Gl)(C:zad)(md:Md)  (v1:PV) (v2:PV) (v3:Option PV) (v4:Option PV) (v5:Option PV):M PV:=
 (M.ret v2)
noncomputable def zaG(A:Adr)(G:Gl)(C:zad)(md:Md)(chk:M Unit):List PV→PV→PV→Option PV→Option PV→Option PV→M PV
 | [],v1,v2,v3,v4,v5=>chk.bind fun _=>zb2 A G C md v1 v2 v3 v4 v5
 | x::xs,v1,v2,v3,v4,v5=>chk.bind fun _=>zda A G C md (zaG A G C md chk xs) v1 v2 v3 v4 v5 x
noncomputable def zcq(A:Adr)(G:Gl)(C:zad)(md:Md)(F1:M Unit→List PV→PV→PV→Option PV→Option PV→Option PV→M PV)(v1:PV):M PV:=
 ((cnew (.dict [])).bind fun v2=>
 (M.cond (md.lp&&true) ((zat v1).bind fun v3=>F1 (chkW v3.watch) v3.xs v1 v2 Option.none Option.none Option.none) M.fail))
noncomputable def zeb(A:Adr)(G:Gl)(C:zad)(md:Md)(v1:PV):M PV:=zcq A G C md (zaG A G C md) v1
noncomputable def zaP(v1 v2 v3 v4 v5:Option PV):LL:=[("claims",v1),("found",v2),("number",v3),("truth",v4),("saying",v5)]
theorem zc9(C:zad)(md:Md)(chk:M Unit):∀(xs:List PV)(v1:PV)(v2:PV)(v3:Option PV)(v4:Option PV)(v5:Option PV),zam chk (FN 34).scope (forT (stAt (FN 34).body 1)) (exsL (XX C md 59 34) (forB (stAt (FN 34).body 1))) xs (zaP (some v1) (some v2) v3 v4 v5) (XK C md 60 34 2)=zaG AA GG C md  chk xs v1 v2 v3 v4 v5:=by
 intro xs
 induction xs with
 | nil=>
  intro v1 v2 v3 v4 v5
  have e:(XK C md 60 34 2) (zaP (some v1) (some v2) v3 v4 v5)=zb2 AA GG C md  v1 v2 v3 v4 v5:=by kernel_rfl
  show (chk.bind fun _=>(XK C md 60 34 2) (zaP (some v1) (some v2) v3 v4 v5))=chk.bind fun _=>zb2 AA GG C md  v1 v2 v3 v4 v5
  rw [e]
 | cons x xs ih=>
  intro v1 v2 v3 v4 v5
  have k:(fun v1' v2' v3' v4' v5'=>zam chk (FN 34).scope (forT (stAt (FN 34).body 1)) (exsL (XX C md 59 34) (forB (stAt (FN 34).body 1))) xs (zaP (some v1') (some v2') v3' v4' v5') (XK C md 60 34 2))=zaG AA GG C md  chk xs:=by funext s0 s1 s2 s3 s4;exact ih s0 s1 s2 s3 s4
  have e:zam chk (FN 34).scope (forT (stAt (FN 34).body 1)) (exsL (XX C md 59 34) (forB (stAt (FN 34).body 1))) (x::xs) (zaP (some v1) (some v2) v3 v4 v5) (XK C md 60 34 2)=chk.bind fun _=>zda AA GG C md (fun v1' v2' v3' v4' v5'=>zam chk (FN 34).scope (forT (stAt (FN 34).body 1)) (exsL (XX C md 59 34) (forB (stAt (FN 34).body 1))) xs (zaP (some v1') (some v2') v3' v4' v5') (XK C md 60 34 2)) v1 v2 v3 v4 v5 x:=by kernel_rfl
  rw [k] at e
  exact e
theorem zhk(C:zad)(md:Md)(v1:PV):zak GG C md AA.setting_of [v1]=zeb AA GG C md v1:=by
 have r1:(fun chk' xs' v1' v2' v3' v4' v5'=>zam chk' (FN 34).scope (forT (stAt (FN 34).body 1)) (exsL (XX C md 59 34) (forB (stAt (FN 34).body 1))) xs' (zaP (some v1') (some v2') v3' v4' v5') (XK C md 60 34 2))=zaG AA GG C md:=by funext s0 s1 s2 s3 s4 s5 s6;exact zc9 C md s0 s1 s2 s3 s4 s5 s6
 have e:zak GG C md AA.setting_of [v1]=zcq AA GG C md (fun chk' xs' v1' v2' v3' v4' v5'=>zam chk' (FN 34).scope (forT (stAt (FN 34).body 1)) (exsL (XX C md 59 34) (forB (stAt (FN 34).body 1))) xs' (zaP (some v1') (some v2') v3' v4' v5') (XK C md 60 34 2)) v1:=by kernel_rfl
 rw [r1] at e
 exact e
noncomputable def zmY(A:Adr)(G:Gl)(C:zad)(md:Md)(v1:PV):M PV:=
 ((C md A.ended [v1]).bind fun v2=>
 (ifM (zac .IsNot v2 PV.none)
 (M.ret (.tup [v2,PV.none]))
 ((C md A.next_claim [v1]).bind fun v3=>
 (ifM (zac .Is v3 PV.none)
 ((seqM [(M.ret PV.none),(C md A.setting_of [v1])]).bind fun v4=>(M.ret (.tup v4)))
 (M.cond (md.lp&&true) ((C md A.parts [v3]).bind fun v5=>(tup2 v5 fun v6 v7=>
 ((C md A.without [v1,v3]).bind fun v8=>
 (ifM (zac .Eq v6 (.str "apart"))
 (M.cond (md.lp&&true) (((seqM [(opM false .Add v8 v7)]).bind fun v9=>(C md A.worked v9)).bind fun v10=>(tup2 v10 fun v11 v12=>
 (ifM (zac .Is v11 PV.none)
 (M.ret (.tup [PV.none,v12]))
 (M.ret (.tup [(.tup [(.str "apart"),v3,v11]),PV.none]))))) M.fail)
 (M.cond (md.lp&&true) (((seqM [((cutM false v7 Option.none (some 1)).bind fun v13=>(opM false .Add v8 v13))]).bind fun v14=>(C md A.worked v14)).bind fun v15=>(tup2 v15 fun v16 v17=>
 (ifM (zac .Is v16 PV.none)
 (M.ret (.tup [PV.none,v17]))
 (M.cond (md.lp&&true) (((seqM [((cutM false v7 (some 1) Option.none).bind fun v18=>(opM false .Add v8 v18))]).bind fun v19=>(C md A.worked v19)).bind fun v20=>(tup2 v20 fun v21 v22=>
 (ifM (zac .Is v21 PV.none)
 (M.ret (.tup [PV.none,v22]))
 (M.ret (.tup [(.tup [(.str "fork"),v3,v16,v21]),PV.none]))))) M.fail)))) M.fail))))) M.fail)))))
theorem zc3(C:zad)(md:Md)(v1:PV):zak GG C md AA.worked [v1]=zmY AA GG C md v1:=by kernel_rfl
noncomputable def zik(A:Adr)(G:Gl)(C:zad)(md:Md)(kk:PV→PV→PV→PV→Option PV→M PV)(v1:PV)(v2:PV)(v3:PV)(v4:PV)(v5:Option PV)(v6:PV):M PV:=
 ((zfs md false "get" v3 (M.ret [v6,(.bool false)])).bind fun v7=>((setAt v4 v6 v7).bind fun _=>
 (kk v1 v2 v3 v4 (some v6))))
noncomputable def zil(A:Adr)(G:Gl)(C:zad)(md:Md)  (v1:PV) (v2:PV) (v3:PV) (v4:PV) (v5:Option PV):M PV:=
 (M.ret (.tup [(.str "setting"),v4]))
noncomputable def zcp(A:Adr)(G:Gl)(C:zad)(md:Md)(chk:M Unit):List PV→PV→PV→PV→PV→Option PV→M PV
 | [],v1,v2,v3,v4,v5=>chk.bind fun _=>zil A G C md v1 v2 v3 v4 v5
 | x::xs,v1,v2,v3,v4,v5=>chk.bind fun _=>zik A G C md (zcp A G C md chk xs) v1 v2 v3 v4 v5 x
noncomputable def zlv(A:Adr)(G:Gl)(C:zad)(md:Md)(F1:M Unit→List PV→PV→PV→PV→PV→Option PV→M PV)(v1:PV):M PV:=
 (M.cond (md.lp&&true) (((seqM [(C md A.begun [v1])]).bind fun v2=>(C md A.worked v2)).bind fun v3=>(tup2 v3 fun v4 v5=>
 (ifM (zac .IsNot v4 PV.none)
 (M.ret (.tup [(.str "tree"),v4]))
 ((cnew (.dict [])).bind fun v6=>
 (M.cond (md.lp&&true) (((C md A.names_in [v1]).bind zat).bind fun v7=>F1 (chkW v7.watch) v7.xs v1 v4 v5 v6 Option.none) M.fail))))) M.fail)
noncomputable def zn1(A:Adr)(G:Gl)(C:zad)(md:Md)(v1:PV):M PV:=zlv A G C md (zcp A G C md) v1
noncomputable def zea(v1 v2 v3 v4 v5:Option PV):LL:=[("row",v1),("tree",v2),("setting",v3),("found",v4),("name",v5)]
theorem zhj(C:zad)(md:Md)(chk:M Unit):∀(xs:List PV)(v1:PV)(v2:PV)(v3:PV)(v4:PV)(v5:Option PV),zam chk (FN 36).scope (forT (stAt (FN 36).body 3)) (exsL (XX C md 59 36) (forB (stAt (FN 36).body 3))) xs (zea (some v1) (some v2) (some v3) (some v4) v5) (XK C md 60 36 4)=zcp AA GG C md  chk xs v1 v2 v3 v4 v5:=by
 intro xs
 induction xs with
 | nil=>
  intro v1 v2 v3 v4 v5
  have e:(XK C md 60 36 4) (zea (some v1) (some v2) (some v3) (some v4) v5)=zil AA GG C md  v1 v2 v3 v4 v5:=by kernel_rfl
  show (chk.bind fun _=>(XK C md 60 36 4) (zea (some v1) (some v2) (some v3) (some v4) v5))=chk.bind fun _=>zil AA GG C md  v1 v2 v3 v4 v5
  rw [e]
 | cons x xs ih=>
  intro v1 v2 v3 v4 v5
  have k:(fun v1' v2' v3' v4' v5'=>zam chk (FN 36).scope (forT (stAt (FN 36).body 3)) (exsL (XX C md 59 36) (forB (stAt (FN 36).body 3))) xs (zea (some v1') (some v2') (some v3') (some v4') v5') (XK C md 60 36 4))=zcp AA GG C md  chk xs:=by funext s0 s1 s2 s3 s4;exact ih s0 s1 s2 s3 s4
  have e:zam chk (FN 36).scope (forT (stAt (FN 36).body 3)) (exsL (XX C md 59 36) (forB (stAt (FN 36).body 3))) (x::xs) (zea (some v1) (some v2) (some v3) (some v4) v5) (XK C md 60 36 4)=chk.bind fun _=>zik AA GG C md (fun v1' v2' v3' v4' v5'=>zam chk (FN 36).scope (forT (stAt (FN 36).body 3)) (exsL (XX C md 59 36) (forB (stAt (FN 36).body 3))) xs (zea (some v1') (some v2') (some v3') (some v4') v5') (XK C md 60 36 4)) v1 v2 v3 v4 v5 x:=by kernel_rfl
  rw [k] at e
  exact e
theorem zqc(C:zad)(md:Md)(v1:PV):zak GG C md AA.shut [v1]=zn1 AA GG C md v1:=by
 have r1:(fun chk' xs' v1' v2' v3' v4' v5'=>zam chk' (FN 36).scope (forT (stAt (FN 36).body 3)) (exsL (XX C md 59 36) (forB (stAt (FN 36).body 3))) xs' (zea (some v1') (some v2') (some v3') (some v4') v5') (XK C md 60 36 4))=zcp AA GG C md:=by funext s0 s1 s2 s3 s4 s5 s6;exact zhj C md s0 s1 s2 s3 s4 s5 s6
 have e:zak GG C md AA.shut [v1]=zlv AA GG C md (fun chk' xs' v1' v2' v3' v4' v5'=>zam chk' (FN 36).scope (forT (stAt (FN 36).body 3)) (exsL (XX C md 59 36) (forB (stAt (FN 36).body 3))) xs' (zea (some v1') (some v2') (some v3') (some v4') v5') (XK C md 60 36 4)) v1:=by kernel_rfl
 rw [r1] at e
 exact e
noncomputable def ziu(A:Adr)(G:Gl)(C:zad)(md:Md)(v1 v2:PV):M PV:=
 ((C md A.need_row [v1]).bind fun _=>
 (ifM (notM (C md A.stands [v1,v2]))
 M.fail
 (M.ret PV.none)))
theorem zit(C:zad)(md:Md)(v1 v2:PV):zak GG C md AA.need_tree [v1,v2]=ziu AA GG C md v1 v2:=by kernel_rfl
noncomputable def zkf(A:Adr)(G:Gl)(C:zad)(md:Md)(v1 v2:PV):M PV:=
 ((((zaf v1 (.int 1)).bind fun v3=>(zaf v3 (.int 0))).bind fun v4=>(zac .Lt v4 v2)).bind fun v5=>
 (ifM ((((zaf v1 (.int 2)).bind fun v6=>(zaf v6 (.int 0))).bind fun v7=>(zac .Lt v7 v2)).bind fun v8=>(zac .Eq v5 v8))
 (ifM (M.ret v5) (M.ret (.tup [(.str "no")])) (M.ret (.tup [(.str "yes")])))
 (ifM (M.ret v5)
 ((zaf v1 (.int 1)).bind fun v9=>(zaf v9 (.int 2)))
 ((seqM [(M.ret (.str "not")),((zaf v1 (.int 1)).bind fun v10=>(zaf v10 (.int 2)))]).bind fun v11=>(M.ret (.tup v11))))))
theorem zke(C:zad)(md:Md)(v1 v2:PV):zak GG C md AA.of_clash [v1,v2]=zkf AA GG C md v1 v2:=by kernel_rfl
noncomputable def zlO(A:Adr)(G:Gl)(C:zad)(md:Md)(v1 v2:PV):M PV:=
 (ifM ((zaf v1 (.int 0)).bind fun v3=>(zac .Eq v3 (.str "clash")))
 (C md A.of_clash [v1,v2])
 ((((zaf v1 (.int 1)).bind fun v4=>(zaf v4 (.int 0))).bind fun v5=>(zac .Lt v5 v2)).bind fun v6=>
 (ifM ((zaf v1 (.int 0)).bind fun v7=>(zac .Eq v7 (.str "shut")))
 (ifM (M.ret v6) (M.ret (.tup [(.str "no")])) (M.ret (.tup [(.str "yes")])))
 (ifM ((zaf v1 (.int 0)).bind fun v8=>(zac .Eq v8 (.str "apart")))
 ((seqM [(zaf v1 (.int 2)),(M.ret v2)]).bind fun v9=>(C md A.of_tree v9))
 ((ifM (M.ret v6) (M.ret (.str "or")) (M.ret (.str "and"))).bind fun v10=>
 ((seqM [(M.ret v10),((seqM [(zaf v1 (.int 2)),(M.ret v2)]).bind fun v11=>(C md A.of_tree v11)),((seqM [(zaf v1 (.int 3)),(M.ret v2)]).bind fun v12=>(C md A.of_tree v12))]).bind fun v13=>(M.ret (.tup v13))))))))
theorem zdf(C:zad)(md:Md)(v1 v2:PV):zak GG C md AA.of_tree [v1,v2]=zlO AA GG C md v1 v2:=by kernel_rfl
noncomputable def zno(A:Adr)(G:Gl)(C:zad)(md:Md)(v1 v2 v3:PV):M PV:=
 ((C md A.need_tree [v1,v2]).bind fun _=>
 (ifM (orM (notM (C md A.is_whole [v3])) (notM ((zac .LtE (.int 0) v3).bind fun v4=>(zap v4).bind fun v5=>M.cond v5 ((biM md false "len" [v1]).bind fun v6=>(zac .LtE v3 v6)) (M.ret v4))))
 M.fail
 (C md A.of_tree [v2,v3])))
theorem znn(C:zad)(md:Md)(v1 v2 v3:PV):zak GG C md AA.middle [v1,v2,v3]=zno AA GG C md v1 v2 v3:=by kernel_rfl
noncomputable def znA(A:Adr)(G:Gl)(C:zad)(md:Md)(v1 v2 v3:PV):M PV:=
 (ifM (zac .Eq v1 (.str "or"))
 (ifM (orM ((zaf (.tup [(.tup [(.str "yes")]),(.tup [(.str "no")])]) (.int 0)).bind fun v4=>(zac .Eq v2 v4)) ((zaf (.tup [(.tup [(.str "yes")]),(.tup [(.str "no")])]) (.int 0)).bind fun v5=>(zac .Eq v3 v5)))
 (zaf (.tup [(.tup [(.str "yes")]),(.tup [(.str "no")])]) (.int 0))
 (ifM (orM ((zaf (.tup [(.tup [(.str "yes")]),(.tup [(.str "no")])]) (.int 1)).bind fun v6=>(zac .Eq v2 v6)) (zac .Eq v2 v3))
 (M.ret v3)
 (ifM ((zaf (.tup [(.tup [(.str "yes")]),(.tup [(.str "no")])]) (.int 1)).bind fun v7=>(zac .Eq v3 v7))
 (M.ret v2)
 (M.ret (.tup [v1,v2,v3])))))
 (ifM (orM ((zaf (.tup [(.tup [(.str "no")]),(.tup [(.str "yes")])]) (.int 0)).bind fun v8=>(zac .Eq v2 v8)) ((zaf (.tup [(.tup [(.str "no")]),(.tup [(.str "yes")])]) (.int 0)).bind fun v9=>(zac .Eq v3 v9)))
 (zaf (.tup [(.tup [(.str "no")]),(.tup [(.str "yes")])]) (.int 0))
 (ifM (orM ((zaf (.tup [(.tup [(.str "no")]),(.tup [(.str "yes")])]) (.int 1)).bind fun v10=>(zac .Eq v2 v10)) (zac .Eq v2 v3))
 (M.ret v3)
 (ifM ((zaf (.tup [(.tup [(.str "no")]),(.tup [(.str "yes")])]) (.int 1)).bind fun v11=>(zac .Eq v3 v11))
 (M.ret v2)
 (M.ret (.tup [v1,v2,v3]))))))
theorem znz(C:zad)(md:Md)(v1 v2 v3:PV):zak GG C md AA.joined [v1,v2,v3]=znA AA GG C md v1 v2 v3:=by kernel_rfl
noncomputable def znh(A:Adr)(G:Gl)(C:zad)(md:Md)(v1:PV):M PV:=
 ((zaf v1 (.int 0)).bind fun v2=>
 (ifM (zac .In v2 (.tup [(.str "and"),(.str "or")]))
 ((seqM [(M.ret v2),((seqM [(zaf v1 (.int 1))]).bind fun v3=>(C md A.neatly v3)),((seqM [(zaf v1 (.int 2))]).bind fun v4=>(C md A.neatly v4))]).bind fun v5=>(C md A.joined v5))
 (ifM (zac .NotEq v2 (.str "not"))
 (M.ret v1)
 (((seqM [(zaf v1 (.int 1))]).bind fun v6=>(C md A.neatly v6)).bind fun v7=>
 (ifM ((zaf v7 (.int 0)).bind fun v8=>(zac .Eq v8 (.str "not")))
 (zaf v7 (.int 1))
 (ifM (zac .Eq v7 (.tup [(.str "yes")]))
 (M.ret (.tup [(.str "no")]))
 (ifM (zac .Eq v7 (.tup [(.str "no")]))
 (M.ret (.tup [(.str "yes")]))
 (M.ret (.tup [(.str "not"),v7])))))))))
theorem zdi(C:zad)(md:Md)(v1:PV):zak GG C md AA.neatly [v1]=znh AA GG C md v1:=by kernel_rfl
noncomputable def zpd(A:Adr)(G:Gl)(C:zad)(md:Md)(v1 v2:PV):M PV:=
 ((C md A.need_saying [v1]).bind fun _=>
 ((C md A.need_saying [v2]).bind fun _=>
 (ifM (((C md A.size_in [v1]).bind fun v3=>((C md A.size_in [v2]).bind fun v4=>(opM false .Add v3 v4))).bind fun v5=>(zac .Gt v5 (.int 59)))
 M.fail
 (M.cond (md.lp&&true) ((C md A.shut [(.lst [v1,(.tup [(.str "not"),v2])])]).bind fun v6=>(tup2 v6 fun v7 v8=>
 (ifM (zac .Eq v7 (.str "setting"))
 (M.ret (.tup [v7,v8]))
 ((seqM [(M.ret (.str "between")),((seqM [(C md A.middle [(.lst [v1,(.tup [(.str "not"),v2])]),v8,(.int 1)])]).bind fun v9=>(C md A.neatly v9))]).bind fun v10=>(M.ret (.tup v10)))))) M.fail))))
theorem zpc(C:zad)(md:Md)(v1 v2:PV):zak GG C md AA.leads [v1,v2]=zpd AA GG C md v1 v2:=by kernel_rfl
noncomputable def ziA(A:Adr)(G:Gl)(C:zad)(md:Md)(v1 v2:PV):M PV:=
 (ifM ((biM md false "len" [v1]).bind fun v3=>(zac .Lt v2 v3))
 (zaf v1 v2)
 (M.ret (.int 0)))
theorem ziz(C:zad)(md:Md)(v1 v2:PV):zak GG C md AA.l_cell_at [v1,v2]=ziA AA GG C md v1 v2:=by kernel_rfl
noncomputable def zl9(A:Adr)(G:Gl)(C:zad)(md:Md)(v1 v2:PV):M PV:=
 ((opM false .FloorDiv v1 (.int 5)).bind fun v3=>
 (ifM ((opM false .Mod v1 (.int 5)).bind fun v4=>(zac .Eq v4 (.int 0)))
 ((zfs md false "join" (.str "") (seqM [(zaU md false (zbz [(.int 6)]) fun v5=>((((opM false .Mult (.int 5) v5).bind fun v6=>(opM false .Add v3 v6)).bind fun v7=>(opM false .Mod v7 (.int 26))).bind fun v8=>(zaf (.str "abcdefghijklmnopqrstuvwxyz") v8)).bind fun v9=>M.ret (some v9))])).bind fun v10=>
 (zaU md false (zbz [v2]) fun v11=>((zde (opM false .Add v11 (.int 1))).bind fun v12=>(cutM false v10 Option.none v12)).bind fun v13=>M.ret (some v13)))
 (ifM ((opM false .Mod v1 (.int 5)).bind fun v14=>(zac .Eq v14 (.int 1)))
 (((opM false .Mod v3 (.int 5)).bind fun v15=>(zaf (.lst [(.str "yes"),(.str "no"),(.str "not"),(.str "and"),(.str "or")]) v15)).bind fun v16=>
 ((zaU md false (zbz [v2]) fun v17=>((((opM false .FloorDiv v3 (.int 5)).bind fun v18=>(opM false .Add v18 v17)).bind fun v19=>(opM false .Mod v19 (.int 26))).bind fun v20=>(zaf (.str "abcdefghijklmnopqrstuvwxyz") v20)).bind fun v21=>M.ret (some v21)).bind fun v22=>
 ((zaU md false (zat v22) fun v23=>(((seqM [(opM false .Add v16 v23),(opM false .Add v23 v16),((opM false .Add v16 v23).bind fun v24=>(opM false .Add v24 v23))]).bind fun v25=>(M.ret (.lst v25))).bind fun v26=>(((opM false .FloorDiv v3 (.int 130)).bind fun v27=>(opM false .Mod v27 (.int 3))).bind fun v28=>(zaf v26 v28))).bind fun v29=>M.ret (some v29)).bind fun v30=>
 (zaU md false (zat v30) fun v31=>(ifM (zac .Eq v31 (.str "not")) (M.ret (.str "notx")) (M.ret v31)).bind fun v32=>M.ret (some v32)))))
 ((opM false .Mod v3 (.int 6)).bind fun v33=>
 (((opM false .FloorDiv v3 (.int 6)).bind fun v34=>((opM false .Add v33 (.int 1)).bind fun v35=>(opM false .Mod v34 v35))).bind fun v36=>
 (((((opM false .FloorDiv v3 (.int 36)).bind fun v37=>(opM false .Mod v37 (.int 26))).bind fun v38=>(zaf (.str "abcdefghijklmnopqrstuvwxyz") v38)).bind fun v39=>(opM false .Mult v39 v33)).bind fun v40=>
 ((zaU md false (zbz [v2]) fun v41=>((((zde (M.ret v36)).bind fun v42=>(cutM false v40 Option.none v42)).bind fun v43=>(((((opM false .FloorDiv v3 (.int 936)).bind fun v44=>(opM false .Add v44 v41)).bind fun v45=>(opM false .Mod v45 (.int 26))).bind fun v46=>(zaf (.str "abcdefghijklmnopqrstuvwxyz") v46)).bind fun v47=>(opM false .Add v43 v47))).bind fun v48=>(((zde (M.ret v36)).bind fun v49=>(cutM false v40 v49 Option.none)).bind fun v50=>(opM false .Add v48 v50))).bind fun v51=>M.ret (some v51)).bind fun v52=>
 (zaU md false (zat v52) fun v53=>(ifM (zac .In v53 (.tup [(.str "no"),(.str "or")])) (opM false .Add v53 v53) (M.ret v53)).bind fun v54=>M.ret (some v54)))))))))
theorem zeZ(C:zad)(md:Md)(v1 v2:PV):zak GG C md AA.l_names [v1,v2]=zl9 AA GG C md v1 v2:=by kernel_rfl
noncomputable def zkp(A:Adr)(G:Gl)(C:zad)(md:Md)(v1 v2 v3:PV):M PV:=
 ((((opM false .Mult v1 (.int 48271)).bind fun v4=>(opM false .Add v4 (.int 11))).bind fun v5=>(opM false .Mod v5 (.int 2147483647))).bind fun v6=>
 (ifM (zac .Eq v2 (.int 1))
 (((opM false .FloorDiv v6 (.int 7)).bind fun v7=>((((biM md false "len" [v3]).bind fun v8=>(opM false .Mult (.int 3) v8)).bind fun v9=>(opM false .Add v9 (.int 2))).bind fun v10=>(opM false .Mod v7 v10))).bind fun v11=>
 (ifM (((biM md false "len" [v3]).bind fun v12=>(opM false .Mult (.int 3) v12)).bind fun v13=>(zac .Lt v11 v13))
 ((seqM [(M.ret (.str "name")),(((biM md false "len" [v3]).bind fun v14=>(opM false .Mod v11 v14)).bind fun v15=>(zaf v3 v15))]).bind fun v16=>(M.ret (.tup v16)))
 ((opM false .Mod v11 (.int 2)).bind fun v17=>(zaf (.lst [(.tup [(.str "yes")]),(.tup [(.str "no")])]) v17))))
 ((opM false .Mod v6 (.int 8)).bind fun v18=>
 (ifM (orM (zac .Eq v2 (.int 2)) (zac .Lt v18 (.int 2)))
 ((seqM [(M.ret (.str "not")),((seqM [(opM false .FloorDiv v6 (.int 8)),(opM false .Sub v2 (.int 1)),(M.ret v3)]).bind fun v19=>(C md A.l_saying v19))]).bind fun v20=>(M.ret (.tup v20)))
 ((((opM false .FloorDiv v6 (.int 8)).bind fun v21=>((opM false .Sub v2 (.int 2)).bind fun v22=>(opM false .Mod v21 v22))).bind fun v23=>(opM false .Add (.int 1) v23)).bind fun v24=>
 (((seqM [((opM false .FloorDiv v6 (.int 64)).bind fun v25=>(opM false .Add v25 (.int 7919))),(M.ret v24),(M.ret v3)]).bind fun v26=>(C md A.l_saying v26)).bind fun v27=>
 (((seqM [(((opM false .FloorDiv v6 (.int 64)).bind fun v28=>(opM false .Mult v28 (.int 3))).bind fun v29=>((opM false .Mult (.int 104729) v2).bind fun v30=>(opM false .Add v29 v30))),((opM false .Sub v2 (.int 1)).bind fun v31=>(opM false .Sub v31 v24)),(M.ret v3)]).bind fun v32=>(C md A.l_saying v32)).bind fun v33=>
 ((seqM [((opM false .Mod v18 (.int 2)).bind fun v34=>(zaf (.lst [(.str "and"),(.str "or")]) v34)),(M.ret v27),(M.ret v33)]).bind fun v35=>(M.ret (.tup v35))))))))))
theorem zfP(C:zad)(md:Md)(v1 v2 v3:PV):zak GG C md AA.l_saying [v1,v2,v3]=zkp AA GG C md v1 v2 v3:=by kernel_rfl
noncomputable def zeA(A:Adr)(G:Gl)(C:zad)(md:Md)(kk:PV→PV→Option PV→M PV)(v1:PV)(v2:PV)(v3:Option PV)(v4:PV):M PV:=
 (((zaU md false ((C md A.l_met [v4]).bind zat) fun v5=>(zac .NotIn v5 v2).bind fun v6=>(zap v6).bind fun v7=>M.cond v7 (M.ret (some v5)) (M.ret Option.none)).bind fun v8=>(opM false .Add v2 v8)).bind fun v9=>
 (kk v1 v9 (some v4)))
noncomputable def zgr(A:Adr)(G:Gl)(C:zad)(md:Md)  (v1:PV) (v2:PV) (v3:Option PV):M PV:=
 (M.ret v2)
noncomputable def zbn(A:Adr)(G:Gl)(C:zad)(md:Md)(chk:M Unit):List PV→PV→PV→Option PV→M PV
 | [],v1,v2,v3=>chk.bind fun _=>zgr A G C md v1 v2 v3
 | x::xs,v1,v2,v3=>chk.bind fun _=>zeA A G C md (zbn A G C md chk xs) v1 v2 v3 x
noncomputable def zmb(A:Adr)(G:Gl)(C:zad)(md:Md)(F1:M Unit→List PV→PV→PV→Option PV→M PV)(v1:PV):M PV:=
 (ifM ((zaf v1 (.int 0)).bind fun v2=>(zac .Eq v2 (.str "name")))
 ((seqM [(zaf v1 (.int 1))]).bind fun v3=>(M.ret (.lst v3)))
 (M.cond (md.lp&&true) (((cutM false v1 (some 1) Option.none).bind zat).bind fun v4=>F1 (chkW v4.watch) v4.xs v1 (.lst []) Option.none) M.fail))
noncomputable def zpf(A:Adr)(G:Gl)(C:zad)(md:Md)(v1:PV):M PV:=zmb A G C md (zbn A G C md) v1
noncomputable def zcy(v1 v2 v3:Option PV):LL:=[("_law_saying_here",v1),("_law_found",v2),("_law_part",v3)]
theorem zgq(C:zad)(md:Md)(chk:M Unit):∀(xs:List PV)(v1:PV)(v2:PV)(v3:Option PV),zam chk (FN 51).scope (forT (stAt (FN 51).body 2)) (exsL (XX C md 59 51) (forB (stAt (FN 51).body 2))) xs (zcy (some v1) (some v2) v3) (XK C md 60 51 3)=zbn AA GG C md  chk xs v1 v2 v3:=by
 intro xs
 induction xs with
 | nil=>
  intro v1 v2 v3
  have e:(XK C md 60 51 3) (zcy (some v1) (some v2) v3)=zgr AA GG C md  v1 v2 v3:=by kernel_rfl
  show (chk.bind fun _=>(XK C md 60 51 3) (zcy (some v1) (some v2) v3))=chk.bind fun _=>zgr AA GG C md  v1 v2 v3
  rw [e]
 | cons x xs ih=>
  intro v1 v2 v3
  have k:(fun v1' v2' v3'=>zam chk (FN 51).scope (forT (stAt (FN 51).body 2)) (exsL (XX C md 59 51) (forB (stAt (FN 51).body 2))) xs (zcy (some v1') (some v2') v3') (XK C md 60 51 3))=zbn AA GG C md  chk xs:=by funext s0 s1 s2;exact ih s0 s1 s2
  have e:zam chk (FN 51).scope (forT (stAt (FN 51).body 2)) (exsL (XX C md 59 51) (forB (stAt (FN 51).body 2))) (x::xs) (zcy (some v1) (some v2) v3) (XK C md 60 51 3)=chk.bind fun _=>zeA AA GG C md (fun v1' v2' v3'=>zam chk (FN 51).scope (forT (stAt (FN 51).body 2)) (exsL (XX C md 59 51) (forB (stAt (FN 51).body 2))) xs (zcy (some v1') (some v2') v3') (XK C md 60 51 3)) v1 v2 v3 x:=by kernel_rfl
  rw [k] at e
  exact e
theorem zma(C:zad)(md:Md)(v1:PV):zak GG C md AA.l_met [v1]=zpf AA GG C md v1:=by
 have r1:(fun chk' xs' v1' v2' v3'=>zam chk' (FN 51).scope (forT (stAt (FN 51).body 2)) (exsL (XX C md 59 51) (forB (stAt (FN 51).body 2))) xs' (zcy (some v1') (some v2') v3') (XK C md 60 51 3))=zbn AA GG C md:=by funext s0 s1 s2 s3 s4;exact zgq C md s0 s1 s2 s3 s4
 have e:zak GG C md AA.l_met [v1]=zmb AA GG C md (fun chk' xs' v1' v2' v3'=>zam chk' (FN 51).scope (forT (stAt (FN 51).body 2)) (exsL (XX C md 59 51) (forB (stAt (FN 51).body 2))) xs' (zcy (some v1') (some v2') v3') (XK C md 60 51 3)) v1:=by kernel_rfl
 rw [r1] at e
 exact e
noncomputable def ziy(A:Adr)(G:Gl)(C:zad)(md:Md)(v1:PV):M PV:=
 (ifM (orM (notM (isM G (.bi .str) v1)) (orM (zac .In v1 (.tup [(.str "yes"),(.str "no"),(.str "not"),(.str "and"),(.str "or")])) (notM ((biM md false "len" [v1]).bind fun v2=>((zac .LtE (.int 1) v2).bind fun v3=>(zap v3).bind fun v4=>M.cond v4 (zac .LtE v2 (.int 6)) (M.ret v3))))))
 (M.ret (.bool false))
 ((zaU md false (zat v1) fun v5=>(zac .NotIn v5 (.str "abcdefghijklmnopqrstuvwxyz")).bind fun v6=>(zap v6).bind fun v7=>M.cond v7 (M.ret (some v5)) (M.ret Option.none)).bind fun v8=>(zac .Eq v8 (.lst []))))
theorem zix(C:zad)(md:Md)(v1:PV):zak GG C md AA.l_is_name [v1]=ziy AA GG C md v1:=by kernel_rfl
noncomputable def zgs(A:Adr)(G:Gl)(C:zad)(md:Md)(v1:PV):M PV:=
 (ifM (orM (notM (isM G (.bi .tuple) v1)) (orM ((biM md false "len" [v1]).bind fun v2=>(zac .Eq v2 (.int 0))) (notM ((zaf v1 (.int 0)).bind fun v3=>(isM G (.bi .str) v3)))))
 (M.ret (.bool false))
 (ifM ((zaf v1 (.int 0)).bind fun v4=>(zac .Eq v4 (.str "name")))
 (andM ((biM md false "len" [v1]).bind fun v5=>(zac .Eq v5 (.int 2))) ((seqM [(zaf v1 (.int 1))]).bind fun v6=>(C md A.l_is_name v6)))
 ((cnew (.dict [("yes",(.int 1)),("no",(.int 1)),("not",(.int 2)),("and",(.int 3)),("or",(.int 3))])).bind fun v7=>
 (ifM ((zfs md false "get" v7 (seqM [(zaf v1 (.int 0)),(M.ret (.int 0))])).bind fun v8=>((biM md false "len" [v1]).bind fun v9=>(zac .NotEq v8 v9)))
 (M.ret (.bool false))
 ((seqM [(zaU md false ((cutM false v1 (some 1) Option.none).bind zat) fun v10=>(C md.inn A.l_is_saying [v10]).bind fun v11=>M.ret (some v11))]).bind fun v12=>(biM md false "all" v12))))))
theorem zdu(C:zad)(md:Md)(v1:PV):zak GG C md AA.l_is_saying [v1]=zgs AA GG C md v1:=by kernel_rfl
noncomputable def zba(A:Adr)(G:Gl)(C:zad)(md:Md)(kk:PV→PV→PV→PV→PV→Option PV→Option PV→M PV)(v1:PV)(v2:PV)(v3:PV)(v4:PV)(v5:PV)(v6:Option PV)(v7:Option PV)(v8:PV):M PV:=
 ((biM md false "dict" [v5]).bind fun v9=>
 ((setAt v9 v3 v8).bind fun _=>
 ((zfs md false "append" v4 (M.ret [v9])).bind fun _=>
 (kk v1 v2 v3 v4 v5 (some v8) (some v9)))))
noncomputable def zb7(A:Adr)(G:Gl)(C:zad)(md:Md)  (kk:PV→PV→PV→PV→Option PV→Option PV→Option PV→M PV) (v1:PV) (v2:PV) (v3:PV) (v4:PV) (v5:PV) (v6:Option PV) (v7:Option PV):M PV:=
 (kk v1 v2 v3 v4 (some v5) v6 v7)
noncomputable def zaA(A:Adr)(G:Gl)(C:zad)(md:Md)(kk:PV→PV→PV→PV→Option PV→Option PV→Option PV→M PV)(chk:M Unit):List PV→PV→PV→PV→PV→PV→Option PV→Option PV→M PV
 | [],v1,v2,v3,v4,v5,v6,v7=>chk.bind fun _=>zb7 A G C md kk v1 v2 v3 v4 v5 v6 v7
 | x::xs,v1,v2,v3,v4,v5,v6,v7=>chk.bind fun _=>zba A G C md (zaA A G C md kk chk xs) v1 v2 v3 v4 v5 v6 v7 x
noncomputable def zds(A:Adr)(G:Gl)(C:zad)(md:Md)(F3:M Unit→List PV→PV→PV→PV→PV→PV→Option PV→Option PV→M PV)(kk:PV→PV→PV→PV→Option PV→Option PV→Option PV→M PV)(v1:PV)(v2:PV)(v3:PV)(v4:PV)(v5:Option PV)(v6:Option PV)(v7:Option PV)(v8:PV):M PV:=
 (M.cond (md.lp&&true) ((zat (.tup [(.bool true),(.bool false)])).bind fun v9=>F3 (chkW v9.watch) v9.xs v1 v2 v3 v4 v8 v6 v7) M.fail)
noncomputable def zbv(A:Adr)(G:Gl)(C:zad)(md:Md)  (kk:PV→PV→Option PV→Option PV→Option PV→Option PV→Option PV→M PV) (v1:PV) (v2:PV) (v3:PV) (v4:PV) (v5:Option PV) (v6:Option PV) (v7:Option PV):M PV:=
 ((zhI v4).bind fun v10=>
 (kk v1 v10 (some v3) (some v4) v5 v6 v7))
noncomputable def zao(A:Adr)(G:Gl)(C:zad)(md:Md)(kk:PV→PV→Option PV→Option PV→Option PV→Option PV→Option PV→M PV)(chk:M Unit):List PV→PV→PV→PV→PV→Option PV→Option PV→Option PV→M PV
 | [],v1,v2,v3,v4,v5,v6,v7=>chk.bind fun _=>zbv A G C md kk v1 v2 v3 v4 v5 v6 v7
 | x::xs,v1,v2,v3,v4,v5,v6,v7=>chk.bind fun _=>zds A G C md (zaA A G C md (zao A G C md kk chk xs)) (zao A G C md kk chk xs) v1 v2 v3 v4 v5 v6 v7 x
noncomputable def zdt(A:Adr)(G:Gl)(C:zad)(md:Md)(F2:M Unit→List PV→PV→PV→PV→PV→Option PV→Option PV→Option PV→M PV)(kk:PV→PV→Option PV→Option PV→Option PV→Option PV→Option PV→M PV)(v1:PV)(v2:PV)(v3:Option PV)(v4:Option PV)(v5:Option PV)(v6:Option PV)(v7:Option PV)(v8:PV):M PV:=
 ((cnew (.list [])).bind fun v9=>
 (M.cond (md.lp&&true) ((zat v2).bind fun v10=>F2 (chkW v10.watch) v10.xs v1 v2 v8 v9 v5 v6 v7) M.fail))
noncomputable def zb8(A:Adr)(G:Gl)(C:zad)(md:Md)  (v1:PV) (v2:PV) (v3:Option PV) (v4:Option PV) (v5:Option PV) (v6:Option PV) (v7:Option PV):M PV:=
 (M.ret v2)
noncomputable def zav(A:Adr)(G:Gl)(C:zad)(md:Md)(chk:M Unit):List PV→PV→PV→Option PV→Option PV→Option PV→Option PV→Option PV→M PV
 | [],v1,v2,v3,v4,v5,v6,v7=>chk.bind fun _=>zb8 A G C md v1 v2 v3 v4 v5 v6 v7
 | x::xs,v1,v2,v3,v4,v5,v6,v7=>chk.bind fun _=>zdt A G C md (zao A G C md (zav A G C md chk xs)) (zav A G C md chk xs) v1 v2 v3 v4 v5 v6 v7 x
noncomputable def zcx(A:Adr)(G:Gl)(C:zad)(md:Md)(F1:M Unit→List PV→PV→PV→Option PV→Option PV→Option PV→Option PV→Option PV→M PV)(v1:PV):M PV:=
 (((seqM [(cnew (.dict []))]).bind fun v2=>(M.ret (.lst v2))).bind fun v3=>
 (M.cond (md.lp&&true) ((zat v1).bind fun v4=>F1 (chkW v4.watch) v4.xs v1 v3 Option.none Option.none Option.none Option.none Option.none) M.fail))
noncomputable def zee(A:Adr)(G:Gl)(C:zad)(md:Md)(v1:PV):M PV:=zcx A G C md (zav A G C md) v1
noncomputable def zag(v1 v2 v3 v4 v5 v6 v7:Option PV):LL:=[("_law_names_here",v1),("_law_found",v2),("_law_name",v3),("_law_more",v4),("_law_one",v5),("_law_truth",v6),("_law_fresh",v7)]
theorem zdp(C:zad)(md:Md)(kl:LL→M PV)(chk:M Unit):∀(xs:List PV)(v1:PV)(v2:PV)(v3:PV)(v4:PV)(v5:PV)(v6:Option PV)(v7:Option PV),zam chk (FN 55).scope (forT (stAt (forB (stAt (forB (stAt (FN 55).body 1)) 1)) 0)) (exsL (XX C md 57 55) (forB (stAt (forB (stAt (forB (stAt (FN 55).body 1)) 1)) 0))) xs (zag (some v1) (some v2) (some v3) (some v4) (some v5) v6 v7) (fun l=>exsL (XX C md 58 55) (List.drop 1 (forB (stAt (forB (stAt (FN 55).body 1)) 1))) l kl)=zaA AA GG C md (fun v1' v2' v3' v4' v5' v6' v7'=>kl (zag (some v1') (some v2') (some v3') (some v4') v5' v6' v7')) chk xs v1 v2 v3 v4 v5 v6 v7:=by
 intro xs
 induction xs with
 | nil=>
  intro v1 v2 v3 v4 v5 v6 v7
  have e:(fun l=>exsL (XX C md 58 55) (List.drop 1 (forB (stAt (forB (stAt (FN 55).body 1)) 1))) l kl) (zag (some v1) (some v2) (some v3) (some v4) (some v5) v6 v7)=zb7 AA GG C md (fun v1' v2' v3' v4' v5' v6' v7'=>kl (zag (some v1') (some v2') (some v3') (some v4') v5' v6' v7')) v1 v2 v3 v4 v5 v6 v7:=by kernel_rfl
  show (chk.bind fun _=>(fun l=>exsL (XX C md 58 55) (List.drop 1 (forB (stAt (forB (stAt (FN 55).body 1)) 1))) l kl) (zag (some v1) (some v2) (some v3) (some v4) (some v5) v6 v7))=chk.bind fun _=>zb7 AA GG C md (fun v1' v2' v3' v4' v5' v6' v7'=>kl (zag (some v1') (some v2') (some v3') (some v4') v5' v6' v7')) v1 v2 v3 v4 v5 v6 v7
  rw [e]
 | cons x xs ih=>
  intro v1 v2 v3 v4 v5 v6 v7
  have k:(fun v1' v2' v3' v4' v5' v6' v7'=>zam chk (FN 55).scope (forT (stAt (forB (stAt (forB (stAt (FN 55).body 1)) 1)) 0)) (exsL (XX C md 57 55) (forB (stAt (forB (stAt (forB (stAt (FN 55).body 1)) 1)) 0))) xs (zag (some v1') (some v2') (some v3') (some v4') (some v5') v6' v7') (fun l=>exsL (XX C md 58 55) (List.drop 1 (forB (stAt (forB (stAt (FN 55).body 1)) 1))) l kl))=zaA AA GG C md (fun v1' v2' v3' v4' v5' v6' v7'=>kl (zag (some v1') (some v2') (some v3') (some v4') v5' v6' v7')) chk xs:=by funext s0 s1 s2 s3 s4 s5 s6;exact ih s0 s1 s2 s3 s4 s5 s6
  have e:zam chk (FN 55).scope (forT (stAt (forB (stAt (forB (stAt (FN 55).body 1)) 1)) 0)) (exsL (XX C md 57 55) (forB (stAt (forB (stAt (forB (stAt (FN 55).body 1)) 1)) 0))) (x::xs) (zag (some v1) (some v2) (some v3) (some v4) (some v5) v6 v7) (fun l=>exsL (XX C md 58 55) (List.drop 1 (forB (stAt (forB (stAt (FN 55).body 1)) 1))) l kl)=chk.bind fun _=>zba AA GG C md (fun v1' v2' v3' v4' v5' v6' v7'=>zam chk (FN 55).scope (forT (stAt (forB (stAt (forB (stAt (FN 55).body 1)) 1)) 0)) (exsL (XX C md 57 55) (forB (stAt (forB (stAt (forB (stAt (FN 55).body 1)) 1)) 0))) xs (zag (some v1') (some v2') (some v3') (some v4') (some v5') v6' v7') (fun l=>exsL (XX C md 58 55) (List.drop 1 (forB (stAt (forB (stAt (FN 55).body 1)) 1))) l kl)) v1 v2 v3 v4 v5 v6 v7 x:=by kernel_rfl
  rw [k] at e
  exact e
theorem zdq(C:zad)(md:Md)(kl:LL→M PV)(chk:M Unit):∀(xs:List PV)(v1:PV)(v2:PV)(v3:PV)(v4:PV)(v5:Option PV)(v6:Option PV)(v7:Option PV),zam chk (FN 55).scope (forT (stAt (forB (stAt (FN 55).body 1)) 1)) (exsL (XX C md 58 55) (forB (stAt (forB (stAt (FN 55).body 1)) 1))) xs (zag (some v1) (some v2) (some v3) (some v4) v5 v6 v7) (fun l=>exsL (XX C md 59 55) (List.drop 2 (forB (stAt (FN 55).body 1))) l kl)=zao AA GG C md (fun v1' v2' v3' v4' v5' v6' v7'=>kl (zag (some v1') (some v2') v3' v4' v5' v6' v7')) chk xs v1 v2 v3 v4 v5 v6 v7:=by
 intro xs
 induction xs with
 | nil=>
  intro v1 v2 v3 v4 v5 v6 v7
  have e:(fun l=>exsL (XX C md 59 55) (List.drop 2 (forB (stAt (FN 55).body 1))) l kl) (zag (some v1) (some v2) (some v3) (some v4) v5 v6 v7)=zbv AA GG C md (fun v1' v2' v3' v4' v5' v6' v7'=>kl (zag (some v1') (some v2') v3' v4' v5' v6' v7')) v1 v2 v3 v4 v5 v6 v7:=by kernel_rfl
  show (chk.bind fun _=>(fun l=>exsL (XX C md 59 55) (List.drop 2 (forB (stAt (FN 55).body 1))) l kl) (zag (some v1) (some v2) (some v3) (some v4) v5 v6 v7))=chk.bind fun _=>zbv AA GG C md (fun v1' v2' v3' v4' v5' v6' v7'=>kl (zag (some v1') (some v2') v3' v4' v5' v6' v7')) v1 v2 v3 v4 v5 v6 v7
  rw [e]
 | cons x xs ih=>
  intro v1 v2 v3 v4 v5 v6 v7
  have k:(fun v1' v2' v3' v4' v5' v6' v7'=>zam chk (FN 55).scope (forT (stAt (forB (stAt (FN 55).body 1)) 1)) (exsL (XX C md 58 55) (forB (stAt (forB (stAt (FN 55).body 1)) 1))) xs (zag (some v1') (some v2') (some v3') (some v4') v5' v6' v7') (fun l=>exsL (XX C md 59 55) (List.drop 2 (forB (stAt (FN 55).body 1))) l kl))=zao AA GG C md (fun v1' v2' v3' v4' v5' v6' v7'=>kl (zag (some v1') (some v2') v3' v4' v5' v6' v7')) chk xs:=by funext s0 s1 s2 s3 s4 s5 s6;exact ih s0 s1 s2 s3 s4 s5 s6
  have q3:(fun chk' xs' v1' v2' v3' v4' v5' v6' v7'=>zam chk' (FN 55).scope (forT (stAt (forB (stAt (forB (stAt (FN 55).body 1)) 1)) 0)) (exsL (XX C md 57 55) (forB (stAt (forB (stAt (forB (stAt (FN 55).body 1)) 1)) 0))) xs' (zag (some v1') (some v2') (some v3') (some v4') (some v5') v6' v7') (fun l=>exsL (XX C md 58 55) (List.drop 1 (forB (stAt (forB (stAt (FN 55).body 1)) 1))) l (fun l=>zam chk (FN 55).scope (forT (stAt (forB (stAt (FN 55).body 1)) 1)) (exsL (XX C md 58 55) (forB (stAt (forB (stAt (FN 55).body 1)) 1))) xs l (fun l=>exsL (XX C md 59 55) (List.drop 2 (forB (stAt (FN 55).body 1))) l kl))))=zaA AA GG C md (zao AA GG C md (fun v1' v2' v3' v4' v5' v6' v7'=>kl (zag (some v1') (some v2') v3' v4' v5' v6' v7')) chk xs):=by rw [← k];funext s0 s1 s2 s3 s4 s5 s6 s7 s8;exact zdp C md (fun l=>zam chk (FN 55).scope (forT (stAt (forB (stAt (FN 55).body 1)) 1)) (exsL (XX C md 58 55) (forB (stAt (forB (stAt (FN 55).body 1)) 1))) xs l (fun l=>exsL (XX C md 59 55) (List.drop 2 (forB (stAt (FN 55).body 1))) l kl)) s0 s1 s2 s3 s4 s5 s6 s7 s8
  have e:zam chk (FN 55).scope (forT (stAt (forB (stAt (FN 55).body 1)) 1)) (exsL (XX C md 58 55) (forB (stAt (forB (stAt (FN 55).body 1)) 1))) (x::xs) (zag (some v1) (some v2) (some v3) (some v4) v5 v6 v7) (fun l=>exsL (XX C md 59 55) (List.drop 2 (forB (stAt (FN 55).body 1))) l kl)=chk.bind fun _=>zds AA GG C md (fun chk' xs' v1' v2' v3' v4' v5' v6' v7'=>zam chk' (FN 55).scope (forT (stAt (forB (stAt (forB (stAt (FN 55).body 1)) 1)) 0)) (exsL (XX C md 57 55) (forB (stAt (forB (stAt (forB (stAt (FN 55).body 1)) 1)) 0))) xs' (zag (some v1') (some v2') (some v3') (some v4') (some v5') v6' v7') (fun l=>exsL (XX C md 58 55) (List.drop 1 (forB (stAt (forB (stAt (FN 55).body 1)) 1))) l (fun l=>zam chk (FN 55).scope (forT (stAt (forB (stAt (FN 55).body 1)) 1)) (exsL (XX C md 58 55) (forB (stAt (forB (stAt (FN 55).body 1)) 1))) xs l (fun l=>exsL (XX C md 59 55) (List.drop 2 (forB (stAt (FN 55).body 1))) l kl)))) (fun v1' v2' v3' v4' v5' v6' v7'=>zam chk (FN 55).scope (forT (stAt (forB (stAt (FN 55).body 1)) 1)) (exsL (XX C md 58 55) (forB (stAt (forB (stAt (FN 55).body 1)) 1))) xs (zag (some v1') (some v2') (some v3') (some v4') v5' v6' v7') (fun l=>exsL (XX C md 59 55) (List.drop 2 (forB (stAt (FN 55).body 1))) l kl)) v1 v2 v3 v4 v5 v6 v7 x:=by kernel_rfl
  rw [k,q3] at e
  exact e
theorem zdr(C:zad)(md:Md)(chk:M Unit):∀(xs:List PV)(v1:PV)(v2:PV)(v3:Option PV)(v4:Option PV)(v5:Option PV)(v6:Option PV)(v7:Option PV),zam chk (FN 55).scope (forT (stAt (FN 55).body 1)) (exsL (XX C md 59 55) (forB (stAt (FN 55).body 1))) xs (zag (some v1) (some v2) v3 v4 v5 v6 v7) (XK C md 60 55 2)=zav AA GG C md  chk xs v1 v2 v3 v4 v5 v6 v7:=by
 intro xs
 induction xs with
 | nil=>
  intro v1 v2 v3 v4 v5 v6 v7
  have e:(XK C md 60 55 2) (zag (some v1) (some v2) v3 v4 v5 v6 v7)=zb8 AA GG C md  v1 v2 v3 v4 v5 v6 v7:=by kernel_rfl
  show (chk.bind fun _=>(XK C md 60 55 2) (zag (some v1) (some v2) v3 v4 v5 v6 v7))=chk.bind fun _=>zb8 AA GG C md  v1 v2 v3 v4 v5 v6 v7
  rw [e]
 | cons x xs ih=>
  intro v1 v2 v3 v4 v5 v6 v7
  have k:(fun v1' v2' v3' v4' v5' v6' v7'=>zam chk (FN 55).scope (forT (stAt (FN 55).body 1)) (exsL (XX C md 59 55) (forB (stAt (FN 55).body 1))) xs (zag (some v1') (some v2') v3' v4' v5' v6' v7') (XK C md 60 55 2))=zav AA GG C md  chk xs:=by funext s0 s1 s2 s3 s4 s5 s6;exact ih s0 s1 s2 s3 s4 s5 s6
  have q2:(fun chk' xs' v1' v2' v3' v4' v5' v6' v7'=>zam chk' (FN 55).scope (forT (stAt (forB (stAt (FN 55).body 1)) 1)) (exsL (XX C md 58 55) (forB (stAt (forB (stAt (FN 55).body 1)) 1))) xs' (zag (some v1') (some v2') (some v3') (some v4') v5' v6' v7') (fun l=>exsL (XX C md 59 55) (List.drop 2 (forB (stAt (FN 55).body 1))) l (fun l=>zam chk (FN 55).scope (forT (stAt (FN 55).body 1)) (exsL (XX C md 59 55) (forB (stAt (FN 55).body 1))) xs l (XK C md 60 55 2))))=zao AA GG C md (zav AA GG C md  chk xs):=by rw [← k];funext s0 s1 s2 s3 s4 s5 s6 s7 s8;exact zdq C md (fun l=>zam chk (FN 55).scope (forT (stAt (FN 55).body 1)) (exsL (XX C md 59 55) (forB (stAt (FN 55).body 1))) xs l (XK C md 60 55 2)) s0 s1 s2 s3 s4 s5 s6 s7 s8
  have e:zam chk (FN 55).scope (forT (stAt (FN 55).body 1)) (exsL (XX C md 59 55) (forB (stAt (FN 55).body 1))) (x::xs) (zag (some v1) (some v2) v3 v4 v5 v6 v7) (XK C md 60 55 2)=chk.bind fun _=>zdt AA GG C md (fun chk' xs' v1' v2' v3' v4' v5' v6' v7'=>zam chk' (FN 55).scope (forT (stAt (forB (stAt (FN 55).body 1)) 1)) (exsL (XX C md 58 55) (forB (stAt (forB (stAt (FN 55).body 1)) 1))) xs' (zag (some v1') (some v2') (some v3') (some v4') v5' v6' v7') (fun l=>exsL (XX C md 59 55) (List.drop 2 (forB (stAt (FN 55).body 1))) l (fun l=>zam chk (FN 55).scope (forT (stAt (FN 55).body 1)) (exsL (XX C md 59 55) (forB (stAt (FN 55).body 1))) xs l (XK C md 60 55 2)))) (fun v1' v2' v3' v4' v5' v6' v7'=>zam chk (FN 55).scope (forT (stAt (FN 55).body 1)) (exsL (XX C md 59 55) (forB (stAt (FN 55).body 1))) xs (zag (some v1') (some v2') v3' v4' v5' v6' v7') (XK C md 60 55 2)) v1 v2 v3 v4 v5 v6 v7 x:=by kernel_rfl
  rw [k,q2] at e
  exact e
theorem zhB(C:zad)(md:Md)(v1:PV):zak GG C md AA.l_settings [v1]=zee AA GG C md v1:=by
 have r1:(fun chk' xs' v1' v2' v3' v4' v5' v6' v7'=>zam chk' (FN 55).scope (forT (stAt (FN 55).body 1)) (exsL (XX C md 59 55) (forB (stAt (FN 55).body 1))) xs' (zag (some v1') (some v2') v3' v4' v5' v6' v7') (XK C md 60 55 2))=zav AA GG C md:=by funext s0 s1 s2 s3 s4 s5 s6 s7 s8;exact zdr C md s0 s1 s2 s3 s4 s5 s6 s7 s8
 have e:zak GG C md AA.l_settings [v1]=zcx AA GG C md (fun chk' xs' v1' v2' v3' v4' v5' v6' v7'=>zam chk' (FN 55).scope (forT (stAt (FN 55).body 1)) (exsL (XX C md 59 55) (forB (stAt (FN 55).body 1))) xs' (zag (some v1') (some v2') v3' v4' v5' v6' v7') (XK C md 60 55 2)) v1:=by kernel_rfl
 rw [r1] at e
 exact e
noncomputable def ziw(A:Adr)(G:Gl)(C:zad)(md:Md)(v1:PV):M PV:=
 (ifM ((zaf v1 (.int 0)).bind fun v2=>(zac .Eq v2 (.str "name")))
 (M.ret (.bool true))
 (ifM ((zaf v1 (.int 0)).bind fun v3=>(zac .Eq v3 (.str "not")))
 (andM (((zaf v1 (.int 1)).bind fun v4=>(zaf v4 (.int 0))).bind fun v5=>(zac .NotIn v5 (.tup [(.str "yes"),(.str "no"),(.str "not")]))) ((seqM [(zaf v1 (.int 1))]).bind fun v6=>(C md A.l_is_neat v6)))
 (ifM (orM ((zaf v1 (.int 1)).bind fun v7=>((zaf v1 (.int 2)).bind fun v8=>(zac .Eq v7 v8))) (orM (((zaf v1 (.int 1)).bind fun v9=>(zaf v9 (.int 0))).bind fun v10=>(zac .In v10 (.tup [(.str "yes"),(.str "no")]))) (((zaf v1 (.int 2)).bind fun v11=>(zaf v11 (.int 0))).bind fun v12=>(zac .In v12 (.tup [(.str "yes"),(.str "no")])))))
 (M.ret (.bool false))
 (andM ((seqM [(zaf v1 (.int 1))]).bind fun v13=>(C md A.l_is_neat v13)) ((seqM [(zaf v1 (.int 2))]).bind fun v14=>(C md A.l_is_neat v14))))))
theorem zc1(C:zad)(md:Md)(v1:PV):zak GG C md AA.l_is_neat [v1]=ziw AA GG C md v1:=by kernel_rfl
noncomputable def zdR(A:Adr)(G:Gl)(C:zad)(md:Md)(v1:PV):M PV:=
 (orM (zac .In v1 (.tup [(.tup [(.str "yes")]),(.tup [(.str "no")])])) (andM ((zaf v1 (.int 0)).bind fun v2=>(zac .NotIn v2 (.tup [(.str "yes"),(.str "no")]))) (C md A.l_is_neat [v1])))
theorem zdQ(C:zad)(md:Md)(v1:PV):zak GG C md AA.l_is_neat_whole [v1]=zdR AA GG C md v1:=by kernel_rfl
noncomputable def znx(A:Adr)(G:Gl)(C:zad)(md:Md)(v1 v2:PV):M PV:=
 ((opM false .Mod v1 (.int 6)).bind fun v3=>
 ((opM false .FloorDiv v1 (.int 6)).bind fun v4=>
 (((zde ((biM md false "len" [v2]).bind fun v5=>(opM false .Sub v5 (.int 1)))).bind fun v6=>(cutM false v2 (some 1) v6)).bind fun v7=>
 (((seqM [(M.ret v4),((opM false .Mod v4 (.int 6)).bind fun v8=>(opM false .Add (.int 1) v8)),(M.ret v7)]).bind fun v9=>(C md A.l_saying v9)).bind fun v10=>
 (((seqM [((opM false .FloorDiv v4 (.int 6)).bind fun v11=>(opM false .Add v11 (.int 5))),(((opM false .FloorDiv v4 (.int 6)).bind fun v12=>(opM false .Mod v12 (.int 5))).bind fun v13=>(opM false .Add (.int 1) v13)),(cutM false v2 Option.none (some (-1)))]).bind fun v14=>(C md A.l_saying v14)).bind fun v15=>
 (((seqM [((opM false .FloorDiv v4 (.int 30)).bind fun v16=>(opM false .Add v16 (.int 9))),(((opM false .FloorDiv v4 (.int 30)).bind fun v17=>(opM false .Mod v17 (.int 5))).bind fun v18=>(opM false .Add (.int 1) v18)),(cutM false v2 (some 1) Option.none)]).bind fun v19=>(C md A.l_saying v19)).bind fun v20=>
 (ifM (zac .Eq v3 (.int 0))
 (M.ret (.tup [(.tup [(.str "and"),v10,v15]),(.tup [(.str "or"),v20,v10])]))
 (ifM (zac .Eq v3 (.int 1))
 (M.ret (.tup [(.tup [(.str "and"),v15,(.tup [(.str "not"),v10])]),(.tup [(.str "not"),(.tup [(.str "and"),v10,v20])])]))
 (ifM (zac .Eq v3 (.int 2))
 (((seqM [((opM false .FloorDiv v4 (.int 7)).bind fun v21=>(opM false .Add v21 (.int 3))),(((opM false .FloorDiv v4 (.int 7)).bind fun v22=>(opM false .Mod v22 (.int 4))).bind fun v23=>(opM false .Add (.int 1) v23)),(M.ret v7)]).bind fun v24=>(C md A.l_saying v24)).bind fun v25=>
 (M.ret (.tup [(.tup [(.str "and"),v15,(.tup [(.str "or"),v10,v25])]),(.tup [(.str "or"),(.tup [(.str "or"),v25,v10]),v20])])))
 (ifM (zac .Eq v3 (.int 3))
 (M.ret (.tup [(.tup [(.str "and"),(.tup [(.str "or"),v15,v10]),(.tup [(.str "not"),v15])]),(.tup [(.str "or"),(.tup [(.str "and"),v10,v20]),(.tup [(.str "and"),v10,(.tup [(.str "not"),v20])])])]))
 ((seqM [((seqM [(M.ret v4),((opM false .Mod v4 (.int 14)).bind fun v26=>(opM false .Add (.int 1) v26)),(cutM false v2 Option.none (some (-1)))]).bind fun v27=>(C md A.l_saying v27)),((seqM [((opM false .FloorDiv v4 (.int 14)).bind fun v28=>(opM false .Add v28 (.int 1))),(((opM false .FloorDiv v4 (.int 14)).bind fun v29=>(opM false .Mod v29 (.int 14))).bind fun v30=>(opM false .Add (.int 1) v30)),(cutM false v2 (some 1) Option.none)]).bind fun v31=>(C md A.l_saying v31))]).bind fun v32=>(M.ret (.tup v32)))))))))))))
theorem znw(C:zad)(md:Md)(v1 v2:PV):zak GG C md AA.l_pair [v1,v2]=znx AA GG C md v1 v2:=by kernel_rfl
noncomputable def zbD(A:Adr)(G:Gl)(C:zad)(md:Md)(kk:PV→PV→PV→PV→PV→Option PV→Option PV→M PV)(v1:PV)(v2:PV)(v3:PV)(v4:PV)(v5:PV)(v6:Option PV)(v7:Option PV)(v8:PV):M PV:=
 ((zaU md false (zat (.tup [v1,v3,v2])) fun v9=>(C md.inn A.l_true [v9,v8]).bind fun v10=>M.ret (some v10)).bind fun v11=>
 (ifM (orM (andM (zaf v11 (.int 0)) (notM (zaf v11 (.int 1)))) (andM (zaf v11 (.int 1)) (notM (zaf v11 (.int 2)))))
 (M.ret (.bool false))
 (kk v1 v2 v3 v4 v5 (some v8) (some v11))))
noncomputable def zbE(A:Adr)(G:Gl)(C:zad)(md:Md)  (v1:PV) (v2:PV) (v3:PV) (v4:PV) (v5:PV) (v6:Option PV) (v7:Option PV):M PV:=
 (M.ret (.bool true))
noncomputable def zaD(A:Adr)(G:Gl)(C:zad)(md:Md)(chk:M Unit):List PV→PV→PV→PV→PV→PV→Option PV→Option PV→M PV
 | [],v1,v2,v3,v4,v5,v6,v7=>chk.bind fun _=>zbE A G C md v1 v2 v3 v4 v5 v6 v7
 | x::xs,v1,v2,v3,v4,v5,v6,v7=>chk.bind fun _=>zbD A G C md (zaD A G C md chk xs) v1 v2 v3 v4 v5 v6 v7 x
noncomputable def zbP(A:Adr)(G:Gl)(C:zad)(md:Md)(F1:M Unit→List PV→PV→PV→PV→PV→PV→Option PV→Option PV→M PV)(v1 v2 v3 v4:PV):M PV:=
 (ifM (orM (notM (C md A.l_is_saying [v3])) (notM (C md A.l_is_neat_whole [v3])))
 (M.ret (.bool false))
 ((zaU md false ((C md A.l_met [v1]).bind zat) fun v5=>((C md.inn A.l_met [v2]).bind fun v6=>(zac .In v5 v6)).bind fun v7=>(zap v7).bind fun v8=>M.cond v8 (M.ret (some v5)) (M.ret Option.none)).bind fun v9=>
 (ifM ((zaU md false ((C md A.l_met [v3]).bind zat) fun v10=>(zac .NotIn v10 v9).bind fun v11=>(zap v11).bind fun v12=>M.cond v12 (M.ret (some v10)) (M.ret Option.none)).bind fun v13=>(zac .NotEq v13 (.lst [])))
 (M.ret (.bool false))
 (M.cond (md.lp&&true) (((C md A.l_settings [v4]).bind zat).bind fun v14=>F1 (chkW v14.watch) v14.xs v1 v2 v3 v4 v9 Option.none Option.none) M.fail))))
noncomputable def zcU(A:Adr)(G:Gl)(C:zad)(md:Md)(v1 v2 v3 v4:PV):M PV:=zbP A G C md (zaD A G C md) v1 v2 v3 v4
noncomputable def zaB(v1 v2 v3 v4 v5 v6 v7:Option PV):LL:=[("_law_first",v1),("_law_second",v2),("_law_found",v3),("_law_names_here",v4),("_law_both",v5),("_law_setting",v6),("_law_truths",v7)]
theorem zcK(C:zad)(md:Md)(chk:M Unit):∀(xs:List PV)(v1:PV)(v2:PV)(v3:PV)(v4:PV)(v5:PV)(v6:Option PV)(v7:Option PV),zam chk (FN 59).scope (forT (stAt (FN 59).body 3)) (exsL (XX C md 59 59) (forB (stAt (FN 59).body 3))) xs (zaB (some v1) (some v2) (some v3) (some v4) (some v5) v6 v7) (XK C md 60 59 4)=zaD AA GG C md  chk xs v1 v2 v3 v4 v5 v6 v7:=by
 intro xs
 induction xs with
 | nil=>
  intro v1 v2 v3 v4 v5 v6 v7
  have e:(XK C md 60 59 4) (zaB (some v1) (some v2) (some v3) (some v4) (some v5) v6 v7)=zbE AA GG C md  v1 v2 v3 v4 v5 v6 v7:=by kernel_rfl
  show (chk.bind fun _=>(XK C md 60 59 4) (zaB (some v1) (some v2) (some v3) (some v4) (some v5) v6 v7))=chk.bind fun _=>zbE AA GG C md  v1 v2 v3 v4 v5 v6 v7
  rw [e]
 | cons x xs ih=>
  intro v1 v2 v3 v4 v5 v6 v7
  have k:(fun v1' v2' v3' v4' v5' v6' v7'=>zam chk (FN 59).scope (forT (stAt (FN 59).body 3)) (exsL (XX C md 59 59) (forB (stAt (FN 59).body 3))) xs (zaB (some v1') (some v2') (some v3') (some v4') (some v5') v6' v7') (XK C md 60 59 4))=zaD AA GG C md  chk xs:=by funext s0 s1 s2 s3 s4 s5 s6;exact ih s0 s1 s2 s3 s4 s5 s6
  have e:zam chk (FN 59).scope (forT (stAt (FN 59).body 3)) (exsL (XX C md 59 59) (forB (stAt (FN 59).body 3))) (x::xs) (zaB (some v1) (some v2) (some v3) (some v4) (some v5) v6 v7) (XK C md 60 59 4)=chk.bind fun _=>zbD AA GG C md (fun v1' v2' v3' v4' v5' v6' v7'=>zam chk (FN 59).scope (forT (stAt (FN 59).body 3)) (exsL (XX C md 59 59) (forB (stAt (FN 59).body 3))) xs (zaB (some v1') (some v2') (some v3') (some v4') (some v5') v6' v7') (XK C md 60 59 4)) v1 v2 v3 v4 v5 v6 v7 x:=by kernel_rfl
  rw [k] at e
  exact e
theorem zft(C:zad)(md:Md)(v1 v2 v3 v4:PV):zak GG C md AA.l_is_between [v1,v2,v3,v4]=zcU AA GG C md v1 v2 v3 v4:=by
 have r1:(fun chk' xs' v1' v2' v3' v4' v5' v6' v7'=>zam chk' (FN 59).scope (forT (stAt (FN 59).body 3)) (exsL (XX C md 59 59) (forB (stAt (FN 59).body 3))) xs' (zaB (some v1') (some v2') (some v3') (some v4') (some v5') v6' v7') (XK C md 60 59 4))=zaD AA GG C md:=by funext s0 s1 s2 s3 s4 s5 s6 s7 s8;exact zcK C md s0 s1 s2 s3 s4 s5 s6 s7 s8
 have e:zak GG C md AA.l_is_between [v1,v2,v3,v4]=zbP AA GG C md (fun chk' xs' v1' v2' v3' v4' v5' v6' v7'=>zam chk' (FN 59).scope (forT (stAt (FN 59).body 3)) (exsL (XX C md 59 59) (forB (stAt (FN 59).body 3))) xs' (zaB (some v1') (some v2') (some v3') (some v4') (some v5') v6' v7') (XK C md 60 59 4)) v1 v2 v3 v4:=by kernel_rfl
 rw [r1] at e
 exact e
noncomputable def zhD(A:Adr)(G:Gl)(C:zad)(md:Md)(v1 v2 v3 v4:PV):M PV:=
 (ifM (orM (notM (isM G (.bi .tuple) v3)) (orM ((biM md false "len" [v3]).bind fun v5=>(zac .NotEq v5 (.int 2))) (notM ((zaf v3 (.int 0)).bind fun v6=>(isM G (.bi .str) v6)))))
 (M.ret (.bool false))
 (ifM ((zaf v3 (.int 0)).bind fun v7=>(zac .Eq v7 (.str "between")))
 ((seqM [(M.ret v1),(M.ret v2),(zaf v3 (.int 1)),(M.ret v4)]).bind fun v8=>(C md A.l_is_between v8))
 (ifM (orM ((zaf v3 (.int 0)).bind fun v9=>(zac .NotEq v9 (.str "setting"))) (notM ((zaf v3 (.int 1)).bind fun v10=>(isM G (.bi .dict) v10))))
 (M.ret (.bool false))
 ((((C md A.l_met [v1]).bind fun v11=>((C md A.l_met [v2]).bind fun v12=>(opM false .Add v11 v12))).bind fun v13=>(zet md false v13)).bind fun v14=>
 (ifM (orM (((seqM [((seqM [(zaf v3 (.int 1))]).bind fun v15=>(biM md false "list" v15))]).bind fun v16=>(biM md false "sorted" v16)).bind fun v17=>(zac .NotEq v17 v14)) ((zaU md false (zat v14) fun v18=>(notM (((zaf v3 (.int 1)).bind fun v19=>(zaf v19 v18)).bind fun v20=>(isM G (.bi .bool) v20))).bind fun v21=>(zap v21).bind fun v22=>M.cond v22 (M.ret (some v18)) (M.ret Option.none)).bind fun v23=>(zac .NotEq v23 (.lst []))))
 (M.ret (.bool false))
 (andM ((seqM [(M.ret v1),(zaf v3 (.int 1))]).bind fun v24=>(C md A.l_true v24)) (notM ((seqM [(M.ret v2),(zaf v3 (.int 1))]).bind fun v25=>(C md A.l_true v25)))))))))
theorem zhC(C:zad)(md:Md)(v1 v2 v3 v4:PV):zak GG C md AA.l_right [v1,v2,v3,v4]=zhD AA GG C md v1 v2 v3 v4:=by kernel_rfl
noncomputable def zqs(A:Adr)(G:Gl)(C:zad)(md:Md)(v1:PV):M PV:=
 (((seqM [(C md A.l_cell_at [v1,(.int 1)]),(((C md A.l_cell_at [v1,(.int 0)]).bind fun v2=>(opM false .Mod v2 (.int 3))).bind fun v3=>(opM false .Add (.int 3) v3))]).bind fun v4=>(C md A.l_names v4)).bind fun v5=>
 (M.cond (md.lp&&true) (((seqM [(C md A.l_cell_at [v1,(.int 2)]),(M.ret v5)]).bind fun v6=>(C md A.l_pair v6)).bind fun v7=>(tup2 v7 fun v8 v9=>
 ((C md A.leads [v8,v9]).bind fun v10=>
 (ifM (notM (C md A.l_right [v8,v9,v10,v5]))
 (M.ret (.bool false))
 (ifM ((zaf v10 (.int 0)).bind fun v11=>(zac .Eq v11 (.str "setting")))
 (((zaf v10 (.int 1)).bind fun v12=>(zfs md false "clear" v12 (M.ret []))).bind fun _=>
 (ifM (notM ((seqM [(M.ret v8),(M.ret v9),(C md A.leads [v8,v9]),(M.ret v5)]).bind fun v13=>(C md A.l_right v13)))
 (M.ret (.bool false))
 ((C md A.leads [(.tup [(.str "not"),v9]),(.tup [(.str "not"),v8])]).bind fun v14=>
 (andM ((zaf v14 (.int 0)).bind fun v15=>((zaf v10 (.int 0)).bind fun v16=>(zac .Eq v15 v16))) (C md A.l_right [(.tup [(.str "not"),v9]),(.tup [(.str "not"),v8]),v14,v5])))))
 (ifM (notM ((seqM [(M.ret v8),(M.ret v9),(C md A.leads [v8,v9]),(M.ret v5)]).bind fun v17=>(C md A.l_right v17)))
 (M.ret (.bool false))
 ((C md A.leads [(.tup [(.str "not"),v9]),(.tup [(.str "not"),v8])]).bind fun v18=>
 (andM ((zaf v18 (.int 0)).bind fun v19=>((zaf v10 (.int 0)).bind fun v20=>(zac .Eq v19 v20))) (C md A.l_right [(.tup [(.str "not"),v9]),(.tup [(.str "not"),v8]),v18,v5]))))))))) M.fail))
theorem zrg(C:zad)(md:Md)(v1:PV):zak GG C md AA.law [v1]=zqs AA GG C md v1:=by kernel_rfl
theorem zqQ{α:Type}(x y:M α):M.cond true x y=x:=rfl
theorem zpN{α:Type}(x y:M α):M.cond false x y=y:=rfl
theorem c_t{α:Type}{b:Bool}{x y:M α}(h:b=true):M.cond b x y=x:=by rw [h];rfl
theorem c_f{α:Type}{b:Bool}{x y:M α}(h:b=false):M.cond b x y=y:=by rw [h];rfl
theorem tr_b(b:Bool):zap (.bool b)=M.ret b:=rfl
theorem bd{α β:Type}{x:M α}{a:α}{f:α→M β}(h:x=M.ret a):x.bind f=f a:=by rw [h];rfl
theorem if_t{α:Type}{x:M PV}{a b:M α}(h:x=M.ret (.bool true)):ifM x a b=a:=by rw [h];rfl
theorem if_f{α:Type}{x:M PV}{a b:M α}(h:x=M.ret (.bool false)):ifM x a b=b:=by rw [h];rfl
theorem if_b{α:Type}{x:M PV}{a b:M α}{c:Bool}(h:x=M.ret (.bool c)):ifM x a b=M.cond c a b:=by rw [h];rfl
theorem or_t{x y:M PV}(h:x=M.ret (.bool true)):orM x y=M.ret (.bool true):=by rw [h];rfl
theorem or_f{x y:M PV}(h:x=M.ret (.bool false)):orM x y=y:=by rw [h];rfl
theorem zgR{x y:M PV}(h:x=M.ret (.bool true)):andM x y=y:=by rw [h];rfl
theorem zqY{x y:M PV}(h:x=M.ret (.bool false)):andM x y=M.ret (.bool false):=by rw [h];rfl
theorem or_b{x y:M PV}{b c:Bool}(h:x=M.ret (.bool b))(h':y=M.ret (.bool c)):orM x y=M.ret (.bool (b || c)):=by
 cases b with
 | true=>exact or_t h
 | false=>exact (or_f h).trans h'
theorem zkE{x y:M PV}{b c:Bool}(h:x=M.ret (.bool b))(h':y=M.ret (.bool c)):andM x y=M.ret (.bool (b&&c)):=by
 cases b with
 | true=>exact (zgR h).trans h'
 | false=>exact zqY h
theorem zcf{x:M PV}{b:Bool}(h:x=M.ret (.bool b)):notM x=M.ret (.bool !b):=by rw [h];rfl
theorem sq1{x:M PV}{a:PV}(h:x=M.ret a):seqM [x]=M.ret [a]:=by rw [h];rfl
theorem sq2{x y:M PV}{a b:PV}(h:x=M.ret a)(h':y=M.ret b):seqM [x,y]=M.ret [a,b]:=by rw [h,h'];rfl
theorem sq3{x y z:M PV}{a b c:PV}(h:x=M.ret a)(h':y=M.ret b)(h'':z=M.ret c):seqM [x,y,z]=M.ret [a,b,c]:=by rw [h,h',h''];rfl
theorem zaj{d:Nat}{md:Md}{a:Addr}{vs:List PV}{x:M PV}(h:zak GG (zah GG d) md a vs=x):zah GG (d+1) md a vs=x:=(zd4 GG d md a vs).trans h
theorem c_lt(a b:Int):zac .Lt (.int a) (.int b)=M.ret (.bool (decide (a<b))):=rfl
theorem c_le(a b:Int):zac .LtE (.int a) (.int b)=M.ret (.bool (decide (a≤b))):=rfl
theorem zoi(a b:Int):zac .Eq (.int a) (.int b)=M.ret (.bool (a==b)):=rfl
theorem zqo(a b:Int):zac .NotEq (.int a) (.int b)=M.ret (.bool !(a==b)):=rfl
theorem zbX(a b:Str):zac .Eq (.str a) (.str b)=M.ret (.bool (a==b)):=rfl
theorem sub_int(mu:Bool)(a b:Int):opM mu .Sub (.int a) (.int b)=M.ret (.int (a-b)):=rfl
theorem add_int(mu:Bool)(a b:Int):opM mu .Add (.int a) (.int b)=M.ret (.int (a+b)):=rfl
theorem za9{i:Int}(h:-1000000≤i)(h':i≤1000000):zbq i=true:=by
 unfold zbq
 rw [Bool.and_eq_true,decide_eq_true_eq,decide_eq_true_eq]
 lia
theorem zhx(mu:Bool)(a b:Int)(h:-1000000≤b)(h':b≤1000000):opM mu .Mult (.int a) (.int b)=M.ret (.int (a*b)):=c_t (by rw [za9 h h',Bool.or_true])
theorem zlW(mu:Bool)(a b:Int)(h:-1000000≤a)(h':a≤1000000):opM mu .Mult (.int a) (.int b)=M.ret (.int (a*b)):=c_t (by rw [za9 h h',Bool.true_or])
theorem zcv(mu:Bool)(a b:Int)(h:0<b):opM mu .Mod (.int a) (.int b)=M.ret (.int (a.fmod b)):=c_t (decide_eq_true h)
theorem zbc(mu:Bool)(a b:Int)(h:0<b)(h':b<1000000):opM mu .FloorDiv (.int a) (.int b)=M.ret (.int (a.fdiv b)):=c_t (by rw [decide_eq_true h,decide_eq_true (show b<1073741824 by lia)];rfl)
theorem zaE(a:Int){b:Nat}(h:0<b):∃ k:Nat,a.fmod b=k∧k<b:=by
 have h1:0≤a.fmod b:=Int.fmod_nonneg_of_pos a (by exact Int.ofNat_lt.mpr ‹_›)
 have h2:a.fmod b<b:=Int.fmod_lt_of_pos a (by exact Int.ofNat_lt.mpr ‹_›)
 exact ⟨(a.fmod b).toNat,by lia,by lia⟩
theorem ziP{α:Type}{xs:List α}{k:Nat}{x:α}(h:xs[k]?=some x)(hk:k≤1000000):atI xs (k:Int)=some x:=by
 unfold atI
 rw [za9 (by lia) (by lia)]
 have hlt:=(List.getElem?_eq_some_iff.mp h).1
 have h1:¬ ((k:Int)<0):=by lia
 have h2:(k:Int)<xs.length:=by exact Int.ofNat_lt.mpr ‹_›
 simp [seqIndex?,h1,h2,h]
theorem zfQ{xs:List PV}{k:Nat}{x:PV}(h:xs[k]?=some x)(hk:k≤1000000):zaf (.lst xs) (.int k)=M.ret x:=congrArg M.lift (ziP h hk)
theorem zhF{xs:List PV}{k:Nat}{x:PV}(h:xs[k]?=some x)(hk:k≤1000000):zaf (.tup xs) (.int k)=M.ret x:=congrArg M.lift (ziP h hk)
theorem ix_0(x:PV)(r:List PV):zaf (.tup (x::r)) (.int 0)=M.ret x:=zhF (k:=0) rfl (by decide)
theorem ix_1(x y:PV)(r:List PV):zaf (.tup (x::y::r)) (.int 1)=M.ret y:=zhF (k:=1) rfl (by decide)
theorem ix_2(x y z:PV)(r:List PV):zaf (.tup (x::y::z::r)) (.int 2)=M.ret z:=zhF (k:=2) rfl (by decide)
theorem zqv{s:Str}{k:Nat}{c:Nat}(h:s.cps.toList[k]?=some c)(hk:k≤1000000):zaf (.str s) (.int k)=M.ret (.str ⟨#[c]⟩):=bd (congrArg M.lift (ziP h hk))
theorem zmP(md:Md)(mu:Bool)(v:PV):biM md mu "len" [v]=(zpb v).bind fun n=>M.ret (.int n):=by kernel_rfl
theorem zqT(md:Md)(mu:Bool)(v:PV):biM md mu "all" [v]=M.cond md.lp ((items v).bind fun xs=>(M.lift (zbH xs)).bind fun bs=>M.ret (.bool (bs.all id))) M.fail:=by kernel_rfl
theorem zqS(md:Md)(mu:Bool)(v:PV):biM md mu "sum" [v]=M.cond md.lp ((items v).bind fun xs=>(M.lift (zeo xs)).bind fun ns=>M.cond (zeK 0 ns) (M.ret (.int ns.sum)) M.fail) M.fail:=by kernel_rfl
theorem zgp{n:Nat}(h:n≤1000000):zhA n=M.ret (n:Int):=c_t (decide_eq_true (by exact Nat.le_trans ‹_› (by decide)))
theorem zdP{md:Md}{mu:Bool}{xs:List PV}(h:xs.length≤1000000):biM md mu "len" [.lst xs]=M.ret (.int xs.length):=(zmP md mu _).trans (bd (zgp h))
theorem zeY{md:Md}{mu:Bool}{xs:List PV}(h:xs.length≤1000000):biM md mu "len" [.tup xs]=M.ret (.int xs.length):=(zmP md mu _).trans (bd (zgp h))
theorem len_str{md:Md}{mu:Bool}{s:Str}(h:s.length≤1000000):biM md mu "len" [.str s]=M.ret (.int s.length):=(zmP md mu _).trans (bd (zgp h))
theorem zbG{α:Type}(g:α→Bool):∀(l:List α),zbH (l.map fun x=>PV.bool (g x))=some (l.map g)
 | []=>rfl
 | x::r=>congrArg (zhR (g x)) (zbG g r)
theorem zgS{md:Md}{mu:Bool}{xs:List PV}{bs:List Bool}(hb:zbH xs=some bs)(hl:md.lp=true):biM md mu "all" [.lst xs]=M.ret (.bool (bs.all id)):=
 (zqT md mu _).trans ((c_t hl).trans (bd (congrArg M.lift hb)))
theorem zkZ{md:Md}{mu:Bool}{xs:List PV}{ns:List Int}(hb:zeo xs=some ns)(hs:zeK 0 ns=true)(hl:md.lp=true):biM md mu "sum" [.lst xs]=M.ret (.int ns.sum):=
 (zqS md mu _).trans ((c_t hl).trans ((bd (congrArg M.lift hb)).trans (c_t hs)))
noncomputable def zek(is:List Int)(k:Nat):Int:=is[k]?.getD 0
theorem zpM(C:zad)(md:Md)(is:List Int)(k:Nat)(hl:is.length≤63)(hk:k≤100):zak GG C md AA.l_cell_at [.lst (is.map .int),.int k]=M.ret (.int (zek is k)):=by
 refine (ziz C md _ _).trans ((if_b ((bd (zdP (by rw [List.length_map];exact Nat.le_trans ‹_› (by decide)))).trans (c_lt _ _))).trans ?_)
 rw [List.length_map]
 unfold zek
 by_cases h:k<is.length
 ·rw [decide_eq_true (by exact Int.ofNat_lt.mpr ‹_›),zqQ,zfQ (x:=.int is[k]) (by rw [List.getElem?_map,List.getElem?_eq_getElem h];rfl) (by exact Nat.le_trans ‹_› (by decide)),List.getElem?_eq_getElem h];rfl
 ·rw [decide_eq_false (by lia),zpN,List.getElem?_eq_none (Nat.le_of_not_lt h)];rfl
inductive Say where
 | yes | no
 | name (s:Str)
 | not (a:Say)
 | and (a b:Say)
 | or (a b:Say)
noncomputable def Say.pv:Say→PV
 | .yes=>.tup [.str "yes"]
 | .no=>.tup [.str "no"]
 | .name s=>.tup [.str "name",.str s]
 | .not a=>.tup [.str "not",a.pv]
 | .and a b=>.tup [.str "and",a.pv,b.pv]
 | .or a b=>.tup [.str "or",a.pv,b.pv]
noncomputable def Say.dep:Say→Nat
 | .yes=>1 | .no=>1 | .name _=>1
 | .not a=>a.dep+1
 | .and a b=>max a.dep b.dep+1
 | .or a b=>max a.dep b.dep+1
noncomputable def Say.sz:Say→Nat
 | .yes=>1 | .no=>1 | .name _=>1
 | .not a=>a.sz+1
 | .and a b=>a.sz+b.sz+1
 | .or a b=>a.sz+b.sz+1
noncomputable def letters:Str:="abcdefghijklmnopqrstuvwxyz"
structure NmOk (s:Str):Prop where
 lo:1≤s.length
 hi:s.length≤6
 let_:∀ c∈s.cps.toList,97≤c∧c≤122
 told:s≠"yes"∧s≠"no"∧s≠"not"∧s≠"and"∧s≠"or"
noncomputable def Say.Ok:Say→Prop
 | .yes=>True | .no=>True | .name s=>NmOk s
 | .not a=>a.Ok
 | .and a b=>a.Ok∧b.Ok
 | .or a b=>a.Ok∧b.Ok
theorem zpH(s:Say):0<s.dep:=by cases s <;> exact Nat.succ_pos _
theorem zdj{a b:Str}(h:a≠b):(a==b)=false:=by
 cases q:a==b with
 | false=>rfl
 | true=>exact (h (eq_of_beq q)).elim
theorem zl6{c:Nat}(h1:97≤c)(h2:c≤122):zgc ⟨#[c]⟩ letters=true:=by
 have key:∀ i:Fin 26,zgc ⟨#[97+i.val]⟩ letters=true:=by decide +kernel
 have:=key ⟨c-97,by lia⟩
 rwa [show 97+(c-97)=c from by lia] at this
theorem zhU{f:PV→M (Option PV)}{g:PV→PV}:∀(xs:List PV),(∀ x∈xs,f x=M.ret (some (g x)))→zaW (M.ret ()) f xs=M.ret (xs.map g)
 | [],_=>rfl
 | x::xs,h=>(bd (h x (.head _))).trans (bd (zhU xs fun y hy=>h y (.tail _ hy)))
theorem in_5(a x y z u v:Str):zac .In (.str a) (.tup [.str x,.str y,.str z,.str u,.str v])=M.ret (.bool ((x==a) || ((y==a) || ((z==a) || ((u==a) || ((v==a) || false)))))):=rfl
theorem zfg(l:List Nat):zd3 l=l.map fun c=>PV.str ⟨#[c]⟩:=by
 induction l with
 | nil=>rfl
 | cons c r ih=>exact congrArg _ ih
theorem zbQ{md:Md}{src:M Src}{xs:List PV}{f:PV→M (Option PV)}{ys:List PV}(hl:md.lp=true)(hs:src=M.ret ⟨xs,[]⟩)(hx:xs.length≤1000000) (h:zaW (M.ret ()) (fun x=>M.noErr (f x)) xs=M.ret ys):zaU md false src f=M.ret (.lst ys):=by
 unfold zaU
 rw [hl,hs]
 exact (c_t (decide_eq_true (by show xs.length≤2 ^ 20;exact Nat.le_trans ‹_› (by decide)))).trans (bd h)
theorem zfR(C:zad)(md:Md)(hl:md.lp=true){s:Str}(h:NmOk s):zak GG C md AA.is_name [.str s]=M.ret (.bool true):=by
 obtain ⟨t1,t2,t3,t4,t5⟩:=h.told
 have hlo:=h.lo
 have hhi:=h.hi
 have e1:(isM GG (.bi .str) (.str s))=M.ret (.bool true):=rfl
 have e2:((biM md false "len" [.str s]).bind fun b2=>((zac .LtE (.int 1) b2).bind fun c3=>(zap c3).bind fun t4=>M.cond t4 (zac .LtE b2 (.int 6)) (M.ret c3)))=M.ret (.bool true):=by
  refine (bd (len_str (by exact Nat.le_trans ‹_› (by decide)))).trans ((bd (c_le _ _)).trans ?_)
  rw [decide_eq_true (show (1:Int)≤s.length by exact Int.ofNat_lt.mpr ‹_›)]
  exact (c_le _ _).trans (by rw [decide_eq_true (show (s.length:Int)≤6 by lia)])
 refine (zhG C md _).trans ((if_f ((or_f (zcf e1)).trans ((or_f (zcf e2)).trans ((in_5 _ _ _ _ _ _).trans ?_)))).trans ?_)
 ·rw [zdj t1.symm,zdj t2.symm,zdj t3.symm,zdj t4.symm,zdj t5.symm];rfl
 ·have hc:zaW (M.ret ()) (fun x=>M.noErr ((zac .In x (.str letters)).bind fun y6=>M.ret (some y6))) (zd3 s.cps.toList)=M.ret ((zd3 s.cps.toList).map fun _=>PV.bool true):=zhU (g:=fun _=>PV.bool true) _ fun x hx=>by
   rw [zfg] at hx
   obtain ⟨c,hc,rfl⟩:=List.mem_map.mp hx
   obtain ⟨h1,h2⟩:=h.let_ c hc
   show M.noErr (M.ret (some (PV.bool (zgc ⟨#[c]⟩ letters))))=_
   rw [zl6 h1 h2];rfl
  refine (bd (sq1 (zbQ hl rfl (by rw [zfg,List.length_map];have:s.cps.toList.length≤6:=hhi;exact Nat.le_trans ‹_› (by decide)) hc))).trans ((zgS (zbG (fun _=>true) _) hl).trans ?_)
  rw [List.all_map];exact congrArg (fun b=>M.ret (PV.bool b)) (List.all_eq_true.mpr fun _ _=>rfl)
theorem zcs(n:Nat):((n+1:Nat):Int)-1=(n:Int):=by lia
theorem zoa(a b n:Nat):(decide (a≤n)&&decide (b≤n))=decide (max a b+1≤n+1):=by
 rw [← Bool.decide_and];exact decide_eq_decide.mpr (by lia)
theorem w_0(C:zad)(md:Md)(v:PV):zak GG C md AA.is_within [v,.int 0]=M.ret (.bool false):=by kernel_rfl
theorem zq1(C:zad)(md:Md)(n:Nat):zak GG C md AA.is_within [.tup [.str "yes"],.int ((n+1:Nat):Int)]=M.ret (.bool true):=by kernel_rfl
theorem w_no(C:zad)(md:Md)(n:Nat):zak GG C md AA.is_within [.tup [.str "no"],.int ((n+1:Nat):Int)]=M.ret (.bool true):=by kernel_rfl
theorem znW(C:zad)(md:Md)(n:Nat)(v:PV):zak GG C md AA.is_within [.tup [.str "name",v],.int ((n+1:Nat):Int)]=C md AA.is_name [v]:=by kernel_rfl
theorem zp4(C:zad)(md:Md)(n:Nat)(v:PV):zak GG C md AA.is_within [.tup [.str "not",v],.int ((n+1:Nat):Int)]=C md AA.is_within [v,.int (((n+1:Nat):Int)-1)]:=by kernel_rfl
theorem zp6(C:zad)(md:Md)(n:Nat)(v u:PV):zak GG C md AA.is_within [.tup [.str "and",v,u],.int ((n+1:Nat):Int)]=andM (C md AA.is_within [v,.int (((n+1:Nat):Int)-1)]) (C md AA.is_within [u,.int (((n+1:Nat):Int)-1)]):=by kernel_rfl
theorem w_or(C:zad)(md:Md)(n:Nat)(v u:PV):zak GG C md AA.is_within [.tup [.str "or",v,u],.int ((n+1:Nat):Int)]=andM (C md AA.is_within [v,.int (((n+1:Nat):Int)-1)]) (C md AA.is_within [u,.int (((n+1:Nat):Int)-1)]):=by kernel_rfl
theorem zaK(md:Md)(hl:md.lp=true):∀(s:Say)(n d:Nat),s.Ok→s.dep+1<d→zah GG d md AA.is_within [s.pv,.int n]=M.ret (.bool (decide (s.dep≤n)))
 | s,0,d+1,_,_=>by rw [decide_eq_false (Nat.not_le_of_gt (zpH s))];exact zaj (w_0 _ md _)
 | .yes,n+1,d+1,_,_=>(zaj (zq1 _ md n)).trans (congrArg (fun b=>M.ret (PV.bool b)) (decide_eq_true (show Say.yes.dep≤n+1 from Nat.succ_le_succ (Nat.zero_le n))).symm)
 | .no,n+1,d+1,_,_=>(zaj (w_no _ md n)).trans (congrArg (fun b=>M.ret (PV.bool b)) (decide_eq_true (show Say.no.dep≤n+1 from Nat.succ_le_succ (Nat.zero_le n))).symm)
 | .name s,n+1,d+2,ok,hd=>(zaj (znW _ md n _)).trans ((zaj (zfR _ md hl ok)).trans (congrArg (fun b=>M.ret (PV.bool b)) (decide_eq_true (show (Say.name s).dep≤n+1 from Nat.succ_le_succ (Nat.zero_le n))).symm))
 | .not a,n+1,d+1,ok,hd=>by
  refine (zaj (zp4 _ md n _)).trans ?_
  rw [zcs,zaK md hl a n d ok (Nat.lt_of_succ_lt_succ hd)]
  exact congrArg (fun b=>M.ret (PV.bool b)) (decide_eq_decide.mpr (Nat.succ_le_succ_iff).symm)
 | .and a b,n+1,d+1,ok,hd=>by
  have h1:a.dep+1<d:=by have:max a.dep b.dep+1+1<d+1:=hd;lia
  have h2:b.dep+1<d:=by have:max a.dep b.dep+1+1<d+1:=hd;lia
  refine (zaj (zp6 _ md n _ _)).trans ?_
  rw [zcs]
  exact (zkE (zaK md hl a n d ok.1 h1) (zaK md hl b n d ok.2 h2)).trans (congrArg (fun b=>M.ret (PV.bool b)) (zoa _ _ _))
 | .or a b,n+1,d+1,ok,hd=>by
  have h1:a.dep+1<d:=by have:max a.dep b.dep+1+1<d+1:=hd;lia
  have h2:b.dep+1<d:=by have:max a.dep b.dep+1+1<d+1:=hd;lia
  refine (zaj (w_or _ md n _ _)).trans ?_
  rw [zcs]
  exact (zkE (zaK md hl a n d ok.1 h1) (zaK md hl b n d ok.2 h2)).trans (congrArg (fun b=>M.ret (PV.bool b)) (zoa _ _ _))
noncomputable def Rf(v:PV):Prop:=∀(md:Md)(n d:Nat),md.lp=true→n+110<d→zah GG d md AA.is_within [v,.int n]=M.ret (.bool false)
theorem Rf.go{v:PV} (h:∀(md:Md)(n d:Nat),md.lp=true→n+110<d→zak GG (zah GG d) md AA.is_within [v,.int ((n+1:Nat):Int)]=M.ret (.bool false)):Rf v:=by
 intro md n d hl hd
 cases d with
 | zero=>exact absurd hd (Nat.not_lt_zero _)
 | succ d=>
  cases n with
  | zero=>exact zaj (w_0 _ md v)
  | succ n=>exact zaj (h md n d hl (by lia))
theorem Rf.of{v:PV} (h:∀(C:zad)(md:Md)(n:Nat),zak GG C md AA.is_within [v,.int ((n+1:Nat):Int)]=M.ret (.bool false)):Rf v:=Rf.go fun md n d _ _=>h _ md n
theorem Rf.none:Rf .none:=Rf.of fun _ _ _=>by kernel_rfl
theorem Rf.str(s:Str):Rf (.str s):=Rf.of fun _ _ _=>by kernel_rfl
theorem Rf.bool(b:Bool):Rf (.bool b):=Rf.of fun _ _ _=>by kernel_rfl
theorem Rf.not{x:PV}(h:Rf x):Rf (.tup [.str "not",x]):=Rf.go fun md n d hl hd=>(zp4 _ md n x).trans (by rw [zcs];exact h md n d hl hd)
theorem zp5(C:zad)(md:Md)(n:Nat){w:Str}(hw:w="and"∨w="or")(v u:PV):zak GG C md AA.is_within [.tup [.str w,v,u],.int ((n+1:Nat):Int)]=andM (C md AA.is_within [v,.int n]) (C md AA.is_within [u,.int n]):=by
 rw [← zcs n]
 rcases hw with rfl | rfl
 ·exact zp6 C md n v u
 ·exact w_or C md n v u
theorem Rf.left{x y:PV}{w:Str}(hw:w="and"∨w="or")(h:Rf x):Rf (.tup [.str w,x,y]):=Rf.go fun md n d hl hd=>(zp5 _ md n hw x y).trans (zqY (h md n d hl hd))
theorem Rf.right{s:Say}{y:PV}{w:Str}(hw:w="and"∨w="or")(ok:s.Ok)(hs:s.dep≤100)(h:Rf y):Rf (.tup [.str w,s.pv,y]):=Rf.go fun md n d hl hd=>
 (zp5 _ md n hw s.pv y).trans ((zkE (zaK md hl s n d ok (by lia)) (h md n d hl hd)).trans (by rw [Bool.and_false]))
theorem Rf.name{x:PV}(h:∀(C:zad)(md:Md),md.lp=true→zak GG C md AA.is_name [x]=M.ret (.bool false)):Rf (.tup [.str "name",x]):=Rf.go fun md n d hl hd=>by
 cases d with
 | zero=>exact absurd hd (Nat.not_lt_zero _)
 | succ d=>exact (znW _ md n x).trans (zaj (h _ md hl))
theorem znp{P:Md→Prop}(h:∀ r,P ⟨r,true⟩):∀ md:Md,md.lp=true→P md:=fun md hl=>by
 obtain ⟨r,l⟩:=md
 cases hl
 exact h r
theorem zas{α:Type}{P:α→Prop}:∀{l:List α},(l.foldr (fun x r=>P x∧r) True)→∀ x∈l,P x
 | _::_,h,_,.head _=>h.1
 | _::_,h,x,.tail _ hx=>zas h.2 x hx
theorem zoW(md:Md)(v:PV)(d:Nat)(h:zah GG d md AA.is_within [v,.int 100]=M.ret (.bool true)):zah GG (d+2) md AA.need_saying [v]=M.ret .none:=
 zaj ((zgn _ md v).trans (if_f (zcf (zaj ((ze0 _ md v).trans h)))))
theorem znN{mu:Bool}{h:PV}{xs:List PV}(hx:xs.length≤1000):cutM mu (.tup (h::xs)) (some 1) Option.none=M.ret (.tup xs):=by
 refine (c_t (decide_eq_true (show xs.length+1≤2 ^ 20 by lia))).trans ?_
 have hc:clip (xs.length+1) 1=1:=by unfold clip;rw [if_neg (by decide)];lia
 show M.ret (PV.tup (((h::xs).drop (clip (xs.length+1) 1)).take (xs.length+1-clip (xs.length+1) 1)))=_
 rw [hc]
 show M.ret (PV.tup (xs.take xs.length))=_
 rw [List.take_length]
noncomputable def Say.parts:Say→List Say
 | .not a=>[a]
 | .and a b=>[a,b]
 | .or a b=>[a,b]
 | _=>[]
noncomputable def Say.word:Say→Str
 | .yes=>"yes" | .no=>"no" | .name _=>"name" | .not _=>"not" | .and _ _=>"and" | .or _ _=>"or"
theorem zd6:∀ l:List Int,zeo (l.map PV.int)=some l
 | []=>rfl
 | x::r=>congrArg (zhR x) (zd6 r)
theorem zl5{σ:zab}{j:Nat}{xs:List PV}(h:σ[j]?=some (.list xs)):lget j σ=.ok xs σ:=zaa (show cget j σ=.ok (.list xs) σ by unfold cget;rw [h])
theorem zq2{σ:zab}{j:Nat}{xs:List PV}(h:σ[j]?=some (.list xs)):tnOf (.ref j) σ=.ok .list σ:=zaa (show cget j σ=.ok (.list xs) σ by unfold cget;rw [h])
theorem zqX{md:Md}{mu:Bool}{σ:zab}{j:Nat}{xs:List PV}{v:PV}(h:σ[j]?=some (.list xs))(hl:xs.length<1000):zfs md mu "append" (.ref j) (M.ret [v]) σ=.ok .none (σ.set j (.list (xs++[v]))):=by
 refine (zaa (zq2 h)).trans ((zaa (show M.lift (mtOf .list "append") σ=.ok .append σ from rfl)).trans ((zaa (zl5 h)).trans ?_))
 rw [decide_eq_true (show xs.length<2 ^ 20 by exact Nat.le_trans ‹_› (by decide))];rfl
theorem zdb{σ:zab}{c c':Cel}:(σ++[c]).set σ.length c'=σ++[c']:=by rw [List.set_append_right _ _ (Nat.le_refl _),Nat.sub_self];rfl
theorem zaN{σ:zab}{c:Cel}:(σ++[c])[σ.length]?=some c:=by rw [List.getElem?_append_right (Nat.le_refl _),Nat.sub_self];rfl
theorem zkt{α:Type}{x:M PV}{a b:M α}{c:Bool}{σ σ':zab}(h:x σ=.ok (.bool c) σ'):ifM x a b σ=M.cond c a b σ':=(zaa h).trans (zaa (a:=c) rfl)
theorem znZ{x:M PV}{a:PV}{σ σ':zab}(h:x σ=.ok a σ'):seqM [x] σ=.ok [a] σ':=zaa h
theorem znd(m:Nat)(hm:m≤1000):zbz [.int (m:Int)]=M.ret ⟨zbp 0 m,[]⟩:=
 c_t (show zbr (m:Int)=true by unfold zbr;rw [decide_eq_true (by lia),decide_eq_true (by lia)];rfl)
noncomputable def Say.nms:Say→List Str
 | .yes=>[] | .no=>[] | .name s=>[s]
 | .not a=>a.nms
 | .and a b=>a.nms++b.nms
 | .or a b=>a.nms++b.nms
end
end Mine
namespace Mine
noncomputable section
open PySem
universe u
theorem tr{α:Sort u}{a b c:α}(h:a=b)(h':b=c):a=c:=h.trans h'
theorem at_{α:Type}{x y:M α}{σ:zab}{r:Rs α}(h:x=y)(h':y σ=r):x σ=r:=(congrFun h σ).trans h'
theorem zlL{x y:M PV}{r:Rs PV}{σ σ':zab}(h:x σ=.ok (.bool false) σ')(h':y σ'=r):orM x y σ=r:=(zaa h).trans ((zaa (a:=false) rfl).trans h')
theorem zoq{x y:M PV}{r:Rs PV}{σ σ':zab}(h:x σ=.ok (.bool true) σ')(h':y σ'=r):andM x y σ=r:=(zaa h).trans ((zaa (a:=true) rfl).trans h')
structure MadeS (ns:List Str) (n:Nat) (s:Say):Prop where
 ok:s.Ok
 dep:s.dep≤n
 sz:s.sz=n
 nm:∀ x∈s.nms,x∈ns
noncomputable def zcJ(c:Int):Int:=(c*48271+11).fmod 2147483647
theorem zqh(c:Int):(((opM false .Mult (.int c) (.int 48271)).bind fun a4=>(opM false .Add a4 (.int 11))).bind fun a5=>(opM false .Mod a5 (.int 2147483647)))=M.ret (.int (zcJ c)):=tr (bd (tr (bd (zhx false c 48271 (by decide) (by decide))) (add_int _ _ _))) (zcv _ _ _ (by decide))
theorem zrc(C:zad)(md:Md)(c:Int)(xs:List PV)(h:xs.length≤1000):zak GG C md AA.l_saying [.int c,.int ((1:Nat):Int),.lst xs] =
  (opM false .Mod (.int ((zcJ c).fdiv 7)) (.int (3*(xs.length:Int)+2))).bind fun pick=>ifM (zac .Lt pick (.int (3*(xs.length:Int))))
   ((seqM [M.ret (.str "name"),(opM false .Mod pick (.int xs.length)).bind fun k=>zaf (.lst xs) k]).bind fun vs=>M.ret (.tup vs))
   ((opM false .Mod pick (.int 2)).bind fun k=>zaf (.lst [Say.yes.pv,Say.no.pv]) k):=by
 refine (zfP C md _ _ _).trans ((bd (zqh c)).trans ?_)
 rw [zdP (md:=md) (mu:=false) (xs:=xs) (by exact Nat.le_trans ‹_› (by decide))]
 kernel_rfl
theorem zq8(C:zad)(md:Md)(c:Int)(n:Nat)(v:PV):zak GG C md AA.l_saying [.int c,.int ((n+2:Nat):Int),v] =
  ifM (orM (zac .Eq (.int ((n+2:Nat):Int)) (.int 2)) (zac .Lt (.int ((zcJ c).fmod 8)) (.int 2)))
   ((seqM [M.ret (.str "not"),C md AA.l_saying [.int ((zcJ c).fdiv 8),.int (((n+2:Nat):Int)-1),v]]).bind fun vs=>M.ret (.tup vs))
   (((opM false .Mod (.int ((zcJ c).fdiv 8)) (.int (((n+2:Nat):Int)-2))).bind fun b=>opM false .Add (.int 1) b).bind fun left=>
    (C md AA.l_saying [.int ((zcJ c).fdiv 64+7919),left,v]).bind fun one=>
    ((seqM [(opM false .Mult (.int ((zcJ c).fdiv 64)) (.int 3)).bind fun a=>opM false .Add a (.int (104729*((n+2:Nat):Int))),opM false .Sub (.int (((n+2:Nat):Int)-1)) left,M.ret v]).bind fun vs=>C md AA.l_saying vs).bind fun other=>
    ((seqM [(opM false .Mod (.int ((zcJ c).fmod 8)) (.int 2)).bind fun k=>zaf (.lst [.str "and",.str "or"]) k,M.ret one,M.ret other]).bind fun vs=>M.ret (.tup vs))):=(zfP C md _ _ _).trans ((bd (zqh c)).trans (by kernel_rfl))
theorem b_eq{b c:Bool}(h:b=c):M.ret (PV.bool b)=M.ret (PV.bool c):=congrArg (fun b=>M.ret (PV.bool b)) h
theorem i_eq{b c:Int}(h:b=c):M.ret (PV.int b)=M.ret (PV.int c):=congrArg (fun b=>M.ret (PV.int b)) h
theorem zbs(mu:Bool)(a:Int){b k:Int}(h:0<b)(e:a.fmod b=k):opM mu .Mod (.int a) (.int b)=M.ret (.int k):=(zcv mu a b h).trans (i_eq e)
theorem znG{a b:Int}(h:a=b):zac .Eq (.int a) (.int b)=M.ret (.bool true):=(zoi a b).trans (b_eq (beq_iff_eq.mpr h))
theorem zku{a b:Int}(h:a≠b):zac .Eq (.int a) (.int b)=M.ret (.bool false):=(zoi a b).trans (b_eq (beq_eq_false_iff_ne.mpr h))
theorem zqC{a b:Int}(h:a<b):zac .Lt (.int a) (.int b)=M.ret (.bool true):=(c_lt a b).trans (b_eq (decide_eq_true h))
theorem zqD{a b:Int}(h:¬ a<b):zac .Lt (.int a) (.int b)=M.ret (.bool false):=(c_lt a b).trans (b_eq (decide_eq_false h))
theorem zgK(c:Int)(a:Int){b:Nat}(ha:0<a)(ha':a<1000000)(hb:0<b):∃ k:Nat,(((opM false .FloorDiv (.int c) (.int a)).bind fun x=>opM false .Mod x (.int (b:Int)))=M.ret (.int (k:Int)))∧k<b:=by
 obtain ⟨k,hk,hkl⟩:=zaE (c.fdiv a) hb
 exact ⟨k,tr (bd (zbc _ c a ha ha')) (zbs _ _ (by exact Int.ofNat_lt.mpr ‹_›) hk),hkl⟩
theorem zrb{l n e:Nat}(hl:l<n)(h:n+2≤100)(hd:n+2<e+1):(1+l<n+2∧1≤1+l∧1+l≤100∧1+l<e)∧n-l<n+2∧1≤n-l∧n-l≤100∧n-l<e:=by lia
theorem zqg{a b l n:Nat}(h1:a≤1+l)(h2:b≤n-l)(hl:l<n):max a b+1≤n+2:=by lia
theorem zqe{a b l n:Nat}(h1:a=1+l)(h2:b=n-l)(hl:l<n):a+b+1=n+2:=by lia
theorem zqf(n:Nat):((n+2:Nat):Int)-2=(n:Int):=by lia
theorem zq7(n l:Nat)(hl:l<n):(((n+2:Nat):Int)-1)-((1+l:Nat):Int)=((n-l:Nat):Int):=by lia
theorem zra(n:Nat):((n+2:Nat):Int)-1=((n+1:Nat):Int):=by lia
theorem zqi{n:Nat}(h:n≠0):((n+2:Nat):Int)≠2:=by lia
theorem zq9(l:Nat):(1:Int)+(l:Int)=((1+l:Nat):Int):=by lia
theorem zl8(md:Md)(ns:List Str)(hns:∀ n∈ns,NmOk n)(hlo:1≤ns.length)(hhi:ns.length≤6):∀(n:Nat)(c:Int)(d:Nat),1≤n→n≤100→n<d→
  ∃ s,zah GG d md AA.l_saying [.int c,.int (n:Nat),.lst (ns.map .str)]=M.ret s.pv∧MadeS ns n s:=by
 intro n
 induction n using Nat.strongRecOn with
 | _ n ih=>
  intro c d h1 h60 hd
  obtain ⟨e,rfl⟩:∃ e,d=e+1:=⟨d-1,by lia⟩
  have hlen:(ns.map PV.str).length=ns.length:=List.length_map _
  match n,h1,ih,h60,hd with
  | 1,_,_,_,_=>
   obtain ⟨k,hk,hkl⟩:=zaE ((zcJ c).fdiv 7) (b:=3*ns.length+2) (by lia)
   have st:=zaj (d:=e) ((zrc (zah GG e) md c (ns.map PV.str) (by lia)).trans ((bd (zbs false _ (by lia) (k:=k) (by rw [hlen];exact hk))).trans rfl))
   rw [hlen] at st
   by_cases hp:k<3*ns.length
   ·obtain ⟨j,hj,hjl⟩:=zaE (k:Int) (b:=ns.length) (by assumption)
    have hget:(ns.map PV.str)[j]?=some (.str ns[j]):=by rw [List.getElem?_map,List.getElem?_eq_getElem hjl];rfl
    exact ⟨.name ns[j],st.trans ((if_t (zqC (by exact Int.ofNat_lt.mpr ‹_›))).trans (bd (sq2 rfl ((bd (zbs _ _ (by exact Int.ofNat_lt.mpr ‹_›) hj)).trans (zfQ hget (by lia)))))),hns _ (List.getElem_mem hjl),Nat.le_refl _,rfl,zas ⟨List.getElem_mem hjl,trivial⟩⟩
   ·obtain ⟨j,hj,hjl⟩:=zaE (k:Int) (b:=2) (by decide)
    have g:=fun(s:Say)(hs:[Say.yes.pv,Say.no.pv][j]?=some s.pv)=>st.trans ((if_f (zqD (by lia))).trans ((bd (zbs _ _ (by decide) hj)).trans (zfQ hs (by exact Nat.le_trans (Nat.le_of_lt ‹_›) (by decide)))))
    match j,hjl,g with
    | 0,_,g=>exact ⟨.yes,g .yes rfl,trivial,Nat.le_refl _,rfl,fun x hx=>absurd hx List.not_mem_nil⟩
    | 1,_,g=>exact ⟨.no,g .no rfl,trivial,Nat.le_refl _,rfl,fun x hx=>absurd hx List.not_mem_nil⟩
  | n+2,_,ih,h60,hd=>
   have st:=zaj (d:=e) (zq8 (zah GG e) md c n (.lst (ns.map PV.str)))
   obtain ⟨y,hy,hyl⟩:=zaE (zcJ c) (b:=8) (by decide)
   have hy:(zcJ c).fmod 8=(y:Int):=hy
   rw [hy] at st
   by_cases hnot:n=0∨y<2
   ·have hc:orM (zac .Eq (.int ((n+2:Nat):Int)) (.int 2)) (zac .Lt (.int y) (.int 2))=M.ret (.bool true):=by
     by_cases h0:n=0
     ·exact or_t (znG (by rw [h0];rfl))
     ·exact (or_f (zku (zqi h0))).trans (zqC (Int.ofNat_lt.mpr (hnot.resolve_left h0)))
    obtain ⟨s,hs,M1⟩:=ih (n+1) (by exact Nat.le_refl _) ((zcJ c).fdiv 8) e (Nat.succ_le_succ (Nat.zero_le _)) (Nat.le_of_lt h60) (Nat.lt_of_succ_lt_succ hd)
    rw [zra] at st
    exact ⟨.not s,st.trans ((if_t hc).trans (bd (sq2 rfl hs))),M1.ok,Nat.succ_le_succ M1.dep,congrArg Nat.succ M1.sz,M1.nm⟩
   ·have hn:=not_or.mp hnot
    have hc:orM (zac .Eq (.int ((n+2:Nat):Int)) (.int 2)) (zac .Lt (.int y) (.int 2))=M.ret (.bool false):=(or_f (zku (zqi hn.1))).trans (zqD fun z=>hn.2 (Int.ofNat_lt.mp z))
    obtain ⟨l,hl,hll⟩:=zaE ((zcJ c).fdiv 8) (b:=n) (Nat.pos_of_ne_zero hn.1)
    obtain ⟨q,hq,hql⟩:=zaE (y:Int) (b:=2) (by decide)
    have B:=zrb hll h60 hd
    obtain ⟨s,hs,M1⟩:=ih (1+l) B.1.1 ((zcJ c).fdiv 64+7919) e B.1.2.1 B.1.2.2.1 B.1.2.2.2
    obtain ⟨t,ht,M2⟩:=ih (n-l) B.2.1 ((zcJ c).fdiv 64*3+104729*((n+2:Nat):Int)) e B.2.2.1 B.2.2.2.1 B.2.2.2.2
    have h1:(opM false .Mod (.int ((zcJ c).fdiv 8)) (.int (((n+2:Nat):Int)-2))).bind (fun b=>opM false .Add (.int 1) b)=M.ret (.int ((1+l:Nat):Int)):=(bd (zbs _ _ (by rw [zqf];exact Int.ofNat_lt.mpr (Nat.lt_of_le_of_lt (Nat.zero_le _) hll)) (k:=l) (by rw [zqf];exact hl))).trans ((add_int _ _ _).trans (i_eq (zq9 l)))
    have h2:opM false .Sub (.int (((n+2:Nat):Int)-1)) (.int ((1+l:Nat):Int))=M.ret (.int ((n-l:Nat):Int)):=(sub_int _ _ _).trans (i_eq (zq7 n l hll))
    have g:=fun(w:Str)(hw:[PV.str "and",.str "or"][q]?=some (.str w))=>tr st (tr (if_f hc) (tr (bd h1) (tr (bd hs) (tr (bd (tr (bd (sq3 (tr (bd (zhx false _ 3 (by decide) (by decide))) (add_int _ _ _)) h2 rfl)) ht)) (bd (sq3 (tr (bd (zbs _ _ (by decide) hq)) (zfQ hw (by exact Nat.le_trans (Nat.le_of_lt ‹_›) (by decide)))) rfl rfl))))))
    match q,hql,g with
    | 0,_,g=>exact ⟨.and s t,g "and" rfl,⟨M1.ok,M2.ok⟩,zqg M1.dep M2.dep hll,zqe M1.sz M2.sz hll,fun x hx=>(List.mem_append.mp hx).elim (M1.nm x) (M2.nm x)⟩
    | 1,_,g=>exact ⟨.or s t,g "or" rfl,⟨M1.ok,M2.ok⟩,zqg M1.dep M2.dep hll,zqe M1.sz M2.sz hll,fun x hx=>(List.mem_append.mp hx).elim (M1.nm x) (M2.nm x)⟩
theorem l_saying(md:Md)(ns:List Str)(hns:∀ n∈ns,NmOk n)(hlo:1≤ns.length)(hhi:ns.length≤6):∀(n:Nat)(c:Int)(d:Nat),1≤n→n≤60→n<d→
  ∃ s,zah GG d md AA.l_saying [.int c,.int (n:Nat),.lst (ns.map .str)]=M.ret s.pv∧MadeS ns n s:=fun n c d h1 h2 h3=>zl8 md ns hns hlo hhi n c d h1 (by exact Nat.le_trans ‹_› (by decide)) h3
noncomputable def ls(s:Str):List Nat:=s.cps.toList
noncomputable def sL(l:List Nat):Str:=⟨l.toArray⟩
theorem zqj(s:Str):sL (ls s)=s:=rfl
theorem zod(s:Str):(ls s).length=s.length:=rfl
theorem zn4(l:List Nat):(sL l).length=l.length:=rfl
theorem zqq(a b:Str):ls (a++b)=ls a++ls b:=Array.toList_append
theorem zqk(a b:List Nat):sL a++sL b=sL (a++b):=by
 rw [← zqj (sL a++sL b),zqq];rfl
theorem zrd{l m:List Nat}(h:l≠m):sL l≠sL m:=fun q=>h (congrArg ls q)
theorem add_str{mu:Bool}{a b:Str}(h:a.length+b.length≤1000000):opM mu .Add (.str a) (.str b)=M.ret (.str (a++b)):=c_t (decide_eq_true (by exact Nat.le_trans ‹_› (by decide)))
theorem zf2{mu:Bool}{a b:List Nat}(h:a.length+b.length≤1000000):opM mu .Add (.str (sL a)) (.str (sL b))=M.ret (.str (sL (a++b))):=(add_str (a:=sL a) (b:=sL b) h).trans (congrArg (fun s=>M.ret (PV.str s)) (zqk a b))
theorem zeE(n i:Nat):clip n (i:Int)=min i n:=by
 unfold clip
 rw [if_neg (by lia)]
 lia
theorem zk9{α:Type}(l:List α)(n:Nat):slc Option.none (some (n:Int)) l=l.take n:=by
 show (l.drop 0).take (clip l.length n-0)=_
 rw [zeE,List.drop_zero,Nat.sub_zero,Nat.min_def]
 split
 ·rfl
 ·rw [List.take_of_length_le (Nat.le_refl _),List.take_of_length_le (by lia)]
theorem zk8{α:Type}(l:List α)(n:Nat):slc (some (n:Int)) Option.none l=l.drop n:=by
 show (l.drop (clip l.length n)).take (l.length-clip l.length n)=_
 rw [List.take_of_length_le (by rw [List.length_drop];exact Nat.le_refl _),zeE,Nat.min_def]
 split
 ·rfl
 ·rw [List.drop_of_length_le (Nat.le_refl _),List.drop_of_length_le (by lia)]
theorem zmx{mu:Bool}{l:List Nat}{n:Nat}(hl:l.length≤1000):cutM mu (.str (sL l)) Option.none (some (n:Int))=M.ret (.str (sL (l.take n))):=
 (c_t (decide_eq_true (show (sL l).length≤2 ^ 20 by rw [zn4];exact Nat.le_trans ‹_› (by decide)))).trans (congrArg (fun m=>M.ret (PV.str (sL m))) (zk9 l n))
theorem zpK{mu:Bool}{l:List Nat}{n:Nat}(hl:l.length≤1000):cutM mu (.str (sL l)) (some (n:Int)) Option.none=M.ret (.str (sL (l.drop n))):=
 (c_t (decide_eq_true (show (sL l).length≤2 ^ 20 by rw [zn4];exact Nat.le_trans ‹_› (by decide)))).trans (congrArg (fun m=>M.ret (PV.str (sL m))) (zk8 l n))
theorem zjb(i:Int):zde (M.ret (.int i))=M.ret (some i):=rfl
theorem znX:∀(n:Nat)(a:Int),(zbp a n).length=n
 | 0,_=>rfl
 | n+1,a=>congrArg Nat.succ (znX n (a+1))
theorem zbZ{f:PV→M (Option PV)}{x y:PV}{xs ys:List PV}(h:f x=M.ret (some y)) (h':zaW (M.ret ()) (fun x=>M.noErr (f x)) xs=M.ret ys):zaW (M.ret ()) (fun x=>M.noErr (f x)) (x::xs)=M.ret (y::ys):=
 (bd (show M.noErr (f x)=M.ret (some y) from congrArg M.noErr h)).trans (bd h')
theorem zmB{f:PV→M (Option PV)}{x:PV}{xs ys:List PV}(h:f x=M.ret Option.none) (h':zaW (M.ret ()) (fun x=>M.noErr (f x)) xs=M.ret ys):zaW (M.ret ()) (fun x=>M.noErr (f x)) (x::xs)=M.ret ys:=
 (bd (show M.noErr (f x)=M.ret Option.none from congrArg M.noErr h)).trans (bd h')
theorem zmA{f:PV→M (Option PV)}{g:Nat→PV}:∀(m x:Nat),(∀ k,k<x+m→f (.int (k:Nat))=M.ret (some (g k)))→zaW (M.ret ()) (fun x=>M.noErr (f x)) (zbp (x:Nat) m)=M.ret ((List.range m).map fun k=>g (x+k))
 | 0,_,_=>rfl
 | m+1,x,h=>by
  have ih:=zmA (f:=f) (g:=g) m (x+1) fun k h2=>h k (by lia)
  rw [List.range_succ_eq_map,List.map_cons,List.map_map]
  refine tr (zbZ (h x (by lia)) ih) (congrArg (fun l=>M.ret (g x::l)) (List.map_congr_left fun k _=>congrArg g ?_))
  show x+1+k=x+(k+1);lia
theorem zjw{md:Md}(hl:md.lp=true){m:Nat}(hm:m≤1000){f:PV→M (Option PV)}(g:Nat→PV) (h:∀ k,k<m→f (.int (k:Nat))=M.ret (some (g k))):zaU md false (zbz [.int (m:Int)]) f=M.ret (.lst ((List.range m).map g)):=
 zbQ hl (znd m hm) (by rw [znX];exact Nat.le_trans ‹_› (by decide)) ((zmA (f:=f) (g:=g) m 0 fun k hk=>h k (by lia)).trans (congrArg (fun l=>M.ret (List.map l (List.range m))) (funext fun k=>congrArg g (Nat.zero_add k))))
theorem ze8{md:Md}(hl:md.lp=true){ss:List Str}(hs:ss.length≤1000){f:PV→M (Option PV)}(h:Str→Str) (hf:∀ s∈ss,f (.str s)=M.ret (some (.str (h s)))):zaU md false (zat (.lst (ss.map .str))) f=M.ret (.lst ((ss.map h).map .str)):=by
 refine zbQ hl rfl (by rw [List.length_map];exact Nat.le_trans ‹_› (by decide)) ?_
 clear hs
 induction ss with
 | nil=>rfl
 | cons s r ih=>exact zbZ (hf s (.head _)) (ih fun x hx=>hf x (.tail _ hx))
noncomputable def ltr(i:Int):Nat:=97+(i.fmod 26).toNat
theorem zl2(i:Int):97≤ltr i∧ltr i≤122:=by
 obtain ⟨k,hk,hl⟩:=zaE i (b:=26) (by lia)
 have:i.fmod 26=(k:Int):=hk
 unfold ltr;rw [this];lia
theorem zgB(i:Int):zaf (.str "abcdefghijklmnopqrstuvwxyz") (.int (i.fmod 26))=M.ret (.str (sL [ltr i])):=by
 obtain ⟨k,hk,hl⟩:=zaE i (b:=26) (by lia)
 have hk':i.fmod 26=(k:Int):=hk
 have key:∀ j:Fin 26,letters.cps.toList[j.val]?=some (97+j.val):=by decide
 have hg:=key ⟨k,hl⟩
 unfold ltr
 rw [hk']
 exact zqv hg (by exact Nat.le_trans (Nat.le_of_lt ‹_›) (by decide))
noncomputable def nmB(l:List Nat):Bool:=decide (1≤l.length)&&decide (l.length≤6)&&l.all (fun c=>decide (97≤c)&&decide (c≤122))&&!(l==[121,101,115])&&!(l==[110,111])&&!(l==[110,111,116])&&!(l==[97,110,100])&&!(l==[111,114])
theorem zhW{l m:List Nat} (h:(!(l==m))=true):sL l≠sL m:=zrd fun q=>by rw [q,beq_self_eq_true] at h;cases h
theorem zjc{l:List Nat}(h:nmB l=true):NmOk (sL l):=by
 unfold nmB at h
 have h8:=Bool.and_eq_true_iff.mp h
 have h7:=Bool.and_eq_true_iff.mp h8.1
 have h6:=Bool.and_eq_true_iff.mp h7.1
 have h5:=Bool.and_eq_true_iff.mp h6.1
 have h4:=Bool.and_eq_true_iff.mp h5.1
 have h3:=Bool.and_eq_true_iff.mp h4.1
 have h2:=Bool.and_eq_true_iff.mp h3.1
 refine ⟨of_decide_eq_true h2.1,of_decide_eq_true h2.2,fun c hc=>?_,zhW h4.2,zhW h5.2,zhW h6.2,zhW h7.2,zhW h8.2⟩
 have:=Bool.and_eq_true_iff.mp (List.all_eq_true.mp h3.2 c hc)
 exact ⟨of_decide_eq_true this.1,of_decide_eq_true this.2⟩
theorem in_2(a x y:Str):zac .In (.str a) (.tup [.str x,.str y])=M.ret (.bool ((x==a) || ((y==a) || false))):=rfl
theorem ze9{md:Md}(hl:md.lp=true){m:Nat}(hm:m≤1000){f:PV→M (Option PV)}(g:Nat→Str) (h:∀ k,k<m→f (.int (k:Nat))=M.ret (some (.str (g k)))):zaU md false (zbz [.int (m:Int)]) f=M.ret (.lst (((List.range m).map g).map .str)):=
 (zjw hl hm (fun k=>.str (g k)) h).trans (by rw [List.map_map];rfl)
theorem zrh(md:Md)(a b c d e f:Nat)(x:M (List PV))(h:x=M.ret [.lst [.str (sL [a]),.str (sL [b]),.str (sL [c]),.str (sL [d]),.str (sL [e]),.str (sL [f])]]):zfs md false "join" (.str "") x=M.ret (.str (sL [a,b,c,d,e,f])):=by
 rw [h];kernel_rfl
theorem zhK(a:Int)(b:Nat):a.fmod b=a % b:=Int.fmod_eq_emod_of_nonneg a (by lia)
theorem zo4(q:Int)(b:Nat):ltr (q+b)=97+((q.fmod 26).toNat+b) % 26:=by
 unfold ltr
 have h1:(q+b).fmod 26=(q+b) % 26:=zhK _ 26
 have h2:q.fmod 26=q % 26:=zhK _ 26
 rw [h1,h2];lia
noncomputable def bl(r:Nat):List Nat:=[97+(r+0) % 26,97+(r+5) % 26,97+(r+10) % 26,97+(r+15) % 26,97+(r+20) % 26,97+(r+25) % 26]
theorem zrt(r:Nat)(hr:r<26)(k:Nat)(hk:k<6):nmB ((bl r).take (k+1))=true:=by
 have key:∀ r:Fin 26,∀ k:Fin 6,nmB ((bl r.val).take (k.val+1))=true:=by decide +kernel
 exact key ⟨r,hr⟩ ⟨k,hk⟩
noncomputable def NmL(m:Nat)(x:M PV):Prop:=∃ ns:List Str,x=M.ret (.lst (ns.map .str))∧ns.length=m∧∀ n∈ns,NmOk n
theorem NmL.rng{m:Nat}{x:M PV}(g:Nat→Str) (e:x=M.ret (.lst (((List.range m).map g).map .str))) (h:∀ k,k<m→NmOk (g k)):NmL m x:=⟨_,e,by rw [List.length_map,List.length_range],fun n hn=>by
 obtain ⟨k,hk,rfl⟩:=List.mem_map.mp hn
 exact h k (List.mem_range.mp hk)⟩
theorem ziq{m:Nat}(h6:m≤6)(g:Nat→Str):((List.range m).map g).length≤1000:=by rw [List.length_map,List.length_range];exact Nat.le_trans ‹_› (by decide)
theorem zo0(C:zad)(md:Md)(hl:md.lp=true)(c:Int)(hc:c.fmod 5=0)(m:Nat)(h6:m≤6):NmL m (zak GG C md AA.l_names [.int c,.int (m:Nat)]):=by
 obtain ⟨r,hr,hrl⟩:=zaE (c.fdiv 5) (b:=26) (by decide)
 have hr:(c.fdiv 5).fmod 26=(r:Int):=hr
 refine NmL.rng (fun k=>sL ((bl r).take (k+1))) ?_ fun k hk=>zjc (zrt _ hrl k (by exact Nat.le_trans ‹_› ‹_›))
 have ht:∀ b:Nat,ltr (c.fdiv 5+(b:Int))=97+(r+b) % 26:=fun b=>by rw [zo4,hr];rfl
 refine tr (zeZ C md _ _) (tr (bd (zbc _ c 5 (by decide) (by decide))) (tr (if_t (tr (bd (zbs _ c (by decide) hc)) rfl)) (tr (bd (zrh md _ _ _ _ _ _ _ (sq1 (zjw (m:=6) hl (by decide) (fun k=>.str (sL [97+(r+5*k) % 26])) fun k hk=>?_)))) ?_)))
 ·refine bd (tr (bd (tr (bd (tr (bd (zlW false 5 k (by decide) (by decide))) (add_int _ _ _))) (zcv _ _ _ (by decide)))) (tr (zgB _) ?_))
  rw [show (5:Int)*(k:Int)=((5*k:Nat):Int) by lia,ht]
 ·refine ze9 hl (by exact Nat.le_trans ‹_› (by decide)) _ fun k hk=>bd (tr (bd (show zde (opM false .Add (.int k) (.int 1))=M.ret (some ((k+1:Nat):Int)) from rfl)) (zmx (l:=bl r) (show 6≤1000 by decide)))
noncomputable def fixB(l:List Nat):List Nat:=if l=[110,111,116] then [110,111,116,120] else l
noncomputable def zdJ(j:Nat):List Nat:=match j with | 0=>[121,101,115] | 1=>[110,111] | 2=>[110,111,116] | 3=>[97,110,100] | _=>[111,114]
noncomputable def zlV(w:List Nat)(i c:Nat):List Nat:=match i with | 0=>w++[c] | 1=>[c]++w | _=>w++[c]++[c]
theorem znk(j i c:Nat)(hj:j<5)(hi:i<3)(h:97≤c∧c≤122):nmB (fixB (zlV (zdJ j) i c))=true:=by
 have key:∀ j:Fin 5,∀ i:Fin 3,∀ c:Fin 26,nmB (fixB (zlV (zdJ j.val) i.val (97+c.val)))=true:=by decide +kernel
 have:=key ⟨j,hj⟩ ⟨i,hi⟩ ⟨c-97,by lia⟩
 rwa [show 97+(c-97)=c from by lia] at this
theorem zoZ(C:zad)(md:Md)(hl:md.lp=true)(c:Int)(hc:c.fmod 5=1)(m:Nat)(h6:m≤6):NmL m (zak GG C md AA.l_names [.int c,.int (m:Nat)]):=by
 obtain ⟨j,hj,hjl⟩:=zaE (c.fdiv 5) (b:=5) (by decide)
 obtain ⟨i,hi,hil⟩:=zaE ((c.fdiv 5).fdiv 130) (b:=3) (by decide)
 have hword:([PV.str "yes",.str "no",.str "not",.str "and",.str "or"])[j]?=some (.str (sL (zdJ j))):=by
  match j,hjl with
  | 0,_=>rfl
  | 1,_=>rfl
  | 2,_=>rfl
  | 3,_=>rfl
  | 4,_=>rfl
 have hwl:(zdJ j).length≤3:=by
  match j,hjl with
  | 0,_=>decide
  | 1,_=>decide
  | 2,_=>decide
  | 3,_=>decide
  | 4,_=>decide
 let sg:Nat→Nat:=fun k=>ltr ((c.fdiv 5).fdiv 5+(k:Int))
 refine NmL.rng (fun k=>sL (fixB (zlV (zdJ j) i (sg k)))) ?_ fun k _=>zjc (znk j i _ hjl hil (zl2 _))
 refine tr (zeZ C md _ _) (tr (bd (zbc _ c 5 (by decide) (by decide))) (tr (if_f (tr (bd (zbs _ c (by decide) hc)) rfl)) (tr (if_t (tr (bd (zbs _ c (by decide) hc)) rfl)) (tr (bd (tr (bd (zbs _ _ (by decide) hj)) (zfQ hword (by exact Nat.le_trans (Nat.le_of_lt ‹_›) (by decide))))) ?_))))
 refine tr (bd (ze9 hl (by exact Nat.le_trans ‹_› (by decide)) (fun k=>sL [sg k]) fun k hk=>bd (tr (bd (tr (bd (tr (bd (zbc _ _ 5 (by decide) (by decide))) (add_int _ _ _))) (zcv _ _ _ (by decide)))) (zgB _)))) ?_
 refine tr (bd (ze8 hl (ziq h6 _) (fun s=>sL (zlV (zdJ j) i ((ls s).headD 0))) fun s hs=>?_)) ?_
 ·obtain ⟨k,hk,rfl⟩:=List.mem_map.mp hs
  have hx:[PV.str (sL (zdJ j++[sg k])),.str (sL ([sg k]++zdJ j)),.str (sL (zdJ j++[sg k]++[sg k]))][i]?=some (.str (sL (zlV (zdJ j) i (sg k)))):=by
   match i,hil with
   | 0,_=>rfl
   | 1,_=>rfl
   | 2,_=>rfl
  have a1:=zf2 (mu:=false) (a:=zdJ j) (b:=[sg k]) (show _+1≤_ by exact Nat.lt_of_le_of_lt ‹_› (by decide))
  refine bd (tr (bd (bd (sq3 a1 (zf2 (a:=[sg k]) (b:=zdJ j) (show 1+_≤_ by lia)) (tr (bd a1) (zf2 (a:=zdJ j++[sg k]) (b:=[sg k]) (by rw [List.length_append];show _+1+1≤_;lia)))))) (tr (bd (tr (bd (zbc _ _ 130 (by decide) (by decide))) (zbs _ _ (by decide) hi))) (zfQ hx (by exact Nat.le_trans (Nat.le_of_lt ‹_›) (by decide)))))
 ·refine tr (ze8 hl (by rw [List.length_map];exact ziq h6 _) (fun s=>sL (fixB (ls s))) fun s _=>bd ?_) ?_
  ·refine tr (if_b (zbX s "not")) ?_
   by_cases hq:s="not"
   ·subst hq;kernel_rfl
   ·rw [zdj hq]
    have:ls s≠[110,111,116]:=fun q=>hq (by rw [← zqj s,q];rfl)
    unfold fixB
    rw [if_neg this];rfl
  ·exact congrArg (fun l=>M.ret (PV.lst (List.map PV.str l))) (by rw [List.map_map,List.map_map];rfl)
noncomputable def zdk(z a f c:Nat):List Nat:=List.replicate a f++([c]++List.replicate (z-a) f)
noncomputable def fixC(l:List Nat):List Nat:=if l=[110,111]∨l=[111,114] then l++l else l
theorem zhw{z a f c:Nat}(ha:a≤z):(zdk z a f c).length=z+1:=by
 unfold zdk;rw [List.length_append,List.length_append,List.length_replicate,List.length_replicate,List.length_singleton];lia
theorem zfj{l m:List Nat}(h:l≠m):(!(l==m))=true:=by rw [beq_eq_false_iff_ne.mpr h];rfl
theorem znj(z a f c:Nat)(hz:z<6)(ha:a≤z)(hf:97≤f∧f≤122)(hc:97≤c∧c≤122):NmOk (sL (fixC (zdk z a f c))):=by
 have hlen:=zhw (f:=f) (c:=c) ha
 have hall:∀ x∈zdk z a f c,97≤x∧x≤122:=fun x hx=>by
  rcases List.mem_append.mp hx with h | h
  ·rw [(List.mem_replicate.mp h).2];exact hf
  ·rcases List.mem_append.mp h with h | h
   ·rw [List.mem_singleton.mp h];exact hc
   ·rw [(List.mem_replicate.mp h).2];exact hf
 unfold fixC
 by_cases h:zdk z a f c=[110,111]∨zdk z a f c=[111,114]
 ·rw [if_pos h]
  rcases h with h | h <;> (rw [h];exact zjc (by decide))
 ·rw [if_neg h]
  have h3:∀ x y w:Nat,x≠y→y≠w→x≠w→zdk z a f c≠[x,y,w]:=fun x y w n1 n2 n3 q=>by
   have hz2:z=2:=by rw [q] at hlen;exact Nat.succ.inj hlen.symm
   subst hz2
   have t:∀{p1 p2 p3:Nat},[p1,p2,p3]=[x,y,w]→p1=x∧p2=y∧p3=w:=fun q=>⟨(List.cons.inj q).1,(List.cons.inj (List.cons.inj q).2).1,(List.cons.inj (List.cons.inj (List.cons.inj q).2).2).1⟩
   match a,ha,q with
   | 0,_,q=>have:=t (p1:=c) (p2:=f) (p3:=f) q;lia
   | 1,_,q=>have:=t (p1:=f) (p2:=c) (p3:=f) q;lia
   | 2,_,q=>have:=t (p1:=f) (p2:=f) (p3:=c) q;lia
  refine zjc ?_
  unfold nmB
  rw [hlen,decide_eq_true (show 1≤z+1 by lia),decide_eq_true (show z+1≤6 by assumption),zfj fun q=>h (.inl q),zfj fun q=>h (.inr q),zfj (h3 121 101 115 (by decide) (by decide) (by decide)),zfj (h3 110 111 116 (by decide) (by decide) (by decide)),zfj (h3 97 110 100 (by decide) (by decide) (by decide)),List.all_eq_true.mpr fun x hx=>by rw [decide_eq_true (hall x hx).1,decide_eq_true (hall x hx).2];rfl]
  rfl
theorem zk3(f z:Nat):zc6 (sL [f]) z=sL (List.replicate z f):=by
 show sL (List.replicate z [f]).flatten=_
 refine congrArg sL ?_
 induction z with
 | zero=>rfl
 | succ z ih=>rw [List.replicate_succ,List.replicate_succ,List.flatten_cons,ih];rfl
theorem zo2(f z:Nat)(hz:z≤1000):opM false .Mult (.str (sL [f])) (.int (z:Int))=M.ret (.str (sL (List.replicate z f))):=
 tr (c_t (by rw [decide_eq_true (show (0:Int)≤z by lia),decide_eq_true (show (z:Int)≤1000 by lia)];rfl)) (congrArg (fun s=>M.ret (PV.str s)) (zk3 f z))
theorem zoY(C:zad)(md:Md)(hl:md.lp=true)(c:Int)(hc0:c.fmod 5≠0)(hc1:c.fmod 5≠1)(m:Nat)(h6:m≤6):NmL m (zak GG C md AA.l_names [.int c,.int (m:Nat)]):=by
 obtain ⟨z,hz,hzl⟩:=zaE (c.fdiv 5) (b:=6) (by decide)
 obtain ⟨a,ha,hal⟩:=zaE ((c.fdiv 5).fdiv 6) (b:=z+1) (by lia)
 let f:Nat:=ltr ((c.fdiv 5).fdiv 36)
 let sg:Nat→Nat:=fun k=>ltr ((c.fdiv 5).fdiv 936+(k:Int))
 refine NmL.rng (fun k=>sL (fixC (zdk z a f (sg k)))) ?_ fun k _=>znj z a f _ hzl (by lia) (zl2 _) (zl2 _)
 refine tr (zeZ C md _ _) (tr (bd (zbc _ c 5 (by decide) (by decide))) (tr (if_f (tr (bd (zcv _ c 5 (by decide))) (zku hc0))) (tr (if_f (tr (bd (zcv _ c 5 (by decide))) (zku hc1))) ?_)))
 refine tr (bd (zbs _ _ (by decide) hz)) (tr (bd (tr (bd (zbc _ _ 6 (by decide) (by decide))) (tr (bd (add_int _ _ _)) (zbs _ _ (by lia) ha)))) (tr (bd (tr (bd (tr (bd (tr (bd (zbc _ _ 36 (by decide) (by decide))) (zcv _ _ _ (by decide)))) (zgB _))) (zo2 f z (by exact Nat.le_trans (Nat.le_of_lt ‹_›) (by decide))))) ?_))
 have l1:(List.replicate z f).length≤1000:=by rw [List.length_replicate];exact Nat.le_trans (Nat.le_of_lt ‹_›) (by decide)
 refine tr (bd (ze9 hl (by exact Nat.le_trans ‹_› (by decide)) (fun k=>sL (zdk z a f (sg k))) fun k hk=>bd ?_)) ?_
 ·refine tr (bd (tr (bd (tr (bd (zjb a)) (zmx l1))) (tr (bd (tr (bd (tr (bd (tr (bd (zbc _ _ 936 (by decide) (by decide))) (add_int _ _ _))) (zcv _ _ _ (by decide)))) (zgB _))) (zf2 (by rw [List.length_take];show _+1≤_;lia))))) (tr (bd (tr (bd (zjb a)) (zpK l1))) (tr (zf2 ?_) ?_))
  ·rw [List.length_append,List.length_take,List.length_drop];show _+1+_≤_;lia
  ·rw [List.take_replicate,List.drop_replicate,Nat.min_eq_left (by lia),List.append_assoc];rfl
 ·refine tr (ze8 hl (ziq h6 _) (fun s=>sL (fixC (ls s))) fun s hs=>bd ?_) ?_
  ·obtain ⟨k,hk,rfl⟩:=List.mem_map.mp hs
   refine tr (if_b (in_2 _ _ _)) ?_
   have hlen:=zhw (f:=f) (c:=sg k) (show a≤z by lia)
   show _=M.ret (PV.str (sL (fixC (zdk z a f (sg k)))))
   unfold fixC
   by_cases hq:zdk z a f (sg k)=[110,111]∨zdk z a f (sg k)=[111,114]
   ·rw [if_pos hq]
    refine tr (c_t ?_) (zf2 (by lia))
    rcases hq with q | q <;> (rw [q];decide)
   ·rw [if_neg hq,zdj (show ("no":Str)≠sL (zdk z a f (sg k)) from fun q=>hq (.inl (congrArg ls q).symm)),zdj (show ("or":Str)≠sL (zdk z a f (sg k)) from fun q=>hq (.inr (congrArg ls q).symm))];rfl
  ·exact congrArg (fun l=>M.ret (PV.lst (List.map PV.str l))) (by rw [List.map_map];rfl)
theorem l_names(C:zad)(md:Md)(hl:md.lp=true)(c:Int)(m:Nat)(h6:m≤6):NmL m (zak GG C md AA.l_names [.int c,.int (m:Nat)]):=by
 by_cases h0:c.fmod 5=0
 ·exact zo0 C md hl c h0 m h6
 ·by_cases h1:c.fmod 5=1
  ·exact zoZ C md hl c h1 m h6
  ·exact zoY C md hl c h0 h1 m h6
theorem zeV:∀ s:Say,s.nms.length≤s.sz
 | .yes=>Nat.zero_le _
 | .no=>Nat.zero_le _
 | .name _=>Nat.le_refl 1
 | .not a=>Nat.le_succ_of_le (zeV a)
 | .and a b=>by show (a.nms++b.nms).length≤a.sz+b.sz+1;have:=zeV a;have:=zeV b;rw [List.length_append];lia
 | .or a b=>by show (a.nms++b.nms).length≤a.sz+b.sz+1;have:=zeV a;have:=zeV b;rw [List.length_append];lia
noncomputable def uni(K L:List Str):List Str:=K++L.filter fun x=>!(K.any fun y=>y==x)
theorem zbN(L:List Str):uni [] L=L:=List.filter_eq_self.mpr fun _ _=>rfl
theorem zck(K L:List Str):(uni K L).length≤K.length+L.length:=by
 unfold uni;rw [List.length_append];have:=List.length_filter_le (fun x=>!(K.any fun y=>y==x)) L;lia
theorem zep(K:List Str)(x:Str):(K.any fun y=>y==x)=decide (x∈K):=by
 rw [Bool.eq_iff_iff,decide_eq_true_eq,List.any_eq_true]
 exact ⟨fun ⟨y,h,e⟩=>(eq_of_beq e)▸h,fun h=>⟨x,h,beq_self_eq_true x⟩⟩
theorem zg6(K A B:List Str):uni (uni K A) B=uni K (uni A B):=by
 have e:∀ x,(!(decide (x∈uni K A)))=(!(decide (x∈K))&&!(decide (x∈A))):=fun x=>by
  have h:x∈uni K A↔x∈K∨x∈A:=by
   unfold uni
   rw [List.mem_append,List.mem_filter,zep]
   constructor
   ·rintro (h | h)
    ·exact .inl h
    ·exact .inr h.1
   ·rintro (h | h)
    ·exact .inl h
    ·by_cases q:x∈K
     ·exact .inl q
     ·exact .inr ⟨h,by rw [decide_eq_false q];rfl⟩
  rw [← Bool.not_or,← Bool.decide_or,decide_eq_decide.mpr h]
 have f:∀ M:List Str,(fun x=>!(M.any fun y=>y==x))=fun x=>!(decide (x∈M)):=fun M=>funext fun x=>congrArg Bool.not (zep M x)
 show uni K A++B.filter _=K++(A++B.filter _).filter _
 rw [f,f,f,List.filter_append,List.filter_filter,← List.append_assoc,funext e]
 exact congrArg (fun M=>(M++List.filter (fun x=>!(decide (x∈K))&&!(decide (x∈A))) B)) (show K++A.filter _=_ by rw [f])
noncomputable def Say.met:Say→List Str
 | .yes=>[] | .no=>[] | .name s=>[s]
 | .not a=>a.met
 | .and a b=>uni a.met b.met
 | .or a b=>uni a.met b.met
theorem zdm:∀ s:Say,s.met.length≤s.nms.length
 | .yes=>Nat.zero_le _
 | .no=>Nat.zero_le _
 | .name _=>Nat.le_refl 1
 | .not a=>zdm a
 | .and a b=>by show (uni a.met b.met).length≤(a.nms++b.nms).length;have:=zdm a;have:=zdm b;have:=zck a.met b.met;rw [List.length_append];lia
 | .or a b=>by show (uni a.met b.met).length≤(a.nms++b.nms).length;have:=zdm a;have:=zdm b;have:=zck a.met b.met;rw [List.length_append];lia
theorem halves(C:zad)(md:Md)(s:Say):zak GG C md AA.halves [s.pv]=M.ret (.lst (s.parts.map Say.pv)):=by
 cases s <;> kernel_rfl
theorem zb5(s:Say):s.parts.length≤2∧∀ p∈s.parts,p.dep<s.dep∧p.sz<s.sz:=by
 cases s with
 | not a=>exact ⟨Nat.le_succ 1,zas ⟨⟨Nat.lt_succ_self _,Nat.lt_succ_self _⟩,trivial⟩⟩
 | and a b=>exact ⟨Nat.le_refl 2,zas ⟨⟨Nat.lt_succ_of_le (Nat.le_max_left _ _),by show _<a.sz+b.sz+1;lia⟩,⟨Nat.lt_succ_of_le (Nat.le_max_right _ _),by show _<a.sz+b.sz+1;lia⟩,trivial⟩⟩
 | or a b=>exact ⟨Nat.le_refl 2,zas ⟨⟨Nat.lt_succ_of_le (Nat.le_max_left _ _),by show _<a.sz+b.sz+1;lia⟩,⟨Nat.lt_succ_of_le (Nat.le_max_right _ _),by show _<a.sz+b.sz+1;lia⟩,trivial⟩⟩
 | _=>exact ⟨Nat.zero_le _,fun p hp=>absurd hp List.not_mem_nil⟩
theorem zm1(s:Say):1+(s.parts.map fun p=>(p.sz:Int)).sum=(s.sz:Int):=by
 cases s with
 | not a=>show 1+((a.sz:Int)+0)=((a.sz+1:Nat):Int);lia
 | and a b=>show 1+((a.sz:Int)+((b.sz:Int)+0))=((a.sz+b.sz+1:Nat):Int);lia
 | or a b=>show 1+((a.sz:Int)+((b.sz:Int)+0))=((a.sz+b.sz+1:Nat):Int);lia
 | _=>rfl
theorem zb3{P:Say→Prop}(h:∀ s,(∀ p∈s.parts,P p)→P s):∀ s,P s
 | .yes=>h _ fun p hp=>absurd hp List.not_mem_nil
 | .no=>h _ fun p hp=>absurd hp List.not_mem_nil
 | .name _=>h _ fun p hp=>absurd hp List.not_mem_nil
 | .not a=>h _ (zas ⟨zb3 h a,trivial⟩)
 | .and a b=>h _ (zas ⟨zb3 h a,zb3 h b,trivial⟩)
 | .or a b=>h _ (zas ⟨zb3 h a,zb3 h b,trivial⟩)
theorem zkY{s:Say}(hz:s.sz≤1000):zeK 0 (s.parts.map fun p=>(p.sz:Int))=true:=by
 have hp:=(zb5 s).2
 have hl:=(zb5 s).1
 match s.parts,hl,hp with
 | [],_,_=>rfl
 | [p],_,hp=>
  have:=hp p (.head _)
  show (zbq (p.sz:Int)&&zbq (0+(p.sz:Int))&&true)=true
  rw [za9 (by lia) (by lia),za9 (by lia) (by lia)];rfl
 | [p,q],_,hp=>
  have:=hp p (.head _)
  have:=hp q (.tail _ (.head _))
  show (zbq (p.sz:Int)&&zbq (0+(p.sz:Int))&&(zbq (q.sz:Int)&&zbq (0+(p.sz:Int)+(q.sz:Int))&&true))=true
  rw [za9 (by lia) (by lia),za9 (by lia) (by lia),za9 (by lia) (by lia),za9 (by lia) (by lia)];rfl
theorem zdC{f:PV→M (Option PV)}{g:Say→PV}:∀{ps:List Say},(∀ p∈ps,f p.pv=M.ret (some (g p)))→zaW (M.ret ()) (fun x=>M.noErr (f x)) (ps.map Say.pv)=M.ret (ps.map g)
 | [],_=>rfl
 | p::_,h=>zbZ (h p (.head _)) (zdC fun q hq=>h q (.tail _ hq))
theorem size_in:∀(s:Say)(md:Md)(d:Nat),md.lp=true→s.dep+1<d→s.sz≤1000→zah GG d md AA.size_in [s.pv]=M.ret (.int s.sz):=by
 refine zb3 fun s ih md d hl hd hz=>?_
 obtain ⟨e,rfl⟩:∃ e,d=e+2:=⟨d-2,by lia⟩
 have hp:=(zb5 s).2
 have hl2:=(zb5 s).1
 have hc:zaW (M.ret ()) (fun x=>M.noErr ((zah GG (e+1) md.inn AA.size_in [x]).bind fun y3=>M.ret (some y3))) (s.parts.map Say.pv)=M.ret (s.parts.map fun p=>PV.int (p.sz:Int)):=zdC (f:=fun x=>(zah GG (e+1) md.inn AA.size_in [x]).bind fun y3=>M.ret (some y3)) fun p q=>by
  have:=hp p q
  exact bd (ih p q md.inn (e+1) hl (by lia) (by lia))
 have hm:(s.parts.map fun p=>PV.int (p.sz:Int))=(s.parts.map fun p=>(p.sz:Int)).map PV.int:=by rw [List.map_map];rfl
 rw [hm] at hc
 refine zaj (tr (zla _ md _) (tr (bd (tr (bd (sq1 (zbQ hl (bd (zaj (halves _ md s))) (by rw [List.length_map];exact Nat.le_trans ‹_› (by decide)) hc))) (zkZ (zd6 _) (zkY hz) hl))) (tr (add_int _ _ _) (i_eq (zm1 s)))))
noncomputable def dK(K:List Str):List (Str×PV):=K.map fun k=>(k,.bool true)
theorem zpC(K:List Str)(n:Str):dput n (.bool true) (dK K)=dK (uni K [n]):=by
 unfold dput
 have e:((dK K).any fun kv=>decide (kv.1=n))=K.any fun y=>y==n:=by
  unfold dK
  rw [List.any_map]
  refine congrArg (fun f=>List.any K f) (funext fun y=>?_)
  show decide (y=n)=(y==n)
  by_cases q:y=n
  ·rw [decide_eq_true q,q,beq_self_eq_true]
  ·rw [decide_eq_false q,zdj q]
 rw [e]
 show _=dK (K++(bif !(K.any fun y=>y==n) then [n] else []))
 cases K.any fun y=>y==n with
 | true=>
  rw [if_pos rfl]
  show _=dK (K++[])
  unfold dK
  rw [List.append_nil,List.map_map]
  refine List.map_congr_left fun k _=>?_
  show (if k=n then (k,PV.bool true) else (k,PV.bool true))=_
  exact ite_self _
 | false=>
  rw [if_neg Bool.false_ne_true]
  show _=dK (K++[n])
  unfold dK
  rw [List.map_append];rfl
theorem zdZ{σ:zab}{j:Nat}{kvs:List (Str×PV)}(h:σ[j]?=some (.dict kvs)):dget j σ=.ok kvs σ:=zaa (show cget j σ=.ok (.dict kvs) σ by unfold cget;rw [h])
theorem zev{σ:zab}{j:Nat}{kvs:List (Str×PV)}{n:Str}{v:PV}(h:σ[j]?=some (.dict kvs))(hl:kvs.length<1000):setAt (.ref j) (.str n) v σ=.ok () (σ.set j (.dict (dput n v kvs))):=
 (zaa (zdZ h)).trans (congrFun (c_t (decide_eq_true hl)) σ)
noncomputable def Say.isName:Say→Bool
 | .name _=>true
 | _=>false
theorem zgg{σ:zab}{j:Nat}{c:Cel}(h:σ[j]?=some c):σ.set j c=σ:=by
 obtain ⟨h1,h2⟩:=List.getElem?_eq_some_iff.mp h
 rw [← h2,List.set_getElem_self]
theorem zpp(C:zad)(r:Bool)(n:Str)(f:PV):zak GG C ⟨r,true⟩ AA.gather_names [.tup [.str "name",.str n],f]=(setAt f (.str n) (.bool true)).bind fun _=>(((C ⟨r,true⟩ AA.halves [.tup [.str "name",.str n]]).bind zat).bind fun src=>zax AA GG C ⟨r,true⟩ (chkW src.watch) src.xs (.tup [.str "name",.str n]) f Option.none):=
 (zcV C _ _ _).trans (by kernel_rfl)
theorem zpq(C:zad)(r:Bool)(s:Say)(f:PV)(h:s.isName=false):zak GG C ⟨r,true⟩ AA.gather_names [s.pv,f]=(((C ⟨r,true⟩ AA.halves [s.pv]).bind zat).bind fun src=>zax AA GG C ⟨r,true⟩ (chkW src.watch) src.xs s.pv f Option.none):=by
 refine (zcV C _ _ _).trans ?_
 cases s with
 | name n=>cases h
 | _=>kernel_rfl
theorem zmn{C:zad}{md:Md}{sv:PV}{j:Nat}:∀(ps:List Say)(K:List Str)(σ:zab)(o:Option PV),σ[j]?=some (.dict (dK K))→K.length+(ps.map fun p=>p.nms.length).sum<1000→
  (∀ p∈ps,∀ K σ,σ[j]?=some (.dict (dK K))→K.length+p.nms.length<1000→C md AA.gather_names [p.pv,.ref j] σ=.ok .none (σ.set j (.dict (dK (uni K p.met)))))→
  zax AA GG C md (M.ret ()) (ps.map Say.pv) sv (.ref j) o σ=.ok .none (σ.set j (.dict (dK (ps.foldl (fun K p=>uni K p.met) K))))
 | [],K,σ,o,h,_,_=>by
  show Rs.ok PV.none σ=_
  rw [List.foldl_nil,zgg h]
 | p::ps,K,σ,o,h,hl,ih=>by
  have hl:K.length+(p.nms.length+(ps.map fun p=>p.nms.length).sum)<1000:=hl
  have h1:=ih p (.head _) K σ h (by lia)
  have hlt:=(List.getElem?_eq_some_iff.mp h).1
  have h2:=zmn (C:=C) (md:=md) (sv:=sv) ps (uni K p.met) (σ.set j (.dict (dK (uni K p.met)))) (some p.pv) (by rw [List.getElem?_set_self hlt]) (by have:=zck K p.met;have:=zdm p;lia) fun q hq=>ih q (.tail _ hq)
  refine (zaa h1).trans (h2.trans ?_)
  rw [List.set_set];rfl
theorem zqH:∀(s:Say)(md:Md)(d j:Nat)(K:List Str)(σ:zab),md.lp=true→s.dep+1<d→σ[j]?=some (.dict (dK K))→K.length+s.nms.length<1000→zah GG d md AA.gather_names [s.pv,.ref j] σ=.ok .none (σ.set j (.dict (dK (uni K s.met)))):=by
 refine zb3 fun s ih md d j K σ hl hd h hz=>?_
 obtain ⟨e,rfl⟩:∃ e,d=e+2:=⟨d-2,by lia⟩
 revert md
 refine znp fun r=>?_
 rw [zd4]
 have hs:((zah GG (e+1) ⟨r,true⟩ AA.halves [s.pv]).bind zat)=M.ret ⟨s.parts.map Say.pv,[]⟩:=bd (zaj (halves _ _ s))
 by_cases hn:s.isName=true
 ·cases s with
  | name n=>
   refine (congrFun (zpp _ r n (.ref j)) σ).trans ((zaa (zev h (by unfold dK;rw [List.length_map];exact Nat.le_of_lt ‹_›))).trans ((congrFun (bd hs) _).trans ?_))
   rw [zpC];rfl
  | _=>cases hn
 ·refine (congrFun (zpq _ r s (.ref j) ((Bool.not_eq_true _).mp hn)) σ).trans ((congrFun (bd hs) σ).trans ?_)
  have hps:=(zb5 s).2
  have hsum:(s.parts.map fun p=>p.nms.length).sum=s.nms.length:=by
   cases s with
   | name n=>exact absurd rfl hn
   | not a=>rfl
   | and a b=>show a.nms.length+(b.nms.length+0)=(a.nms++b.nms).length;rw [List.length_append];rfl
   | or a b=>show a.nms.length+(b.nms.length+0)=(a.nms++b.nms).length;rw [List.length_append];rfl
   | _=>rfl
  refine (zmn s.parts K σ Option.none h (by lia) fun p hp K' σ' h' hz'=>ih p hp ⟨r,true⟩ (e+1) j K' σ' rfl (by have:=hps p hp;lia) h' hz').trans ?_
  refine congrArg (fun L=>Rs.ok PV.none (σ.set j (.dict (dK L)))) ?_
  cases s with
  | name n=>exact absurd rfl hn
  | not a=>rfl
  | and a b=>exact zg6 K a.met b.met
  | or a b=>exact zg6 K a.met b.met
  | _=>exact (List.append_nil K).symm
theorem zcI:∀ l:List Str,zbt (l.map PV.str)=some l
 | []=>rfl
 | x::r=>congrArg (zhR x) (zcI r)
theorem zh1(md:Md)(mu:Bool)(v:PV):biM md mu "sorted" [v]=M.cond md.lp ((zdc v).bind fun xs=>(M.lift (zbt xs)).bind fun ss=>M.cond (decide (ss.length<64)) (mkL mu ((zal ss).map .str)) M.fail) M.fail:=by
 cases mu <;> kernel_rfl
theorem zbS{α β:Type}{f:α→Option β}{x:α}{y:β}{xs:List α}{ys:List β}(h:f x=some y)(h':zar f xs=some ys):zar f (x::xs)=some (y::ys):=by
 unfold zar;rw [h,h']
theorem zex(σ:zab)(n:Nat):∀ F:List Str,zar (whole σ (n+1)) (F.map .str)=some (F.map .str)
 | []=>rfl
 | x::F=>zbS rfl (zex σ n F)
theorem zcj{σ:zab}{a x:PV}(h:whole σ zan a=some x):wholeM a σ=.ok x σ:=by unfold wholeM;rw [h]
theorem zjK{σ:zab}{a x:List PV}(h:zar (whole σ zan) a=some x):zdH a σ=.ok x σ:=by unfold zdH;rw [h]
theorem zjE(x:Str)(F:List Str):ziR (.str x) (F.map .str)=M.ret (F.any fun y=>y==x):=by
 refine tr (bd (show wholeM (.str x)=M.ret (.str x) from rfl)) (tr (bd (funext fun σ=>zjK (zex σ 499 F))) (congrArg M.ret ?_))
 rw [List.any_map];rfl
theorem zpl(x:Str)(F:List Str):zac .In (.str x) (.lst (F.map .str))=M.ret (.bool (F.any fun y=>y==x)):=bd (show inOp (.str x) (.lst (F.map .str))=_ from zjE x F)
theorem zdN(x:Str)(F:List Str):zac .NotIn (.str x) (.lst (F.map .str))=M.ret (.bool !(F.any fun y=>y==x)):=bd (show inOp (.str x) (.lst (F.map .str))=_ from zjE x F)
theorem zcD{md:Md}(hl:md.lp=true){src:M Src}{ss:List Str}(hsrc:src=M.ret ⟨ss.map .str,[]⟩)(hs:ss.length≤1000000){f:PV→M (Option PV)}{b:Str→Bool} (hf:∀ s,f (.str s)=M.cond (b s) (M.ret (some (.str s))) (M.ret Option.none)):zaU md false src f=M.ret (.lst ((ss.filter b).map .str)):=by
 refine zbQ hl hsrc (by rw [List.length_map];assumption) ?_
 clear hsrc hs
 induction ss with
 | nil=>rfl
 | cons s r ih=>
  rw [List.filter_cons]
  have:=hf s
  cases q:b s with
  | true=>rw [q] at this;exact zbZ this ih
  | false=>rw [q] at this;exact zmB this ih
theorem zjf(C:zad)(r:Bool)(n:Str):zak GG C ⟨r,true⟩ AA.l_met [.tup [.str "name",.str n]]=M.ret (.lst [.str n]):=(zma C _ _).trans (by kernel_rfl)
theorem zjh(C:zad)(r:Bool)(s:Say)(h:s.isName=false):zak GG C ⟨r,true⟩ AA.l_met [s.pv]=zbn AA GG C ⟨r,true⟩ (M.ret ()) (s.parts.map Say.pv) s.pv (.lst []) Option.none:=by
 refine (zma C _ _).trans ?_
 cases s with
 | name n=>cases h
 | _=>kernel_rfl
theorem zjg{C:zad}{md:Md}{sv:PV}(hl:md.lp=true):∀(ps:List Say)(F:List Str)(o:Option PV),F.length+(ps.map fun p=>p.nms.length).sum≤100000→(∀ p∈ps,C md AA.l_met [p.pv]=M.ret (.lst (p.met.map .str)))→
  zbn AA GG C md (M.ret ()) (ps.map Say.pv) sv (.lst (F.map .str)) o=M.ret (.lst ((ps.foldl (fun K p=>uni K p.met) F).map .str))
 | [],F,o,_,_=>rfl
 | p::ps,F,o,hz,ih=>by
  have hz:F.length+(p.nms.length+(ps.map fun p=>p.nms.length).sum)≤100000:=hz
  have hm:=zdm p
  have hu:=zck F p.met
  have hsrc:(C md AA.l_met [p.pv]).bind zat=M.ret ⟨p.met.map .str,[]⟩:=bd (ih p (.head _))
  have h1:zaU md false ((C md AA.l_met [p.pv]).bind zat) (fun name5=>(zac .NotIn name5 (.lst (F.map .str))).bind fun cv6=>(zap cv6).bind fun b7=>M.cond b7 (M.ret (some name5)) (M.ret Option.none))=M.ret (.lst ((p.met.filter fun x=>!(F.any fun y=>y==x)).map .str)):=
   zcD (ss:=p.met) hl hsrc (by lia) fun s=>bd (zdN s F)
  refine tr (show _=zeA AA GG C md (zbn AA GG C md (M.ret ()) (ps.map Say.pv)) sv (.lst (F.map .str)) o p.pv from rfl) (tr (bd (tr (bd h1) (tr (c_t (decide_eq_true ?_)) (congrArg (fun l=>M.ret (PV.lst l)) (List.map_append (f:=PV.str)).symm)))) ?_)
  ·rw [List.length_map,List.length_map];have:=List.length_filter_le (fun x=>!(F.any fun y=>y==x)) p.met;lia
  ·exact zjg hl ps (uni F p.met) (some p.pv) (by lia) fun q hq=>ih q (.tail _ hq)
theorem l_met:∀(s:Say)(md:Md)(d:Nat),md.lp=true→s.dep<d→s.nms.length≤100000→zah GG d md AA.l_met [s.pv]=M.ret (.lst (s.met.map .str)):=by
 refine zb3 fun s ih md d hl hd hz=>?_
 obtain ⟨e,rfl⟩:∃ e,d=e+1:=⟨d-1,by lia⟩
 revert md
 refine znp fun r=>?_
 by_cases hn:s.isName=true
 ·cases s with
  | name n=>exact zaj (zjf _ r n)
  | _=>cases hn
 ·have hn:=(Bool.not_eq_true _).mp hn
  have hps:=(zb5 s).2
  have key:(s.parts.map fun p=>p.nms.length).sum=s.nms.length∧s.parts.foldl (fun K p=>uni K p.met) []=s.met:=by
   cases s with
   | name n=>cases hn
   | not a=>exact ⟨rfl,zbN _⟩
   | and a b=>exact ⟨by show a.nms.length+(b.nms.length+0)=(a.nms++b.nms).length;rw [List.length_append];rfl,by show uni (uni [] a.met) b.met=_;rw [zbN];rfl⟩
   | or a b=>exact ⟨by show a.nms.length+(b.nms.length+0)=(a.nms++b.nms).length;rw [List.length_append];rfl,by show uni (uni [] a.met) b.met=_;rw [zbN];rfl⟩
   | _=>exact ⟨rfl,rfl⟩
  have hk:∀ p∈s.parts,p.nms.length≤s.nms.length:=by
   cases s with
   | name n=>cases hn
   | not a=>exact zas ⟨Nat.le_refl _,trivial⟩
   | and a b=>exact zas ⟨by show _≤(a.nms++b.nms).length;rw [List.length_append];lia,by show _≤(a.nms++b.nms).length;rw [List.length_append];lia,trivial⟩
   | or a b=>exact zas ⟨by show _≤(a.nms++b.nms).length;rw [List.length_append];lia,by show _≤(a.nms++b.nms).length;rw [List.length_append];lia,trivial⟩
   | _=>exact fun p hp=>absurd hp List.not_mem_nil
  refine zaj (tr (zjh _ r s hn) (tr (zjg rfl s.parts [] Option.none (by rw [key.1];show 0+_≤_;lia) fun p hp=>ih p hp ⟨r,true⟩ e rfl (by have:=hps p hp;lia) (by have:=hk p hp;exact Nat.le_trans ‹_› ‹_›)) ?_))
  rw [key.2]
theorem zec{x:M PV}{b:Bool}{σ σ':zab}(h:x σ=.ok (.bool b) σ'):notM x σ=.ok (.bool !b) σ':=(zaa h).trans (zaa (a:=b) rfl)
theorem zfh{σ:zab}{j:Nat}{c:Cel}(h:σ[j]?=some c):cget j σ=.ok c σ:=by unfold cget;rw [h]
theorem zhN:∀ F:List Str,eqvs (F.map .str) (F.map .str)=true
 | []=>rfl
 | x::F=>by
  show ((x==x)&&eqvs (F.map .str) (F.map .str))=true
  rw [zhN F,beq_self_eq_true];rfl
theorem zjS{r:Bool}{F:List Str}(h:F.length<64):biM ⟨r,true⟩ false "sorted" [.lst (F.map .str)]=M.ret (.lst ((zal F).map .str)):=
 (zh1 _ _ _).trans (tr (show _=(M.lift (zbt (F.map .str))).bind (fun ss=>M.cond (decide (ss.length<64)) (mkL false ((zal ss).map .str)) M.fail) from rfl) (tr (bd (congrArg M.lift (zcI F))) (c_t (decide_eq_true h))))
theorem zpn{α:Type}{x x':M PV}{a b:M α}{σ σ':zab}(h:x σ=x' σ'):ifM x a b σ=ifM x' a b σ':=by unfold ifM M.bind;rw [h]
theorem zbM{f:PV→M (Option PV)}{x y:PV}{xs ys:List PV}{σ σ' σ'':zab}(h:f x σ=.ok (some y) σ') (h':zaW (M.ret ()) (fun x=>M.noErr (f x)) xs σ'=.ok ys σ''):zaW (M.ret ()) (fun x=>M.noErr (f x)) (x::xs) σ=.ok (y::ys) σ'':=
 (zaa (show M.noErr (f x) σ=.ok (some y) σ' by unfold M.noErr;rw [h])).trans (zaa h')
theorem ziK{md:Md}{src:M Src}{xs:List PV}{f:PV→M (Option PV)}{ys:List PV}{σ σ':zab}(hl:md.lp=true)(hs:src=M.ret ⟨xs,[]⟩)(hx:xs.length≤1000000) (h:zaW (M.ret ()) (fun x=>M.noErr (f x)) xs σ=.ok ys σ'):zaU md false src f σ=.ok (.lst ys) σ':=by
 unfold zaU
 rw [hl,hs]
 exact (congrFun (c_t (decide_eq_true (by show xs.length≤2 ^ 20;exact Nat.le_trans ‹_› (by decide)))) σ).trans (zaa h)
theorem zqG{md:Md}{mu:Bool}{σ:zab}{j:Nat}{kvs:List (Str×PV)}{k:Str}{d:PV}{x:M (List PV)}(h:σ[j]?=some (.dict kvs))(hx:x=M.ret [.str k,d]):zfs md mu "get" (.ref j) x σ=.ok ((dat kvs k).getD d) σ:=by
 rw [hx]
 refine (zaa (show tnOf (.ref j) σ=.ok .dict σ from zaa (zfh h))).trans ((zaa (show M.lift (mtOf .dict "get") σ=.ok .get σ from rfl)).trans ?_)
 exact zaa (zdZ h)
noncomputable def zjO(s:Str):Bool:=(("yes":Str)==s) || ((("no":Str)==s) || ((("not":Str)==s) || ((("and":Str)==s) || ((("or":Str)==s) || false))))
noncomputable def zge(s:Str):List Str:=(ls s).map fun c=>sL [c]
theorem zff(s:Str):zd3 s.cps.toList=(zge s).map .str:=by
 unfold zge;rw [zfg,List.map_map];rfl
noncomputable def znE(s:Str):Bool:=bif decide ((1:Int)≤s.length)&&decide ((s.length:Int)≤6) then (bif zjO s then false else (zge s).all fun c=>zgc c letters) else false
theorem zoe{md:Md}{s:Str}(h:s.length≤100000):((biM md false "len" [.str s]).bind fun b2=>((zac .LtE (.int 1) b2).bind fun c3=>(zap c3).bind fun t4=>M.cond t4 (zac .LtE b2 (.int 6)) (M.ret c3)))=M.ret (.bool (decide ((1:Int)≤s.length)&&decide ((s.length:Int)≤6))):=by
 refine tr (bd (len_str (by exact Nat.le_trans ‹_› (by decide)))) (tr (bd (c_le _ _)) ?_)
 show M.cond (decide ((1:Int)≤s.length)) (M.ret (PV.bool (decide ((s.length:Int)≤6)))) (M.ret (PV.bool (decide ((1:Int)≤s.length))))=_
 cases decide ((1:Int)≤s.length) <;> rfl
theorem ziD(C:zad)(r:Bool)(s:Str)(h:s.length≤100000):zak GG C ⟨r,true⟩ AA.is_name [.str s]=M.ret (.bool (znE s)):=by
 refine tr (zhG C _ _) (tr (if_b (tr (or_f rfl) (or_b (zcf (zoe h)) (in_5 _ _ _ _ _ _)))) ?_)
 show M.cond ((!(decide ((1:Int)≤s.length)&&decide ((s.length:Int)≤6))) || zjO s) _ _=_
 unfold znE
 cases decide ((1:Int)≤s.length)&&decide ((s.length:Int)≤6) with
 | false=>rfl
 | true=>
  cases zjO s with
  | true=>rfl
  | false=>
   have hc:zaU ⟨r,true⟩ false (zat (.str s)) (fun sign5=>(zac .In sign5 (.str "abcdefghijklmnopqrstuvwxyz")).bind fun y6=>M.ret (some y6))=M.ret (.lst ((zge s).map fun c=>PV.bool (zgc c letters))):=by
    refine zbQ rfl (show zat (.str s)=M.ret ⟨(zge s).map .str,[]⟩ from congrArg (fun l=>M.ret (Src.mk l [])) (zff s)) (by rw [List.length_map];unfold zge;rw [List.length_map,zod];exact Nat.le_trans ‹_› (by decide)) ?_
    induction zge s with
    | nil=>rfl
    | cons c l ih=>exact zbZ rfl ih
   refine tr (bd (sq1 hc)) (tr (zgS (zbG _ _) rfl) (b_eq ?_))
   rw [List.all_map];rfl
theorem zjq{α:Type}(p:α→Bool):∀ l:List α,(l.filter fun x=>!(p x)).isEmpty=l.all p
 | []=>rfl
 | x::l=>by
  rw [List.filter_cons,List.all_cons]
  cases p x with
  | true=>exact zjq p l
  | false=>rfl
theorem zqK(F:List Str):zac .Eq (.lst (F.map .str)) (.lst [])=M.ret (.bool F.isEmpty):=by
 refine bd (funext fun σ=>?_)
 show eqM (.lst (F.map .str)) (.lst []) σ=_
 refine (zaa (zcj (σ:=σ) (a:=.lst (F.map .str)) (x:=.lst (F.map .str)) (congrArg (Option.map PV.lst) (zex σ 498 F)))).trans ((zaa (zcj (a:=.lst []) (x:=.lst []) rfl)).trans ?_)
 cases F <;> rfl
theorem zgt(C:zad)(r:Bool)(s:Str)(h:s.length≤100000):zak GG C ⟨r,true⟩ AA.l_is_name [.str s]=M.ret (.bool (znE s)):=by
 refine tr (zix C _ _) (tr (if_b (tr (or_f rfl) (or_b (in_5 _ _ _ _ _ _) (zcf (zoe h))))) ?_)
 show M.cond (zjO s || (!(decide ((1:Int)≤s.length)&&decide ((s.length:Int)≤6)))) _ _=_
 unfold znE
 cases decide ((1:Int)≤s.length)&&decide ((s.length:Int)≤6) with
 | false=>cases zjO s <;> rfl
 | true=>
  cases zjO s with
  | true=>rfl
  | false=>
   have hsrc:zat (.str s)=M.ret ⟨(zge s).map .str,[]⟩:=congrArg (fun l=>M.ret (Src.mk l [])) (zff s)
   refine tr (bd (zcD (b:=fun c=>!(zgc c letters)) rfl hsrc (by unfold zge;rw [List.length_map,zod];exact Nat.le_trans ‹_› (by decide)) fun c=>rfl)) (tr (zqK _) (b_eq (zjq _ _)))
noncomputable def RfAt(σ:zab)(v:PV):Prop:=∀(md:Md)(d:Nat),md.lp=true→210<d→zah GG d md AA.is_within [v,.int 100] σ=.ok (.bool false) σ
theorem Rf.at_{v:PV}(h:Rf v)(σ:zab):RfAt σ v:=fun md d hl hd=>congrFun (h md 100 d hl hd) σ
noncomputable def Ls(n:Nat)(v:PV)(b:Bool):Prop:=∀(md:Md)(d:Nat)(σ:zab),md.lp=true→n<d→∃ τ,zah GG d md AA.l_is_saying [v] σ=.ok (.bool b) (σ++τ)
theorem Ls.mono{n m:Nat}{v:PV}{b:Bool}(h:Ls n v b)(hn:n≤m):Ls m v b:=fun md d σ hl hd=>h md d σ hl (by exact Nat.lt_of_le_of_lt ‹_› ‹_›)
theorem Ls.go{n:Nat}{v:PV}{b:Bool}(h:∀(r:Bool)(d:Nat)(σ:zab),n<d+1→∃ τ,zak GG (zah GG d) ⟨r,true⟩ AA.l_is_saying [v] σ=.ok (.bool b) (σ++τ)):Ls n v b:=by
 intro md d σ hl hd
 obtain ⟨e,rfl⟩:∃ e,d=e+1:=⟨d-1,by lia⟩
 revert md
 refine znp fun r=>?_
 rw [zd4]
 exact h r e σ hd
theorem Ls.of{n:Nat}{v:PV}{b:Bool}(h:∀(C:zad)(r:Bool),zak GG C ⟨r,true⟩ AA.l_is_saying [v]=M.ret (.bool b)):Ls n v b:=Ls.go fun r d σ _=>⟨[],(congrFun (h _ r) σ).trans (by rw [List.append_nil];rfl)⟩
theorem zo6(C:zad)(md:Md)(v:PV):zak GG C md AA.l_is_saying [.tup [.str "name",v]]=C md AA.l_is_name [v]:=(zdu C md _).trans (by kernel_rfl)
theorem Ls.name{n:Nat}{v:PV}{b:Bool}(h:∀(C:zad)(r:Bool),zak GG C ⟨r,true⟩ AA.l_is_name [v]=M.ret (.bool b)):Ls (n+1) (.tup [.str "name",v]) b:=Ls.go fun r d σ hd=>⟨[],by
 obtain ⟨e,rfl⟩:∃ e,d=e+1:=⟨d-1,by lia⟩
 exact (congrFun (tr (zo6 _ _ v) (zaj (h _ r))) σ).trans (by rw [List.append_nil];rfl)⟩
noncomputable def d5:List (Str×PV):=[("yes",.int 1),("no",.int 1),("not",.int 2),("and",.int 3),("or",.int 3)]
theorem zo7{C:zad}{r:Bool}{w:Str}{xs:List PV}(hw:(w=="name")=false)(hx:xs.length≤10)(σ:zab) :
  zak GG C ⟨r,true⟩ AA.l_is_saying [.tup (.str w::xs)] σ=ifM (zac .NotEq ((dat d5 w).getD (.int 0)) (.int ((xs.length+1:Nat):Int))) (M.ret (.bool false))
   ((seqM [zaU ⟨r,true⟩ false ((cutM false (.tup (.str w::xs)) (some 1) Option.none).bind zat) fun p=>(C ⟨false,true⟩ AA.l_is_saying [p]).bind fun y=>M.ret (some y)]).bind fun vs=>biM ⟨r,true⟩ false "all" vs) (σ++[.dict d5]):=by
 have hlen:biM ⟨r,true⟩ false "len" [.tup (.str w::xs)]=M.ret (.int ((xs.length+1:Nat):Int)):=zeY (by rw [List.length_cons];exact Nat.lt_of_le_of_lt ‹_› (by decide))
 have e:zak GG C ⟨r,true⟩ AA.l_is_saying [.tup (.str w::xs)]=_:=tr (zdu C _ _) (tr (if_f (tr (or_f rfl) (tr (or_f (tr (bd hlen) (zku (by lia)))) (zcf (b:=true) (tr (bd (ix_0 _ _)) rfl))))) (if_f (tr (bd (ix_0 _ _)) (tr (zbX _ _) (b_eq hw)))))
 refine (congrFun e σ).trans ((zaa (show cnew (.dict d5) σ=.ok (.ref σ.length) (σ++[.dict d5]) from rfl)).trans ?_)
 have h1:=(zaa (f:=fun a8=>(biM ⟨r,true⟩ false "len" [.tup (.str w::xs)]).bind fun b9=>zac .NotEq a8 b9) (zqG (md:=⟨r,true⟩) (mu:=false) (σ:=σ++[.dict d5]) (j:=σ.length) (kvs:=d5) (k:=w) (d:=.int 0) zaN (sq2 (ix_0 (.str w) xs) rfl))).trans (congrFun (bd hlen) _)
 exact zpn h1
theorem zmC{n d:Nat}(hd:n<d):∀(ps:List (PV×Bool))(σ:zab),(∀ p∈ps,Ls n p.1 p.2)→∃ τ,zaW (M.ret ()) (fun x=>M.noErr ((zah GG d ⟨false,true⟩ AA.l_is_saying [x]).bind fun y=>M.ret (some y))) (ps.map (·.1)) σ=.ok (ps.map fun p=>.bool p.2) (σ++τ)
 | [],σ,_=>⟨[],by rw [List.append_nil];rfl⟩
 | p::ps,σ,h=>by
  obtain ⟨τ,h1⟩:=h p (.head _) ⟨false,true⟩ d σ rfl hd
  obtain ⟨τ',h2⟩:=zmC hd ps (σ++τ) fun q hq=>h q (.tail _ hq)
  refine ⟨τ++τ',?_⟩
  rw [← List.append_assoc]
  exact zbM (f:=fun x=>(zah GG d ⟨false,true⟩ AA.l_is_saying [x]).bind fun y=>M.ret (some y)) (zaa h1) h2
theorem Ls.step{n:Nat}{w:Str}(ps:List (PV×Bool))(hw:(w=="name")=false)(hx:ps.length≤10) (hg:(dat d5 w).getD (.int 0)=.int ((ps.length+1:Nat):Int)) (h:∀ p∈ps,Ls n p.1 p.2):Ls (n+1) (.tup (.str w::ps.map (·.1))) (ps.all (·.2)):=Ls.go fun r d σ hd=>by
 have hm:(ps.map (·.1)).length=ps.length:=List.length_map _
 obtain ⟨τ,h1⟩:=zmC (n:=n) (d:=d) (by lia) ps (σ++[.dict d5]) h
 refine ⟨[.dict d5]++τ,(zo7 hw (by lia) σ).trans ?_⟩
 rw [hg,hm,← List.append_assoc]
 have hsrc:(cutM false (.tup (.str w::ps.map (·.1))) (some 1) Option.none).bind zat=M.ret ⟨ps.map (·.1),[]⟩:=bd (znN (by lia))
 refine (congrFun (if_f (tr (zqo _ _) (b_eq (by rw [beq_self_eq_true];rfl)))) _).trans ((zaa (znZ (ziK rfl hsrc (by lia) h1))).trans ((congrFun (zgS (zbG (fun p:PV×Bool=>p.2) ps) rfl) _).trans ?_))
 rw [List.all_map];rfl
theorem zfM:∀(s:Say),s.Ok→Ls (s.dep+1) s.pv true
 | .yes,_=>Ls.step (n:=1) (w:="yes") [] (by decide) (by decide) rfl (fun p hp=>absurd hp List.not_mem_nil)
 | .no,_=>Ls.step (n:=1) (w:="no") [] (by decide) (by decide) rfl (fun p hp=>absurd hp List.not_mem_nil)
 | .name s,ok=>Ls.name (n:=1) fun C r=>(zgt C r s (by have:=ok.hi;exact Nat.le_trans ‹_› (by decide))).trans (b_eq (by
   have h1:=zfR C ⟨r,true⟩ rfl ok
   rw [ziD C r s (by have:=ok.hi;exact Nat.le_trans ‹_› (by decide))] at h1
   exact PV.bool.inj (Rs.ok.inj (congrFun h1 [])).1))
 | .not a,ok=>Ls.step (n:=a.dep+1) (w:="not") [(a.pv,true)] (by decide) (show 1≤10 by decide) rfl (zas ⟨zfM a ok,trivial⟩)
 | .and a b,ok=>Ls.step (n:=max a.dep b.dep+1) (w:="and") [(a.pv,true),(b.pv,true)] (by decide) (show 2≤10 by decide) rfl (zas ⟨(zfM a ok.1).mono (by lia),(zfM b ok.2).mono (by lia),trivial⟩)
 | .or a b,ok=>Ls.step (n:=max a.dep b.dep+1) (w:="or") [(a.pv,true),(b.pv,true)] (by decide) (show 2≤10 by decide) rfl (zas ⟨(zfM a ok.1).mono (by lia),(zfM b ok.2).mono (by lia),trivial⟩)
theorem zbd(k:Str)(v:PV)(r:List (Str×PV))(x:Str):dat ((k,v)::r) x=bif decide (k=x) then some v else dat r x:=by
 unfold dat
 rw [List.find?_cons]
 cases decide (k=x) <;> rfl
theorem zmw(a b:List (Str×PV))(x:Str) (h:(a.any fun kv=>decide (kv.1=x))=false):dat (a++b) x=dat b x:=by
 induction a with
 | nil=>rfl
 | cons p r ih=>
  obtain ⟨k,v⟩:=p
  rw [List.any_cons,Bool.or_eq_false_iff] at h
  rw [List.cons_append,zbd,h.1]
  exact ih h.2
theorem znM(a b:List (Str×PV))(x:Str)(v:PV)(h:dat a x=some v):dat (a++b) x=some v:=by
 induction a with
 | nil=>cases h
 | cons p r ih=>
  obtain ⟨k,w⟩:=p
  rw [zbd] at h
  rw [List.cons_append,zbd]
  cases q:decide (k=x) with
  | true=>rw [q] at h;exact h
  | false=>rw [q] at h;exact ih h
theorem zpI(kvs:List (Str×PV))(n:Str)(v:PV)(x:Str):dat (kvs.map fun kv=>if kv.1=n then (kv.1,v) else kv) x=if x=n then (dat kvs x).map (fun _=>v) else dat kvs x:=by
 induction kvs with
 | nil=>split <;> rfl
 | cons p r ih=>
  obtain ⟨k,w⟩:=p
  rw [List.map_cons]
  by_cases hk:k=n
  ·rw [if_pos hk,zbd,zbd,ih]
   by_cases hx:k=x
   ·rw [decide_eq_true hx]
    show some v=_
    rw [if_pos (hx.symm.trans hk)];rfl
   ·rw [decide_eq_false hx];rfl
  ·rw [if_neg hk,zbd,zbd,ih]
   by_cases hx:k=x
   ·rw [decide_eq_true hx]
    show some w=_
    rw [if_neg (fun q=>hk (hx.trans q))];rfl
   ·rw [decide_eq_false hx];rfl
theorem zbw(kvs:List (Str×PV))(n:Str)(v:PV)(x:Str):dat (dput n v kvs) x=if x=n then some v else dat kvs x:=by
 unfold dput
 cases q:kvs.any fun kv=>decide (kv.1=n) with
 | true=>
  rw [if_pos rfl,zpI]
  by_cases hx:x=n
  ·rw [if_pos hx,if_pos hx,hx]
   have:∃ w,dat kvs n=some w:=by
    induction kvs with
    | nil=>cases q
    | cons p r ih=>
     obtain ⟨k,w⟩:=p
     rw [zbd]
     rw [List.any_cons] at q
     cases q':decide (k=n) with
     | true=>exact ⟨w,rfl⟩
     | false=>rw [show decide ((k,w).1=n)=false from q',Bool.false_or] at q;exact ih q
   obtain ⟨w,hw⟩:=this
   rw [hw];rfl
  ·rw [if_neg hx,if_neg hx]
 | false=>
  rw [if_neg Bool.false_ne_true]
  by_cases hx:x=n
  ·rw [if_pos hx,hx,zmw _ _ _ q,zbd,decide_eq_true rfl];rfl
  ·rw [if_neg hx]
   cases h:dat kvs x with
   | some w=>exact znM _ _ _ _ h
   | none=>
    have:(kvs.any fun kv=>decide (kv.1=x))=false:=by
     clear q
     induction kvs with
     | nil=>rfl
     | cons p r ih=>
      obtain ⟨k,w⟩:=p
      rw [zbd] at h
      rw [List.any_cons]
      cases q':decide (k=x) with
      | true=>rw [q'] at h;cases h
      | false=>rw [q'] at h;exact ih h
    rw [zmw _ _ _ this,zbd,decide_eq_false (fun e=>hx e.symm)];rfl
theorem zgJ(kvs:List (Str×PV))(n:Str)(v:PV):(dput n v kvs).length≤kvs.length+1:=by
 unfold dput
 split
 ·rw [List.length_map];lia
 ·rw [List.length_append];exact Nat.le_refl _
structure DOk (kvs:List (Str×PV)):Prop where
 one:∀ kv∈kvs,dat kvs kv.1=some kv.2
 flat:∀ kv∈kvs,zpx kv.2=true
theorem DOk.put{kvs:List (Str×PV)}(h:DOk kvs)(n:Str){v:PV}(hv:zpx v=true):DOk (dput n v kvs):=by
 have key:∀ kv∈dput n v kvs,(kv.1=n∧kv.2=v)∨(kv.1≠n∧kv∈kvs):=fun kv hkv=>by
  unfold dput at hkv
  split at hkv
  ·obtain ⟨p,hp,rfl⟩:=List.mem_map.mp hkv
   by_cases q:p.1=n
   ·rw [if_pos q];exact .inl ⟨q,rfl⟩
   ·rw [if_neg q];exact .inr ⟨q,hp⟩
  ·rename_i hn
   rcases List.mem_append.mp hkv with h1 | h1
   ·refine .inr ⟨fun q=>hn (List.any_eq_true.mpr ⟨kv,h1,decide_eq_true q⟩),h1⟩
   ·rw [List.mem_singleton.mp h1];exact .inl ⟨rfl,rfl⟩
 refine ⟨fun kv hkv=>?_,fun kv hkv=>?_⟩
 ·rw [zbw]
  rcases key kv hkv with ⟨h1,h2⟩ | ⟨h1,h2⟩
  ·rw [if_pos h1,h2]
  ·rw [if_neg h1];exact h.one kv h2
 ·rcases key kv hkv with ⟨h1,h2⟩ | ⟨h1,h2⟩
  ·rw [h2];exact hv
  ·exact h.flat kv h2
theorem zof{σ:zab}{j:Nat}{kvs:List (Str×PV)}{n:Str}{v:PV}(h:σ[j]?=some (.dict kvs))(hv:dat kvs n=some v):zaf (.ref j) (.str n) σ=.ok v σ:=
 (zaa (zdZ h)).trans (by rw [hv];rfl)
theorem zpP(md:Md)(mu:Bool)(v:PV):biM md mu "dict" [v]=zpG v:=by kernel_rfl
theorem zpF{md:Md}{mu:Bool}{σ:zab}{j:Nat}{kvs:List (Str×PV)}(h:σ[j]?=some (.dict kvs))(hl:kvs.length<1000):biM md mu "dict" [.ref j] σ=.ok (.ref σ.length) (σ++[.dict kvs]):=
 at_ (zpP md mu _) (tr (zaa (zdZ h)) (congrFun (c_t (decide_eq_true hl)) σ))
theorem zpO(r mu:Bool)(v:PV):biM ⟨r,true⟩ mu "list" [v]=zo9 (cxM ⟨r,true⟩ mu) p0 v:=by kernel_rfl
theorem zo8{r:Bool}{σ:zab}{j:Nat}{kvs:List (Str×PV)}(h:σ[j]?=some (.dict kvs))(hl:kvs.length<1000):biM ⟨r,true⟩ false "list" [.ref j] σ=.ok (.lst (kvs.map fun kv=>.str kv.1)) σ:=
 at_ (zpO r false _) (tr (zaa (zfh h)) (congrFun (show M.cond (true&&decide (kvs.length≤2 ^ 20)) _ _=_ from c_t (by rw [decide_eq_true (by exact Nat.le_trans (Nat.le_of_lt ‹_›) (by decide))];rfl)) σ))
theorem zqw{σ:zab}{j:Nat}{kvs:List (Str×PV)}(h:σ[j]?=some (.dict kvs)):isM GG (.bi .dict) (.ref j) σ=.ok (.bool true) σ:=zaa (zaa (zfh h))
noncomputable def Say.tv(f:Str→Bool):Say→Bool
 | .yes=>true | .no=>false | .name s=>f s
 | .not a=>!a.tv f
 | .and a b=>a.tv f&&b.tv f
 | .or a b=>a.tv f || b.tv f
noncomputable def fOf(kvs:List (Str×PV))(x:Str):Bool:=match dat kvs x with
 | some (.bool b)=>b
 | _=>false
noncomputable def Bl(kvs:List (Str×PV))(x:Str):Prop:=∃ b,dat kvs x=some (.bool b)
theorem Bl.f{kvs:List (Str×PV)}{x:Str}(h:Bl kvs x):dat kvs x=some (.bool (fOf kvs x)):=by
 obtain ⟨b,h⟩:=h
 unfold fOf;rw [h]
theorem zpV{x y:M PV}{b c:Bool}{σ:zab}(h:x σ=.ok (.bool b) σ)(h':y σ=.ok (.bool c) σ):andM x y σ=.ok (.bool (b&&c)) σ:=by
 refine (zaa h).trans ((zaa (a:=b) rfl).trans ?_)
 cases b with
 | true=>exact h'
 | false=>rfl
theorem zql{x y:M PV}{b c:Bool}{σ:zab}(h:x σ=.ok (.bool b) σ)(h':y σ=.ok (.bool c) σ):orM x y σ=.ok (.bool (b || c)) σ:=by
 refine (zaa h).trans ((zaa (a:=b) rfl).trans ?_)
 cases b with
 | true=>rfl
 | false=>exact h'
structure TvF (a:Addr):Prop where
 yes:∀ C md v,zak GG C md a [.tup [.str "yes"],v]=M.ret (.bool true)
 no:∀ C md v,zak GG C md a [.tup [.str "no"],v]=M.ret (.bool false)
 name:∀ C md n v,zak GG C md a [.tup [.str "name",.str n],v]=zaf v (.str n)
 not:∀ C md x v,zak GG C md a [.tup [.str "not",x],v]=notM (C md a [x,v])
 and:∀ C md x y v,zak GG C md a [.tup [.str "and",x,y],v]=andM (C md a [x,v]) (C md a [y,v])
 or:∀ C md x y v,zak GG C md a [.tup [.str "or",x,y],v]=orM (C md a [x,v]) (C md a [y,v])
theorem TvF.at_{a:Addr}(F:TvF a){σ:zab}{j:Nat}{kvs:List (Str×PV)}(h:σ[j]?=some (.dict kvs))(md:Md):∀(s:Say)(d:Nat),s.dep<d→(∀ x∈s.nms,Bl kvs x)→zah GG d md a [s.pv,.ref j] σ=.ok (.bool (s.tv (fOf kvs))) σ
 | .yes,d+1,_,_=>congrFun (zaj (F.yes _ md _)) σ
 | .no,d+1,_,_=>congrFun (zaj (F.no _ md _)) σ
 | .name n,d+1,_,hb=>Mine.at_ (zaj (F.name _ md n _)) (zof h (hb n (.head _)).f)
 | .not x,d+1,hd,hb=>Mine.at_ (zaj (F.not _ md _ _)) (zec (F.at_ h md x d (Nat.lt_of_succ_lt_succ hd) hb))
 | .and x y,d+1,hd,hb=>by
  have hd:max x.dep y.dep+1<d+1:=hd
  exact Mine.at_ (zaj (F.and _ md _ _ _)) (zpV (F.at_ h md x d (by lia) fun z hz=>hb z (List.mem_append_left _ hz)) (F.at_ h md y d (by lia) fun z hz=>hb z (List.mem_append_right _ hz)))
 | .or x y,d+1,hd,hb=>by
  have hd:max x.dep y.dep+1<d+1:=hd
  exact Mine.at_ (zaj (F.or _ md _ _ _)) (zql (F.at_ h md x d (by lia) fun z hz=>hb z (List.mem_append_left _ hz)) (F.at_ h md y d (by lia) fun z hz=>hb z (List.mem_append_right _ hz)))
theorem tv_true:TvF AA.l_true:=⟨fun _ _ _=>by kernel_rfl,fun _ _ _=>by kernel_rfl,fun _ _ _ _=>by kernel_rfl,fun _ _ _ _=>by kernel_rfl,fun _ _ _ _ _=>by kernel_rfl,fun _ _ _ _ _=>by kernel_rfl⟩
theorem zlY(x:Str)(K A:List Str):x∈uni K A→x∈K∨x∈A:=fun h=>(List.mem_append.mp h).elim .inl fun h=>.inr (List.mem_filter.mp h).1
theorem zbC:∀(s:Say)(x:Str),x∈s.met→x∈s.nms
 | .yes,_,h=>h
 | .no,_,h=>h
 | .name _,_,h=>h
 | .not a,x,h=>zbC a x h
 | .and a b,x,h=>List.mem_append.mpr ((zlY x _ _ h).imp (zbC a x) (zbC b x))
 | .or a b,x,h=>List.mem_append.mpr ((zlY x _ _ h).imp (zbC a x) (zbC b x))
theorem ze2{σ τ:zab}{j:Nat}{c:Cel}(h:σ[j]?=some c):(σ++τ)[j]?=some c:=by
 rw [List.getElem?_append_left (List.getElem?_eq_some_iff.mp h).1];exact h
theorem zmq(b:Bool):zpx (.bool b)=true:=rfl
theorem Bl.put{kvs:List (Str×PV)}{x:Str}(n:Str)(b:Bool)(h:x=n∨Bl kvs x):Bl (dput n (.bool b) kvs) x:=by
 by_cases q:x=n
 ·exact ⟨b,by rw [zbw,if_pos q]⟩
 ·obtain ⟨c,hc⟩:=h.resolve_left q
  exact ⟨c,by rw [zbw,if_neg q];exact hc⟩
theorem zpz(b c:Bool):zac .Eq (.bool b) (.bool c)=M.ret (.bool (b==c)):=by kernel_rfl
theorem opt2{f:PV→Option PV}{w x:PV}(hw:f w=some w)(hx:f x=some x):zar f [w,x]=some [w,x]:=zbS hw (zbS hx rfl)
theorem opt3{f:PV→Option PV}{w x y:PV}(hw:f w=some w)(hx:f x=some x)(hy:f y=some y):zar f [w,x,y]=some [w,x,y]:=zbS hw (zbS hx (zbS hy rfl))
theorem zbx(σ:zab):∀(s:Say)(n:Nat),s.dep<n→whole σ n s.pv=some s.pv
 | .yes,n+2,_=>rfl
 | .no,n+2,_=>rfl
 | .name _,n+2,_=>rfl
 | .not a,n+2,h=>congrArg (Option.map PV.tup) (opt2 (f:=whole σ (n+1)) (w:=.str "not") rfl (zbx σ a (n+1) (Nat.lt_of_succ_lt_succ h)))
 | .and a b,n+2,h=>by
  have h:max a.dep b.dep+1<n+2:=h
  exact congrArg (Option.map PV.tup) (opt3 (f:=whole σ (n+1)) (w:=.str "and") rfl (zbx σ a (n+1) (by lia)) (zbx σ b (n+1) (by lia)))
 | .or a b,n+2,h=>by
  have h:max a.dep b.dep+1<n+2:=h
  exact congrArg (Option.map PV.tup) (opt3 (f:=whole σ (n+1)) (w:=.str "or") rfl (zbx σ a (n+1) (by lia)) (zbx σ b (n+1) (by lia)))
theorem zcB:∀ s:Say,eqv s.pv s.pv=true
 | .yes=>by decide
 | .no=>by decide
 | .name n=>by show ((("name":Str)=="name")&&((n==n)&&true))=true;rw [beq_self_eq_true n];decide
 | .not a=>by show ((("not":Str)=="not")&&(eqv a.pv a.pv&&true))=true;rw [zcB a];decide
 | .and a b=>by show ((("and":Str)=="and")&&(eqv a.pv a.pv&&(eqv b.pv b.pv&&true)))=true;rw [zcB a,zcB b];decide
 | .or a b=>by show ((("or":Str)=="or")&&(eqv a.pv a.pv&&(eqv b.pv b.pv&&true)))=true;rw [zcB a,zcB b];decide
noncomputable def Say.beq(a b:Say):Bool:=eqv a.pv b.pv
theorem ff{b:Bool}{P:Prop}(h:b=true)(e:b=false):P:=by rw [e] at h;cases h
theorem zen:∀ a b:Say,a.beq b=true→a=b
 | .yes,.yes,_=>rfl
 | .no,.no,_=>rfl
 | .name n,.name m,h=>by
  have h:((("name":Str)=="name")&&((n==m)&&true))=true:=h
  rw [eq_of_beq (Bool.and_eq_true_iff.mp (Bool.and_eq_true_iff.mp h).2).1]
 | .not a,.not b,h=>by
  have h:((("not":Str)=="not")&&(a.beq b&&true))=true:=h
  rw [zen a b (Bool.and_eq_true_iff.mp (Bool.and_eq_true_iff.mp h).2).1]
 | .and a c,.and b d,h=>by
  have h:((("and":Str)=="and")&&(a.beq b&&(c.beq d&&true)))=true:=h
  have h:=Bool.and_eq_true_iff.mp (Bool.and_eq_true_iff.mp h).2
  rw [zen a b h.1,zen c d (Bool.and_eq_true_iff.mp h.2).1]
 | .or a c,.or b d,h=>by
  have h:((("or":Str)=="or")&&(a.beq b&&(c.beq d&&true)))=true:=h
  have h:=Bool.and_eq_true_iff.mp (Bool.and_eq_true_iff.mp h).2
  rw [zen a b h.1,zen c d (Bool.and_eq_true_iff.mp h.2).1]
 | .yes,.no,h=>ff h (by kernel_rfl)
 | .yes,.name _,h=>ff h (by kernel_rfl)
 | .yes,.not _,h=>ff h (by kernel_rfl)
 | .yes,.and _ _,h=>ff h (by kernel_rfl)
 | .yes,.or _ _,h=>ff h (by kernel_rfl)
 | .no,.yes,h=>ff h (by kernel_rfl)
 | .no,.name _,h=>ff h (by kernel_rfl)
 | .no,.not _,h=>ff h (by kernel_rfl)
 | .no,.and _ _,h=>ff h (by kernel_rfl)
 | .no,.or _ _,h=>ff h (by kernel_rfl)
 | .name _,.yes,h=>ff h (by kernel_rfl)
 | .name _,.no,h=>ff h (by kernel_rfl)
 | .name _,.not _,h=>ff h (by kernel_rfl)
 | .name _,.and _ _,h=>ff h (by kernel_rfl)
 | .name _,.or _ _,h=>ff h (by kernel_rfl)
 | .not _,.yes,h=>ff h (by kernel_rfl)
 | .not _,.no,h=>ff h (by kernel_rfl)
 | .not _,.name _,h=>ff h (by kernel_rfl)
 | .not _,.and _ _,h=>ff h (by kernel_rfl)
 | .not _,.or _ _,h=>ff h (by kernel_rfl)
 | .and _ _,.yes,h=>ff h (by kernel_rfl)
 | .and _ _,.no,h=>ff h (by kernel_rfl)
 | .and _ _,.name _,h=>ff h (by kernel_rfl)
 | .and _ _,.not _,h=>ff h (by kernel_rfl)
 | .and _ _,.or _ _,h=>ff h (by kernel_rfl)
 | .or _ _,.yes,h=>ff h (by kernel_rfl)
 | .or _ _,.no,h=>ff h (by kernel_rfl)
 | .or _ _,.name _,h=>ff h (by kernel_rfl)
 | .or _ _,.not _,h=>ff h (by kernel_rfl)
 | .or _ _,.and _ _,h=>ff h (by kernel_rfl)
theorem zh7(s:Say)(hd:s.dep<400):wholeM s.pv=M.ret s.pv:=funext fun σ=>zcj (zbx σ s zan (by unfold zan;exact Nat.le_trans ‹_› (by decide)))
theorem zjt(a b:Say)(ha:a.dep<400)(hb:b.dep<400):zac .Eq a.pv b.pv=M.ret (.bool (a.beq b)):=by
 refine bd (funext fun σ=>?_)
 have e:eqX a.pv b.pv σ=eqM a.pv b.pv σ:=by cases a <;> rfl
 exact e.trans (congrFun (tr (bd (zh7 a ha)) (bd (zh7 b hb))) σ)
noncomputable def Say.isB(v:Bool):Say→Bool
 | .yes=>v
 | .no=>!v
 | _=>false
noncomputable def cB(v:Bool):Say:=bif v then .yes else .no
noncomputable def bin(o:Bool)(a b:Say):Say:=bif o then .or a b else .and a b
noncomputable def jn(o:Bool)(a b:Say):Say:=bif a.isB o || b.isB o then cB o else bif a.isB (!o) || a.beq b then b else bif b.isB (!o) then a else bin o a b
noncomputable def nNot:Say→Say
 | .not x=>x
 | .yes=>.no
 | .no=>.yes
 | s=>.not s
noncomputable def nt:Say→Say
 | .and a b=>jn false (nt a) (nt b)
 | .or a b=>jn true (nt a) (nt b)
 | .not a=>nNot (nt a)
 | s=>s
theorem zjn{a:Say}{v:Bool}(h:a.isB v=true):a=cB v:=by
 cases a with
 | yes=>cases v with
  | true=>rfl
  | false=>cases h
 | no=>cases v with
  | true=>cases h
  | false=>rfl
 | _=>cases h
theorem zjk{P:Say→Prop}(o:Bool)(a b:Say)(h1:P (cB o))(h2:a.isB (!o) || a.beq b→P b)(h3:b.isB (!o)=true→P a)(h4:a.isB o=false→b.isB o=false→a.isB (!o)=false→b.isB (!o)=false→a.beq b=false→P (bin o a b)):P (jn o a b):=by
 unfold jn
 cases q1:a.isB o || b.isB o with
 | true=>exact h1
 | false=>
  cases q2:a.isB (!o) || a.beq b with
  | true=>exact h2 q2
  | false=>
   cases q3:b.isB (!o) with
   | true=>exact h3 q3
   | false=>exact h4 (Bool.or_eq_false_iff.mp q1).1 (Bool.or_eq_false_iff.mp q1).2 (Bool.or_eq_false_iff.mp q2).1 q3 (Bool.or_eq_false_iff.mp q2).2
structure Gd (ns:List Str) (D Z:Nat) (s:Say):Prop where
 ok:s.Ok
 dep:s.dep≤D
 sz:s.sz≤Z
 nm:∀ x∈s.nms,x∈ns
theorem Gd.mono{ns:List Str}{D D' Z Z':Nat}{s:Say}(h:Gd ns D Z s)(hD:D≤D')(hZ:Z≤Z'):Gd ns D' Z' s:=⟨h.ok,Nat.le_trans h.dep hD,Nat.le_trans h.sz hZ,h.nm⟩
theorem Gd.self(s:Say)(ok:s.Ok):Gd s.nms s.dep s.sz s:=⟨ok,Nat.le_refl _,Nat.le_refl _,fun _ h=>h⟩
theorem Gd.sub{ns ms:List Str}{D Z:Nat}{s:Say}(h:Gd ns D Z s)(hs:∀ x∈ns,x∈ms):Gd ms D Z s:=⟨h.ok,h.dep,h.sz,fun x hx=>hs x (h.nm x hx)⟩
theorem Gd.const(ns:List Str){D Z:Nat}(v:Bool)(hD:1≤D)(hZ:1≤Z):Gd ns D Z (cB v):=by
 cases v <;> exact ⟨trivial,hD,hZ,fun x hx=>absurd hx List.not_mem_nil⟩
theorem Gd.bin{ns:List Str}{D Z Y:Nat}{a b:Say}(o:Bool)(ha:Gd ns D Z a)(hb:Gd ns D Y b):Gd ns (D+1) (Z+Y+1) (bin o a b):=by
 have h1:=ha.dep;have h2:=hb.dep;have h3:=ha.sz;have h4:=hb.sz
 cases o <;> exact ⟨⟨ha.ok,hb.ok⟩,by show max a.dep b.dep+1≤_;lia,by show a.sz+b.sz+1≤_;lia,fun x hx=>(List.mem_append.mp hx).elim (ha.nm x) (hb.nm x)⟩
theorem Gd.not{ns:List Str}{D Z:Nat}{a:Say}(ha:Gd ns D Z a):Gd ns (D+1) (Z+1) (.not a):=⟨ha.ok,Nat.succ_le_succ ha.dep,Nat.succ_le_succ ha.sz,ha.nm⟩
theorem Gd.jn{ns:List Str}{D Z Y:Nat}{a b:Say}(o:Bool)(ha:Gd ns D Z a)(hb:Gd ns D Y b):Gd ns (D+1) (Z+Y+1) (jn o a b):=
 zjk (P:=Gd ns (D+1) (Z+Y+1)) o a b (Gd.const ns o (by lia) (by lia)) (fun _=>hb.mono (by lia) (by lia)) (fun _=>ha.mono (by lia) (by lia)) fun _ _ _ _ _=>ha.bin o hb
theorem Gd.nNot{ns:List Str}{D Z:Nat}{a:Say}(ha:Gd ns D Z a):Gd ns (D+1) (Z+1) (nNot a):=by
 cases a with
 | not x=>exact ⟨ha.ok,Nat.le_trans (Nat.le_succ _) (Nat.le_trans ha.dep (Nat.le_succ _)),Nat.le_trans (Nat.le_succ _) (Nat.le_trans ha.sz (Nat.le_succ _)),ha.nm⟩
 | yes=>exact Gd.const ns false (by lia) (by lia)
 | no=>exact Gd.const ns true (by lia) (by lia)
 | name n=>exact ha.not
 | and x y=>exact ha.not
 | or x y=>exact ha.not
theorem ze3:∀ s:Say,s.Ok→Gd s.nms s.dep s.sz (nt s)
 | .yes,ok=>Gd.self _ ok
 | .no,ok=>Gd.self _ ok
 | .name _,ok=>Gd.self _ ok
 | .not a,ok=>(ze3 a ok).nNot
 | .and a b,ok=>(((ze3 a ok.1).sub fun x hx=>List.mem_append_left _ hx).mono (Nat.le_max_left _ _) (Nat.le_refl _)).jn false (((ze3 b ok.2).sub fun x hx=>List.mem_append_right _ hx).mono (Nat.le_max_right _ _) (Nat.le_refl _))
 | .or a b,ok=>(((ze3 a ok.1).sub fun x hx=>List.mem_append_left _ hx).mono (Nat.le_max_left _ _) (Nat.le_refl _)).jn true (((ze3 b ok.2).sub fun x hx=>List.mem_append_right _ hx).mono (Nat.le_max_right _ _) (Nat.le_refl _))
noncomputable def opB(o a b:Bool):Bool:=bif o then a || b else a&&b
theorem zkR(f:Str→Bool)(v:Bool):(cB v).tv f=v:=by cases v <;> rfl
theorem zp7(f:Str→Bool)(o:Bool)(a b:Say):(jn o a b).tv f=opB o (a.tv f) (b.tv f):=by
 unfold jn
 cases q1:a.isB o || b.isB o with
 | true=>
  show (cB o).tv f=_
  rw [zkR]
  rcases Bool.or_eq_true_iff.mp q1 with h | h
  ·rw [zjn h,zkR];cases o <;> rfl
  ·rw [zjn h,zkR];cases o <;> cases a.tv f <;> rfl
 | false=>
  cases q2:a.isB (!o) || a.beq b with
  | true=>
   show b.tv f=_
   rcases Bool.or_eq_true_iff.mp q2 with h | h
   ·rw [zjn h,zkR];cases o <;> rfl
   ·rw [zen a b h];cases o <;> cases b.tv f <;> rfl
  | false=>
   cases q3:b.isB (!o) with
   | true=>show a.tv f=_;rw [zjn q3,zkR];cases o <;> cases a.tv f <;> rfl
   | false=>cases o <;> rfl
theorem zh9(f:Str→Bool):∀ s:Say,(nt s).tv f=s.tv f
 | .yes=>rfl
 | .no=>rfl
 | .name _=>rfl
 | .not a=>by
  show (nNot (nt a)).tv f=!(a.tv f)
  rw [← zh9 f a]
  cases nt a with
  | not x=>show x.tv f=!(!(x.tv f));rw [Bool.not_not]
  | _=>rfl
 | .and a b=>by show (jn false (nt a) (nt b)).tv f=_;rw [zp7,zh9 f a,zh9 f b];rfl
 | .or a b=>by show (jn true (nt a) (nt b)).tv f=_;rw [zp7,zh9 f a,zh9 f b];rfl
noncomputable def Say.isNot:Say→Bool
 | .not _=>true
 | _=>false
noncomputable def Nt:Say→Prop
 | .name _=>True
 | .not a=>a.isNot=false∧Nt a
 | .and a b=>a.beq b=false∧Nt a∧Nt b
 | .or a b=>a.beq b=false∧Nt a∧Nt b
 | _=>False
noncomputable def NtW(s:Say):Prop:=s=.yes∨s=.no∨Nt s
theorem zrf(v:Bool):NtW (cB v):=by cases v;exact .inr (.inl rfl);exact .inl rfl
theorem NtW.nt{s:Say}(h:NtW s)(v:Bool)(h1:s.isB v=false)(h2:s.isB (!v)=false):Nt s:=by
 rcases h with rfl | rfl | h
 ·cases v with
  | true=>cases h1
  | false=>cases h2
 ·cases v with
  | true=>cases h2
  | false=>cases h1
 ·exact h
theorem zn8(o:Bool){a b:Say}(ha:NtW a)(hb:NtW b):NtW (jn o a b):=zjk (P:=NtW) o a b (zrf o) (fun _=>hb) (fun _=>ha) fun h1 h2 h3 h4 h5=>by
 have x:=ha.nt o h1 h3
 have y:=hb.nt o h2 h4
 cases o <;> exact .inr (.inr ⟨h5,x,y⟩)
theorem ntw:∀ s:Say,NtW (nt s)
 | .yes=>.inl rfl
 | .no=>.inr (.inl rfl)
 | .name _=>.inr (.inr trivial)
 | .not a=>by
  have h:=ntw a
  show NtW (nNot (nt a))
  revert h
  cases nt a with
  | yes=>exact fun _=>.inr (.inl rfl)
  | no=>exact fun _=>.inl rfl
  | name n=>exact fun _=>.inr (.inr ⟨rfl,trivial⟩)
  | not x=>exact fun h=>h.elim (fun h=>Say.noConfusion h) fun h=>h.elim (fun h=>Say.noConfusion h) fun h=>.inr (.inr h.2)
  | and x y=>exact fun h=>h.elim (fun h=>Say.noConfusion h) fun h=>h.elim (fun h=>Say.noConfusion h) fun h=>.inr (.inr ⟨rfl,h⟩)
  | or x y=>exact fun h=>h.elim (fun h=>Say.noConfusion h) fun h=>h.elim (fun h=>Say.noConfusion h) fun h=>.inr (.inr ⟨rfl,h⟩)
 | .and a b=>zn8 false (ntw a) (ntw b)
 | .or a b=>zn8 true (ntw a) (ntw b)
theorem eq_B(a:Say)(v:Bool)(ha:a.dep<400):zac .Eq a.pv (cB v).pv=M.ret (.bool (a.isB v)):=by
 refine tr (zjt a (cB v) ha (by cases v <;> exact Nat.lt_of_lt_of_le (by decide) (show 2≤400 by decide))) (b_eq ?_)
 cases v <;> cases a <;> kernel_rfl
theorem zqu{a b:Say}{o:Bool}{w:Str}(ha:a.dep<400)(hb:b.dep<400)(hw:(bin o a b).pv=.tup [.str w,a.pv,b.pv]) :
  (ifM (orM ((zaf (.tup [(cB o).pv,(cB !o).pv]) (.int 0)).bind fun v4=>(zac .Eq a.pv v4)) ((zaf (.tup [(cB o).pv,(cB !o).pv]) (.int 0)).bind fun v5=>(zac .Eq b.pv v5)))
  (zaf (.tup [(cB o).pv,(cB !o).pv]) (.int 0))
  (ifM (orM ((zaf (.tup [(cB o).pv,(cB !o).pv]) (.int 1)).bind fun v6=>(zac .Eq a.pv v6)) (zac .Eq a.pv b.pv))
  (M.ret b.pv)
  (ifM ((zaf (.tup [(cB o).pv,(cB !o).pv]) (.int 1)).bind fun v7=>(zac .Eq b.pv v7))
  (M.ret a.pv)
  (M.ret (.tup [.str w,a.pv,b.pv])))))=M.ret (jn o a b).pv:=by
 have i0:zaf (.tup [(cB o).pv,(cB !o).pv]) (.int 0)=M.ret (cB o).pv:=ix_0 _ _
 have i1:zaf (.tup [(cB o).pv,(cB !o).pv]) (.int 1)=M.ret (cB !o).pv:=ix_1 _ _ _
 refine tr (if_b (or_b (tr (bd i0) (eq_B a o ha)) (tr (bd i0) (eq_B b o hb)))) ?_
 unfold jn
 cases a.isB o || b.isB o with
 | true=>exact i0
 | false=>
  refine tr (c_f rfl) (tr (if_b (or_b (tr (bd i1) (eq_B a (!o) ha)) (zjt a b ha hb))) ?_)
  cases a.isB (!o) || a.beq b with
  | true=>rfl
  | false=>
   refine tr (c_f rfl) (tr (if_b (tr (bd i1) (eq_B b (!o) hb))) ?_)
   cases b.isB (!o) with
   | true=>rfl
   | false=>exact congrArg M.ret hw.symm
theorem joined(C:zad)(md:Md)(o:Bool)(a b:Say)(ha:a.dep<400)(hb:b.dep<400):zak GG C md AA.joined [.str (bif o then "or" else "and"),a.pv,b.pv]=M.ret (jn o a b).pv:=by
 refine tr (znz C md _ _ _) ?_
 cases o with
 | true=>exact tr (if_t rfl) (zqu (o:=true) ha hb rfl)
 | false=>exact tr (if_f rfl) (zqu (o:=false) ha hb rfl)
theorem zn7(C:zad)(md:Md)(o:Bool)(x y:PV):zak GG C md AA.neatly [.tup [.str (bif o then "or" else "and"),x,y]]=(seqM [M.ret (.str (bif o then "or" else "and")),C md AA.neatly [x],C md AA.neatly [y]]).bind fun v5=>C md AA.joined v5:=by
 cases o <;> exact (zdi C md _).trans (by kernel_rfl)
theorem zqm(C:zad)(md:Md)(x:PV):zak GG C md AA.neatly [.tup [.str "not",x]]=(C md AA.neatly [x]).bind fun v7=>ifM ((zaf v7 (.int 0)).bind fun v8=>(zac .Eq v8 (.str "not"))) (zaf v7 (.int 1)) (ifM (zac .Eq v7 (.tup [(.str "yes")])) (M.ret (.tup [(.str "no")])) (ifM (zac .Eq v7 (.tup [(.str "no")])) (M.ret (.tup [(.str "yes")])) (M.ret (.tup [(.str "not"),v7])))):=(zdi C md _).trans (by kernel_rfl)
theorem zre{t:Say}(ht:t.dep<400):ifM ((zaf t.pv (.int 0)).bind fun v8=>(zac .Eq v8 (.str "not"))) (zaf t.pv (.int 1)) (ifM (zac .Eq t.pv (.tup [(.str "yes")])) (M.ret (.tup [(.str "no")])) (ifM (zac .Eq t.pv (.tup [(.str "no")])) (M.ret (.tup [(.str "yes")])) (M.ret (.tup [(.str "not"),t.pv]))))=M.ret (nNot t).pv:=by
 have e1:=eq_B t true ht
 have e2:=eq_B t false ht
 cases t with
 | not x=>exact tr (if_t (tr (bd (ix_0 _ _)) rfl)) (ix_1 _ _ _)
 | yes=>exact tr (if_f (tr (bd (ix_0 _ _)) rfl)) (if_t e1)
 | no=>exact tr (if_f (tr (bd (ix_0 _ _)) rfl)) (tr (if_f e1) (if_t e2))
 | name n=>exact tr (if_f (tr (bd (ix_0 _ _)) rfl)) (tr (if_f e1) (if_f e2))
 | and x y=>exact tr (if_f (tr (bd (ix_0 _ _)) rfl)) (tr (if_f e1) (if_f e2))
 | or x y=>exact tr (if_f (tr (bd (ix_0 _ _)) rfl)) (tr (if_f e1) (if_f e2))
theorem neatly:∀(s:Say)(md:Md)(d:Nat),s.Ok→s.dep<300→s.dep+1<d→zah GG d md AA.neatly [s.pv]=M.ret (nt s).pv
 | .yes,md,d+1,_,_,_=>zaj ((zdi _ md _).trans (by kernel_rfl))
 | .no,md,d+1,_,_,_=>zaj ((zdi _ md _).trans (by kernel_rfl))
 | .name n,md,d+1,_,_,_=>zaj ((zdi _ md _).trans (by kernel_rfl))
 | .not a,md,d+1,ok,hz,hd=>by
  have hd:a.dep+1+1<d+1:=hd
  have hz:a.dep+1<300:=hz
  have:=(ze3 a ok).dep
  exact zaj (tr (zqm _ md _) (tr (bd (neatly a md d ok (by exact Nat.le_of_lt ‹_›) (by lia))) (zre (by lia))))
 | .and a b,md,d+2,ok,hz,hd=>by
  have hd:max a.dep b.dep+1+1<d+2:=hd
  have hz:max a.dep b.dep+1<300:=hz
  have h1:=(ze3 a ok.1).dep
  have h2:=(ze3 b ok.2).dep
  exact zaj (tr (zn7 _ md false _ _) (tr (bd (sq3 rfl (neatly a md (d+1) ok.1 (by lia) (by lia)) (neatly b md (d+1) ok.2 (by lia) (by lia)))) (zaj (joined _ md false _ _ (by lia) (by lia)))))
 | .or a b,md,d+2,ok,hz,hd=>by
  have hd:max a.dep b.dep+1+1<d+2:=hd
  have hz:max a.dep b.dep+1<300:=hz
  have h1:=(ze3 a ok.1).dep
  have h2:=(ze3 b ok.2).dep
  exact zaj (tr (zn7 _ md true _ _) (tr (bd (sq3 rfl (neatly a md (d+1) ok.1 (by lia) (by lia)) (neatly b md (d+1) ok.2 (by lia) (by lia)))) (zaj (joined _ md true _ _ (by lia) (by lia)))))
theorem zpm(C:zad)(md:Md)(v:PV):zak GG C md AA.l_is_neat [.tup [.str "name",v]]=M.ret (.bool true):=(zc1 C md _).trans (by kernel_rfl)
theorem zqA(C:zad)(md:Md)(x:PV):zak GG C md AA.l_is_neat [.tup [.str "not",x]]=andM ((zaf x (.int 0)).bind fun v5=>(zac .NotIn v5 (.tup [(.str "yes"),(.str "no"),(.str "not")]))) (C md AA.l_is_neat [x]):=(zc1 C md _).trans (by kernel_rfl)
theorem zqB(C:zad)(md:Md)(o:Bool)(x y:PV):zak GG C md AA.l_is_neat [.tup [.str (bif o then "or" else "and"),x,y]]=ifM (orM (zac .Eq x y) (orM ((zaf x (.int 0)).bind fun v10=>(zac .In v10 (.tup [(.str "yes"),(.str "no")]))) ((zaf y (.int 0)).bind fun v12=>(zac .In v12 (.tup [(.str "yes"),(.str "no")]))))) (M.ret (.bool false)) (andM (C md AA.l_is_neat [x]) (C md AA.l_is_neat [y])):=by
 cases o <;> exact (zc1 C md _).trans (by kernel_rfl)
theorem zkM{s:Say}(h:Nt s):((zaf s.pv (.int 0)).bind fun v10=>(zac .In v10 (.tup [(.str "yes"),(.str "no")])))=M.ret (.bool false):=by
 cases s with
 | yes=>exact h.elim
 | no=>exact h.elim
 | name n=>exact tr (bd (ix_0 _ _)) (by kernel_rfl)
 | not a=>exact tr (bd (ix_0 _ _)) (by kernel_rfl)
 | and a b=>exact tr (bd (ix_0 _ _)) (by kernel_rfl)
 | or a b=>exact tr (bd (ix_0 _ _)) (by kernel_rfl)
theorem zmk{C:zad}{md:Md}(o:Bool){a b:Say}(ha:a.dep<400)(hb:b.dep<400)(h:a.beq b=false)(na:Nt a)(nb:Nt b)(ca:C md AA.l_is_neat [a.pv]=M.ret (.bool true))(cb:C md AA.l_is_neat [b.pv]=M.ret (.bool true)):zak GG C md AA.l_is_neat [.tup [.str (bif o then "or" else "and"),a.pv,b.pv]]=M.ret (.bool true):=
 tr (zqB C md o _ _) (tr (if_f (tr (or_f (tr (zjt a b ha hb) (b_eq h))) (tr (or_f (zkM na)) (zkM nb)))) (tr (zgR ca) cb))
theorem zdT:∀(s:Say)(md:Md)(d:Nat),Nt s→s.dep<300→s.dep<d→zah GG d md AA.l_is_neat [s.pv]=M.ret (.bool true)
 | .name n,md,d+1,_,_,_=>zaj (zpm _ md _)
 | .not a,md,d+1,h,hz,hd=>by
  have hz:a.dep+1<300:=hz
  have hd:a.dep+1<d+1:=hd
  refine zaj (tr (zqA _ md _) (tr (zgR ?_) (zdT a md d h.2 (by exact Nat.le_of_lt ‹_›) (by lia))))
  have h1:=h.1;have h2:=h.2
  cases a with
  | yes=>exact h2.elim
  | no=>exact h2.elim
  | not x=>cases h1
  | name n=>exact tr (bd (ix_0 _ _)) (by kernel_rfl)
  | and x y=>exact tr (bd (ix_0 _ _)) (by kernel_rfl)
  | or x y=>exact tr (bd (ix_0 _ _)) (by kernel_rfl)
 | .and a b,md,d+1,h,hz,hd=>by
  have hz:max a.dep b.dep+1<300:=hz
  have hd:max a.dep b.dep+1<d+1:=hd
  exact zaj (zmk false (by lia) (by lia) h.1 h.2.1 h.2.2 (zdT a md d h.2.1 (by lia) (by lia)) (zdT b md d h.2.2 (by lia) (by lia)))
 | .or a b,md,d+1,h,hz,hd=>by
  have hz:max a.dep b.dep+1<300:=hz
  have hd:max a.dep b.dep+1<d+1:=hd
  exact zaj (zmk true (by lia) (by lia) h.1 h.2.1 h.2.2 (zdT a md d h.2.1 (by lia) (by lia)) (zdT b md d h.2.2 (by lia) (by lia)))
theorem zro(s:Say)(hd:s.dep<400):zac .In s.pv (.tup [(.tup [(.str "yes")]),(.tup [(.str "no")])])=M.ret (.bool (eqv (.tup [(.str "yes")]) s.pv || (eqv (.tup [(.str "no")]) s.pv || false))):=
 bd (show ziR s.pv [(.tup [(.str "yes")]),(.tup [(.str "no")])]=_ from tr (bd (zh7 s hd)) rfl)
theorem zgx(s:Say)(md:Md)(d:Nat)(h:NtW s)(hz:s.dep<300)(hd:s.dep+1<d):zah GG d md AA.l_is_neat_whole [s.pv]=M.ret (.bool true):=by
 obtain ⟨e,rfl⟩:∃ e,d=e+1:=⟨d-1,by lia⟩
 refine zaj (tr (zdQ _ md _) ?_)
 rcases h with rfl | rfl | h
 ·exact or_t (by kernel_rfl)
 ·exact or_t (by kernel_rfl)
 ·have e1:zac .In s.pv (.tup [(.tup [(.str "yes")]),(.tup [(.str "no")])])=M.ret (.bool false):=tr (zro s (by exact Nat.le_trans ‹_› (by decide))) (b_eq (by
   cases s with
   | yes=>exact h.elim
   | no=>exact h.elim
   | name n=>kernel_rfl
   | not a=>kernel_rfl
   | and a b=>kernel_rfl
   | or a b=>kernel_rfl))
  have e2:((zaf s.pv (.int 0)).bind fun v2=>(zac .NotIn v2 (.tup [(.str "yes"),(.str "no")])))=M.ret (.bool true):=by
   cases s with
   | yes=>exact h.elim
   | no=>exact h.elim
   | name n=>exact tr (bd (ix_0 _ _)) (by kernel_rfl)
   | not a=>exact tr (bd (ix_0 _ _)) (by kernel_rfl)
   | and a b=>exact tr (bd (ix_0 _ _)) (by kernel_rfl)
   | or a b=>exact tr (bd (ix_0 _ _)) (by kernel_rfl)
  exact tr (or_f e1) (tr (zgR e2) (zdT s md e h hz (by lia)))
structure Cl where
 n:Nat
 b:Bool
 s:Say
noncomputable def Cl.pv(c:Cl):PV:=.tup [.int (c.n:Int),.bool c.b,c.s.pv]
noncomputable def Cl.beq(a c:Cl):Bool:=((a.n:Int)==(c.n:Int))&&((a.b==c.b)&&(a.s.beq c.s&&true))
theorem Cl.beq_pv(a c:Cl):eqv a.pv c.pv=a.beq c:=by kernel_rfl
theorem Cl.eq_of{a c:Cl}(h:a.beq c=true):a=c:=by
 obtain ⟨n,b,s⟩:=a
 obtain ⟨m,d,t⟩:=c
 have h:=Bool.and_eq_true_iff.mp h
 have h2:=Bool.and_eq_true_iff.mp h.2
 have e1:n=m:=by have:=eq_of_beq h.1;exact Int.ofNat.inj this
 have e2:b=d:=eq_of_beq h2.1
 have e3:s=t:=zen s t (Bool.and_eq_true_iff.mp h2.2).1
 rw [e1,e2,e3]
theorem Cl.beq_self(a:Cl):a.beq a=true:=by
 unfold Cl.beq
 rw [beq_self_eq_true,beq_self_eq_true,show a.s.beq a.s=true from zcB a.s];rfl
theorem Cl.whole(σ:zab)(c:Cl)(n:Nat)(h:c.s.dep<n):Mine.whole σ (n+1) c.pv=some c.pv:=congrArg (Option.map PV.tup) (opt3 (f:=Mine.whole σ n) (by cases n with | zero=>exact absurd h (Nat.not_lt_zero _) | succ n=>rfl) (by cases n with | zero=>exact absurd h (Nat.not_lt_zero _) | succ n=>rfl) (zbx σ c.s n h))
theorem Cl.wholeM(c:Cl)(h:c.s.dep<400):Mine.wholeM c.pv=M.ret c.pv:=funext fun σ=>zcj (Cl.whole σ c 499 (by lia))
theorem Cl.eq(a c:Cl)(ha:a.s.dep<400)(hc:c.s.dep<400):zac .Eq a.pv c.pv=M.ret (.bool (a.beq c)):=by
 refine bd (a:=a.beq c) (funext fun σ=>?_)
 have e:eqX a.pv c.pv σ=eqM a.pv c.pv σ:=rfl
 exact e.trans ((zaa (congrFun (Cl.wholeM a ha) σ)).trans ((zaa (congrFun (Cl.wholeM c hc) σ)).trans (congrArg (fun b=>Rs.ok b σ) (Cl.beq_pv a c))))
theorem zg2(C:zad)(md:Md)(n:Int):zak GG C md AA.is_whole [.int n]=M.ret (.bool true):=by kernel_rfl
theorem same_claim{a c:Cl}{md:Md}{d:Nat}(ha:a.s.dep<400)(hc:c.s.dep<400)(hd:1<d):zah GG d md AA.same_claim [a.pv,c.pv]=M.ret (.bool (a.beq c)):=by
 obtain ⟨e,rfl⟩:∃ e,d=e+2:=⟨d-2,by lia⟩
 exact zaj (tr (zhl _ _ _ _) (tr (if_f (tr (or_f rfl) (tr (or_f rfl) (tr (or_f (zcf (b:=true) (tr (bd (sq1 (ix_0 _ _))) (zaj (zg2 _ _ _))))) (zcf (b:=true) (tr (bd (ix_1 _ _ _)) rfl)))))) (Cl.eq a c ha hc)))
noncomputable def ers(c:Cl):List Cl→List Cl
 | []=>[]
 | x::r=>bif c.beq x then r else x::ers c r
noncomputable def cps(cs:List Cl):PV:=.lst (cs.map Cl.pv)
theorem zom{xs:List PV}{n:Nat}(hl:xs.length≤1000):cutM false (.lst xs) Option.none (some (n:Int))=M.ret (.lst (xs.take n)):=tr (c_t (decide_eq_true (show xs.length≤2 ^ 20 by lia))) (by rw [zk9];rfl)
theorem zol{xs:List PV}{n:Nat}(hl:xs.length≤1000):cutM false (.lst xs) (some (n:Int)) Option.none=M.ret (.lst (xs.drop n)):=tr (c_t (decide_eq_true (show xs.length≤2 ^ 20 by lia))) (by rw [zk8];rfl)
theorem zgT{xs ys:List PV}(h:xs.length+ys.length≤1000):opM false .Add (.lst xs) (.lst ys)=M.ret (.lst (xs++ys)):=tr (c_t (decide_eq_true (show xs.length+ys.length≤2 ^ 20 by lia))) rfl
theorem zpJ{pre suf:List Cl}{x:Cl}(hl:(pre++x::suf).length≤400):(((zde (M.ret (.int (pre.length:Int)))).bind fun v8=>(cutM false (cps (pre++x::suf)) Option.none v8)).bind fun v9=>(((zde (opM false .Add (.int (pre.length:Int)) (.int 1))).bind fun v10=>(cutM false (cps (pre++x::suf)) v10 Option.none)).bind fun v11=>(opM false .Add v9 v11)))=M.ret (cps (pre++suf)):=by
 have hm:((pre++x::suf).map Cl.pv).length≤1000:=by rw [List.length_map];lia
 have e1:((pre++x::suf).map Cl.pv).take pre.length=pre.map Cl.pv:=by
  rw [List.map_append,List.take_left' (by rw [List.length_map])]
 have e2:((pre++x::suf).map Cl.pv).drop (pre.length+1)=suf.map Cl.pv:=by
  rw [List.map_append,List.map_cons,show pre.map Cl.pv++x.pv::suf.map Cl.pv=(pre.map Cl.pv++[x.pv])++suf.map Cl.pv by rw [List.append_assoc];rfl,List.drop_left' (by rw [List.length_append,List.length_map];rfl)]
 have hs:pre.length+suf.length≤400:=by rw [List.length_append] at hl;have hl:pre.length+(suf.length+1)≤400:=hl;lia
 refine tr (bd (tr (bd (show zde (M.ret (.int (pre.length:Int)))=M.ret (some (pre.length:Int)) from rfl)) (tr (zom hm) (by rw [e1])))) (tr (bd (tr (bd (show zde (opM false .Add (.int (pre.length:Int)) (.int 1))=M.ret (some ((pre.length+1:Nat):Int)) from rfl)) (tr (zol hm) (by rw [e2])))) (tr (zgT (by rw [List.length_map,List.length_map];lia)) ?_))
 unfold cps
 rw [List.map_append]
theorem zp3{d:Nat}{c:Cl}{md:Md}(hd:1<d)(hc:c.s.dep<400):∀(suf pre:List Cl)(v3 v4:Option PV),(∀ x∈suf,x.s.dep<400)→(pre++suf).length≤400→c∈suf→
  zbh AA GG (zah GG d) md (M.ret ()) (zcN pre.length (suf.map Cl.pv)) (cps (pre++suf)) c.pv v3 v4=M.ret (cps (pre++ers c suf))
 | [],pre,v3,v4,_,_,h=>nomatch h
 | x::suf,pre,v3,v4,hx,hl,h=>by
  refine tr (show _=ifM (zah GG d md AA.same_claim [c.pv,x.pv]) _ (zbh AA GG (zah GG d) md (M.ret ()) (zcN (pre.length+1) (suf.map Cl.pv)) (cps (pre++x::suf)) c.pv (some (.int (pre.length:Int))) (some x.pv)) from rfl) (tr (if_b (same_claim hc (hx x (.head _)) hd)) ?_)
  show _=M.ret (cps (pre++bif c.beq x then suf else x::ers c suf))
  cases q:c.beq x with
  | true=>exact zpJ hl
  | false=>
   have hm:c∈suf:=(List.mem_cons.mp h).resolve_left fun e=>by rw [e,Cl.beq_self] at q;cases q
   have ih:=zp3 (md:=md) hd hc suf (pre++[x]) (some (.int (pre.length:Int))) (some x.pv) (fun y hy=>hx y (.tail _ hy)) (by rw [List.append_assoc];exact hl) hm
   rw [List.length_append,List.append_assoc,List.append_assoc] at ih
   exact ih
theorem without{d:Nat}{cs:List Cl}{c:Cl}{md:Md}(hm:md.lp=true)(hd:2<d)(hx:∀ x∈cs,x.s.dep<400)(hl:cs.length≤400)(h:c∈cs):zah GG d md AA.without [cps cs,c.pv]=M.ret (cps (ers c cs)):=by
 obtain ⟨e,rfl⟩:∃ e,d=e+1:=⟨d-1,by lia⟩
 refine zaj (tr (zkN _ _ _ _) ?_)
 unfold zg1 zeI
 exact tr (c_t (by rw [hm];rfl)) (tr (bd (show zei [cps cs]=M.ret ⟨zcN 0 (cs.map Cl.pv),[]⟩ from rfl)) (zp3 (by lia) (hx c h) cs [] Option.none Option.none hx hl h))
noncomputable def kdS(b:Bool):Say→Str
 | .name _=>"name"
 | .yes=>bif b then "idle" else "shut"
 | .no=>bif b then "shut" else "idle"
 | .not _=>"apart"
 | .and _ _=>bif b then "apart" else "fork"
 | .or _ _=>bif b then "fork" else "apart"
noncomputable def Cl.kd(c:Cl):Str:=kdS c.b c.s
noncomputable def zqO(n:Nat)(b:Bool):Say→List Cl
 | .not a=>[⟨n,!b,a⟩]
 | .and a c=>[⟨n,b,a⟩,⟨n,b,c⟩]
 | .or a c=>[⟨n,b,a⟩,⟨n,b,c⟩]
 | _=>[]
noncomputable def Cl.come(c:Cl):List Cl:=zqO c.n c.b c.s
theorem zoV(C:zad)(r:Bool)(n:Nat)(b:Bool)(s:Say):zak GG C ⟨r,true⟩ AA.parts [(Cl.mk n b s).pv]=M.ret (.tup [.str (kdS b s),cps (zqO n b s)]):=by cases s <;> cases b <;> kernel_rfl
theorem parts{c:Cl}{r:Bool}{d:Nat}(hd:0<d):zah GG d ⟨r,true⟩ AA.parts [c.pv]=M.ret (.tup [.str c.kd,cps c.come]):=by
 obtain ⟨e,rfl⟩:∃ e,d=e+1:=⟨d-1,by lia⟩
 exact zaj (zoV _ r c.n c.b c.s)
theorem zcc(c:Cl):c.come.length≤2:=by
 obtain ⟨n,b,s⟩:=c
 cases s <;> first | exact Nat.zero_le _ | exact Nat.le_refl 2 | exact Nat.le_succ 1
theorem zjy{c x:Cl}(h:x∈c.come):x.s.dep<c.s.dep:=by
 obtain ⟨n,b,s⟩:=c
 cases s with
 | not a=>exact zas (P:=fun x:Cl=>x.s.dep<(Say.not a).dep) (l:=[⟨n,!b,a⟩]) ⟨Nat.lt_succ_self _,trivial⟩ x h
 | and a c=>exact zas (P:=fun x:Cl=>x.s.dep<(Say.and a c).dep) (l:=[⟨n,b,a⟩,⟨n,b,c⟩]) ⟨by show a.dep<max _ _+1;lia,by show c.dep<max _ _+1;lia,trivial⟩ x h
 | or a c=>exact zas (P:=fun x:Cl=>x.s.dep<(Say.or a c).dep) (l:=[⟨n,b,a⟩,⟨n,b,c⟩]) ⟨by show a.dep<max _ _+1;lia,by show c.dep<max _ _+1;lia,trivial⟩ x h
 | _=>exact nomatch h
noncomputable def isN:Say→Bool
 | .name _=>true
 | _=>false
theorem zp2(s:Say):((zaf s.pv (.int 0)).bind fun w=>zac .Eq w (.str "name"))=M.ret (.bool (isN s)):=by cases s <;> kernel_rfl
noncomputable def clsh(a c:Cl):Bool:=isN a.s&&(a.b&&(!c.b&&a.s.beq c.s))
theorem clashes{a c:Cl}{md:Md}{d:Nat}(hd:0<d)(ha:a.s.dep<400)(hc:c.s.dep<400):zah GG d md AA.clashes [a.pv,c.pv]=M.ret (.bool (clsh a c)):=by
 obtain ⟨e,rfl⟩:∃ e,d=e+1:=⟨d-1,by lia⟩
 refine zaj (tr (zmF _ _ _ _) (zkE (tr (za5 _ _ _) (tr (bd (ix_2 _ _ _ _)) (zp2 a.s))) (zkE (ix_1 _ _ _) (zkE (zcf (ix_1 _ _ _)) (tr (bd (ix_2 _ _ _ _)) (tr (bd (ix_2 _ _ _ _)) (zjt _ _ ha hc)))))))
noncomputable def EndT(cs:List Cl)(t:PV):Prop:=(∃ c∈cs,c.kd="shut"∧t=.tup [.str "shut",c.pv])∨∃ c∈cs,∃ o∈cs,clsh c o=true∧t=.tup [.str "clash",c.pv,o.pv]
noncomputable def zpZ(cs:List Cl):Prop:=∀ c∈cs,c.kd≠"shut"∧∀ o∈cs,clsh c o=false
theorem zoj{e:Nat}{md:Md}{kk:PV→Option PV→Option PV→M PV}{v1:PV}{c:Cl}(he:0<e)(hc:c.s.dep<400):∀(os:List Cl)(v3:Option PV),(∀ o∈os,o.s.dep<400)→
  (∃ o∈os,clsh c o=true∧zbb AA GG (zah GG e) md kk (M.ret ()) (os.map Cl.pv) v1 c.pv v3=M.ret (.tup [.str "clash",c.pv,o.pv]))∨((∀ o∈os,clsh c o=false)∧∃ u,zbb AA GG (zah GG e) md kk (M.ret ()) (os.map Cl.pv) v1 c.pv v3=kk v1 (some c.pv) u)
 | [],v3,_=>.inr ⟨fun _ h=>(nomatch h),v3,rfl⟩
 | o::os,v3,h=>by
  have st:zbb AA GG (zah GG e) md kk (M.ret ()) ((o::os).map Cl.pv) v1 c.pv v3=M.cond (clsh c o) (M.ret (.tup [.str "clash",c.pv,o.pv])) (zbb AA GG (zah GG e) md kk (M.ret ()) (os.map Cl.pv) v1 c.pv (some o.pv)):=tr (show _=ifM (zah GG e md AA.clashes [c.pv,o.pv]) _ _ from rfl) (if_b (clashes he hc (h o (.head _))))
  rw [st]
  cases q:clsh c o with
  | true=>exact .inl ⟨o,.head _,q,rfl⟩
  | false=>
   rcases zoj (md:=md) (kk:=kk) (v1:=v1) he hc os (some o.pv) fun x hx=>h x (.tail _ hx) with ⟨x,hx,hq,e'⟩ | ⟨hn,u,e'⟩
   ·exact .inl ⟨x,.tail _ hx,hq,e'⟩
   ·exact .inr ⟨fun x hx=>(List.mem_cons.mp hx).elim (fun z=>z▸q) (hn x),u,e'⟩
theorem zok{e:Nat}{r:Bool}{cs:List Cl}(he:0<e)(hd:∀ c∈cs,c.s.dep<400):∀(l:List Cl)(v2 v3:Option PV),(∀ c∈l,c∈cs)→
  (∃ t,zaS AA GG (zah GG e) ⟨r,true⟩ (M.ret ()) (l.map Cl.pv) (cps cs) v2 v3=M.ret t∧EndT cs t)∨((∀ c∈l,c.kd≠"shut"∧∀ o∈cs,clsh c o=false)∧zaS AA GG (zah GG e) ⟨r,true⟩ (M.ret ()) (l.map Cl.pv) (cps cs) v2 v3=M.ret .none)
 | [],v2,v3,_=>.inr ⟨fun _ h=>(nomatch h),rfl⟩
 | c::l,v2,v3,h=>by
  have st:zaS AA GG (zah GG e) ⟨r,true⟩ (M.ret ()) ((c::l).map Cl.pv) (cps cs) v2 v3=M.cond (c.kd=="shut") (M.ret (.tup [.str "shut",c.pv])) (zbb AA GG (zah GG e) ⟨r,true⟩ (zaS AA GG (zah GG e) ⟨r,true⟩ (M.ret ()) (l.map Cl.pv)) (M.ret ()) (cs.map Cl.pv) (cps cs) c.pv v3):=
   tr (show _=zgG AA GG (zah GG e) ⟨r,true⟩ (zbb AA GG (zah GG e) ⟨r,true⟩ (zaS AA GG (zah GG e) ⟨r,true⟩ (M.ret ()) (l.map Cl.pv))) (zaS AA GG (zah GG e) ⟨r,true⟩ (M.ret ()) (l.map Cl.pv)) (cps cs) v2 v3 c.pv from rfl) (tr (if_b (tr (bd (tr (bd (parts he)) (ix_0 _ _))) (zbX _ _))) rfl)
  rw [st]
  cases q:c.kd=="shut" with
  | true=>exact .inl ⟨_,rfl,.inl ⟨c,h c (.head _),eq_of_beq q,rfl⟩⟩
  | false=>
   rcases zoj (md:=⟨r,true⟩) (kk:=zaS AA GG (zah GG e) ⟨r,true⟩ (M.ret ()) (l.map Cl.pv)) (v1:=cps cs) he (hd c (h c (.head _))) cs v3 hd with ⟨o,ho,hq,e'⟩ | ⟨hn,u,e'⟩
   ·exact .inl ⟨_,e',.inr ⟨c,h c (.head _),o,ho,hq,rfl⟩⟩
   ·rcases zok (r:=r) he hd l (some c.pv) u fun x hx=>h x (.tail _ hx) with ⟨t,e2,ht⟩ | ⟨hn2,e2⟩
    ·exact .inl ⟨t,e'.trans e2,ht⟩
    ·exact .inr ⟨fun x hx=>(List.mem_cons.mp hx).elim (fun z=>z▸⟨fun z=>(by rw [z] at q;cases q),hn⟩) (hn2 x),e'.trans e2⟩
theorem ended{d:Nat}{r:Bool}{cs:List Cl}(hd:1<d)(hx:∀ c∈cs,c.s.dep<400):(∃ t,zah GG d ⟨r,true⟩ AA.ended [cps cs]=M.ret t∧EndT cs t)∨(zpZ cs∧zah GG d ⟨r,true⟩ AA.ended [cps cs]=M.ret .none):=by
 obtain ⟨e,rfl⟩:∃ e,d=e+1:=⟨d-1,by lia⟩
 have st:zah GG (e+1) ⟨r,true⟩ AA.ended [cps cs]=zaS AA GG (zah GG e) ⟨r,true⟩ (M.ret ()) (cs.map Cl.pv) (cps cs) Option.none Option.none:=zaj (zpA _ _ _)
 rw [st]
 exact zok (by lia) hx cs Option.none Option.none fun _ h=>h
theorem zhS{f:PV→M (Option PV)}:∀{xs:List PV},(∀ x∈xs,∃ o,f x=M.ret o)→∃ ys,zaW (M.ret ()) (fun x=>M.noErr (f x)) xs=M.ret ys∧ys.length≤xs.length
 | [],_=>⟨[],rfl,Nat.le_refl _⟩
 | x::xs,h=>by
  obtain ⟨ys,e,hl⟩:=zhS (f:=f) fun y hy=>h y (.tail _ hy)
  obtain ⟨o,ho⟩:=h x (.head _)
  have st:zaW (M.ret ()) (fun x=>M.noErr (f x)) (x::xs)=(M.noErr (f x)).bind fun o=>(zaW (M.ret ()) (fun x=>M.noErr (f x)) xs).bind fun ys=>M.ret (match o with | some y=>y::ys | Option.none=>ys):=rfl
  have hn:M.noErr (f x)=M.ret o:=by rw [ho];rfl
  cases o with
  | none=>exact ⟨ys,tr st (tr (bd hn) (bd e)),Nat.le_succ_of_le hl⟩
  | some y=>exact ⟨y::ys,tr st (tr (bd hn) (bd e)),Nat.succ_le_succ hl⟩
theorem zrk{t:PV}:(∃ a b,t=.tup (a::b))∨t=.none→∃ b,zac .Is t PV.none=M.ret (.bool b):=by
 rintro (⟨a,b,rfl⟩ | rfl)
 ·exact ⟨false,rfl⟩
 ·exact ⟨true,rfl⟩
theorem EndT.tup{cs:List Cl}{t:PV}(h:EndT cs t):∃ a b,t=.tup (a::b):=by
 rcases h with ⟨c,_,_,rfl⟩ | ⟨c,_,o,_,_,rfl⟩
 ·exact ⟨_,_,rfl⟩
 ·exact ⟨_,_,rfl⟩
noncomputable def Open(c:Cl):Prop:=c.kd="apart"∨c.kd="fork"
theorem zmy(cs:List Cl)(x:Cl)(hl:cs.length≤400):opM false .Add (cps cs) (.lst [x.pv])=M.ret (cps (cs++[x])):=tr (zgT (by rw [List.length_map];show _+1≤_;lia)) (by unfold cps;rw [List.map_append];rfl)
theorem ways{e:Nat}{r:Bool}{cs:List Cl}{c:Cl}(he:1<e)(hl:cs.length≤400)(hd:∀ c∈cs,c.s.dep<400)(hc:c.s.dep<400):∃ k:Nat,k≤2∧((seqM [(zaU ⟨r,true⟩ false (zat (cps c.come)) fun v12=>(((seqM [(opM false .Add (cps cs) (.lst [v12]))]).bind fun v13=>(zah GG e (⟨r,true⟩:Md).inn AA.ended v13)).bind fun v14=>(zac .Is v14 PV.none)).bind fun v15=>(zap v15).bind fun v16=>M.cond v16 (M.ret (some v12)) (M.ret Option.none))]).bind fun v17=>(biM ⟨r,true⟩ false "len" v17))=M.ret (.int (k:Int)):=by
 have h2:=zcc c
 obtain ⟨ys,e1,hy⟩:=zhS (f:=fun v12=>(((seqM [(opM false .Add (cps cs) (.lst [v12]))]).bind fun v13=>(zah GG e (⟨r,true⟩:Md).inn AA.ended v13)).bind fun v14=>(zac .Is v14 PV.none)).bind fun v15=>(zap v15).bind fun v16=>M.cond v16 (M.ret (some v12)) (M.ret Option.none)) (xs:=c.come.map Cl.pv) fun x hx=>by
  obtain ⟨p,hp,rfl⟩:=List.mem_map.mp hx
  have hpd:∀ q∈cs++[p],q.s.dep<400:=fun q hq=>(List.mem_append.mp hq).elim (hd q) fun z=>by rw [List.mem_singleton.mp z];have:=zjy hp;lia
  have:∃ t,zah GG e (⟨r,true⟩:Md).inn AA.ended [cps (cs++[p])]=M.ret t∧((∃ a b,t=.tup (a::b))∨t=.none):=by
   rcases ended (d:=e) (r:=false) (cs:=cs++[p]) he hpd with ⟨t,e2,ht⟩ | ⟨_,e2⟩
   ·exact ⟨t,e2,.inl ht.tup⟩
   ·exact ⟨_,e2,.inr rfl⟩
  obtain ⟨t,e2,ht⟩:=this
  obtain ⟨b,hb⟩:=zrk ht
  cases b with
  | true=>exact ⟨some p.pv,tr (bd (tr (bd (tr (bd (sq1 (zmy cs p hl))) e2)) hb)) rfl⟩
  | false=>exact ⟨Option.none,tr (bd (tr (bd (tr (bd (sq1 (zmy cs p hl))) e2)) hb)) rfl⟩
 rw [List.length_map] at hy
 exact ⟨ys.length,by lia,tr (bd (sq1 (zbQ (md:=⟨r,true⟩) rfl (show zat (cps c.come)=M.ret ⟨c.come.map Cl.pv,[]⟩ from rfl) (by rw [List.length_map];lia) e1))) (zdP (by lia))⟩
theorem zlU{e:Nat}{r:Bool}{cs:List Cl}(he:1<e)(hl:cs.length≤400)(hd:∀ c∈cs,c.s.dep<400):∀(l:List Cl)(v2:PV)(k:Int)(v4 v5 v6 v7:Option PV),(∀ c∈l,c∈cs)→((v2=.none∧k=3)∨∃ c∈cs,v2=c.pv∧Open c)→
  ∃ w,zaI AA GG (zah GG e) ⟨r,true⟩ (M.ret ()) (l.map Cl.pv) (cps cs) v2 (.int k) v4 v5 v6 v7=M.ret w∧((w=.none∧v2=.none∧∀ c∈l,¬ Open c)∨∃ c∈cs,w=c.pv∧Open c)
 | [],v2,k,v4,v5,v6,v7,_,h=>⟨v2,rfl,h.imp (fun h=>⟨h.1,h.1,fun _ h=>nomatch h⟩) id⟩
 | c::l,v2,k,v4,v5,v6,v7,hs,h=>by
  have hc:=hs c (.head _)
  have st:zaI AA GG (zah GG e) ⟨r,true⟩ (M.ret ()) ((c::l).map Cl.pv) (cps cs) v2 (.int k) v4 v5 v6 v7=zbu AA GG (zah GG e) ⟨r,true⟩ (zaI AA GG (zah GG e) ⟨r,true⟩ (M.ret ()) (l.map Cl.pv)) (cps cs) v2 (.int k) v4 v5 v6 v7 c.pv:=rfl
  have rest:=fun v2 k v4 v5 v6 v7=>zlU (r:=r) he hl hd l v2 k v4 v5 v6 v7 fun x hx=>hs x (.tail _ hx)
  rw [st]
  unfold zbu
  cases qa:c.kd=="apart" with
  | true=>exact ⟨c.pv,tr (c_t rfl) (tr (bd (parts (by lia))) (if_t (tr (zbX _ _) (b_eq qa)))),.inr ⟨c,hc,rfl,.inl (eq_of_beq qa)⟩⟩
  | false=>
   cases qf:c.kd=="fork" with
   | true=>
    obtain ⟨n,hn,hw⟩:=ways (r:=r) (c:=c) he hl hd (hd c hc)
    cases q:decide ((n:Int)<k) with
    | true=>
     obtain ⟨w,ew,hw'⟩:=rest c.pv (n:Int) (some c.pv) (some (.str c.kd)) (some (cps c.come)) (some (.int (n:Int))) (.inr ⟨c,hc,rfl,.inr (eq_of_beq qf)⟩)
     exact ⟨w,tr (c_t rfl) (tr (bd (parts (by lia))) (tr (if_f (tr (zbX _ _) (b_eq qa))) (tr (if_t (tr (zbX _ _) (b_eq qf))) (tr (bd hw) (tr (if_t (tr (c_lt _ _) (b_eq q))) ew))))),hw'.elim (fun z=>absurd z.2.1 (by intro z;cases z)) .inr⟩
    | false=>
     obtain ⟨w,ew,hw'⟩:=rest v2 k (some c.pv) (some (.str c.kd)) (some (cps c.come)) (some (.int (n:Int))) h
     refine ⟨w,tr (c_t rfl) (tr (bd (parts (by lia))) (tr (if_f (tr (zbX _ _) (b_eq qa))) (tr (if_t (tr (zbX _ _) (b_eq qf))) (tr (bd hw) (tr (if_f (tr (c_lt _ _) (b_eq q))) ew))))),?_⟩
     rcases h with ⟨rfl,rfl⟩ | h
     ·exact absurd (of_decide_eq_false q) (by lia)
     ·exact hw'.elim (fun z=>by obtain ⟨x,hx,ex,ox⟩:=h;rw [ex] at z;exact absurd z.2.1 (by intro z;cases z)) .inr
   | false=>
    obtain ⟨w,ew,hw'⟩:=rest v2 k (some c.pv) (some (.str c.kd)) (some (cps c.come)) v7 h
    refine ⟨w,tr (c_t rfl) (tr (bd (parts (by lia))) (tr (if_f (tr (zbX _ _) (b_eq qa))) (tr (if_f (tr (zbX _ _) (b_eq qf))) ew))),hw'.imp (fun z=>⟨z.1,z.2.1,fun x hx=>(List.mem_cons.mp hx).elim (fun y=>?_) (z.2.2 x)⟩) id⟩
    rw [y]
    exact fun o=>o.elim (fun o=>by rw [o] at qa;cases qa) fun o=>by rw [o] at qf;cases qf
theorem next_claim{d:Nat}{r:Bool}{cs:List Cl}(h2:2<d)(hl:cs.length≤400)(hd:∀ c∈cs,c.s.dep<400):∃ w,zah GG d ⟨r,true⟩ AA.next_claim [cps cs]=M.ret w∧((w=.none∧∀ c∈cs,¬ Open c)∨∃ c∈cs,w=c.pv∧Open c):=by
 obtain ⟨e,rfl⟩:∃ e,d=e+1:=⟨d-1,by lia⟩
 obtain ⟨w,ew,hw⟩:=zlU (r:=r) (cs:=cs) (e:=e) (by lia) hl hd cs .none 3 Option.none Option.none Option.none Option.none (fun _ h=>h) (.inl ⟨rfl,rfl⟩)
 refine ⟨w,zaj (tr (zhu _ _ _) ?_),hw.imp (fun z=>⟨z.1,z.2.2⟩) id⟩
 unfold zed zcu
 exact tr (c_t rfl) ew
noncomputable def zqZ(kvs:List (Str×PV)):Prop:=∀ x v,dat kvs x=some v→∃ b,v=.bool b
structure SetOk (kvs:List (Str×PV)) (l:List Cl):Prop where
 bools:zqZ kvs
 dok:DOk kvs
 at_:∀ c∈l,∀ x,c.s=.name x→dat kvs x=some (.bool c.b)
theorem zn2{C:zad}{r:Bool}{cs:List Cl}{σ:zab}(hcons:∀ a∈cs,∀ c∈cs,∀ x,a.s=.name x→c.s=.name x→a.b=c.b):∀(l done:List Cl)(kvs:List (Str×PV))(v3 v4 v5:Option PV),(∀ c∈l,c∈cs)→(∀ c∈done,c∈cs)→kvs.length+l.length<900→SetOk kvs done→
  ∃ kvs',zaG AA GG C ⟨r,true⟩ (M.ret ()) (l.map Cl.pv) (cps cs) (.ref σ.length) v3 v4 v5 (σ++[.dict kvs])=.ok (.ref σ.length) (σ++[.dict kvs'])∧SetOk kvs' (done++l)
 | [],done,kvs,v3,v4,v5,_,_,_,h=>⟨kvs,rfl,by rw [List.append_nil];exact h⟩
 | c::l,done,kvs,v3,v4,v5,hl,hdn,hk,h=>by
  have hk:kvs.length+(l.length+1)<900:=hk
  have hc:=hl c (.head _)
  have mem:∀ a∈done++[c],a∈cs:=fun a ha=>(List.mem_append.mp ha).elim (hdn a) fun z=>by rw [List.mem_singleton.mp z];exact hc
  obtain ⟨n,b,s⟩:=c
  have go:∀ kvs',kvs'.length≤kvs.length+1→SetOk kvs' (done++[⟨n,b,s⟩])→∃ kvs'',zaG AA GG C ⟨r,true⟩ (M.ret ()) (l.map Cl.pv) (cps cs) (.ref σ.length) (some (.int (n:Int))) (some (.bool b)) (some s.pv) (σ++[.dict kvs'])=.ok (.ref σ.length) (σ++[.dict kvs''])∧SetOk kvs'' (done++⟨n,b,s⟩::l):=fun kvs' hkl h'=>by
   have:=zn2 (C:=C) (r:=r) (σ:=σ) hcons l (done++[⟨n,b,s⟩]) kvs' (some (.int (n:Int))) (some (.bool b)) (some s.pv) (fun x hx=>hl x (.tail _ hx)) mem (by lia) h'
   rw [List.append_assoc] at this;exact this
  have skip:(∀ x,s≠.name x)→SetOk kvs (done++[⟨n,b,s⟩]):=fun hs=>⟨h.bools,h.dok,fun a ha x e=>(List.mem_append.mp ha).elim (fun z=>h.at_ a z x e) fun z=>by rw [List.mem_singleton.mp z] at e;exact (hs x e).elim⟩
  cases s with
  | name y=>
   obtain ⟨kvs'',e,h''⟩:=go (dput y (.bool b) kvs) (zgJ kvs y (.bool b)) ⟨fun x v hv=>by
     rw [zbw] at hv
     by_cases q:x=y
     ·rw [if_pos q] at hv;cases hv;exact ⟨b,rfl⟩
     ·rw [if_neg q] at hv;exact h.bools x v hv,h.dok.put y rfl,fun a ha x e=>by
     rw [zbw]
     by_cases q:x=y
     ·rw [if_pos q,hcons a (mem a ha) ⟨n,b,.name y⟩ hc x e (by rw [q])]
     ·rw [if_neg q]
      exact (List.mem_append.mp ha).elim (fun z=>h.at_ a z x e) fun z=>by rw [List.mem_singleton.mp z] at e;cases e;exact (q rfl).elim⟩
   refine ⟨kvs'',tr (show _=(setAt (.ref σ.length) (.str y) (.bool b)).bind (fun _=>zaG AA GG C ⟨r,true⟩ (M.ret ()) (l.map Cl.pv) (cps cs) (.ref σ.length) (some (.int (n:Int))) (some (.bool b)) (some (Say.name y).pv)) (σ++[.dict kvs]) from rfl) (tr (zaa (zev zaN (by lia))) ?_),h''⟩
   rw [zdb];exact e
  | yes=>exact go kvs (Nat.le_succ _) (skip fun x e=>nomatch e)
  | no=>exact go kvs (Nat.le_succ _) (skip fun x e=>nomatch e)
  | not a=>exact go kvs (Nat.le_succ _) (skip fun x e=>nomatch e)
  | and a c=>exact go kvs (Nat.le_succ _) (skip fun x e=>nomatch e)
  | or a c=>exact go kvs (Nat.le_succ _) (skip fun x e=>nomatch e)
theorem zpD:DOk []:=⟨fun _ h=>(nomatch h),fun _ h=>(nomatch h)⟩
theorem setting_of{d:Nat}{r:Bool}{cs:List Cl}(hd:0<d)(hcons:∀ a∈cs,∀ c∈cs,∀ x,a.s=.name x→c.s=.name x→a.b=c.b)(hl:cs.length≤400)(σ:zab):∃ kvs,zah GG d ⟨r,true⟩ AA.setting_of [cps cs] σ=.ok (.ref σ.length) (σ++[.dict kvs])∧SetOk kvs cs:=by
 obtain ⟨e,rfl⟩:∃ e,d=e+1:=⟨d-1,by lia⟩
 obtain ⟨kvs,e1,h⟩:=zn2 (C:=zah GG e) (r:=r) (σ:=σ) hcons cs [] [] Option.none Option.none Option.none (fun _ h=>h) (fun _ h=>nomatch h) (show 0+cs.length<900 by lia) ⟨fun x v h=>(nomatch h),zpD,fun c h=>(nomatch h)⟩
 refine ⟨kvs,at_ (zaj (zhk _ _ _)) ?_,h⟩
 unfold zeb zcq
 exact tr (zaa (a:=PV.ref σ.length) (σ':=σ++[Cel.dict []]) rfl) (at_ (c_t rfl) e1)
noncomputable def tsz:List Cl→Nat
 | []=>0
 | c::r=>c.s.sz+tsz r
theorem zcl:∀ a b:List Cl,tsz (a++b)=tsz a+tsz b
 | [],b=>(Nat.zero_add _).symm
 | c::a,b=>by show c.s.sz+tsz (a++b)=c.s.sz+tsz a+tsz b;rw [zcl a b,Nat.add_assoc]
theorem zfW{c:Cl}:∀{cs:List Cl},c∈cs→tsz (ers c cs)+c.s.sz=tsz cs∧(ers c cs).length+1=cs.length
 | x::cs,h=>by
  show tsz (bif c.beq x then cs else x::ers c cs)+c.s.sz=x.s.sz+tsz cs∧(bif c.beq x then cs else x::ers c cs).length+1=cs.length+1
  cases q:c.beq x with
  | true=>rw [Cl.eq_of q];exact ⟨Nat.add_comm _ _,rfl⟩
  | false=>
   have hm:c∈cs:=(List.mem_cons.mp h).resolve_left fun e=>by rw [e,Cl.beq_self] at q;cases q
   have:=zfW hm
   refine ⟨?_,?_⟩
   ·show x.s.sz+tsz (ers c cs)+c.s.sz=_;lia
   ·show (ers c cs).length+1+1=_;lia
theorem zcb{c x:Cl}:∀{cs:List Cl},x∈ers c cs→x∈cs
 | y::cs,h=>by
  have h:x∈bif c.beq y then cs else y::ers c cs:=h
  cases q:c.beq y with
  | true=>rw [q] at h;exact .tail _ h
  | false=>rw [q] at h;exact (List.mem_cons.mp h).elim (fun e=>e▸.head _) fun h=>.tail _ (zcb h)
theorem zlZ{c x:Cl}:∀{cs:List Cl},x∈cs→x=c∨x∈ers c cs
 | y::cs,h=>by
  show x=c∨x∈bif c.beq y then cs else y::ers c cs
  cases q:c.beq y with
  | true=>exact (List.mem_cons.mp h).imp (fun e=>e.trans (Cl.eq_of q).symm) id
  | false=>exact (List.mem_cons.mp h).elim (fun e=>.inr (e▸.head _)) fun h=>(zlZ h).imp id fun h=>.tail _ h
theorem zaM:∀ w∈[("name":Str),"idle","shut"],¬ (w="apart"∨w="fork"):=by decide
theorem zfd{c:Cl}(h:Open c):tsz c.come+1=c.s.sz:=by
 obtain ⟨n,b,s⟩:=c
 cases s with
 | not a=>rfl
 | and a d=>show a.sz+(d.sz+0)+1=a.sz+d.sz+1;rfl
 | or a d=>show a.sz+(d.sz+0)+1=a.sz+d.sz+1;rfl
 | name x=>exact absurd h (zaM "name" (by decide))
 | yes=>cases b with
  | true=>exact absurd h (zaM "idle" (by decide))
  | false=>exact absurd h (zaM "shut" (by decide))
 | no=>cases b with
  | true=>exact absurd h (zaM "shut" (by decide))
  | false=>exact absurd h (zaM "idle" (by decide))
noncomputable def Holds(f:Str→Bool)(cs:List Cl):Prop:=∀ c∈cs,c.s.tv f=c.b
theorem ziQ{f:Str→Bool}{c:Cl}(hk:c.kd="apart")(h:Holds f c.come):c.s.tv f=c.b:=by
 obtain ⟨n,b,s⟩:=c
 cases s with
 | not a=>have:=h ⟨n,!b,a⟩ (.head _);show (!(a.tv f))=b;rw [show a.tv f=!b from this,Bool.not_not]
 | and a d=>
  have h1:=h ⟨n,b,a⟩ (.head _);have h2:=h ⟨n,b,d⟩ (.tail _ (.head _))
  show (a.tv f&&d.tv f)=b
  rw [show a.tv f=b from h1,show d.tv f=b from h2,Bool.and_self]
 | or a d=>
  have h1:=h ⟨n,b,a⟩ (.head _);have h2:=h ⟨n,b,d⟩ (.tail _ (.head _))
  show (a.tv f || d.tv f)=b
  rw [show a.tv f=b from h1,show d.tv f=b from h2,Bool.or_self]
 | name x=>exact absurd (.inl hk) (zaM "name" (by decide))
 | yes=>cases b with
  | true=>exact absurd (.inl hk) (zaM "idle" (by decide))
  | false=>exact absurd (.inl hk) (zaM "shut" (by decide))
 | no=>cases b with
  | true=>exact absurd (.inl hk) (zaM "shut" (by decide))
  | false=>exact absurd (.inl hk) (zaM "idle" (by decide))
theorem zkv{f:Str→Bool}{c:Cl}(hk:c.kd="fork")(h:∃ x∈c.come,x.s.tv f=x.b):c.s.tv f=c.b:=by
 obtain ⟨n,b,s⟩:=c
 obtain ⟨x,hx,hv⟩:=h
 cases s with
 | and a d=>
  cases b with
  | true=>exact absurd hk (show ("apart":Str)≠"fork" by decide)
  | false=>
   show (a.tv f&&d.tv f)=false
   rcases List.mem_cons.mp hx with rfl | hx
   ·rw [show a.tv f=false from hv];rfl
   ·rw [List.mem_singleton.mp hx] at hv;rw [show d.tv f=false from hv,Bool.and_false]
 | not a=>exact absurd hk (show ("apart":Str)≠"fork" by decide)
 | or a d=>
  cases b with
  | false=>exact absurd hk (show ("apart":Str)≠"fork" by decide)
  | true=>
   show (a.tv f || d.tv f)=true
   rcases List.mem_cons.mp hx with rfl | hx
   ·rw [show a.tv f=true from hv];rfl
   ·rw [List.mem_singleton.mp hx] at hv;rw [show d.tv f=true from hv,Bool.or_true]
 | _=>exact nomatch hx
inductive Std:List Cl→PV→Prop
 | shut {cs:List Cl} {c:Cl}:c∈cs→c.kd="shut"→Std cs (.tup [.str "shut",c.pv])
 | clash {cs:List Cl} {c o:Cl}:c∈cs→o∈cs→clsh c o=true→Std cs (.tup [.str "clash",c.pv,o.pv])
 | apart {cs:List Cl} {c:Cl} {t:PV}:c∈cs→c.kd="apart"→Std (ers c cs++c.come) t→Std cs (.tup [.str "apart",c.pv,t])
 | fork {cs:List Cl} {c:Cl} {t u:PV}:c∈cs→c.kd="fork"→Std (ers c cs++c.come.take 1) t→Std (ers c cs++c.come.drop 1) u→Std cs (.tup [.str "fork",c.pv,t,u])
theorem Std.tup{cs:List Cl}{t:PV}(h:Std cs t):∃ a b,t=.tup (a::b):=by
 cases h with
 | shut=>exact ⟨_,_,rfl⟩
 | clash=>exact ⟨_,_,rfl⟩
 | apart=>exact ⟨_,_,rfl⟩
 | fork=>exact ⟨_,_,rfl⟩
theorem EndT.std{cs:List Cl}{t:PV}(h:EndT cs t):Std cs t:=by
 rcases h with ⟨c,hc,hk,rfl⟩ | ⟨c,hc,o,ho,hq,rfl⟩
 ·exact .shut hc hk
 ·exact .clash hc ho hq
structure Sat (σ:zab) (j:Nat) (cs:List Cl) (kvs:List (Str×PV)):Prop where
 cell:σ[j]?=some (.dict kvs)
 bools:zqZ kvs
 dok:DOk kvs
 holds:Holds (fOf kvs) cs
noncomputable def Wk(cs:List Cl)(σ:zab)(w:PV):Prop:=(∃ t,w=.tup [t,.none]∧Std cs t)∨∃ j kvs,w=.tup [.none,.ref j]∧Sat σ j cs kvs
theorem zkT{c:Cl}:∀{cs:List Cl},c∈cs→c.s.sz≤tsz cs
 | x::cs,h=>by
  show _≤x.s.sz+tsz cs
  rcases List.mem_cons.mp h with rfl | h
  ·exact Nat.le_add_right _ _
  ·exact Nat.le_trans (zkT h) (Nat.le_add_left _ _)
theorem zbR(l:List Cl)(k:Nat):tsz (l.take k)≤tsz l∧tsz (l.drop k)≤tsz l:=by
 have:=zcl (l.take k) (l.drop k)
 rw [List.take_append_drop] at this
 lia
theorem zd0(a b:List Cl)(h:a.length+b.length≤1000):opM false .Add (cps a) (cps b)=M.ret (cps (a++b)):=tr (zgT (by rw [List.length_map,List.length_map];exact h)) (by unfold cps;rw [List.map_append])
theorem zlP{t:PV}(h:∃ a b,t=.tup (a::b)):zac .Is t PV.none=M.ret (.bool false)∧zac .IsNot t PV.none=M.ret (.bool true):=by
 obtain ⟨a,b,rfl⟩:=h
 exact ⟨rfl,rfl⟩
theorem leaf{cs:List Cl}{kvs:List (Str×PV)}(hn:zpZ cs)(ho:∀ c∈cs,¬ Open c)(S:SetOk kvs cs):Holds (fOf kvs) cs:=fun c hc=>by
 obtain ⟨n,b,s⟩:=c
 have hk:=(hn _ hc).1
 have hop:=ho _ hc
 cases s with
 | name x=>show fOf kvs x=b;unfold fOf;rw [S.at_ _ hc x rfl]
 | yes=>cases b with
  | true=>rfl
  | false=>exact absurd rfl hk
 | no=>cases b with
  | true=>exact absurd rfl hk
  | false=>rfl
 | not a=>exact absurd (.inl rfl) hop
 | and a d=>cases b with
  | true=>exact absurd (.inl rfl) hop
  | false=>exact absurd (.inr rfl) hop
 | or a d=>cases b with
  | true=>exact absurd (.inr rfl) hop
  | false=>exact absurd (.inl rfl) hop
theorem zpL{cs:List Cl}(hn:zpZ cs):∀ a∈cs,∀ c∈cs,∀ x,a.s=.name x→c.s=.name x→a.b=c.b:=fun a ha c hc x ea ec=>by
 have h1:=(hn a ha).2 c hc
 have h2:=(hn c hc).2 a ha
 unfold clsh at h1 h2
 rw [ea,ec,show (Say.name x).beq (.name x)=true from zcB _] at h1
 rw [ea,ec,show (Say.name x).beq (.name x)=true from zcB _] at h2
 cases qa:a.b <;> cases qc:c.b <;> first | rfl | (rw [qa,qc] at h1;exact nomatch (show true=false from h1)) | (rw [qa,qc] at h2;exact nomatch (show true=false from h2))
theorem zdW{P:Cl→Prop}{c:Cl}(h:c.kd="fork")(ha:∀ n a d,P ⟨n,false,.and a d⟩)(ho:∀ n a d,P ⟨n,true,.or a d⟩):P c:=by
 obtain ⟨n,b,s⟩:=c
 cases s with
 | not a=>exact absurd h (show ("apart":Str)≠"fork" by decide)
 | and a d=>cases b with
  | false=>exact ha n a d
  | true=>exact absurd h (show ("apart":Str)≠"fork" by decide)
 | or a d=>cases b with
  | true=>exact ho n a d
  | false=>exact absurd h (show ("apart":Str)≠"fork" by decide)
 | name x=>exact absurd (.inr h) (zaM "name" (by decide))
 | yes=>cases b with
  | true=>exact absurd (.inr h) (zaM "idle" (by decide))
  | false=>exact absurd (.inr h) (zaM "shut" (by decide))
 | no=>cases b with
  | true=>exact absurd (.inr h) (zaM "shut" (by decide))
  | false=>exact absurd (.inr h) (zaM "idle" (by decide))
theorem zps{c:Cl}(h:c.kd="fork"):c.come.take 1≠[]∧c.come.drop 1≠[]:=zdW (P:=fun c=>c.come.take 1≠[]∧c.come.drop 1≠[]) h (fun _ _ _=>⟨fun h=>(nomatch h),fun h=>(nomatch h)⟩) (fun _ _ _=>⟨fun h=>(nomatch h),fun h=>(nomatch h)⟩)
structure Nx (cs:List Cl) (c:Cl) (l:List Cl):Prop where
 all:(ers c cs++l).length+tsz (ers c cs++l)≤300
 down:∀ {e},tsz cs+10<e+1→tsz (ers c cs++l)+10<e
 add:(ers c cs).length+l.length≤1000
 lt:tsz (ers c cs++l)+1≤tsz cs
 dep:∀ x∈ers c cs++l,x.s.dep≤100
theorem zkg{cs:List Cl}{c:Cl}{l:List Cl}(hc:c∈cs)(hop:Open c)(h:cs.length+tsz cs≤300)(hl:l.length≤2)(hz:tsz l≤tsz c.come)(hm:∀ x∈l,x∈c.come)(hx:∀ x∈cs,x.s.dep≤100):Nx cs c l:=by
 obtain ⟨h1,h2⟩:=zfW hc
 have h3:=zfd hop
 have h4:tsz (ers c cs++l)+1≤tsz cs:=by rw [zcl];lia
 refine ⟨?_,fun he=>?_,?_,h4,fun x hx'=>(List.mem_append.mp hx').elim (fun z=>hx x (zcb z)) fun z=>Nat.le_trans (Nat.le_of_lt (zjy (hm x z))) (hx c hc)⟩
 ·rw [List.length_append];lia
 ·clear h h1 h2 h3 hl hz;lia
 ·lia
theorem zga{c:Cl}:(c.come.take 1).length≤2∧(c.come.drop 1).length≤2:=⟨Nat.le_trans (List.length_take_le' 1 _) (zcc c),by rw [List.length_drop];exact Nat.le_trans (Nat.sub_le _ _) (zcc c)⟩
theorem zqM(c:Cl):cutM false (cps c.come) Option.none (some 1)=M.ret (cps (c.come.take 1)):=tr (zom (n:=1) (by rw [List.length_map];exact Nat.le_trans (zcc c) (by decide))) (by unfold cps;rw [List.map_take])
theorem zqL(c:Cl):cutM false (cps c.come) (some 1) Option.none=M.ret (cps (c.come.drop 1)):=tr (zol (n:=1) (by rw [List.length_map];exact Nat.le_trans (zcc c) (by decide))) (by unfold cps;rw [List.map_drop])
theorem dep4{cs:List Cl}(hx:∀ c∈cs,c.s.dep≤100):∀ c∈cs,c.s.dep<400:=fun x h=>Nat.lt_of_le_of_lt (hx x h) (by decide)
theorem ten{t d:Nat}(h:t+10<d):∃ e,d=e+1∧10≤e:=⟨d-1,by lia,by lia⟩
theorem few{n t:Nat}(h:n+t≤300):n≤400:=by lia
theorem worked:∀(n:Nat)(cs:List Cl)(d:Nat)(σ:zab),tsz cs≤n→cs.length+tsz cs≤300→(∀ c∈cs,c.s.dep≤100)→tsz cs+10<d→∃ w τ,zah GG d ⟨true,true⟩ AA.worked [cps cs] σ=.ok w (σ++τ)∧Wk cs (σ++τ) w:=by
 intro n
 induction n with
 | zero=>
  intro cs d σ hz hl hd hn
  obtain ⟨e,rfl,he⟩:=ten hn
  have he2:2<e:=Nat.lt_of_lt_of_le (by decide) he
  have hc:cs=[]:=by
   cases cs with
   | nil=>rfl
   | cons c r=>
    have hp:0<c.s.sz:=by cases c.s <;> exact Nat.succ_pos _
    exact absurd hz (Nat.not_le.mpr (Nat.lt_of_lt_of_le hp (Nat.le_add_right _ _)))
  subst hc
  obtain ⟨kvs,e1,S⟩:=setting_of (d:=e) (r:=true) (cs:=[]) (Nat.lt_trans (by decide) he2) (fun a h=>nomatch h) (by decide) σ
  obtain ⟨w,ew,hw⟩:=next_claim (d:=e) (r:=true) (cs:=[]) he2 (by decide) fun c h=>nomatch h
  have hw:w=.none:=hw.elim (fun z=>z.1) fun ⟨c,hc,_⟩=>nomatch hc
  subst hw
  rcases ended (d:=e) (r:=true) (cs:=[]) (Nat.lt_trans (by decide) he2) (fun c h=>nomatch h) with ⟨t,e2,ht⟩ | ⟨hne,e2⟩
  ·rcases ht with ⟨c,hc,_⟩ | ⟨c,hc,_⟩
   ·exact nomatch hc
   ·exact nomatch hc
  ·exact ⟨.tup [.none,.ref σ.length],[.dict kvs],at_ (zaj (zc3 _ _ _)) (at_ (tr (bd e2) (tr (if_f rfl) (tr (bd ew) (if_t rfl)))) (tr (zaa (tr (zaa (a:=PV.none) rfl) (tr (zaa (tr (zaa e1) rfl)) rfl))) rfl)),.inr ⟨_,kvs,rfl,zaN,S.bools,S.dok,fun c h=>nomatch h⟩⟩
 | succ n ih=>
  intro cs d σ hz hl hd hn
  obtain ⟨e,rfl,he⟩:=ten hn
  have he2:2<e:=Nat.lt_of_lt_of_le (by decide) he
  have he0:0<e:=Nat.lt_trans (by decide) he2
  have hd4:=dep4 hd
  rcases ended (d:=e) (r:=true) (cs:=cs) (Nat.lt_trans (by decide) he2) hd4 with ⟨t,e2,ht⟩ | ⟨hne,e2⟩
  ·refine ⟨.tup [t,.none],[],?_,.inl ⟨t,rfl,ht.std⟩⟩
   rw [List.append_nil]
   exact at_ (zaj (zc3 _ _ _)) (congrFun (tr (bd e2) (if_t (zlP ht.tup).2)) σ)
  ·obtain ⟨w,ew,hw⟩:=next_claim (d:=e) (r:=true) (cs:=cs) he2 (few hl) hd4
   rcases hw with ⟨rfl,hop⟩ | ⟨c,hc,rfl,hop⟩
   ·obtain ⟨kvs,e1,S⟩:=setting_of (d:=e) (r:=true) (cs:=cs) he0 (zpL hne) (few hl) σ
    exact ⟨.tup [.none,.ref σ.length],[.dict kvs],at_ (zaj (zc3 _ _ _)) (at_ (tr (bd e2) (tr (if_f rfl) (tr (bd ew) (if_t rfl)))) (tr (zaa (tr (zaa (a:=PV.none) rfl) (tr (zaa (tr (zaa e1) rfl)) rfl))) rfl)),.inr ⟨_,kvs,rfl,zaN,S.bools,S.dok,leaf hne hop S⟩⟩
   ·have hwo:=without (d:=e) (md:=⟨true,true⟩) rfl he2 hd4 (few hl) hc
    have hpt:zah GG e ⟨true,true⟩ AA.parts [c.pv]=M.ret (.tup [.str c.kd,cps c.come]):=parts he0
    have back:∀{f:Str→Bool}{l:List Cl},Holds f (ers c cs++l)→(Holds f l→c.s.tv f=c.b)→Holds f cs:=fun {f l} h hc' x hx=>(zlZ (c:=c) hx).elim (fun z=>z▸hc' fun y hy=>h y (List.mem_append_right _ hy)) fun z=>h x (List.mem_append_left _ z)
    have run:∀(l:List Cl)(σ:zab),Nx cs c l→∃ w τ,zah GG e ⟨true,true⟩ AA.worked [cps (ers c cs++l)] σ=.ok w (σ++τ)∧Wk (ers c cs++l) (σ++τ) w:=fun l σ N=>ih (ers c cs++l) e σ (Nat.le_of_succ_le_succ (Nat.le_trans N.lt hz)) N.all N.dep (N.down hn)
    cases qa:c.kd=="apart" with
    | true=>
     have ka:c.kd="apart":=eq_of_beq qa
     have N:=zkg (l:=c.come) hc hop hl (zcc c) (Nat.le_refl _) (fun _ h=>h) hd
     obtain ⟨w,τ,ew',hw'⟩:=run c.come σ N
     have st:∀{v:PV},(tup2 w fun v11 v12=>(ifM (zac .Is v11 PV.none) (M.ret (.tup [PV.none,v12])) (M.ret (.tup [(.tup [(.str "apart"),c.pv,v11]),PV.none]))))=M.ret v→zah GG (e+1) ⟨true,true⟩ AA.worked [cps cs] σ=.ok v (σ++τ):=fun {v} hv=>
      at_ (zaj (zc3 _ _ _)) (at_ (tr (bd e2) (tr (if_f rfl) (tr (bd ew) (tr (if_f rfl) (tr (c_t rfl) (tr (bd hpt) (tr (bd hwo) (tr (if_t (tr (zbX _ _) (b_eq qa))) (c_t rfl))))))))) (tr (zaa (at_ (bd (sq1 (zd0 _ _ N.add))) ew')) (congrFun hv _)))
     rcases hw' with ⟨t,rfl,ht⟩ | ⟨j,kvs,rfl,S⟩
     ·exact ⟨_,τ,st (if_f (zlP ht.tup).1),.inl ⟨_,rfl,.apart hc ka ht⟩⟩
     ·exact ⟨_,τ,st (v:=.tup [.none,.ref j]) rfl,.inr ⟨j,kvs,rfl,S.cell,S.bools,S.dok,back S.holds fun h=>ziQ ka h⟩⟩
    | false=>
     have kf:c.kd="fork":=hop.resolve_left fun z=>by rw [z] at qa;cases qa
     have N1:=zkg hc hop hl zga.1 (zbR c.come 1).1 (fun _ h=>List.mem_of_mem_take h) hd
     have N2:=zkg hc hop hl zga.2 (zbR c.come 1).2 (fun _ h=>List.mem_of_mem_drop h) hd
     have some1:∀{f:Str→Bool}{l:List Cl},l≠[]→(∀ x∈l,x∈c.come)→Holds f l→c.s.tv f=c.b:=fun {f l} hne hl h=>by
      cases l with
      | nil=>exact absurd rfl hne
      | cons x l=>exact zkv kf ⟨x,hl x (.head _),h x (.head _)⟩
     have ne2:c.come.take 1≠[]∧c.come.drop 1≠[]:=zps kf
     obtain ⟨w,τ,ew',hw'⟩:=run (c.come.take 1) σ N1
     have hcall:zah GG (e+1) ⟨true,true⟩ AA.worked [cps cs] σ=(tup2 w fun v16 v17=>(ifM (zac .Is v16 PV.none) (M.ret (.tup [PV.none,v17])) (M.cond ((⟨true,true⟩:Md).lp&&true) (((seqM [((cutM false (cps c.come) (some 1) Option.none).bind fun v18=>(opM false .Add (cps (ers c cs)) v18))]).bind fun v19=>(zah GG e ⟨true,true⟩ AA.worked v19)).bind fun v20=>(tup2 v20 fun v21 v22=>(ifM (zac .Is v21 PV.none) (M.ret (.tup [PV.none,v22])) (M.ret (.tup [(.tup [(.str "fork"),c.pv,v16,v21]),PV.none]))))) M.fail))) (σ++τ):=
      at_ (zaj (zc3 _ _ _)) (at_ (tr (bd e2) (tr (if_f rfl) (tr (bd ew) (tr (if_f rfl) (tr (c_t rfl) (tr (bd hpt) (tr (bd hwo) (tr (if_f (tr (zbX _ _) (b_eq qa))) (c_t rfl))))))))) (tr (zaa (at_ (bd (sq1 (tr (bd (zqM c)) (zd0 _ _ N1.add)))) ew')) rfl))
     rcases hw' with ⟨t,rfl,ht⟩ | ⟨j,kvs,rfl,S⟩
     ·obtain ⟨w2,τ2,ew2,hw2⟩:=run (c.come.drop 1) (σ++τ) N2
      have st:∀{v:PV},(tup2 w2 fun v21 v22=>(ifM (zac .Is v21 PV.none) (M.ret (.tup [PV.none,v22])) (M.ret (.tup [(.tup [(.str "fork"),c.pv,t,v21]),PV.none]))))=M.ret v→zah GG (e+1) ⟨true,true⟩ AA.worked [cps cs] σ=.ok v (σ++(τ++τ2)):=fun {v} hv=>by
       rw [← List.append_assoc]
       exact hcall.trans (at_ (tr (if_f (zlP ht.tup).1) (c_t rfl)) (tr (zaa (at_ (bd (sq1 (tr (bd (zqL c)) (zd0 _ _ N2.add)))) ew2)) (congrFun hv _)))
      rcases hw2 with ⟨u,rfl,hu⟩ | ⟨j,kvs,rfl,S⟩
      ·exact ⟨_,τ++τ2,st (if_f (zlP hu.tup).1),.inl ⟨_,rfl,.fork hc kf ht hu⟩⟩
      ·exact ⟨_,τ++τ2,st (v:=.tup [.none,.ref j]) rfl,.inr ⟨j,kvs,rfl,by rw [← List.append_assoc];exact S.cell,S.bools,S.dok,back S.holds (some1 ne2.2 fun _ h=>List.mem_of_mem_drop h)⟩⟩
     ·exact ⟨.tup [.none,.ref j],τ,hcall.trans rfl,.inr ⟨j,kvs,rfl,S.cell,S.bools,S.dok,back S.holds (some1 ne2.1 fun _ h=>List.mem_of_mem_take h)⟩⟩
theorem zpr{md:Md}{mu:Bool}{σ:zab}{j:Nat}{kvs:List (Str×PV)}{k:Str}{x:PV}(h:σ[j]?=some (.dict kvs)):zfs md mu "get" (.ref j) (M.ret [.str k,x]) σ=.ok ((dat kvs k).getD x) σ:=by
 refine (zaa (show tnOf (.ref j) σ=.ok .dict σ from zaa (zfh h))).trans ((zaa (show M.lift (mtOf .dict "get") σ=.ok .get σ from rfl)).trans ?_)
 exact zaa (zdZ h)
end
end Mine
namespace Mine
noncomputable section
open PySem
theorem w_t{w:Nat}(k:Nat)(h:w=k):zac .Eq (.int (w:Int)) (.int (k:Int))=M.ret (.bool true):=znG (congrArg _ h)
theorem w_f{w:Nat}(k:Nat)(h:¬ w=k):zac .Eq (.int (w:Int)) (.int (k:Int))=M.ret (.bool false):=zku fun e=>h (Int.ofNat.inj e)
theorem zbY:∀ s:Say,s.dep≤s.sz
 | .yes=>Nat.le_refl 1
 | .no=>Nat.le_refl 1
 | .name _=>Nat.le_refl 1
 | .not a=>Nat.succ_le_succ (zbY a)
 | .and a b=>by have:=zbY a;have:=zbY b;show max a.dep b.dep+1≤a.sz+b.sz+1;lia
 | .or a b=>by have:=zbY a;have:=zbY b;show max a.dep b.dep+1≤a.sz+b.sz+1;lia
noncomputable def szs(rs:List Say):Nat:=(rs.map Say.sz).sum
structure Row (rs:List Say):Prop where
 ok:∀ s∈rs,s.Ok
 dep:∀ s∈rs,s.dep≤100
 lo:1≤rs.length
 hi:rs.length≤6
 sz:szs rs≤60
noncomputable def rpv(rs:List Say):PV:=.lst (rs.map Say.pv)
theorem zg9:∀{rs:List Say}{s:Say},s∈rs→s.sz≤szs rs
 | r::rs,s,h=>by
  show s.sz≤r.sz+szs rs
  rcases List.mem_cons.mp h with rfl | h
  ·exact Nat.le_add_right _ _
  ·exact Nat.le_trans (zg9 h) (Nat.le_add_left _ _)
theorem zkX:∀ rs:List Say,(rs.map fun s=>(s.sz:Int)).sum=(szs rs:Int)
 | []=>rfl
 | r::rs=>by
  show (r.sz:Int)+(rs.map fun s=>(s.sz:Int)).sum=((r.sz+szs rs:Nat):Int)
  rw [zkX rs];rfl
theorem zha:∀(rs:List Say)(a:Nat),a+szs rs≤100000→zeK (a:Int) (rs.map fun s=>(s.sz:Int))=true
 | [],a,h=>rfl
 | r::rs,a,h=>by
  have h:a+(r.sz+szs rs)≤100000:=h
  have e:(a:Int)+(r.sz:Int)=((a+r.sz:Nat):Int):=rfl
  show (zbq (r.sz:Int)&&zbq ((a:Int)+(r.sz:Int))&&zeK ((a:Int)+(r.sz:Int)) (rs.map fun s=>(s.sz:Int)))=true
  rw [e,zha rs (a+r.sz) (by lia),za9 (i:=(r.sz:Int)) (by lia) (by lia),za9 (i:=((a+r.sz:Nat):Int)) (by lia) (by lia)];rfl
theorem znQ{n:Nat}(h1:1≤n)(h2:n≤6):((zac .LtE (.int 1) (.int (n:Int))).bind fun v3=>(zap v3).bind fun v4=>M.cond v4 (zac .LtE (.int (n:Int)) (.int 6)) (M.ret v3))=M.ret (.bool true):=by
 refine tr (bd (tr (c_le _ _) (b_eq (decide_eq_true (show (1:Int)≤(n:Int) by lia))))) (tr (bd (tr_b _)) (tr (c_le _ _) (b_eq (decide_eq_true (show (n:Int)≤6 by lia)))))
theorem zoR{s:Say}{d:Nat}(ok:s.Ok)(hs:s.dep≤100){md:Md}(hl:md.lp=true)(hd:120<d):zah GG d md AA.is_saying [s.pv]=M.ret (.bool true):=by
 obtain ⟨e,rfl⟩:∃ e,d=e+1:=⟨d-1,by lia⟩
 exact zaj (tr (ze0 _ _ _) (tr (zaK md hl s 100 e ok (by lia)) (b_eq (decide_eq_true hs))))
theorem need_row{rs:List Say}{d:Nat}{r:Bool}(hd:200<d)(R:Row rs):zah GG d ⟨r,true⟩ AA.need_row [rpv rs]=M.ret .none:=by
 obtain ⟨e,rfl⟩:∃ e,d=e+1:=⟨d-1,by lia⟩
 have r1:=R.lo;have r2:=R.hi;have rz:=R.sz
 have hlm:(rs.map Say.pv).length=rs.length:=List.length_map _
 have ha:((seqM [(zaU ⟨r,true⟩ false (zat (rpv rs)) fun v5=>(zah GG e (⟨r,true⟩:Md).inn AA.is_saying [v5]).bind fun v6=>M.ret (some v6))]).bind fun v7=>(biM ⟨r,true⟩ false "all" v7))=M.ret (.bool true):=by
  have hc:=zdC (f:=fun v5=>(zah GG e (⟨r,true⟩:Md).inn AA.is_saying [v5]).bind fun v6=>M.ret (some v6)) (g:=fun _=>.bool true) (ps:=rs) fun p hp=>bd (zoR (R.ok p hp) (R.dep p hp) rfl (by lia))
  refine tr (bd (sq1 (zbQ rfl (show zat (rpv rs)=M.ret ⟨rs.map Say.pv,[]⟩ from rfl) (by lia) hc))) (tr (zgS (zbG (fun _=>true) rs) rfl) (b_eq (by rw [List.all_map];exact List.all_eq_true.mpr fun _ _=>rfl)))
 have hs:((seqM [(zaU ⟨r,true⟩ false (zat (rpv rs)) fun v8=>(zah GG e (⟨r,true⟩:Md).inn AA.size_in [v8]).bind fun v9=>M.ret (some v9))]).bind fun v10=>(biM ⟨r,true⟩ false "sum" v10))=M.ret (.int (szs rs:Int)):=by
  have hc:=zdC (f:=fun v8=>(zah GG e (⟨r,true⟩:Md).inn AA.size_in [v8]).bind fun v9=>M.ret (some v9)) (g:=fun s=>.int (s.sz:Int)) (ps:=rs) fun p hp=>bd (size_in p _ e rfl (by have:=R.dep p hp;lia) (Nat.le_trans (zg9 hp) (by lia)))
  have hm:(rs.map fun p=>PV.int (p.sz:Int))=(rs.map fun p=>(p.sz:Int)).map PV.int:=by rw [List.map_map];rfl
  rw [hm] at hc
  exact tr (bd (sq1 (zbQ rfl (show zat (rpv rs)=M.ret ⟨rs.map Say.pv,[]⟩ from rfl) (by lia) hc))) (tr (zkZ (zd6 _) (zha rs 0 (by lia)) rfl) (i_eq (zkX rs)))
 refine zaj (tr (zkj _ _ _) (tr (if_f (tr (or_f rfl) (zcf (b:=true) (tr (bd (zdP (by lia))) ?_)))) (tr (if_f (zcf ha)) (if_f (tr (bd hs) (show _=M.ret (PV.bool false) from b_eq (decide_eq_false (show ¬ ((60:Int)<(szs rs:Int)) by lia))))))))
 rw [hlm];exact znQ r1 r2
noncomputable def bg:Nat→List Say→List Cl
 | _,[]=>[]
 | i,s::r=>⟨i,true,s⟩::bg (i+1) r
theorem zmR:∀(rs:List Say)(a:Nat),(bg a rs).length=rs.length
 | [],_=>rfl
 | _::r,a=>congrArg Nat.succ (zmR r (a+1))
theorem ziO:∀(rs:List Say)(a:Nat),tsz (bg a rs)=szs rs
 | [],_=>rfl
 | s::r,a=>congrArg (s.sz+·) (ziO r (a+1))
theorem zjC:∀{rs:List Say}{a:Nat}{x:Cl},x∈bg a rs→x.s∈rs
 | s::r,a,x,h=>by
  rcases List.mem_cons.mp h with rfl | h
  ·exact .head _
  ·exact .tail _ (zjC h)
theorem zn9:∀{rs:List Say}{a:Nat}{s:Say},s∈rs→∃ i,(⟨i,true,s⟩:Cl)∈bg a rs
 | s'::r,a,s,h=>by
  rcases List.mem_cons.mp h with rfl | h
  ·exact ⟨a,.head _⟩
  ·exact (zn9 (a:=a+1) h).imp fun i hi=>.tail _ hi
theorem zfX:∀(xs:List PV)(a:Nat),(zcN a xs).length=xs.length
 | [],_=>rfl
 | _::r,a=>congrArg Nat.succ (zfX r (a+1))
theorem begun{rs:List Say}{d:Nat}{r:Bool}(hd:210<d)(R:Row rs):zah GG d ⟨r,true⟩ AA.begun [rpv rs]=M.ret (cps (bg 0 rs)):=by
 obtain ⟨e,rfl⟩:∃ e,d=e+1:=⟨d-1,by lia⟩
 have hc:∀(l:List Say)(a:Nat),zaW (M.ret ()) (fun x=>M.noErr ((fun v2=>tup2 v2 fun v3 v4=>M.ret (some (PV.tup [v3,(.bool true),v4]))) x)) (zcN a (l.map Say.pv))=M.ret ((bg a l).map Cl.pv):=by
  intro l
  induction l with
  | nil=>exact fun a=>rfl
  | cons s l ih=>exact fun a=>zbZ (f:=fun v2=>tup2 v2 fun v3 v4=>M.ret (some (PV.tup [v3,(.bool true),v4]))) (y:=(Cl.mk a true s).pv) rfl (ih (a+1))
 have r2:=R.hi
 exact zaj (tr (zpR _ _ _) (tr (bd (need_row (by lia) R)) (zbQ rfl (show zei [rpv rs]=M.ret ⟨zcN 0 (rs.map Say.pv),[]⟩ from rfl) (by rw [zfX,List.length_map];lia) (hc rs 0))))
theorem zcF{f g:Str→Bool}:∀ s:Say,(∀ x∈s.nms,f x=g x)→s.tv f=s.tv g
 | .yes,_=>rfl
 | .no,_=>rfl
 | .name n,h=>h n (.head _)
 | .not a,h=>congrArg Bool.not (zcF a h)
 | .and a b,h=>by show (a.tv f&&b.tv f)=_;rw [zcF a fun x hx=>h x (List.mem_append_left _ hx),zcF b fun x hx=>h x (List.mem_append_right _ hx)];rfl
 | .or a b,h=>by show (a.tv f || b.tv f)=_;rw [zcF a fun x hx=>h x (List.mem_append_left _ hx),zcF b fun x hx=>h x (List.mem_append_right _ hx)];rfl
theorem zc4{K A:List Str}(hK:K.Nodup)(hA:A.Nodup):(uni K A).Nodup:=by
 unfold uni
 refine List.nodup_append.mpr ⟨hK,hA.filter _,fun a ha b hb e=>?_⟩
 have:=(List.mem_filter.mp hb).2
 rw [zep,decide_eq_true (by rw [← e];exact ha)] at this
 cases this
theorem zaJ:∀ s:Say,s.met.Nodup
 | .yes=>List.nodup_nil
 | .no=>List.nodup_nil
 | .name _=>List.nodup_cons.mpr ⟨List.not_mem_nil,List.nodup_nil⟩
 | .not a=>zaJ a
 | .and a b=>zc4 (zaJ a) (zaJ b)
 | .or a b=>zc4 (zaJ a) (zaJ b)
theorem zdI{x:Str}{K A:List Str}(h:x∈K∨x∈A):x∈uni K A:=by
 by_cases q:x∈K
 ·exact List.mem_append_left _ q
 ·exact List.mem_append_right _ (List.mem_filter.mpr ⟨h.resolve_left q,by rw [zep,decide_eq_false q];rfl⟩)
theorem zbO:∀(s:Say)(x:Str),x∈s.nms→x∈s.met
 | .yes,_,h=>h
 | .no,_,h=>h
 | .name _,_,h=>h
 | .not a,x,h=>zbO a x h
 | .and a b,x,h=>zdI ((List.mem_append.mp h).imp (zbO a x) (zbO b x))
 | .or a b,x,h=>zdI ((List.mem_append.mp h).imp (zbO a x) (zbO b x))
noncomputable def rmet(K:List Str)(rs:List Say):List Str:=rs.foldl (fun K p=>uni K p.met) K
theorem zfE:∀(rs:List Say)(K:List Str),K.Nodup→(rmet K rs).Nodup
 | [],_,h=>h
 | s::rs,K,h=>zfE rs (uni K s.met) (zc4 h (zaJ s))
theorem zi9:∀(rs:List Say)(K:List Str)(x:Str),(x∈K∨∃ s∈rs,x∈s.nms)→x∈rmet K rs
 | [],_,x,h=>h.elim id fun ⟨s,hs,_⟩=>nomatch hs
 | s::rs,K,x,h=>by
  refine zi9 rs (uni K s.met) x ?_
  rcases h with h | ⟨t,ht,hx⟩
  ·exact .inl (zdI (.inl h))
  ·rcases List.mem_cons.mp ht with rfl | ht
   ·exact .inl (zdI (.inr (zbO _ _ hx)))
   ·exact .inr ⟨t,ht,hx⟩
theorem zgi:∀(rs:List Say)(K:List Str),(rmet K rs).length≤K.length+szs rs
 | [],_=>Nat.le_add_right _ _
 | s::rs,K=>by
  have h1:=zgi rs (uni K s.met)
  have h2:=zck K s.met
  have h3:=zdm s
  have h4:=zeV s
  show (rmet (uni K s.met) rs).length≤K.length+(s.sz+szs rs)
  lia
theorem zlT{d:Nat}{r:Bool}{v1:PV}{j:Nat}:∀(ps:List Say)(K:List Str)(σ:zab)(o:Option PV),σ[j]?=some (.dict (dK K))→K.length+szs ps<1000→(∀ p∈ps,p.dep+1<d)→
  zbj AA GG (zah GG d) ⟨r,true⟩ (M.ret ()) (ps.map Say.pv) v1 (.ref j) o σ=biM ⟨r,true⟩ false "sorted" [.ref j] (σ.set j (.dict (dK (rmet K ps))))
 | [],K,σ,o,h,_,_=>by
  show biM ⟨r,true⟩ false "sorted" [.ref j] σ=biM ⟨r,true⟩ false "sorted" [.ref j] (σ.set j (.dict (dK K)))
  rw [zgg h]
 | p::ps,K,σ,o,h,hl,hd=>by
  have hl:K.length+(p.sz+szs ps)<1000:=hl
  have h4:=zeV p
  have h1:=zqH p ⟨r,true⟩ d j K σ rfl (hd p (.head _)) h (by lia)
  have hlt:=(List.getElem?_eq_some_iff.mp h).1
  have h2:=zlT (d:=d) (r:=r) (v1:=v1) ps (uni K p.met) (σ.set j (.dict (dK (uni K p.met)))) (some p.pv) (by rw [List.getElem?_set_self hlt]) (by have:=zck K p.met;have:=zdm p;lia) fun q hq=>hd q (.tail _ hq)
  refine (zaa h1).trans (h2.trans ?_)
  rw [List.set_set];rfl
theorem zpg(K:List Str):((dK K).map fun kv=>PV.str kv.1)=K.map .str:=by unfold dK;rw [List.map_map];rfl
theorem zk6{σ:zab}{j:Nat}{kvs:List (Str×PV)}{K:List Str}{r:Bool}(h:σ[j]?=some (.dict kvs))(hk:(kvs.map fun kv=>PV.str kv.1)=K.map .str)(hl:K.length<64):biM ⟨r,true⟩ false "sorted" [.ref j] σ=.ok (.lst ((zal K).map .str)) σ:=by
 rw [zh1]
 have h1:zdc (.ref j) σ=.ok (K.map .str) σ:=(zaa (show cget j σ=.ok (.dict kvs) σ by unfold cget;rw [h])).trans (by
  show Rs.ok (kvs.map fun kv=>PV.str kv.1) _=_
  rw [hk])
 exact (zaa h1).trans ((congrFun (bd (congrArg M.lift (zcI K))) _).trans ((congrFun (c_t (decide_eq_true hl)) _).trans rfl))
theorem names_in{rs:List Say}{d:Nat}{r:Bool}(hd:110<d)(R:Row rs)(σ:zab):zah GG d ⟨r,true⟩ AA.names_in [rpv rs] σ=.ok (.lst ((zal (rmet [] rs)).map .str)) (σ++[.dict (dK (rmet [] rs))]):=by
 obtain ⟨e,rfl⟩:∃ e,d=e+1:=⟨d-1,by lia⟩
 have hz:=R.sz
 have hl:=zgi rs []
 have hl:(rmet [] rs).length≤0+szs rs:=hl
 have lp:=zlT (d:=e) (r:=r) (v1:=rpv rs) (j:=σ.length) rs [] (σ++[.dict []]) Option.none zaN (show 0+szs rs<1000 by lia) fun p hp=>by have:=R.dep p hp;lia
 rw [zdb] at lp
 refine at_ (zaj (zkl _ _ _)) ?_
 unfold zfJ zdO
 exact tr (zaa (a:=PV.ref σ.length) (σ':=σ++[Cel.dict []]) rfl) (at_ (c_t rfl) (tr lp (zk6 zaN (zpg _) (by lia))))
noncomputable def fill(kd:List (Str×PV)):List (Str×PV)→List Str→List (Str×PV)
 | kvs,[]=>kvs
 | kvs,x::L=>fill kd (dput x ((dat kd x).getD (.bool false)) kvs) L
theorem zlw{C:zad}{r:Bool}{v1 v2:PV}{jd jf:Nat}{kd:List (Str×PV)}(hj:jf≠jd):∀(L:List Str)(kvs:List (Str×PV))(σ:zab)(v5:Option PV),σ[jd]?=some (.dict kd)→σ[jf]?=some (.dict kvs)→kvs.length+L.length<900→
  zcp AA GG C ⟨r,true⟩ (M.ret ()) (L.map .str) v1 v2 (.ref jd) (.ref jf) v5 σ=.ok (.tup [.str "setting",.ref jf]) (σ.set jf (.dict (fill kd kvs L)))
 | [],kvs,σ,v5,h1,h2,hl=>by
  show Rs.ok _ σ=Rs.ok _ (σ.set jf (.dict kvs))
  rw [zgg h2]
 | x::L,kvs,σ,v5,h1,h2,hl=>by
  have hl:kvs.length+(L.length+1)<900:=hl
  have hlt:=(List.getElem?_eq_some_iff.mp h2).1
  have hdl:=zgJ kvs x ((dat kd x).getD (.bool false))
  have ih:=zlw (C:=C) (r:=r) (v1:=v1) (v2:=v2) (kd:=kd) hj L (dput x ((dat kd x).getD (.bool false)) kvs) (σ.set jf (.dict (dput x ((dat kd x).getD (.bool false)) kvs))) (some (.str x)) (by rw [List.getElem?_set_ne hj];exact h1) (by rw [List.getElem?_set_self hlt]) (by lia)
  refine tr (show _=zik AA GG C ⟨r,true⟩ (zcp AA GG C ⟨r,true⟩ (M.ret ()) (L.map .str)) v1 v2 (.ref jd) (.ref jf) v5 (.str x) σ from rfl) (tr (zaa (zpr h1)) (tr (zaa (zev h2 (by lia))) (ih.trans ?_)))
  rw [List.set_set];rfl
theorem znL{kvs:List (Str×PV)}{x:Str}{v:PV}(h:x∉kvs.map (·.1)):dput x v kvs=kvs++[(x,v)]:=by
 unfold dput
 rw [if_neg]
 intro q
 obtain ⟨p,hp,e⟩:=List.any_eq_true.mp q
 exact h (List.mem_map.mpr ⟨p,hp,of_decide_eq_true e⟩)
theorem zhL(kd:List (Str×PV)):∀(L:List Str)(kvs:List (Str×PV)),L.Nodup→(∀ x∈L,x∉kvs.map (·.1))→(fill kd kvs L).map (·.1)=kvs.map (·.1)++L
 | [],kvs,_,_=>(List.append_nil _).symm
 | x::L,kvs,hn,hx=>by
  have hn:=List.nodup_cons.mp hn
  have e:(dput x ((dat kd x).getD (.bool false)) kvs).map (·.1)=kvs.map (·.1)++[x]:=by rw [znL (hx x (.head _)),List.map_append];rfl
  have ih:=zhL kd L (dput x ((dat kd x).getD (.bool false)) kvs) hn.2 fun y hy h=>by
   rw [e] at h
   exact (List.mem_append.mp h).elim (hx y (.tail _ hy)) fun z=>hn.1 (by rw [← List.mem_singleton.mp z];exact hy)
  refine ih.trans ?_
  rw [e,List.append_assoc];rfl
theorem zmr(kd:List (Str×PV)):∀(L:List Str)(kvs:List (Str×PV))(x:Str),(x∈L∨dat kvs x=some ((dat kd x).getD (.bool false)))→dat (fill kd kvs L) x=some ((dat kd x).getD (.bool false))
 | [],kvs,x,h=>h.elim (fun h=>nomatch h) id
 | y::L,kvs,x,h=>by
  refine zmr kd L _ x ?_
  by_cases q:x=y
  ·exact .inr (by rw [zbw,if_pos q,q])
  ·rcases h with h | h
   ·exact .inl ((List.mem_cons.mp h).resolve_left q)
   ·exact .inr (by rw [zbw,if_neg q];exact h)
theorem zk7(K:List Str):zal (zal K)=zal K:=List.Perm.eq_of_pairwise (le:=SLe) (fun a b _ _ h1 h2=>ziW (List.le_antisymm h1 h2)) (zbl _) (zbl _) (zaX _)
structure Tld (rs:List Say) (σ:zab) (j:Nat) (kvs:List (Str×PV)):Prop where
 cell:σ[j]?=some (.dict kvs)
 keys:kvs.map (·.1)=zal (rmet [] rs)
 bl:∀ x∈rmet [] rs,Bl kvs x
 tv:∀ s∈rs,s.tv (fOf kvs)=true
noncomputable def Told(rs:List Say)(σ:zab)(w:PV):Prop:=(∃ t,w=.tup [.str "tree",t]∧Std (bg 0 rs) t)∨∃ j kvs,w=.tup [.str "setting",.ref j]∧Tld rs σ j kvs
noncomputable def shN(C:zad)(v1 v4 v5:PV):M PV:=((cnew (.dict [])).bind fun v6=>
   (M.cond ((⟨true,true⟩:Md).lp&&true) (((C ⟨true,true⟩ AA.names_in [v1]).bind zat).bind fun v7=>zcp AA GG C ⟨true,true⟩ (chkW v7.watch) v7.xs v1 v4 v5 v6 Option.none) M.fail))
theorem shut{rs:List Say}{d:Nat}(hd:250<d)(R:Row rs)(σ:zab):∃ w τ,zah GG d ⟨true,true⟩ AA.shut [rpv rs] σ=.ok w (σ++τ)∧Told rs (σ++τ) w:=by
 obtain ⟨e,rfl⟩:∃ e,d=e+1:=⟨d-1,by lia⟩
 have hz:=R.sz;have h6:=R.hi
 have hb:zah GG e ⟨true,true⟩ AA.begun [rpv rs]=M.ret (cps (bg 0 rs)):=begun (by lia) R
 obtain ⟨w,τ,ew,hw⟩:=worked (szs rs) (bg 0 rs) e σ (by rw [ziO];exact Nat.le_refl _) (by rw [zmR,ziO];lia) (fun c hc=>R.dep _ (zjC hc)) (by rw [ziO];lia)
 have st:zah GG (e+1) ⟨true,true⟩ AA.shut [rpv rs] σ=(tup2 w fun v4 v5=>(ifM (zac .IsNot v4 PV.none)
   (M.ret (.tup [(.str "tree"),v4]))
   (shN (zah GG e) (rpv rs) v4 v5))) (σ++τ):=by
  refine at_ (zaj (zqc _ _ _)) ?_
  unfold zn1 zlv
  exact at_ (c_t rfl) (zaa (at_ (bd (sq1 hb)) ew))
 rcases hw with ⟨t,rfl,ht⟩ | ⟨j,kd,rfl,S⟩
 ·exact ⟨_,τ,st.trans (congrFun (if_t (zlP ht.tup).2) _),.inl ⟨t,rfl,ht⟩⟩
 ·have hl:=zgi rs []
  have hl:(rmet [] rs).length≤0+szs rs:=hl
  have hp:=zaX (rmet [] rs)
  have hln:(zal (rmet [] rs)).length=(rmet [] rs).length:=hp.length_eq
  have hjl:=(List.getElem?_eq_some_iff.mp S.cell).1
  have hni:=names_in (d:=e) (r:=true) (by lia) R (σ++τ++[.dict []])
  have lp:=zlw (C:=zah GG e) (r:=true) (v1:=rpv rs) (v2:=.none) (jd:=j) (jf:=(σ++τ).length) (kd:=kd) (by lia) (zal (rmet [] rs)) [] (σ++τ++[.dict []]++[.dict (dK (rmet [] rs))]) Option.none (ze2 (ze2 S.cell)) (ze2 zaN) (show 0+_<900 by lia)
  have hset:(σ++τ++[Cel.dict []]++[Cel.dict (dK (rmet [] rs))]).set (σ++τ).length (.dict (fill kd [] (zal (rmet [] rs))))=σ++(τ++[Cel.dict (fill kd [] (zal (rmet [] rs)))]++[Cel.dict (dK (rmet [] rs))]):=by
   rw [List.set_append_left _ _ (by rw [List.length_append (bs:=[Cel.dict []])];exact Nat.lt_succ_self _),zdb,← List.append_assoc,← List.append_assoc]
  rw [hset] at lp
  have kat:∀ x∈rmet [] rs,dat (fill kd [] (zal (rmet [] rs))) x=some ((dat kd x).getD (.bool false)):=fun x hx=>zmr kd _ [] x (.inl (hp.mem_iff.mpr hx))
  have fe:∀ x∈rmet [] rs,dat (fill kd [] (zal (rmet [] rs))) x=some (.bool (fOf kd x)):=fun x hx=>by
   rw [kat x hx]
   unfold fOf
   cases q:dat kd x with
   | none=>rfl
   | some v=>obtain ⟨b,rfl⟩:=S.bools x v q;rfl
  refine ⟨.tup [.str "setting",.ref (σ++τ).length],τ++[Cel.dict (fill kd [] (zal (rmet [] rs)))]++[Cel.dict (dK (rmet [] rs))],st.trans (at_ (show _=shN (zah GG e) (rpv rs) .none (.ref j) from if_f (a:=M.ret (.tup [(.str "tree"),PV.none])) rfl) (tr (zaa (a:=PV.ref (σ++τ).length) (σ':=σ++τ++[Cel.dict []]) rfl) (at_ (c_t rfl) (tr (zaa (tr (zaa hni) rfl)) lp)))),.inr ⟨(σ++τ).length,fill kd [] (zal (rmet [] rs)),rfl,?_,?_,?_,?_⟩⟩
  ·rw [← List.append_assoc,← List.append_assoc];exact ze2 zaN
  ·exact (zhL kd _ [] (hp.symm.nodup (zfE rs [] List.nodup_nil)) fun x _ h=>nomatch h)
  ·exact fun x hx=>⟨_,fe x hx⟩
  ·intro s hs
   obtain ⟨i,hi⟩:=zn9 (a:=0) hs
   refine (zcF s fun x hx=>?_).trans (S.holds _ hi)
   have:=fe x (zi9 rs [] x (.inr ⟨s,hs,hx⟩))
   show fOf (fill kd [] (zal (rmet [] rs))) x=fOf kd x
   unfold fOf at this ⊢
   rw [this]
theorem zgf{cs:List Cl}{c:Cl}{d:Nat}{r:Bool}{w:Str}{l:List PV}{K:PV→PV→PV→M PV}(hd:2<d)(hc:c∈cs)(hx:∀ x∈cs,x.s.dep<400)(hl:cs.length≤400)(hll:l.length≤5) :
 (ifM (orM (notM (isM GG (.bi .tuple) (.tup (.str w::c.pv::l)))) (orM ((biM ⟨r,true⟩ false "len" [.tup (.str w::c.pv::l)]).bind fun v3=>(zac .Lt v3 (.int 2))) (notM ((zaf (.tup (.str w::c.pv::l)) (.int 0)).bind fun v4=>(isM GG (.bi .str) v4)))))
 (M.ret (.bool false))
 (((seqM [(M.ret (cps cs)),(zaf (.tup (.str w::c.pv::l)) (.int 1))]).bind fun v5=>(zah GG d ⟨r,true⟩ AA.without v5)).bind fun v6=>
 (ifM (zac .Is v6 PV.none)
 (M.ret (.bool false))
 (M.cond ((⟨r,true⟩:Md).lp&&true) (((seqM [(zaf (.tup (.str w::c.pv::l)) (.int 1))]).bind fun v7=>(zah GG d ⟨r,true⟩ AA.parts v7)).bind fun v8=>(tup2 v8 (K v6))) M.fail))))=K (cps (ers c cs)) (.str c.kd) (cps c.come):=
 tr (if_f (tr (or_f rfl) (tr (or_f (tr (bd (zeY (show l.length+2≤1000000 by lia))) (tr (c_lt _ _) (b_eq (decide_eq_false (show ¬ (((l.length+2:Nat):Int)<2) by lia)))))) (zcf (b:=true) (tr (bd (ix_0 _ _)) rfl))))) (tr (bd (tr (bd (sq2 rfl (ix_1 _ _ _))) (without (md:=⟨r,true⟩) rfl hd hx hl hc))) (tr (if_f rfl) (tr (c_t rfl) (tr (bd (tr (bd (sq1 (ix_1 _ _ _))) (parts (by lia)))) rfl))))
theorem zqa{cs:List Cl}{t:PV}(h:Std cs t):∀(r:Bool)(d:Nat),cs.length+tsz cs≤300→(∀ c∈cs,c.s.dep≤100)→tsz cs+10<d→zah GG d ⟨r,true⟩ AA.stands_for [cps cs,t]=M.ret (.bool true):=by
 induction h with
 | @shut cs c hc hk=>
  intro r d hl hx hd
  obtain ⟨e,rfl,he⟩:=ten hd
  refine zaj (tr (zbI _ _ _ _) (tr (zgf (l:=[]) (Nat.lt_of_lt_of_le (by decide) he) hc (dep4 hx) (few hl) (by decide)) ?_))
  rw [hk];exact tr (if_t (by kernel_rfl)) (by kernel_rfl)
 | @clash cs c o hc ho hq=>
  intro r d hl hx hd
  obtain ⟨e,rfl,he⟩:=ten hd
  have he2:2<e:=Nat.lt_of_lt_of_le (by decide) he
  refine zaj (tr (zbI _ _ _ _) (tr (zgf (l:=[o.pv]) he2 hc (dep4 hx) (few hl) (show 1≤5 by decide)) ?_))
  have q1:(((seqM [(M.ret (cps cs)),(zaf (.tup [.str "clash",c.pv,o.pv]) (.int 2))]).bind fun v15=>(zah GG e ⟨r,true⟩ AA.without v15)).bind fun v16=>(zac .IsNot v16 PV.none))=M.ret (.bool true):=tr (bd (tr (bd (sq2 rfl (ix_2 _ _ _ _))) (without (md:=⟨r,true⟩) rfl he2 (dep4 hx) (few hl) ho))) rfl
  have q2:((seqM [(zaf (.tup [.str "clash",c.pv,o.pv]) (.int 1)),(zaf (.tup [.str "clash",c.pv,o.pv]) (.int 2))]).bind fun v17=>(zah GG e ⟨r,true⟩ AA.clashes v17))=M.ret (.bool true):=tr (bd (sq2 (ix_1 _ _ _) (ix_2 _ _ _ _))) (tr (clashes (Nat.lt_of_lt_of_le (by decide) he) (dep4 hx c hc) (dep4 hx o ho)) (b_eq hq))
  exact tr (if_f (tr (bd (ix_0 _ _)) (by kernel_rfl))) (tr (if_t (tr (bd (ix_0 _ _)) (by kernel_rfl))) (tr (zgR (tr (bd (zeY (show 3≤1000000 by decide))) (znG rfl))) (tr (zgR q1) q2)))
 | @apart cs c t hc hk ht ih=>
  intro r d hl hx hd
  obtain ⟨e,rfl,he⟩:=ten hd
  have N:=zkg (l:=c.come) hc (.inl hk) hl (zcc c) (Nat.le_refl _) (fun _ h=>h) hx
  have e1:=ih r e N.all N.dep (N.down hd)
  refine zaj (tr (zbI _ _ _ _) (tr (zgf (l:=[t]) (Nat.lt_of_lt_of_le (by decide) he) hc (dep4 hx) (few hl) (show 1≤5 by decide)) ?_))
  rw [hk]
  exact tr (if_f (tr (bd (ix_0 _ _)) (by kernel_rfl))) (tr (if_f (tr (bd (ix_0 _ _)) (by kernel_rfl))) (tr (if_t (tr (bd (ix_0 _ _)) (by kernel_rfl))) (tr (zgR (tr (bd (zeY (show 3≤1000000 by decide))) (znG rfl))) (tr (zgR (by kernel_rfl)) (tr (bd (sq2 (zd0 _ _ N.add) (ix_2 _ _ _ _))) e1)))))
 | @fork cs c t u hc hk ht hu ih1 ih2=>
  intro r d hl hx hd
  obtain ⟨e,rfl,he⟩:=ten hd
  have N1:=zkg hc (.inr hk) hl zga.1 (zbR c.come 1).1 (fun _ h=>List.mem_of_mem_take h) hx
  have N2:=zkg hc (.inr hk) hl zga.2 (zbR c.come 1).2 (fun _ h=>List.mem_of_mem_drop h) hx
  have e1:=ih1 r e N1.all N1.dep (N1.down hd)
  have e2:=ih2 r e N2.all N2.dep (N2.down hd)
  refine zaj (tr (zbI _ _ _ _) (tr (zgf (l:=[t,u]) (Nat.lt_of_lt_of_le (by decide) he) hc (dep4 hx) (few hl) (show 2≤5 by decide)) ?_))
  rw [hk]
  exact tr (if_f (tr (bd (ix_0 _ _)) (by kernel_rfl))) (tr (if_f (tr (bd (ix_0 _ _)) (by kernel_rfl))) (tr (if_f (tr (bd (ix_0 _ _)) (by kernel_rfl))) (tr (if_f (tr (or_f (tr (bd (ix_0 _ _)) (by kernel_rfl))) (tr (or_f (tr (bd (zeY (show 4≤1000000 by decide))) (by kernel_rfl))) (by kernel_rfl)))) (tr (zgR (tr (bd (sq2 (tr (bd (zqM c)) (zd0 _ _ N1.add)) (ix_2 _ _ _ _))) e1)) (tr (bd (sq2 (tr (bd (zqL c)) (zd0 _ _ N2.add)) (show zaf (.tup [.str "fork",c.pv,t,u]) (.int 3)=M.ret u from zhF (k:=3) rfl (by decide)))) e2)))))
theorem zkn{rs:List Say}{t:PV}{d:Nat}{r:Bool}(hd:250<d)(R:Row rs)(h:Std (bg 0 rs) t):zah GG d ⟨r,true⟩ AA.stands [rpv rs,t]=M.ret (.bool true):=by
 obtain ⟨e,rfl⟩:∃ e,d=e+1:=⟨d-1,by lia⟩
 have hz:=R.sz;have h6:=R.hi
 exact zaj (tr (zm2 _ _ _ _) (tr (bd (sq2 (begun (by lia) R) rfl)) (zqa h r e (by rw [zmR,ziO];lia) (fun c hc=>R.dep _ (zjC hc)) (by rw [ziO];lia))))
theorem zfp{P:Cl→Prop}{c:Cl}(h:c.kd="apart")(hn:∀ n b a,P ⟨n,b,.not a⟩)(ha:∀ n a d,P ⟨n,true,.and a d⟩)(ho:∀ n a d,P ⟨n,false,.or a d⟩):P c:=by
 obtain ⟨n,b,s⟩:=c
 cases s with
 | not a=>exact hn n b a
 | and a d=>cases b with
  | true=>exact ha n a d
  | false=>exact absurd h (show ("fork":Str)≠"apart" by decide)
 | or a d=>cases b with
  | false=>exact ho n a d
  | true=>exact absurd h (show ("fork":Str)≠"apart" by decide)
 | name x=>exact absurd (.inl h) (zaM "name" (by decide))
 | yes=>cases b with
  | true=>exact absurd (.inl h) (zaM "idle" (by decide))
  | false=>exact absurd (.inl h) (zaM "shut" (by decide))
 | no=>cases b with
  | true=>exact absurd (.inl h) (zaM "shut" (by decide))
  | false=>exact absurd (.inl h) (zaM "idle" (by decide))
theorem zoP{c:Cl}(h:c.kd="shut")(f:Str→Bool):c.s.tv f≠c.b:=by
 obtain ⟨n,b,s⟩:=c
 cases s with
 | yes=>cases b with
  | true=>exact absurd h (show ("idle":Str)≠"shut" by decide)
  | false=>exact fun e=>(nomatch (show true=false from e))
 | no=>cases b with
  | true=>exact fun e=>(nomatch (show false=true from e))
  | false=>exact absurd h (show ("idle":Str)≠"shut" by decide)
 | name x=>exact absurd h (show ("name":Str)≠"shut" by decide)
 | not a=>exact absurd h (show ("apart":Str)≠"shut" by decide)
 | and a d=>cases b with
  | true=>exact absurd h (show ("apart":Str)≠"shut" by decide)
  | false=>exact absurd h (show ("fork":Str)≠"shut" by decide)
 | or a d=>cases b with
  | true=>exact absurd h (show ("fork":Str)≠"shut" by decide)
  | false=>exact absurd h (show ("apart":Str)≠"shut" by decide)
noncomputable def lv:Bool→Say→Nat
 | b,.not a=>lv (!b) a
 | b,.and a c=>bif b then lv b a*lv b c else lv b a+lv b c
 | b,.or a c=>bif b then lv b a+lv b c else lv b a*lv b c
 | _,_=>1
noncomputable def pw:List Cl→Nat
 | []=>1
 | c::r=>lv c.b c.s*pw r
theorem zfL:∀(s:Say)(b:Bool),1≤lv b s
 | .yes,_=>Nat.le_refl 1
 | .no,_=>Nat.le_refl 1
 | .name _,_=>Nat.le_refl 1
 | .not a,b=>zfL a (!b)
 | .and a c,b=>by
  have h1:=zfL a b;have h2:=zfL c b
  cases b
  ·exact Nat.le_trans h1 (Nat.le_add_right _ _)
  ·exact Nat.mul_le_mul h1 h2
 | .or a c,b=>by
  have h1:=zfL a b;have h2:=zfL c b
  cases b
  ·exact Nat.mul_le_mul h1 h2
  ·exact Nat.le_trans h1 (Nat.le_add_right _ _)
theorem zlG:∀ cs:List Cl,1≤pw cs
 | []=>Nat.le_refl 1
 | c::r=>Nat.mul_le_mul (zfL c.s c.b) (zlG r)
theorem zlI:∀ a b:List Cl,pw (a++b)=pw a*pw b
 | [],b=>(Nat.one_mul _).symm
 | c::a,b=>by show lv c.b c.s*pw (a++b)=lv c.b c.s*pw a*pw b;rw [zlI a b,Nat.mul_assoc]
theorem zlH{c:Cl}:∀{cs:List Cl},c∈cs→pw (ers c cs)*lv c.b c.s=pw cs
 | x::cs,h=>by
  show pw (bif c.beq x then cs else x::ers c cs)*lv c.b c.s=lv x.b x.s*pw cs
  cases q:c.beq x with
  | true=>rw [Cl.eq_of q];exact Nat.mul_comm _ _
  | false=>
   have hm:c∈cs:=(List.mem_cons.mp h).resolve_left fun e=>by rw [e,Cl.beq_self] at q;cases q
   show lv x.b x.s*pw (ers c cs)*lv c.b c.s=_
   rw [Nat.mul_assoc,zlH hm]
theorem zne{c:Cl}(h:c.kd="apart"):pw c.come=lv c.b c.s:=zfp (P:=fun c=>pw c.come=lv c.b c.s) h (fun _ _ _=>Nat.mul_one _) (fun _ _ _=>congrArg (_*·) (Nat.mul_one _)) (fun _ _ _=>congrArg (_*·) (Nat.mul_one _))
theorem zoT{c:Cl}(h:c.kd="fork"):pw (c.come.take 1)+pw (c.come.drop 1)=lv c.b c.s:=by
 refine zdW (P:=fun c=>pw (c.come.take 1)+pw (c.come.drop 1)=lv c.b c.s) h (fun n a d=>?_) (fun n a d=>?_)
 ·show lv false a*1+lv false d*1=lv false a+lv false d;rw [Nat.mul_one,Nat.mul_one]
 ·show lv true a*1+lv true d*1=lv true a+lv true d;rw [Nat.mul_one,Nat.mul_one]
structure Cm (c x:Cl):Prop where
 n:x.n=c.n
 nm:∀ y∈x.s.nms,y∈c.s.nms
 ok:c.s.Ok→x.s.Ok
theorem zd1{c x:Cl}(h:x∈c.come):Cm c x:=by
 obtain ⟨n,b,s⟩:=c
 cases s with
 | not a=>rw [List.mem_singleton.mp h];exact ⟨rfl,fun _ h=>h,id⟩
 | and a d=>
  rcases List.mem_cons.mp h with rfl | h
  ·exact ⟨rfl,fun y hy=>List.mem_append_left _ hy,And.left⟩
  ·rw [List.mem_singleton.mp h];exact ⟨rfl,fun y hy=>List.mem_append_right _ hy,And.right⟩
 | or a d=>
  rcases List.mem_cons.mp h with rfl | h
  ·exact ⟨rfl,fun y hy=>List.mem_append_left _ hy,And.left⟩
  ·rw [List.mem_singleton.mp h];exact ⟨rfl,fun y hy=>List.mem_append_right _ hy,And.right⟩
 | _=>exact nomatch h
theorem zkD{c:Cl}{f:Str→Bool}(h:c.kd="apart"):c.s.tv f=c.b→Holds f c.come:=by
 refine zfp (P:=fun c=>c.s.tv f=c.b→Holds f c.come) h (fun n b a=>?_) (fun n a d=>?_) (fun n a d=>?_)
 ·intro (e:(!(a.tv f))=b) x hx
  rw [List.mem_singleton.mp hx]
  show a.tv f=!b
  rw [← e,Bool.not_not]
 ·intro (e:(a.tv f&&d.tv f)=true)
  have e:=Bool.and_eq_true_iff.mp e
  exact zas (P:=fun x:Cl=>x.s.tv f=x.b) (l:=[⟨n,true,a⟩,⟨n,true,d⟩]) ⟨e.1,e.2,trivial⟩
 ·intro (e:(a.tv f || d.tv f)=false)
  have e:=Bool.or_eq_false_iff.mp e
  exact zas (P:=fun x:Cl=>x.s.tv f=x.b) (l:=[⟨n,false,a⟩,⟨n,false,d⟩]) ⟨e.1,e.2,trivial⟩
theorem zhJ{c:Cl}{f:Str→Bool}(h:c.kd="fork"):c.s.tv f=c.b→Holds f (c.come.take 1)∨Holds f (c.come.drop 1):=by
 refine zdW (P:=fun c=>c.s.tv f=c.b→Holds f (c.come.take 1)∨Holds f (c.come.drop 1)) h (fun n a d=>?_) (fun n a d=>?_)
 ·intro (e:(a.tv f&&d.tv f)=false)
  exact (Bool.and_eq_false_iff.mp e).imp (fun z=>zas (P:=fun x:Cl=>x.s.tv f=x.b) (l:=[⟨n,false,a⟩]) ⟨z,trivial⟩) fun z=>zas (P:=fun x:Cl=>x.s.tv f=x.b) (l:=[⟨n,false,d⟩]) ⟨z,trivial⟩
 ·intro (e:(a.tv f || d.tv f)=true)
  exact ((Bool.or_eq_true _ _).mp e).imp (fun z=>zas (P:=fun x:Cl=>x.s.tv f=x.b) (l:=[⟨n,true,a⟩]) ⟨z,trivial⟩) fun z=>zas (P:=fun x:Cl=>x.s.tv f=x.b) (l:=[⟨n,true,d⟩]) ⟨z,trivial⟩
structure Itp (k:Nat) (cs:List Cl) (s:Say):Prop where
 ok:s.Ok
 a:∀ f,(∀ c∈cs,c.n<k→c.s.tv f=c.b)→s.tv f=true
 b:∀ f,(∀ c∈cs,¬ c.n<k→c.s.tv f=c.b)→s.tv f=false
 na:∀ x∈s.nms,∃ c∈cs,c.n<k∧x∈c.s.nms
 nb:∀ x∈s.nms,∃ c∈cs,¬ c.n<k∧x∈c.s.nms
 dep:s.dep≤tsz cs+1
 sz:s.sz+1≤3*pw cs
theorem zph{k:Nat}{cs:List Cl}{c:Cl}(hc:c∈cs) (hno:∀ f,(∀ d∈cs,(d.n<k↔c.n<k)→d.s.tv f=d.b)→False):Itp k cs (bif decide (c.n<k) then .no else .yes):=by
 have hp:=zlG cs
 by_cases q:c.n<k
 ·rw [decide_eq_true q]
  exact ⟨trivial,fun f h=>(hno f fun d hd e=>h d hd (e.mpr q)).elim,fun _ _=>rfl,fun x h=>(nomatch h),fun x h=>(nomatch h),Nat.le_add_left _ _,show 2≤_ by lia⟩
 ·rw [decide_eq_false q]
  exact ⟨trivial,fun _ _=>rfl,fun f h=>(hno f fun d hd e=>h d hd fun z=>q (e.mp z)).elim,fun x h=>(nomatch h),fun x h=>(nomatch h),Nat.le_add_left _ _,show 2≤_ by lia⟩
theorem zoc(n k:Nat):zac .Lt (.int (n:Int)) (.int (k:Int))=M.ret (.bool (decide (n<k))):=tr (c_lt _ _) (b_eq (decide_eq_decide.mpr Int.ofNat_lt))
theorem num1{w:PV}{c:Cl}{l:List PV}{k:Nat}:(((zaf (.tup (w::c.pv::l)) (.int 1)).bind fun v4=>(zaf v4 (.int 0))).bind fun v5=>(zac .Lt v5 (.int (k:Int))))=M.ret (.bool (decide (c.n<k))):=tr (bd (tr (bd (ix_1 _ _ _)) (ix_0 _ _))) (zoc _ _)
theorem num2{w v:PV}{c:Cl}{l:List PV}{k:Nat}:(((zaf (.tup (w::v::c.pv::l)) (.int 2)).bind fun v4=>(zaf v4 (.int 0))).bind fun v5=>(zac .Lt v5 (.int (k:Int))))=M.ret (.bool (decide (c.n<k))):=tr (bd (tr (bd (ix_2 _ _ _ _)) (ix_0 _ _))) (zoc _ _)
theorem zqn(b:Bool):ifM (M.ret (.bool b)) (M.ret (.tup [(.str "no")])) (M.ret (.tup [(.str "yes")]))=M.ret (bif b then Say.no else .yes).pv:=by cases b <;> rfl
noncomputable def clS(k:Nat)(c o:Cl):Say:=bif decide (c.n<k)==decide (o.n<k) then (bif decide (c.n<k) then .no else .yes) else bif decide (c.n<k) then c.s else .not c.s
theorem of_clash{c o:Cl}{k d:Nat}{md:Md}(hd:0<d):zah GG d md AA.of_clash [.tup [.str "clash",c.pv,o.pv],.int (k:Int)]=M.ret (clS k c o).pv:=by
 obtain ⟨e,rfl⟩:∃ e,d=e+1:=⟨d-1,by lia⟩
 refine zaj (tr (zke _ _ _ _) (tr (bd num1) (tr (if_b (tr (bd num2) (zpz _ _))) ?_)))
 have h:((zaf (.tup [.str "clash",c.pv,o.pv]) (.int 1)).bind fun v9=>(zaf v9 (.int 2)))=M.ret c.s.pv:=tr (bd (ix_1 _ _ _)) (ix_2 _ _ _ _)
 unfold clS
 cases decide (c.n<k) with
 | true=>cases decide (o.n<k) with
  | true=>rfl
  | false=>exact h
 | false=>cases decide (o.n<k) with
  | true=>exact tr (c_f rfl) (tr (if_f rfl) (bd (a:=[.str "not",c.s.pv]) (sq2 rfl h)))
  | false=>rfl
theorem zmg{k:Nat}{cs:List Cl}{c o:Cl}(hc:c∈cs)(ho:o∈cs)(h:clsh c o=true)(ok:c.s.Ok):Itp k cs (clS k c o):=by
 have h1:=Bool.and_eq_true_iff.mp h
 have h2:=Bool.and_eq_true_iff.mp h1.2
 have h3:=Bool.and_eq_true_iff.mp h2.2
 have es:c.s=o.s:=zen _ _ h3.2
 have eo:o.b=false:=by cases q:o.b with
  | true=>rw [q] at h3;exact nomatch h3.1
  | false=>rfl
 have hp:=zlG cs
 have hz:=zkT hc
 obtain ⟨x,hx⟩:∃ x,c.s=.name x:=by
  cases q:c.s with
  | name x=>exact ⟨x,rfl⟩
  | _=>rw [q] at h1;exact nomatch h1.1
 have hz:1≤tsz cs:=by rw [hx] at hz;exact hz
 have hox:o.s=.name x:=es▸hx
 have hcn:x∈c.s.nms:=by rw [hx];exact .head _
 have hon:x∈o.s.nms:=by rw [hox];exact .head _
 unfold clS
 by_cases q1:c.n<k
 ·by_cases q2:o.n<k
  ·rw [decide_eq_true q2]
   have:=zph (k:=k) hc fun f hf=>by
    have e1:=hf c hc Iff.rfl
    have e2:=hf o ho ⟨fun _=>q1,fun _=>q2⟩
    rw [← es,e1,h2.1,eo] at e2;cases e2
   rwa [decide_eq_true q1] at this ⊢
  ·rw [decide_eq_true q1,decide_eq_false q2]
   show Itp k cs c.s
   refine ⟨ok,fun f hf=>(hf c hc q1).trans h2.1,fun f hf=>es▸(hf o ho q2).trans eo,?_,?_,by rw [hx];exact Nat.le_succ_of_le hz,by rw [hx];show 2≤_;lia⟩
   ·exact fun y hy=>⟨c,hc,q1,hy⟩
   ·exact fun y hy=>⟨o,ho,q2,es▸hy⟩
 ·by_cases q2:o.n<k
  ·rw [decide_eq_false q1,decide_eq_true q2]
   show Itp k cs (.not c.s)
   refine ⟨ok,fun f hf=>?_,fun f hf=>?_,?_,?_,by rw [hx];show 2≤_;lia,by rw [hx];show 3≤_;lia⟩
   ·show (!(c.s.tv f))=true
    rw [es,hf o ho q2,eo];rfl
   ·show (!(c.s.tv f))=false
    rw [hf c hc q1,h2.1];rfl
   ·exact fun y hy=>⟨o,ho,q2,es▸hy⟩
   ·exact fun y hy=>⟨c,hc,q1,hy⟩
  ·rw [decide_eq_false q2]
   have:=zph (k:=k) hc fun f hf=>by
    have e1:=hf c hc Iff.rfl
    have e2:=hf o ho ⟨fun z=>(q2 z).elim,fun z=>(q1 z).elim⟩
    rw [← es,e1,h2.1,eo] at e2;cases e2
   rwa [decide_eq_false q1] at this ⊢
theorem zbU{P:Nat→Prop}{cs l:List Cl}{c:Cl}{x:Str}(hc:c∈cs)(hl:∀ y∈l,y∈c.come)(h:∃ d∈ers c cs++l,P d.n∧x∈d.s.nms):∃ d∈cs,P d.n∧x∈d.s.nms:=by
 obtain ⟨d,hd,hn,hx⟩:=h
 rcases List.mem_append.mp hd with hd | hd
 ·exact ⟨d,zcb hd,hn,hx⟩
 ·have m:=zd1 (hl d hd)
  exact ⟨c,hc,m.n▸hn,m.nm x hx⟩
theorem zmh{k:Nat}{cs:List Cl}{c:Cl}{s:Say}(hc:c∈cs)(hk:c.kd="apart")(h:Itp k (ers c cs++c.come) s):Itp k cs s:=by
 have key:∀(P:Nat→Prop)(f:Str→Bool),(∀ d∈cs,P d.n→d.s.tv f=d.b)→∀ d∈ers c cs++c.come,P d.n→d.s.tv f=d.b:=fun P f hf d hd hp=>(List.mem_append.mp hd).elim (fun z=>hf d (zcb z) hp) fun z=>zkD hk (hf c hc ((zd1 z).n▸hp)) d z
 obtain ⟨hs1,_⟩:=zfW hc
 have hcs:=zfd (.inl hk)
 have hd:=h.dep;have hz:=h.sz
 rw [zcl] at hd
 rw [zlI,zne hk,zlH hc] at hz
 exact ⟨h.ok,fun f hf=>h.a f (key (·<k) f hf),fun f hf=>h.b f (key (fun n=>¬ n<k) f hf),fun x hx=>zbU (P:=(·<k)) hc (fun _ h=>h) (h.na x hx),fun x hx=>zbU (P:=fun n=>¬ n<k) hc (fun _ h=>h) (h.nb x hx),by lia,hz⟩
theorem znB{k:Nat}{cs:List Cl}{c:Cl}{s t:Say}(hc:c∈cs)(hk:c.kd="fork")(h:Itp k (ers c cs++c.come.take 1) s)(h':Itp k (ers c cs++c.come.drop 1) t):Itp k cs (bin (decide (c.n<k)) s t):=by
 have m1:∀ y∈c.come.take 1,y∈c.come:=fun _ h=>List.mem_of_mem_take h
 have m2:∀ y∈c.come.drop 1,y∈c.come:=fun _ h=>List.mem_of_mem_drop h
 have same:∀(P:Nat→Prop)(f:Str→Bool)(l:List Cl),(∀ y∈l,y∈c.come)→¬ P c.n→(∀ d∈cs,P d.n→d.s.tv f=d.b)→∀ d∈ers c cs++l,P d.n→d.s.tv f=d.b:=fun P f l hl hn hf d hd hp=>(List.mem_append.mp hd).elim (fun z=>hf d (zcb z) hp) fun z=>(hn ((zd1 (hl d z)).n▸hp)).elim
 have one:∀(P:Nat→Prop)(f:Str→Bool)(l:List Cl),(∀ d∈cs,P d.n→d.s.tv f=d.b)→Holds f l→∀ d∈ers c cs++l,P d.n→d.s.tv f=d.b:=fun P f l hf hl d hd hp=>(List.mem_append.mp hd).elim (fun z=>hf d (zcb z) hp) fun z=>hl d z
 obtain ⟨hs1,_⟩:=zfW hc
 have hcs:=zfd (.inr hk)
 have t1:=zbR c.come 1
 have hd:=h.dep;have hz:=h.sz;have hd':=h'.dep;have hz':=h'.sz
 rw [zcl] at hd hd'
 rw [zlI] at hz hz'
 have hpw:pw (ers c cs)*pw (c.come.take 1)+pw (ers c cs)*pw (c.come.drop 1)=pw cs:=by rw [← Nat.mul_add,zoT hk,zlH hc]
 have hlt:max s.dep t.dep+1≤tsz cs+1:=by
  have:0<c.s.sz:=by cases c.s <;> exact Nat.succ_pos _
  have hl:tsz (c.come.take 1)+1≤c.s.sz∧tsz (c.come.drop 1)+1≤c.s.sz:=by lia
  lia
 have hsz:s.sz+t.sz+1+1≤3*pw cs:=by lia
 have na:∀ x,x∈s.nms++t.nms→∃ c∈cs,c.n<k∧x∈c.s.nms:=fun x hx=>(List.mem_append.mp hx).elim (fun z=>zbU (P:=(·<k)) hc m1 (h.na x z)) fun z=>zbU (P:=(·<k)) hc m2 (h'.na x z)
 have nb:∀ x,x∈s.nms++t.nms→∃ c∈cs,¬ c.n<k∧x∈c.s.nms:=fun x hx=>(List.mem_append.mp hx).elim (fun z=>zbU (P:=fun n=>¬ n<k) hc m1 (h.nb x z)) fun z=>zbU (P:=fun n=>¬ n<k) hc m2 (h'.nb x z)
 by_cases q:c.n<k
 ·rw [decide_eq_true q]
  refine ⟨⟨h.ok,h'.ok⟩,fun f hf=>?_,fun f hf=>?_,na,nb,hlt,hsz⟩
  ·show (s.tv f || t.tv f)=true
   rcases zhJ hk (hf c hc q) with z | z
   ·rw [h.a f (one (·<k) f _ hf z)];rfl
   ·rw [h'.a f (one (·<k) f _ hf z),Bool.or_true]
  ·show (s.tv f || t.tv f)=false
   rw [h.b f (same (fun n=>¬ n<k) f _ m1 (fun z=>z q) hf),h'.b f (same (fun n=>¬ n<k) f _ m2 (fun z=>z q) hf)];rfl
 ·rw [decide_eq_false q]
  refine ⟨⟨h.ok,h'.ok⟩,fun f hf=>?_,fun f hf=>?_,na,nb,hlt,hsz⟩
  ·show (s.tv f&&t.tv f)=true
   rw [h.a f (same (·<k) f _ m1 q hf),h'.a f (same (·<k) f _ m2 q hf)];rfl
  ·show (s.tv f&&t.tv f)=false
   rcases zhJ hk (hf c hc q) with z | z
   ·rw [h.b f (one (fun n=>¬ n<k) f _ hf z)];rfl
   ·rw [h'.b f (one (fun n=>¬ n<k) f _ hf z),Bool.and_false]
theorem of_tree{cs:List Cl}{t:PV}(k:Nat)(h:Std cs t):(∀ c∈cs,c.s.Ok)→∃ s,Itp k cs s∧∀ md d,tsz cs+3<d→zah GG d md AA.of_tree [t,.int (k:Int)]=M.ret s.pv:=by
 induction h with
 | @shut cs c hc hk=>
  intro ok
  refine ⟨_,zph (k:=k) hc fun f hf=>zoP hk f (hf c hc Iff.rfl),fun md d hd=>?_⟩
  obtain ⟨e,rfl⟩:∃ e,d=e+1:=⟨d-1,by lia⟩
  exact zaj (tr (zdf _ _ _ _) (tr (if_f (tr (bd (ix_0 _ _)) (by kernel_rfl))) (tr (bd num1) (tr (if_t (tr (bd (ix_0 _ _)) (by kernel_rfl))) (zqn _)))))
 | @clash cs c o hc ho hq=>
  intro ok
  refine ⟨_,zmg (k:=k) hc ho hq (ok c hc),fun md d hd=>?_⟩
  obtain ⟨e,rfl⟩:∃ e,d=e+1:=⟨d-1,by lia⟩
  exact zaj (tr (zdf _ _ _ _) (tr (if_t (tr (bd (ix_0 _ _)) (by kernel_rfl))) (of_clash (by lia))))
 | @apart cs c t hc hk ht ih=>
  intro ok
  obtain ⟨s,I,e1⟩:=ih fun x hx=>(List.mem_append.mp hx).elim (fun z=>ok x (zcb z)) fun z=>(zd1 z).ok (ok c hc)
  obtain ⟨hs1,_⟩:=zfW hc
  have hcs:=zfd (.inl hk)
  refine ⟨s,zmh hc hk I,fun md d hd=>?_⟩
  obtain ⟨e,rfl⟩:∃ e,d=e+1:=⟨d-1,by lia⟩
  exact zaj (tr (zdf _ _ _ _) (tr (if_f (tr (bd (ix_0 _ _)) (by kernel_rfl))) (tr (bd num1) (tr (if_f (tr (bd (ix_0 _ _)) (by kernel_rfl))) (tr (if_t (tr (bd (ix_0 _ _)) (by kernel_rfl))) (tr (bd (sq2 (ix_2 _ _ _ _) rfl)) (e1 md e (by rw [zcl];lia))))))))
 | @fork cs c t u hc hk ht hu ih1 ih2=>
  intro ok
  obtain ⟨s1,I1,e1⟩:=ih1 fun x hx=>(List.mem_append.mp hx).elim (fun z=>ok x (zcb z)) fun z=>(zd1 (List.mem_of_mem_take z)).ok (ok c hc)
  obtain ⟨s2,I2,e2⟩:=ih2 fun x hx=>(List.mem_append.mp hx).elim (fun z=>ok x (zcb z)) fun z=>(zd1 (List.mem_of_mem_drop z)).ok (ok c hc)
  obtain ⟨hs1,_⟩:=zfW hc
  have hcs:=zfd (.inr hk)
  have t1:=zbR c.come 1
  refine ⟨_,znB hc hk I1 I2,fun md d hd=>?_⟩
  obtain ⟨e,rfl⟩:∃ e,d=e+1:=⟨d-1,by lia⟩
  have w:∀ b:Bool,(ifM (M.ret (.bool b)) (M.ret (PV.str "or")) (M.ret (PV.str "and")))=M.ret (PV.str (bif b then "or" else "and")):=fun b=>by cases b <;> rfl
  have p:∀ b:Bool,PV.tup [.str (bif b then "or" else "and"),s1.pv,s2.pv]=(bin b s1 s2).pv:=fun b=>by cases b <;> rfl
  exact zaj (tr (zdf _ _ _ _) (tr (if_f (tr (bd (ix_0 _ _)) (by kernel_rfl))) (tr (bd num1) (tr (if_f (tr (bd (ix_0 _ _)) (by kernel_rfl))) (tr (if_f (tr (bd (ix_0 _ _)) (by kernel_rfl))) (tr (bd (w _)) (tr (bd (sq3 rfl (tr (bd (sq2 (ix_2 _ _ _ _) rfl)) (e1 md e (by rw [zcl];lia))) (tr (bd (sq2 (show zaf (.tup [.str "fork",c.pv,t,u]) (.int 3)=M.ret u from zhF (k:=3) rfl (by decide)) rfl)) (e2 md e (by rw [zcl];lia))))) (congrArg M.ret (p _)))))))))
theorem zob(a c:Say)(n m:Nat)(h1:2*n+1≤a.sz)(h3:2*m+1≤c.sz)(x:Nat)(h2:x≤2 ^ n){y:Nat}(h4:y≤2 ^ m)(z:Nat)(hz:z=x*y∨z=x+y):∃ k,2*k+1≤a.sz+c.sz+1∧z≤2 ^ k:=by
 refine ⟨n+m+1,by lia,?_⟩
 have e:2 ^ (n+m+1)=2*(2 ^ n*2 ^ m):=by rw [Nat.pow_succ,Nat.pow_add,Nat.mul_comm]
 have p1:1≤2 ^ n:=Nat.one_le_two_pow
 have p2:1≤2 ^ m:=Nat.one_le_two_pow
 have q1:2 ^ n≤2 ^ n*2 ^ m:=Nat.le_mul_of_pos_right _ p2
 have q2:2 ^ m≤2 ^ n*2 ^ m:=Nat.le_mul_of_pos_left _ p1
 rcases hz with rfl | rfl
 ·have:=Nat.mul_le_mul h2 h4;lia
 ·lia
theorem ziv:∀(s:Say)(b:Bool),∃ n,2*n+1≤s.sz∧lv b s≤2 ^ n
 | .yes,_=>⟨0,Nat.le_refl 1,Nat.le_refl 1⟩
 | .no,_=>⟨0,Nat.le_refl 1,Nat.le_refl 1⟩
 | .name _,_=>⟨0,Nat.le_refl 1,Nat.le_refl 1⟩
 | .not a,b=>(ziv a (!b)).imp fun n h=>⟨Nat.le_succ_of_le h.1,h.2⟩
 | .and a c,b=>by
  obtain ⟨n,h1,h2⟩:=ziv a b
  obtain ⟨m,h3,h4⟩:=ziv c b
  exact zob a c n m h1 h3 _ h2 h4 _ (by cases b with
   | false=>exact .inr rfl
   | true=>exact .inl rfl)
 | .or a c,b=>by
  obtain ⟨n,h1,h2⟩:=ziv a b
  obtain ⟨m,h3,h4⟩:=ziv c b
  exact zob a c n m h1 h3 _ h2 h4 _ (by cases b with
   | false=>exact .inl rfl
   | true=>exact .inr rfl)
theorem zjd{s:Say}{d:Nat}{r:Bool}(ok:s.Ok)(hs:s.dep≤100)(hd:120<d):zah GG d ⟨r,true⟩ AA.need_saying [s.pv]=M.ret .none:=by
 obtain ⟨e,rfl⟩:∃ e,d=e+2:=⟨d-2,by lia⟩
 exact zoW ⟨r,true⟩ _ e (tr (zaK ⟨r,true⟩ rfl s 100 e ok (by lia)) (b_eq (decide_eq_true hs)))
structure Btw (a b m:Say):Prop where
 ok:m.Ok
 dep:m.dep≤100
 sz:m.sz≤1000000000000
 fa:∀ f,a.tv f=true→m.tv f=true
 fb:∀ f,b.tv f=false→m.tv f=false
 na:∀ x∈m.nms,x∈a.nms
 nb:∀ x∈m.nms,x∈b.nms
theorem zng{a b:Say}(ha:a.Ok)(hb:b.Ok)(hz:a.sz+b.sz≤59):Row [a,.not b]:=by
 have h1:=zbY a;have h2:=zbY b
 exact ⟨zas ⟨ha,hb,trivial⟩,zas ⟨by lia,by show b.dep+1≤100;lia,trivial⟩,show 1≤2 by decide,show 2≤6 by decide,by show a.sz+(b.sz+1+0)≤60;lia⟩
theorem zpi{a b s:Say}(hz:a.sz+b.sz≤59)(h:Itp 1 (bg 0 [a,.not b]) s):Btw a b (nt s):=by
 have g:=ze3 s h.ok
 have hd:s.dep≤a.sz+(b.sz+1+0)+1:=h.dep
 have hp:s.sz+1≤3*(lv true a*(lv false b*1)):=h.sz
 obtain ⟨n,h1,h2⟩:=ziv a true
 obtain ⟨m,h3,h4⟩:=ziv b false
 have h5:lv true a*lv false b≤2 ^ 28:=Nat.le_trans (Nat.mul_le_mul h2 h4) (by rw [← Nat.pow_add];exact Nat.pow_le_pow_right (by decide) (by lia))
 rw [Nat.mul_one] at hp
 have gd:=g.dep;have gz:=g.sz
 refine ⟨g.ok,by lia,by lia,fun f hf=>?_,fun f hf=>?_,fun x hx=>?_,fun x hx=>?_⟩
 ·rw [zh9]
  exact h.a f (zas (P:=fun c:Cl=>c.n<1→c.s.tv f=c.b) (l:=[⟨0,true,a⟩,⟨1,true,.not b⟩]) ⟨fun _=>hf,fun z=>absurd z (show ¬ (1<1) by decide),trivial⟩)
 ·rw [zh9]
  exact h.b f (zas (P:=fun c:Cl=>¬ c.n<1→c.s.tv f=c.b) (l:=[⟨0,true,a⟩,⟨1,true,.not b⟩]) ⟨fun z=>absurd (show 0<1 by decide) z,fun _=>(show (!(b.tv f))=true by rw [hf];rfl),trivial⟩)
 ·obtain ⟨c,hc,hn,hm⟩:=h.na x (g.nm x hx)
  rcases List.mem_cons.mp hc with rfl | hc
  ·exact hm
  ·rw [List.mem_singleton.mp (show c∈[(⟨1,true,.not b⟩:Cl)] from hc)] at hn;exact absurd hn (show ¬ (1<1) by decide)
 ·obtain ⟨c,hc,hn,hm⟩:=h.nb x (g.nm x hx)
  rcases List.mem_cons.mp hc with rfl | hc
  ·exact absurd (show 0<1 by decide) hn
  ·rw [List.mem_singleton.mp (show c∈[(⟨1,true,.not b⟩:Cl)] from hc)] at hm;exact hm
noncomputable def Lead(a b:Say)(σ:zab)(w:PV):Prop:=(∃ m:Say,w=.tup [.str "between",m.pv]∧NtW m∧Btw a b m)∨∃ j kvs,w=.tup [.str "setting",.ref j]∧Tld [a,.not b] σ j kvs
theorem middle{rs:List Say}{t:PV}{d:Nat}{r:Bool}(hd:260<d)(R:Row rs)(h:Std (bg 0 rs) t):∃ s,Itp 1 (bg 0 rs) s∧zah GG d ⟨r,true⟩ AA.middle [rpv rs,t,.int 1]=M.ret s.pv:=by
 obtain ⟨e,rfl⟩:∃ e,d=e+2:=⟨d-2,by lia⟩
 obtain ⟨s,I,es⟩:=of_tree 1 h fun c hc=>R.ok _ (zjC hc)
 have hz:=R.sz;have h6:=R.hi;have h1:=R.lo
 have hlm:(rs.map Say.pv).length=rs.length:=List.length_map _
 have nt:zah GG (e+1) ⟨r,true⟩ AA.need_tree [rpv rs,t]=M.ret .none:=zaj (tr (zit _ _ _ _) (tr (bd (need_row (by lia) R)) (if_f (zcf (zkn (by lia) R h)))))
 have ch:((zac .LtE (.int 0) (.int 1)).bind fun v4=>(zap v4).bind fun v5=>M.cond v5 ((biM ⟨r,true⟩ false "len" [rpv rs]).bind fun v6=>(zac .LtE (.int 1) v6)) (M.ret v4))=M.ret (.bool true):=
  tr (bd (show zac .LtE (.int 0) (.int 1)=M.ret (.bool true) from rfl)) (tr (bd (tr_b _)) (tr (bd (zdP (xs:=rs.map Say.pv) (by lia))) (tr (c_le _ _) (b_eq (decide_eq_true (by rw [hlm];lia))))))
 exact ⟨s,I,zaj (tr (znn _ _ _ _ _) (tr (bd nt) (tr (if_f (tr (or_f (zcf (b:=true) (zaj (zg2 _ _ _)))) (zcf ch))) (es ⟨r,true⟩ (e+1) (by rw [ziO];lia)))))⟩
noncomputable def ldK(C:zad)(v0 v7 v8:PV):M PV:=(ifM (zac .Eq v7 (.str "setting"))
   (M.ret (.tup [v7,v8]))
   ((seqM [(M.ret (.str "between")),((seqM [(C ⟨true,true⟩ AA.middle [v0,v8,(.int 1)])]).bind fun v9=>(C ⟨true,true⟩ AA.neatly v9))]).bind fun v10=>(M.ret (.tup v10))))
theorem big{e:Nat}(k:Nat)(h:300≤e)(hk:k<300:=by decide):k<e:=Nat.lt_of_lt_of_le hk h
theorem leads{a b:Say}{d:Nat}(ha:a.Ok)(hb:b.Ok)(hz:a.sz+b.sz≤59)(hd:300<d)(σ:zab):∃ w τ,zah GG d ⟨true,true⟩ AA.leads [a.pv,b.pv] σ=.ok w (σ++τ)∧Lead a b (σ++τ) w:=by
 obtain ⟨e,rfl⟩:∃ e,d=e+1:=⟨d-1,(Nat.sub_add_cancel (Nat.le_trans (by decide) hd)).symm⟩
 have he:300≤e:=Nat.le_of_lt_succ hd
 have z1:a.sz≤59:=Nat.le_trans (Nat.le_add_right _ _) hz
 have z2:b.sz≤59:=Nat.le_trans (Nat.le_add_left _ _) hz
 have d1:=Nat.le_trans (zbY a) z1
 have d2:=Nat.le_trans (zbY b) z2
 have R:=zng ha hb hz
 obtain ⟨w,τ,ew,hw⟩:=shut (d:=e) (big 250 he) R σ
 have sz:∀{s:Say},s.sz≤59→s.dep≤59→zah GG e ⟨true,true⟩ AA.size_in [s.pv]=M.ret (.int s.sz):=fun {s} h h'=>size_in s ⟨true,true⟩ e rfl (Nat.lt_of_le_of_lt (Nat.succ_le_succ h') (big 60 he)) (Nat.le_trans h (by decide))
 have st:∀{rs:Rs PV},tup2 w (ldK (zah GG e) (rpv [a,.not b])) (σ++τ)=rs→zah GG (e+1) ⟨true,true⟩ AA.leads [a.pv,b.pv] σ=rs:=fun h=>
  at_ (zaj (zpc _ _ _ _)) (at_ (tr (bd (zjd ha (Nat.le_trans d1 (by decide)) (big 120 he))) (tr (bd (zjd hb (Nat.le_trans d2 (by decide)) (big 120 he))) (tr (if_f (tr (bd (tr (bd (sz z1 d1)) (tr (bd (sz z2 d2)) (add_int _ _ _)))) (show _=M.ret (PV.bool false) from b_eq (decide_eq_false (Int.not_lt.mpr (Int.ofNat_le.mpr hz)))))) (c_t rfl)))) (tr (zaa ew) h))
 rcases hw with ⟨t,rfl,ht⟩ | ⟨j,kvs,rfl,S⟩
 ·obtain ⟨s,I,es⟩:=middle (d:=e) (r:=true) (big 260 he) R ht
  have hds:s.dep≤a.sz+(b.sz+1+0)+1:=I.dep
  have hds:s.dep≤61:=Nat.le_trans hds (Nat.succ_le_succ (Nat.succ_le_succ hz))
  refine ⟨.tup [.str "between",(nt s).pv],τ,st ?_,.inl ⟨nt s,rfl,ntw s,zpi hz I⟩⟩
  show ldK (zah GG e) (rpv [a,.not b]) (.str "tree") t (σ++τ)=_
  unfold ldK
  exact at_ (tr (if_f (by kernel_rfl)) (bd (sq2 rfl (tr (bd (sq1 es)) (neatly s ⟨true,true⟩ e I.ok (Nat.lt_of_le_of_lt hds (by decide)) (Nat.lt_of_le_of_lt (Nat.succ_le_succ hds) (big 62 he))))))) rfl
 ·refine ⟨.tup [.str "setting",.ref j],τ,st ?_,.inr ⟨j,kvs,rfl,S⟩⟩
  show ldK (zah GG e) (rpv [a,.not b]) (.str "setting") (.ref j) (σ++τ)=_
  unfold ldK
  exact at_ (if_t (by kernel_rfl)) rfl
structure J (σ0 σ:zab) (acc done:List Nat) (n:Str):Prop where
 lst:σ[σ0.length]?=some (.list (acc.map .ref))
 old:∀ i,i<σ0.length→σ[i]?=σ0[i]?
 acc_:∀ i∈acc,i≠σ0.length∧∃ j∈done,∃ kvs b,σ0[j]?=some (.dict kvs)∧σ[i]?=some (.dict (dput n (.bool b) kvs))
 full:∀ j∈done,∀ kvs,σ0[j]?=some (.dict kvs)→∀ b,∃ i∈acc,σ[i]?=some (.dict (dput n (.bool b) kvs))
theorem zly{C:zad}{kk:PV→PV→PV→PV→PV→Option PV→Option PV→M PV}{v1 v2:PV}{v6 v7:Option PV}{σ:zab}{jm j:Nat}{acc:List Nat}{n:Str}{kvs:List (Str×PV)}(b:Bool) (hl:σ[jm]?=some (.list (acc.map .ref))) (hj:σ[j]?=some (.dict kvs)) (hk:kvs.length<900) (ha:acc.length<900) :
  ∃ σ',zba AA GG C ⟨true,true⟩ kk v1 v2 (.str n) (.ref jm) (.ref j) v6 v7 (.bool b) σ=kk v1 v2 (.str n) (.ref jm) (.ref j) (some (.bool b)) (some (.ref σ.length)) σ'∧σ'[jm]?=some (.list ((acc++[σ.length]).map .ref))∧(∀ i,i<σ.length→i≠jm→σ'[i]?=σ[i]?)∧σ'[σ.length]?=some (.dict (dput n (.bool b) kvs))∧σ'.length=σ.length+1:=by
 have hjm:=(List.getElem?_eq_some_iff.mp hl).1
 have hne:jm≠σ.length:=by lia
 refine ⟨(σ++[Cel.dict (dput n (.bool b) kvs)]).set jm (Cel.list (acc.map PV.ref++[PV.ref σ.length])),?_,?_,fun i hi hn=>?_,?_,?_⟩
 ·refine tr (zaa (zpF hj (by exact Nat.le_trans ‹_› (by decide)))) (tr (zaa (zev zaN (by exact Nat.le_trans ‹_› (by decide)))) ?_)
  rw [zdb]
  exact tr (zaa (zqX (ze2 hl) (by rw [List.length_map];exact Nat.le_trans ‹_› (by decide)))) rfl
 ·rw [List.getElem?_set_self (by rw [List.length_append];exact Nat.lt_succ_of_lt ‹_›),List.map_append];rfl
 ·rw [List.getElem?_set_ne hn.symm,List.getElem?_append_left hi]
 ·rw [List.getElem?_set_ne hne,zaN]
 ·rw [List.length_set,List.length_append];rfl
theorem zlx{C:zad}{kk:PV→PV→Option PV→Option PV→Option PV→Option PV→Option PV→M PV}{v1 v2:PV}{n:Str}{σ0:zab}:∀(src acc done:List Nat)(σ:zab)(v5 v6 v7:Option PV),J σ0 σ acc done n→(∀ j∈src,∃ kvs,σ0[j]?=some (.dict kvs)∧kvs.length<900)→acc.length+2*src.length<500→
  ∃ σ' acc' v5' v6' v7',zao AA GG C ⟨true,true⟩ kk (M.ret ()) (src.map .ref) v1 v2 (.str n) (.ref σ0.length) v5 v6 v7 σ=zbv AA GG C ⟨true,true⟩ kk v1 v2 (.str n) (.ref σ0.length) v5' v6' v7' σ'∧J σ0 σ' acc' (done++src) n∧acc'.length=acc.length+2*src.length
 | [],acc,done,σ,v5,v6,v7,I,_,_=>⟨σ,acc,v5,v6,v7,rfl,by rw [List.append_nil];exact I,rfl⟩
 | j::src,acc,done,σ,v5,v6,v7,I,hs,hl=>by
  have hl:acc.length+2*(src.length+1)<500:=hl
  obtain ⟨kvs,hj0,hk⟩:=hs j (.head _)
  have hjl:=(List.getElem?_eq_some_iff.mp hj0).1
  have hml:=(List.getElem?_eq_some_iff.mp I.lst).1
  have hj:σ[j]?=some (.dict kvs):=by rw [I.old j hjl];exact hj0
  obtain ⟨σ1,e1,l1,o1,n1,len1⟩:=zly (C:=C) (kk:=zaA AA GG C ⟨true,true⟩ (zao AA GG C ⟨true,true⟩ kk (M.ret ()) (src.map .ref)) (M.ret ()) [.bool false]) (v1:=v1) (v2:=v2) (v6:=v6) (v7:=v7) (n:=n) true I.lst hj hk (by lia)
  have hj1:σ1[j]?=some (.dict kvs):=by rw [o1 j (by lia) (by lia)];exact hj
  obtain ⟨σ2,e2,l2,o2,n2,len2⟩:=zly (C:=C) (kk:=zaA AA GG C ⟨true,true⟩ (zao AA GG C ⟨true,true⟩ kk (M.ret ()) (src.map .ref)) (M.ret ()) []) (v1:=v1) (v2:=v2) (v6:=some (.bool true)) (v7:=some (.ref σ.length)) (n:=n) false l1 hj1 hk (by rw [List.length_append];show _+1<_;lia)
  have keep:∀ i,i<σ.length→i≠σ0.length→σ2[i]?=σ[i]?:=fun i hi hn=>(o2 i (by lia) hn).trans (o1 i hi hn)
  have m1:σ2[σ.length]?=some (.dict (dput n (.bool true) kvs)):=(o2 _ (by lia) (by lia)).trans n1
  have lt:∀ i∈acc,i<σ.length:=fun i hi=>by
   obtain ⟨_,_,_,_,_,_,h⟩:=I.acc_ i hi
   exact (List.getElem?_eq_some_iff.mp h).1
  have J2:J σ0 σ2 (acc++[σ.length]++[σ1.length]) (done++[j]) n:=by
   refine ⟨l2,fun i hi=>(keep i (by lia) (by lia)).trans (I.old i hi),fun i hi=>?_,fun k hk' kv hkv b=>?_⟩
   ·rcases List.mem_append.mp hi with h | h
    ·rcases List.mem_append.mp h with h | h
     ·obtain ⟨h1,k,hk1,kv,b,h2,h3⟩:=I.acc_ i h
      exact ⟨h1,k,List.mem_append_left _ hk1,kv,b,h2,(keep i (lt i h) h1).trans h3⟩
     ·rw [List.mem_singleton.mp h];exact ⟨by lia,j,List.mem_append_right _ (.head _),kvs,true,hj0,m1⟩
    ·rw [List.mem_singleton.mp h];exact ⟨by lia,j,List.mem_append_right _ (.head _),kvs,false,hj0,n2⟩
   ·rcases List.mem_append.mp hk' with h | h
    ·obtain ⟨i,hi,h2⟩:=I.full k h kv hkv b
     exact ⟨i,List.mem_append_left _ (List.mem_append_left _ hi),(keep i (lt i hi) (I.acc_ i hi).1).trans h2⟩
    ·rw [List.mem_singleton.mp h] at hkv
     rw [hj0] at hkv
     cases hkv
     cases b with
     | true=>exact ⟨σ.length,List.mem_append_left _ (List.mem_append_right _ (.head _)),m1⟩
     | false=>exact ⟨σ1.length,List.mem_append_right _ (.head _),n2⟩
  have hla:(acc++[σ.length]++[σ1.length]).length=acc.length+2:=by rw [List.length_append,List.length_append];rfl
  obtain ⟨σ',acc',v5',v6',v7',e3,I3,hl3⟩:=zlx (C:=C) (kk:=kk) (v1:=v1) (v2:=v2) src (acc++[σ.length]++[σ1.length]) (done++[j]) σ2 (some (.ref j)) (some (.bool false)) (some (.ref σ1.length)) J2 (fun i hi=>hs i (.tail _ hi)) (by lia)
  refine ⟨σ',acc',v5',v6',v7',?_,by rw [List.append_assoc] at I3;exact I3,by rw [hl3,hla];show _=acc.length+2*(src.length+1);lia⟩
  exact tr (show _=zba AA GG C ⟨true,true⟩ (zaA AA GG C ⟨true,true⟩ (zao AA GG C ⟨true,true⟩ kk (M.ret ()) (src.map .ref)) (M.ret ()) [.bool false]) v1 v2 (.str n) (.ref σ0.length) (.ref j) v6 v7 (.bool true) σ from rfl) (e1.trans (tr (show _=zba AA GG C ⟨true,true⟩ (zaA AA GG C ⟨true,true⟩ (zao AA GG C ⟨true,true⟩ kk (M.ret ()) (src.map .ref)) (M.ret ()) []) v1 v2 (.str n) (.ref σ0.length) (.ref j) (some (.bool true)) (some (.ref σ.length)) (.bool false) σ1 from rfl) (e2.trans (tr (show _=zao AA GG C ⟨true,true⟩ kk (M.ret ()) (src.map .ref) v1 v2 (.str n) (.ref σ0.length) (some (.ref j)) (some (.bool false)) (some (.ref σ1.length)) σ2 from rfl) e3))))
theorem zmp{σ:zab}{j:Nat}{xs:List PV}(h:σ[j]?=some (.list xs)):zhI (.ref j) σ=.ok (.lst xs) (σ.set j .dead):=tr (zaa (zl5 h)) rfl
noncomputable def V2(P:List Str)(m:Nat)(kvs:List (Str×PV)):Prop:=kvs.length≤m∧DOk kvs∧(∀ n∈P,Bl kvs n)∧∀ x,x∉P→dat kvs x=Option.none
theorem V2.put{P:List Str}{m:Nat}{kvs:List (Str×PV)}(h:V2 P m kvs)(n:Str)(b:Bool):V2 (n::P) (m+1) (dput n (.bool b) kvs):=by
 refine ⟨by have:=zgJ kvs n (.bool b);have:=h.1;lia,h.2.1.put n (zmq b),fun x hx=>Bl.put n b ((List.mem_cons.mp hx).imp id (h.2.2.1 x)),fun x hx=>?_⟩
 have hne:x≠n:=fun e=>hx (by rw [e];exact .head _)
 rw [zbw,if_neg hne]
 exact h.2.2.2 x fun q=>hx (.tail _ q)
structure Sv (σ:zab) (refs:List Nat) (P:List Str) (m:Nat):Prop where
 each:∀ j∈refs,∃ kvs,σ[j]?=some (.dict kvs)∧V2 P m kvs
 all:∀ g:Str→Bool,∃ j∈refs,∃ kvs,σ[j]?=some (.dict kvs)∧∀ n∈P,dat kvs n=some (.bool (g n))
theorem zhv{C:zad}{v1:PV}:∀(L P:List Str)(m:Nat)(refs:List Nat)(σ:zab)(v3 v4 v5 v6 v7:Option PV),Sv σ refs P m→refs.length*2 ^ L.length≤200→m+L.length<100→
  ∃(σ':zab)(refs':List Nat)(P':List Str),zav AA GG C ⟨true,true⟩ (M.ret ()) (L.map .str) v1 (.lst (refs.map .ref)) v3 v4 v5 v6 v7 σ=.ok (.lst (refs'.map .ref)) σ'∧refs'.length≤200∧Sv σ' refs' P' (m+L.length)∧(∀ x,x∈P'↔(x∈L∨x∈P))∧σ.length≤σ'.length∧∀ i,i<σ.length→σ'[i]?=σ[i]?
 | [],P,m,refs,σ,v3,v4,v5,v6,v7,h,hl,_=>⟨σ,refs,P,rfl,by have hl:refs.length*1≤200:=hl;lia,h,fun x=>⟨.inr,fun h=>h.elim (fun q=>absurd q List.not_mem_nil) id⟩,Nat.le_refl _,fun _ _=>rfl⟩
 | n::L,P,m,refs,σ,v3,v4,v5,v6,v7,h,hl,hm=>by
  have hm:m+(L.length+1)<100:=hm
  have hl:refs.length*2 ^ (L.length+1)≤200:=hl
  have hp:0<2 ^ L.length:=Nat.pow_pos (by decide)
  have hl1:(2*refs.length)*2 ^ L.length≤200:=by rw [Nat.mul_comm 2,Nat.mul_assoc,Nat.mul_comm 2,← Nat.pow_succ];exact hl
  have hr:2*refs.length≤200:=Nat.le_trans (Nat.le_mul_of_pos_right _ hp) hl1
  have I:J σ (σ++[.list []]) [] [] n:=⟨zaN,fun i hi=>List.getElem?_append_left hi,fun j hj=>absurd hj List.not_mem_nil,fun j hj=>absurd hj List.not_mem_nil⟩
  obtain ⟨σ1,acc,v5',v6',v7',e1,I1,hl2⟩:=zlx (C:=C) (kk:=zav AA GG C ⟨true,true⟩ (M.ret ()) (L.map .str)) (v1:=v1) (v2:=.lst (refs.map .ref)) refs [] [] (σ++[.list []]) v5 v6 v7 I (fun j hj=>(h.each j hj).imp fun _ q=>⟨q.1,by have:=q.2.1;lia⟩) (by show 0+_<_;lia)
  rw [List.nil_append] at I1
  have hl2:acc.length=0+2*refs.length:=hl2
  have hs:∀ i,i≠σ.length→(σ1.set σ.length .dead)[i]?=σ1[i]?:=fun i hi=>List.getElem?_set_ne hi.symm
  have S1:Sv (σ1.set σ.length .dead) acc (n::P) (m+1):=by
   refine ⟨fun i hi=>?_,fun g=>?_⟩
   ·obtain ⟨h1,j,hj,kvs,b,h2,h3⟩:=I1.acc_ i hi
    obtain ⟨kvs',h4,h5⟩:=h.each j hj
    rw [h2] at h4;cases h4
    exact ⟨_,(hs i h1).trans h3,h5.put n b⟩
   ·obtain ⟨j,hj,kvs,h1,h2⟩:=h.all g
    obtain ⟨i,hi,h3⟩:=I1.full j hj kvs h1 (g n)
    refine ⟨i,hi,_,(hs i (I1.acc_ i hi).1).trans h3,fun x hx=>?_⟩
    rw [zbw]
    by_cases e:x=n
    ·rw [if_pos e,e]
    ·rw [if_neg e];exact h2 x ((List.mem_cons.mp hx).resolve_left e)
  have hlen:σ.length<σ1.length:=(List.getElem?_eq_some_iff.mp I1.lst).1
  obtain ⟨σ2,refs',P',e2,hr2,S2,hP,hge,hk⟩:=zhv (C:=C) (v1:=v1) L (n::P) (m+1) acc (σ1.set σ.length .dead) (some (.str n)) (some (.ref σ.length)) v5' v6' v7' S1 (by rw [hl2,Nat.zero_add];exact hl1) (by lia)
  rw [List.length_set] at hge hk
  refine ⟨σ2,refs',P',?_,hr2,by rw [show m+(n::L).length=m+1+L.length by rw [List.length_cons];lia];exact S2,fun x=>(hP x).trans ⟨fun h=>h.elim (fun q=>.inl (.tail _ q)) fun q=>(List.mem_cons.mp q).elim (fun e=>.inl (e▸.head _)) .inr,fun h=>h.elim (fun q=>(List.mem_cons.mp q).elim (fun e=>.inr (e▸.head _)) .inl) fun q=>.inr (.tail _ q)⟩,by lia,fun i hi=>(hk i (by lia)).trans ((hs i (by lia)).trans (I1.old i hi))⟩
  exact tr (show _=zao AA GG C ⟨true,true⟩ (zav AA GG C ⟨true,true⟩ (M.ret ()) (L.map .str)) (M.ret ()) (refs.map .ref) v1 (.lst (refs.map .ref)) (.str n) (.ref σ.length) v5 v6 v7 (σ++[.list []]) from rfl) (e1.trans (tr (zaa (zmp I1.lst)) e2))
theorem znb{d:Nat}{ns:List Str}(hd:0<d)(hn:ns.length≤6)(σ:zab):∃(σ':zab)(refs:List Nat)(P:List Str),zah GG d ⟨true,true⟩ AA.l_settings [.lst (ns.map .str)] σ=.ok (.lst (refs.map .ref)) σ'∧refs.length≤200∧Sv σ' refs P 10∧(∀ x,x∈P↔x∈ns)∧σ.length≤σ'.length∧∀ i,i<σ.length→σ'[i]?=σ[i]?:=by
 obtain ⟨e,rfl⟩:∃ e,d=e+1:=⟨d-1,by lia⟩
 have hpow:2 ^ ns.length≤2 ^ 6:=Nat.pow_le_pow_right (by decide) hn
 have S0:Sv (σ++[.dict []]) [σ.length] [] 4:=⟨zas ⟨⟨[],zaN,Nat.zero_le _,⟨fun kv h=>absurd h List.not_mem_nil,fun kv h=>absurd h List.not_mem_nil⟩,fun n hn=>absurd hn List.not_mem_nil,fun x _=>rfl⟩,trivial⟩,fun g=>⟨σ.length,.head _,[],zaN,fun n hn=>absurd hn List.not_mem_nil⟩⟩
 obtain ⟨σ',refs,P,h1,h2,h3,h4,h5,h6⟩:=zhv (C:=zah GG e) (v1:=.lst (ns.map .str)) ns [] 4 [σ.length] (σ++[.dict []]) Option.none Option.none Option.none Option.none Option.none S0 (by show 1*2 ^ ns.length≤200;have:2 ^ 6=64:=rfl;lia) (by lia)
 rw [List.length_append] at h5 h6
 have h5:σ.length+1≤σ'.length:=h5
 refine ⟨σ',refs,P,at_ (zaj (zhB _ _ _)) ?_,h2,⟨fun j hj=>(h3.each j hj).imp fun _ q=>⟨q.1,by have:=q.2.1;lia,q.2.2⟩,h3.all⟩,fun x=>(h4 x).trans ⟨fun h=>h.elim id fun q=>absurd q List.not_mem_nil,.inl⟩,by exact Nat.le_of_lt ‹_›,fun i hi=>(h6 i (by show i<σ.length+1;exact Nat.lt_succ_of_lt ‹_›)).trans (List.getElem?_append_left hi)⟩
 unfold zee zcx
 exact tr (zaa (a:=PV.lst [.ref σ.length]) (σ':=σ++[Cel.dict []]) rfl) (at_ (tr (c_t rfl) (bd (show zat (.lst (ns.map .str))=M.ret ⟨ns.map .str,[]⟩ from rfl))) h1)
structure Sn (ns:List Str) (Z:Nat) (s:Say):Prop where
 ok:s.Ok
 sz:s.sz≤Z
 nm:∀ x∈s.nms,x∈ns
theorem Sn.not{ns:List Str}{Z:Nat}{a:Say}(h:Sn ns Z a):Sn ns (Z+1) (.not a):=⟨h.ok,Nat.succ_le_succ h.sz,h.nm⟩
theorem Sn.and{ns:List Str}{Y Z:Nat}{a b:Say}(h:Sn ns Y a)(h':Sn ns Z b):Sn ns (Y+Z+1) (.and a b):=⟨⟨h.ok,h'.ok⟩,Nat.succ_le_succ (Nat.add_le_add h.sz h'.sz),fun x hx=>(List.mem_append.mp hx).elim (h.nm x) (h'.nm x)⟩
theorem Sn.or{ns:List Str}{Y Z:Nat}{a b:Say}(h:Sn ns Y a)(h':Sn ns Z b):Sn ns (Y+Z+1) (.or a b):=⟨⟨h.ok,h'.ok⟩,Nat.succ_le_succ (Nat.add_le_add h.sz h'.sz),fun x hx=>(List.mem_append.mp hx).elim (h.nm x) (h'.nm x)⟩
theorem Sn.mono{ns:List Str}{Y Z:Nat}{a:Say}(h:Sn ns Y a)(hz:Y≤Z):Sn ns Z a:=⟨h.ok,Nat.le_trans h.sz hz,h.nm⟩
theorem ze7{ns:List Str}{lo hi:Option Int}(h:ns.length≤1000):cutM false (.lst (ns.map .str)) lo hi=M.ret (.lst ((slc lo hi ns).map .str)):=by
 refine tr (c_t (decide_eq_true (show (ns.map PV.str).length≤2 ^ 20 by rw [List.length_map];lia))) ?_
 show M.ret (PV.lst (slc lo hi (ns.map .str)))=_
 unfold slc
 rw [List.length_map,List.map_take,List.map_drop]
theorem zie{ns:List Str}{lo hi:Option Int}{x:Str}(h:x∈slc lo hi ns):x∈ns:=List.mem_of_mem_drop (List.mem_of_mem_take h)
theorem zif{ns:List Str}{lo hi:Option Int}:(slc lo hi ns).length=min (hi.elim ns.length (clip ns.length)-lo.elim 0 (clip ns.length)) (ns.length-lo.elim 0 (clip ns.length)):=by
 unfold slc;rw [List.length_take,List.length_drop]
structure Sb (ns ms:List Str):Prop where
 mem:∀ x∈ms,x∈ns
 lo:1≤ms.length
 hi:ms.length≤6
theorem cl_1{n:Nat}(h:1≤n):clip n (1:Int)=1:=(zeE n 1).trans (Nat.min_eq_left h)
theorem cl_m{n:Nat}:clip n ((n-1:Nat):Int)=n-1:=(zeE n (n-1)).trans (Nat.min_eq_left (Nat.sub_le _ _))
theorem cl_n{n:Nat}(h:1≤n):clip n (-1:Int)=n-1:=by
 unfold clip;rw [if_pos (by decide)];lia
theorem zo3(n:Nat):min (n-1-1) (n-1)=n-2:=Nat.min_eq_left (Nat.sub_le _ _)
theorem zq5{ns:List Str}(h:3≤ns.length)(h6:ns.length≤6):Sb ns (slc (some 1) (some ((ns.length-1:Nat):Int)) ns):=by
 have l:(slc (some 1) (some ((ns.length-1:Nat):Int)) ns).length=ns.length-2:=by
  rw [zif];show min (clip ns.length ((ns.length-1:Nat):Int)-clip ns.length (1:Int)) (ns.length-clip ns.length (1:Int))=_;rw [cl_1 (Nat.le_trans (by decide) h),cl_m,zo3]
 exact ⟨fun x h=>zie h,by rw [l];exact Nat.le_sub_of_add_le h,by rw [l];exact Nat.le_trans (Nat.sub_le _ _) h6⟩
theorem zq4{ns:List Str}(h:3≤ns.length)(h6:ns.length≤6):Sb ns (slc Option.none (some (-1)) ns):=by
 have l:(slc Option.none (some (-1)) ns).length=ns.length-1:=by
  rw [zif];show min (clip ns.length (-1:Int)-0) (ns.length-0)=_;rw [cl_n (Nat.le_trans (by decide) h)];exact Nat.min_eq_left (Nat.sub_le ns.length 1)
 exact ⟨fun x h=>zie h,by rw [l];exact Nat.le_sub_of_add_le (Nat.le_trans (by decide) h),by rw [l];exact Nat.le_trans (Nat.sub_le _ _) h6⟩
theorem zq3{ns:List Str}(h:3≤ns.length)(h6:ns.length≤6):Sb ns (slc (some 1) Option.none ns):=by
 have l:(slc (some 1) Option.none ns).length=ns.length-1:=by
  rw [zif];show min (ns.length-clip ns.length (1:Int)) (ns.length-clip ns.length (1:Int))=_;rw [cl_1 (Nat.le_trans (by decide) h)];exact Nat.min_self _
 exact ⟨fun x h=>zie h,by rw [l];exact Nat.le_sub_of_add_le (Nat.le_trans (by decide) h),by rw [l];exact Nat.le_trans (Nat.sub_le _ _) h6⟩
theorem zqd{ns:List Str}(h:3≤ns.length)(h6:ns.length≤6):((zde ((biM ⟨true,true⟩ false "len" [.lst (ns.map .str)]).bind fun v5=>(opM false .Sub v5 (.int 1)))).bind fun v6=>(cutM false (.lst (ns.map .str)) (some 1) v6))=M.ret (.lst ((slc (some 1) (some ((ns.length-1:Nat):Int)) ns).map .str)):=by
 have hlm:(ns.map PV.str).length=ns.length:=List.length_map _
 exact tr (bd (show zde _=M.ret (some ((ns.length-1:Nat):Int)) from tr (bd (tr (bd (zdP (xs:=ns.map PV.str) (by lia))) (tr (sub_int _ _ _) (i_eq (show ((ns.map PV.str).length:Int)-1=((ns.length-1:Nat):Int) by rw [hlm];lia))))) rfl)) (ze7 (Nat.le_trans h6 (by decide)))
theorem zfD{ns ms:List Str}{m n Z:Nat}{c:Int}{x y:M PV}{e:Nat}(hn:∀ n∈ns,NmOk n)(S:Sb ns ms)(hx:x=M.ret (.int c)) (hy:y=M.ret (.int (m:Int))) (hm:m<Z) (hZ:Z≤14) (he:100<e) {v:M PV} (hv:v=M.ret (.lst (ms.map .str))):∃ s,Sn ns Z s∧((seqM [x,(y.bind fun v8=>(opM false .Add (.int 1) v8)),v]).bind fun v9=>(zah GG e ⟨true,true⟩ AA.l_saying v9))=M.ret s.pv:=by
 obtain ⟨s,hs,M1⟩:=l_saying ⟨true,true⟩ ms (fun n h=>hn n (S.mem n h)) S.lo S.hi (1+m) c e (by lia) (by lia) (by lia)
 have mz:=M1.sz
 exact ⟨s,⟨M1.ok,by lia,fun x hx=>S.mem x (M1.nm x hx)⟩,tr (bd (sq3 hx (tr (bd hy) (tr (add_int _ _ _) (i_eq (show (1:Int)+(m:Int)=((1+m:Nat):Int) by lia)))) hv)) hs⟩
theorem l_pair{c:Int}{ns:List Str}{d:Nat}{r:Bool}(hd:110<d)(hn:∀ n∈ns,NmOk n)(hlo:3≤ns.length)(hhi:ns.length≤6):∃ a b,Sn ns 19 a∧Sn ns 26 b∧zah GG d ⟨true,true⟩ AA.l_pair [.int c,.lst (ns.map .str)]=M.ret (.tup [a.pv,b.pv]):=by
 obtain ⟨e,rfl⟩:∃ e,d=e+1:=⟨d-1,(Nat.sub_add_cancel (Nat.le_trans (by decide) hd)).symm⟩
 obtain ⟨w,hw,hwl⟩:=zaE c (b:=6) (by decide)
 obtain ⟨k1,hk1,hkl1⟩:=zaE (c.fdiv 6) (b:=6) (by decide)
 obtain ⟨k2,hk2,hkl2⟩:=zgK (c.fdiv 6) 6 (b:=5) (by decide) (by decide) (by decide)
 obtain ⟨k3,hk3,hkl3⟩:=zgK (c.fdiv 6) 30 (b:=5) (by decide) (by decide) (by decide)
 obtain ⟨k4,hk4,hkl4⟩:=zgK (c.fdiv 6) 7 (b:=4) (by decide) (by decide) (by decide)
 obtain ⟨k5,hk5,hkl5⟩:=zaE (c.fdiv 6) (b:=14) (by decide)
 obtain ⟨k6,hk6,hkl6⟩:=zgK (c.fdiv 6) 14 (b:=14) (by decide) (by decide) (by decide)
 have he:100<e:=Nat.lt_of_succ_lt_succ (Nat.lt_of_le_of_lt (by decide) hd)
 have hl:ns.length≤1000:=Nat.le_trans hhi (by decide)
 have S1:=zq5 hlo hhi
 have S2:=zq4 hlo hhi
 have S3:=zq3 hlo hhi
 obtain ⟨one,N1,e1⟩:=zfD (c:=c.fdiv 6) (Z:=6) (n:=0) hn S1 rfl (zbs false (c.fdiv 6) (by decide) hk1) hkl1 (by decide) he rfl
 obtain ⟨ahead,N2,e2⟩:=zfD (c:=(c.fdiv 6).fdiv 6+5) (Z:=5) (n:=0) hn S2 (x:=(opM false .FloorDiv (.int (c.fdiv 6)) (.int 6)).bind fun v11=>(opM false .Add v11 (.int 5))) (tr (bd (zbc false (c.fdiv 6) 6 (by decide) (by decide))) (add_int _ _ _)) hk2 hkl2 (by decide) he (ze7 hl)
 obtain ⟨behind,N3,e3⟩:=zfD (c:=(c.fdiv 6).fdiv 30+9) (Z:=5) (n:=0) hn S3 (x:=(opM false .FloorDiv (.int (c.fdiv 6)) (.int 30)).bind fun v11=>(opM false .Add v11 (.int 9))) (tr (bd (zbc false (c.fdiv 6) 30 (by decide) (by decide))) (add_int _ _ _)) hk3 hkl3 (by decide) he (ze7 hl)
 have pre:∀{F:M PV},_=F→zah GG (e+1) ⟨true,true⟩ AA.l_pair [.int c,.lst (ns.map .str)]=F:=fun {F} h=>zaj (tr (znw _ _ _ _) (tr (bd (zbs _ _ (by decide) hw)) (tr (bd (zbc _ _ 6 (by decide) (by decide))) (tr (bd (zqd hlo hhi)) (tr (bd e1) (tr (bd e2) (tr (bd e3) h)))))))
 by_cases w0:w=0
 ·exact ⟨.and one ahead,.or behind one,(N1.and N2).mono (by decide),(N3.or N1).mono (by decide),pre (if_t (w_t 0 w0))⟩
 ·by_cases w1:w=1
  ·exact ⟨.and ahead (.not one),.not (.and one behind),(N2.and N1.not).mono (by decide),(N1.and N3).not.mono (by decide),pre (tr (if_f (w_f 0 w0)) (if_t (w_t 1 w1)))⟩
  ·by_cases w2:w=2
   ·obtain ⟨other,N4,e4⟩:=zfD (c:=(c.fdiv 6).fdiv 7+3) (Z:=4) (n:=0) hn S1 (x:=(opM false .FloorDiv (.int (c.fdiv 6)) (.int 7)).bind fun v11=>(opM false .Add v11 (.int 3))) (tr (bd (zbc false (c.fdiv 6) 7 (by decide) (by decide))) (add_int _ _ _)) hk4 hkl4 (by decide) he rfl
    exact ⟨.and ahead (.or one other),.or (.or other one) behind,(N2.and (N1.or N4)).mono (by decide),((N4.or N1).or N3).mono (by decide),pre (tr (if_f (w_f 0 w0)) (tr (if_f (w_f 1 w1)) (tr (if_t (w_t 2 w2)) (bd e4))))⟩
   ·by_cases w3:w=3
    ·exact ⟨.and (.or ahead one) (.not ahead),.or (.and one behind) (.and one (.not behind)),((N2.or N1).and N2.not).mono (by decide),((N1.and N3).or (N1.and N3.not)).mono (by decide),pre (tr (if_f (w_f 0 w0)) (tr (if_f (w_f 1 w1)) (tr (if_f (w_f 2 w2)) (if_t (w_t 3 w3)))))⟩
    ·obtain ⟨x,N5,e5⟩:=zfD (c:=c.fdiv 6) (Z:=14) (n:=0) hn S2 rfl (zbs false (c.fdiv 6) (by decide) hk5) hkl5 (by decide) he (ze7 hl)
     obtain ⟨y,N6,e6⟩:=zfD (c:=(c.fdiv 6).fdiv 14+1) (Z:=14) (n:=0) hn S3 (x:=(opM false .FloorDiv (.int (c.fdiv 6)) (.int 14)).bind fun v11=>(opM false .Add v11 (.int 1))) (tr (bd (zbc false (c.fdiv 6) 14 (by decide) (by decide))) (add_int _ _ _)) hk6 hkl6 (by decide) he (ze7 hl)
     exact ⟨x,y,N5.mono (by decide),N6.mono (by decide),pre (tr (if_f (w_f 0 w0)) (tr (if_f (w_f 1 w1)) (tr (if_f (w_f 2 w2)) (tr (if_f (w_f 3 w3)) (bd (sq2 e5 e6))))))⟩
theorem zbA:∀(l m:List Str),l.Nodup→(∀ x∈l,x∈m)→l.length≤m.length
 | [],_,_,_=>Nat.zero_le _
 | x::l,m,hn,hs=>by
  have hn:=List.nodup_cons.mp hn
  have:=zbA l (m.erase x) hn.2 fun y hy=>(List.mem_erase_of_ne (fun e=>hn.1 (by rw [← e];exact hy))).mpr (hs y (.tail _ hy))
  rw [List.length_erase_of_mem (hs x (.head _))] at this
  have:0<m.length:=List.length_pos_of_mem (hs x (.head _))
  rw [List.length_cons];lia
theorem zov{x:Str}{K A:List Str}(h:x∈uni K A):x∈K∨x∈A:=(List.mem_append.mp h).imp id fun h=>(List.mem_filter.mp h).1
theorem zhy{C:zad}{md:Md}{sv:PV}{ns:List Str}(hl:md.lp=true)(hn:ns.length≤1000):∀(ps:List Say)(F:List Str)(o:Option PV),F.Nodup→(∀ x∈F,x∈ns)→(∀ p∈ps,∀ x∈p.met,x∈ns)→(∀ p∈ps,C md AA.l_met [p.pv]=M.ret (.lst (p.met.map .str)))→
  zbn AA GG C md (M.ret ()) (ps.map Say.pv) sv (.lst (F.map .str)) o=M.ret (.lst ((ps.foldl (fun K p=>uni K p.met) F).map .str))
 | [],F,o,_,_,_,_=>rfl
 | p::ps,F,o,hF,hs,hp,ih=>by
  have l1:=zbA F ns hF hs
  have l2:=zbA p.met ns (zaJ p) (hp p (.head _))
  have hsrc:(C md AA.l_met [p.pv]).bind zat=M.ret ⟨p.met.map .str,[]⟩:=bd (ih p (.head _))
  have h1:zaU md false ((C md AA.l_met [p.pv]).bind zat) (fun name5=>(zac .NotIn name5 (.lst (F.map .str))).bind fun cv6=>(zap cv6).bind fun b7=>M.cond b7 (M.ret (some name5)) (M.ret Option.none))=M.ret (.lst ((p.met.filter fun x=>!(F.any fun y=>y==x)).map .str)):=
   zcD (ss:=p.met) hl hsrc (Nat.le_trans l2 (Nat.le_trans hn (by decide))) fun s=>bd (zdN s F)
  refine tr (show _=zeA AA GG C md (zbn AA GG C md (M.ret ()) (ps.map Say.pv)) sv (.lst (F.map .str)) o p.pv from rfl) (tr (bd (tr (bd h1) (tr (c_t (decide_eq_true ?_)) (congrArg (fun l=>M.ret (PV.lst l)) (List.map_append (f:=PV.str)).symm)))) ?_)
  ·rw [List.length_map,List.length_map];have:=List.length_filter_le (fun x=>!(F.any fun y=>y==x)) p.met;lia
  ·exact zhy hl hn ps (uni F p.met) (some p.pv) (zc4 hF (zaJ p)) (fun x hx=>(zov hx).elim (hs x) (hp p (.head _) x)) (fun q hq=>hp q (.tail _ hq)) fun q hq=>ih q (.tail _ hq)
theorem zhE{ns:List Str}(hns:ns.length≤1000):∀(s:Say)(md:Md)(d:Nat),md.lp=true→s.dep<d→(∀ x∈s.nms,x∈ns)→zah GG d md AA.l_met [s.pv]=M.ret (.lst (s.met.map .str)):=by
 refine zb3 fun s ih md d hl hd hz=>?_
 obtain ⟨e,rfl⟩:∃ e,d=e+1:=⟨d-1,(Nat.sub_add_cancel (Nat.lt_of_le_of_lt (Nat.zero_le _) hd)).symm⟩
 revert md
 refine znp fun r=>?_
 by_cases hn:s.isName=true
 ·cases s with
  | name n=>exact zaj (zjf _ r n)
  | _=>cases hn
 ·have hn:=(Bool.not_eq_true _).mp hn
  have hps:=(zb5 s).2
  have key:s.parts.foldl (fun K p=>uni K p.met) []=s.met∧∀ p∈s.parts,∀ x∈p.nms,x∈s.nms:=by
   cases s with
   | name n=>cases hn
   | not a=>exact ⟨zbN _,zas ⟨fun x h=>h,trivial⟩⟩
   | and a b=>exact ⟨by show uni (uni [] a.met) b.met=_;rw [zbN];rfl,zas ⟨fun x h=>List.mem_append_left _ h,fun x h=>List.mem_append_right _ h,trivial⟩⟩
   | or a b=>exact ⟨by show uni (uni [] a.met) b.met=_;rw [zbN];rfl,zas ⟨fun x h=>List.mem_append_left _ h,fun x h=>List.mem_append_right _ h,trivial⟩⟩
   | _=>exact ⟨rfl,fun p hp=>absurd hp List.not_mem_nil⟩
  refine zaj (tr (zjh _ r s hn) (tr (zhy rfl hns s.parts [] Option.none List.nodup_nil (fun x hx=>absurd hx List.not_mem_nil) (fun p hp x hx=>hz x (key.2 p hp x (zbC p x hx))) fun p hp=>ih p hp ⟨r,true⟩ e rfl (Nat.lt_of_lt_of_le (hps p hp).1 (Nat.le_of_lt_succ hd)) fun x hx=>hz x (key.2 p hp x hx)) ?_))
  rw [key.1]
theorem zjx{f:PV→M (Option PV)}{g:PV→Option PV}{σ:zab}:∀{L:List PV},(∀ x∈L,f x σ=.ok (g x) σ)→zaW (M.ret ()) (fun x=>M.noErr (f x)) L σ=.ok (L.filterMap g) σ
 | [],_=>rfl
 | x::L,h=>by
  have h1:M.noErr (f x) σ=.ok (g x) σ:=by unfold M.noErr;rw [h x (.head _)]
  have st:zaW (M.ret ()) (fun x=>M.noErr (f x)) (x::L)=(M.noErr (f x)).bind fun o=>(zaW (M.ret ()) (fun x=>M.noErr (f x)) L).bind fun ys=>M.ret (match o with | some y=>y::ys | Option.none=>ys):=rfl
  refine at_ st ((zaa h1).trans ((zaa (zjx fun y hy=>h y (.tail _ hy))).trans ?_))
  rw [List.filterMap_cons]
  cases g x <;> rfl
theorem zoX(F:List Str):zac .NotEq (.lst (F.map .str)) (.lst (F.map .str))=M.ret (.bool false):=by
 refine bd (a:=true) (funext fun σ=>?_)
 have h2:wholeM (.lst (F.map .str)) σ=.ok (.lst (F.map .str)) σ:=zcj (congrArg (Option.map PV.lst) (zex σ 498 F))
 exact (show eqX (.lst (F.map .str)) (.lst (F.map .str)) σ=eqM (.lst (F.map .str)) (.lst (F.map .str)) σ from rfl).trans ((zaa h2).trans ((zaa h2).trans (congrArg (fun b=>Rs.ok b σ) (zhN F))))
theorem zgh:∀(A K:List Str),A.Nodup→A.foldl addS K=uni K A
 | [],K,_=>(List.append_nil K).symm
 | x::A,K,h=>by
  have h:=List.nodup_cons.mp h
  refine (zgh A (addS K x) h.2).trans ?_
  unfold addS uni
  rw [List.filter_cons]
  cases q:K.contains x with
  | true=>
   have q':(K.any fun y=>y==x)=true:=by rw [zep];exact decide_eq_true (List.contains_iff_mem.mp q)
   rw [q',Bool.not_true,if_neg Bool.false_ne_true];rfl
  | false=>
   have q':(K.any fun y=>y==x)=false:=by rw [zep];exact decide_eq_false fun m=>by rw [List.contains_iff_mem.mpr m] at q;cases q
   rw [q',Bool.not_false,if_pos rfl]
   show (K++[x])++A.filter (fun z=>!((K++[x]).any fun y=>y==z))=K++x::A.filter fun z=>!(K.any fun y=>y==z)
   rw [List.append_assoc]
   refine congrArg (K++·) (congrArg (x::·) (List.filter_congr fun z hz=>?_))
   rw [List.any_append,List.any_cons,List.any_nil,Bool.or_false,show (x==z)=false from beq_eq_false_iff_ne.mpr fun e=>h.1 (e▸hz),Bool.or_false]
theorem zoF{r:Bool}{F:List Str}(h:F.length<64):zet ⟨r,true⟩ false (.lst (F.map .str))=M.ret (.lst ((zal (setL F)).map .str)):=
 tr (show zet ⟨r,true⟩ false (.lst (F.map .str))=(M.lift (zbt (F.map .str))).bind fun ss=>M.cond (decide (ss.length<64)) (M.ret (.lst ((zal (setL ss)).map .str))) M.fail from rfl) (tr (bd (show M.lift (zbt (F.map .str))=M.ret F by rw [zcI];rfl)) (c_t (decide_eq_true h)))
theorem zqR(ta tm tb:Bool)(h1:ta=true→tm=true)(h2:tm=true→tb=true):(orM (andM (zaf (.lst [.bool ta,.bool tm,.bool tb]) (.int 0)) (notM (zaf (.lst [.bool ta,.bool tm,.bool tb]) (.int 1)))) (andM (zaf (.lst [.bool ta,.bool tm,.bool tb]) (.int 1)) (notM (zaf (.lst [.bool ta,.bool tm,.bool tb]) (.int 2)))))=M.ret (.bool false):=by
 cases ta with
 | true=>
  rw [h1 rfl] at h2 ⊢
  rw [h2 rfl]
  kernel_rfl
 | false=>
  cases tm with
  | true=>rw [h2 rfl];kernel_rfl
  | false=>cases tb <;> kernel_rfl
theorem zjA{a b m:Say}{ns:List Str}{e:Nat}{σ:zab}{v4 v5:PV}(B:Btw a b m)(ha:∀ x∈a.nms,x∈ns)(hb:∀ x∈b.nms,x∈ns)(da:a.dep<e)(db:b.dep<e)(dm:m.dep<e):∀(refs:List Nat)(v6 v7:Option PV),(∀ j∈refs,∃ kvs,σ[j]?=some (.dict kvs)∧∀ x∈ns,Bl kvs x)→
  zaD AA GG (zah GG e) ⟨true,true⟩ (M.ret ()) (refs.map .ref) a.pv b.pv m.pv v4 v5 v6 v7 σ=.ok (.bool true) σ
 | [],_,_,_=>rfl
 | j::refs,v6,v7,h=>by
  obtain ⟨kvs,hj,hk⟩:=h j (.head _)
  have t1:=tv_true.at_ hj (⟨true,true⟩:Md).inn a e da fun x hx=>hk x (ha x hx)
  have t2:=tv_true.at_ hj (⟨true,true⟩:Md).inn m e dm fun x hx=>hk x (ha x (B.na x hx))
  have t3:=tv_true.at_ hj (⟨true,true⟩:Md).inn b e db fun x hx=>hk x (hb x hx)
  have c3:=zbM (f:=fun v9=>(zah GG e (⟨true,true⟩:Md).inn AA.l_true [v9,.ref j]).bind fun v10=>M.ret (some v10)) (zaa t1) (zbM (f:=fun v9=>(zah GG e (⟨true,true⟩:Md).inn AA.l_true [v9,.ref j]).bind fun v10=>M.ret (some v10)) (zaa t2) (zbM (f:=fun v9=>(zah GG e (⟨true,true⟩:Md).inn AA.l_true [v9,.ref j]).bind fun v10=>M.ret (some v10)) (zaa t3) (show zaW (M.ret ()) (fun x=>M.noErr ((fun v9=>(zah GG e (⟨true,true⟩:Md).inn AA.l_true [v9,.ref j]).bind fun v10=>M.ret (some v10)) x)) [] σ=.ok [] σ from rfl)))
  refine tr (show _=zbD AA GG (zah GG e) ⟨true,true⟩ (zaD AA GG (zah GG e) ⟨true,true⟩ (M.ret ()) (refs.map .ref)) a.pv b.pv m.pv v4 v5 v6 v7 (.ref j) σ from rfl) ?_
  refine tr (zaa (ziK rfl (show zat (.tup [a.pv,m.pv,b.pv])=M.ret ⟨[a.pv,m.pv,b.pv],[]⟩ from rfl) (show 3≤1000000 by decide) c3)) (at_ (if_f (zqR _ _ _ (B.fa _) fun hm=>?_)) (zjA B ha hb da db dm refs _ _ fun i hi=>h i (.tail _ hi)))
  cases z:b.tv (fOf kvs) with
  | true=>rfl
  | false=>rw [B.fb _ z] at hm;cases hm
theorem zmc{a b m:Say}{ns:List Str}{d:Nat}{σ:zab}(hd:200<d)(hn:ns.length≤6)(ha:∀ x∈a.nms,x∈ns)(hb:∀ x∈b.nms,x∈ns)(da:a.dep≤100)(db:b.dep≤100)(hw:NtW m)(B:Btw a b m) :
  ∃ σ',zah GG d ⟨true,true⟩ AA.l_is_between [a.pv,b.pv,m.pv,.lst (ns.map .str)] σ=.ok (.bool true) σ':=by
 obtain ⟨e,rfl⟩:∃ e,d=e+1:=⟨d-1,(Nat.sub_add_cancel (Nat.le_trans (by decide) hd)).symm⟩
 have he:200≤e:=Nat.le_of_lt_succ hd
 have lt:∀{k:Nat},k≤100→k+1<e:=fun h=>Nat.lt_of_le_of_lt (Nat.succ_le_succ h) (Nat.lt_of_lt_of_le (by decide) he)
 have n1:ns.length≤1000:=Nat.le_trans hn (by decide)
 obtain ⟨τ,e1⟩:=zfM m B.ok ⟨true,true⟩ e σ rfl (lt B.dep)
 have e2:=zgx m ⟨true,true⟩ e hw (Nat.lt_of_le_of_lt B.dep (by decide)) (lt B.dep)
 have ma:=zhE n1 a ⟨true,true⟩ e rfl (Nat.lt_of_succ_lt (lt da)) ha
 have mb:=zhE n1 b (⟨true,true⟩:Md).inn e rfl (Nat.lt_of_succ_lt (lt db)) hb
 have mm:=zhE n1 m ⟨true,true⟩ e rfl (Nat.lt_of_succ_lt (lt B.dep)) fun x hx=>ha x (B.na x hx)
 have zbq:∀ s:Say,(∀ x∈s.nms,x∈ns)→s.met.length≤1000000:=fun s hs=>Nat.le_trans (zbA _ ns (zaJ s) fun x hx=>hs x (zbC s x hx)) (Nat.le_trans hn (by decide))
 let L:List Str:=a.met.filter fun x=>b.met.any fun y=>y==x
 have cL:zaU ⟨true,true⟩ false ((zah GG e ⟨true,true⟩ AA.l_met [a.pv]).bind zat) (fun v10=>((zah GG e (⟨true,true⟩:Md).inn AA.l_met [b.pv]).bind fun v11=>(zac .In v10 v11)).bind fun v12=>(zap v12).bind fun v13=>M.cond v13 (M.ret (some v10)) (M.ret Option.none))=M.ret (.lst (L.map .str)):=
  zcD (ss:=a.met) (b:=fun x=>b.met.any fun y=>y==x) rfl (show (zah GG e ⟨true,true⟩ AA.l_met [a.pv]).bind zat=M.ret ⟨a.met.map .str,[]⟩ from bd ma) (zbq a ha) fun x=>bd (tr (bd mb) (zpl x b.met))
 have cM:zaU ⟨true,true⟩ false ((zah GG e ⟨true,true⟩ AA.l_met [m.pv]).bind zat) (fun v10=>(zac .NotIn v10 (.lst (L.map .str))).bind fun v11=>(zap v11).bind fun v12=>M.cond v12 (M.ret (some v10)) (M.ret Option.none))=M.ret (.lst []):=by
  refine tr (zcD (ss:=m.met) (b:=fun x=>!(L.any fun y=>y==x)) rfl (show (zah GG e ⟨true,true⟩ AA.l_met [m.pv]).bind zat=M.ret ⟨m.met.map .str,[]⟩ from bd mm) (zbq m fun x hx=>ha x (B.na x hx)) fun x=>bd (zdN x L)) ?_
  have:(m.met.filter fun x=>!(L.any fun y=>y==x))=[]:=List.filter_eq_nil_iff.mpr fun x hx q=>by
   have hx:=zbC m x hx
   have:x∈L:=List.mem_filter.mpr ⟨zbO a x (B.na x hx),by show (b.met.any fun y=>y==x)=true;rw [zep,decide_eq_true (zbO b x (B.nb x hx))]⟩
   rw [zep,decide_eq_true this] at q;cases q
  rw [this];rfl
 obtain ⟨σ',refs,P,es,hr,S,hP,_,_⟩:=znb (d:=e) (ns:=ns) (Nat.lt_of_lt_of_le (by decide) he) hn (σ++τ)
 refine ⟨σ',at_ (zaj (zft _ _ _ _ _ _)) ?_⟩
 unfold zcU zbP
 refine tr (zkt (c:=false) (zlL (zec (b:=true) e1) (congrFun (zcf e2) (σ++τ)))) (at_ (tr (c_f rfl) (tr (bd cL) (tr (if_f (tr (bd cM) (by kernel_rfl))) (c_t rfl)))) (tr (zaa (tr (zaa es) rfl)) ?_))
 exact zjA B ha hb (Nat.lt_of_succ_lt (lt da)) (Nat.lt_of_succ_lt (lt db)) (Nat.lt_of_succ_lt (lt B.dep)) refs Option.none Option.none fun j hj=>(S.each j hj).imp fun kvs q=>⟨q.1,fun x hx=>q.2.2.2.1 x ((hP x).mpr hx)⟩
theorem rt_b{a b m:Say}{ns:List Str}{d:Nat}{σ:zab}(hd:210<d)(hn:ns.length≤6)(ha:∀ x∈a.nms,x∈ns)(hb:∀ x∈b.nms,x∈ns)(da:a.dep≤100)(db:b.dep≤100)(hw:NtW m)(B:Btw a b m) :
  ∃ σ',zah GG d ⟨true,true⟩ AA.l_right [a.pv,b.pv,.tup [.str "between",m.pv],.lst (ns.map .str)] σ=.ok (.bool true) σ':=by
 obtain ⟨e,rfl⟩:∃ e,d=e+1:=⟨d-1,(Nat.sub_add_cancel (Nat.le_trans (by decide) hd)).symm⟩
 obtain ⟨σ',h⟩:=zmc (σ:=σ) (Nat.lt_of_lt_of_le (by decide) (Nat.le_of_lt_succ hd)) hn ha hb da db hw B
 exact ⟨σ',at_ (zaj (zhC _ _ _ _ _ _)) (at_ (tr (if_f (tr (or_f rfl) (tr (or_f rfl) (zcf (b:=true) (tr (bd (ix_0 _ _)) rfl))))) (tr (if_t (tr (bd (ix_0 _ _)) (by kernel_rfl))) (bd (show seqM [M.ret a.pv,M.ret b.pv,zaf (.tup [.str "between",m.pv]) (.int 1),M.ret (.lst (ns.map .str))]=M.ret [a.pv,b.pv,m.pv,.lst (ns.map .str)] from rfl)))) h)⟩
theorem rt_s{a b:Say}{ns:List Str}{d j:Nat}{kvs:List (Str×PV)}{σ:zab}(hd:210<d)(hn:ns.length≤6)(ha:∀ x∈a.nms,x∈ns)(hb:∀ x∈b.nms,x∈ns)(da:a.dep≤100)(db:b.dep≤100)(S:Tld [a,.not b] σ j kvs) :
  zah GG d ⟨true,true⟩ AA.l_right [a.pv,b.pv,.tup [.str "setting",.ref j],.lst (ns.map .str)] σ=.ok (.bool true) σ:=by
 obtain ⟨e,rfl⟩:∃ e,d=e+1:=⟨d-1,(Nat.sub_add_cancel (Nat.le_trans (by decide) hd)).symm⟩
 have he:210≤e:=Nat.le_of_lt_succ hd
 have lt:∀{k:Nat},k≤100→k<e:=fun h=>Nat.lt_of_le_of_lt h (Nat.lt_of_lt_of_le (by decide) he)
 have n1:ns.length≤1000:=Nat.le_trans hn (by decide)
 have ma:=zhE n1 a ⟨true,true⟩ e rfl (lt da) ha
 have mb:=zhE n1 b ⟨true,true⟩ e rfl (lt db) hb
 have zbq:∀ s:Say,(∀ x∈s.nms,x∈ns)→s.met.length≤6:=fun s hs=>Nat.le_trans (zbA _ ns (zaJ s) fun x hx=>hs x (zbC s x hx)) hn
 have l12:a.met.length+b.met.length≤12:=Nat.add_le_add (zbq a ha) (zbq b hb)
 let K:List Str:=uni a.met b.met
 have hK:rmet [] [a,.not b]=K:=by show uni (uni [] a.met) b.met=_;rw [zbN]
 have lK:K.length≤12:=Nat.le_trans (zck _ _) l12
 have lS:(zal K).length=K.length:=(zaX K).length_eq
 have keys:kvs.map (·.1)=zal K:=S.keys.trans (by rw [hK])
 have lk:kvs.length≤12:=by rw [← List.length_map (f:=(·.1)),keys,lS];exact lK
 have hs:setL (a.met++b.met)=K:=by
  unfold setL
  rw [List.foldl_append,zgh _ _ (zaJ a),zbN,zgh _ _ (zaJ b)]
 have own:(((zah GG e ⟨true,true⟩ AA.l_met [a.pv]).bind fun v11=>((zah GG e ⟨true,true⟩ AA.l_met [b.pv]).bind fun v12=>(opM false .Add v11 v12))).bind fun v13=>(zet ⟨true,true⟩ false v13))=M.ret (.lst ((zal K).map .str)):=by
  refine tr (bd (tr (bd ma) (tr (bd mb) (tr (zgT (by rw [List.length_map,List.length_map];exact Nat.le_trans l12 (by decide))) (congrArg (fun l=>M.ret (PV.lst l)) (List.map_append (f:=PV.str)).symm))))) (tr (zoF (by rw [List.length_append];exact Nat.lt_of_le_of_lt l12 (by decide))) ?_)
  rw [hs]
 have hx1:zaf (.tup [.str "setting",.ref j]) (.int 1)=M.ret (.ref j):=ix_1 _ _ _
 have bl:∀ x∈K,Bl kvs x:=fun x hx=>S.bl x (by rw [hK];exact hx)
 have kk:(kvs.map fun kv=>PV.str kv.1)=(zal K).map .str:=by rw [← keys,List.map_map];rfl
 have q1:((seqM [((seqM [(zaf (.tup [.str "setting",.ref j]) (.int 1))]).bind fun v11=>(biM ⟨true,true⟩ false "list" v11))]).bind fun v12=>(biM ⟨true,true⟩ false "sorted" v12)) σ=.ok (.lst ((zal K).map .str)) σ:=by
  refine tr (zaa (znZ (at_ (bd (sq1 hx1)) (zo8 S.cell (Nat.lt_of_le_of_lt lk (by decide)))))) ?_
  rw [kk]
  refine tr (congrFun (zjS (by rw [lS];exact Nat.lt_of_le_of_lt lK (by decide))) σ) ?_
  rw [zk7];rfl
 have q2:(zaU ⟨true,true⟩ false (zat (.lst ((zal K).map .str))) fun v15=>(notM (((zaf (.tup [.str "setting",.ref j]) (.int 1)).bind fun v16=>(zaf v16 v15)).bind fun v17=>(isM GG (.bi .bool) v17))).bind fun v18=>(zap v18).bind fun v19=>M.cond v19 (M.ret (some v15)) (M.ret Option.none)) σ=.ok (.lst []) σ:=by
  have:=zjx (σ:=σ) (f:=fun v15=>(notM (((zaf (.tup [.str "setting",.ref j]) (.int 1)).bind fun v16=>(zaf v16 v15)).bind fun v17=>(isM GG (.bi .bool) v17))).bind fun v18=>(zap v18).bind fun v19=>M.cond v19 (M.ret (some v15)) (M.ret Option.none)) (g:=fun _=>Option.none) (L:=(zal K).map .str) fun x hx=>by
   obtain ⟨y,hy,rfl⟩:=List.mem_map.mp hx
   exact tr (zaa (zec (b:=true) (tr (zaa (at_ (bd hx1) (zof S.cell (bl y ((zaX K).mem_iff.mp hy)).f))) rfl))) rfl
  rw [List.filterMap_eq_nil_iff.mpr fun _ _=>rfl] at this
  exact ziK rfl (show zat (.lst ((zal K).map .str))=M.ret ⟨(zal K).map .str,[]⟩ from rfl) (by rw [List.length_map,lS];exact Nat.le_trans lK (by decide)) this
 have t1:=tv_true.at_ S.cell ⟨true,true⟩ a e (lt da) fun x hx=>bl x (zdI (.inl (zbO a x hx)))
 have t2:=tv_true.at_ S.cell ⟨true,true⟩ b e (lt db) fun x hx=>bl x (zdI (.inr (zbO b x hx)))
 have ka:a.tv (fOf kvs)=true:=S.tv a (.head _)
 have kb:b.tv (fOf kvs)=false:=by
  have:(!(b.tv (fOf kvs)))=true:=S.tv (.not b) (.tail _ (.head _))
  cases z:b.tv (fOf kvs) with
  | true=>rw [z] at this;cases this
  | false=>rfl
 rw [ka] at t1;rw [kb] at t2
 refine at_ (zaj (zhC _ _ _ _ _ _)) ?_
 unfold zhD
 refine at_ (tr (if_f (tr (or_f rfl) (tr (or_f rfl) (zcf (b:=true) (tr (bd (ix_0 _ _)) rfl))))) (if_f (tr (bd (ix_0 _ _)) (by kernel_rfl)))) ?_
 refine tr (zkt (c:=false) (zlL (congrFun (tr (bd (ix_0 _ _)) (show _=M.ret (PV.bool false) by kernel_rfl)) σ) (zec (b:=true) (at_ (bd hx1) (zqw S.cell))))) (at_ (tr (c_f rfl) (bd own)) ?_)
 exact tr (zkt (c:=false) (zlL (tr (zaa q1) (congrFun (zoX _) σ)) (tr (zaa q2) rfl))) (tr (zoq (at_ (bd (sq2 rfl hx1)) t1) (zec (b:=false) (at_ (bd (sq2 rfl hx1)) t2))) rfl)
theorem znP{md:Md}{mu:Bool}{σ:zab}{j:Nat}{kvs:List (Str×PV)}(h:σ[j]?=some (.dict kvs))(hl:kvs.length<1000):zfs md mu "clear" (.ref j) (M.ret []) σ=.ok .none (σ.set j (.dict [])):=by
 refine (zaa (show tnOf (.ref j) σ=.ok .dict σ from zaa (zfh h))).trans ((zaa (show M.lift (mtOf .dict "clear") σ=.ok .dclear σ from rfl)).trans ?_)
 exact (zaa (zdZ h)).trans (congrFun (c_t (decide_eq_true hl)) σ)
theorem Tld.few{a b:Say}{ns:List Str}{σ:zab}{j:Nat}{kvs:List (Str×PV)}(S:Tld [a,.not b] σ j kvs)(hn:ns.length≤6)(ha:∀ x∈a.nms,x∈ns)(hb:∀ x∈b.nms,x∈ns):kvs.length<1000:=by
 have l1:=zbA _ ns (zaJ a) fun x hx=>ha x (zbC a x hx)
 have l2:=zbA _ ns (zaJ b) fun x hx=>hb x (zbC b x hx)
 have hu:=zck (uni [] a.met) b.met
 rw [zbN] at hu
 rw [← List.length_map (f:=(·.1)),S.keys,(zaX _).length_eq]
 show (uni (uni [] a.met) b.met).length<1000
 rw [zbN]
 lia
theorem rt{a b:Say}{w:PV}{ns:List Str}{σ:zab}(hn:ns.length≤6)(ha:∀ x∈a.nms,x∈ns)(hb:∀ x∈b.nms,x∈ns)(da:a.dep≤100)(db:b.dep≤100)(h:Lead a b σ w):∃ σ',zah GG 399 ⟨true,true⟩ AA.l_right [a.pv,b.pv,w,.lst (ns.map .str)] σ=.ok (.bool true) σ':=by
 rcases h with ⟨m,rfl,hw,B⟩ | ⟨j,kvs,rfl,S⟩
 ·exact rt_b (by decide) hn ha hb da db hw B
 ·exact ⟨σ,rt_s (by decide) hn ha hb da db S⟩
theorem zjj{a b:Say}{w:PV}{ns:List Str}{σ:zab}{k:Str}{u:PV}(hk:w=.tup [.str k,u])(hn:ns.length≤6)(oa:a.Ok)(ob:b.Ok)(ha:∀ x∈a.nms,x∈ns)(hb:∀ x∈b.nms,x∈ns)(hz:a.sz+b.sz≤50)
  (kind:∀ σ' w',Lead (.not b) (.not a) σ' w'→∃ u',w'=.tup [.str k,u']):∃ σ',
  (ifM (notM ((seqM [(M.ret a.pv),(M.ret b.pv),(zah GG 399 ⟨true,true⟩ AA.leads [a.pv,b.pv]),(M.ret (.lst (ns.map .str)))]).bind fun v17=>(zah GG 399 ⟨true,true⟩ AA.l_right v17)))
   (M.ret (.bool false))
   ((zah GG 399 ⟨true,true⟩ AA.leads [(.tup [(.str "not"),b.pv]),(.tup [(.str "not"),a.pv])]).bind fun v18=>
   (andM ((zaf v18 (.int 0)).bind fun v19=>((zaf w (.int 0)).bind fun v20=>(zac .Eq v19 v20))) (zah GG 399 ⟨true,true⟩ AA.l_right [(.tup [(.str "not"),b.pv]),(.tup [(.str "not"),a.pv]),v18,(.lst (ns.map .str))])))) σ=.ok (.bool true) σ':=by
 subst hk
 have d1:=zbY a;have d2:=zbY b
 have da:a.dep+1≤100:=by lia
 have db:b.dep+1≤100:=by lia
 obtain ⟨w2,τ2,e2,h2⟩:=leads (d:=399) oa ob (Nat.le_trans hz (by decide)) (by decide) σ
 obtain ⟨σ3,e3⟩:=rt hn ha hb (Nat.le_of_succ_le da) (Nat.le_of_succ_le db) h2
 obtain ⟨w4,τ4,e4,h4⟩:=leads (a:=.not b) (b:=.not a) (d:=399) ob oa (by show b.sz+1+(a.sz+1)≤59;lia) (by decide) σ3
 obtain ⟨u4,rfl⟩:=kind _ _ h4
 obtain ⟨σ5,e5⟩:=rt (a:=.not b) (b:=.not a) hn hb ha db da h4
 have q:seqM [(M.ret a.pv),(M.ret b.pv),(zah GG 399 ⟨true,true⟩ AA.leads [a.pv,b.pv]),(M.ret (.lst (ns.map .str)))] σ=.ok [a.pv,b.pv,w2,.lst (ns.map .str)] (σ++τ2):=by
  have s2:seqM [(zah GG 399 ⟨true,true⟩ AA.leads [a.pv,b.pv]),(M.ret (.lst (ns.map .str)))] σ=.ok [w2,.lst (ns.map .str)] (σ++τ2):=tr (zaa e2) (tr (zaa (a:=[PV.lst (ns.map .str)]) (σ':=σ++τ2) rfl) rfl)
  have s3:seqM [(M.ret b.pv),(zah GG 399 ⟨true,true⟩ AA.leads [a.pv,b.pv]),(M.ret (.lst (ns.map .str)))] σ=.ok [b.pv,w2,.lst (ns.map .str)] (σ++τ2):=tr (zaa (a:=b.pv) (σ':=σ) rfl) (tr (zaa s2) rfl)
  exact tr (zaa (a:=a.pv) (σ':=σ) rfl) (tr (zaa s3) rfl)
 exact ⟨σ5,tr (zkt (c:=false) (zec (b:=true) (tr (zaa q) e3))) (tr (zaa e4) (zoq (congrFun (show _=M.ret (PV.bool true) from tr (bd (ix_0 _ _)) (tr (bd (ix_0 _ _)) (tr (zbX k k) (b_eq (beq_self_eq_true k))))) (σ3++τ4)) e5))⟩
theorem znt(is:List Int)(hi:is.length≤63):∃ σ',zah GG 400 ⟨true,true⟩ AA.law [.lst (is.map .int)] []=.ok (.bool true) σ':=by
 have hc:∀ k:Nat,k≤100→zah GG 399 ⟨true,true⟩ AA.l_cell_at [.lst (is.map .int),.int (k:Int)]=M.ret (.int (zek is k)):=fun k hk=>zaj (zpM _ _ is k hi hk)
 obtain ⟨m,hm,hml⟩:=zaE (zek is 0) (b:=3) (by decide)
 obtain ⟨ns,hns,hnl,hok⟩:=l_names (zah GG 398) ⟨true,true⟩ rfl (zek is 1) (3+m) (by lia)
 have h6:ns.length≤6:=by lia
 obtain ⟨a,b,A,B,hp⟩:=l_pair (c:=zek is 2) (d:=399) (r:=true) (by decide) hok (by lia) h6
 have hz:a.sz+b.sz≤50:=Nat.le_trans (Nat.add_le_add A.sz B.sz) (by decide)
 have da:a.dep≤100:=Nat.le_trans (zbY a) (Nat.le_trans A.sz (by decide))
 have db:b.dep≤100:=Nat.le_trans (zbY b) (Nat.le_trans B.sz (by decide))
 obtain ⟨w,τ,ew,hw⟩:=leads (d:=399) A.ok B.ok (Nat.le_trans hz (by decide)) (by decide) []
 have pre:∀{rs:Rs PV},_=rs→zah GG 400 ⟨true,true⟩ AA.law [.lst (is.map .int)] []=rs:=fun {rs} h=>by
  refine at_ (zaj (zrg _ _ _)) ?_
  unfold zqs
  exact at_ (tr (bd (tr (bd (sq2 (hc 1 (by decide)) (tr (bd (tr (bd (hc 0 (by decide))) (zbs _ _ (by decide) hm))) (tr (add_int _ _ _) (i_eq (show (3:Int)+(m:Int)=((3+m:Nat):Int) by lia)))))) (zaj hns))) (tr (c_t rfl) (bd (tr (bd (sq2 (hc 2 (by decide)) rfl)) hp)))) (tr (zaa ew) h)
 rcases hw with ⟨x,rfl,hx,I⟩ | ⟨j,kvs,rfl,D⟩
 ·obtain ⟨σ1,e1⟩:=rt_b (d:=399) (σ:=[]++τ) (by decide) h6 A.nm B.nm da db hx I
  obtain ⟨σ2,e2⟩:=zjj (σ:=σ1) (ns:=ns) (w:=.tup [.str "between",x.pv]) rfl h6 A.ok B.ok A.nm B.nm hz fun σ' w' h'=>by
   rcases h' with ⟨y,rfl,_,_⟩ | ⟨j,kvs,rfl,S⟩
   ·exact ⟨_,rfl⟩
   ·have k1:(!(b.tv (fOf kvs)))=true:=S.tv (.not b) (.head _)
    have k2:(!(!(a.tv (fOf kvs))))=true:=S.tv (.not (.not a)) (.tail _ (.head _))
    rw [Bool.not_not] at k2
    have k3:=I.fb (fOf kvs) (by cases z:b.tv (fOf kvs) with | true=>rw [z] at k1;cases k1 | false=>rfl)
    rw [I.fa _ k2] at k3;cases k3
  exact ⟨σ2,pre (tr (zkt (c:=false) (zec (b:=true) e1)) (at_ (if_f (tr (bd (ix_0 _ _)) (by kernel_rfl))) e2))⟩
 ·have e1:=rt_s (d:=399) (σ:=[]++τ) (by decide) h6 A.nm B.nm da db D
  have ka:a.tv (fOf kvs)=true:=D.tv a (.head _)
  have kb:(!(b.tv (fOf kvs)))=true:=D.tv (.not b) (.tail _ (.head _))
  obtain ⟨σ2,e2⟩:=zjj (σ:=([]++τ).set j (.dict [])) (ns:=ns) (w:=.tup [.str "setting",.ref j]) rfl h6 A.ok B.ok A.nm B.nm hz fun σ' w' h'=>by
   rcases h' with ⟨y,rfl,_,I⟩ | ⟨j,kvs,rfl,S⟩
   ·have k1:y.tv (fOf kvs)=true:=I.fa (fOf kvs) kb
    have k2:y.tv (fOf kvs)=false:=I.fb (fOf kvs) (show (!(a.tv (fOf kvs)))=false by rw [ka];rfl)
    rw [k1] at k2;cases k2
   ·exact ⟨_,rfl⟩
  exact ⟨σ2,pre (tr (zkt (c:=false) (zec (b:=true) e1)) (at_ (if_t (tr (bd (ix_0 _ _)) (by kernel_rfl))) (tr (zaa (at_ (bd (ix_1 _ _ _)) (znP D.cell (D.few h6 A.nm B.nm)))) e2)))⟩
end
end Mine
namespace Mine
open PySem PySem.W PyProof.Rows
noncomputable def PG:Program:=PySem.Challenge.rw_uf010027_11.row.toRowW.1
noncomputable def BD:List Stmt:=PG.main.body
noncomputable def sA(i:Nat):Stmt:=match BD[i]? with | some s=>s | Option.none=>.Pass ⟨0,0,0,0⟩
noncomputable def vs(x:String)(t:Nat):Value:=.str (Str.ofString x) t
noncomputable def de(P:Params)(x:String)(t:Nat)(v:Value):DictEntry:={ hash:=PyData.keyHash P (Str.ofString x),key:=.str (Str.ofString x) t,val:=v }
noncomputable def fdM(k:Nat)(g:Addr)(m c:Value):FuncData:=match sA k with
 | .FunctionDef n a b _ _ _ sc _ _ _=>{ name:=n,qualname:=n,params:=a,body:=.stmts b,scope:=sc,globals:=g,closure:=[],defaults:=.none,kwdefaults:=.none,pyModule:=m,code:=c }
 | _=>default
noncomputable def i0:Value:=.int 0 0
noncomputable def oT(x:Array Value):Obj:={ cls:=.type "tuple",data:=Data.seq x }
noncomputable def oC(x:Array Value):Obj:={ cls:=.type "code",data:=Data.fields x }
noncomputable def oN(x:Array Value):Obj:={ cls:=.none,data:=Data.fields x }
noncomputable def oU(c:Value)(x:FuncData):Obj:={ cls:=c,data:=Data.func x }
noncomputable def oV(x:FuncData):Obj:={ cls:=.type "function",data:=Data.func x }
noncomputable def l0(x:Obj):BT:=.node x .nil .nil
noncomputable def o43:Obj:=oT #[]
noncomputable def o44:Obj:=oN #[]
noncomputable def o45:Obj:=oC #[vs "<module>" 182,vs "<module>" 183,vs "/claim/cut.py" 184,.int 1 0,i0,i0,i0,i0,.ref 11,.bool false,.int 181 0,.ref 12,.none,.none,.none,.none,.int 185 0,.int 1 0,vs "/claim/cut.py" 186]
noncomputable def o46:Obj:={ cls:=.type "frame",slots:=#[some (.ref 13),some (.ref 3),some (.ref 3),none,some (vs "__main__" 164),none,some (.ref 0)] }
noncomputable def o49(P:Params):Obj:={ cls:=.type "dict",data:=Data.dict #[de P "__name__" 165 (vs "middlesay.errors" 187),de P "__doc__" 166 .none,de P "__package__" 167 .none,de P "__loader__" 168 (.builtin "__main__.__loader__#opaque"),de P "__spec__" 169 .none,de P "__annotations__" 170 (.ref 6),de P "__builtins__" 171 (.ref 4),de P "__file__" 173 (vs "/claim/cut.py" 172),de P "__cached__" 174 .none,de P "SayError" 206 (.ref 24)] 10 }
noncomputable def o50:Obj:=oN #[.int 2 0,i0,.ref 20]
noncomputable def o51:Obj:=oT #[.type "ValueError"]
noncomputable def o52:Obj:={ cls:=.type "builtin_function_or_method",data:=Data.fields #[.builtin "type.__prepare__",.type "type"] }
noncomputable def o53(P:Params):Obj:={ cls:=.type "dict",data:=Data.dict #[de P "__module__" 196 (vs "middlesay.errors" 187),de P "__qualname__" 198 (vs "SayError" 197),de P "__firstlineno__" 200 (.int 2 199),de P "__static_attributes__" 201 (.ref 22)] 4 }
noncomputable def o54:Obj:=oT #[]
noncomputable def o55:Obj:=oN #[]
noncomputable def o56:Obj:=oC #[vs "SayError" 191,vs "SayError" 192,vs "/claim/cut.py" 193,.int 2 0,i0,i0,i0,i0,.ref 18,.bool false,.int 181 0,.ref 19,.none,.none,.none,.none,.int 194 0,.int 2 0,vs "/claim/cut.py" 195]
noncomputable def o57:Obj:={ cls:=.type "frame",slots:=#[some (.ref 20),some (.ref 3),some (.ref 17),none,some (vs "middlesay.errors" 187),none,some (.ref 0)] }
noncomputable def o58:Obj:=oT #[]
noncomputable def o59(P:Params):Obj:={ cls:=.type "dict",data:=Data.dict #[de P "__module__" 196 (vs "middlesay.errors" 187),de P "__firstlineno__" 200 (.int 2 199),de P "__static_attributes__" 201 (.ref 22),de P "__weakref__" 203 (.ref 25),de P "__doc__" 204 .none] 3 }
noncomputable def o60:Obj:={ cls:=.type "type",data:=Data.cls { name:=Str.ofString "SayError",bases:=[.type "ValueError"],mro:=[.ref 24,.type "ValueError",.type "Exception",.type "BaseException",.type "object"],ns:=23,qualname:=Str.ofString "SayError" },slots:=#[some (.ref 15),none,some (vs "SayError" 189),some (vs "SayError" 197),some (.builtin "ValueError.__new__"),some (.bool true)] }
noncomputable def o61:Obj:={ cls:=.type "getset_descriptor",data:=Data.fields #[vs "__weakref__" 202,.ref 24,.builtin "ExceptionGroup.__weakref__",.none] }
noncomputable def o62:Obj:={ cls:=.type "super",data:=Data.fields #[.ref 24,.ref 24,.ref 24] }
noncomputable def o63:Obj:={ cls:=.type "builtin_function_or_method",data:=Data.fields #[.builtin "object.__init_subclass__",.ref 24] }
noncomputable def o64(P:Params):Obj:={ cls:=.type "dict",data:=Data.dict #[de P "__name__" 165 (vs "middlesay.errors" 187),de P "__doc__" 166 .none,de P "__package__" 167 .none,de P "__loader__" 168 (.builtin "__main__.__loader__#opaque"),de P "__spec__" 169 .none,de P "__annotations__" 170 (.ref 6),de P "__builtins__" 171 (.ref 4),de P "__file__" 173 (vs "/claim/cut.py" 172),de P "__cached__" 174 .none,de P "SayError" 206 (.ref 24),de P "BadSaying" 222 (.ref 37)] 11 }
noncomputable def o65:Obj:=oN #[.int 2 0,i0,.ref 20,.int 4 0,i0,.ref 33]
noncomputable def o66:Obj:={ cls:=.type "type",data:=Data.cls { name:=Str.ofString "SayError",bases:=[.type "ValueError"],mro:=[.ref 24,.type "ValueError",.type "Exception",.type "BaseException",.type "object"],ns:=23,qualname:=Str.ofString "SayError",subclasses:=[.ref 37] },slots:=#[some (.ref 15),none,some (vs "SayError" 189),some (vs "SayError" 197),some (.builtin "ValueError.__new__"),some (.bool true)] }
noncomputable def o67:Obj:=oT #[.ref 24]
noncomputable def o68:Obj:={ cls:=.type "builtin_function_or_method",data:=Data.fields #[.builtin "type.__prepare__",.type "type"] }
noncomputable def o69(P:Params):Obj:={ cls:=.type "dict",data:=Data.dict #[de P "__module__" 214 (vs "middlesay.errors" 187),de P "__qualname__" 216 (vs "BadSaying" 215),de P "__firstlineno__" 218 (.int 4 217),de P "__static_attributes__" 219 (.ref 35)] 4 }
noncomputable def o70:Obj:=oT #[]
noncomputable def o71:Obj:=oN #[]
noncomputable def o72:Obj:=oC #[vs "BadSaying" 209,vs "BadSaying" 210,vs "/claim/cut.py" 211,.int 4 0,i0,i0,i0,i0,.ref 31,.bool false,.int 181 0,.ref 32,.none,.none,.none,.none,.int 212 0,.int 4 0,vs "/claim/cut.py" 213]
noncomputable def o73:Obj:={ cls:=.type "frame",slots:=#[some (.ref 33),some (.ref 3),some (.ref 30),none,some (vs "middlesay.errors" 187),none,some (.ref 0)] }
noncomputable def o74:Obj:=oT #[]
noncomputable def o75(P:Params):Obj:={ cls:=.type "dict",data:=Data.dict #[de P "__module__" 214 (vs "middlesay.errors" 187),de P "__firstlineno__" 218 (.int 4 217),de P "__static_attributes__" 219 (.ref 35),de P "__doc__" 220 .none] 2 }
noncomputable def o76:Obj:={ cls:=.type "type",data:=Data.cls { name:=Str.ofString "BadSaying",bases:=[.ref 24],mro:=[.ref 37,.ref 24,.type "ValueError",.type "Exception",.type "BaseException",.type "object"],ns:=36,qualname:=Str.ofString "BadSaying" },slots:=#[some (.ref 28),none,some (vs "BadSaying" 207),some (vs "BadSaying" 215),some (.builtin "ValueError.__new__"),some (.bool true)] }
noncomputable def o77:Obj:={ cls:=.type "super",data:=Data.fields #[.ref 37,.ref 37,.ref 37] }
noncomputable def o78:Obj:={ cls:=.type "builtin_function_or_method",data:=Data.fields #[.builtin "object.__init_subclass__",.ref 37] }
noncomputable def o79(P:Params):Obj:={ cls:=.type "dict",data:=Data.dict #[de P "__name__" 165 (vs "middlesay.errors" 187),de P "__doc__" 166 .none,de P "__package__" 167 .none,de P "__loader__" 168 (.builtin "__main__.__loader__#opaque"),de P "__spec__" 169 .none,de P "__annotations__" 170 (.ref 6),de P "__builtins__" 171 (.ref 4),de P "__file__" 173 (vs "/claim/cut.py" 172),de P "__cached__" 174 .none,de P "SayError" 206 (.ref 24),de P "BadSaying" 222 (.ref 37),de P "BadRow" 238 (.ref 49)] 12 }
noncomputable def o80:Obj:=oN #[.int 2 0,i0,.ref 20,.int 4 0,i0,.ref 33,.int 6 0,i0,.ref 45]
noncomputable def o81:Obj:={ cls:=.type "type",data:=Data.cls { name:=Str.ofString "SayError",bases:=[.type "ValueError"],mro:=[.ref 24,.type "ValueError",.type "Exception",.type "BaseException",.type "object"],ns:=23,qualname:=Str.ofString "SayError",subclasses:=[.ref 37,.ref 49] },slots:=#[some (.ref 15),none,some (vs "SayError" 189),some (vs "SayError" 197),some (.builtin "ValueError.__new__"),some (.bool true)] }
noncomputable def o82:Obj:=oT #[.ref 24]
noncomputable def o83:Obj:={ cls:=.type "builtin_function_or_method",data:=Data.fields #[.builtin "type.__prepare__",.type "type"] }
noncomputable def o84(P:Params):Obj:={ cls:=.type "dict",data:=Data.dict #[de P "__module__" 230 (vs "middlesay.errors" 187),de P "__qualname__" 232 (vs "BadRow" 231),de P "__firstlineno__" 234 (.int 6 233),de P "__static_attributes__" 235 (.ref 47)] 4 }
noncomputable def o85:Obj:=oT #[]
noncomputable def o86:Obj:=oN #[]
noncomputable def o87:Obj:=oC #[vs "BadRow" 225,vs "BadRow" 226,vs "/claim/cut.py" 227,.int 6 0,i0,i0,i0,i0,.ref 43,.bool false,.int 181 0,.ref 44,.none,.none,.none,.none,.int 228 0,.int 6 0,vs "/claim/cut.py" 229]
noncomputable def o88:Obj:={ cls:=.type "frame",slots:=#[some (.ref 45),some (.ref 3),some (.ref 42),none,some (vs "middlesay.errors" 187),none,some (.ref 0)] }
noncomputable def o89:Obj:=oT #[]
noncomputable def o90(P:Params):Obj:={ cls:=.type "dict",data:=Data.dict #[de P "__module__" 230 (vs "middlesay.errors" 187),de P "__firstlineno__" 234 (.int 6 233),de P "__static_attributes__" 235 (.ref 47),de P "__doc__" 236 .none] 2 }
noncomputable def o91:Obj:={ cls:=.type "type",data:=Data.cls { name:=Str.ofString "BadRow",bases:=[.ref 24],mro:=[.ref 49,.ref 24,.type "ValueError",.type "Exception",.type "BaseException",.type "object"],ns:=48,qualname:=Str.ofString "BadRow" },slots:=#[some (.ref 40),none,some (vs "BadRow" 223),some (vs "BadRow" 231),some (.builtin "ValueError.__new__"),some (.bool true)] }
noncomputable def o92:Obj:={ cls:=.type "super",data:=Data.fields #[.ref 49,.ref 49,.ref 49] }
noncomputable def o93:Obj:={ cls:=.type "builtin_function_or_method",data:=Data.fields #[.builtin "object.__init_subclass__",.ref 49] }
noncomputable def o94(P:Params):Obj:={ cls:=.type "dict",data:=Data.dict #[de P "__name__" 165 (vs "middlesay.errors" 187),de P "__doc__" 166 .none,de P "__package__" 167 .none,de P "__loader__" 168 (.builtin "__main__.__loader__#opaque"),de P "__spec__" 169 .none,de P "__annotations__" 170 (.ref 6),de P "__builtins__" 171 (.ref 4),de P "__file__" 173 (vs "/claim/cut.py" 172),de P "__cached__" 174 .none,de P "SayError" 206 (.ref 24),de P "BadSaying" 222 (.ref 37),de P "BadRow" 238 (.ref 49),de P "BadTree" 254 (.ref 61)] 13 }
noncomputable def o95:Obj:=oN #[.int 2 0,i0,.ref 20,.int 4 0,i0,.ref 33,.int 6 0,i0,.ref 45,.int 8 0,i0,.ref 57]
noncomputable def o96:Obj:={ cls:=.type "type",data:=Data.cls { name:=Str.ofString "SayError",bases:=[.type "ValueError"],mro:=[.ref 24,.type "ValueError",.type "Exception",.type "BaseException",.type "object"],ns:=23,qualname:=Str.ofString "SayError",subclasses:=[.ref 37,.ref 49,.ref 61] },slots:=#[some (.ref 15),none,some (vs "SayError" 189),some (vs "SayError" 197),some (.builtin "ValueError.__new__"),some (.bool true)] }
noncomputable def o97:Obj:=oT #[.ref 24]
noncomputable def o98:Obj:={ cls:=.type "builtin_function_or_method",data:=Data.fields #[.builtin "type.__prepare__",.type "type"] }
noncomputable def o99(P:Params):Obj:={ cls:=.type "dict",data:=Data.dict #[de P "__module__" 246 (vs "middlesay.errors" 187),de P "__qualname__" 248 (vs "BadTree" 247),de P "__firstlineno__" 250 (.int 8 249),de P "__static_attributes__" 251 (.ref 59)] 4 }
noncomputable def o100:Obj:=oT #[]
noncomputable def o101:Obj:=oN #[]
noncomputable def o102:Obj:=oC #[vs "BadTree" 241,vs "BadTree" 242,vs "/claim/cut.py" 243,.int 8 0,i0,i0,i0,i0,.ref 55,.bool false,.int 181 0,.ref 56,.none,.none,.none,.none,.int 244 0,.int 8 0,vs "/claim/cut.py" 245]
noncomputable def o103:Obj:={ cls:=.type "frame",slots:=#[some (.ref 57),some (.ref 3),some (.ref 54),none,some (vs "middlesay.errors" 187),none,some (.ref 0)] }
noncomputable def o104:Obj:=oT #[]
noncomputable def o105(P:Params):Obj:={ cls:=.type "dict",data:=Data.dict #[de P "__module__" 246 (vs "middlesay.errors" 187),de P "__firstlineno__" 250 (.int 8 249),de P "__static_attributes__" 251 (.ref 59),de P "__doc__" 252 .none] 2 }
noncomputable def o106:Obj:={ cls:=.type "type",data:=Data.cls { name:=Str.ofString "BadTree",bases:=[.ref 24],mro:=[.ref 61,.ref 24,.type "ValueError",.type "Exception",.type "BaseException",.type "object"],ns:=60,qualname:=Str.ofString "BadTree" },slots:=#[some (.ref 52),none,some (vs "BadTree" 239),some (vs "BadTree" 247),some (.builtin "ValueError.__new__"),some (.bool true)] }
noncomputable def o107:Obj:={ cls:=.type "super",data:=Data.fields #[.ref 61,.ref 61,.ref 61] }
noncomputable def o108:Obj:={ cls:=.type "builtin_function_or_method",data:=Data.fields #[.builtin "object.__init_subclass__",.ref 61] }
noncomputable def o109(P:Params):Obj:={ cls:=.type "dict",data:=Data.dict #[de P "__name__" 165 (vs "middlesay.sayings" 271),de P "__doc__" 166 .none,de P "__package__" 167 .none,de P "__loader__" 168 (.builtin "__main__.__loader__#opaque"),de P "__spec__" 169 .none,de P "__annotations__" 170 (.ref 6),de P "__builtins__" 171 (.ref 4),de P "__file__" 173 (vs "/claim/cut.py" 172),de P "__cached__" 174 .none,de P "SayError" 206 (.ref 24),de P "BadSaying" 222 (.ref 37),de P "BadRow" 238 (.ref 49),de P "BadTree" 254 (.ref 61),de P "BadCut" 270 (.ref 73),de P "LETTERS" 274 (vs "abcdefghijklmnopqrstuvwxyz" 273),de P "TOLD" 280 (.ref 76),de P "MOST_LETTERS" 282 (.int 6 281),de P "MOST_DEEP" 284 (.int 100 283),de P "is_whole" 291 (.ref 83),de P "is_name" 297 (.ref 88),de P "is_within" 305 (.ref 95),de P "is_saying" 312 (.ref 102)] 22 }
noncomputable def o110:Obj:=oN #[.int 2 0,i0,.ref 20,.int 4 0,i0,.ref 33,.int 6 0,i0,.ref 45,.int 8 0,i0,.ref 57,.int 10 0,i0,.ref 69,.int 17 0,i0,.ref 82,.int 19 0,i0,.ref 87,.int 23 0,i0,.ref 94,.int 35 0,i0,.ref 101]
noncomputable def o111:Obj:={ cls:=.type "type",data:=Data.cls { name:=Str.ofString "SayError",bases:=[.type "ValueError"],mro:=[.ref 24,.type "ValueError",.type "Exception",.type "BaseException",.type "object"],ns:=23,qualname:=Str.ofString "SayError",subclasses:=[.ref 37,.ref 49,.ref 61,.ref 73] },slots:=#[some (.ref 15),none,some (vs "SayError" 189),some (vs "SayError" 197),some (.builtin "ValueError.__new__"),some (.bool true)] }
noncomputable def o112:Obj:=oT #[.ref 24]
noncomputable def o113:Obj:={ cls:=.type "builtin_function_or_method",data:=Data.fields #[.builtin "type.__prepare__",.type "type"] }
noncomputable def o114(P:Params):Obj:={ cls:=.type "dict",data:=Data.dict #[de P "__module__" 262 (vs "middlesay.errors" 187),de P "__qualname__" 264 (vs "BadCut" 263),de P "__firstlineno__" 266 (.int 10 265),de P "__static_attributes__" 267 (.ref 71)] 4 }
noncomputable def o115:Obj:=oT #[]
noncomputable def o116:Obj:=oN #[]
noncomputable def o117:Obj:=oC #[vs "BadCut" 257,vs "BadCut" 258,vs "/claim/cut.py" 259,.int 10 0,i0,i0,i0,i0,.ref 67,.bool false,.int 181 0,.ref 68,.none,.none,.none,.none,.int 260 0,.int 10 0,vs "/claim/cut.py" 261]
noncomputable def o118:Obj:={ cls:=.type "frame",slots:=#[some (.ref 69),some (.ref 3),some (.ref 66),none,some (vs "middlesay.errors" 187),none,some (.ref 0)] }
noncomputable def o119:Obj:=oT #[]
noncomputable def o120(P:Params):Obj:={ cls:=.type "dict",data:=Data.dict #[de P "__module__" 262 (vs "middlesay.errors" 187),de P "__firstlineno__" 266 (.int 10 265),de P "__static_attributes__" 267 (.ref 71),de P "__doc__" 268 .none] 2 }
noncomputable def o121:Obj:={ cls:=.type "type",data:=Data.cls { name:=Str.ofString "BadCut",bases:=[.ref 24],mro:=[.ref 73,.ref 24,.type "ValueError",.type "Exception",.type "BaseException",.type "object"],ns:=72,qualname:=Str.ofString "BadCut" },slots:=#[some (.ref 64),none,some (vs "BadCut" 255),some (vs "BadCut" 263),some (.builtin "ValueError.__new__"),some (.bool true)] }
noncomputable def o122:Obj:={ cls:=.type "super",data:=Data.fields #[.ref 73,.ref 73,.ref 73] }
noncomputable def o123:Obj:={ cls:=.type "builtin_function_or_method",data:=Data.fields #[.builtin "object.__init_subclass__",.ref 73] }
noncomputable def o124:Obj:=oT #[vs "yes" 275,vs "no" 276,vs "not" 277,vs "and" 278,vs "or" 279]
noncomputable def o125:Obj:=oT #[]
noncomputable def o126:Obj:=oN #[]
noncomputable def o127:Obj:=oT #[vs "thing" 288]
noncomputable def o128:Obj:=oT #[]
noncomputable def o129:Obj:=oU .none (fdM 11 0 .none .none)
noncomputable def o130:Obj:=oC #[vs "is_whole" 285,vs "is_whole" 286,vs "/claim/cut.py" 287,.int 17 0,.int 1 0,i0,i0,.int 3 0,.ref 77,.bool true,.int 181 0,.ref 78,.none,.ref 79,.ref 80,.ref 81,.int 289 0,.int 17 0,vs "/claim/cut.py" 290]
noncomputable def o131:Obj:=oV (fdM 11 3 (vs "middlesay.sayings" 271) (.ref 82))
noncomputable def o132:Obj:=oT #[]
noncomputable def o133:Obj:=oN #[]
noncomputable def o134:Obj:=oU .none (fdM 12 0 .none .none)
noncomputable def o135:Obj:=oC #[vs "is_name" 292,vs "is_name" 293,vs "/claim/cut.py" 294,.int 19 0,.int 1 0,i0,i0,.int 3 0,.ref 84,.bool true,.int 181 0,.ref 85,.none,.none,.none,.ref 86,.int 295 0,.int 19 0,vs "/claim/cut.py" 296]
noncomputable def o136:Obj:=oV (fdM 12 3 (vs "middlesay.sayings" 271) (.ref 87))
noncomputable def o137:Obj:=oT #[]
noncomputable def o138:Obj:=oN #[]
noncomputable def o139:Obj:=oT #[vs "thing" 301,vs "deep" 302]
noncomputable def o140:Obj:=oT #[]
noncomputable def o141:Obj:=oU .none (fdM 13 0 .none .none)
noncomputable def o142:Obj:=oC #[vs "is_within" 298,vs "is_within" 299,vs "/claim/cut.py" 300,.int 23 0,.int 2 0,i0,i0,.int 3 0,.ref 89,.bool true,.int 181 0,.ref 90,.none,.ref 91,.ref 92,.ref 93,.int 303 0,.int 23 0,vs "/claim/cut.py" 304]
noncomputable def o143:Obj:=oV (fdM 13 3 (vs "middlesay.sayings" 271) (.ref 94))
noncomputable def o144:Obj:=oT #[]
noncomputable def o145:Obj:=oN #[]
noncomputable def o146:Obj:=oT #[vs "thing" 309]
noncomputable def o147:Obj:=oT #[]
noncomputable def o148:Obj:=oU .none (fdM 14 0 .none .none)
noncomputable def o149:Obj:=oC #[vs "is_saying" 306,vs "is_saying" 307,vs "/claim/cut.py" 308,.int 35 0,.int 1 0,i0,i0,.int 3 0,.ref 96,.bool true,.int 181 0,.ref 97,.none,.ref 98,.ref 99,.ref 100,.int 310 0,.int 35 0,vs "/claim/cut.py" 311]
noncomputable def o150:Obj:=oV (fdM 14 3 (vs "middlesay.sayings" 271) (.ref 101))
noncomputable def o151(P:Params):Obj:={ cls:=.type "dict",data:=Data.dict #[de P "__name__" 165 (vs "middlesay.trees" 381),de P "__doc__" 166 .none,de P "__package__" 167 .none,de P "__loader__" 168 (.builtin "__main__.__loader__#opaque"),de P "__spec__" 169 .none,de P "__annotations__" 170 (.ref 6),de P "__builtins__" 171 (.ref 4),de P "__file__" 173 (vs "/claim/cut.py" 172),de P "__cached__" 174 .none,de P "SayError" 206 (.ref 24),de P "BadSaying" 222 (.ref 37),de P "BadRow" 238 (.ref 49),de P "BadTree" 254 (.ref 61),de P "BadCut" 270 (.ref 73),de P "LETTERS" 274 (vs "abcdefghijklmnopqrstuvwxyz" 273),de P "TOLD" 280 (.ref 76),de P "MOST_LETTERS" 282 (.int 6 281),de P "MOST_DEEP" 284 (.int 100 283),de P "is_whole" 291 (.ref 83),de P "is_name" 297 (.ref 88),de P "is_within" 305 (.ref 95),de P "is_saying" 312 (.ref 102),de P "need_saying" 319 (.ref 109),de P "halves" 326 (.ref 116),de P "size_in" 332 (.ref 121),de P "gather_names" 341 (.ref 128),de P "names_in" 350 (.ref 135),de P "MOST_SAYINGS" 354 (.int 6 353),de P "MOST_SIZE" 356 (.int 60 355),de P "need_row" 362 (.ref 140),de P "begun" 368 (.ref 145),de P "parts" 380 (.ref 152),de P "same_claim" 390 (.ref 159),de P "without" 400 (.ref 166),de P "clashes" 408 (.ref 173),de P "stands_for" 419 (.ref 180)] 36 }
noncomputable def o152:Obj:=oN #[.int 2 0,i0,.ref 20,.int 4 0,i0,.ref 33,.int 6 0,i0,.ref 45,.int 8 0,i0,.ref 57,.int 10 0,i0,.ref 69,.int 17 0,i0,.ref 82,.int 19 0,i0,.ref 87,.int 23 0,i0,.ref 94,.int 35 0,i0,.ref 101,.int 37 0,i0,.ref 108,.int 40 0,i0,.ref 115,.int 44 0,i0,.ref 120,.int 46 0,i0,.ref 127,.int 51 0,i0,.ref 134,.int 59 0,i0,.ref 139,.int 66 0,i0,.ref 144,.int 69 0,i0,.ref 151,.int 81 0,i0,.ref 158,.int 85 0,i0,.ref 165,.int 90 0,i0,.ref 172,.int 92 0,i0,.ref 179]
noncomputable def o153:Obj:=oT #[]
noncomputable def o154:Obj:=oN #[]
noncomputable def o155:Obj:=oT #[vs "thing" 316]
noncomputable def o156:Obj:=oT #[]
noncomputable def o157:Obj:=oU .none (fdM 15 0 .none .none)
noncomputable def o158:Obj:=oC #[vs "need_saying" 313,vs "need_saying" 314,vs "/claim/cut.py" 315,.int 37 0,.int 1 0,i0,i0,.int 3 0,.ref 103,.bool true,.int 181 0,.ref 104,.none,.ref 105,.ref 106,.ref 107,.int 317 0,.int 37 0,vs "/claim/cut.py" 318]
noncomputable def o159:Obj:=oV (fdM 15 3 (vs "middlesay.sayings" 271) (.ref 108))
noncomputable def o160:Obj:=oT #[]
noncomputable def o161:Obj:=oN #[]
noncomputable def o162:Obj:=oT #[vs "saying" 323]
noncomputable def o163:Obj:=oT #[]
noncomputable def o164:Obj:=oU .none (fdM 16 0 .none .none)
noncomputable def o165:Obj:=oC #[vs "halves" 320,vs "halves" 321,vs "/claim/cut.py" 322,.int 40 0,.int 1 0,i0,i0,.int 3 0,.ref 110,.bool true,.int 181 0,.ref 111,.none,.ref 112,.ref 113,.ref 114,.int 324 0,.int 40 0,vs "/claim/cut.py" 325]
noncomputable def o166:Obj:=oV (fdM 16 3 (vs "middlesay.sayings" 271) (.ref 115))
noncomputable def o167:Obj:=oT #[]
noncomputable def o168:Obj:=oN #[]
noncomputable def o169:Obj:=oU .none (fdM 17 0 .none .none)
noncomputable def o170:Obj:=oC #[vs "size_in" 327,vs "size_in" 328,vs "/claim/cut.py" 329,.int 44 0,.int 1 0,i0,i0,.int 3 0,.ref 117,.bool true,.int 181 0,.ref 118,.none,.none,.none,.ref 119,.int 330 0,.int 44 0,vs "/claim/cut.py" 331]
noncomputable def o171:Obj:=oV (fdM 17 3 (vs "middlesay.sayings" 271) (.ref 120))
noncomputable def o172:Obj:=oT #[]
noncomputable def o173:Obj:=oN #[]
noncomputable def o174:Obj:=oT #[vs "saying" 336,vs "found" 337,vs "part" 338]
noncomputable def o175:Obj:=oT #[]
noncomputable def o176:Obj:=oU .none (fdM 18 0 .none .none)
noncomputable def o177:Obj:=oC #[vs "gather_names" 333,vs "gather_names" 334,vs "/claim/cut.py" 335,.int 46 0,.int 2 0,i0,i0,.int 3 0,.ref 122,.bool true,.int 181 0,.ref 123,.none,.ref 124,.ref 125,.ref 126,.int 339 0,.int 46 0,vs "/claim/cut.py" 340]
noncomputable def o178:Obj:=oV (fdM 18 3 (vs "middlesay.sayings" 271) (.ref 127))
noncomputable def o179:Obj:=oT #[]
noncomputable def o180:Obj:=oN #[]
noncomputable def o181:Obj:=oT #[vs "sayings" 345,vs "found" 346,vs "saying" 347]
noncomputable def o182:Obj:=oT #[]
noncomputable def o183:Obj:=oU .none (fdM 19 0 .none .none)
noncomputable def o184:Obj:=oC #[vs "names_in" 342,vs "names_in" 343,vs "/claim/cut.py" 344,.int 51 0,.int 1 0,i0,i0,.int 3 0,.ref 129,.bool true,.int 181 0,.ref 130,.none,.ref 131,.ref 132,.ref 133,.int 348 0,.int 51 0,vs "/claim/cut.py" 349]
noncomputable def o185:Obj:=oV (fdM 19 3 (vs "middlesay.sayings" 271) (.ref 134))
noncomputable def o186:Obj:=oT #[]
noncomputable def o187:Obj:=oN #[]
noncomputable def o188:Obj:=oU .none (fdM 23 0 .none .none)
noncomputable def o189:Obj:=oC #[vs "need_row" 357,vs "need_row" 358,vs "/claim/cut.py" 359,.int 59 0,.int 1 0,i0,i0,.int 3 0,.ref 136,.bool true,.int 181 0,.ref 137,.none,.none,.none,.ref 138,.int 360 0,.int 59 0,vs "/claim/cut.py" 361]
noncomputable def o190:Obj:=oV (fdM 23 3 (vs "middlesay.claims" 351) (.ref 139))
noncomputable def o191:Obj:=oT #[]
noncomputable def o192:Obj:=oN #[]
noncomputable def o193:Obj:=oU .none (fdM 24 0 .none .none)
noncomputable def o194:Obj:=oC #[vs "begun" 363,vs "begun" 364,vs "/claim/cut.py" 365,.int 66 0,.int 1 0,i0,i0,.int 3 0,.ref 141,.bool true,.int 181 0,.ref 142,.none,.none,.none,.ref 143,.int 366 0,.int 66 0,vs "/claim/cut.py" 367]
noncomputable def o195:Obj:=oV (fdM 24 3 (vs "middlesay.claims" 351) (.ref 144))
noncomputable def o196:Obj:=oT #[]
noncomputable def o197:Obj:=oN #[]
noncomputable def o198:Obj:=oT #[vs "claim" 372,vs "number" 373,vs "truth" 374,vs "saying" 375,vs "word" 376,vs "some" 377]
noncomputable def o199:Obj:=oT #[]
noncomputable def o200:Obj:=oU .none (fdM 25 0 .none .none)
noncomputable def o201:Obj:=oC #[vs "parts" 369,vs "parts" 370,vs "/claim/cut.py" 371,.int 69 0,.int 1 0,i0,i0,.int 3 0,.ref 146,.bool true,.int 181 0,.ref 147,.none,.ref 148,.ref 149,.ref 150,.int 378 0,.int 69 0,vs "/claim/cut.py" 379]
noncomputable def o202:Obj:=oV (fdM 25 3 (vs "middlesay.claims" 351) (.ref 151))
noncomputable def o203:Obj:=oT #[]
noncomputable def o204:Obj:=oN #[]
noncomputable def o205:Obj:=oT #[vs "one" 386,vs "other" 387]
noncomputable def o206:Obj:=oT #[]
noncomputable def o207:Obj:=oU .none (fdM 27 0 .none .none)
noncomputable def o208:Obj:=oC #[vs "same_claim" 383,vs "same_claim" 384,vs "/claim/cut.py" 385,.int 81 0,.int 2 0,i0,i0,.int 3 0,.ref 153,.bool true,.int 181 0,.ref 154,.none,.ref 155,.ref 156,.ref 157,.int 388 0,.int 81 0,vs "/claim/cut.py" 389]
noncomputable def o209:Obj:=oV (fdM 27 3 (vs "middlesay.trees" 381) (.ref 158))
noncomputable def o210:Obj:=oT #[]
noncomputable def o211:Obj:=oN #[]
noncomputable def o212:Obj:=oT #[vs "claims" 394,vs "claim" 395,vs "place" 396,vs "other" 397]
noncomputable def o213:Obj:=oT #[]
noncomputable def o214:Obj:=oU .none (fdM 28 0 .none .none)
noncomputable def o215:Obj:=oC #[vs "without" 391,vs "without" 392,vs "/claim/cut.py" 393,.int 85 0,.int 2 0,i0,i0,.int 3 0,.ref 160,.bool true,.int 181 0,.ref 161,.none,.ref 162,.ref 163,.ref 164,.int 398 0,.int 85 0,vs "/claim/cut.py" 399]
noncomputable def o216:Obj:=oV (fdM 28 3 (vs "middlesay.trees" 381) (.ref 165))
noncomputable def o217:Obj:=oT #[]
noncomputable def o218:Obj:=oN #[]
noncomputable def o219:Obj:=oT #[vs "claim" 404,vs "other" 405]
noncomputable def o220:Obj:=oT #[]
noncomputable def o221:Obj:=oU .none (fdM 29 0 .none .none)
noncomputable def o222:Obj:=oC #[vs "clashes" 401,vs "clashes" 402,vs "/claim/cut.py" 403,.int 90 0,.int 2 0,i0,i0,.int 3 0,.ref 167,.bool true,.int 181 0,.ref 168,.none,.ref 169,.ref 170,.ref 171,.int 406 0,.int 90 0,vs "/claim/cut.py" 407]
noncomputable def o223:Obj:=oV (fdM 29 3 (vs "middlesay.trees" 381) (.ref 172))
noncomputable def o224:Obj:=oT #[]
noncomputable def o225:Obj:=oN #[]
noncomputable def o226:Obj:=oT #[vs "claims" 412,vs "tree" 413,vs "left" 414,vs "kind" 415,vs "some" 416]
noncomputable def o227:Obj:=oT #[]
noncomputable def o228:Obj:=oU .none (fdM 30 0 .none .none)
noncomputable def o229:Obj:=oC #[vs "stands_for" 409,vs "stands_for" 410,vs "/claim/cut.py" 411,.int 92 0,.int 2 0,i0,i0,.int 3 0,.ref 174,.bool true,.int 181 0,.ref 175,.none,.ref 176,.ref 177,.ref 178,.int 417 0,.int 92 0,vs "/claim/cut.py" 418]
noncomputable def o230:Obj:=oV (fdM 30 3 (vs "middlesay.trees" 381) (.ref 179))
noncomputable def o231(P:Params):Obj:={ cls:=.type "dict",data:=Data.dict #[de P "__name__" 165 (vs "middlesay.leading" 518),de P "__doc__" 166 .none,de P "__package__" 167 .none,de P "__loader__" 168 (.builtin "__main__.__loader__#opaque"),de P "__spec__" 169 .none,de P "__annotations__" 170 (.ref 6),de P "__builtins__" 171 (.ref 4),de P "__file__" 173 (vs "/claim/cut.py" 172),de P "__cached__" 174 .none,de P "SayError" 206 (.ref 24),de P "BadSaying" 222 (.ref 37),de P "BadRow" 238 (.ref 49),de P "BadTree" 254 (.ref 61),de P "BadCut" 270 (.ref 73),de P "LETTERS" 274 (vs "abcdefghijklmnopqrstuvwxyz" 273),de P "TOLD" 280 (.ref 76),de P "MOST_LETTERS" 282 (.int 6 281),de P "MOST_DEEP" 284 (.int 100 283),de P "is_whole" 291 (.ref 83),de P "is_name" 297 (.ref 88),de P "is_within" 305 (.ref 95),de P "is_saying" 312 (.ref 102),de P "need_saying" 319 (.ref 109),de P "halves" 326 (.ref 116),de P "size_in" 332 (.ref 121),de P "gather_names" 341 (.ref 128),de P "names_in" 350 (.ref 135),de P "MOST_SAYINGS" 354 (.int 6 353),de P "MOST_SIZE" 356 (.int 60 355),de P "need_row" 362 (.ref 140),de P "begun" 368 (.ref 145),de P "parts" 380 (.ref 152),de P "same_claim" 390 (.ref 159),de P "without" 400 (.ref 166),de P "clashes" 408 (.ref 173),de P "stands_for" 419 (.ref 180),de P "stands" 427 (.ref 187),de P "ended" 436 (.ref 194),de P "next_claim" 442 (.ref 199),de P "setting_of" 453 (.ref 206),de P "worked" 468 (.ref 213),de P "shut" 479 (.ref 220),de P "need_tree" 489 (.ref 227),de P "of_clash" 498 (.ref 234),de P "of_tree" 508 (.ref 241),de P "middle" 517 (.ref 248),de P "MOST_TOGETHER" 521 (.int 59 520),de P "joined" 531 (.ref 255)] 48 }
noncomputable def o232:Obj:=oN #[.int 2 0,i0,.ref 20,.int 4 0,i0,.ref 33,.int 6 0,i0,.ref 45,.int 8 0,i0,.ref 57,.int 10 0,i0,.ref 69,.int 17 0,i0,.ref 82,.int 19 0,i0,.ref 87,.int 23 0,i0,.ref 94,.int 35 0,i0,.ref 101,.int 37 0,i0,.ref 108,.int 40 0,i0,.ref 115,.int 44 0,i0,.ref 120,.int 46 0,i0,.ref 127,.int 51 0,i0,.ref 134,.int 59 0,i0,.ref 139,.int 66 0,i0,.ref 144,.int 69 0,i0,.ref 151,.int 81 0,i0,.ref 158,.int 85 0,i0,.ref 165,.int 90 0,i0,.ref 172,.int 92 0,i0,.ref 179,.int 108 0,i0,.ref 186,.int 110 0,i0,.ref 193,.int 118 0,i0,.ref 198,.int 131 0,i0,.ref 205,.int 137 0,i0,.ref 212,.int 158 0,i0,.ref 219,.int 167 0,i0,.ref 226,.int 171 0,i0,.ref 233,.int 178 0,i0,.ref 240,.int 188 0,i0,.ref 247,.int 195 0,i0,.ref 254]
noncomputable def o233:Obj:=oT #[]
noncomputable def o234:Obj:=oN #[]
noncomputable def o235:Obj:=oT #[vs "row" 423,vs "tree" 424]
noncomputable def o236:Obj:=oT #[]
noncomputable def o237:Obj:=oU .none (fdM 31 0 .none .none)
noncomputable def o238:Obj:=oC #[vs "stands" 420,vs "stands" 421,vs "/claim/cut.py" 422,.int 108 0,.int 2 0,i0,i0,.int 3 0,.ref 181,.bool true,.int 181 0,.ref 182,.none,.ref 183,.ref 184,.ref 185,.int 425 0,.int 108 0,vs "/claim/cut.py" 426]
noncomputable def o239:Obj:=oV (fdM 31 3 (vs "middlesay.trees" 381) (.ref 186))
noncomputable def o240:Obj:=oT #[]
noncomputable def o241:Obj:=oN #[]
noncomputable def o242:Obj:=oT #[vs "claims" 431,vs "claim" 432,vs "other" 433]
noncomputable def o243:Obj:=oT #[]
noncomputable def o244:Obj:=oU .none (fdM 32 0 .none .none)
noncomputable def o245:Obj:=oC #[vs "ended" 428,vs "ended" 429,vs "/claim/cut.py" 430,.int 110 0,.int 1 0,i0,i0,.int 3 0,.ref 188,.bool true,.int 181 0,.ref 189,.none,.ref 190,.ref 191,.ref 192,.int 434 0,.int 110 0,vs "/claim/cut.py" 435]
noncomputable def o246:Obj:=oV (fdM 32 3 (vs "middlesay.trees" 381) (.ref 193))
noncomputable def o247:Obj:=oT #[]
noncomputable def o248:Obj:=oN #[]
noncomputable def o249:Obj:=oU .none (fdM 33 0 .none .none)
noncomputable def o250:Obj:=oC #[vs "next_claim" 437,vs "next_claim" 438,vs "/claim/cut.py" 439,.int 118 0,.int 1 0,i0,i0,.int 3 0,.ref 195,.bool true,.int 181 0,.ref 196,.none,.none,.none,.ref 197,.int 440 0,.int 118 0,vs "/claim/cut.py" 441]
noncomputable def o251:Obj:=oV (fdM 33 3 (vs "middlesay.trees" 381) (.ref 198))
noncomputable def o252:Obj:=oT #[]
noncomputable def o253:Obj:=oN #[]
noncomputable def o254:Obj:=oT #[vs "claims" 446,vs "found" 447,vs "number" 448,vs "truth" 449,vs "saying" 450]
noncomputable def o255:Obj:=oT #[]
noncomputable def o256:Obj:=oU .none (fdM 34 0 .none .none)
noncomputable def o257:Obj:=oC #[vs "setting_of" 443,vs "setting_of" 444,vs "/claim/cut.py" 445,.int 131 0,.int 1 0,i0,i0,.int 3 0,.ref 200,.bool true,.int 181 0,.ref 201,.none,.ref 202,.ref 203,.ref 204,.int 451 0,.int 131 0,vs "/claim/cut.py" 452]
noncomputable def o258:Obj:=oV (fdM 34 3 (vs "middlesay.trees" 381) (.ref 205))
noncomputable def o259:Obj:=oT #[]
noncomputable def o260:Obj:=oN #[]
noncomputable def o261:Obj:=oT #[vs "claims" 457,vs "tree" 458,vs "claim" 459,vs "kind" 460,vs "some" 461,vs "left" 462,vs "setting" 463,vs "first" 464,vs "second" 465]
noncomputable def o262:Obj:=oT #[]
noncomputable def o263:Obj:=oU .none (fdM 35 0 .none .none)
noncomputable def o264:Obj:=oC #[vs "worked" 454,vs "worked" 455,vs "/claim/cut.py" 456,.int 137 0,.int 1 0,i0,i0,.int 3 0,.ref 207,.bool true,.int 181 0,.ref 208,.none,.ref 209,.ref 210,.ref 211,.int 466 0,.int 137 0,vs "/claim/cut.py" 467]
noncomputable def o265:Obj:=oV (fdM 35 3 (vs "middlesay.trees" 381) (.ref 212))
noncomputable def o266:Obj:=oT #[]
noncomputable def o267:Obj:=oN #[]
noncomputable def o268:Obj:=oT #[vs "row" 472,vs "tree" 473,vs "setting" 474,vs "found" 475,vs "name" 476]
noncomputable def o269:Obj:=oT #[]
noncomputable def o270:Obj:=oU .none (fdM 36 0 .none .none)
noncomputable def o271:Obj:=oC #[vs "shut" 469,vs "shut" 470,vs "/claim/cut.py" 471,.int 158 0,.int 1 0,i0,i0,.int 3 0,.ref 214,.bool true,.int 181 0,.ref 215,.none,.ref 216,.ref 217,.ref 218,.int 477 0,.int 158 0,vs "/claim/cut.py" 478]
noncomputable def o272:Obj:=oV (fdM 36 3 (vs "middlesay.trees" 381) (.ref 219))
noncomputable def o273:Obj:=oT #[]
noncomputable def o274:Obj:=oN #[]
noncomputable def o275:Obj:=oT #[vs "row" 485,vs "tree" 486]
noncomputable def o276:Obj:=oT #[]
noncomputable def o277:Obj:=oU .none (fdM 38 0 .none .none)
noncomputable def o278:Obj:=oC #[vs "need_tree" 482,vs "need_tree" 483,vs "/claim/cut.py" 484,.int 167 0,.int 2 0,i0,i0,.int 3 0,.ref 221,.bool true,.int 181 0,.ref 222,.none,.ref 223,.ref 224,.ref 225,.int 487 0,.int 167 0,vs "/claim/cut.py" 488]
noncomputable def o279:Obj:=oV (fdM 38 3 (vs "middlesay.middles" 480) (.ref 226))
noncomputable def o280:Obj:=oT #[]
noncomputable def o281:Obj:=oN #[]
noncomputable def o282:Obj:=oT #[vs "tree" 493,vs "cut" 494,vs "is_ahead" 495]
noncomputable def o283:Obj:=oT #[]
noncomputable def o284:Obj:=oU .none (fdM 39 0 .none .none)
noncomputable def o285:Obj:=oC #[vs "of_clash" 490,vs "of_clash" 491,vs "/claim/cut.py" 492,.int 171 0,.int 2 0,i0,i0,.int 3 0,.ref 228,.bool true,.int 181 0,.ref 229,.none,.ref 230,.ref 231,.ref 232,.int 496 0,.int 171 0,vs "/claim/cut.py" 497]
noncomputable def o286:Obj:=oV (fdM 39 3 (vs "middlesay.middles" 480) (.ref 233))
noncomputable def o287:Obj:=oT #[]
noncomputable def o288:Obj:=oN #[]
noncomputable def o289:Obj:=oT #[vs "tree" 502,vs "cut" 503,vs "is_ahead" 504,vs "word" 505]
noncomputable def o290:Obj:=oT #[]
noncomputable def o291:Obj:=oU .none (fdM 40 0 .none .none)
noncomputable def o292:Obj:=oC #[vs "of_tree" 499,vs "of_tree" 500,vs "/claim/cut.py" 501,.int 178 0,.int 2 0,i0,i0,.int 3 0,.ref 235,.bool true,.int 181 0,.ref 236,.none,.ref 237,.ref 238,.ref 239,.int 506 0,.int 178 0,vs "/claim/cut.py" 507]
noncomputable def o293:Obj:=oV (fdM 40 3 (vs "middlesay.middles" 480) (.ref 240))
noncomputable def o294:Obj:=oT #[]
noncomputable def o295:Obj:=oN #[]
noncomputable def o296:Obj:=oT #[vs "row" 512,vs "tree" 513,vs "cut" 514]
noncomputable def o297:Obj:=oT #[]
noncomputable def o298:Obj:=oU .none (fdM 41 0 .none .none)
noncomputable def o299:Obj:=oC #[vs "middle" 509,vs "middle" 510,vs "/claim/cut.py" 511,.int 188 0,.int 3 0,i0,i0,.int 3 0,.ref 242,.bool true,.int 181 0,.ref 243,.none,.ref 244,.ref 245,.ref 246,.int 515 0,.int 188 0,vs "/claim/cut.py" 516]
noncomputable def o300:Obj:=oV (fdM 41 3 (vs "middlesay.middles" 480) (.ref 247))
noncomputable def o301:Obj:=oT #[]
noncomputable def o302:Obj:=oN #[]
noncomputable def o303:Obj:=oT #[vs "word" 525,vs "one" 526,vs "other" 527,vs "ends" 528]
noncomputable def o304:Obj:=oT #[]
noncomputable def o305:Obj:=oU .none (fdM 44 0 .none .none)
noncomputable def o306:Obj:=oC #[vs "joined" 522,vs "joined" 523,vs "/claim/cut.py" 524,.int 195 0,.int 3 0,i0,i0,.int 3 0,.ref 249,.bool true,.int 181 0,.ref 250,.none,.ref 251,.ref 252,.ref 253,.int 529 0,.int 195 0,vs "/claim/cut.py" 530]
noncomputable def o307:Obj:=oV (fdM 44 3 (vs "middlesay.leading" 518) (.ref 254))
noncomputable def o308(P:Params):Obj:={ cls:=.type "dict",data:=Data.dict #[de P "__name__" 165 (vs "law_uf010027_11" 552),de P "__doc__" 166 .none,de P "__package__" 167 .none,de P "__loader__" 168 (.builtin "__main__.__loader__#opaque"),de P "__spec__" 169 .none,de P "__annotations__" 170 (.ref 6),de P "__builtins__" 171 (.ref 4),de P "__file__" 173 (vs "/claim/cut.py" 172),de P "__cached__" 174 .none,de P "SayError" 206 (.ref 24),de P "BadSaying" 222 (.ref 37),de P "BadRow" 238 (.ref 49),de P "BadTree" 254 (.ref 61),de P "BadCut" 270 (.ref 73),de P "LETTERS" 274 (vs "abcdefghijklmnopqrstuvwxyz" 273),de P "TOLD" 280 (.ref 76),de P "MOST_LETTERS" 282 (.int 6 281),de P "MOST_DEEP" 284 (.int 100 283),de P "is_whole" 291 (.ref 83),de P "is_name" 297 (.ref 88),de P "is_within" 305 (.ref 95),de P "is_saying" 312 (.ref 102),de P "need_saying" 319 (.ref 109),de P "halves" 326 (.ref 116),de P "size_in" 332 (.ref 121),de P "gather_names" 341 (.ref 128),de P "names_in" 350 (.ref 135),de P "MOST_SAYINGS" 354 (.int 6 353),de P "MOST_SIZE" 356 (.int 60 355),de P "need_row" 362 (.ref 140),de P "begun" 368 (.ref 145),de P "parts" 380 (.ref 152),de P "same_claim" 390 (.ref 159),de P "without" 400 (.ref 166),de P "clashes" 408 (.ref 173),de P "stands_for" 419 (.ref 180),de P "stands" 427 (.ref 187),de P "ended" 436 (.ref 194),de P "next_claim" 442 (.ref 199),de P "setting_of" 453 (.ref 206),de P "worked" 468 (.ref 213),de P "shut" 479 (.ref 220),de P "need_tree" 489 (.ref 227),de P "of_clash" 498 (.ref 234),de P "of_tree" 508 (.ref 241),de P "middle" 517 (.ref 248),de P "MOST_TOGETHER" 521 (.int 59 520),de P "joined" 531 (.ref 255),de P "neatly" 540 (.ref 262),de P "leads" 551 (.ref 269),de P "_law_cell_at" 561 (.ref 276),de P "_law_names" 567 (.ref 281),de P "_law_saying" 581 (.ref 288),de P "_law_met" 587 (.ref 293),de P "_law_true" 595 (.ref 300),de P "_law_is_name" 601 (.ref 305),de P "_law_is_saying" 607 (.ref 310),de P "_law_settings" 620 (.ref 317),de P "_law_is_neat" 627 (.ref 324),de P "_law_is_neat_whole" 634 (.ref 331)] 60 }
noncomputable def o309:Obj:=oN #[.int 2 0,i0,.ref 20,.int 4 0,i0,.ref 33,.int 6 0,i0,.ref 45,.int 8 0,i0,.ref 57,.int 10 0,i0,.ref 69,.int 17 0,i0,.ref 82,.int 19 0,i0,.ref 87,.int 23 0,i0,.ref 94,.int 35 0,i0,.ref 101,.int 37 0,i0,.ref 108,.int 40 0,i0,.ref 115,.int 44 0,i0,.ref 120,.int 46 0,i0,.ref 127,.int 51 0,i0,.ref 134,.int 59 0,i0,.ref 139,.int 66 0,i0,.ref 144,.int 69 0,i0,.ref 151,.int 81 0,i0,.ref 158,.int 85 0,i0,.ref 165,.int 90 0,i0,.ref 172,.int 92 0,i0,.ref 179,.int 108 0,i0,.ref 186,.int 110 0,i0,.ref 193,.int 118 0,i0,.ref 198,.int 131 0,i0,.ref 205,.int 137 0,i0,.ref 212,.int 158 0,i0,.ref 219,.int 167 0,i0,.ref 226,.int 171 0,i0,.ref 233,.int 178 0,i0,.ref 240,.int 188 0,i0,.ref 247,.int 195 0,i0,.ref 254,.int 206 0,i0,.ref 261,.int 220 0,i0,.ref 268,.int 231 0,i0,.ref 275,.int 235 0,i0,.ref 280,.int 251 0,i0,.ref 287,.int 265 0,i0,.ref 292,.int 272 0,i0,.ref 299,.int 282 0,i0,.ref 304,.int 286 0,i0,.ref 309,.int 295 0,i0,.ref 316,.int 306 0,i0,.ref 323,.int 314 0,i0,.ref 330]
noncomputable def o310:Obj:=oT #[]
noncomputable def o311:Obj:=oN #[]
noncomputable def o312:Obj:=oT #[vs "saying" 535,vs "word" 536,vs "inner" 537]
noncomputable def o313:Obj:=oT #[]
noncomputable def o314:Obj:=oU .none (fdM 45 0 .none .none)
noncomputable def o315:Obj:=oC #[vs "neatly" 532,vs "neatly" 533,vs "/claim/cut.py" 534,.int 206 0,.int 1 0,i0,i0,.int 3 0,.ref 256,.bool true,.int 181 0,.ref 257,.none,.ref 258,.ref 259,.ref 260,.int 538 0,.int 206 0,vs "/claim/cut.py" 539]
noncomputable def o316:Obj:=oV (fdM 45 3 (vs "middlesay.leading" 518) (.ref 261))
noncomputable def o317:Obj:=oT #[]
noncomputable def o318:Obj:=oN #[]
noncomputable def o319:Obj:=oT #[vs "first" 544,vs "second" 545,vs "row" 546,vs "kind" 547,vs "found" 548]
noncomputable def o320:Obj:=oT #[]
noncomputable def o321:Obj:=oU .none (fdM 46 0 .none .none)
noncomputable def o322:Obj:=oC #[vs "leads" 541,vs "leads" 542,vs "/claim/cut.py" 543,.int 220 0,.int 2 0,i0,i0,.int 3 0,.ref 263,.bool true,.int 181 0,.ref 264,.none,.ref 265,.ref 266,.ref 267,.int 549 0,.int 220 0,vs "/claim/cut.py" 550]
noncomputable def o323:Obj:=oV (fdM 46 3 (vs "middlesay.leading" 518) (.ref 268))
noncomputable def o324:Obj:=oT #[]
noncomputable def o325:Obj:=oN #[]
noncomputable def o326:Obj:=oT #[vs "_law_script" 557,vs "_law_k" 558]
noncomputable def o327:Obj:=oT #[]
noncomputable def o328:Obj:=oU .none (fdM 48 0 .none .none)
noncomputable def o329:Obj:=oC #[vs "_law_cell_at" 554,vs "_law_cell_at" 555,vs "/claim/cut.py" 556,.int 231 0,.int 2 0,i0,i0,.int 3 0,.ref 270,.bool true,.int 181 0,.ref 271,.none,.ref 272,.ref 273,.ref 274,.int 559 0,.int 231 0,vs "/claim/cut.py" 560]
noncomputable def o330:Obj:=oV (fdM 48 3 (vs "law_uf010027_11" 552) (.ref 275))
noncomputable def o331:Obj:=oT #[]
noncomputable def o332:Obj:=oN #[]
noncomputable def o333:Obj:=oU .none (fdM 49 0 .none .none)
noncomputable def o334:Obj:=oC #[vs "_law_names" 562,vs "_law_names" 563,vs "/claim/cut.py" 564,.int 235 0,.int 2 0,i0,i0,.int 3 0,.ref 277,.bool true,.int 181 0,.ref 278,.none,.none,.none,.ref 279,.int 565 0,.int 235 0,vs "/claim/cut.py" 566]
noncomputable def o335:Obj:=oV (fdM 49 3 (vs "law_uf010027_11" 552) (.ref 280))
noncomputable def o336:Obj:=oT #[]
noncomputable def o337:Obj:=oN #[]
noncomputable def o338:Obj:=oT #[vs "_law_cell" 571,vs "_law_size" 572,vs "_law_names_here" 573,vs "_law_pick" 574,vs "_law_way" 575,vs "_law_left" 576,vs "_law_one" 577,vs "_law_other" 578]
noncomputable def o339:Obj:=oT #[]
noncomputable def o340:Obj:=oU .none (fdM 50 0 .none .none)
noncomputable def o341:Obj:=oC #[vs "_law_saying" 568,vs "_law_saying" 569,vs "/claim/cut.py" 570,.int 251 0,.int 3 0,i0,i0,.int 3 0,.ref 282,.bool true,.int 181 0,.ref 283,.none,.ref 284,.ref 285,.ref 286,.int 579 0,.int 251 0,vs "/claim/cut.py" 580]
noncomputable def o342:Obj:=oV (fdM 50 3 (vs "law_uf010027_11" 552) (.ref 287))
noncomputable def o343:Obj:=oT #[]
noncomputable def o344:Obj:=oN #[]
noncomputable def o345:Obj:=oU .none (fdM 51 0 .none .none)
noncomputable def o346:Obj:=oC #[vs "_law_met" 582,vs "_law_met" 583,vs "/claim/cut.py" 584,.int 265 0,.int 1 0,i0,i0,.int 3 0,.ref 289,.bool true,.int 181 0,.ref 290,.none,.none,.none,.ref 291,.int 585 0,.int 265 0,vs "/claim/cut.py" 586]
noncomputable def o347:Obj:=oV (fdM 51 3 (vs "law_uf010027_11" 552) (.ref 292))
noncomputable def o348:Obj:=oT #[]
noncomputable def o349:Obj:=oN #[]
noncomputable def o350:Obj:=oT #[vs "_law_saying_here" 591,vs "_law_setting" 592]
noncomputable def o351:Obj:=oT #[]
noncomputable def o352:Obj:=oU .none (fdM 52 0 .none .none)
noncomputable def o353:Obj:=oC #[vs "_law_true" 588,vs "_law_true" 589,vs "/claim/cut.py" 590,.int 272 0,.int 2 0,i0,i0,.int 3 0,.ref 294,.bool true,.int 181 0,.ref 295,.none,.ref 296,.ref 297,.ref 298,.int 593 0,.int 272 0,vs "/claim/cut.py" 594]
noncomputable def o354:Obj:=oV (fdM 52 3 (vs "law_uf010027_11" 552) (.ref 299))
noncomputable def o355:Obj:=oT #[]
noncomputable def o356:Obj:=oN #[]
noncomputable def o357:Obj:=oU .none (fdM 53 0 .none .none)
noncomputable def o358:Obj:=oC #[vs "_law_is_name" 596,vs "_law_is_name" 597,vs "/claim/cut.py" 598,.int 282 0,.int 1 0,i0,i0,.int 3 0,.ref 301,.bool true,.int 181 0,.ref 302,.none,.none,.none,.ref 303,.int 599 0,.int 282 0,vs "/claim/cut.py" 600]
noncomputable def o359:Obj:=oV (fdM 53 3 (vs "law_uf010027_11" 552) (.ref 304))
noncomputable def o360:Obj:=oT #[]
noncomputable def o361:Obj:=oN #[]
noncomputable def o362:Obj:=oU .none (fdM 54 0 .none .none)
noncomputable def o363:Obj:=oC #[vs "_law_is_saying" 602,vs "_law_is_saying" 603,vs "/claim/cut.py" 604,.int 286 0,.int 1 0,i0,i0,.int 3 0,.ref 306,.bool true,.int 181 0,.ref 307,.none,.none,.none,.ref 308,.int 605 0,.int 286 0,vs "/claim/cut.py" 606]
noncomputable def o364:Obj:=oV (fdM 54 3 (vs "law_uf010027_11" 552) (.ref 309))
noncomputable def o365:Obj:=oT #[]
noncomputable def o366:Obj:=oN #[]
noncomputable def o367:Obj:=oT #[vs "_law_names_here" 611,vs "_law_found" 612,vs "_law_name" 613,vs "_law_more" 614,vs "_law_one" 615,vs "_law_truth" 616,vs "_law_fresh" 617]
noncomputable def o368:Obj:=oT #[]
noncomputable def o369:Obj:=oU .none (fdM 55 0 .none .none)
noncomputable def o370:Obj:=oC #[vs "_law_settings" 608,vs "_law_settings" 609,vs "/claim/cut.py" 610,.int 295 0,.int 1 0,i0,i0,.int 3 0,.ref 311,.bool true,.int 181 0,.ref 312,.none,.ref 313,.ref 314,.ref 315,.int 618 0,.int 295 0,vs "/claim/cut.py" 619]
noncomputable def o371:Obj:=oV (fdM 55 3 (vs "law_uf010027_11" 552) (.ref 316))
noncomputable def o372:Obj:=oT #[]
noncomputable def o373:Obj:=oN #[]
noncomputable def o374:Obj:=oT #[vs "_law_saying_here" 624]
noncomputable def o375:Obj:=oT #[]
noncomputable def o376:Obj:=oU .none (fdM 56 0 .none .none)
noncomputable def o377:Obj:=oC #[vs "_law_is_neat" 621,vs "_law_is_neat" 622,vs "/claim/cut.py" 623,.int 306 0,.int 1 0,i0,i0,.int 3 0,.ref 318,.bool true,.int 181 0,.ref 319,.none,.ref 320,.ref 321,.ref 322,.int 625 0,.int 306 0,vs "/claim/cut.py" 626]
noncomputable def o378:Obj:=oV (fdM 56 3 (vs "law_uf010027_11" 552) (.ref 323))
noncomputable def o379:Obj:=oT #[]
noncomputable def o380:Obj:=oN #[]
noncomputable def o381:Obj:=oT #[vs "_law_saying_here" 631]
noncomputable def o382:Obj:=oT #[]
noncomputable def o383:Obj:=oU .none (fdM 57 0 .none .none)
noncomputable def o384:Obj:=oC #[vs "_law_is_neat_whole" 628,vs "_law_is_neat_whole" 629,vs "/claim/cut.py" 630,.int 314 0,.int 1 0,i0,i0,.int 3 0,.ref 325,.bool true,.int 181 0,.ref 326,.none,.ref 327,.ref 328,.ref 329,.int 632 0,.int 314 0,vs "/claim/cut.py" 633]
noncomputable def o385:Obj:=oV (fdM 57 3 (vs "law_uf010027_11" 552) (.ref 330))
noncomputable def o386(P:Params):Obj:={ cls:=.type "dict",data:=Data.dict #[de P "__name__" 165 (vs "law_uf010027_11" 552),de P "__doc__" 166 .none,de P "__package__" 167 .none,de P "__loader__" 168 (.builtin "__main__.__loader__#opaque"),de P "__spec__" 169 .none,de P "__annotations__" 170 (.ref 6),de P "__builtins__" 171 (.ref 4),de P "__file__" 173 (vs "/claim/cut.py" 172),de P "__cached__" 174 .none,de P "SayError" 206 (.ref 24),de P "BadSaying" 222 (.ref 37),de P "BadRow" 238 (.ref 49),de P "BadTree" 254 (.ref 61),de P "BadCut" 270 (.ref 73),de P "LETTERS" 274 (vs "abcdefghijklmnopqrstuvwxyz" 273),de P "TOLD" 280 (.ref 76),de P "MOST_LETTERS" 282 (.int 6 281),de P "MOST_DEEP" 284 (.int 100 283),de P "is_whole" 291 (.ref 83),de P "is_name" 297 (.ref 88),de P "is_within" 305 (.ref 95),de P "is_saying" 312 (.ref 102),de P "need_saying" 319 (.ref 109),de P "halves" 326 (.ref 116),de P "size_in" 332 (.ref 121),de P "gather_names" 341 (.ref 128),de P "names_in" 350 (.ref 135),de P "MOST_SAYINGS" 354 (.int 6 353),de P "MOST_SIZE" 356 (.int 60 355),de P "need_row" 362 (.ref 140),de P "begun" 368 (.ref 145),de P "parts" 380 (.ref 152),de P "same_claim" 390 (.ref 159),de P "without" 400 (.ref 166),de P "clashes" 408 (.ref 173),de P "stands_for" 419 (.ref 180),de P "stands" 427 (.ref 187),de P "ended" 436 (.ref 194),de P "next_claim" 442 (.ref 199),de P "setting_of" 453 (.ref 206),de P "worked" 468 (.ref 213),de P "shut" 479 (.ref 220),de P "need_tree" 489 (.ref 227),de P "of_clash" 498 (.ref 234),de P "of_tree" 508 (.ref 241),de P "middle" 517 (.ref 248),de P "MOST_TOGETHER" 521 (.int 59 520),de P "joined" 531 (.ref 255),de P "neatly" 540 (.ref 262),de P "leads" 551 (.ref 269),de P "_law_cell_at" 561 (.ref 276),de P "_law_names" 567 (.ref 281),de P "_law_saying" 581 (.ref 288),de P "_law_met" 587 (.ref 293),de P "_law_true" 595 (.ref 300),de P "_law_is_name" 601 (.ref 305),de P "_law_is_saying" 607 (.ref 310),de P "_law_settings" 620 (.ref 317),de P "_law_is_neat" 627 (.ref 324),de P "_law_is_neat_whole" 634 (.ref 331),de P "_law_pair" 650 (.ref 338),de P "_law_is_between" 656 (.ref 343),de P "_law_right" 662 (.ref 348),de P "law" 674 (.ref 355)] 64 }
noncomputable def o387:Obj:=oN #[.int 2 0,i0,.ref 20,.int 4 0,i0,.ref 33,.int 6 0,i0,.ref 45,.int 8 0,i0,.ref 57,.int 10 0,i0,.ref 69,.int 17 0,i0,.ref 82,.int 19 0,i0,.ref 87,.int 23 0,i0,.ref 94,.int 35 0,i0,.ref 101,.int 37 0,i0,.ref 108,.int 40 0,i0,.ref 115,.int 44 0,i0,.ref 120,.int 46 0,i0,.ref 127,.int 51 0,i0,.ref 134,.int 59 0,i0,.ref 139,.int 66 0,i0,.ref 144,.int 69 0,i0,.ref 151,.int 81 0,i0,.ref 158,.int 85 0,i0,.ref 165,.int 90 0,i0,.ref 172,.int 92 0,i0,.ref 179,.int 108 0,i0,.ref 186,.int 110 0,i0,.ref 193,.int 118 0,i0,.ref 198,.int 131 0,i0,.ref 205,.int 137 0,i0,.ref 212,.int 158 0,i0,.ref 219,.int 167 0,i0,.ref 226,.int 171 0,i0,.ref 233,.int 178 0,i0,.ref 240,.int 188 0,i0,.ref 247,.int 195 0,i0,.ref 254,.int 206 0,i0,.ref 261,.int 220 0,i0,.ref 268,.int 231 0,i0,.ref 275,.int 235 0,i0,.ref 280,.int 251 0,i0,.ref 287,.int 265 0,i0,.ref 292,.int 272 0,i0,.ref 299,.int 282 0,i0,.ref 304,.int 286 0,i0,.ref 309,.int 295 0,i0,.ref 316,.int 306 0,i0,.ref 323,.int 314 0,i0,.ref 330,.int 316 0,i0,.ref 337,.int 334 0,i0,.ref 342,.int 345 0,i0,.ref 347,.int 356 0,i0,.ref 354]
noncomputable def o388:Obj:=oT #[]
noncomputable def o389:Obj:=oN #[]
noncomputable def o390:Obj:=oT #[vs "_law_cell" 638,vs "_law_names_here" 639,vs "_law_way" 640,vs "_law_more" 641,vs "_law_shared" 642,vs "_law_one" 643,vs "_law_ahead" 644,vs "_law_behind" 645,vs "_law_other" 646,vs "_law_last" 647]
noncomputable def o391:Obj:=oT #[]
noncomputable def o392:Obj:=oU .none (fdM 58 0 .none .none)
noncomputable def o393:Obj:=oC #[vs "_law_pair" 635,vs "_law_pair" 636,vs "/claim/cut.py" 637,.int 316 0,.int 2 0,i0,i0,.int 3 0,.ref 332,.bool true,.int 181 0,.ref 333,.none,.ref 334,.ref 335,.ref 336,.int 648 0,.int 316 0,vs "/claim/cut.py" 649]
noncomputable def o394:Obj:=oV (fdM 58 3 (vs "law_uf010027_11" 552) (.ref 337))
noncomputable def o395:Obj:=oT #[]
noncomputable def o396:Obj:=oN #[]
noncomputable def o397:Obj:=oU .none (fdM 59 0 .none .none)
noncomputable def o398:Obj:=oC #[vs "_law_is_between" 651,vs "_law_is_between" 652,vs "/claim/cut.py" 653,.int 334 0,.int 4 0,i0,i0,.int 3 0,.ref 339,.bool true,.int 181 0,.ref 340,.none,.none,.none,.ref 341,.int 654 0,.int 334 0,vs "/claim/cut.py" 655]
noncomputable def o399:Obj:=oV (fdM 59 3 (vs "law_uf010027_11" 552) (.ref 342))
noncomputable def o400:Obj:=oT #[]
noncomputable def o401:Obj:=oN #[]
noncomputable def o402:Obj:=oU .none (fdM 60 0 .none .none)
noncomputable def o403:Obj:=oC #[vs "_law_right" 657,vs "_law_right" 658,vs "/claim/cut.py" 659,.int 345 0,.int 4 0,i0,i0,.int 3 0,.ref 344,.bool true,.int 181 0,.ref 345,.none,.none,.none,.ref 346,.int 660 0,.int 345 0,vs "/claim/cut.py" 661]
noncomputable def o404:Obj:=oV (fdM 60 3 (vs "law_uf010027_11" 552) (.ref 347))
noncomputable def o405:Obj:=oT #[]
noncomputable def o406:Obj:=oN #[]
noncomputable def o407:Obj:=oT #[vs "_law_script" 666,vs "_law_names_here" 667,vs "_law_first" 668,vs "_law_second" 669,vs "_law_told" 670,vs "_law_back" 671]
noncomputable def o408:Obj:=oT #[]
noncomputable def o409:Obj:=oU .none (fdM 61 0 .none .none)
noncomputable def o410:Obj:=oC #[vs "law" 663,vs "law" 664,vs "/claim/cut.py" 665,.int 356 0,.int 1 0,i0,i0,.int 3 0,.ref 349,.bool true,.int 181 0,.ref 350,.none,.ref 351,.ref 352,.ref 353,.int 672 0,.int 356 0,vs "/claim/cut.py" 673]
noncomputable def o411:Obj:=oV (fdM 61 3 (vs "law_uf010027_11" 552) (.ref 354))
noncomputable def lf(P:Params)(x:Params→Obj):BT:=.node (x P) .nil .nil
noncomputable def tr47(P:Params):BT:=.node (boot_o_0 P) (.node (boot_o_1 P) (.node (boot_o_3 P) (lf P boot_o_7) (l0 o43)) (.node (boot_o_5 P) (lf P boot_o_9) (l0 o45))) (.node (boot_o_2 P) (.node (boot_o_4 P) (lf P boot_o_8) (l0 o44)) (.node (boot_o_6 P) (lf P boot_o_10) (l0 o46)))
noncomputable def tr63(P:Params):BT:=.node (boot_o_0 P) (.node (boot_o_1 P) (.node (o49 P) (.node (boot_o_7 P) (l0 o51) (lf P o59)) (.node o43 (l0 o55) (l0 o63))) (.node (boot_o_5 P) (.node (boot_o_9 P) (lf P o53) (l0 o61)) (.node o45 (l0 o57) .nil))) (.node (boot_o_2 P) (.node (boot_o_4 P) (.node (boot_o_8 P) (l0 o52) (l0 o60)) (.node o50 (l0 o56) .nil)) (.node (boot_o_6 P) (.node (boot_o_10 P) (l0 o54) (l0 o62)) (.node o46 (l0 o58) .nil)))
noncomputable def tr78(P:Params):BT:=.node (boot_o_0 P) (.node (boot_o_1 P) (.node (o64 P) (.node (boot_o_7 P) (.node o51 (l0 o70) .nil) (.node (o59 P) (l0 o78) .nil)) (.node o43 (.node o55 (l0 o74) .nil) (l0 o63))) (.node (boot_o_5 P) (.node (boot_o_9 P) (.node (o53 P) (l0 o72) .nil) (l0 o61)) (.node o45 (.node o57 (l0 o76) .nil) (l0 o68)))) (.node (boot_o_2 P) (.node (boot_o_4 P) (.node (boot_o_8 P) (.node o52 (l0 o71) .nil) (l0 o66)) (.node o65 (.node o56 (lf P o75) .nil) (l0 o67))) (.node (boot_o_6 P) (.node (boot_o_10 P) (.node o54 (l0 o73) .nil) (l0 o62)) (.node o46 (.node o58 (l0 o77) .nil) (lf P o69))))
noncomputable def tr93(P:Params):BT:=.node (boot_o_0 P) (.node (boot_o_1 P) (.node (o79 P) (.node (boot_o_7 P) (.node o51 (l0 o70) (l0 o89)) (.node (o59 P) (l0 o78) .nil)) (.node o43 (.node o55 (l0 o74) (l0 o93)) (.node o63 (l0 o85) .nil))) (.node (boot_o_5 P) (.node (boot_o_9 P) (.node (o53 P) (l0 o72) (l0 o91)) (.node o61 (l0 o83) .nil)) (.node o45 (.node o57 (l0 o76) .nil) (.node o68 (l0 o87) .nil)))) (.node (boot_o_2 P) (.node (boot_o_4 P) (.node (boot_o_8 P) (.node o52 (l0 o71) (lf P o90)) (.node o81 (l0 o82) .nil)) (.node o80 (.node o56 (lf P o75) .nil) (.node o67 (l0 o86) .nil))) (.node (boot_o_6 P) (.node (boot_o_10 P) (.node o54 (l0 o73) (l0 o92)) (.node o62 (lf P o84) .nil)) (.node o46 (.node o58 (l0 o77) .nil) (.node (o69 P) (l0 o88) .nil))))
noncomputable def zoD(P:Params):BT:=.node (boot_o_0 P) (.node (boot_o_1 P) (.node (o94 P) (.node (boot_o_7 P) (.node o51 (.node o70 (l0 o108) .nil) (l0 o89)) (.node (o59 P) (l0 o78) (l0 o100))) (.node o43 (.node o55 (l0 o74) (l0 o93)) (.node o63 (l0 o85) (l0 o104)))) (.node (boot_o_5 P) (.node (boot_o_9 P) (.node (o53 P) (l0 o72) (l0 o91)) (.node o61 (l0 o83) (l0 o102))) (.node o45 (.node o57 (l0 o76) (l0 o98)) (.node o68 (l0 o87) (l0 o106))))) (.node (boot_o_2 P) (.node (boot_o_4 P) (.node (boot_o_8 P) (.node o52 (l0 o71) (lf P o90)) (.node o96 (l0 o82) (l0 o101))) (.node o95 (.node o56 (lf P o75) (l0 o97)) (.node o67 (l0 o86) (lf P o105)))) (.node (boot_o_6 P) (.node (boot_o_10 P) (.node o54 (l0 o73) (l0 o92)) (.node o62 (lf P o84) (l0 o103))) (.node o46 (.node o58 (l0 o77) (lf P o99)) (.node (o69 P) (l0 o88) (l0 o107)))))
noncomputable def zoC(P:Params):BT:=.node (boot_o_0 P) (.node (boot_o_1 P) (.node (o109 P) (.node (boot_o_7 P) (.node o51 (.node o70 (l0 o108) (l0 o143)) (.node o89 (l0 o127) .nil)) (.node (o59 P) (.node o78 (l0 o119) .nil) (.node o100 (l0 o135) .nil))) (.node o43 (.node o55 (.node o74 (l0 o115) (l0 o147)) (.node o93 (l0 o131) .nil)) (.node o63 (.node o85 (l0 o123) .nil) (.node o104 (l0 o139) .nil)))) (.node (boot_o_5 P) (.node (boot_o_9 P) (.node (o53 P) (.node o72 (l0 o113) (l0 o145)) (.node o91 (l0 o129) .nil)) (.node o61 (.node o83 (l0 o121) .nil) (.node o102 (l0 o137) .nil))) (.node o45 (.node o57 (.node o76 (l0 o117) (l0 o149)) (.node o98 (l0 o133) .nil)) (.node o68 (.node o87 (l0 o125) .nil) (.node o106 (l0 o141) .nil))))) (.node (boot_o_2 P) (.node (boot_o_4 P) (.node (boot_o_8 P) (.node o52 (.node o71 (l0 o112) (l0 o144)) (.node (o90 P) (l0 o128) .nil)) (.node o111 (.node o82 (lf P o120) .nil) (.node o101 (l0 o136) .nil))) (.node o110 (.node o56 (.node (o75 P) (l0 o116) (l0 o148)) (.node o97 (l0 o132) .nil)) (.node o67 (.node o86 (l0 o124) .nil) (.node (o105 P) (l0 o140) .nil)))) (.node (boot_o_6 P) (.node (boot_o_10 P) (.node o54 (.node o73 (lf P o114) (l0 o146)) (.node o92 (l0 o130) .nil)) (.node o62 (.node (o84 P) (l0 o122) .nil) (.node o103 (l0 o138) .nil))) (.node o46 (.node o58 (.node o77 (l0 o118) (l0 o150)) (.node (o99 P) (l0 o134) .nil)) (.node (o69 P) (.node o88 (l0 o126) .nil) (.node o107 (l0 o142) .nil)))))
noncomputable def zoB(P:Params):BT:=.node (boot_o_0 P) (.node (boot_o_1 P) (.node (o151 P) (.node (boot_o_7 P) (.node o51 (.node o70 (.node o108 (l0 o177) .nil) (.node o143 (l0 o209) .nil)) (.node o89 (.node o127 (l0 o193) .nil) (.node o161 (l0 o225) .nil))) (.node (o59 P) (.node o78 (.node o119 (l0 o185) .nil) (.node o153 (l0 o217) .nil)) (.node o100 (.node o135 (l0 o201) .nil) (l0 o169)))) (.node o43 (.node o55 (.node o74 (.node o115 (l0 o181) .nil) (.node o147 (l0 o213) .nil)) (.node o93 (.node o131 (l0 o197) .nil) (.node o165 (l0 o229) .nil))) (.node o63 (.node o85 (.node o123 (l0 o189) .nil) (.node o157 (l0 o221) .nil)) (.node o104 (.node o139 (l0 o205) .nil) (l0 o173))))) (.node (boot_o_5 P) (.node (boot_o_9 P) (.node (o53 P) (.node o72 (.node o113 (l0 o179) .nil) (.node o145 (l0 o211) .nil)) (.node o91 (.node o129 (l0 o195) .nil) (.node o163 (l0 o227) .nil))) (.node o61 (.node o83 (.node o121 (l0 o187) .nil) (.node o155 (l0 o219) .nil)) (.node o102 (.node o137 (l0 o203) .nil) (l0 o171)))) (.node o45 (.node o57 (.node o76 (.node o117 (l0 o183) .nil) (.node o149 (l0 o215) .nil)) (.node o98 (.node o133 (l0 o199) .nil) (l0 o167))) (.node o68 (.node o87 (.node o125 (l0 o191) .nil) (.node o159 (l0 o223) .nil)) (.node o106 (.node o141 (l0 o207) .nil) (l0 o175)))))) (.node (boot_o_2 P) (.node (boot_o_4 P) (.node (boot_o_8 P) (.node o52 (.node o71 (.node o112 (l0 o178) .nil) (.node o144 (l0 o210) .nil)) (.node (o90 P) (.node o128 (l0 o194) .nil) (.node o162 (l0 o226) .nil))) (.node o111 (.node o82 (.node (o120 P) (l0 o186) .nil) (.node o154 (l0 o218) .nil)) (.node o101 (.node o136 (l0 o202) .nil) (l0 o170)))) (.node o152 (.node o56 (.node (o75 P) (.node o116 (l0 o182) .nil) (.node o148 (l0 o214) .nil)) (.node o97 (.node o132 (l0 o198) .nil) (.node o166 (l0 o230) .nil))) (.node o67 (.node o86 (.node o124 (l0 o190) .nil) (.node o158 (l0 o222) .nil)) (.node (o105 P) (.node o140 (l0 o206) .nil) (l0 o174))))) (.node (boot_o_6 P) (.node (boot_o_10 P) (.node o54 (.node o73 (.node (o114 P) (l0 o180) .nil) (.node o146 (l0 o212) .nil)) (.node o92 (.node o130 (l0 o196) .nil) (.node o164 (l0 o228) .nil))) (.node o62 (.node (o84 P) (.node o122 (l0 o188) .nil) (.node o156 (l0 o220) .nil)) (.node o103 (.node o138 (l0 o204) .nil) (l0 o172)))) (.node o46 (.node o58 (.node o77 (.node o118 (l0 o184) .nil) (.node o150 (l0 o216) .nil)) (.node (o99 P) (.node o134 (l0 o200) .nil) (l0 o168))) (.node (o69 P) (.node o88 (.node o126 (l0 o192) .nil) (.node o160 (l0 o224) .nil)) (.node o107 (.node o142 (l0 o208) .nil) (l0 o176))))))
noncomputable def zoA(P:Params):BT:=.node (boot_o_0 P) (.node (boot_o_1 P) (.node (o231 P) (.node (boot_o_7 P) (.node o51 (.node o70 (.node o108 (.node o177 (l0 o307) .nil) (l0 o243)) (.node o143 (l0 o209) (l0 o275))) (.node o89 (.node o127 (l0 o193) (l0 o259)) (.node o161 (l0 o225) (l0 o291)))) (.node (o59 P) (.node o78 (.node o119 (l0 o185) (l0 o251)) (.node o153 (l0 o217) (l0 o283))) (.node o100 (.node o135 (l0 o201) (l0 o267)) (.node o169 (l0 o235) (l0 o299))))) (.node o43 (.node o55 (.node o74 (.node o115 (l0 o181) (l0 o247)) (.node o147 (l0 o213) (l0 o279))) (.node o93 (.node o131 (l0 o197) (l0 o263)) (.node o165 (l0 o229) (l0 o295)))) (.node o63 (.node o85 (.node o123 (l0 o189) (l0 o255)) (.node o157 (l0 o221) (l0 o287))) (.node o104 (.node o139 (l0 o205) (l0 o271)) (.node o173 (l0 o239) (l0 o303)))))) (.node (boot_o_5 P) (.node (boot_o_9 P) (.node (o53 P) (.node o72 (.node o113 (l0 o179) (l0 o245)) (.node o145 (l0 o211) (l0 o277))) (.node o91 (.node o129 (l0 o195) (l0 o261)) (.node o163 (l0 o227) (l0 o293)))) (.node o61 (.node o83 (.node o121 (l0 o187) (l0 o253)) (.node o155 (l0 o219) (l0 o285))) (.node o102 (.node o137 (l0 o203) (l0 o269)) (.node o171 (l0 o237) (l0 o301))))) (.node o45 (.node o57 (.node o76 (.node o117 (l0 o183) (l0 o249)) (.node o149 (l0 o215) (l0 o281))) (.node o98 (.node o133 (l0 o199) (l0 o265)) (.node o167 (l0 o233) (l0 o297)))) (.node o68 (.node o87 (.node o125 (l0 o191) (l0 o257)) (.node o159 (l0 o223) (l0 o289))) (.node o106 (.node o141 (l0 o207) (l0 o273)) (.node o175 (l0 o241) (l0 o305))))))) (.node (boot_o_2 P) (.node (boot_o_4 P) (.node (boot_o_8 P) (.node o52 (.node o71 (.node o112 (l0 o178) (l0 o244)) (.node o144 (l0 o210) (l0 o276))) (.node (o90 P) (.node o128 (l0 o194) (l0 o260)) (.node o162 (l0 o226) (l0 o292)))) (.node o111 (.node o82 (.node (o120 P) (l0 o186) (l0 o252)) (.node o154 (l0 o218) (l0 o284))) (.node o101 (.node o136 (l0 o202) (l0 o268)) (.node o170 (l0 o236) (l0 o300))))) (.node o232 (.node o56 (.node (o75 P) (.node o116 (l0 o182) (l0 o248)) (.node o148 (l0 o214) (l0 o280))) (.node o97 (.node o132 (l0 o198) (l0 o264)) (.node o166 (l0 o230) (l0 o296)))) (.node o67 (.node o86 (.node o124 (l0 o190) (l0 o256)) (.node o158 (l0 o222) (l0 o288))) (.node (o105 P) (.node o140 (l0 o206) (l0 o272)) (.node o174 (l0 o240) (l0 o304)))))) (.node (boot_o_6 P) (.node (boot_o_10 P) (.node o54 (.node o73 (.node (o114 P) (l0 o180) (l0 o246)) (.node o146 (l0 o212) (l0 o278))) (.node o92 (.node o130 (l0 o196) (l0 o262)) (.node o164 (l0 o228) (l0 o294)))) (.node o62 (.node (o84 P) (.node o122 (l0 o188) (l0 o254)) (.node o156 (l0 o220) (l0 o286))) (.node o103 (.node o138 (l0 o204) (l0 o270)) (.node o172 (l0 o238) (l0 o302))))) (.node o46 (.node o58 (.node o77 (.node o118 (l0 o184) (l0 o250)) (.node o150 (l0 o216) (l0 o282))) (.node (o99 P) (.node o134 (l0 o200) (l0 o266)) (.node o168 (l0 o234) (l0 o298)))) (.node (o69 P) (.node o88 (.node o126 (l0 o192) (l0 o258)) (.node o160 (l0 o224) (l0 o290))) (.node o107 (.node o142 (l0 o208) (l0 o274)) (.node o176 (l0 o242) (l0 o306)))))))
noncomputable def zoz(P:Params):BT:=.node (boot_o_0 P) (.node (boot_o_1 P) (.node (o308 P) (.node (boot_o_7 P) (.node o51 (.node o70 (.node o108 (.node o177 (l0 o307) .nil) (.node o243 (l0 o373) .nil)) (.node o143 (.node o209 (l0 o341) .nil) (l0 o275))) (.node o89 (.node o127 (.node o193 (l0 o325) .nil) (l0 o259)) (.node o161 (.node o225 (l0 o357) .nil) (l0 o291)))) (.node (o59 P) (.node o78 (.node o119 (.node o185 (l0 o317) .nil) (.node o251 (l0 o381) .nil)) (.node o153 (.node o217 (l0 o349) .nil) (l0 o283))) (.node o100 (.node o135 (.node o201 (l0 o333) .nil) (l0 o267)) (.node o169 (.node o235 (l0 o365) .nil) (l0 o299))))) (.node o43 (.node o55 (.node o74 (.node o115 (.node o181 (l0 o313) .nil) (.node o247 (l0 o377) .nil)) (.node o147 (.node o213 (l0 o345) .nil) (l0 o279))) (.node o93 (.node o131 (.node o197 (l0 o329) .nil) (l0 o263)) (.node o165 (.node o229 (l0 o361) .nil) (l0 o295)))) (.node o63 (.node o85 (.node o123 (.node o189 (l0 o321) .nil) (.node o255 (l0 o385) .nil)) (.node o157 (.node o221 (l0 o353) .nil) (l0 o287))) (.node o104 (.node o139 (.node o205 (l0 o337) .nil) (l0 o271)) (.node o173 (.node o239 (l0 o369) .nil) (l0 o303)))))) (.node (boot_o_5 P) (.node (boot_o_9 P) (.node (o53 P) (.node o72 (.node o113 (.node o179 (l0 o311) .nil) (.node o245 (l0 o375) .nil)) (.node o145 (.node o211 (l0 o343) .nil) (l0 o277))) (.node o91 (.node o129 (.node o195 (l0 o327) .nil) (l0 o261)) (.node o163 (.node o227 (l0 o359) .nil) (l0 o293)))) (.node o61 (.node o83 (.node o121 (.node o187 (l0 o319) .nil) (.node o253 (l0 o383) .nil)) (.node o155 (.node o219 (l0 o351) .nil) (l0 o285))) (.node o102 (.node o137 (.node o203 (l0 o335) .nil) (l0 o269)) (.node o171 (.node o237 (l0 o367) .nil) (l0 o301))))) (.node o45 (.node o57 (.node o76 (.node o117 (.node o183 (l0 o315) .nil) (.node o249 (l0 o379) .nil)) (.node o149 (.node o215 (l0 o347) .nil) (l0 o281))) (.node o98 (.node o133 (.node o199 (l0 o331) .nil) (l0 o265)) (.node o167 (.node o233 (l0 o363) .nil) (l0 o297)))) (.node o68 (.node o87 (.node o125 (.node o191 (l0 o323) .nil) (l0 o257)) (.node o159 (.node o223 (l0 o355) .nil) (l0 o289))) (.node o106 (.node o141 (.node o207 (l0 o339) .nil) (l0 o273)) (.node o175 (.node o241 (l0 o371) .nil) (l0 o305))))))) (.node (boot_o_2 P) (.node (boot_o_4 P) (.node (boot_o_8 P) (.node o52 (.node o71 (.node o112 (.node o178 (l0 o310) .nil) (.node o244 (l0 o374) .nil)) (.node o144 (.node o210 (l0 o342) .nil) (l0 o276))) (.node (o90 P) (.node o128 (.node o194 (l0 o326) .nil) (l0 o260)) (.node o162 (.node o226 (l0 o358) .nil) (l0 o292)))) (.node o111 (.node o82 (.node (o120 P) (.node o186 (l0 o318) .nil) (.node o252 (l0 o382) .nil)) (.node o154 (.node o218 (l0 o350) .nil) (l0 o284))) (.node o101 (.node o136 (.node o202 (l0 o334) .nil) (l0 o268)) (.node o170 (.node o236 (l0 o366) .nil) (l0 o300))))) (.node o309 (.node o56 (.node (o75 P) (.node o116 (.node o182 (l0 o314) .nil) (.node o248 (l0 o378) .nil)) (.node o148 (.node o214 (l0 o346) .nil) (l0 o280))) (.node o97 (.node o132 (.node o198 (l0 o330) .nil) (l0 o264)) (.node o166 (.node o230 (l0 o362) .nil) (l0 o296)))) (.node o67 (.node o86 (.node o124 (.node o190 (l0 o322) .nil) (l0 o256)) (.node o158 (.node o222 (l0 o354) .nil) (l0 o288))) (.node (o105 P) (.node o140 (.node o206 (l0 o338) .nil) (l0 o272)) (.node o174 (.node o240 (l0 o370) .nil) (l0 o304)))))) (.node (boot_o_6 P) (.node (boot_o_10 P) (.node o54 (.node o73 (.node (o114 P) (.node o180 (l0 o312) .nil) (.node o246 (l0 o376) .nil)) (.node o146 (.node o212 (l0 o344) .nil) (l0 o278))) (.node o92 (.node o130 (.node o196 (l0 o328) .nil) (l0 o262)) (.node o164 (.node o228 (l0 o360) .nil) (l0 o294)))) (.node o62 (.node (o84 P) (.node o122 (.node o188 (l0 o320) .nil) (.node o254 (l0 o384) .nil)) (.node o156 (.node o220 (l0 o352) .nil) (l0 o286))) (.node o103 (.node o138 (.node o204 (l0 o336) .nil) (l0 o270)) (.node o172 (.node o238 (l0 o368) .nil) (l0 o302))))) (.node o46 (.node o58 (.node o77 (.node o118 (.node o184 (l0 o316) .nil) (.node o250 (l0 o380) .nil)) (.node o150 (.node o216 (l0 o348) .nil) (l0 o282))) (.node (o99 P) (.node o134 (.node o200 (l0 o332) .nil) (l0 o266)) (.node o168 (.node o234 (l0 o364) .nil) (l0 o298)))) (.node (o69 P) (.node o88 (.node o126 (.node o192 (l0 o324) .nil) (l0 o258)) (.node o160 (.node o224 (l0 o356) .nil) (l0 o290))) (.node o107 (.node o142 (.node o208 (l0 o340) .nil) (l0 o274)) (.node o176 (.node o242 (l0 o372) .nil) (l0 o306)))))))
noncomputable def zoy(P:Params):BT:=.node (boot_o_0 P) (.node (boot_o_1 P) (.node (o386 P) (.node (boot_o_7 P) (.node o51 (.node o70 (.node o108 (.node o177 (l0 o307) .nil) (.node o243 (l0 o373) .nil)) (.node o143 (.node o209 (l0 o341) .nil) (.node o275 (l0 o407) .nil))) (.node o89 (.node o127 (.node o193 (l0 o325) .nil) (.node o259 (l0 o391) .nil)) (.node o161 (.node o225 (l0 o357) .nil) (l0 o291)))) (.node (o59 P) (.node o78 (.node o119 (.node o185 (l0 o317) .nil) (.node o251 (l0 o381) .nil)) (.node o153 (.node o217 (l0 o349) .nil) (l0 o283))) (.node o100 (.node o135 (.node o201 (l0 o333) .nil) (.node o267 (l0 o399) .nil)) (.node o169 (.node o235 (l0 o365) .nil) (l0 o299))))) (.node o43 (.node o55 (.node o74 (.node o115 (.node o181 (l0 o313) .nil) (.node o247 (l0 o377) .nil)) (.node o147 (.node o213 (l0 o345) .nil) (.node o279 (l0 o411) .nil))) (.node o93 (.node o131 (.node o197 (l0 o329) .nil) (.node o263 (l0 o395) .nil)) (.node o165 (.node o229 (l0 o361) .nil) (l0 o295)))) (.node o63 (.node o85 (.node o123 (.node o189 (l0 o321) .nil) (.node o255 (l0 o385) .nil)) (.node o157 (.node o221 (l0 o353) .nil) (l0 o287))) (.node o104 (.node o139 (.node o205 (l0 o337) .nil) (.node o271 (l0 o403) .nil)) (.node o173 (.node o239 (l0 o369) .nil) (l0 o303)))))) (.node (boot_o_5 P) (.node (boot_o_9 P) (.node (o53 P) (.node o72 (.node o113 (.node o179 (l0 o311) .nil) (.node o245 (l0 o375) .nil)) (.node o145 (.node o211 (l0 o343) .nil) (.node o277 (l0 o409) .nil))) (.node o91 (.node o129 (.node o195 (l0 o327) .nil) (.node o261 (l0 o393) .nil)) (.node o163 (.node o227 (l0 o359) .nil) (l0 o293)))) (.node o61 (.node o83 (.node o121 (.node o187 (l0 o319) .nil) (.node o253 (l0 o383) .nil)) (.node o155 (.node o219 (l0 o351) .nil) (l0 o285))) (.node o102 (.node o137 (.node o203 (l0 o335) .nil) (.node o269 (l0 o401) .nil)) (.node o171 (.node o237 (l0 o367) .nil) (l0 o301))))) (.node o45 (.node o57 (.node o76 (.node o117 (.node o183 (l0 o315) .nil) (.node o249 (l0 o379) .nil)) (.node o149 (.node o215 (l0 o347) .nil) (l0 o281))) (.node o98 (.node o133 (.node o199 (l0 o331) .nil) (.node o265 (l0 o397) .nil)) (.node o167 (.node o233 (l0 o363) .nil) (l0 o297)))) (.node o68 (.node o87 (.node o125 (.node o191 (l0 o323) .nil) (.node o257 (l0 o389) .nil)) (.node o159 (.node o223 (l0 o355) .nil) (l0 o289))) (.node o106 (.node o141 (.node o207 (l0 o339) .nil) (.node o273 (l0 o405) .nil)) (.node o175 (.node o241 (l0 o371) .nil) (l0 o305))))))) (.node (boot_o_2 P) (.node (boot_o_4 P) (.node (boot_o_8 P) (.node o52 (.node o71 (.node o112 (.node o178 (l0 o310) .nil) (.node o244 (l0 o374) .nil)) (.node o144 (.node o210 (l0 o342) .nil) (.node o276 (l0 o408) .nil))) (.node (o90 P) (.node o128 (.node o194 (l0 o326) .nil) (.node o260 (l0 o392) .nil)) (.node o162 (.node o226 (l0 o358) .nil) (l0 o292)))) (.node o111 (.node o82 (.node (o120 P) (.node o186 (l0 o318) .nil) (.node o252 (l0 o382) .nil)) (.node o154 (.node o218 (l0 o350) .nil) (l0 o284))) (.node o101 (.node o136 (.node o202 (l0 o334) .nil) (.node o268 (l0 o400) .nil)) (.node o170 (.node o236 (l0 o366) .nil) (l0 o300))))) (.node o387 (.node o56 (.node (o75 P) (.node o116 (.node o182 (l0 o314) .nil) (.node o248 (l0 o378) .nil)) (.node o148 (.node o214 (l0 o346) .nil) (l0 o280))) (.node o97 (.node o132 (.node o198 (l0 o330) .nil) (.node o264 (l0 o396) .nil)) (.node o166 (.node o230 (l0 o362) .nil) (l0 o296)))) (.node o67 (.node o86 (.node o124 (.node o190 (l0 o322) .nil) (.node o256 (l0 o388) .nil)) (.node o158 (.node o222 (l0 o354) .nil) (l0 o288))) (.node (o105 P) (.node o140 (.node o206 (l0 o338) .nil) (.node o272 (l0 o404) .nil)) (.node o174 (.node o240 (l0 o370) .nil) (l0 o304)))))) (.node (boot_o_6 P) (.node (boot_o_10 P) (.node o54 (.node o73 (.node (o114 P) (.node o180 (l0 o312) .nil) (.node o246 (l0 o376) .nil)) (.node o146 (.node o212 (l0 o344) .nil) (.node o278 (l0 o410) .nil))) (.node o92 (.node o130 (.node o196 (l0 o328) .nil) (.node o262 (l0 o394) .nil)) (.node o164 (.node o228 (l0 o360) .nil) (l0 o294)))) (.node o62 (.node (o84 P) (.node o122 (.node o188 (l0 o320) .nil) (.node o254 (l0 o384) .nil)) (.node o156 (.node o220 (l0 o352) .nil) (l0 o286))) (.node o103 (.node o138 (.node o204 (l0 o336) .nil) (.node o270 (l0 o402) .nil)) (.node o172 (.node o238 (l0 o368) .nil) (l0 o302))))) (.node o46 (.node o58 (.node o77 (.node o118 (.node o184 (l0 o316) .nil) (.node o250 (l0 o380) .nil)) (.node o150 (.node o216 (l0 o348) .nil) (l0 o282))) (.node (o99 P) (.node o134 (.node o200 (l0 o332) .nil) (.node o266 (l0 o398) .nil)) (.node o168 (.node o234 (l0 o364) .nil) (l0 o298)))) (.node (o69 P) (.node o88 (.node o126 (.node o192 (l0 o324) .nil) (.node o258 (l0 o390) .nil)) (.node o160 (.node o224 (l0 o356) .nil) (l0 o290))) (.node o107 (.node o142 (.node o208 (l0 o340) .nil) (.node o274 (l0 o406) .nil)) (.node o176 (.node o242 (l0 o372) .nil) (l0 o306)))))))
noncomputable def zaV(P:Params):Heap:={ objs:={ toList:=[boot_o_0 P,boot_o_1 P,boot_o_2 P,o386 P,boot_o_4 P,boot_o_5 P,boot_o_6 P,boot_o_7 P,boot_o_8 P,boot_o_9 P,boot_o_10 P,o43,o387,o45,o46,o51,o52,o53 P,o54,o55,o56,o57,o58,o59 P,o111,o61,o62,o63,o67,o68,o69 P,o70,o71,o72,o73,o74,o75 P,o76,o77,o78,o82,o83,o84 P,o85,o86,o87,o88,o89,o90 P,o91,o92,o93,o97,o98,o99 P,o100,o101,o102,o103,o104,o105 P,o106,o107,o108,o112,o113,o114 P,o115,o116,o117,o118,o119,o120 P,o121,o122,o123,o124,o125,o126,o127,o128,o129,o130,o131,o132,o133,o134,o135,o136,o137,o138,o139,o140,o141,o142,o143,o144,o145,o146,o147,o148,o149,o150,o153,o154,o155,o156,o157,o158,o159,o160,o161,o162,o163,o164,o165,o166,o167,o168,o169,o170,o171,o172,o173,o174,o175,o176,o177,o178,o179,o180,o181,o182,o183,o184,o185,o186,o187,o188,o189,o190,o191,o192,o193,o194,o195,o196,o197,o198,o199,o200,o201,o202,o203,o204,o205,o206,o207,o208,o209,o210,o211,o212,o213,o214,o215,o216,o217,o218,o219,o220,o221,o222,o223,o224,o225,o226,o227,o228,o229,o230,o233,o234,o235,o236,o237,o238,o239,o240,o241,o242,o243,o244,o245,o246,o247,o248,o249,o250,o251,o252,o253,o254,o255,o256,o257,o258,o259,o260,o261,o262,o263,o264,o265,o266,o267,o268,o269,o270,o271,o272,o273,o274,o275,o276,o277,o278,o279,o280,o281,o282,o283,o284,o285,o286,o287,o288,o289,o290,o291,o292,o293,o294,o295,o296,o297,o298,o299,o300,o301,o302,o303,o304,o305,o306,o307,o310,o311,o312,o313,o314,o315,o316,o317,o318,o319,o320,o321,o322,o323,o324,o325,o326,o327,o328,o329,o330,o331,o332,o333,o334,o335,o336,o337,o338,o339,o340,o341,o342,o343,o344,o345,o346,o347,o348,o349,o350,o351,o352,o353,o354,o355,o356,o357,o358,o359,o360,o361,o362,o363,o364,o365,o366,o367,o368,o369,o370,o371,o372,o373,o374,o375,o376,o377,o378,o379,o380,o381,o382,o383,o384,o385,o388,o389,o390,o391,o392,o393,o394,o395,o396,o397,o398,o399,o400,o401,o402,o403,o404,o405,o406,o407,o408,o409,o410,o411] } }
noncomputable def hp46(P:Params):Heap:={ objs:={ toList:=[boot_o_0 P,boot_o_1 P,boot_o_2 P,boot_o_3 P,boot_o_4 P,boot_o_5 P,boot_o_6 P,boot_o_7 P,boot_o_8 P,boot_o_9 P,boot_o_10 P,o43,o44,o45,o46] } }
noncomputable def zhH(P:Params):Frag:=[(2,boot_o_2 P),(3,o386 P),(15,o51),(22,o58),(23,o59 P),(24,o111),(25,o61),(28,o67),(35,o74),(36,o75 P),(37,o76),(40,o82),(47,o89),(48,o90 P),(49,o91),(52,o97),(59,o104),(60,o105 P),(61,o106),(64,o112),(71,o119),(72,o120 P),(73,o121),(76,o124),(77,o125),(79,o127),(80,o128),(82,o130),(83,o131),(84,o132),(87,o135),(88,o136),(89,o137),(91,o139),(92,o140),(94,o142),(95,o143),(96,o144),(98,o146),(99,o147),(101,o149),(102,o150),(103,o153),(105,o155),(106,o156),(108,o158),(109,o159),(110,o160),(112,o162),(113,o163),(115,o165),(116,o166),(117,o167),(120,o170),(121,o171),(122,o172),(124,o174),(125,o175),(127,o177),(128,o178),(129,o179),(131,o181),(132,o182),(134,o184),(135,o185),(136,o186),(139,o189),(140,o190),(141,o191),(144,o194),(145,o195),(146,o196),(148,o198),(149,o199),(151,o201),(152,o202),(153,o203),(155,o205),(156,o206),(158,o208),(159,o209),(160,o210),(162,o212),(163,o213),(165,o215),(166,o216),(167,o217),(169,o219),(170,o220),(172,o222),(173,o223),(174,o224),(176,o226),(177,o227),(179,o229),(180,o230),(181,o233),(183,o235),(184,o236),(186,o238),(187,o239),(188,o240),(190,o242),(191,o243),(193,o245),(194,o246),(195,o247),(198,o250),(199,o251),(200,o252),(202,o254),(203,o255),(205,o257),(206,o258),(207,o259),(209,o261),(210,o262),(212,o264),(213,o265),(214,o266),(216,o268),(217,o269),(219,o271),(220,o272),(221,o273),(223,o275),(224,o276),(226,o278),(227,o279),(228,o280),(230,o282),(231,o283),(233,o285),(234,o286),(235,o287),(237,o289),(238,o290),(240,o292),(241,o293),(242,o294),(244,o296),(245,o297),(247,o299),(248,o300),(249,o301),(251,o303),(252,o304),(254,o306),(255,o307),(256,o310),(258,o312),(259,o313),(261,o315),(262,o316),(263,o317),(265,o319),(266,o320),(268,o322),(269,o323),(270,o324),(272,o326),(273,o327),(275,o329),(276,o330),(277,o331),(280,o334),(281,o335),(282,o336),(284,o338),(285,o339),(287,o341),(288,o342),(289,o343),(292,o346),(293,o347),(294,o348),(296,o350),(297,o351),(299,o353),(300,o354),(301,o355),(304,o358),(305,o359),(306,o360),(309,o363),(310,o364),(311,o365),(313,o367),(314,o368),(316,o370),(317,o371),(318,o372),(320,o374),(321,o375),(323,o377),(324,o378),(325,o379),(327,o381),(328,o382),(330,o384),(331,o385),(332,o388),(334,o390),(335,o391),(337,o393),(338,o394),(339,o395),(342,o398),(343,o399),(344,o400),(347,o403),(348,o404),(349,o405),(351,o407),(352,o408),(354,o410),(355,o411)]
noncomputable def hAs:List Addr:=[2,3,15,22,23,24,25,28,35,36,37,40,47,48,49,52,59,60,61,64,71,72,73,76,77,79,80,82,83,84,87,88,89,91,92,94,95,96,98,99,101,102,103,105,106,108,109,110,112,113,115,116,117,120,121,122,124,125,127,128,129,131,132,134,135,136,139,140,141,144,145,146,148,149,151,152,153,155,156,158,159,160,162,163,165,166,167,169,170,172,173,174,176,177,179,180,181,183,184,186,187,188,190,191,193,194,195,198,199,200,202,203,205,206,207,209,210,212,213,214,216,217,219,220,221,223,224,226,227,228,230,231,233,234,235,237,238,240,241,242,244,245,247,248,249,251,252,254,255,256,258,259,261,262,263,265,266,268,269,270,272,273,275,276,277,280,281,282,284,285,287,288,289,292,293,294,296,297,299,300,301,304,305,306,309,310,311,313,314,316,317,318,320,321,323,324,325,327,328,330,331,332,334,335,337,338,339,342,343,344,347,348,349,351,352,354,355]
theorem h_as(P:Params):hAs=(zhH P).map (·.1):=by kernel_rfl
noncomputable def hHook:Hook:=kHook zhH hAs h_as
noncomputable def za4:Program:={ PG with main:={ PG.main with body:=[sA 1,sA 2,sA 3,sA 4,sA 5,sA 7,sA 8,sA 9,sA 10,sA 11,sA 12,sA 13,sA 14,sA 15,sA 16,sA 17,sA 18,sA 19,sA 21,sA 22,sA 23,sA 24,sA 25,sA 27,sA 28,sA 29,sA 30,sA 31,sA 32,sA 33,sA 34,sA 35,sA 36,sA 38,sA 39,sA 40,sA 41,sA 43,sA 44,sA 45,sA 46,sA 48,sA 49,sA 50,sA 51,sA 52,sA 53,sA 54,sA 55,sA 56,sA 57,sA 58,sA 59,sA 60,sA 61] } }
noncomputable def hEnv:Env:={ scope:=PG.main.scope,locals:=mainNs,globals:=mainNs,cells:=[],code:=.ref 13,frame:=some 14 }
noncomputable def hC:Code:=.body (behindTheImports PG) hEnv
noncomputable abbrev P00:Pos:=⟨0,0,0,0⟩
theorem pGo(w:World):(fun os:OsState=>topGo treeTable PG w 11 (some (.ref 6)) 12 ⟨boot_heap w.params,#[],boot_drawn,boot_toks,os⟩ (topStub PG))=fun os=>some (⟨hp46 w.params,#[],{},187,os⟩,⟨denote treeTable hC,hC,P00,[topFrame P00]⟩):=by kernel_rfl
theorem pSeg(w:World):(fun os:OsState=>segRun treeTable PG w 11 (some (.ref 6)) 1 1 ⟨hp46 w.params,#[],{},187,os⟩ (blockOf (behindTheImports PG) hEnv hC P00 [topFrame P00]))=fun os=>some (.next,SharedT.abs ⟨tr47 w.params,15,{},#[],{},187,os⟩,hC,P00):=by kernel_rfl
theorem pc0(w:World):(fun os:OsState=>segRunT treeTable PG w 11 (some (.ref 6)) 1 196 ⟨tr47 w.params,15,{},#[],{},187,os⟩ (piecesOf [sA 0,sA 1] hEnv hC ⟨0,0,0,0⟩ [topFrame P00]))=fun os=>some (.next,⟨tr63 w.params,28,{},#[],{},207,os⟩,hC,⟨2,0,3,8⟩):=by kernel_rfl
theorem pc1(w:World):(fun os:OsState=>segRunT treeTable PG w 11 (some (.ref 6)) 1 214 ⟨tr63 w.params,28,{},#[],{},207,os⟩ (piecesOf [sA 2] hEnv hC ⟨2,0,3,8⟩ [topFrame P00]))=fun os=>some (.next,⟨tr78 w.params,40,{},#[],{},223,os⟩,hC,⟨4,0,5,8⟩):=by kernel_rfl
theorem pc2(w:World):(fun os:OsState=>segRunT treeTable PG w 11 (some (.ref 6)) 1 214 ⟨tr78 w.params,40,{},#[],{},223,os⟩ (piecesOf [sA 3] hEnv hC ⟨4,0,5,8⟩ [topFrame P00]))=fun os=>some (.next,⟨tr93 w.params,52,{},#[],{},239,os⟩,hC,⟨6,0,7,8⟩):=by kernel_rfl
theorem pc3(w:World):(fun os:OsState=>segRunT treeTable PG w 11 (some (.ref 6)) 1 214 ⟨tr93 w.params,52,{},#[],{},239,os⟩ (piecesOf [sA 4] hEnv hC ⟨6,0,7,8⟩ [topFrame P00]))=fun os=>some (.next,⟨zoD w.params,64,{},#[],{},255,os⟩,hC,⟨8,0,9,8⟩):=by kernel_rfl
theorem pc4(w:World):(fun os:OsState=>segRunT treeTable PG w 11 (some (.ref 6)) 1 379 ⟨zoD w.params,64,{},#[],{},255,os⟩ (piecesOf [sA 5,sA 6,sA 7,sA 8,sA 9,sA 10,sA 11,sA 12,sA 13,sA 14] hEnv hC ⟨8,0,9,8⟩ [topFrame P00]))=fun os=>some (.next,⟨zoC w.params,103,{},#[],{},313,os⟩,hC,⟨35,0,36,38⟩):=by kernel_rfl
theorem pc5(w:World):(fun os:OsState=>segRunT treeTable PG w 11 (some (.ref 6)) 1 394 ⟨zoC w.params,103,{},#[],{},313,os⟩ (piecesOf [sA 15,sA 16,sA 17,sA 18,sA 19,sA 20,sA 21,sA 22,sA 23,sA 24,sA 25,sA 26,sA 27,sA 28,sA 29,sA 30] hEnv hC ⟨35,0,36,38⟩ [topFrame P00]))=fun os=>some (.next,⟨zoB w.params,181,{},#[],{},420,os⟩,hC,⟨92,0,107,88⟩):=by kernel_rfl
theorem pc6(w:World):(fun os:OsState=>segRunT treeTable PG w 11 (some (.ref 6)) 1 374 ⟨zoB w.params,181,{},#[],{},420,os⟩ (piecesOf [sA 31,sA 32,sA 33,sA 34,sA 35,sA 36,sA 37,sA 38,sA 39,sA 40,sA 41,sA 42,sA 43,sA 44] hEnv hC ⟨92,0,107,88⟩ [topFrame P00]))=fun os=>some (.next,⟨zoA w.params,256,{},#[],{},532,os⟩,hC,⟨195,0,205,29⟩):=by kernel_rfl
theorem pc7(w:World):(fun os:OsState=>segRunT treeTable PG w 11 (some (.ref 6)) 1 367 ⟨zoA w.params,256,{},#[],{},532,os⟩ (piecesOf [sA 45,sA 46,sA 47,sA 48,sA 49,sA 50,sA 51,sA 52,sA 53,sA 54,sA 55,sA 56,sA 57] hEnv hC ⟨195,0,205,29⟩ [topFrame P00]))=fun os=>some (.next,⟨zoz w.params,332,{},#[],{},635,os⟩,hC,⟨314,0,315,131⟩):=by kernel_rfl
theorem pc8(w:World):(fun os:OsState=>segRunT treeTable PG w 11 (some (.ref 6)) 1 125 ⟨zoz w.params,332,{},#[],{},635,os⟩ (piecesOf [sA 58,sA 59,sA 60,sA 61] hEnv hC ⟨314,0,315,131⟩ [topFrame P00]))=fun os=>some (.next,⟨zoy w.params,356,{},#[],{},675,os⟩,hC,⟨356,0,367,125⟩):=by kernel_rfl
theorem zru:behindTheImports PG=[sA 0,sA 1,sA 2,sA 3,sA 4,sA 5,sA 6,sA 7,sA 8,sA 9,sA 10,sA 11,sA 12,sA 13,sA 14,sA 15,sA 16,sA 17,sA 18,sA 19,sA 20,sA 21,sA 22,sA 23,sA 24,sA 25,sA 26,sA 27,sA 28,sA 29,sA 30,sA 31,sA 32,sA 33,sA 34,sA 35,sA 36,sA 37,sA 38,sA 39,sA 40,sA 41,sA 42,sA 43,sA 44,sA 45,sA 46,sA 47,sA 48,sA 49,sA 50,sA 51,sA 52,sA 53,sA 54,sA 55,sA 56,sA 57,sA 58,sA 59,sA 60,sA 61]:=by kernel_rfl
theorem pEnd(w:World)(os:OsState):topRun treeTable PG w 11 (some (.ref 6)) 2 (SharedT.abs ⟨zoy w.params,356,{},#[],{},675,os⟩) (restOf [] hEnv hC ⟨356,0,367,125⟩ [topFrame P00])=some ⟨zaV w.params,#[],{},675,os⟩:=congrFun (show (fun os:OsState=>topRun treeTable PG w 11 (some (.ref 6)) 2 (SharedT.abs ⟨zoy w.params,356,{},#[],{},675,os⟩) (restOf [] hEnv hC ⟨356,0,367,125⟩ [topFrame P00]))=fun os=>some ⟨zaV w.params,#[],{},675,os⟩ by kernel_rfl) os
theorem rn8(w:World)(os:OsState):topRun treeTable PG w 11 (some (.ref 6)) (125+2) (SharedT.abs ⟨zoz w.params,332,{},#[],{},635,os⟩) (restOf [sA 58,sA 59,sA 60,sA 61] hEnv hC ⟨314,0,315,131⟩ [topFrame P00])=some ⟨zaV w.params,#[],{},675,os⟩:=piece_app (l:=[sA 58,sA 59,sA 60,sA 61]) (rest:=[]) (segRun_of (congrFun (pc8 w) os)) (pEnd w os)
theorem rn7(w:World)(os:OsState):topRun treeTable PG w 11 (some (.ref 6)) (367+(125+2)) (SharedT.abs ⟨zoA w.params,256,{},#[],{},532,os⟩) (restOf [sA 45,sA 46,sA 47,sA 48,sA 49,sA 50,sA 51,sA 52,sA 53,sA 54,sA 55,sA 56,sA 57,sA 58,sA 59,sA 60,sA 61] hEnv hC ⟨195,0,205,29⟩ [topFrame P00])=some ⟨zaV w.params,#[],{},675,os⟩:=piece_app (l:=[sA 45,sA 46,sA 47,sA 48,sA 49,sA 50,sA 51,sA 52,sA 53,sA 54,sA 55,sA 56,sA 57]) (rest:=[sA 58,sA 59,sA 60,sA 61]) (segRun_of (congrFun (pc7 w) os)) (rn8 w os)
theorem rn6(w:World)(os:OsState):topRun treeTable PG w 11 (some (.ref 6)) (374+(367+(125+2))) (SharedT.abs ⟨zoB w.params,181,{},#[],{},420,os⟩) (restOf [sA 31,sA 32,sA 33,sA 34,sA 35,sA 36,sA 37,sA 38,sA 39,sA 40,sA 41,sA 42,sA 43,sA 44,sA 45,sA 46,sA 47,sA 48,sA 49,sA 50,sA 51,sA 52,sA 53,sA 54,sA 55,sA 56,sA 57,sA 58,sA 59,sA 60,sA 61] hEnv hC ⟨92,0,107,88⟩ [topFrame P00])=some ⟨zaV w.params,#[],{},675,os⟩:=piece_app (l:=[sA 31,sA 32,sA 33,sA 34,sA 35,sA 36,sA 37,sA 38,sA 39,sA 40,sA 41,sA 42,sA 43,sA 44]) (rest:=[sA 45,sA 46,sA 47,sA 48,sA 49,sA 50,sA 51,sA 52,sA 53,sA 54,sA 55,sA 56,sA 57,sA 58,sA 59,sA 60,sA 61]) (segRun_of (congrFun (pc6 w) os)) (rn7 w os)
theorem rn5(w:World)(os:OsState):topRun treeTable PG w 11 (some (.ref 6)) (394+(374+(367+(125+2)))) (SharedT.abs ⟨zoC w.params,103,{},#[],{},313,os⟩) (restOf [sA 15,sA 16,sA 17,sA 18,sA 19,sA 20,sA 21,sA 22,sA 23,sA 24,sA 25,sA 26,sA 27,sA 28,sA 29,sA 30,sA 31,sA 32,sA 33,sA 34,sA 35,sA 36,sA 37,sA 38,sA 39,sA 40,sA 41,sA 42,sA 43,sA 44,sA 45,sA 46,sA 47,sA 48,sA 49,sA 50,sA 51,sA 52,sA 53,sA 54,sA 55,sA 56,sA 57,sA 58,sA 59,sA 60,sA 61] hEnv hC ⟨35,0,36,38⟩ [topFrame P00])=some ⟨zaV w.params,#[],{},675,os⟩:=piece_app (l:=[sA 15,sA 16,sA 17,sA 18,sA 19,sA 20,sA 21,sA 22,sA 23,sA 24,sA 25,sA 26,sA 27,sA 28,sA 29,sA 30]) (rest:=[sA 31,sA 32,sA 33,sA 34,sA 35,sA 36,sA 37,sA 38,sA 39,sA 40,sA 41,sA 42,sA 43,sA 44,sA 45,sA 46,sA 47,sA 48,sA 49,sA 50,sA 51,sA 52,sA 53,sA 54,sA 55,sA 56,sA 57,sA 58,sA 59,sA 60,sA 61]) (segRun_of (congrFun (pc5 w) os)) (rn6 w os)
theorem rn4(w:World)(os:OsState):topRun treeTable PG w 11 (some (.ref 6)) (379+(394+(374+(367+(125+2))))) (SharedT.abs ⟨zoD w.params,64,{},#[],{},255,os⟩) (restOf [sA 5,sA 6,sA 7,sA 8,sA 9,sA 10,sA 11,sA 12,sA 13,sA 14,sA 15,sA 16,sA 17,sA 18,sA 19,sA 20,sA 21,sA 22,sA 23,sA 24,sA 25,sA 26,sA 27,sA 28,sA 29,sA 30,sA 31,sA 32,sA 33,sA 34,sA 35,sA 36,sA 37,sA 38,sA 39,sA 40,sA 41,sA 42,sA 43,sA 44,sA 45,sA 46,sA 47,sA 48,sA 49,sA 50,sA 51,sA 52,sA 53,sA 54,sA 55,sA 56,sA 57,sA 58,sA 59,sA 60,sA 61] hEnv hC ⟨8,0,9,8⟩ [topFrame P00])=some ⟨zaV w.params,#[],{},675,os⟩:=piece_app (l:=[sA 5,sA 6,sA 7,sA 8,sA 9,sA 10,sA 11,sA 12,sA 13,sA 14]) (rest:=[sA 15,sA 16,sA 17,sA 18,sA 19,sA 20,sA 21,sA 22,sA 23,sA 24,sA 25,sA 26,sA 27,sA 28,sA 29,sA 30,sA 31,sA 32,sA 33,sA 34,sA 35,sA 36,sA 37,sA 38,sA 39,sA 40,sA 41,sA 42,sA 43,sA 44,sA 45,sA 46,sA 47,sA 48,sA 49,sA 50,sA 51,sA 52,sA 53,sA 54,sA 55,sA 56,sA 57,sA 58,sA 59,sA 60,sA 61]) (segRun_of (congrFun (pc4 w) os)) (rn5 w os)
theorem rn3(w:World)(os:OsState):topRun treeTable PG w 11 (some (.ref 6)) (214+(379+(394+(374+(367+(125+2)))))) (SharedT.abs ⟨tr93 w.params,52,{},#[],{},239,os⟩) (restOf [sA 4,sA 5,sA 6,sA 7,sA 8,sA 9,sA 10,sA 11,sA 12,sA 13,sA 14,sA 15,sA 16,sA 17,sA 18,sA 19,sA 20,sA 21,sA 22,sA 23,sA 24,sA 25,sA 26,sA 27,sA 28,sA 29,sA 30,sA 31,sA 32,sA 33,sA 34,sA 35,sA 36,sA 37,sA 38,sA 39,sA 40,sA 41,sA 42,sA 43,sA 44,sA 45,sA 46,sA 47,sA 48,sA 49,sA 50,sA 51,sA 52,sA 53,sA 54,sA 55,sA 56,sA 57,sA 58,sA 59,sA 60,sA 61] hEnv hC ⟨6,0,7,8⟩ [topFrame P00])=some ⟨zaV w.params,#[],{},675,os⟩:=piece_app (l:=[sA 4]) (rest:=[sA 5,sA 6,sA 7,sA 8,sA 9,sA 10,sA 11,sA 12,sA 13,sA 14,sA 15,sA 16,sA 17,sA 18,sA 19,sA 20,sA 21,sA 22,sA 23,sA 24,sA 25,sA 26,sA 27,sA 28,sA 29,sA 30,sA 31,sA 32,sA 33,sA 34,sA 35,sA 36,sA 37,sA 38,sA 39,sA 40,sA 41,sA 42,sA 43,sA 44,sA 45,sA 46,sA 47,sA 48,sA 49,sA 50,sA 51,sA 52,sA 53,sA 54,sA 55,sA 56,sA 57,sA 58,sA 59,sA 60,sA 61]) (segRun_of (congrFun (pc3 w) os)) (rn4 w os)
theorem rn2(w:World)(os:OsState):topRun treeTable PG w 11 (some (.ref 6)) (214+(214+(379+(394+(374+(367+(125+2))))))) (SharedT.abs ⟨tr78 w.params,40,{},#[],{},223,os⟩) (restOf [sA 3,sA 4,sA 5,sA 6,sA 7,sA 8,sA 9,sA 10,sA 11,sA 12,sA 13,sA 14,sA 15,sA 16,sA 17,sA 18,sA 19,sA 20,sA 21,sA 22,sA 23,sA 24,sA 25,sA 26,sA 27,sA 28,sA 29,sA 30,sA 31,sA 32,sA 33,sA 34,sA 35,sA 36,sA 37,sA 38,sA 39,sA 40,sA 41,sA 42,sA 43,sA 44,sA 45,sA 46,sA 47,sA 48,sA 49,sA 50,sA 51,sA 52,sA 53,sA 54,sA 55,sA 56,sA 57,sA 58,sA 59,sA 60,sA 61] hEnv hC ⟨4,0,5,8⟩ [topFrame P00])=some ⟨zaV w.params,#[],{},675,os⟩:=piece_app (l:=[sA 3]) (rest:=[sA 4,sA 5,sA 6,sA 7,sA 8,sA 9,sA 10,sA 11,sA 12,sA 13,sA 14,sA 15,sA 16,sA 17,sA 18,sA 19,sA 20,sA 21,sA 22,sA 23,sA 24,sA 25,sA 26,sA 27,sA 28,sA 29,sA 30,sA 31,sA 32,sA 33,sA 34,sA 35,sA 36,sA 37,sA 38,sA 39,sA 40,sA 41,sA 42,sA 43,sA 44,sA 45,sA 46,sA 47,sA 48,sA 49,sA 50,sA 51,sA 52,sA 53,sA 54,sA 55,sA 56,sA 57,sA 58,sA 59,sA 60,sA 61]) (segRun_of (congrFun (pc2 w) os)) (rn3 w os)
theorem rn1(w:World)(os:OsState):topRun treeTable PG w 11 (some (.ref 6)) (214+(214+(214+(379+(394+(374+(367+(125+2)))))))) (SharedT.abs ⟨tr63 w.params,28,{},#[],{},207,os⟩) (restOf [sA 2,sA 3,sA 4,sA 5,sA 6,sA 7,sA 8,sA 9,sA 10,sA 11,sA 12,sA 13,sA 14,sA 15,sA 16,sA 17,sA 18,sA 19,sA 20,sA 21,sA 22,sA 23,sA 24,sA 25,sA 26,sA 27,sA 28,sA 29,sA 30,sA 31,sA 32,sA 33,sA 34,sA 35,sA 36,sA 37,sA 38,sA 39,sA 40,sA 41,sA 42,sA 43,sA 44,sA 45,sA 46,sA 47,sA 48,sA 49,sA 50,sA 51,sA 52,sA 53,sA 54,sA 55,sA 56,sA 57,sA 58,sA 59,sA 60,sA 61] hEnv hC ⟨2,0,3,8⟩ [topFrame P00])=some ⟨zaV w.params,#[],{},675,os⟩:=piece_app (l:=[sA 2]) (rest:=[sA 3,sA 4,sA 5,sA 6,sA 7,sA 8,sA 9,sA 10,sA 11,sA 12,sA 13,sA 14,sA 15,sA 16,sA 17,sA 18,sA 19,sA 20,sA 21,sA 22,sA 23,sA 24,sA 25,sA 26,sA 27,sA 28,sA 29,sA 30,sA 31,sA 32,sA 33,sA 34,sA 35,sA 36,sA 37,sA 38,sA 39,sA 40,sA 41,sA 42,sA 43,sA 44,sA 45,sA 46,sA 47,sA 48,sA 49,sA 50,sA 51,sA 52,sA 53,sA 54,sA 55,sA 56,sA 57,sA 58,sA 59,sA 60,sA 61]) (segRun_of (congrFun (pc1 w) os)) (rn2 w os)
theorem rn0(w:World)(os:OsState):topRun treeTable PG w 11 (some (.ref 6)) (196+(214+(214+(214+(379+(394+(374+(367+(125+2))))))))) (SharedT.abs ⟨tr47 w.params,15,{},#[],{},187,os⟩) (restOf [sA 0,sA 1,sA 2,sA 3,sA 4,sA 5,sA 6,sA 7,sA 8,sA 9,sA 10,sA 11,sA 12,sA 13,sA 14,sA 15,sA 16,sA 17,sA 18,sA 19,sA 20,sA 21,sA 22,sA 23,sA 24,sA 25,sA 26,sA 27,sA 28,sA 29,sA 30,sA 31,sA 32,sA 33,sA 34,sA 35,sA 36,sA 37,sA 38,sA 39,sA 40,sA 41,sA 42,sA 43,sA 44,sA 45,sA 46,sA 47,sA 48,sA 49,sA 50,sA 51,sA 52,sA 53,sA 54,sA 55,sA 56,sA 57,sA 58,sA 59,sA 60,sA 61] hEnv hC ⟨0,0,0,0⟩ [topFrame P00])=some ⟨zaV w.params,#[],{},675,os⟩:=piece_app (l:=[sA 0,sA 1]) (rest:=[sA 2,sA 3,sA 4,sA 5,sA 6,sA 7,sA 8,sA 9,sA 10,sA 11,sA 12,sA 13,sA 14,sA 15,sA 16,sA 17,sA 18,sA 19,sA 20,sA 21,sA 22,sA 23,sA 24,sA 25,sA 26,sA 27,sA 28,sA 29,sA 30,sA 31,sA 32,sA 33,sA 34,sA 35,sA 36,sA 37,sA 38,sA 39,sA 40,sA 41,sA 42,sA 43,sA 44,sA 45,sA 46,sA 47,sA 48,sA 49,sA 50,sA 51,sA 52,sA 53,sA 54,sA 55,sA 56,sA 57,sA 58,sA 59,sA 60,sA 61]) (segRun_of (congrFun (pc0 w) os)) (rn1 w os)
theorem rnB(w:World)(os:OsState):topRun treeTable PG w 11 (some (.ref 6)) (196+(214+(214+(214+(379+(394+(374+(367+(125+2))))))))) (SharedT.abs ⟨tr47 w.params,15,{},#[],{},187,os⟩) (restOf (behindTheImports PG) hEnv hC P00 [topFrame P00])=some ⟨zaV w.params,#[],{},675,os⟩:=(congrArg (fun b=>topRun treeTable PG w 11 (some (.ref 6)) (196+(214+(214+(214+(379+(394+(374+(367+(125+2))))))))) (SharedT.abs ⟨tr47 w.params,15,{},#[],{},187,os⟩) (restOf b hEnv hC P00 [topFrame P00])=some ⟨zaV w.params,#[],{},675,os⟩) zru).mpr (rn0 w os)
theorem rnT(w:World)(os:OsState):topRun treeTable PG w 11 (some (.ref 6)) (12+(1+(196+(214+(214+(214+(379+(394+(374+(367+(125+2))))))))))) ⟨boot_heap w.params,#[],boot_drawn,boot_toks,os⟩ (topStub PG)=some ⟨zaV w.params,#[],{},675,os⟩:=go_top (congrFun (pGo w) os) (piece_block (congrFun (pSeg w) os) (rnB w os))
theorem zrp(w:World):((boot_heap w.params).isNs mainGlobals&&(#[]:Array GenState).size==0,(boot_heap w.params).objs.size,(boot_heap w.params).nsMap mainGlobals "__annotations__")=(true,11,(some (Value.ref 6))):=by kernel_rfl
noncomputable abbrev hXt(s:Shared):Bool:=xlAt za4 [] s&&recOk PySem.Challenge.rw_uf010027_11.row.records s
theorem lk1(w:World):(fun os:OsState=>staticsOk (importedModules PG.main.body) (boot_heap w.params) (zaV w.params)&&namesBound PG (zaV w.params)&&gensDone ⟨zaV w.params,#[],{},675,os⟩&&laidKept (boot_heap w.params) (zaV w.params))=fun _=>true:=by kernel_rfl
theorem ls0(w:World):(fun os:OsState=>seen ((recsOf za4).map (·.name)) (ownsOf za4) [] { (⟨zaV w.params,#[],{},675,os⟩:Shared) with gens:=#[] })=fun _=>expectedOf za4:=by kernel_rfl
theorem ls1(w:World):(fun os:OsState=>Heap.bltView (zaV w.params))=fun _=>bltViewBooted:=by kernel_rfl
theorem ls2(w:World):(fun os:OsState=>(⟨zaV w.params,#[],{},675,os⟩:Shared).heap.keysOk (looseW za4 []) ((recsOf za4).map (·.name)) ((litsOf za4).map (·.1)) ((clssOf za4 (looseW za4 [])).map (·.name))&&(⟨zaV w.params,#[],{},675,os⟩:Shared).heap.accountedOkI (importedModules PG.main.body)&&(⟨zaV w.params,#[],{},675,os⟩:Shared).heap.isNs mainGlobals&&(⟨zaV w.params,#[],{},675,os⟩:Shared).heap.isNs builtinsNs&&tablesOk za4 (⟨zaV w.params,#[],{},675,os⟩:Shared).heap&&hXt ⟨zaV w.params,#[],{},675,os⟩&&(if true then (⟨zaV w.params,#[],{},675,os⟩:Shared).gens.size==0 else !leftWithCleanup (⟨zaV w.params,#[],{},675,os⟩:Shared).gens))=fun _=>true:=by kernel_rfl
theorem ls3(w:World):(fun os:OsState=>tabsOk za4 ⟨zaV w.params,#[],{},675,os⟩)=fun _=>true:=by kernel_rfl
theorem ls4(w:World):(fun os:OsState=>pinSeenD za4 (drecsOf za4) ⟨zaV w.params,#[],{},675,os⟩)=fun _=>pinGoodD (drecsOf za4):=by kernel_rfl
theorem ls5(w:World):(fun os:OsState=>plainSeenE za4 (looseW za4 []) ⟨zaV w.params,#[],{},675,os⟩)=fun _=>plainGoodE za4 (looseW za4 []):=by kernel_rfl
theorem ls6(w:World):(fun os:OsState=>plainSeenD za4 [] ⟨zaV w.params,#[],{},675,os⟩)=fun _=>plainGoodD za4 []:=by kernel_rfl
theorem ls7(w:World):(fun os:OsState=>wideSeen za4 ⟨zaV w.params,#[],{},675,os⟩)=fun _=>wideGood za4:=by kernel_rfl
theorem ls8(w:World):(fun os:OsState=>clsSeenW za4 [] ⟨zaV w.params,#[],{},675,os⟩)=fun _=>clsGoodW za4 []:=by kernel_rfl
theorem lk2(w:World)(os:OsState):openSeen za4 [] (importedModules PG.main.body) hXt true ⟨zaV w.params,#[],{},675,os⟩=openGood za4 []:=
 looks_pair (congrFun (ls0 w) os) (looks_pair (congrFun (ls1 w) os) (looks_pair (congrFun (ls2 w) os) (looks_pair (congrFun (ls3 w) os) (looks_pair (congrFun (ls4 w) os) (looks_pair (congrFun (ls5 w) os) (looks_pair (congrFun (ls6 w) os) (looks_pair (congrFun (ls7 w) os) (congrFun (ls8 w) os))))))))
theorem lk3(w:World):(fun os:OsState=>hHook.obs ⟨zaV w.params,#[],{},675,os⟩)=fun _=>hHook.val w:=by kernel_rfl
theorem zqF:opening PG=plainProg PG.main.scope.names:=by kernel_rfl
theorem zqE(s:Shared):fenceModules? PG s=some s:=by kernel_rfl
noncomputable def hDef:DefRec:=match defOf za4 PySem.Challenge.rw_uf010027_11.row.name with | some (d,_)=>d | Option.none=>⟨"",⟨[],[],none,[],[],none,[]⟩,[],PG.main.scope,⟨0,0,0,0⟩⟩
theorem hd1:defOf za4 PySem.Challenge.rw_uf010027_11.row.name=some (hDef,[]):=by kernel_rfl
theorem hd2:PySem.Challenge.rw_uf010027_11.row.prog.theDef PySem.Challenge.rw_uf010027_11.row.name=some (hDef.params,hDef.body,hDef.scope):=by kernel_rfl
theorem hd3:kwWritten? hDef.params.kwonlyargs hDef.params.kw_defaults=some []:=by kernel_rfl
theorem hd4:(chainsOk za4&&opensWell PySem.Challenge.rw_uf010027_11.row.prog&&(frees PySem.Challenge.rw_uf010027_11.row.toRowW&&PySem.Challenge.rw_uf010027_11.row.within.isEmpty))=true:=by kernel_rfl
theorem hd5:PySem.Challenge.rw_uf010027_11.row.prog.tablesWhole=true:=by kernel_rfl
theorem hd6:PySem.Challenge.rw_uf010027_11.wellSaid=true:=by kernel_rfl
theorem zpo(walk:WalkO za4 [] (XL za4 []) hHook.says PySem.Challenge.rw_uf010027_11.row.toRowW hDef [] fun f vs=>PySem.call f vs):PySem.Challenge.rw_uf010027_11.Holds:=
 holds_law hd6 fun said=>holds_open (Xt:=hXt) (LeftO.of_pieces (N:=20000) (g0:=true) (boot_open zqF (by decide) zqE) zrp rnT (by decide) fun w=>funext fun os=>looks_pair (congrFun (lk1 w) os) (looks_pair (lk2 w os) (congrFun (lk3 w) os))) hHook.of hHook.keeps (fun s e=>xl_of s (Bool.and_eq_true_iff.mp e).left) XL.keeps hd1 hd2 hd3
  (fun s e=>recFacts_of (Bool.and_eq_true_iff.mp e).right) (by kernel_rfl) said hd4 ⟨rfl,rfl,rfl,rfl,rfl,hd5⟩ ⟨[WData.list []],by decide +kernel,by decide +kernel⟩ walk
theorem zrj:GG.fns=zpu ALL (recsOf za4):=by kernel_rfl
theorem j_c1(P:Params):GG.names.all (zki (zhH P) GG.fns)=true:=by kernel_rfl
theorem j_c2(P:Params):bis.all (zpQ (zhH P) GG.names)=true:=by kernel_rfl
theorem j_c3(P:Params):GG.clss.all (zoo (zhH P))=true:=by kernel_rfl
theorem j_c4(P:Params):znY (zhH P) GG=true:=by kernel_rfl
theorem j_c5(P:Params):zn6 (zhH P) ALL (recsOf za4)=true:=by kernel_rfl
theorem zri(P:Params):nsIn (zhH P) mainGlobals "law"=some (some (.ref AA.law)):=by kernel_rfl
theorem law_holds:PySem.Challenge.rw_uf010027_11.Holds:=by
 refine zpo ?_
 intro w s₀ s₁ mg mb Gr Y a o pm cd doc dV kV ho hdta hcr hdf hmg hgens args vals as pre lay rd wl hsm
 have KX:=kIn_of Y
 obtain ⟨hG,hX⟩:=zmo Gr.T KX zrj (j_c1 _) (j_c2 _) (j_c3 _) (j_c4 _) (j_c5 _)
 have ha:=mg_of KX Gr.T.g (zri _)
 have hmg':mg "law"=some (.ref a):=hmg
 rw [ha] at hmg';cases hmg'
 obtain ⟨mm,⟨o',es,ep,ho',_⟩,_⟩:=(Gr.T.seer (by kernel_rfl)).mods
 exact zpe (l:=PySem.Challenge.rw_uf010027_11) rfl (by decide) znt hG hX ⟨_,ho'⟩ hgens pre wl
end Mine
theorem PySem.Challenge.cw_uf010027_11_holds : PySem.Challenge.rw_uf010027_11.Holds :=
 Mine.law_holds
