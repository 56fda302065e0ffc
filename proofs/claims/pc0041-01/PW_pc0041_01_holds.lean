import PyProof.Rows.All
import Wide.All
import OpenK.AllK
import Wide.FinOn
import PySem.Challenge.RW_pc0041_01
set_option Elab.async false
set_option maxHeartbeats 8000000
set_option linter.all false
set_option tactic.hygienic false
set_option hygiene false
set_option maxRecDepth 100000
section
open PySem PySem.W PyProof.Rows
namespace Internal
section
theorem qA2{α:Type _}{a:α}{C:Prop}(h:none=some a):C:=by cases h
theorem qNz{α:Type _}{a:α}{C:Prop}(h:some a=none):C:=by cases h
theorem qA5{α:Type _}{a:α}{C:Prop}(h:a∈([]:List α)):C:=absurd h List.not_mem_nil
set_option genSizeOf false
inductive AV where
 |none
 |bool (b:Bool)
 |int (i:Int)
 |str (n:Nat)
 |tup (l:List AV)
 |lst (l:List AV)
 |ref (i:Nat)
 |inst (c:Nat) (i:Nat)
 |rng (a b:Int)
 |sset (l:List AV)
noncomputable def eqC{α:Type}(a b:α):Bool:=@decide (a=b) (Classical.propDecidable _)
theorem qDo{α:Type}(a b:α):eqC a b=true↔a=b:=@decide_eq_true_iff _ (Classical.propDecidable _)
noncomputable def bnd{α β γ:Type}(o:Option (α×β))(f:α->β->Option γ):Option γ:=match o with
 |some (a,b)=>f a b
 |none=>none
theorem qA4{α β γ:Type}{o:Option (α×β)}{f:α->β->Option γ}{c:γ}(h:bnd o f=some c):∃a b,o=some (a,b)/\f a b=some c:=by
 cases o with
 |none=>exact qA2 h
 |some r=>exact⟨r.1,r.2,rfl,h⟩
theorem qA0{α β:Type}{x:Option α}{f:α->Option β}{y:β}(e:x.bind f=some y):∃a,x=some a/\f a=some y:=by
 cases x with
 |none=>exact qA2 e
 |some a=>exact⟨a,rfl,e⟩
theorem qA3{α β:Type}{x:Option α}{f:α->β}{y:β}(e:x.map f=some y):∃a,x=some a/\f a=y:=by
 cases x with
 |none=>exact qA2 e
 |some a=>exact⟨a,rfl,Option.some.inj e⟩
theorem qA9{c:Prop} [Decidable c]{α:Type}{x:Option α}{y:α}(e:(if c then x else none)=some y):c/\x=some y:=by
 by_cases h:c
 .exact ⟨h,(if_pos h).symm.trans e⟩
 .exact nomatch (if_neg h).symm.trans e
theorem qA6{α β:Type}{a a':α}{b b':β}(e:some (a,b)=some (a',b')):a=a'/\b=b':=⟨congrArg Prod.fst (Option.some.inj e),congrArg Prod.snd (Option.some.inj e)⟩
noncomputable def intOf:AV->Option Int|.int i=>some i|_=>none
noncomputable def qAN:AV->Option Bool|.bool b=>some b|_=>none
noncomputable def strOf:AV->Option Nat|.str b=>some b|_=>none
noncomputable def tupOf:AV->Option (List AV)|.tup l=>some l|_=>none
noncomputable def lstOf:AV->Option (List AV)|.lst l=>some l|_=>none
noncomputable def one{α:Type}:List α->Option α|a::r=>(match r with | []=>some a|_=>none) | []=>none
noncomputable def two{α:Type}:List α->Option (α×α)|a::r=>(one r).map fun b=>(a,b) | []=>none
noncomputable def three{α:Type}:List α->Option (α×α×α)|a::r=>(two r).map fun b=>(a,b) | []=>none
theorem qAZ{a:AV}{i:Int}(e:intOf a=some i):a=.int i:=by
 induction a using AV.casesOn with
 |int=>exact congrArg _ (Option.some.inj e)
 |_=>exact qA2 e
theorem qAR{a:AV}{i:Bool}(e:qAN a=some i):a=.bool i:=by
 cases a with
 |bool=>exact congrArg _ (Option.some.inj e)
 |_=>exact qA2 e
theorem qBW{a:AV}{i:Nat}(e:strOf a=some i):a=.str i:=by
 induction a using AV.casesOn with
 |str=>exact congrArg _ (Option.some.inj e)
 |_=>exact qA2 e
theorem qAv{a:AV}{i:List AV}(e:tupOf a=some i):a=.tup i:=by
 induction a using AV.casesOn with
 |tup=>exact congrArg _ (Option.some.inj e)
 |_=>exact qA2 e
theorem qBa{a:AV}{i:List AV}(e:lstOf a=some i):a=.lst i:=by
 induction a using AV.casesOn with
 |lst=>exact congrArg _ (Option.some.inj e)
 |_=>exact qA2 e
theorem qBI{α:Type}{l:List α}{a:α}(e:one l=some a):l=[a]:=by
 cases l with
 |nil=>exact qA2 e
 |cons b r=>cases r with
  |nil=>exact congrArg (fun x=>[x]) (Option.some.inj e)
  |cons=>exact qA2 e
theorem qFv{α:Type}{l:List α}{p:α×α}(e:two l=some p):l=[p.1,p.2]:=by
 cases l with
 |nil=>exact qA2 e
 |cons b r =>
  obtain⟨c,h,q⟩:=qA3 e
  rw[qBI h,<-q]
theorem qJ0{α:Type}{l:List α}{p:α×α×α}(e:three l=some p):l=[p.1,p.2.1,p.2.2]:=by
 cases l with
 |nil=>exact qA2 e
 |cons b r =>
  obtain⟨c,h,q⟩:=qA3 e
  rw[qFv h,<-q]
theorem qCQ{α:Type}{o:Option α}{p:α->Bool}(h:o.any p=true):∃a,o=some a/\p a=true:=by
 cases o with
 |none=>exact nomatch h
 |some a=>exact⟨a,rfl,h⟩
noncomputable def eqL(f:AV->AV->Bool):List AV->List AV->Bool
 |[],m=>m.isEmpty
 |a::l,m=>(match m with|b::m=>f a b&&eqL f l m | []=>false)
noncomputable def eqB:Nat->AV->AV->Bool
 | 0,a,b=>eqC a b
 |n+1,a,b=>match a with
  |.int x=>(intOf b).any fun y=>decide (x=y)
  |.str x=>(strOf b).any fun y=>decide (x=y)
  |.tup l=>(tupOf b).any (eqL (eqB n) l)
  |.lst l=>(lstOf b).any (eqL (eqB n) l)
  |a=>eqC a b
theorem qGO{f:AV->AV->Bool}(hf:∀a b,f a b=true↔a=b):∀l m:List AV,eqL f l m=true↔l=m
 |[],[]=>⟨fun _=>rfl,fun _=>rfl⟩
 |[],_::_=>⟨fun h=>(nomatch h),fun h=>(nomatch h)⟩
 |_::_,[]=>⟨fun h=>(nomatch h),fun h=>(nomatch h)⟩
 |a::l,b::m=>Bool.and_eq_true_iff.trans ⟨fun h=>congr (congrArg List.cons ((hf a b).mp h.1)) ((qGO hf l m).mp h.2),fun h=>⟨(hf a b).mpr (List.cons.inj h).1,(qGO hf l m).mpr (List.cons.inj h).2⟩⟩
theorem qGP{α:Type}{g:AV->Option α}{c:α->AV}{f:α->α->Bool}(h1:∀{b y},g b=some y->b=c y)(h2:∀y,g (c y)=some y)(hf:∀x y,f x y=true↔x=y)(x:α)(b:AV):(g b).any (f x)=true↔c x=b:=by
 refine⟨fun h=>?_,fun h=>?_⟩
 .obtain ⟨y,e,h⟩:=qCQ h
  rw[h1 e,(hf x y).mp h]
 .rw [<-h,h2];exact(hf x x).mpr rfl
theorem qI2:∀(n:Nat) (a b:AV),eqB n a b=true↔a=b
 | 0,a,b=>qDo a b
 |n+1,a,b=>by
  induction a using AV.casesOn with
  |int x=>exact qGP qAZ (fun _=>rfl) (fun _ _=>decide_eq_true_iff) x b
  |str x=>exact qGP qBW (fun _=>rfl) (fun _ _=>decide_eq_true_iff) x b
  |tup l=>exact qGP qAv (fun _=>rfl) (qGO (qI2 n)) l b
  |lst l=>exact qGP qBa (fun _=>rfl) (qGO (qI2 n)) l b
  |_=>exact qDo _ b
noncomputable def AV.beq(a b:AV):Bool:=eqB 8 a b
theorem AV.beq_iff(a b:AV):a.beq b=true↔a=b:=qI2 8 a b
noncomputable def hasAV(x:AV):List AV->Bool
 |[]=>false
 |y::r=>y.beq x || hasAV x r
theorem qFh{x y:AV}{r:List AV}:hasAV x (y::r)=(y.beq x || hasAV x r):=rfl
noncomputable def qBQ(x:AV):List AV->List AV
 |[]=>[]
 |y::r=>if y.beq x then r else y::qBQ x r
theorem qE3{x y:AV}{r:List AV}:qBQ x (y::r)=if y.beq x then r else y::qBQ x r:=rfl
set_option genInjectivity false
inductive AObj where
 |list (l:List AV)
 |dictI (kvs:List (Int×AV))
 |dictS (kvs:List (Nat×AV))
 |ns (fs:List (Nat×AV))
noncomputable def qDn(a b:List AObj):Bool:=eqC a b
theorem qEr(a b):qDn a b=true↔a=b:=qDo a b
noncomputable def qNU(a b:Option AObj):Bool:=eqC a b
theorem qFS(a b):qNU a b=true↔a=b:=qDo a b
abbrev AHeap:=List AObj
abbrev Rho:=List (Nat×AV)
inductive BOp where|add|sub|mul|div|mod
inductive COp where|eq|ne|lt|le|gt|ge|isNone|notNone|inn|notIn
inductive BI where|len|tuple|list|range|sorted|set|int|sum|max|min
mutual
inductive CE where
 |lit (v:AV)
 |var (x:Nat)
 |bin (op:BOp) (trk:Bool) (a b:CE)
 |neg (a:CE)
 |not (a:CE)
 |cmp (op:COp) (a b:CE)
 |band (es:List CE)
 |bor (es:List CE)
 |ite (t a b:CE)
 |tup (es:List CE)
 |lst (trk:Bool) (es:List CE)
 |dct (ks vs:List CE)
 |comp (trk en:Bool) (elt:CE) (tgt:CT) (iter:CE) (ifs:List CE)
 |callF (f:Nat) (es:List CE)
 |callM (o:CE) (m:Nat) (es:List CE)
 |bi (b:BI) (trk:Bool) (es:List CE)
 |new (c:Nat)
 |attr (o:CE) (a:Nat)
 |sub (o i:CE)
 |slice (trk:Bool) (o:CE) (lo hi:Option CE)
inductive CT where
 |name (x:Nat)
 |tup (ts:List CT)
 |attr (o:CE) (a:Nat)
 |sub (o i:CE)
end
inductive CS where
 |ret (e:Option CE)
 |expr (e:CE)
 |asg (t:CT) (e:CE)
 |ife (t:CE) (a b:List CS)
 |for (en:Bool) (t:CT) (it:CE) (body:List CS)
 |whl (t:CE) (body:List CS)
 |bad
structure FnC where
 params:List Nat
 dflt:Bool:=false      -- the last parameter has the default None
 pure:Bool
 body:List CS
structure Prog where
 fns:List (Nat×FnC)
 mts:List ((Nat×Nat)×Nat)
 attrs:List (Nat×Nat)
noncomputable def upd{κ α:Type} [DecidableEq κ](k:κ)(v:α):List (κ×α)->List (κ×α)
 |[]=>[(k,v)]
 |p::r=>if p.1=k then(k,v)::r else p::upd k v r
theorem qEC{κ α:Type} [DecidableEq κ]{k:κ}{v:α}{p:κ×α}{r:List (κ×α)}:upd k v (p::r)=if p.1=k then(k,v)::r else p::upd k v r:=rfl
mutual
noncomputable def AV.plain:AV->Bool
 |.none|.bool _|.int _|.str _=>true
 |.tup l=>qAk l
 |.lst l=>qAk l
 |_=>false
noncomputable def qAk:List AV->Bool
 |[]=>true
 |v::r=>v.plain&&qAk r
end
noncomputable def qAM:Nat->AV->Bool
 | 0,a=>(match a with|.none|.int _|.str _=>true|_=>false)
 |n+1,a=>(match a with|.none|.int _|.str _=>true|.tup l=>l.all (qAM n)|.lst l=>l.all (qAM n)|_=>false)
noncomputable def AV.clean(a:AV):Bool:=qAM 8 a
noncomputable def qE7(l:List AV):Bool:=l.all (qAM 7)
noncomputable def qAj(H:AHeap)(i:Nat):Option (List AV):=H[i]?.bind fun o=>match o with
 |.list l=>some l
 |_=>none
noncomputable def qDI(H:AHeap):AV->Option AV
 |.ref i=>(qAj H i).map .lst
 |v=>some v
noncomputable def qLW(H:AHeap)(l:List AV):Option AV:=(l.mapM (qDI H)).map .lst
noncomputable def qBN(H:AHeap):AV->Option AV
 |.ref i=>(qAj H i).bind (qLW H)
 |.lst l=>qLW H l
 |v=>some v
noncomputable def eqAV(a b:AV):Option Bool:=match qAN a with
 |some x=>(qAN b).map fun y=>x==y
 |none=>if a.clean&&b.clean then some (a.beq b)else none
noncomputable def lit3(v:AV):Option (Int×Nat×Int):=((tupOf v).bind three).bind fun p=>(intOf p.1).bind fun i=>(strOf p.2.1).bind fun n=>(intOf p.2.2).map fun k=>(i,n,k)
noncomputable def rank(v:AV):Option (Int×Int×Nat×Int):=((tupOf v).bind two).bind fun p=>(intOf p.1).bind fun h=>(lit3 p.2).map fun q=>(h,q)
noncomputable def LtL(p q:Int×Nat×Int):Prop:=p.1<q.1\/p.1=q.1/\(p.2.1<q.2.1\/p.2.1=q.2.1/\p.2.2<q.2.2)
instance (p q:Int×Nat×Int):Decidable (LtL p q):=inferInstanceAs (Decidable (_\/_))
noncomputable def ltKey(a b:AV):Bool:=match intOf a with
 |some x=>(intOf b).any fun y=>decide (x<y)
 |none=>match lit3 a with
  |some p=>(lit3 b).any fun q=>decide (LtL p q)
  |none=>(rank a).any fun p=>(rank b).any fun q=>decide (p.1<q.1\/p.1=q.1/\LtL p.2 q.2)
noncomputable def isK1(v:AV):Bool:=(intOf v).isSome
noncomputable def qKb(p:Int×Nat×Int):Bool:=decide (7<=p.2.1)&&decide (p.2.1<=10)
noncomputable def isK2(v:AV):Bool:=(lit3 v).any qKb
noncomputable def isK3(v:AV):Bool:=(rank v).any fun p=>qKb p.2
noncomputable def qAn(l:List AV):Bool:=l.all isK1 || l.all isK2 || l.all isK3
noncomputable def qBq(x:AV):List AV->List AV
 |[]=>[x]
 |y::r=>if ltKey y x then y::qBq x r else x::y::r
theorem qDD{x y:AV}{r:List AV}:qBq x (y::r)=if ltKey y x then y::qBq x r else x::y::r:=rfl
noncomputable def qAD:List AV->List AV
 |[]=>[]
 |x::r=>qBq x (qAD r)
noncomputable def qEf:List AV->Bool
 |[]=>true
 |x::r=>!hasAV x r&&qEf r
noncomputable def qAY(l:List AV):Option (List AV):=if qAn l&&decide (l.length<7)&&qEf l then some (qAD l)else none
noncomputable def dedup:List AV->List AV
 |[]=>[]
 |x::r=>x::(dedup r).filter (fun y=>!y.beq x)
noncomputable def alloc(H:AHeap)(o:AObj):AV×AHeap:=(.ref H.length,H++[o])
noncomputable def qAC(trk:Bool)(l:List AV)(H:AHeap):AV×AHeap:=if trk then alloc H (.list l)else(.lst l,H)
noncomputable def qAH(H:AHeap):AV->Option (List AV)
 |.lst l=>some l
 |.ref i=>qAj H i
 |_=>none
noncomputable def qAJ(a b:Int):List AV:=(List.range (b-a).toNat).map fun(i:Nat)=>AV.int (a+(i:Int))
noncomputable def qEy:Nat->List AV->List AV
 |_,[]=>[]
 |n,x::r=>.tup [.int n,x]::qEy (n+1) r
noncomputable def qH7(H:AHeap):AV->Option (List AV×Option Nat)
 |.tup l=>some (l,none)
 |.lst l=>some (l,none)
 |.ref i=>(qAj H i).map fun l=>(l,some i)
 |.rng a b=>some (qAJ a b,none)
 |_=>none
noncomputable def iterE(en:Bool)(H:AHeap)(v:AV):Option (List AV×Option Nat) :=
 if en then(qAH H v).bind fun _=>bnd (qH7 H v) fun l src=>some (qEy 0 l,src)
 else qH7 H v
noncomputable def qAa(H0 H:AHeap):Option Nat->Bool
 |none=>true
 |some i=>qNU H[i]? H0[i]?
noncomputable def small(i:Int):Bool:=decide (i.natAbs<400000)
noncomputable def twoI(a b:AV)(f:Int->Int->Option AV):Option AV:=(intOf a).bind fun x=>(intOf b).bind fun y=>f x y
noncomputable def binAV(op:BOp)(a b:AV):Option AV:=match op with
 |.add=>(match a with
  |.int x=>(intOf b).map fun y=>.int (x+y)
  |.tup l=>(tupOf b).bind fun m=>if l.length+m.length<1000000 then some (.tup (l++m))else none
  |.lst l=>(lstOf b).bind fun m=>if l.length+m.length<1000000 then some (.lst (l++m))else none
  |_=>none)
 |.sub=>twoI a b fun x y=>some (.int (x-y))
 |.mul=>twoI a b fun x y=>if small x&&small y then some (.int (x*y))else none
 |.div=>twoI a b fun x y=>if decide (0<y)&&small y then some (.int (x / y))else none
 |.mod=>twoI a b fun x y=>if decide (0<y)then some (.int (x % y))else none
noncomputable def trkAV(trk:Bool)(v:AV)(H:AHeap):AV×AHeap:=match v with
 |.lst l=>qAC trk l H
 |v=>(v,H)
noncomputable def memAV(x:AV)(l:List AV):Option Bool:=match qAN x with
 |some b=>if l.all (fun v=>(qAN v).isSome)then some (hasAV (.bool b) l)else none
 |none=>if x.clean&&qE7 l then some (hasAV x l)else none
noncomputable def qEp(H:AHeap):AV->Option (List AV)
 |.tup l=>some l
 |v=>qAH H v
noncomputable def qGv:AV->Option Bool
 |.ref _|.inst ..|.lst _|.tup _=>some false
 |.none=>some true
 |_=>none
noncomputable def eqs(a b:AV)(H:AHeap):Option Bool:=(qBN H a).bind fun x=>(qBN H b).bind fun y=>eqAV x y
noncomputable def intB(a b:AV)(f:Int->Int->Bool):Option Bool:=(intOf a).bind fun x=>(intOf b).map fun y=>f x y
noncomputable def cmpAV(op:COp)(a b:AV)(H:AHeap):Option Bool:=match op with
 |.eq=>eqs a b H
 |.ne=>(eqs a b H).map fun x=>!x
 |.lt=>intB a b fun x y=>decide (x<y)
 |.le=>intB a b fun x y=>decide (x<=y)
 |.gt=>intB a b fun x y=>decide (x>y)
 |.ge=>intB a b fun x y=>decide (x ≥ y)
 |.isNone=>qGv a
 |.notNone=>(qGv a).map fun x=>!x
 |.inn=>(qEp H b).bind fun l=>memAV a l
 |.notIn=>((qEp H b).bind fun l=>memAV a l).map fun x=>!x
noncomputable def idx(n:Nat)(i:Int):Option Nat :=
 if 0<=i/\i<n then some i.toNat else if i<0/\-(n:Int)<=i then some (i+n).toNat else none
noncomputable def atL(l:List AV)(i:AV):Option AV:=(intOf i).bind fun i=>(idx l.length i).bind fun k=>l[k]?
noncomputable def subO(o:AObj)(i:AV):Option AV:=match o with
 |.list l=>atL l i
 |.dictI kvs=>(intOf i).bind fun k=>kvs.lookup k
 |.dictS kvs=>(strOf i).bind fun k=>kvs.lookup k
 |.ns _=>none
noncomputable def subAV(o i:AV)(H:AHeap):Option AV:=match o with
 |.tup l=>atL l i
 |.lst l=>atL l i
 |.ref r=>H[r]?.bind fun o=>subO o i
 |_=>none
noncomputable def clamp(n:Nat)(i:Int):Nat:=(max 0 (min (if i<0 then i+n else i) n)).toNat
theorem qGT{n:Nat}{i:Int}(h:0<=i):clamp n i=min i.toNat n:=by
 obtain⟨k,rfl⟩:=Int.eq_ofNat_of_zero_le h
 unfold clamp
 rw[if_neg (Int.not_lt.mpr h),Int.max_eq_right (Int.le_min.mpr ⟨h,Int.natCast_nonneg n⟩)]
 show(min (k:Int) n).toNat=min k n
 rcases Nat.le_total k n with q|q
 .rw [Int.min_eq_left (Int.ofNat_le.mpr q),Nat.min_eq_left q];rfl
 .rw [Int.min_eq_right (Int.ofNat_le.mpr q),Nat.min_eq_right q];rfl
noncomputable def qAW(l:List α)(lo hi:Option Int):List α :=
 let a:=match lo with|some i=>clamp l.length i|none=>0
 let b:=match hi with|some i=>clamp l.length i|none=>l.length
 (l.take b).drop a
noncomputable def qC3:List AV->Option Int
 |[]=>some 0
 |x::r=>(intOf x).bind fun i=>(qC3 r).map fun k=>i+k
noncomputable def lenOf(H:AHeap):AV->Option Nat
 |.tup l=>some l.length
 |.sset l=>some l.length
 |v=>(qAH H v).map List.length
noncomputable def qNZ(H:AHeap):AV->Option (List AV)
 |.tup l=>some l
 |.rng a b=>some (qAJ a b)
 |v=>qAH H v
noncomputable def qER(H:AHeap):AV->Option (List AV)
 |.sset l=>some l
 |.tup l=>some l
 |.lst l=>some l
 |.ref i=>H[i]?.bind fun o=>(match o with
  |.dictI kvs=>some (kvs.map fun p=>.int p.1)
  |.list l=>some l
  |_=>none)
 |_=>none
noncomputable def qNR(as:List AV):Option (Int×Int):=match as with
 |a::r=>(intOf a).bind fun x=>if small x then(match r with
  |[]=>some (0,x)
  |b::t=>(match t with
   |[]=>(intOf b).bind fun y=>if small y then some (x,y)else none
   |_=>none))else none
 |[]=>none
noncomputable def intP(as:List AV)(f:Int->Int->Int):Option AV:=(two as).bind fun p=>twoI p.1 p.2 fun x y=>some (.int (f x y))
noncomputable def biAV(b:BI)(trk:Bool)(args:List AV)(H:AHeap):Option (AV×AHeap):=match b with
 |.len=>(one args).bind fun v=>(lenOf H v).map fun(n:Nat)=>(AV.int (n:Int),H)
 |.tuple=>(one args).bind fun v=>(qEp H v).map fun l=>(.tup l,H)
 |.list=>(one args).bind fun v=>(qNZ H v).map fun l=>qAC trk l H
 |.range=>(qNR args).map fun p=>(.rng p.1 p.2,H)
 |.sorted=>(one args).bind fun v=>(qER H v).bind fun l=>(qAY l).map fun m=>qAC trk m H
 |.set=>(one args).bind fun v=>(lstOf v).bind fun l=>if l.all isK2&&decide (l.length<7)then some (.sset (dedup l),H)else none
 |.int=>(one args).bind fun v=>(intOf v).map fun i=>(.int i,H)
 |.sum=>(one args).bind fun v=>(lstOf v).bind fun l=>(qC3 l).map fun n=>(.int n,H)
 |.max=>(intP args fun a b=>if a<b then b else a).map fun v=>(v,H)
 |.min=>(intP args fun a b=>if b<a then b else a).map fun v=>(v,H)
noncomputable def methL(i:Nat)(l:List AV)(args:List AV)(H:AHeap):Nat->Option (AV×AHeap)
 | 0=>(one args).bind fun v=>if l.length<900000 then some (.none,H.set i (.list (l++[v])))else none
 | 1=>if args.isEmpty then l.getLast?.map fun v=>(v,H.set i (.list l.dropLast))else none
 | 2=>((one args).bind intOf).bind fun k=>if l.all isK1&&hasAV (.int k) l then some (.none,H.set i (.list (qBQ (.int k) l)))else none
 | 3=>((one args).bind lstOf).bind fun l'=>if l.length+l'.length<1000000 then some (.none,H.set i (.list (l++l')))else none
 |_=>none
noncomputable def methD(i:Nat)(kvs:List (Int×AV))(args:List AV)(H:AHeap):Nat->Option (AV×AHeap)
 | 4=>(two args).bind fun p=>(intOf p.1).map fun k=>((kvs.lookup k).getD p.2,H)
 | 5=>(two args).bind fun p=>(intOf p.1).bind fun k=>match kvs.lookup k with
  |some v=>some (v,H)
  |none=>if kvs.length<900000 then some (p.2,H.set i (.dictI (kvs++[(k,p.2)])))else none
 |_=>none
noncomputable def qAg(i:Nat)(m:Nat)(args:List AV)(H:AHeap):Option (AV×AHeap):=H[i]?.bind fun o=>match o with
 |.list l=>methL i l args H m
 |.dictI kvs=>methD i kvs args H m
 |_=>none
noncomputable def qBZ(H:AHeap)(i m:Nat):Bool:=H[i]?.any fun o=>match o with
 |.list _=>decide (m<4)
 |.dictI _=>decide (m=4\/m=5)
 |_=>false
abbrev qAb:=Nat->List AV->AHeap->Option (AV×AHeap)
noncomputable def evEs(ev:CE->Rho->AHeap->Option (AV×AHeap)):List CE->Rho->AHeap->Option (List AV×AHeap)
 |[],_,H=>some ([],H)
 |e::r,ρ,H=>bnd (ev e ρ H) fun v H=>bnd (evEs ev r ρ H) fun vs H=>some (v::vs,H)
noncomputable def qAz(ev:CE->Rho->AHeap->Option (AV×AHeap)):List CE->List CE->Rho->AHeap->Option (List (AV×AV)×AHeap)
 |[],es,_,H=>(match es with | []=>some ([],H)|_=>none)
 |k::ks,es,ρ,H=>(match es with
  |e::r=>bnd (ev k ρ H) fun kv H=>bnd (ev e ρ H) fun v H=>bnd (qAz ev ks r ρ H) fun vs H=>some ((kv,v)::vs,H)
  |[]=>none)
theorem qE1{ev:CE->Rho->AHeap->Option (AV×AHeap)}{k ks e r}{ρ:Rho}{H:AHeap}:qAz ev (k::ks) (e::r) ρ H=bnd (ev k ρ H) fun kv H=>bnd (ev e ρ H) fun v H=>bnd (qAz ev ks r ρ H) fun vs H=>some ((kv,v)::vs,H):=rfl
noncomputable def evAnd(ev:CE->Rho->AHeap->Option (AV×AHeap)):List CE->Rho->AHeap->Option (AV×AHeap)
 |[],_,H=>some (.bool true,H)
 |e::r,ρ,H=>bnd (ev e ρ H) fun v H=>(qAN v).bind fun b=>if b then evAnd ev r ρ H else some (.bool false,H)
noncomputable def evOr(ev:CE->Rho->AHeap->Option (AV×AHeap)):List CE->Rho->AHeap->Option (AV×AHeap)
 |[],_,H=>some (.bool false,H)
 |e::r,ρ,H=>bnd (ev e ρ H) fun v H=>(qAN v).bind fun b=>if b then some (.bool true,H)else evOr ev r ρ H
noncomputable def qCk(ev:CE->Rho->AHeap->Option (AV×AHeap)):List CE->Rho->AHeap->Option (Bool×AHeap)
 |[],_,H=>some (true,H)
 |e::r,ρ,H=>bnd (ev e ρ H) fun v H=>(qAN v).bind fun b=>if b then qCk ev r ρ H else some (false,H)
noncomputable def qBb:List (AV×AV)->Option (List (Nat×AV))
 |[]=>some []
 |p::r=>(strOf p.1).bind fun n=>(qBb r).bind fun r=>if r.any (·.1==n)then none else some ((n,p.2)::r)
noncomputable def qPK:CT->Option Nat
 |.name x=>some x
 |_=>none
noncomputable def qLx(t:CT)(v:AV)(ρ:Rho):Option Rho:=(qPK t).map fun x=>upd x v ρ
noncomputable def qCP:List CT->List AV->Rho->Option Rho
 |[],vs,ρ=>(match vs with | []=>some ρ|_=>none)
 |t::ts,vs,ρ=>(match vs with|v::vs=>(qLx t v ρ).bind fun ρ=>qCP ts vs ρ | []=>none)
theorem qDS{t ts v vs}{ρ:Rho}:qCP (t::ts) (v::vs) ρ=(qLx t v ρ).bind fun ρ=>qCP ts vs ρ:=rfl
noncomputable def qBS(t:CT)(v:AV)(ρ:Rho):Option Rho:=match t with
 |.name x=>some (upd x v ρ)
 |.tup ts=>(tupOf v).bind fun vs=>qCP ts vs ρ
 |_=>none
noncomputable def compLoop(ev:CE->Rho->AHeap->Option (AV×AHeap))(elt:CE)(t:CT)(ifs:List CE)(H0:AHeap)(src:Option Nat):List AV->Rho->AHeap->Option (List AV×AHeap)
 |[],_,H=>if qAa H0 H src then some ([],H)else none
 |x::xs,ρ,H=>if qAa H0 H src then(qBS t x ρ).bind fun ρ=>bnd (qCk ev ifs ρ H) fun ok H =>
   if ok then bnd (ev elt ρ H) fun v H=>bnd (compLoop ev elt t ifs H0 src xs ρ H) fun vs H=>some (v::vs,H)else compLoop ev elt t ifs H0 src xs ρ H
  else none
noncomputable def evOpt(ev:CE->Rho->AHeap->Option (AV×AHeap)):Option CE->Rho->AHeap->Option (Option Int×AHeap)
 |none,_,H=>some (none,H)
 |some e,ρ,H=>bnd (ev e ρ H) fun v H=>(intOf v).bind fun i=>if small i then some (some i,H)else none
noncomputable def mtOf(P:Prog)(c m:Nat):Option Nat:=P.mts.lookup (c,m)
noncomputable def qDQ(P:Prog)(c a:Nat):Bool:=P.attrs.any fun p=>p.1==c&&p.2==a
noncomputable def nsAt(H:AHeap)(i:Nat):Option (List (Nat×AV)):=H[i]?.bind fun o=>match o with
 |.ns fs=>some fs
 |_=>none
noncomputable def qAB(P:Prog)(v:AV)(a:Nat)(H:AHeap):Option AV:=match v with
 |.inst c i=>(nsAt H i).bind fun fs=>if qDQ P c a then fs.lookup a else none
 |_=>none
noncomputable def qAo(i m:Nat)(H:AHeap):Bool:=(nsAt H i).any fun fs=>(fs.lookup m).isNone
noncomputable def qGz(P:Prog)(cf:qAb)(ev:CE->Rho->AHeap->Option (AV×AHeap))(m:Nat)(es:List CE)(ρ:Rho)(v:AV)(H:AHeap):Option (AV×AHeap):=match v with
 |.inst c i=>(mtOf P c m).bind fun f=>if qAo i m H then bnd (evEs ev es ρ H) fun vs H=>cf f (.inst c i::vs) H else none
 |.ref i=>if qBZ H i m then bnd (evEs ev es ρ H) fun vs H=>qAg i m vs H else none
 |_=>none
noncomputable def qIe:AV->Bool
 |.none=>true
 |_=>false
noncomputable def evE(P:Prog)(cf:qAb):Nat->CE->Rho->AHeap->Option (AV×AHeap)
 | 0,_,_,_=>none
 |n+1,e,ρ,H=>match e with
  |.lit v=>some (v,H)
  |.var x=>(ρ.lookup x).map fun v=>(v,H)
  |.bin op trk a b=>bnd (evE P cf n a ρ H) fun x H=>bnd (evE P cf n b ρ H) fun y H=>(binAV op x y).map fun z=>trkAV trk z H
  |.neg a=>bnd (evE P cf n a ρ H) fun x H=>(intOf x).map fun i=>(.int (-i),H)
  |.not a=>bnd (evE P cf n a ρ H) fun x H=>(qAN x).map fun b=>(.bool !b,H)
  |.cmp op a b=>bnd (evE P cf n a ρ H) fun x H=>bnd (evE P cf n b ρ H) fun y H=>(cmpAV op x y H).map fun b=>(.bool b,H)
  |.band es=>evAnd (evE P cf n) es ρ H
  |.bor es=>evOr (evE P cf n) es ρ H
  |.ite t a b=>bnd (evE P cf n t ρ H) fun x H=>(qAN x).bind fun c=>if c then evE P cf n a ρ H else evE P cf n b ρ H
  |.tup es=>bnd (evEs (evE P cf n) es ρ H) fun vs H=>some (.tup vs,H)
  |.lst trk es=>bnd (evEs (evE P cf n) es ρ H) fun vs H=>some (qAC trk vs H)
  |.dct ks vs=>(match ks with
   |[]=>some (alloc H (.dictI []))
   |k::ks=>bnd (qAz (evE P cf n) (k::ks) vs ρ H) fun kvs H=>(qBb kvs).map fun d=>alloc H (.dictS d))
  |.comp trk en elt t it ifs=>bnd (evE P cf n it ρ H) fun x H=>bnd (iterE en H x) fun xs src=>bnd (compLoop (evE P cf n) elt t ifs H src xs ρ H) fun vs H=>some (qAC trk vs H)
  |.callF f es=>bnd (evEs (evE P cf n) es ρ H) fun vs H=>cf f vs H
  |.callM o m es=>bnd (evE P cf n o ρ H) fun v H=>qGz P cf (evE P cf n) m es ρ v H
  |.bi b trk es=>bnd (evEs (evE P cf n) es ρ H) fun vs H=>biAV b trk vs H
  |.new c=>(mtOf P c 6).bind fun f=>bnd (cf f [.inst c H.length] (H++[.ns []])) fun r H'=>if qIe r then some (.inst c H.length,H')else none
  |.attr o a=>bnd (evE P cf n o ρ H) fun v H=>(qAB P v a H).map fun x=>(x,H)
  |.sub o i=>bnd (evE P cf n o ρ H) fun x H=>bnd (evE P cf n i ρ H) fun y H=>(subAV x y H).map fun z=>(z,H)
  |.slice trk o lo hi=>bnd (evE P cf n o ρ H) fun x H=>bnd (evOpt (evE P cf n) lo ρ H) fun a H=>bnd (evOpt (evE P cf n) hi ρ H) fun b H=>(qAH H x).map fun l=>qAC trk (qAW l a b) H
noncomputable def qB0(P:Prog)(v:AV)(a:Nat)(x:AV)(H:AHeap):Option AHeap:=match v with
 |.inst c i=>(nsAt H i).bind fun fs=>if qDQ P c a&&decide (fs.length<900)then some (H.set i (.ns (upd a x fs)))else none
 |_=>none
noncomputable def asgO(o:AObj)(i x:AV):Option AObj:=match o with
 |.list l=>(intOf i).bind fun i=>if 0<=i/\i<l.length then some (.list (l.set i.toNat x))else none
 |.dictI kvs=>(intOf i).bind fun k=>if kvs.length<900000 then some (.dictI (upd k x kvs))else none
 |.dictS kvs=>(strOf i).bind fun k=>if kvs.length<900000 then some (.dictS (upd k x kvs))else none
 |.ns _=>none
noncomputable def qAu(o i x:AV)(H:AHeap):Option AHeap:=match o with
 |.ref r=>(H[r]?.bind fun o=>asgO o i x).map fun o=>H.set r o
 |_=>none
noncomputable def qDR(P:Prog)(ev:CE->Rho->AHeap->Option (AV×AHeap))(t:CT)(v:AV)(ρ:Rho)(H:AHeap):Option (Rho×AHeap):=match t with
 |.name x=>some (upd x v ρ,H)
 |.attr o a=>bnd (ev o ρ H) fun ov H=>(qB0 P ov a v H).map fun H=>(ρ,H)
 |.sub o i=>bnd (ev o ρ H) fun ov H=>bnd (ev i ρ H) fun iv H=>(qAu ov iv v H).map fun H=>(ρ,H)
 |.tup _=>none
noncomputable def qBT(P:Prog)(ev:CE->Rho->AHeap->Option (AV×AHeap)):List CT->List AV->Rho->AHeap->Option (Rho×AHeap)
 |[],vs,ρ,H=>(match vs with | []=>some (ρ,H)|_=>none)
 |t::ts,vs,ρ,H=>(match vs with
  |v::vs=>bnd (qDR P ev t v ρ H) fun ρ H=>qBT P ev ts vs ρ H
  |[]=>none)
theorem qCE{P:Prog}{ev:CE->Rho->AHeap->Option (AV×AHeap)}{t ts v vs}{ρ:Rho}{H:AHeap}:qBT P ev (t::ts) (v::vs) ρ H=bnd (qDR P ev t v ρ H) fun ρ H=>qBT P ev ts vs ρ H:=rfl
noncomputable def qE8(P:Prog)(ev:CE->Rho->AHeap->Option (AV×AHeap))(t:CT)(v:AV)(ρ:Rho)(H:AHeap):Option (Rho×AHeap):=match t with
 |.tup ts=>(tupOf v).bind fun vs=>qBT P ev ts vs ρ H
 |t=>qDR P ev t v ρ H
inductive Fl where
 |next
 |ret (v:AV)
abbrev StRes:=Option (Fl×Rho×AHeap)
noncomputable def bnd3{γ:Type}(o:StRes)(f:Fl->Rho->AHeap->Option γ):Option γ:=match o with
 |some (a,b,c)=>f a b c
 |none=>none
theorem qBt{γ:Type}{o:StRes}{f:Fl->Rho->AHeap->Option γ}{c:γ}(h:bnd3 o f=some c):∃a b d,o=some (a,b,d)/\f a b d=some c:=by
 cases o with
 |none=>exact qA2 h
 |some r=>exact⟨r.1,r.2.1,r.2.2,rfl,h⟩
noncomputable def qD2(f:Fl)(ρ:Rho)(H:AHeap)(k:Rho->AHeap->StRes):StRes:=match f with
 |.next=>k ρ H
 |.ret v=>some (.ret v,ρ,H)
noncomputable def evSs(es:CS->Rho->AHeap->StRes):List CS->Rho->AHeap->StRes
 |[],ρ,H=>some (.next,ρ,H)
 |c::r,ρ,H=>bnd3 (es c ρ H) fun f ρ H=>qD2 f ρ H fun ρ H=>evSs es r ρ H
noncomputable def forLoop(body:Rho->AHeap->StRes)(t:CT)(H0:AHeap)(src:Option Nat):List AV->Rho->AHeap->StRes
 |[],ρ,H=>if qAa H0 H src then some (.next,ρ,H)else none
 |x::xs,ρ,H=>if qAa H0 H src then(qBS t x ρ).bind fun ρ=>bnd3 (body ρ H) fun f ρ H=>qD2 f ρ H fun ρ H=>forLoop body t H0 src xs ρ H else none
noncomputable def whileLoop(test:Rho->AHeap->Option (AV×AHeap))(body:Rho->AHeap->StRes):Nat->Rho->AHeap->StRes
 | 0,_,_=>none
 |k+1,ρ,H=>bnd (test ρ H) fun v H=>(qAN v).bind fun b=>if b then bnd3 (body ρ H) fun f ρ H=>qD2 f ρ H fun ρ H=>whileLoop test body k ρ H else some (.next,ρ,H)
noncomputable def evS(P:Prog)(cf:qAb):Nat->CS->Rho->AHeap->StRes
 | 0,_,_,_=>none
 |n+1,c,ρ,H=>match c with
  |.ret e=>(match e with
   |none=>some (.ret .none,ρ,H)
   |some e=>bnd (evE P cf 40 e ρ H) fun v H=>some (.ret v,ρ,H))
  |.expr e=>bnd (evE P cf 40 e ρ H) fun _ H=>some (.next,ρ,H)
  |.asg t e=>bnd (evE P cf 40 e ρ H) fun v H=>bnd (qE8 P (evE P cf 40) t v ρ H) fun ρ H=>some (.next,ρ,H)
  |.ife t a b=>bnd (evE P cf 40 t ρ H) fun v H=>(qAN v).bind fun c=>if c then evSs (evS P cf n) a ρ H else evSs (evS P cf n) b ρ H
  |.for en t it body=>bnd (evE P cf 40 it ρ H) fun v H=>bnd (iterE en H v) fun xs src=>forLoop (evSs (evS P cf n) body) t H src xs ρ H
  |.whl t body=>whileLoop (evE P cf 40 t) (evSs (evS P cf n) body) 1000 ρ H
  |.bad=>none
noncomputable def bindP:List Nat->Bool->List AV->Option Rho
 |[],_,vs=>(match vs with | []=>some []|_=>none)
 |x::xs,d,vs=>(match vs with
  |v::vs=>(bindP xs d vs).map fun r=>(x,v)::r
  |[]=>if d&&xs.isEmpty then some [(x,.none)]else none)
theorem qJe{x xs d v vs}:bindP (x::xs) d (v::vs)=(bindP xs d vs).map fun r=>(x,v)::r:=rfl
noncomputable def qBM(H H':AHeap)(v:AV):Option AV:=match v with
 |.ref i=>(qAj H' i).bind fun l=>if H.length<=i&&qAk l then some (.lst l)else none
 |v=>if v.plain then some v else none
noncomputable def flVal:Fl->AV|.ret v=>v|.next=>.none
noncomputable def runFn(P:Prog)(cf:qAb)(d:FnC)(args:List AV)(H:AHeap):Option (AV×AHeap):=(bindP d.params d.dflt args).bind fun ρ =>
 if d.pure&&qAk args then
  bnd3 (evSs (evS P cf 20) d.body ρ []) fun f _ H'=>(qBM [] H' (flVal f)).map fun v=>(v,H)
 else bnd3 (evSs (evS P cf 20) d.body ρ H) fun f _ H' =>
  if d.pure then if qDn (H'.take H.length) H then(qBM H H' (flVal f)).map fun v=>(v,H)else none
  else some (flVal f,H')
noncomputable def callF(P:Prog):Nat->qAb
 | 0,_,_,_=>none
 |d+1,f,args,H=>(P.fns.lookup f).bind fun fn=>runFn P (callF P d) fn args H
end
end Internal
end
section
namespace Internal
theorem qGU{n a:Nat}{i:Int}(e:i=a)(h:a<=n):clamp n i=a:=by
 subst e
 rw[qGT (Int.natCast_nonneg a)]
 exact Nat.min_eq_left h
theorem qEv{k0 k k1 fuel:Nat}(h:k0-k<fuel+1)(h1:k<=k1)(h2:k1<k0):k0-(k1+1)<fuel :=
 Nat.lt_of_lt_of_le (Nat.sub_lt_sub_left (Nat.lt_of_le_of_lt h1 h2) (Nat.lt_succ_of_le h1)) (Nat.le_of_lt_succ h)
theorem qNW{lo hi:Nat}(h:lo<hi):lo<=(lo+hi) / 2/\(lo+hi) / 2<hi :=
 ⟨(Nat.le_div_iff_mul_le (by decide)).mpr (by rw[Nat.mul_two];exact Nat.add_le_add_left (Nat.le_of_lt h) lo),Nat.div_lt_of_lt_mul (by rw[Nat.two_mul];exact Nat.add_lt_add_right h hi)⟩
theorem qCc(a b:Int):(b-a).toNat<=b.natAbs+a.natAbs:=Nat.le_trans (Int.toNat_le.mpr Int.le_natAbs) (Int.natAbs_sub_le b a)
theorem qBz{a:Int}{n:Nat}(h:a.natAbs<n):-(n:Int)<=a/\a<n :=
 ⟨Int.neg_le_of_neg_le (Int.le_trans (by rw[<-Int.natAbs_neg];exact Int.le_natAbs) (Int.le_of_lt (Int.ofNat_lt.mpr h))),Int.lt_of_le_of_lt Int.le_natAbs (Int.ofNat_lt.mpr h)⟩
theorem qPm{i:Int}{n:Nat}(h1:-(n:Int)<=i)(h2:i<n):i.natAbs<=n:=by
 rcases Int.natAbs_eq i with e|e
 .rw [e]at h2;exact Int.ofNat_le.mp (Int.le_of_lt h2)
 .rw [e]at h1;exact Int.ofNat_le.mp (Int.neg_le_neg_iff.mp h1)
theorem qOJ{p n:Nat}(h:p<=n):min p n+(n-p+1)=n+1:=by rw[Nat.min_eq_left h,<-Nat.add_assoc,Nat.add_sub_of_le h]
theorem qKh{n i k:Nat}(h:n-i=k+1):i<n/\n-(i+1)=k:=⟨Nat.lt_of_sub_eq_succ h,by rw[Nat.sub_add_eq,h];rfl⟩
theorem qFM{i:Int}{n:Nat}(h:i.toNat=n+1):0<i/\(i-1).toNat=n:=by
 have p:0<i:=Int.lt_of_not_ge fun q=>by rw[Int.toNat_of_nonpos q]at h;cases h
 have e:=Int.toNat_of_nonneg (Int.le_of_lt p)
 rw[h,Int.natCast_succ]at e
 exact⟨p,by rw[<-e,Int.add_sub_cancel];rfl⟩
end Internal
end
section
open PySem PySem.W PyProof.Rows
namespace Internal
section
noncomputable def nid(names:List Str)(x:Str):Option Nat:=names.idxOf? x
set_option genSizeOf false
set_option genInjectivity false
structure CX where
 names:List Str
 K:Frag
 fns:List Nat        -- the addresses of the functions,by their numbers
 clss:List Nat
 trk:List (Nat×Nat×Nat)
 byText:Bool:=false
noncomputable def CX.isTrk(X:CX)(p:Pos):Bool:=X.trk.any fun q=>p.line==q.1&&p.col==q.2.1&&p.endCol==q.2.2
noncomputable def qAE(sc:Scope)(x:Str):Option NameKind:=sc.names.lookup x
noncomputable def isV(k:Option NameKind):Bool:=k.any fun k=>match k with
 |.local|.cell|.free=>true
 |_=>false
noncomputable def isVar(sc:Scope)(x:Str):Bool:=isV (qAE sc x)
noncomputable def bOp:Operator->Option BOp
 |.Add=>some .add|.Sub=>some .sub|.Mult=>some .mul|.FloorDiv=>some .div|.Mod=>some .mod
 |_=>none
noncomputable def cOp:CmpOp->Option COp
 |.Eq=>some .eq|.NotEq=>some .ne|.Lt=>some .lt|.LtE=>some .le|.Gt=>some .gt|.GtE=>some .ge
 |.In=>some .inn|.NotIn=>some .notIn
 |_=>none
inductive Callee where
 |fn (a:Nat)|cls (a:Nat)|bi (b:BI)
noncomputable def biTab:List (Str×BI):=[(Str.ofString "len",.len),(Str.ofString "tuple",.tuple),(Str.ofString "list",.list),(Str.ofString "range",.range),(Str.ofString "sorted",.sorted),
 (Str.ofString "set",.set),(Str.ofString "int",.int),(Str.ofString "sum",.sum),(Str.ofString "max",.max),(Str.ofString "min",.min)]
noncomputable def biVal:BI->Value
 |.len=>.builtin "len" |.tuple=>.type "tuple" |.list=>.type "list" |.range=>.type "range" |.sorted=>.builtin "sorted"
 |.set=>.type "set" |.int=>.type "int" |.sum=>.builtin "sum" |.max=>.builtin "max" |.min=>.builtin "min"
noncomputable def qIr(X:CX)(a:Nat):Option Callee:=(X.K.lookup a).bind fun o=>match o.data with
 |.func _=>(X.fns.idxOf? a).map .fn
 |.cls _=>(X.clss.idxOf? a).map .cls
 |_=>none
noncomputable def qGW(X:CX)(sc:Scope)(x:Str):Option Callee :=
 if qAE sc x==some .globalImplicit then(nsIn X.K mainGlobals x).bind fun v=>match v with
  |none=>(biTab.lookup x).map .bi
  |some v=>(match v with
   |.ref a=>qIr X a
   |_=>none)
 else none
noncomputable def qAq:Expr->Bool
 |.Starred ..=>true
 |_=>false
noncomputable def listM(f:α->Option β):List α->Option (List β)
 |[]=>some []
 |x::r=>(f x).bind fun y=>(listM f r).map fun t=>y::t
noncomputable def optM(f:α->Option β):Option α->Option (Option β)
 |none=>some none
 |some x=>(f x).map some
noncomputable def qCf:Expr->Option Str
 |.Name x _=>some x
 |_=>none
noncomputable def qBK:Expr->Bool
 |.Call f as ks _=>!((qCf f).isSome&&as.isEmpty&&ks.isEmpty)
 |_=>true
noncomputable def tupE:Expr->Option (List Expr)
 |.Tuple es _ _=>some es
 |_=>none
noncomputable def qED(t:Expr):List Str:=match qCf t with
 |some x=>[x]
 |none=>((tupE t).getD []).filterMap qCf
noncomputable def qCm(X:CX)(sc inner:Scope)(t:Expr):Bool :=
 inner.kind==.function&&inner.names.all (fun x=>x.2 != .cell&&(x.2 != .local || (inner.names.lookup x.1==some .local&&((qED t).contains x.1 || (nid X.names x.1).isNone)))&&(x.2 != .free || ((sc.names.lookup x.1==some .cell || sc.names.lookup x.1==some .free)&&inner.names.lookup x.1==some .free)))
noncomputable def isTup:CT->Bool
 |.tup _=>true
 |_=>false
noncomputable def qBF(X:CX)(sc:Scope):Expr->Option CT
 |.Name x _=>if qAE sc x==some .local || qAE sc x==some .cell then(nid X.names x).map .name else none
 |_=>none
noncomputable def qAf(X:CX)(sc:Scope)(t:Expr):Option CT:=match tupE t with
 |some es=>(listM (qBF X sc) es).map .tup
 |none=>qBF X sc t
noncomputable def qCl(X:CX)(sc:Scope):Expr->Option Expr
 |.Call f as ks _=>(qCf f).bind fun x=>(one as).bind fun e=>if x==("enumerate":Str)&&qAE sc x==some .globalImplicit&&nsIn X.K mainGlobals x==some none&&!qAq e&&ks.isEmpty then some e else none
 |_=>none
noncomputable def qBR(X:CX)(sc:Scope)(it:Expr):Bool×Expr:=match qCl X sc it with
 |some e=>(true,e)
 |none=>(false,it)
noncomputable def qLd(X:CX):Const->Option AV
 |.int i=>some (.int i)
 |.bool b=>some (.bool b)
 |.none=>some .none
 |.str s=>(nid X.names s).map .str
 |_=>none
noncomputable def isOp:CmpOp->Option COp
 |.Is=>some .isNone
 |.IsNot=>some .notNone
 |_=>none
noncomputable def noneC:Expr->Bool
 |.Constant c _ _=>(match c with|.none=>true|_=>false)
 |_=>false
noncomputable def qNk(lm:Option (List CE))(args:List Expr)(trk:Bool):Callee->Option CE
 |.fn a=>lm.map (.callF a)
 |.cls a=>if args.isEmpty then some (.new a)else none
 |.bi b=>lm.map (.bi b trk)
noncomputable def cmpE(X:CX):Nat->Scope->Expr->Option CE
 | 0,_,_=>none
 |n+1,sc,e=>match e with
  |.Constant c _ _=>(qLd X c).map .lit
  |.Name x _=>if isVar sc x&&x != ("__debug__":Str)&&x != ("__classdict__":Str)then(nid X.names x).map .var else none
  |.BinOp l op r pos=>(bOp op).bind fun o=>(cmpE X n sc l).bind fun a=>(cmpE X n sc r).map fun b=>.bin o (X.isTrk pos) a b
  |.UnaryOp op a _=>(cmpE X n sc a).bind fun c=>(match op with|.USub=>some (.neg c)|.Not=>some (.not c)|_=>none)
  |.Compare l ops rs _=>(one ops).bind fun op=>(one rs).bind fun r=>(cmpE X n sc l).bind fun a=>(match isOp op with
   |some o=>if noneC r then some (.cmp o a (.lit .none))else none
   |none=>(cOp op).bind fun o=>(cmpE X n sc r).map fun b=>.cmp o a b)
  |.BoolOp op es _=>if 2<=es.length then(listM (cmpE X n sc) es).map (match op with|.And=>.band|.Or=>.bor)else none
  |.IfExp t a b _=>(cmpE X n sc t).bind fun t=>(cmpE X n sc a).bind fun a=>(cmpE X n sc b).map fun b=>.ite t a b
  |.Tuple es _ _=>if !es.any qAq&&decide (es.length<=1000)then(listM (cmpE X n sc) es).map .tup else none
  |.List es pos=>if !es.any qAq&&decide (es.length<=1000)then(listM (cmpE X n sc) es).map (.lst (X.isTrk pos))else none
  |.Dict ks vs _=>if ks.length==vs.length&&decide (ks.length<9)then(listM (fun k=>k.bind (cmpE X n sc)) ks).bind fun a=>(listM (cmpE X n sc) vs).map fun b=>.dct a b else none
  |.ListComp elt gens inner pos=>(one gens).bind fun g=>if qCm X sc inner g.target&&decide (g.is_async=0)then(qAf X inner g.target).bind fun ct =>
    if !(qBR X sc g.iter).1 || isTup ct then(cmpE X n inner elt).bind fun ce=>(cmpE X n sc (qBR X sc g.iter).2).bind fun ci=>(listM (cmpE X n inner) g.ifs).map fun cf=>.comp (X.isTrk pos) (qBR X sc g.iter).1 ce ct ci cf
    else none
   else none
  |.Call f args kws pos=>if !args.any qAq&&kws.isEmpty then(match f with
   |.Name x _=>if x != ("__debug__":Str)then(qGW X sc x).bind fun c=>qNk (listM (cmpE X n sc) args) args (X.isTrk pos) c else none
   |.Attribute o m apos=>if qBK o&&decide (args.length<=20)&&apos.endLine==pos.line then(cmpE X n sc o).bind fun co=>(nid X.names m).bind fun m=>(listM (cmpE X n sc) args).map (.callM co m)else none
   |_=>none)else none
  |.Attribute o a _=>if qBK o then(cmpE X n sc o).bind fun co=>(nid X.names a).map (.attr co)else none
  |.Subscript o i pos=>(cmpE X n sc o).bind fun co=>(match i with
   |.Slice lo hi st _=>if st.isNone then(optM (cmpE X n sc) lo).bind fun a=>(optM (cmpE X n sc) hi).map fun b=>.slice (X.isTrk pos) co a b else none
   |i=>(cmpE X n sc i).map (.sub co))
  |_=>none
noncomputable def cmpT1(X:CX)(sc:Scope):Expr->Option CT
 |.Attribute o a _=>(cmpE X 40 sc o).bind fun c=>(nid X.names a).map (.attr c)
 |.Subscript o i _=>(cmpE X 40 sc o).bind fun c=>(cmpE X 40 sc i).map (.sub c)
 |e=>qBF X sc e
noncomputable def cmpT(X:CX)(sc:Scope)(t:Expr):Option CT:=match tupE t with
 |some es=>(listM (cmpT1 X sc) es).map .tup
 |none=>cmpT1 X sc t
noncomputable def qNd:Expr->Bool
 |.ListComp ..|.SetComp ..|.DictComp ..=>true
 |_=>false
noncomputable def qD0(t e:Expr):Bool:=match tupE e with
 |some vs=>(tupE t).isNone || !vs.all (constantsAlone 8)
 |none=>true
noncomputable def cmpS(X:CX):Nat->Scope->Stmt->Option CS
 | 0,_,_=>none
 |n+1,sc,c=>match c with
  |.Return e _=>(match e with
   |none=>some (.ret none)
   |some e=>(cmpE X 40 sc e).map fun e=>.ret (some e))
  |.Expr e _=>if !qNd e then(cmpE X 40 sc e).map .expr else none
  |.Assign ts e _=>(one ts).bind fun t=>if qD0 t e then(cmpT X sc t).bind fun ct=>(cmpE X 40 sc e).map (.asg ct)else none
  |.If t a b _=>(cmpE X 40 sc t).bind fun t=>(listM (cmpS X n sc) a).bind fun a=>(listM (cmpS X n sc) b).map (.ife t a)
  |.For t it body orelse _=>if orelse.isEmpty then(qAf X sc t).bind fun t=>(cmpE X 40 sc it).bind fun i=>(listM (cmpS X n sc) body).map (.for false t i)else none
  |.While t body orelse _=>if orelse.isEmpty then(cmpE X 40 sc t).bind fun t=>(listM (cmpS X n sc) body).map (.whl t)else none
  |.Raise ..=>some .bad
  |_=>none
end
end Internal
end
section
open PySem PySem.W PyProof.Rows
namespace Internal.Hd
noncomputable def runG(ok:Thread->Bool)(st:SharedT->Thread->Option (SharedT×Thread)):Nat->SharedT->Thread->Option SharedT
 | 0,_,_=>none
 |n+1,s,t=>match through t with
  |true=>some s
  |false=>match ok t with
   |false=>none
   |true=>match st s t with
    |some r=>runG ok st n r.1 r.2
    |none=>none
theorem qKF{tb:String->Option Builtin}{p:Program}{w:World}{n7:Nat}{ann:Option Value}:∀{n:Nat}{s s':SharedT}{t:Thread},runG (stepOk n7 ann) (stepT (denote tb) p w) n s t=some s' ->
  topRun tb p w n7 ann n s.abs t=some s'.abs
 | 0,_,_,_,h=>nomatch h
 |n+1,s,s',t,h=>by
  unfold runG at h
  unfold topRun
  cases ht:through t with
  |true=>rw[ht]at h;cases h;rfl
  |false =>
   rw[ht]at h
   cases hk:stepOk n7 ann t with
   |false=>rw[hk]at h;cases h
   |true =>
    rw[hk]at h
    cases hs:stepT (denote tb) p w s t with
    |none=>rw[hs]at h;cases h
    |some r=>rw[hs]at h;rw[stepT_spec (s':=r.1) (t':=r.2) hs];exact qKF h
theorem left_of{p q:Program}{loose:List Str}{Xt:Shared->Bool}{α:Type}{Yf:Shared->α}{Ya:World->α}{N:Nat}{g0:Bool}{T7:Params->BT}{n7 k7:Nat}{H8:Params->Heap}{gs₀:Array GenState}{d7:Drawn}{life:Life}{ann:Option Value}{M:Nat}
 (open_:∀w:World,(fencedOpening treeTable p w N).map (fun s=>(s.heap,s.gens,s.drawn,s.toks))=some (H8 w.params,gs₀,d7,k7))
 (size:∀w:World,((H8 w.params).isNs mainGlobals&&gs₀.size==0,(H8 w.params).objs.size,(H8 w.params).nsMap mainGlobals "__annotations__")=(true,n7,ann))
 (tree:∀P,H8 P=absHeap (T7 P) n7 life)(le:Nat.ble M N=true)
 (look:∀w:World,(fun os=>(runG (stepOk n7 ann) (stepT (denote treeTable) p w) M ⟨T7 w.params,n7,life,gs₀,d7,k7,os⟩ (topStub p)).map fun s =>
    (staticsOk (importedModules p.main.body) (H8 w.params) s.abs.heap&&namesBound p s.abs.heap&&gensDone s.abs&&laidKept (H8 w.params) s.abs.heap,
     openSeen q loose (importedModules p.main.body) Xt g0 s.abs,Yf s.abs))=fun _=>some (true,openGood q loose,Ya w)):LeftO p q loose Xt Yf Ya N g0:=fun w=>by
 obtain⟨⟨h,gs,d,k,os⟩,e,e'⟩:=Option.map_eq_some_iff.mp (open_ w)
 obtain⟨s,r,l⟩:=Option.map_eq_some_iff.mp (congrFun (look w) os)
 have r':=topRun_mono (N-M) _ _ _ _ (qKF r)
 rw[Nat.add_sub_of_le (Nat.le_of_ble_eq_true le)]at r'
 have e1:h=H8 w.params:=congrArg (·.1) e'
 have e2:gs=gs₀:=congrArg (·.2.1) e'
 have e3:d=d7:=congrArg (·.2.2.1) e'
 have e4:k=k7:=congrArg (·.2.2.2) e'
 subst e1 e2 e3 e4
 have z1:=congrArg (·.1) (size w)
 have z2:=congrArg (·.2.1) (size w)
 have z3:=congrArg (·.2.2) (size w)
 dsimp only at z1 z2 z3
 have l1:=congrArg (·.1) l
 dsimp only at l1
 have hs:(SharedT.abs ⟨T7 w.params,n7,life,gs,d,k,os⟩)=⟨H8 w.params,gs,d,k,os⟩:=by rw[tree];rfl
 rw[hs]at r'
 have t:topFrom treeTable p w N ⟨H8 w.params,gs,d,k,os⟩=some s.abs:=by
  unfold topFrom
  dsimp only
  rw[z1,z2,z3,r']
  show(match staticsOk (importedModules p.main.body) (H8 w.params) s.abs.heap&&namesBound p s.abs.heap&&gensDone s.abs&&laidKept (H8 w.params) s.abs.heap with|true=>some s.abs|false=>none)=_
  rw[l1]
 unfold openEnds
 rw[e]
 show(topFrom treeTable p w N _).map _=_
 rw[t]
 exact congrArg some (congrArg (·.2) l)
noncomputable def fragL:Nat->List Obj->Frag
 |_,[]=>[]
 |i,o::r=>match alive o with
  |some o'=>(i,o')::fragL (i+1) r
  |none=>fragL (i+1) r
theorem qIh:∀{l:List Obj}{i a:Nat}{o:Obj},(fragL i l).lookup a=some o->∃k x,a=i+k/\l[k]?=some x/\alive x=some o
 |[],i,a,o,e=>nomatch e
 |x::r,i,a,o,e=>by
  have up:(fragL (i+1) r).lookup a=some o->∃k y,a=i+k/\(x::r)[k]?=some y/\alive y=some o:=fun e=>by
   obtain⟨k,y,h1,h2,h3⟩:=qIh e
   exact⟨k+1,y,h1.trans (Nat.succ_add_eq_add_succ i k),h2,h3⟩
  unfold fragL at e
  cases h:alive x with
  |none=>rw[h]at e;exact up e
  |some x' =>
   rw[h]at e
   dsimp only at e
   rw[List.lookup_cons]at e
   split at e
   .rename_i q
    cases e
    exact⟨0,x,beq_iff_eq.mp q,rfl,h⟩
   .exact up e
noncomputable def qLJ(h:Heap):Frag:=fragL 0 h.objs.toList
set_option tactic.hygienic true in
set_option hygiene true in
theorem qJQ(h:Heap):(qLJ h).In h:=fun a o e=>by
 obtain⟨k,x,h1,h2,h3⟩:=qIh e
 rw[Nat.zero_add]at h1
 subst h1
 have h2':h.objs[a]?=some x:=by rw[<-Array.getElem?_toList];exact h2
 unfold Heap.get?
 rw[h2']
 unfold alive at h3
 split at h3
 .cases h3
 .rename_i o' n
  cases h3
  split
  .rename_i h4
   cases h4
   exact(n _ _ _ rfl).elim
  .rfl
noncomputable def qMp{β:Type}(f:Frag->β)(v:β):Hook :=
 ⟨β,fun s=>f (qLJ s.heap),fun _=>v,fun _ h=>∃K:Frag,K.In h/\f K=v,fun _ s e=>⟨_,qJQ s.heap,e⟩,fun _ _ _ ⟨K,k,e⟩ g=>⟨K,Frag.In.keeps k g,e⟩⟩
noncomputable def bootT(P:Params):BT :=
 .node (boot_o_0 P) (.node (boot_o_1 P) (.node (boot_o_3 P) (.node (boot_o_7 P) .nil .nil) .nil) (.node (boot_o_5 P) (.node (boot_o_9 P) .nil .nil) .nil))
  (.node (boot_o_2 P) (.node (boot_o_4 P) (.node (boot_o_8 P) .nil .nil) .nil) (.node (boot_o_6 P) (.node (boot_o_10 P) .nil .nil) .nil))
theorem qLl(w:World):((boot_heap w.params).isNs mainGlobals&&(Array.mk []:Array GenState).size==0,(boot_heap w.params).objs.size,(boot_heap w.params).nsMap mainGlobals "__annotations__")=(true,11,some (.ref 6)):=by kernel_rfl
theorem qOm(P:Params):boot_heap P=absHeap (bootT P) 11 {}:=by kernel_rfl
noncomputable def qLS(gone:List Nat):Nat->List Stmt->List Stmt
 |_,[]=>[]
 |i,s::r=>if gone.contains i then qLS gone (i+1) r else s::qLS gone (i+1) r
noncomputable def qOx(p:Program)(gone:List Nat):Program:={ p with main:={ p.main with body:=qLS gone 0 p.main.body } }
end Internal.Hd
end
section
namespace Internal
noncomputable def fn0:FnC:={ params:=[11,12],dflt:=false,pure:=true,body:=[
 (.ret (some (.bi .tuple false [(.comp false false (.tup [(.var 13),(.bi .min false [(.var 14),(.var 12)])]) (.tup [(.name 13),(.name 14)]) (.var 11) [(.cmp .le (.var 13) (.var 12))])])))] }
noncomputable def fn1:FnC:={ params:=[11,12],dflt:=false,pure:=true,body:=[
 (.ret (some (.bi .tuple false [(.comp false false (.tup [(.bi .max false [(.var 13),(.var 12)]),(.var 14)]) (.tup [(.name 13),(.name 14)]) (.var 11) [(.cmp .ge (.var 14) (.var 12))])])))] }
noncomputable def fn2:FnC:={ params:=[11,15],dflt:=false,pure:=true,body:=[
 (.ret (some (.bin .add false (.callF 0 [(.var 11),(.bin .sub false (.var 15) (.lit (.int 1)))]) (.callF 1 [(.var 11),(.bin .add false (.var 15) (.lit (.int 1)))]))))] }
noncomputable def fn3:FnC:={ params:=[11,16],dflt:=false,pure:=true,body:=[
 (.asg (.tup [(.name 17),(.name 18),(.name 19)]) (.tup [(.lst true []),(.lit (.int 0)),(.lit (.int 0))])),
 (.whl (.band [(.cmp .lt (.var 18) (.bi .len false [(.var 11)])),(.cmp .lt (.var 19) (.bi .len false [(.var 16)]))]) [(.asg (.tup [(.name 13),(.name 14)]) (.tup [(.bi .max false [(.sub (.sub (.var 11) (.var 18)) (.lit (.int 0))),(.sub (.sub (.var 16) (.var 19)) (.lit (.int 0)))]),(.bi .min false [(.sub (.sub (.var 11) (.var 18)) (.lit (.int 1))),(.sub (.sub (.var 16) (.var 19)) (.lit (.int 1)))])])),
  (.ife (.cmp .le (.var 13) (.var 14)) [(.expr (.callM (.var 17) 0 [(.tup [(.var 13),(.var 14)])]))] []),
  (.ife (.cmp .lt (.sub (.sub (.var 11) (.var 18)) (.lit (.int 1))) (.sub (.sub (.var 16) (.var 19)) (.lit (.int 1)))) [(.asg (.name 18) (.bin .add false (.var 18) (.lit (.int 1))))] [(.asg (.name 19) (.bin .add false (.var 19) (.lit (.int 1))))])]),
 (.ret (some (.bi .tuple false [(.var 17)])))] }
noncomputable def fn4:FnC:={ params:=[20],dflt:=false,pure:=true,body:=[
 (.asg (.tup [(.name 21),(.name 22),(.name 12)]) (.var 20)),
 (.ife (.cmp .eq (.var 22) (.lit (.str 8))) [(.ret (some (.tup [(.var 21),(.lit (.str 10)),(.bin .add false (.var 12) (.lit (.int 1)))])))] []),
 (.ife (.cmp .eq (.var 22) (.lit (.str 10))) [(.ret (some (.tup [(.var 21),(.lit (.str 8)),(.bin .sub false (.var 12) (.lit (.int 1)))])))] []),
 (.ret (some (.ite (.cmp .eq (.var 22) (.lit (.str 9))) (.tup [(.var 21),(.lit (.str 7)),(.var 12)]) (.tup [(.var 21),(.lit (.str 9)),(.var 12)]))))] }
noncomputable def fn5:FnC:={ params:=[20,11],dflt:=false,pure:=true,body:=[
 (.asg (.tup [(.name 22),(.name 12)]) (.tup [(.sub (.var 20) (.lit (.int 1))),(.sub (.var 20) (.lit (.int 2)))])),
 (.ife (.cmp .eq (.var 22) (.lit (.str 8))) [(.ret (some (.callF 0 [(.var 11),(.var 12)])))] []),
 (.ife (.cmp .eq (.var 22) (.lit (.str 10))) [(.ret (some (.callF 1 [(.var 11),(.var 12)])))] []),
 (.ret (some (.ite (.cmp .eq (.var 22) (.lit (.str 9))) (.callF 3 [(.var 11),(.tup [(.tup [(.var 12),(.var 12)])])]) (.callF 2 [(.var 11),(.var 12)]))))] }
noncomputable def fn6:FnC:={ params:=[20,11],dflt:=false,pure:=true,body:=[
 (.asg (.name 23) (.callF 5 [(.var 20),(.var 11)])),
 (.ife (.cmp .eq (.var 23) (.var 11)) [(.ret (some (.lit (.int 1))))] []),
 (.ret (some (.ite (.cmp .eq (.var 23) (.tup [])) (.neg (.lit (.int 1))) (.lit (.int 0)))))] }
noncomputable def fn7:FnC:={ params:=[24,20],dflt:=false,pure:=true,body:=[
 (.asg (.name 21) (.sub (.var 20) (.lit (.int 0)))),
 (.ife (.cmp .eq (.callF 6 [(.var 20),(.callM (.var 24) 28 [(.var 21)])]) (.lit (.int 1))) [(.ret (some (.neg (.lit (.int 1)))))] []),
 (.for false (.name 25) (.bi .range false [(.bi .len false [(.attr (.var 24) 27)])]) [(.asg (.name 26) (.sub (.attr (.var 24) 27) (.var 25))),
  (.ife (.band [(.cmp .eq (.sub (.var 26) (.lit (.int 0))) (.var 21)),(.cmp .eq (.callF 6 [(.var 20),(.callF 5 [(.sub (.var 26) (.lit (.int 2))),(.sub (.var 26) (.lit (.int 1)))])]) (.lit (.int 1)))]) [(.ret (some (.var 25)))] [])]),
 .bad] }
noncomputable def fn8:FnC:={ params:=[29],dflt:=false,pure:=false,body:=[
 (.asg (.attr (.var 29) 30) (.lst true [])),
 (.asg (.attr (.var 29) 31) (.lst true [])),
 (.asg (.attr (.var 29) 32) (.lst true [])),
 (.asg (.attr (.var 29) 33) (.dct [] []))] }
noncomputable def fn9:FnC:={ params:=[29,34],dflt:=false,pure:=false,body:=[
 (.asg (.name 35) (.bi .len false [(.attr (.var 29) 30)])),
 (.expr (.callM (.attr (.var 29) 30) 0 [(.bi .list true [(.var 34)])])),
 (.ife (.cmp .lt (.bi .len false [(.var 34)]) (.lit (.int 2))) [(.expr (.callM (.attr (.var 29) 31) 0 [(.var 35)]))] [(.expr (.callM (.attr (.var 29) 32) 0 [(.var 35)]))]),
 (.ret (some (.var 35)))] }
noncomputable def fn10:FnC:={ params:=[29,24,20],dflt:=false,pure:=true,body:=[
 (.ret (some (.ite (.cmp .eq (.callM (.var 24) 36 [(.var 20)]) (.neg (.lit (.int 1)))) (.callF 7 [(.var 24),(.callF 4 [(.var 20)])]) (.bi .len false [(.attr (.var 24) 27)]))))] }
noncomputable def fn11:FnC:={ params:=[29,21,35],dflt:=false,pure:=false,body:=[
 (.asg (.name 37) (.callM (.attr (.var 29) 33) 5 [(.var 21),(.lst true [])])),
 (.ife (.cmp .notIn (.var 35) (.var 37)) [(.expr (.callM (.var 37) 0 [(.var 35)]))] [])] }
noncomputable def fn12:FnC:={ params:=[29,24,35],dflt:=false,pure:=false,body:=[
 (.asg (.name 38) (.comp false false (.tup [(.neg (.callM (.var 29) 40 [(.var 24),(.var 20)])),(.var 20)]) (.name 20) (.sub (.attr (.var 29) 30) (.var 35)) [])),
 (.asg (.sub (.attr (.var 29) 30) (.var 35)) (.comp true false (.var 20) (.tup [(.name 40),(.name 20)]) (.bi .sorted false [(.var 38)]) [])),
 (.expr (.callM (.var 29) 39 [(.sub (.sub (.sub (.attr (.var 29) 30) (.var 35)) (.lit (.int 0))) (.lit (.int 0))),(.var 35)])),
 (.expr (.callM (.var 29) 39 [(.sub (.sub (.sub (.attr (.var 29) 30) (.var 35)) (.lit (.int 1))) (.lit (.int 0))),(.var 35)]))] }
noncomputable def fn13:FnC:={ params:=[29,24,35,25],dflt:=false,pure:=false,body:=[
 (.asg (.name 41) (.sub (.attr (.var 29) 30) (.var 35))),
 (.for false (.name 12) (.bi .range false [(.lit (.int 2)),(.bi .len false [(.var 41)])]) [(.ife (.cmp .ne (.callM (.var 24) 36 [(.sub (.var 41) (.var 12))]) (.neg (.lit (.int 1)))) [(.asg (.name 42) (.sub (.sub (.var 41) (.var 25)) (.lit (.int 0)))),
   (.asg (.tup [(.sub (.var 41) (.var 25)),(.sub (.var 41) (.var 12))]) (.tup [(.sub (.var 41) (.var 12)),(.sub (.var 41) (.var 25))])),
   (.ife (.band [(.cmp .ne (.var 42) (.sub (.sub (.var 41) (.lit (.int 0))) (.lit (.int 0)))),(.cmp .ne (.var 42) (.sub (.sub (.var 41) (.lit (.int 1))) (.lit (.int 0))))]) [(.expr (.callM (.sub (.attr (.var 29) 33) (.var 42)) 2 [(.var 35)]))] []),
   (.expr (.callM (.var 29) 39 [(.sub (.sub (.var 41) (.var 25)) (.lit (.int 0))),(.var 35)])),
   (.ret none)] [])])] }
noncomputable def fn14:FnC:={ params:=[29,24,35,25],dflt:=false,pure:=false,body:=[
 (.asg (.name 41) (.sub (.attr (.var 29) 30) (.var 35))),
 (.ret (some (.callM (.var 24) 43 [(.sub (.var 41) (.var 25)),(.bi .tuple false [(.comp false false (.callF 4 [(.sub (.var 41) (.var 12))]) (.name 12) (.bi .range false [(.bi .len false [(.var 41)])]) [(.cmp .ne (.var 12) (.var 25))])])])))] }
noncomputable def fn15:FnC:={ params:=[29,24,35],dflt:=false,pure:=false,body:=[
 (.asg (.name 41) (.sub (.attr (.var 29) 30) (.var 35))),
 (.for false (.name 25) (.tup [(.lit (.int 0)),(.lit (.int 1))]) [(.ife (.cmp .eq (.callM (.var 24) 36 [(.sub (.var 41) (.var 25))]) (.neg (.lit (.int 1)))) [(.expr (.callM (.var 29) 48 [(.var 24),(.var 35),(.var 25)]))] [])]),
 (.asg (.tup [(.name 44),(.name 45)]) (.tup [(.callM (.var 24) 36 [(.sub (.var 41) (.lit (.int 0)))]),(.callM (.var 24) 36 [(.sub (.var 41) (.lit (.int 1)))])])),
 (.ife (.bor [(.cmp .eq (.var 44) (.lit (.int 1))),(.cmp .eq (.var 45) (.lit (.int 1))),(.band [(.cmp .eq (.var 44) (.lit (.int 0))),(.cmp .eq (.var 45) (.lit (.int 0)))])]) [(.ret (some (.lit (.bool true))))] []),
 (.ife (.band [(.cmp .eq (.var 44) (.neg (.lit (.int 1)))),(.cmp .eq (.var 45) (.neg (.lit (.int 1))))]) [(.ret (some (.callM (.var 24) 47 [(.bi .tuple false [(.comp false false (.callF 4 [(.var 20)]) (.name 20) (.var 41) [])])])))] []),
 (.ret (some (.callM (.var 29) 46 [(.var 24),(.var 35),(.ite (.cmp .eq (.var 45) (.neg (.lit (.int 1)))) (.lit (.int 0)) (.lit (.int 1)))])))] }
noncomputable def fn16:FnC:={ params:=[29,24],dflt:=false,pure:=false,body:=[
 (.for false (.name 35) (.attr (.var 29) 31) [(.asg (.name 41) (.sub (.attr (.var 29) 30) (.var 35))),
  (.ife (.bor [(.cmp .eq (.var 41) (.lst false [])),(.cmp .eq (.callM (.var 24) 36 [(.sub (.var 41) (.lit (.int 0)))]) (.neg (.lit (.int 1))))]) [(.ret (some (.callM (.var 24) 47 [(.bi .tuple false [(.comp false false (.callF 4 [(.var 20)]) (.name 20) (.var 41) [])])])))] []),
  (.expr (.callM (.var 24) 43 [(.sub (.var 41) (.lit (.int 0))),(.tup [])]))]),
 (.asg (.tup [(.name 37),(.attr (.var 29) 32)]) (.tup [(.attr (.var 29) 32),(.lst true [])])),
 (.for false (.name 35) (.var 37) [(.expr (.callM (.var 29) 49 [(.var 24),(.var 35)])),
  (.ife (.not (.callM (.var 29) 50 [(.var 24),(.var 35)])) [(.asg (.attr (.var 29) 32) (.comp true false (.var 51) (.name 51) (.var 37) [(.cmp .gt (.var 51) (.var 35))])),
   (.ret (some (.lit (.bool false))))] [])]),
 (.ret (some (.lit (.bool true))))] }
noncomputable def fn17:FnC:={ params:=[29,24,52],dflt:=true,pure:=false,body:=[
 (.asg (.name 53) (.bi .len false [(.attr (.var 24) 27)])),
 (.ife (.not (.callM (.var 29) 55 [(.var 24)])) [(.ret (some (.lit (.bool false))))] []),
 (.asg (.name 54) (.bin .add true (.bi .list false [(.ite (.cmp .isNone (.var 52) (.lit .none)) (.bi .range false [(.callM (.var 24) 56 [])]) (.var 52))]) (.comp false false (.sub (.var 26) (.lit (.int 0))) (.name 26) (.slice false (.attr (.var 24) 27) (some (.var 53)) none) []))),
 (.asg (.name 25) (.lit (.int 0))),
 (.whl (.cmp .lt (.var 25) (.bi .len false [(.var 54)])) [(.for false (.name 35) (.bi .list false [(.callM (.attr (.var 29) 33) 4 [(.sub (.var 54) (.var 25)),(.lst false [])])]) [(.asg (.name 53) (.bi .len false [(.attr (.var 24) 27)])),
   (.ife (.not (.callM (.var 29) 50 [(.var 24),(.var 35)])) [(.ret (some (.lit (.bool false))))] []),
   (.expr (.callM (.var 54) 3 [(.comp false false (.sub (.var 26) (.lit (.int 0))) (.name 26) (.slice false (.attr (.var 24) 27) (some (.var 53)) none) [])]))]),
  (.asg (.name 25) (.bin .add false (.var 25) (.lit (.int 1))))]),
 (.ret (some (.lit (.bool true))))] }
noncomputable def fn18:FnC:={ params:=[29],dflt:=false,pure:=false,body:=[
 (.asg (.attr (.var 29) 57) (.lst true [])),
 (.asg (.attr (.var 29) 58) (.lst true [])),
 (.asg (.attr (.var 29) 27) (.lst true [])),
 (.asg (.attr (.var 29) 59) (.lst true [])),
 (.asg (.attr (.var 29) 60) (.dct [] [])),
 (.asg (.attr (.var 29) 61) (.neg (.lit (.int 1)))),
 (.asg (.attr (.var 29) 62) (.lit (.bool false))),
 (.asg (.attr (.var 29) 63) (.tup []))] }
noncomputable def fn19:FnC:={ params:=[29,64],dflt:=false,pure:=false,body:=[
 (.expr (.callM (.attr (.var 29) 57) 0 [(.var 64)])),
 (.expr (.callM (.attr (.var 29) 58) 0 [(.var 64)])),
 (.ife (.cmp .eq (.var 64) (.tup [])) [(.expr (.callM (.var 29) 47 [(.tup [])]))] []),
 (.ret (some (.bin .sub false (.bi .len false [(.attr (.var 29) 57)]) (.lit (.int 1)))))] }
noncomputable def fn20:FnC:={ params:=[29],dflt:=false,pure:=true,body:=[
 (.ret (some (.bi .len false [(.attr (.var 29) 57)])))] }
noncomputable def fn21:FnC:={ params:=[29,21],dflt:=false,pure:=true,body:=[
 (.ret (some (.sub (.attr (.var 29) 58) (.var 21))))] }
noncomputable def fn22:FnC:={ params:=[29,20],dflt:=false,pure:=true,body:=[
 (.ret (some (.callF 6 [(.var 20),(.sub (.attr (.var 29) 57) (.sub (.var 20) (.lit (.int 0))))])))] }
noncomputable def fn23:FnC:={ params:=[29,20,65,61],dflt:=false,pure:=false,body:=[
 (.asg (.name 21) (.sub (.var 20) (.lit (.int 0)))),
 (.asg (.name 66) (.sub (.attr (.var 29) 57) (.var 21))),
 (.asg (.name 32) (.callF 5 [(.var 20),(.var 66)])),
 (.ife (.cmp .eq (.var 32) (.tup [])) [(.ret (some (.callM (.var 29) 47 [(.bin .add false (.ite (.cmp .isNone (.var 65) (.lit .none)) (.tup []) (.var 65)) (.tup [(.callF 4 [(.var 20)])]))])))] []),
 (.ife (.cmp .eq (.var 32) (.var 66)) [(.ret (some (.lit (.bool true))))] []),
 (.expr (.callM (.attr (.var 29) 27) 0 [(.tup [(.var 21),(.var 66),(.var 20),(.var 65),(.var 61)])])),
 (.asg (.sub (.attr (.var 29) 57) (.var 21)) (.var 32)),
 (.asg (.sub (.attr (.var 29) 60) (.var 21)) (.lit (.bool true))),
 (.ret (some (.lit (.bool true))))] }
noncomputable def fn24:FnC:={ params:=[29,20,65],dflt:=false,pure:=false,body:=[
 (.ret (some (.callM (.var 29) 67 [(.var 20),(.bi .tuple false [(.var 65)]),(.attr (.var 29) 61)])))] }
noncomputable def fn25:FnC:={ params:=[29,20],dflt:=false,pure:=false,body:=[
 (.ret (some (.callM (.var 29) 67 [(.var 20),(.lit .none),(.neg (.lit (.int 1)))])))] }
noncomputable def fn26:FnC:={ params:=[29,65],dflt:=false,pure:=false,body:=[
 (.asg (.attr (.var 29) 62) (.lit (.bool true))),
 (.asg (.attr (.var 29) 63) (.bi .tuple false [(.var 65)])),
 (.ret (some (.lit (.bool false))))] }
noncomputable def fn27:FnC:={ params:=[29],dflt:=false,pure:=false,body:=[
 (.expr (.callM (.attr (.var 29) 59) 0 [(.bi .len false [(.attr (.var 29) 27)])]))] }
noncomputable def fn28:FnC:={ params:=[29,68],dflt:=false,pure:=false,body:=[
 (.ife (.cmp .lt (.var 68) (.lit (.int 1))) [(.ret none)] []),
 (.asg (.name 53) (.sub (.attr (.var 29) 59) (.bin .sub false (.bi .len false [(.attr (.var 29) 59)]) (.var 68)))),
 (.asg (.attr (.var 29) 59) (.slice true (.attr (.var 29) 59) none (some (.bin .sub false (.bi .len false [(.attr (.var 29) 59)]) (.var 68))))),
 (.whl (.cmp .gt (.bi .len false [(.attr (.var 29) 27)]) (.var 53)) [(.asg (.name 26) (.callM (.attr (.var 29) 27) 1 [])),
  (.asg (.sub (.attr (.var 29) 57) (.sub (.var 26) (.lit (.int 0)))) (.sub (.var 26) (.lit (.int 1))))]),
 (.asg (.attr (.var 29) 60) (.dct [] [])),
 (.asg (.attr (.var 29) 62) (.cmp .inn (.tup []) (.attr (.var 29) 58))),
 (.asg (.attr (.var 29) 63) (.tup []))] }
noncomputable def fn29:FnC:={ params:=[29],dflt:=false,pure:=true,body:=[
 (.ret (some (.bi .len false [(.attr (.var 29) 59)])))] }
noncomputable def fn30:FnC:={ params:=[29],dflt:=false,pure:=false,body:=[
 (.asg (.name 17) (.bi .sorted false [(.attr (.var 29) 60)])),
 (.asg (.attr (.var 29) 60) (.dct [] [])),
 (.ret (some (.var 17)))] }
noncomputable def fn31:FnC:={ params:=[69,70],dflt:=false,pure:=false,body:=[
 (.asg (.sub (.var 69) (.lit (.str 71))) (.bin .add false (.sub (.var 69) (.lit (.str 71))) (.lit (.int 1)))),
 (.ife (.cmp .le (.sub (.var 69) (.lit (.str 71))) (.bi .len false [(.sub (.var 69) (.lit (.str 72)))])) [(.ret (some (.bin .mod false (.sub (.sub (.var 69) (.lit (.str 72))) (.bin .sub false (.sub (.var 69) (.lit (.str 71))) (.lit (.int 1)))) (.var 70))))] []),
 (.ret (some (.bin .mod false (.bin .div false (.bin .add false (.bin .add false (.bin .mul false (.bin .mul false (.sub (.var 69) (.lit (.str 71))) (.sub (.var 69) (.lit (.str 71)))) (.lit (.int 3))) (.bin .mul false (.sub (.var 69) (.lit (.str 71))) (.lit (.int 7)))) (.sub (.var 69) (.lit (.str 73)))) (.lit (.int 2))) (.var 70))))] }
noncomputable def fn32:FnC:={ params:=[69],dflt:=false,pure:=false,body:=[
 (.ret (some (.tup [(.callF 31 [(.var 69),(.lit (.int 3))]),(.sub (.tup [(.lit (.str 8)),(.lit (.str 10)),(.lit (.str 9)),(.lit (.str 7))]) (.callF 31 [(.var 69),(.lit (.int 4))])),(.callF 31 [(.var 69),(.lit (.int 5))])])))] }
noncomputable def fn33:FnC:={ params:=[69,74],dflt:=false,pure:=false,body:=[
 (.asg (.name 17) (.bi .set false [(.comp false false (.callF 32 [(.var 69)]) (.name 75) (.bi .range false [(.bin .add false (.var 74) (.callF 31 [(.var 69),(.bin .sub false (.lit (.int 4)) (.var 74))]))]) [])])),
 (.ret (some (.ite (.cmp .ge (.bi .len false [(.var 17)]) (.var 74)) (.bi .tuple false [(.bi .sorted false [(.var 17)])]) (.tup [(.tup [(.lit (.int 0)),(.lit (.str 8)),(.lit (.int 1))]),(.tup [(.lit (.int 1)),(.lit (.str 10)),(.lit (.int 2))])]))))] }
noncomputable def fn34:FnC:={ params:=[20,76],dflt:=false,pure:=true,body:=[
 (.asg (.tup [(.name 22),(.name 12)]) (.tup [(.sub (.var 20) (.lit (.int 1))),(.sub (.var 20) (.lit (.int 2)))])),
 (.ret (some (.comp false false (.var 15) (.name 15) (.var 76) [(.sub (.dct [(.lit (.str 8)),(.lit (.str 10)),(.lit (.str 9)),(.lit (.str 7))] [(.cmp .le (.var 15) (.var 12)),(.cmp .ge (.var 15) (.var 12)),(.cmp .eq (.var 15) (.var 12)),(.cmp .ne (.var 15) (.var 12))]) (.var 22))])))] }
noncomputable def fn35:FnC:={ params:=[20],dflt:=false,pure:=true,body:=[
 (.asg (.tup [(.name 21),(.name 22),(.name 12)]) (.var 20)),
 (.ret (some (.sub (.dct [(.lit (.str 8)),(.lit (.str 10)),(.lit (.str 9)),(.lit (.str 7))] [(.tup [(.var 21),(.lit (.str 10)),(.bin .add false (.var 12) (.lit (.int 1)))]),(.tup [(.var 21),(.lit (.str 8)),(.bin .sub false (.var 12) (.lit (.int 1)))]),(.tup [(.var 21),(.lit (.str 7)),(.var 12)]),(.tup [(.var 21),(.lit (.str 9)),(.var 12)])]) (.var 22))))] }
noncomputable def fn36:FnC:={ params:=[20,77],dflt:=false,pure:=true,body:=[
 (.ret (some (.cmp .ne (.callF 34 [(.var 20),(.sub (.var 77) (.sub (.var 20) (.lit (.int 0))))]) (.lst false []))))] }
noncomputable def fn37:FnC:={ params:=[20,77],dflt:=false,pure:=true,body:=[
 (.ret (some (.cmp .eq (.callF 34 [(.var 20),(.sub (.var 77) (.sub (.var 20) (.lit (.int 0))))]) (.sub (.var 77) (.sub (.var 20) (.lit (.int 0)))))))] }
noncomputable def fn38:FnC:={ params:=[58,27],dflt:=false,pure:=true,body:=[
 (.asg (.name 77) (.comp true false (.bi .list false [(.var 76)]) (.name 76) (.var 58) [])),
 (.for false (.name 26) (.var 27) [(.asg (.sub (.var 77) (.sub (.var 26) (.lit (.int 0)))) (.callF 34 [(.sub (.var 26) (.lit (.int 2))),(.sub (.var 77) (.sub (.var 26) (.lit (.int 0))))]))]),
 (.ret (some (.var 77)))] }
noncomputable def fn39:FnC:={ params:=[20,65,30,77],dflt:=false,pure:=true,body:=[
 (.for false (.name 34) (.var 30) [(.ife (.bor [(.cmp .isNone (.var 20) (.lit .none)),(.cmp .inn (.var 20) (.var 34))]) [(.asg (.name 78) (.comp false false (.var 44) (.name 44) (.var 34) [(.cmp .ne (.var 44) (.var 20))])),
   (.ife (.band [(.cmp .eq (.bi .sorted false [(.var 65)]) (.bi .sorted false [(.comp false false (.callF 35 [(.var 44)]) (.name 44) (.var 78) [])])),(.cmp .notIn (.lit (.bool true)) (.comp false false (.callF 36 [(.var 44),(.var 77)]) (.name 44) (.var 78) []))]) [(.ret (some (.lit (.bool true))))] [])] [])]),
 (.ret (some (.lit (.bool false))))] }
noncomputable def fn40:FnC:={ params:=[79,58,30,53,80],dflt:=false,pure:=false,body:=[
 (.for false (.name 25) (.bi .range false [(.var 53),(.bi .len false [(.attr (.var 79) 27)])]) [(.asg (.tup [(.name 26),(.name 77)]) (.tup [(.sub (.attr (.var 79) 27) (.var 25)),(.callF 38 [(.var 58),(.slice false (.attr (.var 79) 27) none (some (.var 25)))])])),
  (.ife (.bor [(.cmp .isNone (.sub (.var 26) (.lit (.int 3))) (.lit .none)),(.not (.callF 39 [(.sub (.var 26) (.lit (.int 2))),(.sub (.var 26) (.lit (.int 3))),(.var 30),(.var 77)])),(.callF 37 [(.sub (.var 26) (.lit (.int 2))),(.var 77)])]) [(.ret (some (.lit (.bool false))))] [])]),
 (.asg (.name 77) (.callF 38 [(.var 58),(.attr (.var 79) 27)])),
 (.ife (.not (.var 80)) [(.ret (some (.band [(.attr (.var 79) 62),(.callF 39 [(.lit .none),(.attr (.var 79) 63),(.var 30),(.var 77)])])))] []),
 (.ife (.attr (.var 79) 62) [(.ret (some (.lit (.bool false))))] []),
 (.for false (.name 34) (.var 30) [(.ife (.band [(.cmp .notIn (.lit (.bool true)) (.comp false false (.callF 37 [(.var 44),(.var 77)]) (.name 44) (.var 34) [])),(.cmp .lt (.bi .len false [(.comp false false (.var 44) (.name 44) (.var 34) [(.callF 36 [(.var 44),(.var 77)])])]) (.lit (.int 2)))]) [(.ret (some (.lit (.bool false))))] [])]),
 (.ret (some (.lit (.bool true))))] }
noncomputable def fn41:FnC:={ params:=[20,58,27],dflt:=false,pure:=true,body:=[
 (.for false (.name 25) (.bi .range false [(.bin .add false (.bi .len false [(.var 27)]) (.lit (.int 1)))]) [(.ife (.not (.callF 36 [(.var 20),(.callF 38 [(.var 58),(.slice false (.var 27) none (some (.var 25)))])])) [(.ret (some (.bin .sub false (.var 25) (.lit (.int 1)))))] [])]),
 (.ret (some (.bi .len false [(.var 27)])))] }
noncomputable def fn42:FnC:={ params:=[69,79,58],dflt:=false,pure:=false,body:=[
 (.asg (.tup [(.name 83),(.name 34),(.name 77)]) (.tup [(.new 0),(.callF 33 [(.var 69),(.lit (.int 2))]),(.callF 38 [(.var 58),(.attr (.var 79) 27)])])),
 (.expr (.callM (.var 83) 49 [(.var 79),(.callM (.var 83) 86 [(.var 34)])])),
 (.asg (.name 81) (.comp false false (.sub (.var 87) (.lit (.int 1))) (.name 87) (.bi .sorted false [(.comp false false (.tup [(.neg (.callF 41 [(.var 44),(.var 58),(.attr (.var 79) 27)])),(.var 44)]) (.name 44) (.var 34) [])]) [])),
 (.ife (.cmp .ne (.attr (.var 83) 30) (.lst false [(.var 81)])) [(.ret (some (.lit (.bool false))))] []),
 (.expr (.callM (.var 79) 84 [])),
 (.asg (.tup [(.name 85),(.name 53)]) (.tup [(.comp false false (.var 44) (.name 44) (.var 34) [(.callF 36 [(.var 44),(.var 77)])]),(.bi .len false [(.attr (.var 79) 27)])])),
 (.asg (.tup [(.name 80),(.name 32)]) (.tup [(.callM (.var 83) 50 [(.var 79),(.lit (.int 0))]),(.slice false (.attr (.var 79) 27) (some (.var 53)) none)])),
 (.asg (.name 82) (.cmp .eq (.var 80) (.cmp .ne (.var 85) (.lst false [])))),
 (.ife (.cmp .eq (.var 85) (.lst false [])) [(.asg (.name 82) (.band [(.var 82),(.cmp .eq (.bi .sorted false [(.attr (.var 79) 63)]) (.bi .sorted false [(.comp false false (.callF 35 [(.var 44)]) (.name 44) (.var 34) [])]))]))] []),
 (.ife (.band [(.cmp .eq (.bi .len false [(.var 85)]) (.lit (.int 1))),(.not (.callF 37 [(.sub (.var 85) (.lit (.int 0))),(.var 77)]))]) [(.asg (.name 78) (.comp false false (.callF 35 [(.var 44)]) (.name 44) (.var 34) [(.cmp .ne (.var 44) (.sub (.var 85) (.lit (.int 0))))])),
  (.asg (.name 82) (.band [(.var 82),(.cmp .eq (.comp false false (.sub (.var 26) (.lit (.int 2))) (.name 26) (.var 32) []) (.var 85)),(.cmp .eq (.bi .sorted false [(.sub (.sub (.var 32) (.lit (.int 0))) (.lit (.int 3)))]) (.bi .sorted false [(.var 78)]))]))] [(.ife (.cmp .ne (.var 32) (.lst false [])) [(.asg (.name 82) (.lit (.bool false)))] [])]),
 (.expr (.callM (.var 79) 1 [(.lit (.int 1))])),
 (.ret (some (.band [(.var 82),(.not (.attr (.var 79) 62))])))] }
noncomputable def fn43:FnC:={ params:=[88],dflt:=false,pure:=false,body:=[
 (.asg (.name 72) (.comp false false (.bin .mod false (.bi .int false [(.var 91)]) (.lit (.int 1000003))) (.name 91) (.slice false (.var 88) none (some (.lit (.int 60)))) [])),
 (.asg (.tup [(.name 69),(.name 79),(.name 83)]) (.tup [(.dct [(.lit (.str 71)),(.lit (.str 72)),(.lit (.str 73))] [(.lit (.int 0)),(.var 72),(.bin .mod false (.bi .sum false [(.var 72)]) (.lit (.int 997)))]),(.new 1),(.new 0)])),
 (.asg (.tup [(.name 58),(.name 30)]) (.tup [(.lst true []),(.lst true [])])),
 (.for false (.name 21) (.bi .range false [(.lit (.int 3))]) [(.asg (.name 90) (.callF 31 [(.var 69),(.lit (.int 4))])),
  (.expr (.callM (.var 58) 0 [(.sub (.tup [(.lst false [(.lit (.int 0)),(.lit (.int 1)),(.lit (.int 2)),(.lit (.int 3))]),(.lst false [(.lit (.int 0)),(.lit (.int 1)),(.lit (.int 3))]),(.lst false [(.lit (.int 1)),(.lit (.int 2)),(.lit (.int 3))]),(.lst false [(.lit (.int 0)),(.lit (.int 2)),(.lit (.int 3)),(.lit (.int 4))])]) (.var 90))])),
  (.expr (.callM (.var 79) 92 [(.sub (.tup [(.tup [(.tup [(.lit (.int 0)),(.lit (.int 3))])]),(.tup [(.tup [(.lit (.int 0)),(.lit (.int 1))]),(.tup [(.lit (.int 3)),(.lit (.int 3))])]),(.tup [(.tup [(.lit (.int 1)),(.lit (.int 3))])]),(.tup [(.tup [(.lit (.int 0)),(.lit (.int 0))]),(.tup [(.lit (.int 2)),(.lit (.int 4))])])]) (.var 90))]))]),
 (.asg (.name 89) (.lit .none)),
 (.for false (.name 75) (.bi .range false [(.lit (.int 5))]) [(.asg (.name 90) (.ite (.cmp .eq (.var 75) (.lit (.int 0))) (.lit (.int 0)) (.callF 31 [(.var 69),(.lit (.int 3))]))),
  (.asg (.name 20) (.ite (.cmp .eq (.var 90) (.lit (.int 1))) (.callF 32 [(.var 69)]) (.tup [(.lit (.int 0)),(.lit (.str 8)),(.lit (.int 4))]))),
  (.ife (.band [(.cmp .eq (.var 90) (.lit (.int 1))),(.cmp .eq (.callM (.var 79) 36 [(.var 20)]) (.lit (.int 0)))]) [(.expr (.callM (.var 79) 84 [])),
   (.expr (.callM (.var 79) 52 [])),
   (.expr (.callM (.var 79) 94 [(.var 20)])),
   (.asg (.name 89) (.callM (.var 79) 52 []))] [(.ife (.band [(.cmp .eq (.var 90) (.lit (.int 2))),(.cmp .gt (.callM (.var 79) 96 []) (.lit (.int 0)))]) [(.expr (.callM (.var 79) 1 [(.bin .add false (.lit (.int 1)) (.callF 31 [(.var 69),(.callM (.var 79) 96 [])]))]))] [(.for false (.name 95) (.bi .range false [(.bin .add false (.lit (.int 1)) (.callF 31 [(.var 69),(.lit (.int 2))]))]) [(.expr (.callM (.var 30) 0 [(.callF 33 [(.var 69),(.lit (.int 1))])])),
     (.ife (.cmp .ne (.callM (.var 83) 86 [(.sub (.var 30) (.neg (.lit (.int 1))))]) (.bin .sub false (.bi .len false [(.var 30)]) (.lit (.int 1)))) [(.ret (some (.lit (.bool false))))] [])])])]),
  (.asg (.name 53) (.bi .len false [(.attr (.var 79) 27)])),
  (.asg (.name 80) (.callM (.var 83) 93 [(.var 79),(.var 89)])),
  (.ife (.not (.callF 40 [(.var 79),(.var 58),(.var 30),(.var 53),(.var 80)])) [(.ret (some (.lit (.bool false))))] []),
  (.whl (.band [(.not (.var 80)),(.cmp .gt (.callM (.var 79) 96 []) (.lit (.int 0)))]) [(.expr (.callM (.var 79) 1 [(.lit (.int 1))])),
   (.asg (.name 53) (.bi .len false [(.attr (.var 79) 27)])),
   (.asg (.name 80) (.callM (.var 83) 93 [(.var 79)])),
   (.ife (.not (.callF 40 [(.var 79),(.var 58),(.var 30),(.var 53),(.var 80)])) [(.ret (some (.lit (.bool false))))] [])]),
  (.ife (.bor [(.not (.var 80)),(.not (.callF 42 [(.var 69),(.var 79),(.var 58)]))]) [(.ret (some (.not (.var 80))))] []),
  (.asg (.name 89) (.lit .none))]),
 (.ret (some (.lit (.bool true))))] }
noncomputable def PP:Prog:={ fns:=[(0,fn0),(1,fn1),(2,fn2),(3,fn3),(4,fn4),(5,fn5),(6,fn6),(7,fn7),(8,fn8),(9,fn9),(10,fn10),(11,fn11),(12,fn12),(13,fn13),(14,fn14),(15,fn15),(16,fn16),(17,fn17),(18,fn18),(19,fn19),(20,fn20),(21,fn21),(22,fn22),(23,fn23),(24,fn24),(25,fn25),(26,fn26),(27,fn27),(28,fn28),(29,fn29),(30,fn30),(31,fn31),(32,fn32),(33,fn33),(34,fn34),(35,fn35),(36,fn36),(37,fn37),(38,fn38),(39,fn39),(40,fn40),(41,fn41),(42,fn42),(43,fn43)],mts:=[((0,6),8),((0,86),9),((0,40),10),((0,39),11),((0,49),12),((0,48),13),((0,46),14),((0,50),15),((0,55),16),((0,93),17),((1,6),18),((1,92),19),((1,56),20),((1,28),21),((1,36),22),((1,67),23),((1,43),24),((1,94),25),((1,47),26),((1,84),27),((1,1),28),((1,96),29),((1,52),30)],attrs:=[(0,30),(0,31),(0,32),(0,33),(1,57),(1,58),(1,27),(1,59),(1,60),(1,61),(1,62),(1,63)] }
end Internal
end
section
open PySem PySem.W PyProof.Rows
namespace Internal
theorem qCF{α:Type}{o:Option α}{p:α->Bool}(h:o.any p=true):∃a,o=some a/\p a=true:=by
 cases o with
 |none=>cases h
 |some a=>exact⟨a,rfl,h⟩
noncomputable def fnOf(d:Data):Option FuncData:=match d with
 |.func fd=>some fd
 |_=>none
theorem qN1{d:Data}{fd:FuncData}(h:fnOf d=some fd):d=.func fd:=by
 induction d using Data.casesOn with
 |func=>cases h;rfl
 |_=>cases h
noncomputable def stOf(b:FuncBody):Option (List Stmt):=match b with
 |.stmts b=>some b
 |_=>none
theorem qMH{b:FuncBody}{l:List Stmt}(h:stOf b=some l):b=.stmts l:=by
 cases b with
 |stmts=>cases h;rfl
 |_=>cases h
noncomputable def refOf(v:Value):Option Addr:=match v with
 |.ref a=>some a
 |_=>none
theorem qKK{v:Value}{a:Addr}(h:refOf v=some a):v=.ref a:=by
 induction v using Value.casesOn with
 |ref=>cases h;rfl
 |_=>cases h
noncomputable def qKZ(d:Data):Bool:=match d with
 |.seq xs _=>decide (xs.toList=[Value.none])
 |_=>false
theorem qHq{d:Data}(h:qKZ d=true):∃n,d=.seq #[.none] n:=by
 induction d using Data.casesOn with
 |seq xs n=>exact⟨n,congrArg (Data.seq · n) (Array.toList_inj.mp (of_decide_eq_true h))⟩
 |_=>cases h
noncomputable def qLn(X:CX)(a:Nat):Option (List CS):=(X.K.lookup a).bind fun o=>(fnOf o.data).bind fun fd=>(stOf fd.body).bind (listM (cmpS X 20 fd.scope))
noncomputable def restF(X:CX)(fd:FuncData)(params:List Nat)(dflt:Bool):Bool :=
  fd.params.posonlyargs.isEmpty&&fd.params.kwonlyargs.isEmpty&&fd.params.vararg.isNone&&fd.params.kwarg.isNone&&decide (fd.params.args.map (·.arg)).Nodup &&
  decide ((fd.params.args.map (·.arg)).map (nid X.names)=params.map some)&&fd.closure.isEmpty&&decide (fd.globals=mainGlobals)&&decide (fd.builtins=builtinsNs)&&!fd.scope.isCoroutine&&!fd.scope.isGenerator&&decide (fd.scope.kind=.function) &&
  codeIn X.K fd.code fd.qualname&&(fd.params.args.map (·.arg)).all (fun n=>decide (qAE fd.scope n=some .local) || decide (qAE fd.scope n=some .cell))&&fd.scope.names.all (fun x=>decide (x.2≠.free)) &&
  (if dflt then(refOf fd.defaults).any fun T=>(X.K.lookup T).any fun o=>qKZ o.data&&!fd.params.args.isEmpty else decide (fd.defaults=.none))
noncomputable def qNQ(X:CX)(a:Nat)(params:List Nat)(dflt:Bool):Bool:=(X.K.lookup a).any fun o=>(fnOf o.data).any fun fd=>restF X fd params dflt
noncomputable def mtChk(X:CX)(c m f:Nat):Bool:=(X.clss[c]?).any fun C=>(X.fns[f]?).any fun a=>(X.names[m]?).any fun x =>
 plainGet X.K C x&&decide (findIn X.K (.ref C) x=some (some (.ref a)))&&decide (typeIn X.K (.ref a)=some (.type "function"))&&keepIn X.K (.ref a)
noncomputable def qPf(X:CX)(c a:Nat):Bool:=(X.clss[c]?).any fun C=>(X.names[a]?).any fun x =>
 plainGet X.K C x&&hasDictIn X.K C&&decide (findIn X.K (.ref C) x=some none)&&decide (findIn X.K (.ref C) "__setattr__" = some (some (.builtin "object.__setattr__")))&&plainOver X.K C
noncomputable def qPJ(X:CX)(c:Nat):Bool:=(X.clss[c]?).any fun C=>makesIn X.K C&&keepIn X.K (.ref C)
noncomputable def qET(X:CX)(P:Prog):List (Option (List CS))×Bool :=
 (P.fns.map fun f=>(X.fns[f.1]?).bind (qLn X),
  (P.fns.all fun f=>match X.fns[f.1]? with|some a=>qNQ X a f.2.params f.2.dflt|none=>true)&&(P.mts.all fun q=>mtChk X q.1.1 q.1.2 q.2)&&(P.attrs.all fun q=>qPf X q.1 q.2) &&
   P.mts.all fun q=>q.1.2 != 6 || qPJ X q.1.1)
noncomputable def qEt(P:Prog):List (Option (List CS))×Bool:=(P.fns.map fun f=>some f.2.body,true)
noncomputable def qD4:List Str:=(["append","pop","remove","extend","get","setdefault","__init__","!=","<=","=",">=","d","k","low","high","v","e","found","i","j","literal","x","sign","kept","store","spot","entry","trail","initial","self","clauses","units","fresh","watches","clause","number","holds","numbers","ranked","watch","height","some","gone","strike","one","other","force","fail","renew","place","visit","late","changed","mark","queue","begin","size","domains","firsts","marks","news","speaker","is_failed","clash","domain","reasons","old","enter","n","tape","many","at","row","all","fewest","lap","lot","lots","rest","store_now","stands","due","is_right","book","push","able","add","pair","script","asked","way","cell","new_var","propagate","decide","turn","depth","keg","rows","is_back","history","left"]:List String).map PySem.Str.ofString
noncomputable def trk2:List (Nat×Nat×Nat):=[(24,19,21),(83,23,25),(84,21,23),(85,21,23),(93,28,40),(104,45,47),(110,31,78),(147,43,45),(151,29,72),(159,16,118),(173,23,25),(174,22,24),(175,21,23),(176,21,23),(250,21,53),(287,11,40),(339,23,25),(339,27,29)]
noncomputable def qNm:List Nat:=[54,59,66,73,80,87,94,158,172,186,193,200,205,212,217,222,227,233,254,261,268,282,331,338,345,352,359,366,373,380,387,401,408,413,418,425,432,439,444,449,454,461,466,471]
noncomputable def mkX(K:Frag)(b:Bool):CX:={ names:=qD4,K:=K,fns:=qNm,clss:=[236,390],trk:=trk2,byText:=b }
def LE(K:Frag)(prog:Program)(w:World)(s:Shared):Prop:=∀{loose:List Str}{mean:ExcName->Option Value}{prog':Program}{fa l:Addr}{vs:List Value}{is:List Int}{mg mb:Str->Option Value}{E:Value->Shared->Prop}{Q:Value->Shared->Prop}
  (KX:K.In s.heap) (hL:nsIn K mainGlobals (PySem.Str.ofString "law")=some (some (.ref 471))) (hK:(fun b=>qET (mkX K b) PP)=fun _=>qEt PP) (T:Top prog' loose mean mg mb s.heap) (hmg:mg (PySem.Str.ofString "law")=some (.ref fa)) (hl:s.heap.get? l=some (seqObj "list" vs.toArray 0)) (hi:IntsAre vs is) (hn:is.length<=63)
  (plain:∃H',callF PP 14 43 [.lst (is.map .int)] []=some (.bool true,H'))
  (hQ:∀s':Shared,(∀b o,s.heap.get? b=some o->s'.heap.get? b=some o)->s'.os=s.os->s'.gens=s.gens->Q (.bool true) s'),
  wpAny (model prog w) callerA (call (.ref fa) [.ref l]) Q E s
theorem qKn:Nonempty Shared:=⟨{}⟩
theorem qMm:Nonempty World:=⟨⟨fun _ _=>0,⟨fun _=>0,fun _=>0,fun x=>x,fun _=>0,fun _ _=>0,fun _=>true,fun _=>0,.refcount,.text,fun _=>0,fun _=>none,fun _=>false,fun _ _ _=>true,fun _ _ _=>true,true,fun _=>false,fun _=>none,fun _=>none,fun _ _ _=>0,fun _ _=>none,fun _=>none,fun _=>(0,false,Str.empty),fun _=>none,fun d=>d,fun _=>false⟩⟩⟩
theorem ne_t0:Nonempty (Frag×Program×World×Shared):=qMm.elim fun w=>qKn.elim fun s=>⟨(default,PySem.Challenge.pw_pc0041_01,w,s)⟩
noncomputable def t0:Frag×Program×World×Shared:=@Classical.epsilon _ ne_t0 fun t=>¬LE t.1 t.2.1 t.2.2.1 t.2.2.2
theorem qP0(h:LE t0.1 t0.2.1 t0.2.2.1 t0.2.2.2)(K:Frag)(prog:Program)(w:World)(s:Shared):LE K prog w s:=by
 apply Classical.byContradiction
 intro q
 exact @Classical.epsilon_spec (Frag×Program×World×Shared) (fun t=>¬LE t.1 t.2.1 t.2.2.1 t.2.2.2) ⟨(K,prog,w,s),q⟩ h
@[irreducible] noncomputable def prog:Program:=t0.2.1
@[irreducible] noncomputable def w:World:=t0.2.2.1
@[irreducible] noncomputable def base:Heap:=t0.2.2.2.heap
@[irreducible] noncomputable def X:CX:=mkX t0.1 (w.params.followText "set-order")
@[irreducible] noncomputable def P:Prog:=PP
end Internal
end
section
open PySem PySem.W
namespace Internal
section
theorem ni{α:Type} [n:Nonempty α]:Nonempty α:=n
noncomputable def EE{α:Type}(n:Nonempty α)(Q:α->Prop):α:=@Classical.epsilon α n fun p=>¬Q p
noncomputable def WW{α:Type}(n:Nonempty α)(Q:α->Prop):α:=@Classical.epsilon α n Q
theorem epsT{α:Type}{n:Nonempty α}{Q:α->Prop}(h:Q (EE n Q))(p:α):Q p:=Classical.byContradiction fun q=>Classical.epsilon_spec (p:=fun p=>¬Q p) ⟨p,q⟩ h
instance:Nonempty Drawn:=⟨{}⟩
instance:Nonempty Shared:=⟨{}⟩
instance:Nonempty Around:=⟨{}⟩
instance:Nonempty AV:=⟨.none⟩
instance:Nonempty AObj:=⟨.ns []⟩
instance:Nonempty CE:=⟨.lit .none⟩
instance:Nonempty CT:=⟨.name 0⟩
instance:Nonempty CS:=⟨.bad⟩
instance:Nonempty Fl:=⟨.next⟩
instance:Nonempty COp:=⟨.eq⟩
instance:Nonempty BOp:=⟨.add⟩
instance:Nonempty BI:=⟨.len⟩
instance:Nonempty FnC:=⟨⟨[],false,false,[]⟩⟩
instance:Nonempty Prog:=⟨⟨[],[],[]⟩⟩
instance:Nonempty CX:=⟨⟨[],[],[],[],[],false⟩⟩
instance:Nonempty Internal.Callee:=⟨.fn 0⟩
variable{u0 u1 u2 u3 u4 u5 u6 u7 u8 u9 u10 u11 u12 u13 u14 u15 u16 u17:Type}[Nonempty u0][Nonempty u1][Nonempty u2][Nonempty u3][Nonempty u4][Nonempty u5][Nonempty u6][Nonempty u7][Nonempty u8][Nonempty u9][Nonempty u10][Nonempty u11][Nonempty u12][Nonempty u13][Nonempty u14][Nonempty u15][Nonempty u16][Nonempty u17]
theorem epA1{P:u0->Prop}(h:P (EE ni P)):∀x,P x:=fun x=>epsT h x
theorem epX1{P:u0->Prop}(h:∃x,P x):P (WW ni P):=Classical.epsilon_spec h
abbrev epH2(P:u0->u1->Prop)(t:u0×u1):Prop:=P t.1 t.2
theorem epA2{P:u0->u1->Prop}(h:P (EE ni (epH2 P)).1 (EE ni (epH2 P)).2):∀x0 x1,P x0 x1:=fun x0 x1=>epsT (Q:=epH2 P) h (x0,x1)
theorem epX2{P:u0->u1->Prop}(h:∃x0 x1,P x0 x1):P (WW ni (epH2 P)).1 (WW ni (epH2 P)).2:=Classical.epsilon_spec (p:=epH2 P) (h.elim fun x0 h=>h.elim fun x1 h=>⟨(x0,x1),h⟩)
abbrev epH3(P:u0->u1->u2->Prop)(t:u0×u1×u2):Prop:=P t.1 t.2.1 t.2.2
theorem epA3{P:u0->u1->u2->Prop}(h:P (EE ni (epH3 P)).1 (EE ni (epH3 P)).2.1 (EE ni (epH3 P)).2.2):∀x0 x1 x2,P x0 x1 x2:=fun x0 x1 x2=>epsT (Q:=epH3 P) h (x0,x1,x2)
theorem epX3{P:u0->u1->u2->Prop}(h:∃x0 x1 x2,P x0 x1 x2):P (WW ni (epH3 P)).1 (WW ni (epH3 P)).2.1 (WW ni (epH3 P)).2.2:=Classical.epsilon_spec (p:=epH3 P) (h.elim fun x0 h=>h.elim fun x1 h=>h.elim fun x2 h=>⟨(x0,x1,x2),h⟩)
abbrev epH4(P:u0->u1->u2->u3->Prop)(t:u0×u1×u2×u3):Prop:=P t.1 t.2.1 t.2.2.1 t.2.2.2
theorem epA4{P:u0->u1->u2->u3->Prop}(h:P (EE ni (epH4 P)).1 (EE ni (epH4 P)).2.1 (EE ni (epH4 P)).2.2.1 (EE ni (epH4 P)).2.2.2):∀x0 x1 x2 x3,P x0 x1 x2 x3:=fun x0 x1 x2 x3=>epsT (Q:=epH4 P) h (x0,x1,x2,x3)
theorem epX4{P:u0->u1->u2->u3->Prop}(h:∃x0 x1 x2 x3,P x0 x1 x2 x3):P (WW ni (epH4 P)).1 (WW ni (epH4 P)).2.1 (WW ni (epH4 P)).2.2.1 (WW ni (epH4 P)).2.2.2:=Classical.epsilon_spec (p:=epH4 P) (h.elim fun x0 h=>h.elim fun x1 h=>h.elim fun x2 h=>h.elim fun x3 h=>⟨(x0,x1,x2,x3),h⟩)
abbrev epH5(P:u0->u1->u2->u3->u4->Prop)(t:u0×u1×u2×u3×u4):Prop:=P t.1 t.2.1 t.2.2.1 t.2.2.2.1 t.2.2.2.2
theorem epA5{P:u0->u1->u2->u3->u4->Prop}(h:P (EE ni (epH5 P)).1 (EE ni (epH5 P)).2.1 (EE ni (epH5 P)).2.2.1 (EE ni (epH5 P)).2.2.2.1 (EE ni (epH5 P)).2.2.2.2):∀x0 x1 x2 x3 x4,P x0 x1 x2 x3 x4:=fun x0 x1 x2 x3 x4=>epsT (Q:=epH5 P) h (x0,x1,x2,x3,x4)
theorem epX5{P:u0->u1->u2->u3->u4->Prop}(h:∃x0 x1 x2 x3 x4,P x0 x1 x2 x3 x4):P (WW ni (epH5 P)).1 (WW ni (epH5 P)).2.1 (WW ni (epH5 P)).2.2.1 (WW ni (epH5 P)).2.2.2.1 (WW ni (epH5 P)).2.2.2.2:=Classical.epsilon_spec (p:=epH5 P) (h.elim fun x0 h=>h.elim fun x1 h=>h.elim fun x2 h=>h.elim fun x3 h=>h.elim fun x4 h=>⟨(x0,x1,x2,x3,x4),h⟩)
abbrev epH6(P:u0->u1->u2->u3->u4->u5->Prop)(t:u0×u1×u2×u3×u4×u5):Prop:=P t.1 t.2.1 t.2.2.1 t.2.2.2.1 t.2.2.2.2.1 t.2.2.2.2.2
theorem epA6{P:u0->u1->u2->u3->u4->u5->Prop}(h:P (EE ni (epH6 P)).1 (EE ni (epH6 P)).2.1 (EE ni (epH6 P)).2.2.1 (EE ni (epH6 P)).2.2.2.1 (EE ni (epH6 P)).2.2.2.2.1 (EE ni (epH6 P)).2.2.2.2.2):∀x0 x1 x2 x3 x4 x5,P x0 x1 x2 x3 x4 x5:=fun x0 x1 x2 x3 x4 x5=>epsT (Q:=epH6 P) h (x0,x1,x2,x3,x4,x5)
theorem epX6{P:u0->u1->u2->u3->u4->u5->Prop}(h:∃x0 x1 x2 x3 x4 x5,P x0 x1 x2 x3 x4 x5):P (WW ni (epH6 P)).1 (WW ni (epH6 P)).2.1 (WW ni (epH6 P)).2.2.1 (WW ni (epH6 P)).2.2.2.1 (WW ni (epH6 P)).2.2.2.2.1 (WW ni (epH6 P)).2.2.2.2.2:=Classical.epsilon_spec (p:=epH6 P) (h.elim fun x0 h=>h.elim fun x1 h=>h.elim fun x2 h=>h.elim fun x3 h=>h.elim fun x4 h=>h.elim fun x5 h=>⟨(x0,x1,x2,x3,x4,x5),h⟩)
abbrev epH7(P:u0->u1->u2->u3->u4->u5->u6->Prop)(t:u0×u1×u2×u3×u4×u5×u6):Prop:=P t.1 t.2.1 t.2.2.1 t.2.2.2.1 t.2.2.2.2.1 t.2.2.2.2.2.1 t.2.2.2.2.2.2
theorem epA7{P:u0->u1->u2->u3->u4->u5->u6->Prop}(h:P (EE ni (epH7 P)).1 (EE ni (epH7 P)).2.1 (EE ni (epH7 P)).2.2.1 (EE ni (epH7 P)).2.2.2.1 (EE ni (epH7 P)).2.2.2.2.1 (EE ni (epH7 P)).2.2.2.2.2.1 (EE ni (epH7 P)).2.2.2.2.2.2):∀x0 x1 x2 x3 x4 x5 x6,P x0 x1 x2 x3 x4 x5 x6:=fun x0 x1 x2 x3 x4 x5 x6=>epsT (Q:=epH7 P) h (x0,x1,x2,x3,x4,x5,x6)
abbrev epH8(P:u0->u1->u2->u3->u4->u5->u6->u7->Prop)(t:u0×u1×u2×u3×u4×u5×u6×u7):Prop:=P t.1 t.2.1 t.2.2.1 t.2.2.2.1 t.2.2.2.2.1 t.2.2.2.2.2.1 t.2.2.2.2.2.2.1 t.2.2.2.2.2.2.2
theorem epA8{P:u0->u1->u2->u3->u4->u5->u6->u7->Prop}(h:P (EE ni (epH8 P)).1 (EE ni (epH8 P)).2.1 (EE ni (epH8 P)).2.2.1 (EE ni (epH8 P)).2.2.2.1 (EE ni (epH8 P)).2.2.2.2.1 (EE ni (epH8 P)).2.2.2.2.2.1 (EE ni (epH8 P)).2.2.2.2.2.2.1 (EE ni (epH8 P)).2.2.2.2.2.2.2):∀x0 x1 x2 x3 x4 x5 x6 x7,P x0 x1 x2 x3 x4 x5 x6 x7:=fun x0 x1 x2 x3 x4 x5 x6 x7=>epsT (Q:=epH8 P) h (x0,x1,x2,x3,x4,x5,x6,x7)
abbrev epH9(P:u0->u1->u2->u3->u4->u5->u6->u7->u8->Prop)(t:u0×u1×u2×u3×u4×u5×u6×u7×u8):Prop:=P t.1 t.2.1 t.2.2.1 t.2.2.2.1 t.2.2.2.2.1 t.2.2.2.2.2.1 t.2.2.2.2.2.2.1 t.2.2.2.2.2.2.2.1 t.2.2.2.2.2.2.2.2
theorem epA9{P:u0->u1->u2->u3->u4->u5->u6->u7->u8->Prop}(h:P (EE ni (epH9 P)).1 (EE ni (epH9 P)).2.1 (EE ni (epH9 P)).2.2.1 (EE ni (epH9 P)).2.2.2.1 (EE ni (epH9 P)).2.2.2.2.1 (EE ni (epH9 P)).2.2.2.2.2.1 (EE ni (epH9 P)).2.2.2.2.2.2.1 (EE ni (epH9 P)).2.2.2.2.2.2.2.1 (EE ni (epH9 P)).2.2.2.2.2.2.2.2):∀x0 x1 x2 x3 x4 x5 x6 x7 x8,P x0 x1 x2 x3 x4 x5 x6 x7 x8:=fun x0 x1 x2 x3 x4 x5 x6 x7 x8=>epsT (Q:=epH9 P) h (x0,x1,x2,x3,x4,x5,x6,x7,x8)
abbrev epH10(P:u0->u1->u2->u3->u4->u5->u6->u7->u8->u9->Prop)(t:u0×u1×u2×u3×u4×u5×u6×u7×u8×u9):Prop:=P t.1 t.2.1 t.2.2.1 t.2.2.2.1 t.2.2.2.2.1 t.2.2.2.2.2.1 t.2.2.2.2.2.2.1 t.2.2.2.2.2.2.2.1 t.2.2.2.2.2.2.2.2.1 t.2.2.2.2.2.2.2.2.2
theorem epA10{P:u0->u1->u2->u3->u4->u5->u6->u7->u8->u9->Prop}(h:P (EE ni (epH10 P)).1 (EE ni (epH10 P)).2.1 (EE ni (epH10 P)).2.2.1 (EE ni (epH10 P)).2.2.2.1 (EE ni (epH10 P)).2.2.2.2.1 (EE ni (epH10 P)).2.2.2.2.2.1 (EE ni (epH10 P)).2.2.2.2.2.2.1 (EE ni (epH10 P)).2.2.2.2.2.2.2.1 (EE ni (epH10 P)).2.2.2.2.2.2.2.2.1 (EE ni (epH10 P)).2.2.2.2.2.2.2.2.2):∀x0 x1 x2 x3 x4 x5 x6 x7 x8 x9,P x0 x1 x2 x3 x4 x5 x6 x7 x8 x9:=fun x0 x1 x2 x3 x4 x5 x6 x7 x8 x9=>epsT (Q:=epH10 P) h (x0,x1,x2,x3,x4,x5,x6,x7,x8,x9)
abbrev epH11(P:u0->u1->u2->u3->u4->u5->u6->u7->u8->u9->u10->Prop)(t:u0×u1×u2×u3×u4×u5×u6×u7×u8×u9×u10):Prop:=P t.1 t.2.1 t.2.2.1 t.2.2.2.1 t.2.2.2.2.1 t.2.2.2.2.2.1 t.2.2.2.2.2.2.1 t.2.2.2.2.2.2.2.1 t.2.2.2.2.2.2.2.2.1 t.2.2.2.2.2.2.2.2.2.1 t.2.2.2.2.2.2.2.2.2.2
theorem epA11{P:u0->u1->u2->u3->u4->u5->u6->u7->u8->u9->u10->Prop}(h:P (EE ni (epH11 P)).1 (EE ni (epH11 P)).2.1 (EE ni (epH11 P)).2.2.1 (EE ni (epH11 P)).2.2.2.1 (EE ni (epH11 P)).2.2.2.2.1 (EE ni (epH11 P)).2.2.2.2.2.1 (EE ni (epH11 P)).2.2.2.2.2.2.1 (EE ni (epH11 P)).2.2.2.2.2.2.2.1 (EE ni (epH11 P)).2.2.2.2.2.2.2.2.1 (EE ni (epH11 P)).2.2.2.2.2.2.2.2.2.1 (EE ni (epH11 P)).2.2.2.2.2.2.2.2.2.2):∀x0 x1 x2 x3 x4 x5 x6 x7 x8 x9 x10,P x0 x1 x2 x3 x4 x5 x6 x7 x8 x9 x10:=fun x0 x1 x2 x3 x4 x5 x6 x7 x8 x9 x10=>epsT (Q:=epH11 P) h (x0,x1,x2,x3,x4,x5,x6,x7,x8,x9,x10)
abbrev epH12(P:u0->u1->u2->u3->u4->u5->u6->u7->u8->u9->u10->u11->Prop)(t:u0×u1×u2×u3×u4×u5×u6×u7×u8×u9×u10×u11):Prop:=P t.1 t.2.1 t.2.2.1 t.2.2.2.1 t.2.2.2.2.1 t.2.2.2.2.2.1 t.2.2.2.2.2.2.1 t.2.2.2.2.2.2.2.1 t.2.2.2.2.2.2.2.2.1 t.2.2.2.2.2.2.2.2.2.1 t.2.2.2.2.2.2.2.2.2.2.1 t.2.2.2.2.2.2.2.2.2.2.2
theorem epA12{P:u0->u1->u2->u3->u4->u5->u6->u7->u8->u9->u10->u11->Prop}(h:P (EE ni (epH12 P)).1 (EE ni (epH12 P)).2.1 (EE ni (epH12 P)).2.2.1 (EE ni (epH12 P)).2.2.2.1 (EE ni (epH12 P)).2.2.2.2.1 (EE ni (epH12 P)).2.2.2.2.2.1 (EE ni (epH12 P)).2.2.2.2.2.2.1 (EE ni (epH12 P)).2.2.2.2.2.2.2.1 (EE ni (epH12 P)).2.2.2.2.2.2.2.2.1 (EE ni (epH12 P)).2.2.2.2.2.2.2.2.2.1 (EE ni (epH12 P)).2.2.2.2.2.2.2.2.2.2.1 (EE ni (epH12 P)).2.2.2.2.2.2.2.2.2.2.2):∀x0 x1 x2 x3 x4 x5 x6 x7 x8 x9 x10 x11,P x0 x1 x2 x3 x4 x5 x6 x7 x8 x9 x10 x11:=fun x0 x1 x2 x3 x4 x5 x6 x7 x8 x9 x10 x11=>epsT (Q:=epH12 P) h (x0,x1,x2,x3,x4,x5,x6,x7,x8,x9,x10,x11)
abbrev epH13(P:u0->u1->u2->u3->u4->u5->u6->u7->u8->u9->u10->u11->u12->Prop)(t:u0×u1×u2×u3×u4×u5×u6×u7×u8×u9×u10×u11×u12):Prop:=P t.1 t.2.1 t.2.2.1 t.2.2.2.1 t.2.2.2.2.1 t.2.2.2.2.2.1 t.2.2.2.2.2.2.1 t.2.2.2.2.2.2.2.1 t.2.2.2.2.2.2.2.2.1 t.2.2.2.2.2.2.2.2.2.1 t.2.2.2.2.2.2.2.2.2.2.1 t.2.2.2.2.2.2.2.2.2.2.2.1 t.2.2.2.2.2.2.2.2.2.2.2.2
theorem epA13{P:u0->u1->u2->u3->u4->u5->u6->u7->u8->u9->u10->u11->u12->Prop}(h:P (EE ni (epH13 P)).1 (EE ni (epH13 P)).2.1 (EE ni (epH13 P)).2.2.1 (EE ni (epH13 P)).2.2.2.1 (EE ni (epH13 P)).2.2.2.2.1 (EE ni (epH13 P)).2.2.2.2.2.1 (EE ni (epH13 P)).2.2.2.2.2.2.1 (EE ni (epH13 P)).2.2.2.2.2.2.2.1 (EE ni (epH13 P)).2.2.2.2.2.2.2.2.1 (EE ni (epH13 P)).2.2.2.2.2.2.2.2.2.1 (EE ni (epH13 P)).2.2.2.2.2.2.2.2.2.2.1 (EE ni (epH13 P)).2.2.2.2.2.2.2.2.2.2.2.1 (EE ni (epH13 P)).2.2.2.2.2.2.2.2.2.2.2.2):∀x0 x1 x2 x3 x4 x5 x6 x7 x8 x9 x10 x11 x12,P x0 x1 x2 x3 x4 x5 x6 x7 x8 x9 x10 x11 x12:=fun x0 x1 x2 x3 x4 x5 x6 x7 x8 x9 x10 x11 x12=>epsT (Q:=epH13 P) h (x0,x1,x2,x3,x4,x5,x6,x7,x8,x9,x10,x11,x12)
abbrev epH14(P:u0->u1->u2->u3->u4->u5->u6->u7->u8->u9->u10->u11->u12->u13->Prop)(t:u0×u1×u2×u3×u4×u5×u6×u7×u8×u9×u10×u11×u12×u13):Prop:=P t.1 t.2.1 t.2.2.1 t.2.2.2.1 t.2.2.2.2.1 t.2.2.2.2.2.1 t.2.2.2.2.2.2.1 t.2.2.2.2.2.2.2.1 t.2.2.2.2.2.2.2.2.1 t.2.2.2.2.2.2.2.2.2.1 t.2.2.2.2.2.2.2.2.2.2.1 t.2.2.2.2.2.2.2.2.2.2.2.1 t.2.2.2.2.2.2.2.2.2.2.2.2.1 t.2.2.2.2.2.2.2.2.2.2.2.2.2
theorem epA14{P:u0->u1->u2->u3->u4->u5->u6->u7->u8->u9->u10->u11->u12->u13->Prop}(h:P (EE ni (epH14 P)).1 (EE ni (epH14 P)).2.1 (EE ni (epH14 P)).2.2.1 (EE ni (epH14 P)).2.2.2.1 (EE ni (epH14 P)).2.2.2.2.1 (EE ni (epH14 P)).2.2.2.2.2.1 (EE ni (epH14 P)).2.2.2.2.2.2.1 (EE ni (epH14 P)).2.2.2.2.2.2.2.1 (EE ni (epH14 P)).2.2.2.2.2.2.2.2.1 (EE ni (epH14 P)).2.2.2.2.2.2.2.2.2.1 (EE ni (epH14 P)).2.2.2.2.2.2.2.2.2.2.1 (EE ni (epH14 P)).2.2.2.2.2.2.2.2.2.2.2.1 (EE ni (epH14 P)).2.2.2.2.2.2.2.2.2.2.2.2.1 (EE ni (epH14 P)).2.2.2.2.2.2.2.2.2.2.2.2.2):∀x0 x1 x2 x3 x4 x5 x6 x7 x8 x9 x10 x11 x12 x13,P x0 x1 x2 x3 x4 x5 x6 x7 x8 x9 x10 x11 x12 x13:=fun x0 x1 x2 x3 x4 x5 x6 x7 x8 x9 x10 x11 x12 x13=>epsT (Q:=epH14 P) h (x0,x1,x2,x3,x4,x5,x6,x7,x8,x9,x10,x11,x12,x13)
abbrev epH15(P:u0->u1->u2->u3->u4->u5->u6->u7->u8->u9->u10->u11->u12->u13->u14->Prop)(t:u0×u1×u2×u3×u4×u5×u6×u7×u8×u9×u10×u11×u12×u13×u14):Prop:=P t.1 t.2.1 t.2.2.1 t.2.2.2.1 t.2.2.2.2.1 t.2.2.2.2.2.1 t.2.2.2.2.2.2.1 t.2.2.2.2.2.2.2.1 t.2.2.2.2.2.2.2.2.1 t.2.2.2.2.2.2.2.2.2.1 t.2.2.2.2.2.2.2.2.2.2.1 t.2.2.2.2.2.2.2.2.2.2.2.1 t.2.2.2.2.2.2.2.2.2.2.2.2.1 t.2.2.2.2.2.2.2.2.2.2.2.2.2.1 t.2.2.2.2.2.2.2.2.2.2.2.2.2.2
theorem epA15{P:u0->u1->u2->u3->u4->u5->u6->u7->u8->u9->u10->u11->u12->u13->u14->Prop}(h:P (EE ni (epH15 P)).1 (EE ni (epH15 P)).2.1 (EE ni (epH15 P)).2.2.1 (EE ni (epH15 P)).2.2.2.1 (EE ni (epH15 P)).2.2.2.2.1 (EE ni (epH15 P)).2.2.2.2.2.1 (EE ni (epH15 P)).2.2.2.2.2.2.1 (EE ni (epH15 P)).2.2.2.2.2.2.2.1 (EE ni (epH15 P)).2.2.2.2.2.2.2.2.1 (EE ni (epH15 P)).2.2.2.2.2.2.2.2.2.1 (EE ni (epH15 P)).2.2.2.2.2.2.2.2.2.2.1 (EE ni (epH15 P)).2.2.2.2.2.2.2.2.2.2.2.1 (EE ni (epH15 P)).2.2.2.2.2.2.2.2.2.2.2.2.1 (EE ni (epH15 P)).2.2.2.2.2.2.2.2.2.2.2.2.2.1 (EE ni (epH15 P)).2.2.2.2.2.2.2.2.2.2.2.2.2.2):∀x0 x1 x2 x3 x4 x5 x6 x7 x8 x9 x10 x11 x12 x13 x14,P x0 x1 x2 x3 x4 x5 x6 x7 x8 x9 x10 x11 x12 x13 x14:=fun x0 x1 x2 x3 x4 x5 x6 x7 x8 x9 x10 x11 x12 x13 x14=>epsT (Q:=epH15 P) h (x0,x1,x2,x3,x4,x5,x6,x7,x8,x9,x10,x11,x12,x13,x14)
abbrev epH16(P:u0->u1->u2->u3->u4->u5->u6->u7->u8->u9->u10->u11->u12->u13->u14->u15->Prop)(t:u0×u1×u2×u3×u4×u5×u6×u7×u8×u9×u10×u11×u12×u13×u14×u15):Prop:=P t.1 t.2.1 t.2.2.1 t.2.2.2.1 t.2.2.2.2.1 t.2.2.2.2.2.1 t.2.2.2.2.2.2.1 t.2.2.2.2.2.2.2.1 t.2.2.2.2.2.2.2.2.1 t.2.2.2.2.2.2.2.2.2.1 t.2.2.2.2.2.2.2.2.2.2.1 t.2.2.2.2.2.2.2.2.2.2.2.1 t.2.2.2.2.2.2.2.2.2.2.2.2.1 t.2.2.2.2.2.2.2.2.2.2.2.2.2.1 t.2.2.2.2.2.2.2.2.2.2.2.2.2.2.1 t.2.2.2.2.2.2.2.2.2.2.2.2.2.2.2
theorem epA16{P:u0->u1->u2->u3->u4->u5->u6->u7->u8->u9->u10->u11->u12->u13->u14->u15->Prop}(h:P (EE ni (epH16 P)).1 (EE ni (epH16 P)).2.1 (EE ni (epH16 P)).2.2.1 (EE ni (epH16 P)).2.2.2.1 (EE ni (epH16 P)).2.2.2.2.1 (EE ni (epH16 P)).2.2.2.2.2.1 (EE ni (epH16 P)).2.2.2.2.2.2.1 (EE ni (epH16 P)).2.2.2.2.2.2.2.1 (EE ni (epH16 P)).2.2.2.2.2.2.2.2.1 (EE ni (epH16 P)).2.2.2.2.2.2.2.2.2.1 (EE ni (epH16 P)).2.2.2.2.2.2.2.2.2.2.1 (EE ni (epH16 P)).2.2.2.2.2.2.2.2.2.2.2.1 (EE ni (epH16 P)).2.2.2.2.2.2.2.2.2.2.2.2.1 (EE ni (epH16 P)).2.2.2.2.2.2.2.2.2.2.2.2.2.1 (EE ni (epH16 P)).2.2.2.2.2.2.2.2.2.2.2.2.2.2.1 (EE ni (epH16 P)).2.2.2.2.2.2.2.2.2.2.2.2.2.2.2):∀x0 x1 x2 x3 x4 x5 x6 x7 x8 x9 x10 x11 x12 x13 x14 x15,P x0 x1 x2 x3 x4 x5 x6 x7 x8 x9 x10 x11 x12 x13 x14 x15:=fun x0 x1 x2 x3 x4 x5 x6 x7 x8 x9 x10 x11 x12 x13 x14 x15=>epsT (Q:=epH16 P) h (x0,x1,x2,x3,x4,x5,x6,x7,x8,x9,x10,x11,x12,x13,x14,x15)
abbrev epH17(P:u0->u1->u2->u3->u4->u5->u6->u7->u8->u9->u10->u11->u12->u13->u14->u15->u16->Prop)(t:u0×u1×u2×u3×u4×u5×u6×u7×u8×u9×u10×u11×u12×u13×u14×u15×u16):Prop:=P t.1 t.2.1 t.2.2.1 t.2.2.2.1 t.2.2.2.2.1 t.2.2.2.2.2.1 t.2.2.2.2.2.2.1 t.2.2.2.2.2.2.2.1 t.2.2.2.2.2.2.2.2.1 t.2.2.2.2.2.2.2.2.2.1 t.2.2.2.2.2.2.2.2.2.2.1 t.2.2.2.2.2.2.2.2.2.2.2.1 t.2.2.2.2.2.2.2.2.2.2.2.2.1 t.2.2.2.2.2.2.2.2.2.2.2.2.2.1 t.2.2.2.2.2.2.2.2.2.2.2.2.2.2.1 t.2.2.2.2.2.2.2.2.2.2.2.2.2.2.2.1 t.2.2.2.2.2.2.2.2.2.2.2.2.2.2.2.2
theorem epA17{P:u0->u1->u2->u3->u4->u5->u6->u7->u8->u9->u10->u11->u12->u13->u14->u15->u16->Prop}(h:P (EE ni (epH17 P)).1 (EE ni (epH17 P)).2.1 (EE ni (epH17 P)).2.2.1 (EE ni (epH17 P)).2.2.2.1 (EE ni (epH17 P)).2.2.2.2.1 (EE ni (epH17 P)).2.2.2.2.2.1 (EE ni (epH17 P)).2.2.2.2.2.2.1 (EE ni (epH17 P)).2.2.2.2.2.2.2.1 (EE ni (epH17 P)).2.2.2.2.2.2.2.2.1 (EE ni (epH17 P)).2.2.2.2.2.2.2.2.2.1 (EE ni (epH17 P)).2.2.2.2.2.2.2.2.2.2.1 (EE ni (epH17 P)).2.2.2.2.2.2.2.2.2.2.2.1 (EE ni (epH17 P)).2.2.2.2.2.2.2.2.2.2.2.2.1 (EE ni (epH17 P)).2.2.2.2.2.2.2.2.2.2.2.2.2.1 (EE ni (epH17 P)).2.2.2.2.2.2.2.2.2.2.2.2.2.2.1 (EE ni (epH17 P)).2.2.2.2.2.2.2.2.2.2.2.2.2.2.2.1 (EE ni (epH17 P)).2.2.2.2.2.2.2.2.2.2.2.2.2.2.2.2):∀x0 x1 x2 x3 x4 x5 x6 x7 x8 x9 x10 x11 x12 x13 x14 x15 x16,P x0 x1 x2 x3 x4 x5 x6 x7 x8 x9 x10 x11 x12 x13 x14 x15 x16:=fun x0 x1 x2 x3 x4 x5 x6 x7 x8 x9 x10 x11 x12 x13 x14 x15 x16=>epsT (Q:=epH17 P) h (x0,x1,x2,x3,x4,x5,x6,x7,x8,x9,x10,x11,x12,x13,x14,x15,x16)
abbrev epH18(P:u0->u1->u2->u3->u4->u5->u6->u7->u8->u9->u10->u11->u12->u13->u14->u15->u16->u17->Prop)(t:u0×u1×u2×u3×u4×u5×u6×u7×u8×u9×u10×u11×u12×u13×u14×u15×u16×u17):Prop:=P t.1 t.2.1 t.2.2.1 t.2.2.2.1 t.2.2.2.2.1 t.2.2.2.2.2.1 t.2.2.2.2.2.2.1 t.2.2.2.2.2.2.2.1 t.2.2.2.2.2.2.2.2.1 t.2.2.2.2.2.2.2.2.2.1 t.2.2.2.2.2.2.2.2.2.2.1 t.2.2.2.2.2.2.2.2.2.2.2.1 t.2.2.2.2.2.2.2.2.2.2.2.2.1 t.2.2.2.2.2.2.2.2.2.2.2.2.2.1 t.2.2.2.2.2.2.2.2.2.2.2.2.2.2.1 t.2.2.2.2.2.2.2.2.2.2.2.2.2.2.2.1 t.2.2.2.2.2.2.2.2.2.2.2.2.2.2.2.2.1 t.2.2.2.2.2.2.2.2.2.2.2.2.2.2.2.2.2
theorem epA18{P:u0->u1->u2->u3->u4->u5->u6->u7->u8->u9->u10->u11->u12->u13->u14->u15->u16->u17->Prop}(h:P (EE ni (epH18 P)).1 (EE ni (epH18 P)).2.1 (EE ni (epH18 P)).2.2.1 (EE ni (epH18 P)).2.2.2.1 (EE ni (epH18 P)).2.2.2.2.1 (EE ni (epH18 P)).2.2.2.2.2.1 (EE ni (epH18 P)).2.2.2.2.2.2.1 (EE ni (epH18 P)).2.2.2.2.2.2.2.1 (EE ni (epH18 P)).2.2.2.2.2.2.2.2.1 (EE ni (epH18 P)).2.2.2.2.2.2.2.2.2.1 (EE ni (epH18 P)).2.2.2.2.2.2.2.2.2.2.1 (EE ni (epH18 P)).2.2.2.2.2.2.2.2.2.2.2.1 (EE ni (epH18 P)).2.2.2.2.2.2.2.2.2.2.2.2.1 (EE ni (epH18 P)).2.2.2.2.2.2.2.2.2.2.2.2.2.1 (EE ni (epH18 P)).2.2.2.2.2.2.2.2.2.2.2.2.2.2.1 (EE ni (epH18 P)).2.2.2.2.2.2.2.2.2.2.2.2.2.2.2.1 (EE ni (epH18 P)).2.2.2.2.2.2.2.2.2.2.2.2.2.2.2.2.1 (EE ni (epH18 P)).2.2.2.2.2.2.2.2.2.2.2.2.2.2.2.2.2):∀x0 x1 x2 x3 x4 x5 x6 x7 x8 x9 x10 x11 x12 x13 x14 x15 x16 x17,P x0 x1 x2 x3 x4 x5 x6 x7 x8 x9 x10 x11 x12 x13 x14 x15 x16 x17:=fun x0 x1 x2 x3 x4 x5 x6 x7 x8 x9 x10 x11 x12 x13 x14 x15 x16 x17=>epsT (Q:=epH18 P) h (x0,x1,x2,x3,x4,x5,x6,x7,x8,x9,x10,x11,x12,x13,x14,x15,x16,x17)
end
end Internal
end
set_option compiler.extract_closed false
local macro_rules
 | `(tactic|injections $z:ident $x:ident $xs*)=>let y:=Lean.mkIdent (z.getId.appendAfter "'");if xs.isEmpty then `(tactic|(generalize $z:ident = $x;clear $z))else `(tactic|(generalize Prod.fst $z = $x,Prod.snd $z = $y;clear $z;injections $y $xs*))
 | `(tactic|intros $xs*)=>`(tactic|(apply $(Lean.mkIdent (.mkSimple s!"epA{xs.size}"));generalize EE _ _=ζ;injections ζ $xs*))
 | `(tactic|injection $e with $xs*)=>`(tactic|(generalize $(Lean.mkIdent (.mkSimple s!"epX{xs.size}")) $e=ζ;revert ζ;generalize WW _ _=ζ;injections ζ $xs*))
 | `(tactic|delta $xs* at $hs*)=>let hs:Array Lean.Term:=hs.map (⟨·⟩);`(tactic|(revert $hs*;revert $xs*;intros $xs*;intro $hs*))
section
open PySem PySem.W PyProof.Rows
namespace Internal
section
inductive SeqV (c:String) (ψ φ:List Addr) (h:Heap) (len:Nat) (R:List Value->Prop) (x:Value):Prop
 |mk (a:Addr) (vs:Array Value) (n:Nat) (z:x=.ref a) (e:h.get? a=some (seqObj c vs n)) (p:a ∉ φ) (q:a ∉ ψ) (k:len<1000001) (r:R vs.toList)
inductive InstV (X:CX) (ψ φ:List Addr) (h:Heap) (c i:Nat) (x:Value):Prop
 |mk (a C dx:Addr) (z:x=.ref a) (e:h.get? a=some (instObj C dx)) (p:a ∉ φ) (q:a ∉ ψ) (k:X.clss[c]?=some C) (d:φ[i]?=some dx)
inductive RngV (ψ φ:List Addr) (h:Heap) (a b:Int) (x:Value):Prop
 |mk (r:Addr) (t u v:Tok) (z:x=.ref r) (e:h.get? r=some { cls:=.type "range",dict:=Option.none,data:=.fields #[.int a t,.int b u,.int 1 v],slots:=#[] }) (p:r ∉ φ) (q:r ∉ ψ) (k:a.natAbs<400001) (m:b.natAbs<400001)
inductive SetV (X:CX) (ψ φ:List Addr) (h:Heap) (len:Nat) (R:List Value->Prop) (x:Value):Prop
 |mk (a:Addr) (o:Obj) (es:Array (Int×Value)) (ep:Nat) (t:SetTable) (vs:List Value) (z:x=.ref a) (e:h.get? a=some o) (p:a ∉ φ) (q:a ∉ ψ) (ex:o.ExactSet) (d:o.data=.set es ep t) (f:t.fits es.size=true)
  (pl:t.plain=false\/es.size<=1) (led:X.byText=true\/t.led=true) (pm:(es.toList.map (·.2)).Perm vs) (k:len<1000) (r:R vs)
inductive ConsV (R:Value->Prop) (S:List Value->Prop) (vs:List Value):Prop
 |mk (v:Value) (ws:List Value) (z:vs=v::ws) (r:R v) (q:S ws)
mutual
noncomputable def VR(X:CX)(ψ φ:List Addr)(h:Heap):Value->AV->Prop
 |x,.none=>x=.none
 |x,.bool b=>x=.bool b
 |x,.int i=>∃t,x=.int i t
 |x,.str n=>∃y t,x=.str y t/\X.names[n]?=some y
 |x,.tup l=>SeqV "tuple" ψ φ h l.length (fun vs=>VRs X ψ φ h vs l) x
 |x,.lst l=>SeqV "list" ψ φ h l.length (fun vs=>VRs X ψ φ h vs l) x
 |x,.ref i=>∃a:Addr,x=.ref a/\φ[i]?=some a
 |x,.inst c i=>InstV X ψ φ h c i x
 |x,.rng a b=>RngV ψ φ h a b x
 |x,.sset l=>SetV X ψ φ h l.length (fun vs=>VRs X ψ φ h vs l) x
noncomputable def VRs(X:CX)(ψ φ:List Addr)(h:Heap):List Value->List AV->Prop
 |vs,[]=>vs=[]
 |vs,a::l=>ConsV (fun v=>VR X ψ φ h v a) (fun ws=>VRs X ψ φ h ws l) vs
end
section
variable{ψ φ:List Addr}{h:Heap}
theorem VR.none:VR X ψ φ h .none .none:=rfl
theorem VR.bool(b:Bool):VR X ψ φ h (.bool b) (.bool b):=rfl
theorem VR.int(i:Int)(t:Tok):VR X ψ φ h (.int i t) (.int i):=⟨t,rfl⟩
theorem VR.str{n:Nat}{x:Str}(t:Tok)(e:X.names[n]?=some x):VR X ψ φ h (.str x t) (.str n):=⟨x,t,rfl,e⟩
theorem VR.tup{a:Addr}{vs:Array Value}{n:Nat}{l:List AV}(e:h.get? a=some (seqObj "tuple" vs n))(p:a ∉ φ)(q:a ∉ ψ)(k:l.length<1000001)(r:VRs X ψ φ h vs.toList l):VR X ψ φ h (.ref a) (.tup l):=⟨a,vs,n,rfl,e,p,q,k,r⟩
theorem VR.lst{a:Addr}{vs:Array Value}{n:Nat}{l:List AV}(e:h.get? a=some (seqObj "list" vs n))(p:a ∉ φ)(q:a ∉ ψ)(k:l.length<1000001)(r:VRs X ψ φ h vs.toList l):VR X ψ φ h (.ref a) (.lst l):=⟨a,vs,n,rfl,e,p,q,k,r⟩
theorem VR.ref{a:Addr}{i:Nat}(e:φ[i]?=some a):VR X ψ φ h (.ref a) (.ref i):=⟨a,rfl,e⟩
theorem VR.inst{x C dx:Addr}{c i:Nat}(e:h.get? x=some (instObj C dx))(p:x ∉ φ)(q:x ∉ ψ)(r:X.clss[c]?=some C)(d:φ[i]?=some dx):VR X ψ φ h (.ref x) (.inst c i):=⟨x,C,dx,rfl,e,p,q,r,d⟩
theorem VR.rng{r:Addr}{a b:Int}{t u v:Tok}(e:h.get? r=some { cls:=.type "range",dict:=Option.none,data:=.fields #[.int a t,.int b u,.int 1 v],slots:=#[] })(p:r ∉ φ)(q:r ∉ ψ)(k:a.natAbs<400001)(m:b.natAbs<400001) :
  VR X ψ φ h (.ref r) (.rng a b):=⟨r,t,u,v,rfl,e,p,q,k,m⟩
theorem VRs.nil:VRs X ψ φ h [] []:=rfl
theorem VRs.cons{v:Value}{vs:List Value}{a:AV}{l:List AV}(r:VR X ψ φ h v a)(rs:VRs X ψ φ h vs l):VRs X ψ φ h (v::vs) (a::l):=⟨v,vs,rfl,r,rs⟩
end
theorem VRs.length{ψ φ h}:∀{vs:List Value}{l:List AV},VRs X ψ φ h vs l->vs.length=l.length
 |_,[],r=>congrArg List.length r
 |_,a::l,r=>by
  obtain⟨v,ws,rfl,_,q⟩:=r
  exact congrArg (·+1) q.length
structure Grow (fr φ φ':List Addr) (h h':Heap):Prop where
 pre:φ <+: φ'
 new:∀a∈φ',a∈φ\/h.get? a=Option.none
 kept:∀b o,h.get? b=some o->b ∉ φ->b ∉ fr->h'.get? b=some o
theorem Grow.refl(φ:List Addr)(h:Heap):Grow [] φ φ h h:=⟨List.prefix_refl _,fun _ q=>.inl q,fun _ _ e _ _=>e⟩
theorem Grow.more{fr fr' φ φ' h h'}(x:Grow fr φ φ' h h')(k:∀a∈fr,a∈fr'\/h.get? a=Option.none):Grow fr' φ φ' h h' :=
 ⟨x.pre,x.new,fun b o e n n'=>x.kept b o e n fun q=>(k b q).elim n' fun z=>by rw[e]at z;cases z⟩
theorem Grow.trans{fr φ φ' φ'':List Addr}{h h' h'':Heap}(x:Grow fr φ φ' h h')(y:Grow fr φ' φ'' h' h'')(hf:∀a∈fr,a∈φ''->a∈φ\/h.get? a=Option.none):Grow fr φ φ'' h h'':=by
 refine⟨x.pre.trans y.pre,fun a ha=>?_,fun b o e hb hr=>?_⟩
 .rcases y.new a ha with q|q
  .exact x.new a q
  .by_cases hr:a∈fr
   .exact hf a hr ha
   .by_cases hm:a∈φ
    .exact .inl hm
    .right
     cases e:h.get? a with
     |none=>rfl
     |some o=>rw[x.kept a o e hm hr]at q;cases q
 .have hb':b ∉ φ':=fun q=>by
   rcases x.new b q with z|z
   .exact hb z
   .rw [e]at z;cases z
  exact y.kept b o (x.kept b o e hb hr) hb' hr
theorem Grow.trans0{φ φ' φ'':List Addr}{h h' h'':Heap}(x:Grow [] φ φ' h h')(y:Grow [] φ' φ'' h' h''):Grow [] φ φ'' h h'':=x.trans y fun _ q=>qA5 q
theorem Grow.out{fr φ φ':List Addr}{h h':Heap}(x:Grow fr φ φ' h h'){a:Addr}{o:Obj}(e:h.get? a=some o)(n:a ∉ φ):a ∉ φ':=fun q=>by
 rcases x.new a q with z|z
 .exact n z
 .rw [e]at z;cases z
theorem qBx{φ φ':List Addr}(x:φ <+: φ'){i:Nat}{a:Addr}(e:φ[i]?=some a):φ'[i]?=some a:=by
 obtain⟨t,rfl⟩:=x
 rw[List.getElem?_append_left (List.getElem?_eq_some_iff.mp e).1];exact e
mutual
theorem VR.move{ψ ψ' φ φ':List Addr}{h h':Heap}(hp:∀(i:Nat) (a:Addr),φ[i]?=some a->φ'[i]?=some a)
(hk:∀b o,h.get? b=some o->b ∉ φ->b ∉ ψ->h'.get? b=some o/\b ∉ φ'/\b ∉ ψ'):∀{a:AV}{v:Value},VR X ψ φ h v a->VR X ψ' φ' h' v a
 |.none,_,r=>r
 |.bool _,_,r=>r
 |.int _,_,r=>r
 |.str _,_,r=>r
 |.tup l,_,r=>by obtain⟨a,vs,n,z,e,p,q,k,r⟩:=r;have y:=hk _ _ e p q;exact⟨a,vs,n,z,y.1,y.2.1,y.2.2,k,VRs.move hp hk r⟩
 |.lst l,_,r=>by obtain⟨a,vs,n,z,e,p,q,k,r⟩:=r;have y:=hk _ _ e p q;exact⟨a,vs,n,z,y.1,y.2.1,y.2.2,k,VRs.move hp hk r⟩
 |.ref i,_,r=>by obtain⟨a,z,e⟩:=r;exact⟨a,z,hp _ _ e⟩
 |.inst c i,_,r=>by obtain⟨a,C,dx,z,e,p,q,k,r⟩:=r;have y:=hk _ _ e p q;exact⟨a,C,dx,z,y.1,y.2.1,y.2.2,k,hp _ _ r⟩
 |.rng _ _,_,r=>by obtain⟨a,t,u,v,z,e,p,q,k,m⟩:=r;have y:=hk _ _ e p q;exact⟨a,t,u,v,z,y.1,y.2.1,y.2.2,k,m⟩
 |.sset l,_,r=>by obtain⟨a,o,es,ep,t,vs,z,e,p,q,a1,a2,a3,a4,a5,a6,a7,r⟩:=r;have y:=hk _ _ e p q;exact⟨a,o,es,ep,t,vs,z,y.1,y.2.1,y.2.2,a1,a2,a3,a4,a5,a6,a7,VRs.move hp hk r⟩
theorem VRs.move{ψ ψ' φ φ':List Addr}{h h':Heap}(hp:∀(i:Nat) (a:Addr),φ[i]?=some a->φ'[i]?=some a)
(hk:∀b o,h.get? b=some o->b ∉ φ->b ∉ ψ->h'.get? b=some o/\b ∉ φ'/\b ∉ ψ'):∀{l:List AV}{vs:List Value},VRs X ψ φ h vs l->VRs X ψ' φ' h' vs l
 |[],_,r=>r
 |a::l,_,r=>by obtain⟨v,ws,z,r,q⟩:=r;exact⟨v,ws,z,VR.move hp hk r,VRs.move hp hk q⟩
end
theorem VR.grow{fr ψ φ φ':List Addr}{h h':Heap}(g:Grow fr φ φ' h h')(hf:∀a∈fr,a∈ψ){v:Value}{a:AV}(r:VR X ψ φ h v a):VR X ψ φ' h' v a :=
 VR.move (fun _ _ e=>qBx g.pre e) (fun b o e n m=>⟨g.kept b o e n fun q=>m (hf b q),g.out e n,m⟩) r
theorem VRs.grow{fr ψ φ φ':List Addr}{h h':Heap}(g:Grow fr φ φ' h h')(hf:∀a∈fr,a∈ψ){v:List Value}{a:List AV}(r:VRs X ψ φ h v a):VRs X ψ φ' h' v a :=
 VRs.move (fun _ _ e=>qBx g.pre e) (fun b o e n m=>⟨g.kept b o e n fun q=>m (hf b q),g.out e n,m⟩) r
theorem VR.grow0{ψ φ φ':List Addr}{h h':Heap}(g:Grow [] φ φ' h h'){v:Value}{a:AV}(r:VR X ψ φ h v a):VR X ψ φ' h' v a:=r.grow g fun _ q=>qA5 q
theorem VRs.grow0{ψ φ φ':List Addr}{h h':Heap}(g:Grow [] φ φ' h h'){v:List Value}{a:List AV}(r:VRs X ψ φ h v a):VRs X ψ φ' h' v a:=r.grow g fun _ q=>qA5 q
theorem VR.priv{ψ ψ' φ:List Addr}{h:Heap}(k:∀a∈ψ',a∈ψ\/h.get? a=Option.none){v:Value}{a:AV}(r:VR X ψ φ h v a):VR X ψ' φ h v a :=
 VR.move (fun _ _ e=>e) (fun b o e n m=>⟨e,n,fun q=>(k b q).elim m fun z=>by rw[e]at z;cases z⟩) r
theorem VRs.priv{ψ ψ' φ:List Addr}{h:Heap}(k:∀a∈ψ',a∈ψ\/h.get? a=Option.none){v:List Value}{a:List AV}(r:VRs X ψ φ h v a):VRs X ψ' φ h v a :=
 VRs.move (fun _ _ e=>e) (fun b o e n m=>⟨e,n,fun q=>(k b q).elim m fun z=>by rw[e]at z;cases z⟩) r
inductive ListO (X:CX) (ψ φ:List Addr) (h:Heap) (a:Addr) (l:List AV):Prop
 |mk (vs:Array Value) (n:Nat) (e:h.get? a=some (seqObj "list" vs n)) (k:l.length<1000001) (r:VRs X ψ φ h vs.toList l)
inductive DictIO (X:CX) (prog:Program) (w:World) (ψ φ:List Addr) (h:Heap) (a:Addr) (kvs:List (Int×AV)):Prop
 |mk (ks:List Int) (vs:List Value) (l:List AV) (z:kvs=ks.zip l) (e:h.DictOf (intKind prog w) a (ks.zip vs)) (p:ks.length=vs.length) (k:ks.length<1000001) (r:VRs X ψ φ h vs l)
inductive DictSO (X:CX) (prog:Program) (w:World) (ψ φ:List Addr) (h:Heap) (a:Addr) (kvs:List (Nat×AV)):Prop
 |mk (ks:List Nat) (ss:List Str) (vs:List Value) (l:List AV) (z:kvs=ks.zip l) (e:h.DictOf (PySem.strKind prog w) a (ss.zip vs)) (q:ks.map (X.names[·]?)=ss.map some) (p:ss.length=vs.length) (k:ks.length<1000001) (r:VRs X ψ φ h vs l)
inductive NsO (X:CX) (ψ φ:List Addr) (h:Heap) (a:Addr) (fs:List (Nat×AV)):Prop
 |mk (es:List DictEntry) (n:Nat) (e:h.get? a=some (dictOf es n)) (p:es.length<=fs.length) (q:es.any (·.refKey)=false) (r:∀k x,X.names[k]?=some x->match fs.lookup k with
   |some v=>∃y,getL x es=some (some y)/\VR X ψ φ h y v
   |none=>getL x es=some none)
noncomputable def ObjR(X:CX)(prog:Program)(w:World)(ψ φ:List Addr)(h:Heap)(a:Addr):AObj->Prop
 |.list l=>ListO X ψ φ h a l
 |.dictI kvs=>DictIO X prog w ψ φ h a kvs
 |.dictS kvs=>DictSO X prog w ψ φ h a kvs
 |.ns fs=>NsO X ψ φ h a fs
section
variable{ψ φ:List Addr}{h:Heap}{a:Addr}
theorem ObjR.list{vs:Array Value}{n:Nat}{l:List AV}(e:h.get? a=some (seqObj "list" vs n))(k:l.length<1000001)(r:VRs X ψ φ h vs.toList l):ObjR X prog w ψ φ h a (.list l):=⟨vs,n,e,k,r⟩
theorem ObjR.dictI{ks:List Int}{vs:List Value}{l:List AV}(e:h.DictOf (intKind prog w) a (ks.zip vs))(p:ks.length=vs.length)(k:ks.length<1000001)(r:VRs X ψ φ h vs l):ObjR X prog w ψ φ h a (.dictI (ks.zip l)):=⟨ks,vs,l,rfl,e,p,k,r⟩
theorem ObjR.dictS{ks:List Nat}{ss:List Str}{vs:List Value}{l:List AV}(e:h.DictOf (PySem.strKind prog w) a (ss.zip vs))(q:ks.map (X.names[·]?)=ss.map some)(p:ss.length=vs.length)(k:ks.length<1000001)(r:VRs X ψ φ h vs l) :
  ObjR X prog w ψ φ h a (.dictS (ks.zip l)):=⟨ks,ss,vs,l,rfl,e,q,p,k,r⟩
theorem ObjR.ns{es:List DictEntry}{n:Nat}{fs:List (Nat×AV)}(e:h.get? a=some (dictOf es n))(p:es.length<=fs.length)(q:es.any (·.refKey)=false)(r:∀k x,X.names[k]?=some x->match fs.lookup k with
   |some v=>∃y,getL x es=some (some y)/\VR X ψ φ h y v
   |none=>getL x es=some none):ObjR X prog w ψ φ h a (.ns fs):=⟨es,n,e,p,q,r⟩
end
structure SR (X:CX) (prog:Program) (w:World) (base:Heap) (ψ φ:List Addr) (H:AHeap) (h:Heap):Prop where
 keep:∀b o,base.get? b=some o->h.get? b=some o
 len:φ.length=H.length
 nodup:φ.Nodup
 fresh:∀a∈φ,base.get? a=Option.none/\3<a/\a ∉ ψ
 priv:∀a∈ψ,base.get? a=Option.none
 stand:∀a∈ψ,∃o,h.get? a=some o
 obj:∀(i:Nat) (a:Addr) (o:AObj),φ[i]?=some a->H[i]?=some o->ObjR X prog w ψ φ h a o
theorem ObjR.there{ψ φ h a}:∀{o:AObj},ObjR X prog w ψ φ h a o->∃ob,h.get? a=some ob
 |.list _,x=>by obtain⟨_,_,e,_⟩:=x;exact⟨_,e⟩
 |.dictI _,x=>by obtain⟨_,_,_,_,⟨o,_,_,e,_⟩,_⟩:=x;exact⟨_,e⟩
 |.dictS _,x=>by obtain⟨_,_,_,_,_,⟨o,_,_,e,_⟩,_⟩:=x;exact⟨_,e⟩
 |.ns _,x=>by obtain⟨_,_,e,_⟩:=x;exact⟨_,e⟩
theorem SR.there{ψ φ H h}(x:SR X prog w base ψ φ H h){a:Addr}(m:a∈φ):∃o,h.get? a=some o:=by
 obtain⟨i,hi,e⟩:=List.getElem_of_mem m
 have hi':i<H.length:=by rw[<-x.len];exact hi
 exact(x.obj i a H[i] (by rw[List.getElem?_eq_getElem hi,e]) (List.getElem?_eq_getElem hi')).there
theorem ObjR.move{ψ ψ' φ φ':List Addr}{h h':Heap}{a:Addr}{o:AObj}(x:ObjR X prog w ψ φ h a o)(hp:∀(i:Nat) (a:Addr),φ[i]?=some a->φ'[i]?=some a)
 (hk:∀b o,h.get? b=some o->b ∉ φ->b ∉ ψ->h'.get? b=some o/\b ∉ φ'/\b ∉ ψ')(e:∀ob,h.get? a=some ob->h'.get? a=some ob):ObjR X prog w ψ' φ' h' a o:=by
 cases o with
 |list=>obtain⟨vs,n,p,q,r⟩:=x;exact⟨vs,n,e _ p,q,VRs.move hp hk r⟩
 |dictI=>obtain⟨ks,vs,l,z,p,q,r,s⟩:=x;exact⟨ks,vs,l,z,p.at e,q,r,VRs.move hp hk s⟩
 |dictS=>obtain⟨ks,ss,vs,l,z,p,q,r,s,t⟩:=x;exact⟨ks,ss,vs,l,z,p.at e,q,r,s,VRs.move hp hk t⟩
 |ns fs =>
  obtain⟨es,n,p,q,z,r⟩:=x
  refine⟨es,n,e _ p,q,z,fun k x hk'=>?_⟩
  have:=r k x hk'
  cases y:fs.lookup k with
  |none=>rw[y]at this;exact this
  |some v=>rw[y]at this;obtain⟨y,a,b⟩:=this;exact⟨y,a,VR.move hp hk b⟩
theorem ObjR.grow{fr ψ φ φ' h h' a o}(x:ObjR X prog w ψ φ h a o)(g:Grow fr φ φ' h h')(hf:∀a∈fr,a∈ψ)(e:∀ob,h.get? a=some ob->h'.get? a=some ob):ObjR X prog w ψ φ' h' a o :=
 x.move (fun _ _ e=>qBx g.pre e) (fun b o e n m=>⟨g.kept b o e n fun q=>m (hf b q),g.out e n,m⟩) e
theorem SR.fewer{ψ ψ' φ H h}(x:SR X prog w base ψ φ H h)(k:∀a∈ψ',a∈ψ):SR X prog w base ψ' φ H h :=
 ⟨x.keep,x.len,x.nodup,fun a m=>⟨(x.fresh a m).1,(x.fresh a m).2.1,fun q=>(x.fresh a m).2.2 (k a q)⟩,fun a q=>x.priv a (k a q),fun a q=>x.stand a (k a q),fun i a o e e' =>
  (x.obj i a o e e').move (fun _ _ e=>e) (fun b o e n m=>⟨e,n,fun q=>m (k b q)⟩) fun _ e=>e⟩
theorem SR.more{ψ ψ' φ H h₀ h}(x:SR X prog w base ψ φ H h₀)(g:∀b o,h₀.get? b=some o->h.get? b=some o)(k:∀a∈ψ',a∈ψ\/(h₀.get? a=Option.none/\∃o,h.get? a=some o)):SR X prog w base ψ' φ H h:=by
 have out:∀b o,h₀.get? b=some o->b ∉ ψ->b ∉ ψ':=fun b o e n q=>(k b q).elim n fun z=>by rw[e]at z;cases z.1
 refine⟨fun b o e=>g b o (x.keep b o e),x.len,x.nodup,fun a m=>⟨(x.fresh a m).1,(x.fresh a m).2.1,?_⟩,fun a q=>?_,fun a q=>?_,fun i a o e e' =>
  (x.obj i a o e e').move (fun _ _ e=>e) (fun b o e n m=>⟨g _ _ e,n,out b o e m⟩) fun ob e=>g _ _ e⟩
 .obtain ⟨o,e⟩:=x.there m
  exact out a o e (x.fresh a m).2.2
 .rcases k a q with z|z
  .exact x.priv a z
  .cases e:base.get? a with
   |none=>rfl
   |some o=>rw[x.keep a o e]at z;cases z.1
 .rcases k a q with z|z
  .obtain ⟨o,e⟩:=x.stand a z;exact⟨o,g _ _ e⟩
  .exact z.2
structure Post (X:CX) (prog:Program) (w:World) (base:Heap) (fr ψ φ φ':List Addr) (H':AHeap) (s s':Shared):Prop where
 same:s'={ s with heap:=s'.heap,toks:=s'.toks,drawn:=s'.drawn }
 grow:Grow fr φ φ' s.heap s'.heap
 sr:SR X prog w base ψ φ' H' s'.heap
theorem Post.refl{ψ φ H}{s:Shared}(x:SR X prog w base ψ φ H s.heap):Post X prog w base [] ψ φ φ H s s:=⟨rfl,Grow.refl _ _,x⟩
theorem Post.trans{ψ φ φ' φ'' H' H''}{s s' s'':Shared}(x:Post X prog w base [] ψ φ φ' H' s s')(y:Post X prog w base [] ψ φ' φ'' H'' s' s''):Post X prog w base [] ψ φ φ'' H'' s s'':=by
 refine⟨?_,x.grow.trans0 y.grow,y.sr⟩
 rw[y.same,x.same]
theorem Post.transF{fr ψ φ φ' φ'' H' H''}{s s' s'':Shared}(x:Post X prog w base fr ψ φ φ' H' s s')(y:Post X prog w base fr ψ φ' φ'' H'' s' s'')(hf:∀a∈fr,a∈ψ):Post X prog w base fr ψ φ φ'' H'' s s'':=by
 refine⟨?_,x.grow.trans y.grow fun a q m=>absurd (hf a q) (y.sr.fresh a m).2.2,y.sr⟩
 rw[y.same,x.same]
theorem Grow.of_keep{φ:List Addr}{h h':Heap}(k:∀b o,h.get? b=some o->h'.get? b=some o):Grow [] φ φ h h':=⟨List.prefix_refl _,fun _ q=>.inl q,fun b o e _ _=>k b o e⟩
theorem SR.grown{ψ φ H h h'}(x:SR X prog w base ψ φ H h)(k:∀b o,h.get? b=some o->h'.get? b=some o):SR X prog w base ψ φ H h' :=
 ⟨fun b o e=>k _ _ (x.keep b o e),x.len,x.nodup,x.fresh,x.priv,fun a q=>let⟨o,e⟩:=x.stand a q;⟨o,k _ _ e⟩,fun i a o e e'=>(x.obj i a o e e').grow (Grow.of_keep k) (fun _ q=>qA5 q) fun ob q=>k _ _ q⟩
theorem Post.grown{ψ φ H}{s:Shared}{h':Heap}{tk:Nat}(x:SR X prog w base ψ φ H s.heap)(k:∀b o,s.heap.get? b=some o->h'.get? b=some o) :
  Post X prog w base [] ψ φ φ H s { s with heap:=h',toks:=tk }:=⟨rfl,Grow.of_keep k,x.grown k⟩
theorem Post.tok{ψ φ H}{s:Shared}(x:SR X prog w base ψ φ H s.heap)(t:Nat):Post X prog w base [] ψ φ φ H s { s with toks:=t }:=⟨rfl,Grow.refl _ _,x⟩
theorem SR.privately{ψ φ H}{h h':Heap}(x:SR X prog w base ψ φ H h)(k:∀b o,b ∉ ψ->h.get? b=some o->h'.get? b=some o)(ks:∀a∈ψ,∃o,h'.get? a=some o):SR X prog w base ψ φ H h' :=
 ⟨fun b o e=>k b o (fun q=>by rw[x.priv b q]at e;cases e) (x.keep b o e),x.len,x.nodup,x.fresh,x.priv,ks,fun i a o e e' =>
  (x.obj i a o e e').move (fun _ _ e=>e) (fun b o e n m=>⟨k b o m e,n,m⟩) fun ob q=>k _ _ (x.fresh a (List.mem_of_getElem? e)).2.2 q⟩
theorem qAp(h:Heap)(o:Obj):∀b x,h.get? b=some x->(h.push o).get? b=some x:=fun _ _ e=>Heap.get?_push_of_some _ e
theorem SR.turned{ψ φ H}{h h':Heap}{i:Nat}{a:Addr}{o:AObj}(x:SR X prog w base ψ φ H h)(hi:φ[i]?=some a)(k:∀b ob,b≠a->h.get? b=some ob->h'.get? b=some ob)
 (ho:ObjR X prog w ψ φ h' a o):SR X prog w base ψ φ (H.set i o) h'/\Grow [] φ φ h h':=by
 delta ψ φ H h h' i a o at x hi k ho
 have hm:a∈φ:=List.mem_of_getElem? hi
 have hil:i<φ.length:=(List.getElem?_eq_some_iff.mp hi).1
 have g:Grow [] φ φ h h':=⟨List.prefix_refl _,fun _ q=>.inl q,fun b ob e n _=>k b ob (fun z=>n (z▸hm)) e⟩
 refine⟨⟨fun b ob e=>k b ob (fun z=>?_) (x.keep b ob e),by rw[List.length_set];exact x.len,x.nodup,x.fresh,x.priv,(by intros p;intro q;exact let⟨o,e⟩:=x.stand p q;⟨o,k p o (fun z=>(x.fresh a hm).2.2 (z▸q)) e⟩),?_⟩,g⟩
 .rw [z,(x.fresh a hm).1]at e;cases e
 .intros j b ob;intro e e'
  rw[List.getElem?_set]at e'
  by_cases q:i=j
  .subst q
   rw[if_pos rfl,if_pos (by rw[<-x.len];exact hil)]at e'
   cases e'
   rw[hi]at e;cases e;exact ho
  .rw [if_neg q]at e'
   have hb:b≠a:=fun z=>by
    subst z
    exact q ((List.getElem?_inj hil x.nodup).mp (hi.trans e.symm))
   exact(x.obj j b ob e e').grow g (fun _ q=>qA5 q) fun ob'=>k b ob' hb
theorem Post.turned{ψ φ H}{s:Shared}{h':Heap}{tk:Nat}{i:Nat}{a:Addr}{o:AObj}(x:SR X prog w base ψ φ H s.heap)(hi:φ[i]?=some a)
 (k:∀b ob,b≠a->s.heap.get? b=some ob->h'.get? b=some ob)(ho:ObjR X prog w ψ φ h' a o):Post X prog w base [] ψ φ φ (H.set i o) s { s with heap:=h',toks:=tk } :=
 let⟨p,q⟩:=x.turned hi k ho;⟨rfl,q,p⟩
theorem SR.tracked{ψ φ H}{h h₀:Heap}{a:Addr}{o:AObj}(x:SR X prog w base ψ φ H h₀)(hb:base.get? a=Option.none)(h3:3<a)
 (h0:h₀.get? a=Option.none)(k:∀b ob,h₀.get? b=some ob->h.get? b=some ob)(ho:ObjR X prog w ψ (φ++[a]) h a o) :
  SR X prog w base ψ (φ++[a]) (H++[o]) h/\Grow [] φ (φ++[a]) h₀ h:=by
 delta ψ φ H h h₀ a o at x hb h3 h0 k ho
 have hp:a ∉ ψ:=fun m=>by(injection (x.stand a m)with o;intro e);rw[h0]at e;cases e
 have hn:a ∉ φ:=fun m=>by(injection (x.there m)with o;intro e);rw[h0]at e;cases e
 have g:Grow [] φ (φ++[a]) h₀ h:=⟨List.prefix_append _ _,by
   intros b;intro q
   rcases List.mem_append.mp q with q|q
   .exact .inl q
   .rw [List.mem_singleton.mp q];exact .inr h0,fun b ob e _ _=>k b ob e⟩
 refine⟨⟨fun b ob e=>k b ob (x.keep b ob e),by simp[x.len],?_,?_,x.priv,fun p q=>let⟨o,e⟩:=x.stand p q;⟨o,k p o e⟩,?_⟩,g⟩
 .rw [List.nodup_append];exact⟨x.nodup,by simp,by intros b;intro hb;intros c;intro hc;rw[List.mem_singleton]at hc;rw[hc];exact fun z=>hn (z▸hb)⟩
 .intros b;intro q
  rcases List.mem_append.mp q with q|q
  .exact x.fresh b q
  .rw [List.mem_singleton.mp q];exact⟨hb,h3,hp⟩
 .intros i b ob;intro e e'
  by_cases hi:i<φ.length
  .rw [List.getElem?_append_left hi]at e
   rw[List.getElem?_append_left (by rw[<-x.len];exact hi)]at e'
   exact(x.obj i b ob e e').grow g (fun _ q=>qA5 q) fun ob' q=>k _ _ q
  .rw [List.getElem?_append_right (Nat.le_of_not_lt hi)]at e
   rw[List.getElem?_append_right (by rw[<-x.len];exact Nat.le_of_not_lt hi),<-x.len]at e'
   (injection (⟨_,rfl⟩:∃j,i-φ.length=j)with j;intro hj)
   rw[hj]at e e'
   cases j with
   |zero=>cases e;cases e';exact ho
   |succ j=>cases e
end
structure GW (X:CX) (base:Heap):Prop where
 K:X.K.In base
 nolim:base.NoLimit
 g:∃mg,base.Ns mainGlobals mg
 b:∃mb,base.Ns builtinsNs mb/\∀x:Str,x ≠ "__name__"->mb x=bootBuiltins x
 nd:X.names.Nodup
 ok:X.names.all PyData.strOk=true
structure Room (d:Nat) (A:Around):Prop where
 handled:A.handled=none
 depth:A.depth+2*d+2<recursionLimit
 units:A.units+8*d+200<cLine
theorem Room.u{d A}(r:Room d A)(k:Nat)(h:k<=200):A.units+k<cLine:=Nat.lt_of_le_of_lt (Nat.add_le_add (Nat.le_add_right _ (8*d)) h) r.units
theorem Room.u0{d A}(r:Room d A):A.units<cLine:=r.u 0 (by decide)
theorem qA1{α:Type}{M:Model}{A:Around}{t:Sem α}{Q Q':α->Shared->Prop}{E:Value->Shared->Prop}{s:Shared}(h:wpAny M A t Q E s)(k:∀a s,Q a s->Q' a s):wpAny M A t Q' E s:=wpAny_mono h k fun _ _ e=>e
mutual
noncomputable def toDat(N:List Str):AV->Dat
 |.none=>.none
 |.bool b=>.bool b
 |.int i=>.int i
 |.str n=>.str (N.getD n (PySem.Str.ofString ""))
 |.tup l=>.tuple (qC1 N l)
 |.lst l=>.list (qC1 N l)
 |_=>.none
noncomputable def qC1(N:List Str):List AV->List Dat
 |[]=>[]
 |a::r=>toDat N a::qC1 N r
end
theorem qFN(N:List Str):∀l,qC1 N l=l.map (toDat N)
 |[]=>rfl
 |a::r=>congrArg (List.cons (toDat N a)) (qFN N r)
noncomputable def okIds(N:List Str):Nat->AV->Prop
 | 0,a=>(match a with|.str n=>n<N.length|_=>True)
 |k+1,a=>(match a with|.str n=>n<N.length|.tup l=>∀a∈l,okIds N k a|.lst l=>∀a∈l,okIds N k a|_=>True)
theorem qLI{N:List Str}{n:Nat}{x d:Str}(h:N[n]?=some x):N.getD n d=x:=by
 rw[List.getD_eq_getElem?_getD,h];rfl
theorem qI1{N:List Str}{n:Nat}(d:Str)(h:n<N.length):N.getD n d=N[n]:=qLI (List.getElem?_eq_getElem h)
mutual
noncomputable def ofDat(N:List Str):Dat->AV
 |.int i=>.int i
 |.str x=>.str (N.idxOf x)
 |.tuple l=>.tup (qIW N l)
 |.list l=>.lst (qIW N l)
 |_=>.none
noncomputable def qIW(N:List Str):List Dat->List AV
 |[]=>[]
 |d::r=>ofDat N d::qIW N r
end
theorem qEd{N:List Str}{k:Nat}(ih:∀a,qAM k a=true->okIds N k a->ofDat N (toDat N a)=a):∀l:List AV,(∀a∈l,qAM k a=true)->(∀a∈l,okIds N k a)->qIW N (qC1 N l)=l
 |[],_,_=>rfl
 |a::r,h1,h2=>congr (congrArg List.cons (ih a (h1 a (.head _)) (h2 a (.head _)))) (qEd ih r (fun x q=>h1 x (.tail _ q)) fun x q=>h2 x (.tail _ q))
theorem qII{N:List Str}(nd:N.Nodup){n:Nat}(h:n<N.length):N.idxOf (N.getD n (PySem.Str.ofString ""))=n:=by
 rw[qI1 _ h]
 have m:=List.idxOf_lt_length_of_mem (List.getElem_mem h)
 exact(List.getElem_inj nd).mp (List.getElem_idxOf m)
theorem qEE{N:List Str}(nd:N.Nodup):∀(k:Nat) (a:AV),qAM k a=true->okIds N k a->ofDat N (toDat N a)=a
 | 0,a,h,o=>by
  induction a using AV.casesOn with
  |none|int=>rfl
  |str n=>exact congrArg AV.str (qII nd o)
  |_=>exact nomatch h
 |k+1,a,h,o=>by
  induction a using AV.casesOn with
  |none|int=>rfl
  |str n=>exact congrArg AV.str (qII nd o)
  |tup l=>exact congrArg AV.tup (qEd (qEE nd k) l (List.all_eq_true.mp h) o)
  |lst l=>exact congrArg AV.lst (qEd (qEE nd k) l (List.all_eq_true.mp h) o)
  |_=>exact nomatch h
theorem qGh{N:List Str}(nd:N.Nodup)(n k:Nat)(a b:AV)(ha:qAM n a=true)(hb:qAM k b=true)(oa:okIds N n a)(ob:okIds N k b):toDat N a=toDat N b↔a=b :=
 ⟨fun e=>by rw[<-qEE nd n a ha oa,e,qEE nd k b hb ob],fun e=>congrArg _ e⟩
theorem qKa{N:List Str}{k:Nat}(ih:∀a,qAM k a=true->okIds N k a->kqdOk k (toDat N a)=true):∀l:List AV,(∀a∈l,qAM k a=true)->(∀a∈l,okIds N k a)->(qC1 N l).all (kqdOk k)=true
 |[],_,_=>rfl
 |a::r,h1,h2=>Bool.and_eq_true_iff.mpr ⟨ih a (h1 a (.head _)) (h2 a (.head _)),qKa ih r (fun x q=>h1 x (.tail _ q)) fun x q=>h2 x (.tail _ q)⟩
theorem qBG{N:List Str}(ok:N.all PyData.strOk=true):∀(n:Nat) (a:AV),qAM n a=true->okIds N n a->kqdOk n (toDat N a)=true
 | 0,a,h,o=>by
  induction a using AV.casesOn with
  |none|int=>rfl
  |str n=>exact(congrArg PyData.strOk (qI1 _ o)).trans (List.all_eq_true.mp ok _ (List.getElem_mem o))
  |_=>exact nomatch h
 |k+1,a,h,o=>by
  induction a using AV.casesOn with
  |none|int=>rfl
  |str n=>exact(congrArg PyData.strOk (qI1 _ o)).trans (List.all_eq_true.mp ok _ (List.getElem_mem o))
  |tup l=>exact qKa (qBG ok k) l (List.all_eq_true.mp h) o
  |lst l=>exact qKa (qBG ok k) l (List.all_eq_true.mp h) o
  |_=>exact nomatch h
theorem VRs.mem{ψ φ h}{a:AV}:∀{l:List AV}{vs:List Value},VRs X ψ φ h vs l->a∈l->∃v,v∈vs/\VR X ψ φ h v a
 |b::l,_,r,m=>by
  obtain⟨v,ws,rfl,r,q⟩:=r
  cases m with
  |head=>exact⟨v,.head _,r⟩
  |tail _ m=>obtain⟨u,p,r⟩:=q.mem m;exact⟨u,.tail _ p,r⟩
theorem VR.okIds{ψ φ h}:∀(n:Nat) {a:AV}{v:Value},VR X ψ φ h v a->Internal.okIds X.names n a
 | 0,a,v,r=>by
  induction a using AV.casesOn with
  |str n=>obtain⟨_,_,_,e⟩:=r;exact(List.getElem?_eq_some_iff.mp e).1
  |_=>trivial
 |k+1,a,v,r=>by
  induction a using AV.casesOn with
  |str n=>obtain⟨_,_,_,e⟩:=r;exact(List.getElem?_eq_some_iff.mp e).1
  |tup l=>obtain⟨_,_,_,_,_,_,_,_,r⟩:=r;exact fun a m=>(r.mem m).elim fun _ q=>VR.okIds k q.2
  |lst l=>obtain⟨_,_,_,_,_,_,_,_,r⟩:=r;exact fun a m=>(r.mem m).elim fun _ q=>VR.okIds k q.2
  |_=>trivial
theorem VRs.okIds{ψ φ h}(n:Nat){vs:List Value}{l:List AV}(r:VRs X ψ φ h vs l):∀a∈l,Internal.okIds X.names n a:=fun _ m=>(r.mem m).elim fun _ q=>VR.okIds n q.2
theorem qCz{ψ φ h}{n:Nat}(ih:∀{a:AV}{v:Value},VR X ψ φ h v a->qAM n a=true->∃as,Reads h v (kqdP (toDat X.names a)) as):∀{l:List AV}{vs:List Value},VRs X ψ φ h vs l->(∀a∈l,qAM n a=true)->∃as,ReadsAll h vs (kqdPs (qC1 X.names l)) as
 |[],_,r,_=>by cases r;exact⟨_,.nil⟩
 |a::l,_,r,c=>by
  obtain⟨v,ws,rfl,r,q⟩:=r
  obtain⟨as,p⟩:=ih r (c _ (.head _))
  obtain⟨bs,q⟩:=qCz ih q fun x m=>c x (.tail _ m)
  exact⟨_,.cons p q⟩
theorem qGp{ψ φ h}{n:Nat}{v:Value}(r:VR X ψ φ h v (.str n)):∃as,Reads h v (kqdP (toDat X.names (.str n))) as:=by
 obtain⟨y,t,rfl,e⟩:=r
 exact⟨_,by show Reads h _ (.str (X.names.getD n _)) _;rw[qLI e];exact .str y t⟩
theorem VR.reads{ψ φ h}:∀(n:Nat) {a:AV}{v:Value},VR X ψ φ h v a->qAM n a=true->∃as,Reads h v (kqdP (toDat X.names a)) as
 | 0,a,v,r,c=>by
  induction a using AV.casesOn with
  |none=>cases r;exact⟨_,.none⟩
  |int i=>obtain⟨t,rfl⟩:=r;exact⟨_,.int i t⟩
  |str n=>exact qGp r
  |_=>exact nomatch c
 |k+1,a,v,r,c=>by
  induction a using AV.casesOn with
  |none=>cases r;exact⟨_,.none⟩
  |int i=>obtain⟨t,rfl⟩:=r;exact⟨_,.int i t⟩
  |str n=>exact qGp r
  |tup l =>
   obtain⟨a,vs,n,rfl,e,_,_,_,r⟩:=r
   obtain⟨as,q⟩:=qCz (VR.reads k) r (List.all_eq_true.mp c)
   exact⟨_,.tuple e rfl rfl q⟩
  |lst l =>
   obtain⟨a,vs,n,rfl,e,_,_,_,r⟩:=r
   obtain⟨as,q⟩:=qCz (VR.reads k) r (List.all_eq_true.mp c)
   exact⟨_,.list e rfl rfl q⟩
  |_=>exact nomatch c
theorem VRs.reads{ψ φ h}(n:Nat){vs:List Value}{l:List AV}(r:VRs X ψ φ h vs l)(c:∀a∈l,qAM n a=true):∃as,ReadsAll h vs (kqdPs (qC1 X.names l)) as:=qCz (VR.reads n) r c
structure Is (X:CX) (h:Heap) (v:Value) (a:AV):Prop where
 reads:∃as,Reads h v (kqdP (toDat X.names a)) as
 ok:okIds X.names 8 a
theorem qL8(G:GW X base){h:Heap}{x y:Value}{a b:AV}(ia:Is X h x a)(ib:Is X h y b)(ca:a.clean=true)(cb:b.clean=true) :
  PyData.eqv (kqdP (toDat X.names a)) (kqdP (toDat X.names b))=a.beq b/\SeqAt.shaped (kqdP (toDat X.names a))=true/\SeqAt.shaped (kqdP (toDat X.names b))=true:=by
 have oka:=qBG G.ok 8 a ca ia.ok
 have okb:=qBG G.ok 8 b cb ib.ok
 have la:=kqd_lay 8 _ oka
 have lb:=kqd_lay 8 _ okb
 have q:=kqd_eqv 8 _ _ 8 oka okb
 rw[qGh G.nd 8 8 a b ca cb ia.ok ib.ok,<-AV.beq_iff]at q
 refine⟨Bool.eq_iff_iff.mpr q,?_,?_⟩
 .unfold SeqAt.shaped;rw[la.1,Bool.true_and];exact decide_eq_true (Nat.le_trans la.2 (by decide))
 .unfold SeqAt.shaped;rw[lb.1,Bool.true_and];exact decide_eq_true (Nat.le_trans lb.2 (by decide))
theorem qN4(G:GW X base){A:Around}{E:Value->Shared->Prop}{s:Shared}{x y:Value}{a b:AV}{d:Nat}{Q:Value->Shared->Prop}(R:Room d A)
 (ia:Is X s.heap x a)(ib:Is X s.heap y b)(ca:a.clean=true)(cb:b.clean=true)(h:Q (.bool (a.beq b)) s):wpAny (model prog w) A (compareOp .Eq x y) Q E s:=by
 obtain⟨as,ra⟩:=ia.reads
 obtain⟨bs,rb⟩:=ib.reads
 have z:=qL8 G ia ib ca cb
 exact eq_dataH ra rb z.2.1 z.2.2 (R.u 64 (by decide)) (by rw[z.1];exact h)
theorem qMl(G:GW X base){A:Around}{E:Value->Shared->Prop}{s:Shared}{x y:Value}{a b:AV}{d:Nat}{Q:Value->Shared->Prop}(R:Room d A)
 (ia:Is X s.heap x a)(ib:Is X s.heap y b)(ca:a.clean=true)(cb:b.clean=true)(h:Q (.bool (!a.beq b)) s):wpAny (model prog w) A (compareOp .NotEq x y) Q E s:=by
 obtain⟨as,ra⟩:=ia.reads
 obtain⟨bs,rb⟩:=ib.reads
 have z:=qL8 G ia ib ca cb
 exact ne_dataH ra rb z.2.1 z.2.2 (R.u 64 (by decide)) (by rw[z.1];exact h)
theorem qNl(G:GW X base):∀(l:List AV) (a:AV),(∀b∈l,qAM 7 b=true)->(∀b∈l,okIds X.names 7 b)->a.clean=true->okIds X.names 8 a ->
  ((kqdPs (qC1 X.names l)).any fun y=>PyData.eqv y (kqdP (toDat X.names a)))=hasAV a l
 |[],_,_,_,_,_=>rfl
 |b::l,a,hc,ho,ca,oa=>by
  have q:=kqd_eqv 7 _ _ 8 (qBG G.ok 7 b (hc b (.head _)) (ho b (.head _))) (qBG G.ok 8 a ca oa)
  rw[qGh G.nd 7 8 b a (hc b (.head _)) ca (ho b (.head _)) oa,<-AV.beq_iff]at q
  exact congr (congrArg or (Bool.eq_iff_iff.mpr q)) (qNl G l a (fun x q=>hc x (.tail _ q)) (fun x q=>ho x (.tail _ q)) ca oa)
theorem qJ4{ψ φ h}{a:Addr}{vs:Array Value}{n k:Nat}{l:List AV}(e:h.get? a=some (seqObj "list" vs n))(r:VRs X ψ φ h vs.toList l)(c:qAM k (.lst l)=true) :
  ∃as,Reads h (.ref a) (kqdP (toDat X.names (.lst l))) as:=by
 cases k with
 |zero=>exact nomatch c
 |succ k =>
  obtain⟨as,q⟩:=r.reads k (List.all_eq_true.mp c)
  exact⟨_,.list e rfl rfl q⟩
theorem VR.isOf{ψ φ h v a}(r:VR X ψ φ h v a)(c:a.clean=true):Is X h v a:=⟨r.reads 8 c,r.okIds 8⟩
theorem qCg{H:AHeap}{i:Nat}{l:List AV}(e:qAj H i=some l):H[i]?=some (.list l):=by
 obtain⟨o,h,e⟩:=qA0 e
 cases o with
 |list=>rw[h];exact congrArg (fun x=>some (AObj.list x)) (Option.some.inj e)
 |_=>exact qA2 e
theorem SR.list{ψ φ H h}(S:SR X prog w base ψ φ H h){v:Value}{i:Nat}{l:List AV}(r:VR X ψ φ h v (.ref i))(e:qAj H i=some l):∃a,v=.ref a/\φ[i]?=some a/\ListO X ψ φ h a l:=by
 obtain⟨a,rfl,p⟩:=r
 exact⟨a,rfl,p,S.obj i a _ p (qCg e)⟩
theorem qHJ{ψ φ H h}(S:SR X prog w base ψ φ H h){v:Value}{a b:AV}{n:Nat}(r:VR X ψ φ h v a)(e:qDI H a=some b)(c:qAM n b=true) :
  (∃as,Reads h v (kqdP (toDat X.names b)) as)/\∀k,okIds X.names k b:=by
 have plain:some a=some b->(∃as,Reads h v (kqdP (toDat X.names b)) as)/\∀k,okIds X.names k b:=fun e=>by
  obtain rfl:=Option.some.inj e
  exact⟨r.reads n c,fun k=>r.okIds k⟩
 induction a using AV.casesOn with
 |ref i =>
  obtain⟨l,hl,rfl⟩:=qA3 e
  obtain⟨a,rfl,_,vs,n,e1,_,r1⟩:=S.list r hl
  exact⟨qJ4 e1 r1 c,fun k=>by cases k with
   |zero=>trivial
   |succ=>exact r1.okIds _⟩
 |_=>exact plain e
theorem qE6{ψ φ H h}(S:SR X prog w base ψ φ H h){n:Nat}:∀{l l':List AV}{vs:List Value},VRs X ψ φ h vs l->l.mapM (qDI H)=some l'->(∀b∈l',qAM n b=true) ->
  (∃as,ReadsAll h vs (kqdPs (qC1 X.names l')) as)/\∀k,∀b∈l',okIds X.names k b
 |[],l',vs,r,e,_=>by
  cases e;cases r
  exact⟨⟨_,.nil⟩,fun _ _ q=>qA5 q⟩
 |a::l,l',vs,r,e,c=>by
  obtain⟨v,ws,rfl,r,rs⟩:=r
  rw[List.mapM_cons]at e
  obtain⟨b,hb,e⟩:=qA0 e
  obtain⟨t,ht,e⟩:=qA0 e
  cases e
  obtain⟨⟨as,q⟩,o⟩:=qHJ S r hb (c b (.head _))
  obtain⟨⟨bs,q'⟩,o'⟩:=qE6 S rs ht fun x hx=>c x (.tail _ hx)
  exact⟨⟨_,.cons q q'⟩,fun k x hx=>by
   cases hx with
   |head=>exact o k
   |tail _ hx=>exact o' k x hx⟩
theorem qHI{ψ φ H h}(S:SR X prog w base ψ φ H h){v:Value}{a b:AV}(r:VR X ψ φ h v a)(e:qBN H a=some b)(c:b.clean=true):Is X h v b:=by
 have items:∀{ad:Addr}{vs:Array Value}{n:Nat}{l l':List AV},h.get? ad=some (seqObj "list" vs n)->VRs X ψ φ h vs.toList l->l.mapM (qDI H)=some l'->(AV.lst l').clean=true->Is X h (.ref ad) (.lst l'):=by
  intro ad vs n l l' e1 r1 hl' c
  obtain⟨⟨as,q⟩,o⟩:=qE6 (n:=7) S r1 hl' (List.all_eq_true.mp c)
  exact⟨⟨_,.list e1 rfl rfl q⟩,o 7⟩
 have plain:some a=some b->Is X h v b:=fun e=>by
  obtain rfl:=Option.some.inj e
  exact r.isOf c
 induction a using AV.casesOn with
 |ref i =>
  obtain⟨l,hl,e⟩:=qA0 e
  obtain⟨l',hl',rfl⟩:=qA3 e
  obtain⟨a,rfl,_,vs,n,e1,_,r1⟩:=S.list r hl
  exact items e1 r1 hl' c
 |lst l =>
  obtain⟨l',hl',rfl⟩:=qA3 e
  obtain⟨a,vs,n,rfl,e1,_,_,_,r1⟩:=r
  exact items e1 r1 hl' c
 |_=>exact plain e
section
section
variable{A:Around}{ψ φ φ9:List Addr}{H H' H₁:AHeap}{s s8:Shared}{d:Nat}
def Out(X:CX)(prog:Program)(w:World)(base:Heap)(ψ φ:List Addr)(s:Shared)(v:AV)(H':AHeap)(x:Value)(s':Shared):Prop :=
 ∃φ',Post X prog w base [] ψ φ φ' H' s s'/\VR X ψ φ' s'.heap x v
abbrev NoE:Value->Shared->Prop:=fun _ _=>False
theorem Out.step{v x s'}(p:Post X prog w base [] ψ φ φ9 H₁ s s8)(o:Out X prog w base ψ φ9 s8 v H' x s'):Out X prog w base ψ φ s v H' x s' :=
 let⟨φ',q,r⟩:=o;⟨φ',p.trans q,r⟩
theorem wp_step{t:Sem Value}{v}(p:Post X prog w base [] ψ φ φ9 H₁ s s8)(h:wpAny (model prog w) A t (Out X prog w base ψ φ9 s8 v H') NoE s8) :
  wpAny (model prog w) A t (Out X prog w base ψ φ s v H') NoE s8:=qA1 h fun _ _ o=>o.step p
theorem qB2{v x}(S:SR X prog w base ψ φ H s.heap)(r:VR X ψ φ s.heap x v):Out X prog w base ψ φ s v H x s:=⟨φ,Post.refl S,r⟩
theorem qC5{v x t}(S:SR X prog w base ψ φ H s.heap)(r:VR X ψ φ s.heap x v):Out X prog w base ψ φ s v H x { s with toks:=t }:=⟨φ,Post.tok S t,r⟩
theorem qBO{i t k}(S:SR X prog w base ψ φ H s.heap):Out X prog w base ψ φ s (.int i) H (.int i t) { s with toks:=k }:=qC5 S (.int i t)
theorem qMb{i t}(S:SR X prog w base ψ φ H s.heap):Out X prog w base ψ φ s (.int i) H (.int i t) s:=qB2 S (.int i t)
theorem qAS{b}(S:SR X prog w base ψ φ H s.heap):Out X prog w base ψ φ s (.bool b) H (.bool b) s:=qB2 S (.bool b)
theorem qBY{v x h' k}(S:SR X prog w base ψ φ H s.heap)(g:∀b o,s.heap.get? b=some o->h'.get? b=some o)(r:VR X ψ φ h' x v):Out X prog w base ψ φ s v H x { s with heap:=h',toks:=k } :=
 ⟨φ,Post.grown S g,r⟩
theorem qAe{h h₀:Heap}(g:∀b o,h.get? b=some o->h₀.get? b=some o):h.get? h₀.objs.size=none:=by
 cases e:h.get? h₀.objs.size with
 |none=>rfl
 |some o=>exact absurd (Heap.lt_size (g _ _ e)) (Nat.lt_irrefl _)
theorem SR.fresh_at(G:GW X base){h h₀:Heap}(S:SR X prog w base ψ φ H h)(g:∀b o,h.get? b=some o->h₀.get? b=some o):h₀.objs.size ∉ φ/\base.get? h₀.objs.size=none/\3<h₀.objs.size:=by
 refine⟨fun m=>?_,?_,?_⟩
 .obtain ⟨o,e⟩:=S.there m;exact absurd (Heap.lt_size (g _ _ e)) (Nat.lt_irrefl _)
 .exact qAe fun b o e=>g _ _ (S.keep _ _ e)
 .obtain ⟨mg,hm⟩:=G.g
  obtain⟨o,_,_,e,_⟩:=hm
  exact Heap.lt_size (g _ _ (S.keep _ _ e))
theorem SR.out{h h₀:Heap}(S:SR X prog w base ψ φ H h)(g:∀b o,h.get? b=some o->h₀.get? b=some o):h₀.objs.size ∉ ψ:=fun m=>by
 obtain⟨o,e⟩:=S.stand _ m;exact absurd (Heap.lt_size (g _ _ e)) (Nat.lt_irrefl _)
theorem qDd(G:GW X base){h₀:Heap}{vs:List Value}{l:List AV}{k n:Nat}(S:SR X prog w base ψ φ H s.heap)(g:∀b o,s.heap.get? b=some o->h₀.get? b=some o)(r:VRs X ψ φ s.heap vs l)(hl:l.length<1000001) :
  Out X prog w base ψ φ s (.tup l) H (.ref h₀.objs.size) { s with heap:=h₀.push (seqObj "tuple" vs.toArray n),toks:=k }:=by
 have g':∀b o,s.heap.get? b=some o->(h₀.push (seqObj "tuple" vs.toArray n)).get? b=some o:=fun b o e=>qAp _ _ _ _ (g b o e)
 exact qBY S g' (.tup (Heap.get?_push_size _ rfl) (S.fresh_at G g).1 (S.out g) hl (by simpa using r.grow0 (Grow.of_keep g')))
theorem qGu(G:GW X base){h₁:Heap}{x:Addr}{o:AObj}{k:Nat}(S:SR X prog w base ψ φ H s.heap)(g:∀b o,s.heap.get? b=some o->h₁.get? b=some o)(h0:s.heap.get? x=none)(h3:3<x)
 (ho:ObjR X prog w ψ (φ++[x]) h₁ x o):Out X prog w base ψ φ s (.ref H.length) (H++[o]) (.ref x) { s with heap:=h₁,toks:=k }:=by
 have hb:base.get? x=none:=by
  cases e:base.get? x with
  |none=>rfl
  |some ob=>rw[S.keep _ _ e]at h0;cases h0
 obtain⟨S',g'⟩:=S.tracked hb h3 h0 g ho
 refine⟨φ++[x],⟨rfl,g',S'⟩,.ref ?_⟩
 rw[<-S.len];simp
theorem qCK(G:GW X base){h₁:Heap}{x:Addr}{vs:List Value}{l:List AV}{k n:Nat}(trk:Bool)(S:SR X prog w base ψ φ H s.heap)(g:∀b o,s.heap.get? b=some o->h₁.get? b=some o)
 (h0:s.heap.get? x=none)(h3:3<x)(e:h₁.get? x=some (seqObj "list" vs.toArray n))(r:VRs X ψ φ s.heap vs l)(hl:l.length<1000001) :
  Out X prog w base ψ φ s (qAC trk l H).1 (qAC trk l H).2 (.ref x) { s with heap:=h₁,toks:=k }:=by
 have hn:x ∉ φ:=fun m=>by obtain⟨o,e⟩:=S.there m;rw[h0]at e;cases e
 have hp:x ∉ ψ:=fun m=>by obtain⟨o,e⟩:=S.stand x m;rw[h0]at e;cases e
 cases trk with
 |false=>exact qBY S g (.lst e hn hp hl (by simpa using r.grow0 (Grow.of_keep g)))
 |true =>
  refine qGu G S g h0 h3 (.list e hl ?_)
  refine VRs.move (fun _ _ e=>qBx (List.prefix_append _ _) e) (fun b o e n m=>⟨g _ _ e,fun q=>?_,m⟩) (by simpa using r)
  rcases List.mem_append.mp q with q|q
  .exact n q
  .rw [List.mem_singleton.mp q,h0]at e;cases e
theorem qEb(G:GW X base){h₀:Heap}{vs:List Value}{l:List AV}{k n:Nat}(trk:Bool)(S:SR X prog w base ψ φ H s.heap)(g:∀b o,s.heap.get? b=some o->h₀.get? b=some o)(r:VRs X ψ φ s.heap vs l)(hl:l.length<1000001) :
  Out X prog w base ψ φ s (qAC trk l H).1 (qAC trk l H).2 (.ref h₀.objs.size) { s with heap:=h₀.push (seqObj "list" vs.toArray n),toks:=k } :=
 qCK G trk S (fun b o e=>qAp _ _ _ _ (g b o e)) (qAe g) (S.fresh_at G g).2.2 (Heap.get?_push_size _ rfl) r hl
theorem VRs.append{h}:∀{l m:List AV}{vs ws:List Value},VRs X ψ φ h vs l->VRs X ψ φ h ws m->VRs X ψ φ h (vs++ws) (l++m)
 |[],_,_,_,r,q=>by cases r;exact q
 |_::_,_,_,_,r,q=>by obtain⟨v,ws,rfl,r,rs⟩:=r;exact .cons r (VRs.append rs q)
theorem VRs.get{h}:∀{l:List AV}{vs:List Value},VRs X ψ φ h vs l->∀{k:Nat}{a:AV},l[k]?=some a->∃v,vs[k]?=some v/\VR X ψ φ h v a
 |_::_,_,r,0,b,e=>by obtain⟨v,ws,rfl,r,rs⟩:=r;cases e;exact⟨v,rfl,r⟩
 |_::_,_,r,k+1,b,e=>by obtain⟨v,ws,rfl,r,rs⟩:=r;exact rs.get (k:=k) e
theorem VRs.take{h}:∀{l:List AV}{vs:List Value} (n:Nat),VRs X ψ φ h vs l->VRs X ψ φ h (vs.take n) (l.take n)
 |_,_,0,_=>.nil
 |[],_,n+1,r=>by cases r;exact .nil
 |_::_,_,n+1,r=>by obtain⟨v,ws,rfl,r,rs⟩:=r;exact .cons r (rs.take n)
theorem VRs.drop{h}:∀{l:List AV}{vs:List Value} (n:Nat),VRs X ψ φ h vs l->VRs X ψ φ h (vs.drop n) (l.drop n)
 |_,_,0,r=>r
 |[],_,n+1,r=>by cases r;exact .nil
 |_::_,_,n+1,r=>by obtain⟨v,ws,rfl,r,rs⟩:=r;exact rs.drop n
theorem VRs.set{h}:∀{l:List AV}{vs:List Value}{v:Value}{a:AV} (n:Nat),VRs X ψ φ h vs l->VR X ψ φ h v a->VRs X ψ φ h (vs.set n v) (l.set n a)
 |[],_,_,_,_,r,_=>by cases r;exact .nil
 |_::_,_,_,_,0,r,q=>by obtain⟨v,ws,rfl,r,rs⟩:=r;exact .cons q rs
 |_::_,_,_,_,n+1,r,q=>by obtain⟨v,ws,rfl,r,rs⟩:=r;exact .cons r (rs.set n q)
theorem qAT{h}{vs:Array Value}{l:List AV}(r:VRs X ψ φ h vs.toList l):vs.size=l.length:=by rw[<-Array.length_toList];exact r.length
theorem qBP:sizeLine=16777216:=by decide +kernel
theorem qDb{h}{vs:Array Value}{l:List AV}(r:VRs X ψ φ h vs.toList l)(k:l.length<1000001):vs.size<=sizeLine:=by rw[qAT r,qBP];exact Nat.le_of_lt (Nat.lt_trans k (by decide))
theorem qNa{h}{vs:List Value}{l:List AV}(r:VRs X ψ φ h vs l)(k:l.length<1000001):vs.length<=sizeLine:=by rw[r.length,qBP];exact Nat.le_of_lt (Nat.lt_trans k (by decide))
theorem qCw{i:Int}(h:small i=true):i.natAbs<400000:=of_decide_eq_true h
theorem qLz{vs ws:Array Value}:(vs.toList++ws.toList).toArray=vs++ws:=by simp
theorem qI5{l m:List AV}(h:l.length+m.length<1000000):(l++m).length<1000001:=by rw[List.length_append];exact Nat.lt_succ_of_lt h
theorem qGV{h}{vs ws:Array Value}{l m:List AV}(r:VRs X ψ φ h vs.toList l)(q:VRs X ψ φ h ws.toList m)(k:l.length+m.length<1000000):vs.size+ws.size<=sizeLine:=by
 rw[qAT r,qAT q,qBP];exact Nat.le_of_lt (Nat.lt_trans k (by decide))
theorem qNG(G:GW X base){x y:Value}{l m:List AV}(S:SR X prog w base ψ φ H s.heap)(ra:VR X ψ φ s.heap x (.tup l))(rb:VR X ψ φ s.heap y (.tup m))(hl:l.length+m.length<1000000) :
  wpAny (model prog w) A (binaryOp .Add x y) (Out X prog w base ψ φ s (.tup (l++m)) H) NoE s:=by
 obtain⟨a1,vs1,q1,rfl,e1,n1,m1,k1,r1⟩:=ra
 obtain⟨a2,vs2,q2,rfl,e2,n2,m2,k2,r2⟩:=rb
 by_cases h1:vs1.isEmpty=true
 .refine concat_meets ⟨_,e1,rfl⟩ ⟨_,e2,rfl⟩ noFill_tuple_add seq_tuple_add F.slot_tuple_add F.entry_tuple_add (F.args_tuple_add_2 _ _) (AutoSeq1.tuple___add___tuple_tuple_0 a1 vs1 q1 a2 vs2 q2 h1) ⟨e1,e2,?_⟩
  obtain rfl:l=[]:=List.eq_nil_of_length_eq_zero (by rw[<-qAT r1];exact Array.isEmpty_iff_size_eq_zero.mp h1)
  exact qB2 S (.tup e2 n2 m2 k2 r2)
 .by_cases h2:vs2.isEmpty=true
  .refine concat_meets ⟨_,e1,rfl⟩ ⟨_,e2,rfl⟩ noFill_tuple_add seq_tuple_add F.slot_tuple_add F.entry_tuple_add (F.args_tuple_add_2 _ _) (AutoSeq1.tuple___add___tuple_tuple_1 a1 vs1 q1 a2 vs2 q2 h1 h2) ⟨e1,e2,?_⟩
   obtain rfl:m=[]:=List.eq_nil_of_length_eq_zero (by rw[<-qAT r2];exact Array.isEmpty_iff_size_eq_zero.mp h2)
   rw[List.append_nil]
   exact qB2 S (.tup e1 n1 m1 k1 r1)
  .refine concat_meets ⟨_,e1,rfl⟩ ⟨_,e2,rfl⟩ noFill_tuple_add seq_tuple_add F.slot_tuple_add F.entry_tuple_add (F.args_tuple_add_2 _ _) (AutoSeq1.tuple___add___tuple_tuple_2 a1 vs1 q1 a2 vs2 q2 h1 h2 (qGV r1 r2 hl)) ⟨e1,e2,?_⟩
   exact qLz▸qDd (k:=s.toks) (n:=0) G S (h₀:=s.heap) (fun _ _ e=>e) (r1.append r2) (qI5 hl)
theorem qNI(G:GW X base){x y:Value}{l m:List AV}(trk:Bool)(S:SR X prog w base ψ φ H s.heap)(ra:VR X ψ φ s.heap x (.lst l))(rb:VR X ψ φ s.heap y (.lst m))(hl:l.length+m.length<1000000) :
  wpAny (model prog w) A (binaryOp .Add x y) (Out X prog w base ψ φ s (qAC trk (l++m) H).1 (qAC trk (l++m) H).2) NoE s:=by
 obtain⟨a1,vs1,q1,rfl,e1,n1,m1,k1,r1⟩:=ra
 obtain⟨a2,vs2,q2,rfl,e2,n2,m2,k2,r2⟩:=rb
 refine concat_meets ⟨_,e1,rfl⟩ ⟨_,e2,rfl⟩ noFill_list_add seq_list_add F.slot_list_add F.entry_list_add (F.args_list_add_2 _ _) (list_addW a1 a2 vs1 vs2 q1 q2 none none #[] #[] (qGV r1 r2 hl)) ⟨e1,e2,?_⟩
 exact qLz▸qEb (k:=s.toks) (n:=0) G trk S (h₀:=s.heap) (fun _ _ e=>e) (r1.append r2) (qI5 hl)
theorem VR.isInt{h}{x:Value}{a:AV}{i:Int}(r:VR X ψ φ h x a)(e:intOf a=some i):a=.int i/\∃t,x=.int i t:=by
 have:=qAZ e
 subst this
 exact⟨rfl,r⟩
theorem qCs{a b:AV}{f:Int->Int->Option AV}{c:AV}{h}{x y:Value}(ra:VR X ψ φ h x a)(rb:VR X ψ φ h y b)(e:twoI a b f=some c):∃i j t u,x=.int i t/\y=.int j u/\f i j=some c:=by
 delta ψ φ a b f c h x y at ra rb e
 (injection (qA0 e)with i;rintro⟨h1,e⟩)
 (injection (qA0 e)with j;rintro⟨h2,e⟩)
 (injection ((ra.isInt h1).2)with t;intro q)
 (injection ((rb.isInt h2).2)with u;intro p)
 exact⟨i,j,t,u,q,p,e⟩
theorem qLo(G:GW X base){o:Operator}{op:BOp}{trk:Bool}{x y:Value}{a b c:AV}(ho:bOp o=some op)(S:SR X prog w base ψ φ H s.heap)(ra:VR X ψ φ s.heap x a)(rb:VR X ψ φ s.heap y b)
 (e:binAV op a b=some c):wpAny (model prog w) A (binaryOp o x y) (Out X prog w base ψ φ s (trkAV trk c H).1 (trkAV trk c H).2) NoE s:=by
 delta A ψ φ H s o op trk x y a b c at G ho S ra rb e
 induction o using Operator.casesOn with
 |Add =>
  cases Option.some.inj ho
  induction a using AV.casesOn with
  |int i =>
   delta i at ra e
   (injection (qA3 e)with j;rintro⟨h2,rfl⟩)
   (injection (ra)with t;try clear ra;rintro rfl)
   (injection ((rb.isInt h2).2)with u;rintro rfl)
   exact _root_.PyProof.Rows.add_int (qBO S)
  |tup l =>
   delta l at ra e
   (injection (qA0 e)with m;rintro⟨h2,e⟩)
   obtain⟨hl,e⟩:=qA9 e
   obtain rfl:=Option.some.inj e
   exact qNG G S ra (qAv h2▸rb) hl
  |lst l =>
   delta l at ra e
   (injection (qA0 e)with m;rintro⟨h2,e⟩)
   obtain⟨hl,e⟩:=qA9 e
   obtain rfl:=Option.some.inj e
   exact qNI G trk S ra (qBa h2▸rb) hl
  |_=>exact qA2 e
 |Sub =>
  cases Option.some.inj ho
  (injection (qCs ra rb e)with i j t u;rintro⟨rfl,rfl,e⟩)
  obtain rfl:=Option.some.inj e
  exact _root_.PyProof.Rows.sub_int' (qBO S)
 |Mult =>
  cases Option.some.inj ho
  (injection (qCs ra rb e)with i j t u;rintro⟨rfl,rfl,e⟩)
  obtain⟨hs,e⟩:=qA9 e
  obtain rfl:=Option.some.inj e
  have hs':=Bool.and_eq_true_iff.mp hs
  have q:=qCw hs'.1
  refine _root_.PyProof.Rows.mul_int (qBO S) ?_
  mul_fits
 |FloorDiv =>
  cases Option.some.inj ho
  (injection (qCs ra rb e)with i j t u;rintro⟨rfl,rfl,e⟩)
  obtain⟨hs,e⟩:=qA9 e
  obtain rfl:=Option.some.inj e
  have hs':=Bool.and_eq_true_iff.mp hs
  have hp:=of_decide_eq_true hs'.1
  have q:=qCw hs'.2
  refine _root_.PyProof.Rows.floordiv_int (Int.ne_of_gt hp) ?_ (Or.inl (PyProof.noPylong_small (Nat.lt_trans q (by decide))))
  rw[Int.fdiv_eq_ediv_of_nonneg _ (Int.le_of_lt hp)]
  exact qBO S
 |Mod =>
  cases Option.some.inj ho
  (injection (qCs ra rb e)with i j t u;rintro⟨rfl,rfl,e⟩)
  obtain⟨hs,e⟩:=qA9 e
  obtain rfl:=Option.some.inj e
  have hp:=of_decide_eq_true hs
  refine _root_.PyProof.Rows.mod_int' (Int.ne_of_gt hp) ?_
  rw[Int.fmod_eq_emod_of_nonneg _ (Int.le_of_lt hp)]
  exact qBO S
 |_=>exact qA2 ho
end
end
section
section
variable{A:Around}{ψ φ φ9:List Addr}{H H' H₁:AHeap}{s s8:Shared}{d:Nat}
theorem qF3{H:AHeap}{a:AV}{b:Bool}(e:qBN H a=some (.bool b)):a=.bool b:=by
 have no:∀{l:List AV},qLW H l=some (.bool b)->False:=fun e=>by
  obtain⟨_,_,q⟩:=qA3 e
  exact nomatch q
 induction a using AV.casesOn with
 |ref i=>obtain⟨l,_,e⟩:=qA0 e;exact(no e).elim
 |lst l=>exact(no e).elim
 |_=>exact Option.some.inj e
theorem qJS{a b:AV}{r:Bool}(e:eqAV a b=some r):(∃x y,a=.bool x/\b=.bool y/\(x==y)=r)\/(a.clean=true/\b.clean=true/\a.beq b=r):=by
 delta a b r at e
 unfold eqAV at e
 cases h:qAN a with
 |some x =>
  delta x at h
  rw[h]at e
  (injection (qA3 e)with y;rintro⟨h2,q⟩)
  exact .inl ⟨x,y,qAR h,qAR h2,q⟩
 |none =>
  rw[h]at e
  obtain⟨hc,e⟩:=qA9 e
  exact .inr ⟨(Bool.and_eq_true_iff.mp hc).1,(Bool.and_eq_true_iff.mp hc).2,Option.some.inj e⟩
inductive ItemsAt (X:CX) (ψ φ:List Addr) (h:Heap) (v:Value) (l:List AV):Prop
 |mk (p:Addr) (vs:Array Value) (n:Nat) (z:v=.ref p) (e:h.get? p=some (seqObj "list" vs n)) (r:VRs X ψ φ h vs.toList l) (k:l.length<1000001)
theorem qDA{v:Value}{a:AV}{l:List AV}(S:SR X prog w base ψ φ H s.heap)(r:VR X ψ φ s.heap v a)(e:qAH H a=some l):ItemsAt X ψ φ s.heap v l:=by
 delta ψ φ H s v a l at S r e
 induction a using AV.casesOn with
 |lst m =>
  delta m at r e
  cases Option.some.inj e
  obtain⟨a,vs,n,z,e,_,_,k,r⟩:=r
  exact⟨a,vs,n,z,e,r,k⟩
 |ref i =>
  delta i at r e
  (injection (S.list r e)with a;rintro⟨z,_,vs,n,e1,k,r1⟩)
  exact⟨a,vs,n,z,e1,r1,k⟩
 |_=>exact qA2 e
theorem qL2:∀{n:Nat}{d:Dat},kqdOk n d=true->kqdOk (n+1) d=true
 | 0,d,h=>by
  cases d with
  |none|int|str=>exact h
  |_=>exact nomatch h
 |n+1,d,h=>by
  cases d with
  |none|int|str=>exact h
  |tuple ds=>exact List.all_eq_true.mpr fun x hx=>qL2 (List.all_eq_true.mp h x hx)
  |list ds=>exact List.all_eq_true.mpr fun x hx=>qL2 (List.all_eq_true.mp h x hx)
  |_=>exact nomatch h
theorem qJZ{l:List AV}(h:qE7 l=true):∀b∈l,qAM 7 b=true:=List.all_eq_true.mp h
theorem qNA{a b:Bool}:(AV.bool a).beq (.bool b)=(a==b):=by
 rw[Bool.eq_iff_iff,AV.beq_iff,beq_iff_eq,AV.bool.injEq]
inductive BoolsAt (h:Heap) (vs:List Value) (l:List AV):Prop
 |mk (ds:List PyData) (as:List Addr) (q:ReadsAll h vs ds as) (c1:PyData.canLayAll0 ds=true) (c2:PyData.depthAll ds<=1) (e:∀b:Bool,(ds.any fun y=>PyData.eqv y (.bool b))=hasAV (.bool b) l)
theorem qF9{h}:∀{l:List AV}{vs:List Value},VRs X ψ φ h vs l->(l.all fun v=>(qAN v).isSome)=true->BoolsAt h vs l
 |[],_,r,_=>by cases r;exact⟨[],_,.nil,rfl,Nat.zero_le _,fun _=>rfl⟩
 |a::l,_,r,c=>by
  obtain⟨v,ws,rfl,r,rs⟩:=r
  have c:=Bool.and_eq_true_iff.mp c
  obtain⟨ds,as,q,c1,c2,e⟩:=qF9 rs c.2
  obtain⟨x,hx⟩:=Option.isSome_iff_exists.mp c.1
  cases qAR hx
  cases r
  exact⟨.bool x::ds,_,.cons (.bool x) q,c1,Nat.max_le.mpr ⟨Nat.zero_le _,c2⟩,fun b=>congr (congrArg or qNA.symm) (e b)⟩
theorem qH0(G:GW X base)(R:Room d A){op:CmpOp}{neg:Bool}(hop:(op=.In/\neg=false)\/(op=.NotIn/\neg=true)){x y:Value}{a b:AV}{l:List AV}{r:Bool}{Q:Value->Shared->Prop}{E:Value->Shared->Prop}
 (S:SR X prog w base ψ φ H s.heap)(ra:VR X ψ φ s.heap x a)(rb:VR X ψ φ s.heap y b)(hi:qEp H b=some l)(e:memAV a l=some r)(h:Q (.bool (r != neg)) s):wpAny (model prog w) A (compareOp op x y) Q E s:=by
 delta A ψ φ H s d op neg x y a b l r Q E at G R hop S ra rb hi e h
 have cont:∃(p:Addr) (vs:Array Value) (n:Nat) (c:String),(c = "list"\/c = "tuple")/\y=.ref p/\s.heap.get? p=some (seqObj c vs n)/\VRs X ψ φ s.heap vs.toList l:=by
  have li:qAH H b=some l->∃(p:Addr) (vs:Array Value) (n:Nat) (c:String),(c = "list"\/c = "tuple")/\y=.ref p/\s.heap.get? p=some (seqObj c vs n)/\VRs X ψ φ s.heap vs.toList l:=fun hi=>by
   obtain⟨p,vs,n,e1,e2,r1,_⟩:=qDA S rb hi
   exact⟨p,vs,n,"list",.inl rfl,e1,e2,r1⟩
  induction b using AV.casesOn with
  |tup m =>
   delta m at rb hi li
   cases Option.some.inj hi
   obtain⟨a,vs,n,z,e1,_,_,_,r1⟩:=rb
   exact⟨a,vs,n,"tuple",.inr rfl,z,e1,r1⟩
  |_=>exact li hi
 (injection (cont)with p vs n c;rintro⟨hc,rfl,eo,rs⟩)
 have fin:∀(ds:List PyData) (as:List Addr) (dx:PyData) (bs:List Addr),ReadsAll s.heap vs.toList ds as->Reads s.heap x dx bs->PyData.canLayAll0 ds=true->dx.canLay0=true->PyData.depthAll ds<=9 ->
   (ds.any fun y=>PyData.eqv y dx)=r->wpAny (model prog w) A (compareOp op x (.ref p)) Q E s:=by
  (intros ds as;intro dx;intros bs;intro q1 q2 k1 k2 k3 k4)
  have hu:A.units+1+min (PyData.depthAll ds) dx.depth<cLine:=by
   exact Nat.lt_of_le_of_lt (Nat.add_le_add_left (Nat.le_trans (Nat.min_le_left _ _) k3) (A.units+1)) (Nat.lt_of_le_of_lt (Nat.add_le_add_left (show 10<=20 by decide) A.units) (R.u 20 (by decide)))
  subst k4
  rcases hop with⟨rfl,rfl⟩|⟨rfl,rfl⟩
  .have h':Q (.bool (ds.any fun y=>PyData.eqv y dx)) s:=(Bool.bne_false (b:=ds.any fun y=>PyData.eqv y dx))▸h
   rcases hc with rfl|rfl
   .exact SeqAt.in_list_reads (.list eo rfl rfl q1) q2 k1 k2 hu h'
   .exact SeqAt.in_tuple_reads (.tuple eo rfl rfl q1) q2 k1 k2 hu h'
  .have h':Q (.bool (!ds.any fun y=>PyData.eqv y dx)) s:=(Bool.bne_true (b:=ds.any fun y=>PyData.eqv y dx))▸h
   rcases hc with rfl|rfl
   .exact SeqAt.notIn_list_reads (.list eo rfl rfl q1) q2 k1 k2 hu h'
   .exact SeqAt.notIn_tuple_reads (.tuple eo rfl rfl q1) q2 k1 k2 hu h'
 unfold memAV at e
 cases hb:qAN a with
 |some bb =>
  delta bb at hb
  rw[hb]at e
  obtain⟨hl,e3⟩:=qA9 e
  obtain rfl:=qAR hb
  cases ra
  obtain⟨ds,as,q,c1,c2,e2⟩:=qF9 rs hl
  exact fin ds as _ _ q (.bool bb) c1 rfl (Nat.le_trans c2 (by decide)) ((e2 bb).trans (Option.some.inj e3))
 |none =>
  rw[hb]at e
  obtain⟨hc2,e⟩:=qA9 e
  have hc2':=Bool.and_eq_true_iff.mp hc2
  have cl:=qJZ hc2'.2
  (injection (rs.reads 7 cl)with as;intro q)
  (injection (ra.reads 8 hc2'.1)with bs;intro q2)
  have o1:=rs.okIds 7
  have l1:=kqd_lay 8 _ (qBG G.ok 8 a hc2'.1 (ra.okIds 8))
  have l2:=kqd_layL (ds:=qC1 X.names l) (fun e he=>by
   rw[qFN]at he
   obtain⟨b,hb,rfl⟩:=List.mem_map.mp he
   exact qL2 (qBG G.ok 7 b (cl b hb) (o1 b hb)))
  exact fin _ as _ bs q q2 l2.1 l1.1 l2.2 ((qNl G l a cl o1 hc2'.1 (ra.okIds 8)).trans (Option.some.inj e))
theorem qEK{a b:AV}{f:Int->Int->Bool}{c:Bool}{h}{x y:Value}(ra:VR X ψ φ h x a)(rb:VR X ψ φ h y b)(e:intB a b f=some c):∃i j t u,x=.int i t/\y=.int j u/\f i j=c:=by
 obtain⟨i,h1,e⟩:=qA0 e
 obtain⟨j,h2,e⟩:=qA3 e
 obtain⟨t,q⟩:=(ra.isInt h1).2
 obtain⟨u,p⟩:=(rb.isInt h2).2
 exact⟨i,j,t,u,q,p,e⟩
theorem qLO{x y:Value}{a b:AV}{r:Bool}(S:SR X prog w base ψ φ H s.heap)(ra:VR X ψ φ s.heap x a)(rb:VR X ψ φ s.heap y b)(e:eqs a b H=some r) :
  (∃p q,x=.bool p/\y=.bool q/\(p==q)=r)\/∃a' b',Is X s.heap x a'/\Is X s.heap y b'/\a'.clean=true/\b'.clean=true/\a'.beq b'=r:=by
 delta ψ φ H s x y a b r at S ra rb e
 (injection (qA0 e)with a';rintro⟨ha,e⟩)
 (injection (qA0 e)with b';rintro⟨hb,e⟩)
 rcases qJS e with⟨p,q,rfl,rfl,h⟩|⟨c1,c2,h⟩
 .revert ha h hb e;revert p q;intros p q;intro _ ha h hb e
  cases qF3 ha;cases qF3 hb;cases ra;cases rb
  exact .inl ⟨p,q,rfl,rfl,h⟩
 .exact .inr ⟨a',b',qHI S ra ha c1,qHI S rb hb c2,c1,c2,h⟩
theorem qLg(G:GW X base)(R:Room d A){o:CmpOp}{op:COp}{x y:Value}{a b:AV}{r:Bool}(ho:cOp o=some op)(S:SR X prog w base ψ φ H s.heap)(ra:VR X ψ φ s.heap x a)(rb:VR X ψ φ s.heap y b)
 (e:cmpAV op a b H=some r):wpAny (model prog w) A (compareOp o x y) (Out X prog w base ψ φ s (.bool r) H) NoE s:=by
 delta A ψ φ H s d o op x y a b r at G R ho S ra rb e
 cases o with
 |Eq =>
  cases Option.some.inj ho
  rcases qLO S ra rb e with⟨p,q,rfl,rfl,rfl⟩|⟨a',b',i1,i2,c1,c2,rfl⟩
  .delta p q at ra rb e
   exact _root_.PyProof.Rows.eq_bool (qAS S)
  .delta a' b' at i1 i2 c1 c2 e
   exact qN4 G R i1 i2 c1 c2 (qAS S)
 |NotEq =>
  cases Option.some.inj ho
  (injection (qA3 e)with z;rintro⟨e2,rfl⟩)
  rcases qLO S ra rb e2 with⟨p,q,rfl,rfl,rfl⟩|⟨a',b',i1,i2,c1,c2,rfl⟩
  .delta p q at ra rb e2 e
   exact _root_.PyProof.Rows.ne_bool (qAS S)
  .delta a' b' at i1 i2 c1 c2 e2 e
   exact qMl G R i1 i2 c1 c2 (qAS S)
 |Lt=>cases Option.some.inj ho;(injection (qEK ra rb e)with i j t u;rintro⟨rfl,rfl,rfl⟩);exact _root_.PyProof.Rows.lt_int (qAS S)
 |LtE=>cases Option.some.inj ho;(injection (qEK ra rb e)with i j t u;rintro⟨rfl,rfl,rfl⟩);exact _root_.PyProof.Rows.le_int (qAS S)
 |Gt=>cases Option.some.inj ho;(injection (qEK ra rb e)with i j t u;rintro⟨rfl,rfl,rfl⟩);exact _root_.PyProof.Rows.gt_int (qAS S)
 |GtE=>cases Option.some.inj ho;(injection (qEK ra rb e)with i j t u;rintro⟨rfl,rfl,rfl⟩);exact _root_.PyProof.Rows.ge_int (qAS S)
 |In =>
  cases Option.some.inj ho
  (injection (qA0 e)with l;rintro⟨hl,e⟩)
  exact qH0 G R (.inl ⟨rfl,rfl⟩) S ra rb hl e (by rw[Bool.bne_false];exact qAS S)
 |NotIn =>
  cases Option.some.inj ho
  (injection (qA3 e)with z;rintro⟨e2,rfl⟩)
  (injection (qA0 e2)with l;rintro⟨hl,e3⟩)
  exact qH0 G R (.inr ⟨rfl,rfl⟩) S ra rb hl e3 (by rw[Bool.bne_true];exact qAS S)
 |_=>exact qA2 ho
theorem qFU{h}{x:Value}{a:AV}{r:Bool}(ra:VR X ψ φ h x a)(e:qGv a=some r):(x=.none/\true=r)\/((∃p,x=.ref p)/\false=r):=by
 delta ψ φ h x a r at ra e
 induction a using AV.casesOn with
 |none=>exact .inl ⟨ra,Option.some.inj e⟩
 |ref=>obtain⟨a,z,_⟩:=ra;exact .inr ⟨⟨_,z⟩,Option.some.inj e⟩
 |inst=>obtain⟨a,_,_,z⟩:=ra;exact .inr ⟨⟨_,z⟩,Option.some.inj e⟩
 |lst=>obtain⟨a,_,_,z⟩:=ra;exact .inr ⟨⟨_,z⟩,Option.some.inj e⟩
 |tup=>obtain⟨a,_,_,z⟩:=ra;exact .inr ⟨⟨_,z⟩,Option.some.inj e⟩
 |_=>exact qA2 e
theorem qH9{x:Value}{a:AV}{r:Bool}(S:SR X prog w base ψ φ H s.heap)(ra:VR X ψ φ s.heap x a)(e:qGv a=some r):wpAny (model prog w) A (compareOp .Is x .none) (Out X prog w base ψ φ s (.bool r) H) NoE s:=by
 rcases qFU ra e with⟨rfl,rfl⟩|⟨⟨p,rfl⟩,rfl⟩
 .exact wpAny_is_self rfl (qAS S)
 .exact wpAny_is_other rfl (fun q=>nomatch q) (qAS S)
theorem qG9{x:Value}{a:AV}{r:Bool}(S:SR X prog w base ψ φ H s.heap)(ra:VR X ψ φ s.heap x a)(e:qGv a=some r):wpAny (model prog w) A (compareOp .IsNot x .none) (Out X prog w base ψ φ s (.bool !r) H) NoE s:=by
 rcases qFU ra e with⟨rfl,rfl⟩|⟨⟨p,rfl⟩,rfl⟩
 .exact wpAny_isNot_self rfl (qAS S)
 .exact wpAny_isNot_other rfl (fun q=>nomatch q) (qAS S)
end
end
section
structure EnvOk (env:Env) (sc:Scope):Prop where
 kind:env.scope.kind=.function
 globals:env.globals=mainGlobals
 builtins:env.builtins=builtinsNs
 glob:∀x,qAE sc x=some .globalImplicit->env.kindOf x=some .globalImplicit
 loc:∀x,qAE sc x=some .local->env.kindOf x=some .local
 cel:∀x,qAE sc x=some .cell->env.kindOf x=some .cell
 fre:∀x,qAE sc x=some .free->env.kindOf x=some .free\/env.kindOf x=some .cell
 cells:∀x,qAE sc x=some .cell\/qAE sc x=some .free->∃c,env.cells.lookup x=some c
inductive VarAt (ψ:List Addr) (h:Heap) (env:Env) (x:Str) (y:Value):Prop
 |local {m:Str->Option Value}:env.kindOf x=some .local->env.locals∈ψ->h.Ns env.locals m->m x=some y->VarAt ψ h env x y
 |cell {c:Addr}:(env.kindOf x=some .cell\/env.kindOf x=some .free)->env.cells.lookup x=some c->c∈ψ->h.IsCell c (some y)->VarAt ψ h env x y
noncomputable def FRs(ok:Str->Prop)(X:CX)(ψ φ:List Addr)(h:Heap)(env:Env)(sc:Scope)(ρ:Rho):Prop :=
 ∀x k v,ok x->isVar sc x=true->nid X.names x=some k->ρ.lookup k=some v->∃y,VarAt ψ h env x y/\VR X ψ φ h y v
abbrev FR(X:CX)(ψ φ:List Addr)(h:Heap)(env:Env)(sc:Scope)(ρ:Rho):Prop:=FRs (fun _=>True) X ψ φ h env sc ρ
theorem VarAt.keep{ψ h h' env x y}(v:VarAt ψ h env x y)(k:∀a∈ψ,∀o,h.get? a=some o->h'.get? a=some o):VarAt ψ h' env x y:=by
 cases v with
 | «local» a b c d =>
  obtain⟨o,es,ep,e,r⟩:=c
  exact .local a b ⟨o,es,ep,k _ b _ e,r⟩ d
 |cell a b c d =>
  obtain⟨o,e,r⟩:=d
  exact .cell a b c ⟨o,k _ c _ e,r⟩
section
variable{A:Around}{ψ φ φ9:List Addr}{H H' H₁:AHeap}{s s8:Shared}{d:Nat}
theorem FRs.grow{ok:Str->Prop}{φ':List Addr}{h h':Heap}{env:Env}{sc:Scope}{ρ:Rho}(F:FRs ok X ψ φ h env sc ρ)(S:SR X prog w base ψ φ H h)(g:Grow [] φ φ' h h'):FRs ok X ψ φ' h' env sc ρ:=by
 intro x k v o a b c
 obtain⟨y,p,q⟩:=F x k v o a b c
 exact⟨y,p.keep fun a ha o e=>g.kept a o e (fun m=>(S.fresh a m).2.2 ha) (fun q=>qA5 q),q.grow0 g⟩
theorem FRs.post{ok:Str->Prop}{φ':List Addr}{env:Env}{sc:Scope}{ρ:Rho}(F:FRs ok X ψ φ s.heap env sc ρ)(S:SR X prog w base ψ φ H s.heap)(p:Post X prog w base [] ψ φ φ' H' s s8):FRs ok X ψ φ' s8.heap env sc ρ:=F.grow S p.grow
theorem qJG{env:Env}{x:Str}{y:Value}{Q:Value->Shared->Prop}{E:Value->Shared->Prop}{M:Model}(hk:env.scope.kind=.function)(v:VarAt ψ s.heap env x y)(hd:(x==("__classdict__":Str))=false)(h:Q y s) :
  wpAny M A (loadName env x) Q E s:=by
 cases v with
 | «local» a b c d=>exact wpAny_loadName_local hk a c d h
 |cell a b c d =>
  rcases a with a|a
  .exact wpAny_loadName_cell hk a b d h
  .exact wpAny_loadName_free hk a b d h hd
theorem qBm{N:List Str}{x:Str}{k:Nat}(h:nid N x=some k):N[k]?=some x:=by
 unfold nid at h
 have:=List.findIdx?_eq_some_iff_getElem.mp h
 obtain⟨hk,q,_⟩:=this
 rw[List.getElem?_eq_getElem hk]
 congr 1
 exact(beq_iff_eq.mp q)
theorem qGB{N:List Str}{x y:Str}{k:Nat}(h:nid N x=some k)(h':nid N y=some k):x=y:=by
 have a:=qBm h
 have b:=qBm h'
 rw[a]at b;cases b;rfl
theorem qIg{n:Nat}{i:Int}{k:Nat}(h:idx n i=some k):(0<=i/\i<n/\k=i.toNat)\/(i<0/\-(n:Int)<=i/\k=(i+n).toNat):=by
 unfold idx at h
 by_cases q:0<=i/\i<n
 .rw [if_pos q]at h;exact .inl ⟨q.1,q.2,(Option.some.inj h).symm⟩
 .rw [if_neg q]at h
  obtain⟨q,h⟩:=qA9 h
  exact .inr ⟨q.1,q.2,(Option.some.inj h).symm⟩
noncomputable def NSt(e:Expr):Prop:=∀a b k,e≠.Set a b k
noncomputable def NSl(e:Expr):Prop:=∀a b p,e≠.Slice a b none p
theorem qEF{slice:Expr}(h:NSl slice)(o i:Value):subscripted slice false o i=operate [o,i] (getItem o i):=by
 delta slice o i at h
 induction slice using Expr.casesOn with
 |Slice a b st p =>
  cases st with
  |none=>exact absurd rfl (h _ _ _)
  |some=>exact(rfl:operate [o,i] (getItem o i)=_)
 |_=>exact(rfl:operate [o,i] (getItem o i)=_)
theorem qCb{n:Nat}{i:Int}{k:Nat}(h:idx n i=some k):seqIndex? i n=some k/\-(n:Int)<=i/\i<n:=by
 delta n i k at h
 unfold seqIndex?
 rcases qIg h with⟨h0,h1,rfl⟩|⟨h0,h1,rfl⟩
 .refine ⟨?_,Int.le_trans (Int.neg_nonpos_of_nonneg (Int.natCast_nonneg n)) h0,h1⟩
  simp[Int.not_lt.mpr h0,h0,h1]
 .refine ⟨?_,h1,Int.lt_of_lt_of_le h0 (Int.natCast_nonneg n)⟩
  simp[h0];omega
theorem qI0{c:String}(hc:c = "list"\/c = "tuple"){p:Addr}{vs:Array Value}{n:Nat}{l:List AV}{i:Int}{t:Tok}{k:Nat}{a:AV}(e:s.heap.get? p=some (seqObj c vs n))(r:VRs X ψ φ s.heap vs.toList l)(hl:l.length<1000001)
 (hi:idx l.length i=some k)(ha:l[k]?=some a)(S:SR X prog w base ψ φ H s.heap){value slice:Expr}(hs:∀a b p,slice≠.Slice a b none p) :
  wpAny (model prog w) A (subscriptTail value slice (.ref p) (.int i t)) (Out X prog w base ψ φ s a H) NoE s:=by
 have hz:=qAT r
 obtain⟨v,hv,rv⟩:=r.get ha
 rw[Array.getElem?_toList]at hv
 have sm:i.natAbs<1000002:=Nat.lt_of_le_of_lt (qPm (qCb hi).2.1 (qCb hi).2.2) (Nat.lt_succ_of_lt hl)
 rcases hc with rfl|rfl
 .have L:s.heap.IsList p vs:=⟨_,e,rfl,_,rfl⟩
  refine tail_any (T:="list") L.typeIs slot_list_getitem.lookup ?_ (qEF hs _ _)
  rcases qIg hi with⟨h0,h1,rfl⟩|⟨h0,h1,rfl⟩
  .exact wpAny_getItem_list L h0 (Int.lt_trans (qBz sm).2 (by decide)) hv (qB2 S rv)
  .exact wpAny_getItem_list_neg L h0 (by rw[hz];exact h1) (Int.le_trans (by decide) (qBz sm).1) (by rw[hz];exact hv) (qB2 S rv)
 .have L:IsTup s.heap p vs:=⟨_,e,rfl,_,rfl⟩
  refine tail_any (T:="tuple") ⟨_,e,rfl⟩ slot_tuple_getitem.lookup ?_ (qEF hs _ _)
  exact _root_.PyProof.Rows.getItem_tuple L (Int.le_trans (by decide) (qBz sm).1) (Int.lt_trans (qBz sm).2 (by decide)) (hz.symm▸(qCb hi).1) hv (qB2 S rv)
theorem qFC{c:String}(hc:c = "list"\/c = "tuple"){p:Addr}{vs:Array Value}{n:Nat}{l:List AV}{y:Value}{b a:AV}(e:s.heap.get? p=some (seqObj c vs n))(r:VRs X ψ φ s.heap vs.toList l)(hl:l.length<1000001)
 (rb:VR X ψ φ s.heap y b)(ha:atL l b=some a)(S:SR X prog w base ψ φ H s.heap){value slice:Expr}(hs:∀a b p,slice≠.Slice a b none p) :
  wpAny (model prog w) A (subscriptTail value slice (.ref p) y) (Out X prog w base ψ φ s a H) NoE s:=by
 obtain⟨i,h1,ha⟩:=qA0 ha
 obtain⟨k,h2,ha⟩:=qA0 ha
 obtain⟨t,rfl⟩:=(rb.isInt h1).2
 exact qI0 hc e r hl h2 ha S hs
theorem qDv{K:Type} [DecidableEq K]{k' k:K}{v:Value}{r:List (K×Value)}:valueAt ((k',v)::r) k=if k'=k then some v else valueAt r k:=by
 unfold valueAt
 rw[List.find?_cons]
 by_cases q:k'=k
 .simp [q]
 .simp [q]
theorem qAU{κ α:Type} [DecidableEq κ]{k k':κ}{v:α}{r:List (κ×α)}:((k',v)::r).lookup k=if k'=k then some v else r.lookup k:=by
 rw[List.lookup_cons]
 by_cases q:k'=k
 .rw [if_pos q,q,beq_self_eq_true]
 .rw [if_neg q,beq_eq_false_iff_ne.mpr (Ne.symm q)]
noncomputable def LookR(X:CX)(ψ φ:List Addr)(h:Heap):Option AV->Option Value->Prop
 |some a,o=>∃y,o=some y/\VR X ψ φ h y a
 |none,o=>o=none
theorem LookR.ite{h:Heap}{p q:Prop} [Decidable p] [Decidable q]{v:Value}{a:AV}{o:Option AV}{u:Option Value}(pq:p↔q)(r:VR X ψ φ h v a)(k:LookR X ψ φ h o u):LookR X ψ φ h (if p then some a else o) (if q then some v else u):=by
 by_cases z:p
 .rw [if_pos z,if_pos (pq.mp z)];exact⟨v,rfl,r⟩
 .rw [if_neg z,if_neg fun y=>z (pq.mpr y)];exact k
theorem qDH{h}{k:Int}:∀{ks:List Int}{l:List AV}{vs:List Value},VRs X ψ φ h vs l->LookR X ψ φ h ((ks.zip l).lookup k) (valueAt (ks.zip vs) k)
 |[],_,_,_=>rfl
 |_::_,[],_,r=>by cases r;rfl
 |k'::ks,_::_,_,r=>by
  obtain⟨v,ws,rfl,r,rs⟩:=r
  rw[List.zip_cons_cons,List.zip_cons_cons,qAU,qDv]
  exact .ite Iff.rfl r (qDH rs)
theorem qHH(nd:X.names.Nodup){h}{k:Nat}{x:Str}(hx:X.names[k]?=some x):∀{ks:List Nat}{ss:List Str}{l:List AV}{vs:List Value},VRs X ψ φ h vs l->ks.map (X.names[·]?)=ss.map some ->
  LookR X ψ φ h ((ks.zip l).lookup k) (valueAt (ss.zip vs) x)
 |[],[],_,_,_,_=>rfl
 |[],_::_,_,_,_,e=>nomatch e
 |_::_,[],_,_,_,e=>nomatch e
 |_::_,_::_,[],_,r,_=>by cases r;rfl
 |k'::ks,x'::ss,_::_,_,r,e=>by
  obtain⟨v,ws,rfl,r,rs⟩:=r
  have e':=List.cons.inj e
  rw[List.zip_cons_cons,List.zip_cons_cons,qAU,qDv]
  refine .ite ⟨?_,?_⟩ r (qHH nd hx rs e'.2)
  .rintro rfl;exact Option.some.inj (e'.1.symm.trans hx)
  .rintro rfl;exact((List.getElem?_inj (List.getElem?_eq_some_iff.mp hx).1 nd).mp (hx.trans e'.1.symm)).symm
theorem qCM(k:Int)(t:Tok):(intKind prog w).is k (.int k t)=true:=by show Value.isInt k (.int k t)=true;simp[Value.isInt]
theorem qDk(k:Str)(t:Tok):(PySem.strKind prog w).is k (.str k t)=true:=by show Value.isStrOf k (.str k t)=true;simp[Value.isStrOf]
theorem qJu(G:GW X base){x y:Value}{a b c:AV}(S:SR X prog w base ψ φ H s.heap)(ra:VR X ψ φ s.heap x a)(rb:VR X ψ φ s.heap y b)(e:subAV a b H=some c)
 {value slice:Expr}(hs:∀a b p,slice≠.Slice a b none p):wpAny (model prog w) A (subscriptTail value slice x y) (Out X prog w base ψ φ s c H) NoE s:=by
 delta A ψ φ H s x y a b c value slice at G S ra rb e hs
 induction a using AV.casesOn with
 |tup l =>
  delta l at ra e
  obtain⟨p,vs,n,rfl,e1,_,_,q,r⟩:=ra
  exact qFC (.inr rfl) e1 r q rb e S hs
 |lst l =>
  delta l at ra e
  obtain⟨p,vs,n,rfl,e1,_,_,q,r⟩:=ra
  exact qFC (.inl rfl) e1 r q rb e S hs
 |ref i =>
  delta i at ra e
  (injection (qA0 e)with o;rintro⟨ho,e⟩)
  (injection (ra)with p;try clear ra;rintro⟨rfl,hp⟩)
  have ob:=S.obj _ _ _ hp ho
  cases o with
  |list l =>
   delta l at ho e ob
   obtain⟨vs,n,e1,q,r⟩:=ob
   exact qFC (.inl rfl) e1 r q rb e S hs
  |dictI kvs =>
   delta kvs at ho e ob
   obtain⟨ks,vs,l,rfl,e1,_,_,r⟩:=ob
   obtain⟨k,hk,e⟩:=qA0 e
   obtain⟨t,rfl⟩:=(rb.isInt hk).2
   have g:=qDH (k:=k) (ks:=ks) r
   rw[e]at g
   obtain⟨y,hy,ry⟩:=g
   exact tail_any (T:="dict") e1.typeIs slot_dict_getitem.lookup (wpAny_getItem_of (qCM _ _) e1.mapOf hy (qC5 S ry)) (qEF hs _ _)
  |dictS kvs =>
   delta kvs at ho e ob
   obtain⟨ks,ss,vs,l,rfl,e1,q,_,_,r⟩:=ob
   obtain⟨k,hk,e2⟩:=qA0 e
   obtain rfl:=qBW hk
   obtain⟨y,t,rfl,hx⟩:=rb
   have g:=qHH G.nd hx r q
   rw[e2]at g
   obtain⟨y,hy,ry⟩:=g
   exact tail_any (T:="dict") e1.typeIs slot_dict_getitem.lookup (wpAny_getItem_of (qDk _ _) e1.mapOf hy (qC5 S ry)) (qEF hs _ _)
  |ns=>exact qA2 e
 |_=>exact qA2 e
theorem qJa(n:Nat)(i:Int):clamp n i=clipAt n i:=rfl
theorem qHi(vs:Array Value)(lo hi:Option Int):(slicePick vs lo hi none).toList=qAW vs.toList lo hi:=by
 revert vs lo hi
 intros vs lo hi
 rw[slicePick_plain,List.toList_toArray]
 unfold qAW
 cases lo<;>cases hi<;>simp[qJa,List.drop_take]
theorem VRs.slice{h}{vs:List Value}{l:List AV}(r:VRs X ψ φ h vs l)(lo hi:Option Int):VRs X ψ φ h (qAW vs lo hi) (qAW l lo hi):=by
 unfold qAW
 rw[r.length]
 exact(r.take _).drop _
theorem qK5{α:Type}(l:List α)(lo hi:Option Int):(qAW l lo hi).length<=l.length:=by
 unfold qAW
 rw[List.length_drop,List.length_take];exact Nat.le_trans (Nat.sub_le _ _) (Nat.min_le_right _ _)
theorem qHh(G:GW X base)(trk:Bool){x:Value}{a:AV}{l:List AV}{vl vu:Value}{lo hi:Option Int}(S:SR X prog w base ψ φ H s.heap)(ra:VR X ψ φ s.heap x a)(e:qAH H a=some l)(pl:IsPart vl lo)(pu:IsPart vu hi)
 {value:Expr}{a' b':Option Expr}{p:Pos} :
  wpAny (model prog w) A (subscriptTail value (.Slice a' b' none p) x (.ref s.heap.objs.size)) (Out X prog w base ψ φ s (qAC trk (qAW l lo hi) H).1 (qAC trk (qAW l lo hi) H).2) NoE
   { s with heap:=s.heap.push { cls:=.type "slice",data:=.fields #[vl,vu,.none] } }:=by
 obtain⟨ad,vs,n,rfl,e1,r1,k1⟩:=qDA S ra e
 have L:({ s with heap:=s.heap.push { cls:=.type "slice",data:=.fields #[vl,vu,.none] } }:Shared).heap.IsList ad vs:=⟨_,qAp _ _ _ _ e1,rfl,_,rfl⟩
 refine tail_any (T:="list") L.typeIs slot_list_getitem.lookup ?_ (show _=operate [.ref s.heap.objs.size,.ref ad] _ from rfl)
 refine wpAny_getItem_list_slice L (Heap.IsSliceOf.new ..) pl pu .none (by simp) ?_ (qDb r1 k1)
 have:=qEb (k:=s.toks) (n:=0) (h₀:=s.heap.push { cls:=.type "slice",data:=.fields #[vl,vu,.none] }) G trk S (fun _ _ e=>qAp _ _ _ _ e) (r1.slice lo hi) (Nat.lt_of_le_of_lt (qK5 _ _ _) k1)
 rw[<-qHi,Array.toArray_toList]at this
 exact this
end
end
section
theorem qJf:(biTab.all fun p=>bootBuiltins p.1==some (biVal p.2))=true:=by decide +kernel
theorem qLq{x:Str}{b:BI}(h:biTab.lookup x=some b):bootBuiltins x=some (biVal b):=by
 have q:=List.all_eq_true.mp qJf (x,b) (mem_of_lookup h)
 exact beq_iff_eq.mp q
noncomputable def qFg:Value->Int
 |.int i _=>i
 |_=>0
section
variable{A:Around}{ψ φ φ9:List Addr}{H H' H₁:AHeap}{s s8:Shared}{d:Nat}
theorem VRs.one{h}{vs:List Value}{a:AV}(r:VRs X ψ φ h vs [a]):∃v,vs=[v]/\VR X ψ φ h v a:=by
 obtain⟨v,ws,rfl,r,q⟩:=r
 cases q
 exact⟨v,rfl,r⟩
theorem VRs.two{h}{vs:List Value}{a b:AV}(r:VRs X ψ φ h vs [a,b]):∃v u,vs=[v,u]/\VR X ψ φ h v a/\VR X ψ φ h u b:=by
 obtain⟨v,ws,rfl,r,q⟩:=r
 obtain⟨u,rfl,p⟩:=q.one
 exact⟨v,u,rfl,r,p⟩
theorem VRs.one_of{h}{vs:List Value}{as:List AV}{a:AV}(r:VRs X ψ φ h vs as)(e:Internal.one as=some a):∃v,vs=[v]/\VR X ψ φ h v a:=VRs.one (qBI e▸r)
theorem VRs.two_of{h}{vs:List Value}{as:List AV}{p:AV×AV}(r:VRs X ψ φ h vs as)(e:Internal.two as=some p):∃v u,vs=[v,u]/\VR X ψ φ h v p.1/\VR X ψ φ h u p.2:=VRs.two (qFv e▸r)
theorem VRs.ints{h}:∀{l:List AV}{vs:List Value}{n:Int},VRs X ψ φ h vs l->qC3 l=some n->(∀v∈vs,∃a t,v=.int a t)/\(vs.map qFg).sum=n
 |[],_,n,r,e=>by cases r;exact⟨fun _ q=>(nomatch q),Option.some.inj e⟩
 |a::l,_,n,r,e=>by
  obtain⟨v,ws,rfl,r,rs⟩:=r
  obtain⟨i,hi,e⟩:=qA0 e
  obtain⟨k,hk,rfl⟩:=qA3 e
  obtain⟨t,rfl⟩:=(r.isInt hi).2
  obtain⟨p,q⟩:=VRs.ints rs hk
  refine⟨fun v hv=>?_,congrArg (i+·) q⟩
  cases hv with
  |head=>exact⟨_,_,rfl⟩
  |tail _ hv=>exact p v hv
theorem qHn:∀(xs:List (Int×Tok)),preSum (numAt xs.toArray) xs.length=(xs.map (·.1)).sum:=by
 intro xs
 have gen:∀(n:Nat),n<=xs.length->preSum (numAt xs.toArray) n=((xs.take n).map (·.1)).sum:=by
  intro n
  induction n with
  |zero=>intro _;rfl
  |succ n ih =>
   intro h
   have:n<xs.length:=h
   rw[preSum,ih (Nat.le_of_lt this),List.take_succ,List.map_append,List.sum_append]
   congr 1
   simp[numAt,this]
 rw[gen _ (Nat.le_refl _),List.take_length]
theorem qIO{h:Heap}{a:Int}:∀{n:Nat}{i:Nat}{vs:List Value},vs.length=n->(∀j v,vs[j]?=some v->∃t,v=Value.int (a+((i+j:Nat):Int)*1) t) ->
  VRs X ψ φ h vs ((List.range' i n).map fun(k:Nat)=>AV.int (a+(k:Int)))
 | 0,i,vs,e,_=>List.eq_nil_of_length_eq_zero e
 |n+1,i,[],e,_=>nomatch e
 |n+1,i,v::vs,e,k=>by
  rw[List.range'_succ,List.map_cons]
  obtain⟨t,ht⟩:=k 0 v rfl
  have ht':v=.int (a+(i:Int)) t:=by rw[ht,Int.mul_one];rfl
  rw[ht']
  exact .cons (.int _ t) (qIO (Nat.succ.inj e) fun j u hu=>by
   obtain⟨t,q⟩:=k (j+1) u hu
   exact⟨t,by rw[q,Nat.succ_add_eq_add_succ i j]⟩)
theorem qMY{h:Heap}{a:Int}{n:Nat}{vs:Array Value}(e:vs.size=n)(k:∀(j:Nat) v,vs[j]?=some v->∃t,v=Value.int (a+(j:Int)*1) t):VRs X ψ φ h vs.toList ((List.range n).map fun(k:Nat)=>AV.int (a+(k:Int))):=by
 rw[List.range_eq_range']
 refine qIO (by rw[Array.length_toList];exact e) fun j v hj=>?_
 rw[Array.getElem?_toList]at hj
 rw[Nat.zero_add]
 exact k j v hj
theorem qGq{as:List AV}{p:Int×Int}(e:qNR as=some p):(as=[.int p.2]/\p.1=0/\p.2.natAbs<400000)\/(as=[.int p.1,.int p.2]/\p.1.natAbs<400000/\p.2.natAbs<400000):=by
 delta as p at e
 cases as with
 |nil=>exact qA2 e
 |cons a r =>
  delta a r at e
  (injection (qA0 e)with x;rintro⟨hx,e1⟩)
  obtain⟨hs,e2⟩:=qA9 e1
  clear e e1
  obtain rfl:=qAZ hx
  cases r with
  |nil=>obtain rfl:=Option.some.inj e2;exact .inl ⟨rfl,rfl,qCw hs⟩
  |cons b t =>
   delta b t at e2
   cases t with
   |nil =>
    (injection (qA0 e2)with y;rintro⟨hy,e3⟩)
    obtain⟨hs2,e4⟩:=qA9 e3
    clear e2 e3
    obtain rfl:=qAZ hy
    obtain rfl:=Option.some.inj e4
    exact .inr ⟨rfl,qCw hs,qCw hs2⟩
   |cons=>exact qA2 e2
theorem qKy{x:Value}{a:AV}{n:Nat}(S:SR X prog w base ψ φ H s.heap)(r:VR X ψ φ s.heap x a)(e:lenOf H a=some n):wpAny (model prog w) A (call (.builtin "len") [x]) (Out X prog w base ψ φ s (.int n) H) NoE s:=by
 delta A ψ φ H s x a n at S r e
 have plain:(qAH H a).map List.length=some n->wpAny (model prog w) A (call (.builtin "len") [x]) (Out X prog w base ψ φ s (.int n) H) NoE s:=fun e=>by
  (injection (qA3 e)with l;rintro⟨hl,rfl⟩)
  obtain⟨ad,vs,n,rfl,e1,r1,k1⟩:=qDA S r hl
  have z:=qAT r1
  refine PySem.Calls.call_len_list (items:=vs) ⟨_,e1,rfl,_,rfl⟩ (by rw[z];exact Int.lt_trans (Int.ofNat_lt.mpr k1) (by decide)) ?_
  rw[z]
  exact qBO S
 induction a using AV.casesOn with
 |tup l =>
  delta l at r e plain
  cases Option.some.inj e
  obtain⟨p,vs,n,rfl,e1,_,_,k,r1⟩:=r
  have z:=qAT r1
  refine _root_.PyProof.Rows.len_tuple (items:=vs) ⟨_,e1,rfl,_,rfl⟩ (by rw[z];exact Int.lt_trans (Int.ofNat_lt.mpr k) (by decide)) ?_
  rw[z]
  exact qBO S
 |sset l =>
  delta l at r e plain
  cases Option.some.inj e
  obtain⟨ad,o,es,ep,t,vs,rfl,e1,_,_,a1,a2,a3,a4,a5,p,k,r1⟩:=r
  have z:es.size=l.length:=by rw[<-r1.length,<-p.length_eq,List.length_map,Array.length_toList]
  refine call_len_set e1 a1 a2 a3 (by rw[z];exact Int.lt_trans (Int.ofNat_lt.mpr k) (by decide)) ?_
  rw[z]
  exact qBO S
 |_=>exact plain e
theorem qEl(G:GW X base)(trk:Bool)(S:SR X prog w base ψ φ H s.heap){p:Addr}{c:String}{vs:Array Value}{n:Nat}{l:List AV}(hc:c = "list"\/c = "tuple")(e1:s.heap.get? p=some (seqObj c vs n))(r1:VRs X ψ φ s.heap vs.toList l)(k1:l.length<1000001) :
  wpAny (model prog w) A (call (.type "list") [.ref p]) (Out X prog w base ψ φ s (qAC trk l H).1 (qAC trk l H).2) NoE s :=
 call_list_seq p hc e1 rfl rfl (fun h' c' g e2=>qCK (k:=s.toks) (n:=c') (vs:=vs.toList) G trk S g (qAe fun _ _ e=>e) (S.fresh_at G fun _ _ e=>e).2.2 (by rw[Array.toArray_toList];exact e2) r1 k1) (qDb r1 k1)
theorem qJI(G:GW X base)(R:Room d A){trk:Bool}{x:Value}{a:AV}{l:List AV}(S:SR X prog w base ψ φ H s.heap)(r:VR X ψ φ s.heap x a)(e:qNZ H a=some l) :
  wpAny (model prog w) A (call (.type "list") [x]) (Out X prog w base ψ φ s (qAC trk l H).1 (qAC trk l H).2) NoE s:=by
 have plain:qAH H a=some l->wpAny (model prog w) A (call (.type "list") [x]) (Out X prog w base ψ φ s (qAC trk l H).1 (qAC trk l H).2) NoE s:=fun hl=>by
  obtain⟨ad,vs,n,rfl,e1,r1,k1⟩:=qDA S r hl
  exact qEl G trk S (.inl rfl) e1 r1 k1
 induction a using AV.casesOn with
 |tup m =>
  cases Option.some.inj e
  obtain⟨p,vs,n,rfl,e1,_,_,k,r1⟩:=r
  exact qEl G trk S (.inr rfl) e1 r1 k
 |rng lo hi =>
  cases Option.some.inj e
  obtain⟨rr,t,u,v,rfl,e1,_,_,ha,hb⟩:=r
  have hsz:Builtin.Range.rangeSize lo hi 1=((hi-lo).toNat:Int):=by
   rw[rangeSize_one]
   by_cases h:lo<hi
   .rw [if_pos h];exact(Int.toNat_of_nonneg (Int.sub_nonneg_of_le (Int.le_of_lt h))).symm
   .rw [if_neg h,Int.toNat_of_nonpos (Int.sub_nonpos_of_le (Int.not_lt.mp h))];rfl
  refine call_list_range R.handled e1 (small_one (Int.le_trans (by decide) (qBz ha).1) (Int.lt_of_lt_of_le (qBz ha).2 (by decide)) (Int.le_trans (by decide) (qBz hb).1) (Int.lt_of_lt_of_le (qBz hb).2 (by decide))) hsz (Nat.le_trans (qCc lo hi) (Nat.le_trans (Nat.add_le_add (Nat.le_of_lt hb) (Nat.le_of_lt ha)) (by decide))) fun h' tk acc c' g e2 it=>?_
  exact qCK (n:=c') (vs:=acc.toList) G trk S g (qAe fun _ _ e=>e) (S.fresh_at G fun _ _ e=>e).2.2 (by rw[Array.toArray_toList];exact e2) (qMY it.1 it.2)
   (by unfold qAJ;rw[List.length_map,List.length_range];exact Nat.lt_of_le_of_lt (qCc lo hi) (Nat.lt_of_le_of_lt (Nat.add_le_add (Nat.le_of_lt hb) (Nat.le_of_lt ha)) (by decide)))
 |_=>exact plain e
theorem qHc(G:GW X base){x:Value}{a:AV}{l:List AV}(S:SR X prog w base ψ φ H s.heap)(r:VR X ψ φ s.heap x a)(e:qEp H a=some l) :
  wpAny (model prog w) A (call (.type "tuple") [x]) (Out X prog w base ψ φ s (.tup l) H) NoE s:=by
 delta A ψ φ H s x a l at G S r e
 have plain:qAH H a=some l->wpAny (model prog w) A (call (.type "tuple") [x]) (Out X prog w base ψ φ s (.tup l) H) NoE s:=fun hl=>by
  obtain⟨ad,vs,n,rfl,e1,r1,k1⟩:=qDA S r hl
  refine call_tuple_list (items:=vs) ⟨_,e1,rfl,_,rfl⟩ (fun h' g=>?_) (qDb r1 k1)
  have:=qDd (k:=s.toks) (n:=0) G S g r1 k1
  rw[Array.toArray_toList]at this
  exact this
 induction a using AV.casesOn with
 |tup m =>
  delta m at r e plain
  cases Option.some.inj e
  obtain⟨p,vs,n,rfl,e1,n1,m1,k,r1⟩:=r
  exact call_tuple_same ⟨_,e1,rfl,_,rfl⟩ (qB2 S (.tup e1 n1 m1 k r1))
 |_=>exact plain e
theorem qJt(R:Room d A){x:Value}{l:List AV}{n:Int}(S:SR X prog w base ψ φ H s.heap)(r:VR X ψ φ s.heap x (.lst l))(e:qC3 l=some n):wpAny (model prog w) A (call (.builtin "sum") [x]) (Out X prog w base ψ φ s (.int n) H) NoE s:=by
 obtain⟨ad,vs,q,rfl,e1,n1,m1,k,r1⟩:=r
 obtain⟨h1,h2⟩:=r1.ints e
 obtain⟨ys,rfl⟩:=AllInts.items (vs:=vs) fun v hv=>h1 v (by simpa using hv)
 refine sum_intListG R.handled ⟨_,e1,rfl,_,rfl⟩ fun h' tk t' g=>?_
 have e3:preSum (numAt ys) ys.size=n:=by
  have:=qHn ys.toList
  rw[Array.toArray_toList,Array.length_toList]at this
  rw[this,<-h2]
  simp only[intItems,Array.toList_map,List.map_map]
  rfl
 rw[e3]
 exact qBY S g (.int _ _)
theorem qIf{as:List AV}{f:Int->Int->Int}{c:AV}{h:Heap}{xs:List Value}(ra:VRs X ψ φ h xs as)(e:intP as f=some c):∃a b t u,xs=[.int a t,.int b u]/\.int (f a b)=c:=by
 delta ψ φ as f c h xs at ra e
 (injection (qA0 e)with p;rintro⟨hp,e⟩)
 (injection (ra.two_of hp)with v u;rintro⟨rfl,r1,r2⟩)
 (injection (qCs r1 r2 e)with i j t u;rintro⟨rfl,rfl,e⟩)
 exact⟨i,j,t,u,rfl,Option.some.inj e⟩
theorem qKX{p:Prop} [Decidable p]{a b:Int}{t u:Tok}{h':Heap}{k:Nat}(S:SR X prog w base ψ φ H s.heap)(g:∀b o,s.heap.get? b=some o->h'.get? b=some o) :
  Out X prog w base ψ φ s (.int (if p then a else b)) H (if p then .int a t else .int b u) { s with heap:=h',toks:=k }:=by
 by_cases q:p
 .rw [if_pos q,if_pos q];exact qBY S g (.int _ _)
 .rw [if_neg q,if_neg q];exact qBY S g (.int _ _)
theorem qLp(G:GW X base)(R:Room d A){b:BI}{trk:Bool}{xs:List Value}{as:List AV}{r:AV×AHeap}(S:SR X prog w base ψ φ H s.heap)(ra:VRs X ψ φ s.heap xs as)(e:biAV b trk as H=some r)(hb1:b≠.sorted)(hb2:b≠.set) :
  wpAny (model prog w) A (call (biVal b) xs) (Out X prog w base ψ φ s r.1 r.2) NoE s:=by
 delta A ψ φ H s d b trk xs as r at G R S ra e hb1 hb2
 induction b using BI.casesOn with
 |len =>
  (injection (qA0 e)with v;rintro⟨hv,e⟩)
  (injection (qA3 e)with n;rintro⟨hn,rfl⟩)
  (injection (ra.one_of hv)with x;rintro⟨rfl,r⟩)
  exact qKy S r hn
 |tuple =>
  (injection (qA0 e)with v;rintro⟨hv,e⟩)
  (injection (qA3 e)with n;rintro⟨hn,rfl⟩)
  (injection (ra.one_of hv)with x;rintro⟨rfl,r⟩)
  exact qHc G S r hn
 |list =>
  (injection (qA0 e)with v;rintro⟨hv,e⟩)
  (injection (qA3 e)with n;rintro⟨hn,rfl⟩)
  (injection (ra.one_of hv)with x;rintro⟨rfl,r⟩)
  exact qJI G R S r hn
 |range =>
  (injection (qA3 e)with p;rintro⟨hp,rfl⟩)
  obtain⟨a,b⟩:=p
  delta a b at hp e
  have mk:∀{t u v:Tok}{k:Nat},a.natAbs<400001->b.natAbs<400001->Out X prog w base ψ φ s (.rng a b) H (.ref s.heap.objs.size) { s with heap:=s.heap.push { cls:=.type "range",dict:=none,data:=.fields #[.int a t,.int b u,.int 1 v],slots:=#[] },toks:=k }:=fun ha hb =>
   qBY S (qAp _ _) (.rng (Heap.get?_push_size _ rfl) (S.fresh_at G fun _ _ e=>e).1 (S.out fun _ _ e=>e) ha hb)
  rcases qGq hp with⟨rfl,h0,h1⟩|⟨rfl,h0,h1⟩
  ·(injection (ra.one)with x;rintro⟨rfl,r⟩)
   (injection (r)with t;try clear r;rintro rfl)
   cases h0
   exact call_range_1 (mk (by decide) (Nat.lt_succ_of_lt h1))
  ·(injection (ra.two)with x y;rintro⟨rfl,r,r'⟩)
   (injection (r)with t;try clear r;rintro rfl)
   (injection (r')with u;try clear r';rintro rfl)
   exact call_range_2 (mk (Nat.lt_succ_of_lt h0) (Nat.lt_succ_of_lt h1))
 |sorted=>exact absurd rfl hb1
 |set=>exact absurd rfl hb2
 |int =>
  (injection (qA0 e)with v;rintro⟨hv,e⟩)
  (injection (qA3 e)with n;rintro⟨hn,rfl⟩)
  (injection (ra.one_of hv)with x;rintro⟨rfl,r⟩)
  (injection ((r.isInt hn).2)with t;rintro rfl)
  exact call_int_int (qMb S)
 |sum =>
  (injection (qA0 e)with v;rintro⟨hv,e⟩)
  (injection (qA0 e)with l;rintro⟨hl,e⟩)
  (injection (qA3 e)with n;rintro⟨hn,rfl⟩)
  (injection (ra.one_of hv)with x;rintro⟨rfl,r⟩)
  exact qJt R S (qBa hl▸r) hn
 |max =>
  (injection (qA3 e)with v;rintro⟨hv,rfl⟩)
  (injection (qIf ra hv)with a b t u;rintro⟨rfl,rfl⟩)
  exact max_two_ints R.handled fun h' tk g=>qKX S g
 |min =>
  (injection (qA3 e)with v;rintro⟨hv,rfl⟩)
  (injection (qIf ra hv)with a b t u;rintro⟨rfl,rfl⟩)
  exact min_two_ints R.handled fun h' tk g=>qKX S g
end
end
section
section
variable{A:Around}{ψ φ φ9:List Addr}{H H' H₁:AHeap}{s s8:Shared}{d:Nat}
abbrev EvFn:=CE->Rho->AHeap->Option (AV×AHeap)
noncomputable def SndE(X:CX)(prog:Program)(w:World)(base:Heap)(d:Nat)(ev:EvFn)(e:Expr)(ce:CE)(sc:Scope):Prop :=
 ∀{A:Around}{env:PySem.Env}{ρ:Rho}{ψ φ:List Addr}{H H':AHeap}{s:Shared}{v:AV},Room d A->EnvOk env sc->FR X ψ φ s.heap env sc ρ->SR X prog w base ψ φ H s.heap->ev ce ρ H=some (v,H') ->
  wpAny (model prog w) A (eval e env) (Out X prog w base ψ φ s v H') NoE s
noncomputable def Outs(X:CX)(prog:Program)(w:World)(base:Heap)(ψ φ:List Addr)(s:Shared)(vs:List AV)(H':AHeap)(xs:List Value)(s':Shared):Prop :=
 ∃φ',Post X prog w base [] ψ φ φ' H' s s'/\VRs X ψ φ' s'.heap xs vs
theorem star1{env:PySem.Env}{r:List Expr}{e:Expr}(h:qAq e=false):starEach (e::r) env=(false,eval e env)::starEach r env:=by
 delta env r e at h
 induction e using Expr.casesOn with
 |Starred=>exact(Bool.false_ne_true h.symm).elim
 |_=>exact(rfl:_::starEach r env=_)
theorem qCT{env:PySem.Env}:∀{es:List Expr},es.any qAq=false->starEach es env=es.map fun e=>(false,eval e env)
 |[],_=>rfl
 |e::r,h=>by
  have h:=Bool.or_eq_false_iff.mp h
  have ih:=qCT (env:=env) h.2
  exact(star1 h.1).trans (congrArg (List.cons _) ih)
theorem qHT{env:PySem.Env}{pos:Pos}(es:List Expr):backTo pos (es.map fun e=>(false,eval e env))=es.map fun e=>(false,eval e env):=by
 unfold backTo
 rw[List.map_map]
 rfl
noncomputable def listM₂{α β:Type}(P:α->β->Prop):List α->List β->Prop
 |[],l=>(match l with | []=>True|_=>False)
 |a::r,l=>(match l with|b::t=>P a b/\listM₂ P r t | []=>False)
theorem qBC{α β:Type}{f:α->Option β}{P:α->β->Prop}(k:∀a b,f a=some b->P a b):∀{l:List α}{r:List β},listM f l=some r->listM₂ P l r
 |[],r,h=>by cases h;trivial
 |x::l,r,h=>by
  obtain⟨a,ha,h⟩:=qA0 h
  obtain⟨b,hb,rfl⟩:=qA3 h
  exact⟨k _ _ ha,qBC k hb⟩
theorem qB1{ev:EvFn}{env:PySem.Env}{sc:Scope}{ρ:Rho}(R:Room d A)(O:EnvOk env sc) :
  ∀{es:List Expr}{ces:List CE}{as:List AV}{H H':AHeap}{φ:List Addr}{s:Shared},listM₂ (fun e ce=>SndE X prog w base d ev e ce sc) es ces->FR X ψ φ s.heap env sc ρ->SR X prog w base ψ φ H s.heap->evEs ev ces ρ H=some (as,H') ->
   wpAny (model prog w) A (spliced (es.map fun e=>(false,eval e env))) (Outs X prog w base ψ φ s as H') NoE s
 |[],[],as,H,H',φ,s,_,F,S,e=>by
  cases e
  exact PySem.Calls.spliced_nil ⟨φ,Post.refl S,.nil⟩
 |e::es,c::ces,as,H,H',φ,s,hp,F,S,h=>by
  obtain⟨v,H1,h1,h⟩:=qA4 h
  obtain⟨vs,H2,h2,h⟩:=qA4 h
  cases h
  refine PySem.Calls.spliced_cons (qA1 (hp.1 R O F S h1) fun x s1 o=>?_)
  obtain⟨φ1,p1,r1⟩:=o
  refine qA1 (qB1 R O hp.2 (FRs.post F S p1) p1.sr h2) fun xs s2 o2=>?_
  obtain⟨φ2,p2,r2⟩:=o2
  exact⟨φ2,p1.trans p2,.cons (r1.grow0 p2.grow) r2⟩
 |[],_::_,_,_,_,_,_,hp,_,_,_=>hp.elim
 |_::_,[],_,_,_,_,_,hp,_,_,_=>hp.elim
end
end
section
structure PV (X:CX) (P:Prog):Prop where
 mt:∀c m f,mtOf P c m=some f->∃C a x,X.clss[c]?=some C/\X.fns[f]?=some a/\X.names[m]?=some x/\plainGet X.K C x=true/\findIn X.K (.ref C) x=some (some (.ref a)) /\
  typeIn X.K (.ref a)=some (.type "function")/\keepIn X.K (.ref a)=true
 att:∀c a,qDQ P c a=true->∃C x,X.clss[c]?=some C/\X.names[a]?=some x/\plainGet X.K C x=true/\hasDictIn X.K C=true/\findIn X.K (.ref C) x=some none /\
  findIn X.K (.ref C) "__setattr__" = some (some (.builtin "object.__setattr__"))/\plainOver X.K C=true
 new:∀c f,mtOf P c 6=some f->∃C,X.clss[c]?=some C/\makesIn X.K C=true/\keepIn X.K (.ref C)=true
 init:X.names[6]?=some (PySem.Str.ofString "__init__")
 mn:X.names[0]?=some (PySem.Str.ofString "append")/\X.names[1]?=some (PySem.Str.ofString "pop")/\X.names[2]?=some (PySem.Str.ofString "remove")/\X.names[3]?=some (PySem.Str.ofString "extend") /\
  X.names[4]?=some (PySem.Str.ofString "get")/\X.names[5]?=some (PySem.Str.ofString "setdefault")
section
variable{A:Around}{ψ φ φ9:List Addr}{H H' H₁:AHeap}{s s8:Shared}{d:Nat}
theorem KS(G:GW X base){h:Heap}(S:SR X prog w base ψ φ H h):X.K.In h:=G.K.keeps S.keep
theorem VR.handed{h v a}(r:VR X ψ φ h v a):handedIn v=true:=by
 delta ψ φ h v a at r
 induction a using AV.casesOn with
 |none|bool=>cases r;rfl
 |int=>obtain⟨_,rfl⟩:=r;rfl
 |str=>obtain⟨_,_,rfl,_⟩:=r;rfl
 |tup|lst=>obtain⟨_,_,_,rfl,_⟩:=r;rfl
 |ref=>obtain⟨_,rfl,_⟩:=r;rfl
 |inst=>obtain⟨_,_,_,rfl,_⟩:=r;rfl
 |rng=>obtain⟨_,_,_,_,rfl,_⟩:=r;rfl
 |sset=>obtain⟨_,_,_,_,_,_,rfl,_⟩:=r;rfl
theorem qKd{H:AHeap}{i:Nat}{fs:List (Nat×AV)}(e:nsAt H i=some fs):H[i]?=some (.ns fs):=by
 obtain⟨o,h,e⟩:=qA0 e
 cases o with
 |ns=>rw[h];exact congrArg (fun x=>some (AObj.ns x)) (Option.some.inj e)
 |_=>exact qA2 e
inductive InstHere (X:CX) (ψ φ:List Addr) (h:Heap) (x:Value) (c i:Nat) (fs:List (Nat×AV)):Prop
 |mk (xa C dx:Addr) (es:List DictEntry) (n:Nat) (z:x=.ref xa) (hc:X.clss[c]?=some C) (hf:φ[i]?=some dx) (e2:h.get? dx=some (dictOf es n)) (I:InstAt h xa (instObj C dx) C (some (dictOf es n))) (le:es.length<=fs.length) (nr:es.any (·.refKey)=false)
  (k:∀k y,X.names[k]?=some y->match fs.lookup k with
    |some v=>∃z,getL y es=some (some z)/\VR X ψ φ h z v
    |none=>getL y es=some none)
theorem qHz{h:Heap}{x:Value}{c i:Nat}{fs:List (Nat×AV)}(S:SR X prog w base ψ φ H h)(r:VR X ψ φ h x (.inst c i))(hi:nsAt H i=some fs):InstHere X ψ φ h x c i fs:=by
 obtain⟨a,C,dx,z,e1,_,_,hc,hf⟩:=r
 obtain⟨es,n,p,q,nr,k⟩:=S.obj _ _ _ hf (qKd hi)
 exact⟨a,C,dx,es,n,z,hc,hf,p,⟨e1,rfl,rfl,p⟩,q,nr,k⟩
theorem PV.att'(V:PV X P){c a:Nat}{C:Addr}{name:Str}(h:qDQ P c a=true)(hc:X.clss[c]?=some C)(hn:X.names[a]?=some name):plainGet X.K C name=true/\hasDictIn X.K C=true/\findIn X.K (.ref C) name=some none /\
  findIn X.K (.ref C) "__setattr__" = some (some (.builtin "object.__setattr__"))/\plainOver X.K C=true:=by
 delta c a C name at V h hc hn
 (injection (V.att c a h)with C' x';rintro⟨hc',hx',g⟩)
 rw[Option.some.inj (hc.symm.trans hc'),Option.some.inj (hn.symm.trans hx')]
 exact g
theorem qGK(G:GW X base)(V:PV X P){x:Value}{v r:AV}{a:Nat}{name:Str}{ex:Bool}(S:SR X prog w base ψ φ H s.heap)(rv:VR X ψ φ s.heap x v)(hn:X.names[a]?=some name)(e:qAB P v a H=some r) :
  wpAny (model prog w) A (getAttr x name ex) (Out X prog w base ψ φ s r H) NoE s:=by
 induction v using AV.casesOn with
 |inst c i =>
  obtain⟨fs,hi,e⟩:=qA0 e
  obtain⟨ha,e⟩:=qA9 e
  obtain⟨xa,C,dx,es,n,rfl,hc,hf,e2,I,_,_,k⟩:=qHz S rv hi
  obtain⟨g1,g2,g3,_,_⟩:=V.att' ha hc hn
  have:=k a name hn
  rw[e]at this
  obtain⟨z,hz,rz⟩:=this
  exact get_value (KS G S) I (plainGet_of g1).1 (findObj_own g2 g3 rfl hz) rz.handed (qC5 S rz)
 |_=>exact qA2 e
theorem qLH{name y:Str}{hsh:Int}{tk:Tok}{v:Value}:∀{es:List DictEntry},es.any (·.refKey)=false->getL y (putL name hsh (.str name tk) v es)=if y=name then some (some v)else getL y es:=by
 revert name y hsh tk v
 intros name y hsh tk v
 (intros es;intro hr)
 have noref:∀{l:List DictEntry},l.any (·.refKey)=false->getL y l=match l.find? (·.key.isStr y)with|some e=>some (some e.val)|none=>some none:=by
  (intros l;intro hl)
  unfold getL
  cases l.find? (·.key.isStr y)with
  |some e=>rfl
  |none=>simp[hl]
 have hr2:(putL name hsh (.str name tk) v es).any (·.refKey)=false:=by
  induction es with
  |nil=>rfl
  |cons e r ih =>
   delta e r at ih hr
   rw[List.any_cons,Bool.or_eq_false_iff]at hr
   unfold putL
   split
   .rw [List.any_cons,hr.2,Bool.or_false];exact hr.1
   .rw [List.any_cons,ih hr.2,hr.1];rfl
 rw[noref hr2,noref hr]
 clear hr2 noref
 induction es with
 |nil =>
  by_cases q:y=name
  .subst q;simp[putL,Value.isStr]
  .have:(Value.str name tk).isStr y=false:=by simp[Value.isStr];exact fun z=>q z.symm
   simp[putL,this,q]
 |cons e r ih =>
  delta e r at ih hr
  rw[List.any_cons,Bool.or_eq_false_iff]at hr
  unfold putL
  by_cases hk:e.key.isStr name=true
  .rw [if_pos hk,List.find?_cons,List.find?_cons]
   by_cases q:y=name
   .subst q;simp[hk]
   .have:e.key.isStr y=false:=by
     cases z:e.key.isStr y with
     |false=>rfl
     |true=>exact absurd (Value.isStr_inj _ _ _ z hk) q
    simp[this,q]
  .rw [if_neg hk,List.find?_cons,List.find?_cons]
   by_cases hy:e.key.isStr y=true
   .have q:y≠name:=fun z=>hk (z▸hy)
    simp[hy,q]
   .have hy':e.key.isStr y=false:=by simpa using hy
    simp only[hy']
    exact ih hr.2
theorem qGr{name:Str}{hsh:Int}{tk:Tok}{v:Value}:∀{es:List DictEntry},es.any (·.refKey)=false->(putL name hsh (.str name tk) v es).any (·.refKey)=false
 |[],_=>rfl
 |e::r,h=>by
  rw[List.any_cons,Bool.or_eq_false_iff]at h
  unfold putL
  split
  .rw [List.any_cons,h.2,Bool.or_false];exact h.1
  .rw [List.any_cons,qGr h.2,h.1];rfl
theorem qG5{name:Str}{hsh:Int}{key v:Value}:∀{es:List DictEntry},(putL name hsh key v es).length=es.length+(if es.any (·.key.isStr name)then 0 else 1)
 |[]=>rfl
 |e::r=>by
  unfold putL
  by_cases h:e.key.isStr name=true
  .rw [if_pos h,List.any_cons,h];rfl
  .rw [if_neg h,List.any_cons,(Bool.not_eq_true _).mp h,List.length_cons,qG5 (es:=r),List.length_cons,Bool.false_or,Nat.add_right_comm]
theorem qBV{α:Type}{k k':Nat}{v:α}:∀{l:List (Nat×α)},(upd k v l).lookup k'=if k'=k then some v else l.lookup k'
 |[]=>by
  show List.lookup k' [(k,v)]=_
  rw[qAU]
  by_cases q:k'=k
  .rw [if_pos q,if_pos q.symm]
  .rw [if_neg q,if_neg (Ne.symm q)]
 |p::r=>by
  rw[qEC]
  by_cases h:p.1=k
  .rw [if_pos h,qAU,qAU,h]
   by_cases q:k'=k
   .rw [if_pos q,if_pos q.symm]
   .rw [if_neg q,if_neg (Ne.symm q),if_neg (Ne.symm q)]
  .rw [if_neg h,qAU,qAU,qBV (l:=r)]
   by_cases q:p.1=k'
   .rw [if_pos q,if_pos q,if_neg (q▸h)]
   .rw [if_neg q,if_neg q]
theorem qJo{α:Type}{k:Nat}{v:α}:∀{l:List (Nat×α)},(upd k v l).length=l.length+(if(l.lookup k).isSome then 0 else 1)
 |[]=>rfl
 |p::r=>by
  rw[qEC,qAU]
  by_cases h:p.1=k
  .rw [if_pos h,if_pos h];rfl
  .rw [if_neg h,if_neg h,List.length_cons,qJo (l:=r),List.length_cons,Nat.add_right_comm]
theorem qMc{K:Frag}{x C dx:Addr}{ox:Obj}{name:Str}{tk:Tok}{v:Value}{es:List DictEntry}{n:Nat}{R:Result->Shared->Prop}(KX:K.In s.heap)
 (I:InstAt s.heap x ox C (some (dictOf es n)))(hd:ox.dict=some dx)(D:s.heap.get? dx=some (dictOf es n))(hp:plainOver K C=true)(ht:takerIn K C name=some none)(hh:(clsIn K C).any (·.hasDict)=true)
 (hr:es.any (·.refKey)=false)(hz:es.length<=900)
 (h:∀h',h'.get? dx=some (dictOf (putL name (PyData.keyHash w.params name) (.str name s.toks) v es) (putN name es n))->(∀b,b≠dx->h'.get? b=s.heap.get? b)->R (.ok (.ret .none)) { s with heap:=h',toks:=s.toks+1 }) :
  codeAny (model prog w) A (.call (.builtin "object.__setattr__") ⟨[.ref x,.str name tk,v],[]⟩) R s:=by
 delta A s K x C dx ox name tk v es n R at KX I hd D hp ht hh hr hz h
 refine osa_open KX I hp ht ?_
 intros b
 (injection (qCQ hh)with cd;rintro⟨hc,hd'⟩)
 have e:=putName_dict name (PyData.keyHash w.params name) (.str name s.toks) v es n
 have D':(s.heap.update dx (Obj.putName name (PyData.keyHash w.params name) (.str name s.toks) v)).get? dx=some (dictOf (putL name (PyData.keyHash w.params name) (.str name s.toks) v es) (putN name es n)):=by
  rw[Heap.get?_update_self _ D (by rw[e];rfl),e]
 obtain⟨hx,hcl,hn,-⟩:=I
 obtain⟨oc,odi,oda,osl⟩:=ox
 delta oc odi oda osl at hd hx hcl hn
 dsimp only at hcl hd
 subst hcl hd
 refine wpAny_bind (wpAny_pure (wpAny_bind (wpAny_bind (wpAny_loadPart hx (wpAny_bind ((looks_clsIn KX hc).here ?_))))))
 rw[hd']
 refine wpAny_pure (a:=some dx) (wpAny_bind (wpAny_pure (wpAny_bind ?_)))
 unfold nsSet
 refine wpAny_bind (wpAny_bind (wpAny_askSetting (wpAny_pure (wpAny_bind (wpAny_mkText (wpAny_bind (wpAny_loadPart D ?_)))))))
 dsimp only
 have c:(!es.toArray.any (·.key.isStr name)&&es.toArray.any (·.refKey))=false:=by
  rw[<-Array.any_toList,<-Array.any_toList]
  simp[hr]
 rw[aRefKeyMayBeTheName_at,c]
 refine wpAny_updatePart D ?_
 refine wpAny_bind (wpAny_lookBehind D' (pastItsLine_dict (by rw[List.size_toArray,sizeLine_eq,qG5];split<;>lia)) ?_)
 exact wpAny_pure (h _ D' fun b hb=>Heap.get?_update_other _ _ (Ne.symm hb))
theorem qMy{y:Str}{es:List DictEntry}{z:Value}(h:getL y es=some (some z)):es.any (·.key.isStr y)=true:=by
 unfold getL at h
 cases hf:es.find? (·.key.isStr y)with
 |some en=>exact List.any_eq_true.mpr ⟨en,List.mem_of_find?_eq_some hf,List.find?_some (p:=fun e:DictEntry=>e.key.isStr y) hf⟩
 |none =>
  rw[hf]at h
  dsimp only at h
  cases hr:es.any (·.refKey)with
  |true=>rw[hr]at h;exact qA2 h
  |false=>rw[hr]at h;exact nomatch h
theorem qG1(G:GW X base)(V:PV X P){x y:Value}{v u:AV}{a:Nat}{name:Str}(S:SR X prog w base ψ φ H s.heap)(rv:VR X ψ φ s.heap x v)(ru:VR X ψ φ s.heap y u)(hn:X.names[a]?=some name)(e:qB0 P v a u H=some H') :
  wpAny (model prog w) A (setAttr x name y) (fun _ s'=>Post X prog w base [] ψ φ φ H' s s') NoE s:=by
 delta A ψ φ H H' s x y v u a name at G V S rv ru hn e
 induction v using AV.casesOn with
 |inst c i =>
  delta c i at rv e
  (injection (qA0 e)with fs;rintro⟨hi,e⟩)
  obtain⟨ha,e⟩:=qA9 e
  obtain rfl:=Option.some.inj e
  have ha':=Bool.and_eq_true_iff.mp ha
  have hlen:=of_decide_eq_true ha'.2
  obtain⟨xa,C,dx,es,n,rfl,hc,hf,e2,I,hle,hr,k⟩:=qHz S rv hi
  delta xa C dx es n at hc hf e2 I hle hr k rv
  obtain⟨g1,g2,g3,g4,g5⟩:=V.att' ha'.1 hc hn
  refine set_plain (KS G S) I g4 (qMc (s:={ s with toks:=s.toks+1 }) (KS G S) I rfl e2 g5 (by unfold takerIn;rw[g3];rfl) g2 hr (Nat.le_of_lt (Nat.lt_of_le_of_lt hle hlen)) ?_)
  intros h';intro d1 d2
  have keep:∀b ob,b≠dx->s.heap.get? b=some ob->h'.get? b=some ob:=fun b ob hb q=>(d2 b hb).trans q
  have gr:Grow [] φ φ s.heap h':=⟨List.prefix_refl _,fun _ q=>.inl q,fun b ob q nb _=>keep b ob (fun z=>nb (z▸List.mem_of_getElem? hf)) q⟩
  refine Post.turned S hf keep ⟨_,_,d1,?_,qGr hr,?_⟩
  .rw [qG5,qJo]
   have ka:=k a name hn
   cases hl:fs.lookup a with
   |none=>exact Nat.add_le_add hle (by split<;>decide)
   |some v0 =>
    delta v0 at hl
    rw[hl]at ka
    (injection (ka)with z;try clear ka;rintro⟨hz,_⟩)
    rw[qMy hz]
    exact hle
  .intros k' y';intro hk'
   rw[qLH hr,qBV]
   have kk:y'=name↔k'=a:=⟨fun z=>(List.getElem?_inj (List.getElem?_eq_some_iff.mp hk').1 G.nd).mp (hk'.trans (z▸hn.symm)),fun z=>Option.some.inj (hk'.symm.trans (z▸hn))⟩
   by_cases q:k'=a
   .rw [if_pos q,if_pos (kk.mpr q)]
    exact⟨_,rfl,ru.grow0 gr⟩
   .rw [if_neg q,if_neg fun z=>q (kk.mp z)]
    have:=k k' y' hk'
    cases hw:fs.lookup k' with
    |none=>rw[hw]at this;exact this
    |some w' =>
     delta w' at hw
     rw[hw]at this
     (injection (this)with z;try clear this;rintro⟨hz,rz⟩)
     exact⟨z,hz,rz.grow0 gr⟩
 |_=>exact qA2 e
theorem qGy(G:GW X base)(V:PV X P){x:Value}{c i m f:Nat}{name:Str}{pl:Sem Bool}{Q:Value×List Value->Shared->Prop}{E:Value->Shared->Prop}(S:SR X prog w base ψ φ H s.heap)(rv:VR X ψ φ s.heap x (.inst c i))(hn:X.names[m]?=some name)
 (hm:mtOf P c m=some f)(hna:qAo i m H=true)(h:∀a,X.fns[f]?=some a->keepIn X.K (.ref a)=true->Q (.ref a,[x]) s):wpAny (model prog w) A (getMethod x name pl) Q E s:=by
 delta A ψ φ H s x c i m f name pl Q E at G V S rv hn hm hna h
 (injection (qCQ hna)with fs;rintro⟨hi,hna⟩)
 obtain⟨xa,C,dx,es,n,rfl,hc,hf,e2,I,hle,hr,k⟩:=qHz S rv hi
 (injection (V.mt c m f hm)with C' a x';rintro⟨hc',hfa,hx',g1,g2,g3,g4⟩)
 obtain rfl:=Option.some.inj (hc.symm.trans hc')
 obtain rfl:=Option.some.inj (hn.symm.trans hx')
 have:=k m name hn
 rw[Option.isNone_iff_eq_none.mp hna]at this
 refine method_fn (KS G S) I (plainGet_of g1).1 (plainGet_of g1).2 g2 g3 ?_ (h a hfa g4)
 show(lookIn name (dictOf es n)).map _=_
 rw[lookIn_dict,this];rfl
end
end
section
section
variable{A:Around}{ψ φ φ9:List Addr}{H H' H₁:AHeap}{s s8:Shared}{d:Nat}
noncomputable def qFW:Nat->String
 | 0=>"list.append" | 1=>"list.pop" | 2=>"list.remove" | 3=>"list.extend" | 4=>"dict.get" |_=>"dict.setdefault"
theorem qC8{i:Nat}{p:Addr}{vs:Array Value}{n k:Nat}{f:Array Value->Array Value}{l:List AV}(S:SR X prog w base ψ φ H s.heap)(hi:φ[i]?=some p)(e:s.heap.get? p=some (seqObj "list" vs n))(hl:l.length<1000001)
 (r:VRs X ψ φ s.heap (f vs).toList l):Post X prog w base [] ψ φ φ (H.set i (.list l)) s { s with heap:=s.heap.update p (Obj.mapSeq f),toks:=k }/\Grow [] φ φ s.heap (s.heap.update p (Obj.mapSeq f)):=by
 have D:=PySem.IsL.update (h:=s.heap) (l:=p) (items:=vs) (n:=n) e f
 have keep:∀b ob,b≠p->s.heap.get? b=some ob->(s.heap.update p (Obj.mapSeq f)).get? b=some ob:=fun b ob hb q=>(Heap.get?_update_other _ _ (Ne.symm hb)).trans q
 have gr:Grow [] φ φ s.heap (s.heap.update p (Obj.mapSeq f)):=⟨List.prefix_refl _,fun _ q=>.inl q,fun b ob q nb _=>keep b ob (fun z=>nb (z▸List.mem_of_getElem? hi)) q⟩
 exact⟨Post.turned S hi keep (.list D hl (r.grow0 gr)),gr⟩
theorem qGs{vs:Array Value}{v:Value}:(vs.push v).toList=vs.toList++[v]:=by simp
theorem qJR{vs:Array Value}:(vs.eraseIdxIfInBounds (vs.size-1)).toList=vs.toList.dropLast:=by
 by_cases h:vs.size-1<vs.size
 .rw [Array.eraseIdxIfInBounds,dif_pos h,Array.toList_eraseIdx,<-Array.length_toList,List.eraseIdx_length_sub_one]
 .have:vs=#[]:=Array.eq_empty_of_size_eq_zero (Nat.eq_zero_of_not_pos fun p=>h (Nat.sub_lt p (by decide)))
  subst this;rfl
theorem VRs.dropLast{h}:∀{l:List AV}{vs:List Value},VRs X ψ φ h vs l->VRs X ψ φ h vs.dropLast l.dropLast
 |[],_,r=>by cases r;exact .nil
 |[_],_,r=>by obtain⟨v,rfl,_⟩:=r.one;exact .nil
 |_::b::l,_,r=>by
  obtain⟨v,ws,rfl,r,q⟩:=r
  obtain⟨u,us,z,_⟩:=id q
  subst z
  exact .cons r (VRs.dropLast q)
theorem VRs.last{h}{vs:List Value}{l:List AV}{a:AV}(r:VRs X ψ φ h vs l)(e:l.getLast?=some a):∃v,vs[vs.length-1]?=some v/\VR X ψ φ h v a:=by
 rw[List.getLast?_eq_getElem?]at e
 rw[r.length]
 exact r.get e
theorem VRs.erase{h}:∀{l:List AV}{vs:List Value} (j:Nat),VRs X ψ φ h vs l->VRs X ψ φ h (vs.eraseIdx j) (l.eraseIdx j)
 |[],_,_,r=>by cases r;exact .nil
 |_::_,_,0,r=>by obtain⟨v,ws,rfl,_,q⟩:=r;exact q
 |_::_,_,j+1,r=>by obtain⟨v,ws,rfl,r,q⟩:=r;exact .cons r (q.erase j)
theorem int_beq{a b:Int}:(AV.int a).beq (.int b)=decide (a=b):=by
 rw[Bool.eq_iff_iff,AV.beq_iff,decide_eq_true_iff,AV.int.injEq]
inductive ErasePlace (vs:List Value) (l:List AV) (k:Int):Prop
 |mk (j:Nat) (hj:j<vs.length) (h1:qFg vs[j]=k) (h2:∀m (hm:m<vs.length),m<j->qFg vs[m]≠k) (h3:l.eraseIdx j=qBQ (.int k) l)
theorem qEx{h}{k:Int}:∀{l:List AV}{vs:List Value},VRs X ψ φ h vs l->l.all isK1=true->hasAV (.int k) l=true->ErasePlace vs l k
 |[],_,_,_,e=>nomatch e
 |a::l,_,r,hk,e=>by
  obtain⟨v,ws,rfl,r,rs⟩:=r
  have hk:=Bool.and_eq_true_iff.mp hk
  obtain⟨i,hi⟩:=Option.isSome_iff_exists.mp hk.1
  obtain rfl:=qAZ hi
  obtain⟨t,rfl⟩:=r
  by_cases q:i=k
  .exact ⟨0,Nat.zero_lt_succ _,q,fun m _ h=>absurd h (Nat.not_lt_zero _),by rw[qE3,if_pos (by rw[int_beq];exact decide_eq_true q)];rfl⟩
  .have nb:(AV.int i).beq (.int k)=false:=by rw[int_beq];exact decide_eq_false q
   rw[qFh,nb,Bool.false_or]at e
   obtain⟨j,hj,h1,h2,h3⟩:=qEx rs hk.2 e
   refine⟨j+1,Nat.succ_lt_succ hj,h1,fun m hm hlt=>?_,?_⟩
   .cases m with
    |zero=>exact q
    |succ m=>exact h2 m (Nat.lt_of_succ_lt_succ hm) (Nat.lt_of_succ_lt_succ hlt)
   .rw [List.eraseIdx_cons_succ,h3,qE3,nb];rfl
theorem qIC{h}:∀{l:List AV}{vs:List Value},VRs X ψ φ h vs l->l.all isK1=true->∀v∈vs,∃t,v=.int (qFg v) t
 |[],_,r,_=>by cases r;exact fun _ q=>nomatch q
 |a::l,_,r,hk=>by
  obtain⟨v,ws,rfl,r,rs⟩:=r
  have hk:=Bool.and_eq_true_iff.mp hk
  obtain⟨i,hi⟩:=Option.isSome_iff_exists.mp hk.1
  obtain⟨t,rfl⟩:=(r.isInt hi).2
  intro u hu
  cases hu with
  |head=>exact⟨t,rfl⟩
  |tail _ hu=>exact qIC rs hk.2 u hu
theorem qHe{K:Type} [DecidableEq K]{kvs:List (K×Value)}{k:K}{v:Value}(h:valueAt kvs k=none):stored kvs k v=kvs++[(k,v)]:=by
 unfold stored
 rw[if_neg]
 intro q
 obtain⟨p,hp,hk⟩:=List.any_eq_true.mp q
 unfold valueAt at h
 cases hf:kvs.find? (fun kv=>kv.1=k)with
 |none=>exact(List.find?_eq_none.mp hf p hp) hk
 |some p'=>rw[hf]at h;cases h
theorem qF2{i:Nat}{p:Addr}{h':Heap}{k:Nat}{o:AObj}(S:SR X prog w base ψ φ H s.heap)(hi:φ[i]?=some p)(hs:Heap.SameBut p s.heap h')(ho:Grow [] φ φ s.heap h'->ObjR X prog w ψ φ h' p o) :
  Post X prog w base [] ψ φ φ (H.set i o) s { s with heap:=h',toks:=k }/\Grow [] φ φ s.heap h':=by
 have keep:∀b ob,b≠p->s.heap.get? b=some ob->h'.get? b=some ob:=fun b ob hb q=>(hs.2 b hb).trans q
 have gr:Grow [] φ φ s.heap h':=⟨List.prefix_refl _,fun _ q=>.inl q,fun b ob q nb _=>keep b ob (fun z=>nb (z▸List.mem_of_getElem? hi)) q⟩
 exact⟨Post.turned S hi keep (ho gr),gr⟩
theorem qKf{a:Addr}(S:SR X prog w base ψ φ H s.heap){i:Nat}(hi:φ[i]?=some a):(a==sysModules)=false:=by
 have:=(S.fresh a (List.mem_of_getElem? hi)).2.1
 have e:sysModules=1:=rfl
 rw[beq_eq_false_iff_ne,e]
 intro q;rw[q]at this;exact absurd this (by decide)
theorem qB7{α β:Type}:∀{l:List α}{m:List β}{a:α}{b:β},l.length=m.length->(l++[a]).zip (m++[b])=l.zip m++[(a,b)]
 |[],[],_,_,_=>rfl
 |x::l,y::m,a,b,h=>congrArg (List.cons (x,y)) (qB7 (l:=l) (m:=m) (Nat.succ.inj h))
theorem qGG{i:Nat}{l:List AV}{p:Addr}(S:SR X prog w base ψ φ H s.heap)(hp:φ[i]?=some p)(ho:H[i]?=some (.list l)):ListO X ψ φ s.heap p l:=S.obj _ _ _ hp ho
theorem qHW{p:Addr}{i:Nat}{l:List AV}{y:Value}{a:AV}(S:SR X prog w base ψ φ H s.heap)(hp:φ[i]?=some p)(ho:H[i]?=some (.list l))(ry:VR X ψ φ s.heap y a)(hz:l.length<900000) :
  wpAny (model prog w) A (call (.builtin "list.append") [.ref p,y]) (Out X prog w base ψ φ s .none (H.set i (.list (l++[a])))) NoE s:=by
 obtain⟨vs,n,e1,q,r⟩:=qGG S hp ho
 refine call_meets F.slot_list_append ⟨_,e1,rfl⟩ F.entry_list_append (F.args_list_append_2 _ _) (PySem.list_append _ _ _ _ (by rw[qAT r,qBP];omega)) ⟨e1,?_⟩
 exact⟨φ,(qC8 (k:=s.toks) (f:=fun x=>x.push y) (l:=l++[a]) S hp e1 (by rw[List.length_append];exact Nat.lt_of_lt_of_le (Nat.succ_lt_succ hz) (by decide)) (by rw[qGs];exact r.append (.cons ry .nil))).1,.none⟩
theorem qKS{p:Addr}{i:Nat}{l:List AV}{a:AV}(S:SR X prog w base ψ φ H s.heap)(hp:φ[i]?=some p)(ho:H[i]?=some (.list l))(hz:l.getLast?=some a) :
  wpAny (model prog w) A (call (.builtin "list.pop") [.ref p]) (Out X prog w base ψ φ s a (H.set i (.list l.dropLast))) NoE s:=by
 obtain⟨vs,n,e1,q,r⟩:=qGG S hp ho
 obtain⟨y,hy,ry⟩:=r.last hz
 rw[Array.getElem?_toList,Array.length_toList]at hy
 refine call_meets F.slot_list_pop ⟨_,e1,rfl⟩ F.entry_list_pop (F.args_list_pop_1 _) (MeetsSeq.list_pop_last _ _ _ y hy (qDb r q)) ⟨e1,?_⟩
 obtain⟨p1,g1⟩:=qC8 (k:=s.toks) (f:=fun xs=>xs.eraseIdxIfInBounds (vs.size-1)) (l:=l.dropLast) S hp e1 (by rw[List.length_dropLast];exact Nat.lt_of_le_of_lt (Nat.sub_le _ _) q) (by rw[qJR];exact r.dropLast)
 exact⟨φ,p1,ry.grow0 g1⟩
theorem qGo{p:Addr}{i:Nat}{l:List AV}{k:Int}{t:Tok}(S:SR X prog w base ψ φ H s.heap)(hp:φ[i]?=some p)(ho:H[i]?=some (.list l))(hz:(l.all isK1&&hasAV (.int k) l)=true) :
  wpAny (model prog w) A (call (.builtin "list.remove") [.ref p,.int k t]) (Out X prog w base ψ φ s .none (H.set i (.list (qBQ (.int k) l)))) NoE s:=by
 obtain⟨vs,n,e1,q,r⟩:=qGG S hp ho
 have hz':=Bool.and_eq_true_iff.mp hz
 obtain⟨j,hj,h1,h2,h3⟩:=qEx r hz'.1 hz'.2
 have ai:=qIC r hz'.1
 rw[Array.length_toList]at hj
 refine call_meets F.slot_list_remove ⟨_,e1,rfl⟩ F.entry_list_remove (F.args_list_remove_2 _ _) (MeetsSeq.list_remove _ vs n (.int k t) (fun y=>qFg y==k) (fun y hy=>?_) j hj (by simpa using h1) (fun m hm hlt=>by have q9:=h2 m (by rw[Array.length_toList];exact hm) hlt;rw[Array.getElem_toList]at q9;simpa using q9) (qDb r q)) ⟨e1,?_⟩
 .obtain ⟨t',ht'⟩:=ai y (by simpa using hy)
  have q9:=MeetsSeq.EqGives.int (qFg y) k t' t
  rw[<-ht']at q9
  exact q9
 .exact ⟨φ,(qC8 (k:=s.toks) (f:=fun xs=>xs.eraseIdxIfInBounds j) (l:=qBQ (.int k) l) S hp e1 (by rw[<-h3];exact Nat.lt_of_le_of_lt (List.length_eraseIdx_le l j) q) (by
   rw[<-h3,Array.eraseIdxIfInBounds,dif_pos hj,Array.toList_eraseIdx];exact r.erase j)).1,.none⟩
theorem qHF{p:Addr}{i:Nat}{l l':List AV}{y:Value}(S:SR X prog w base ψ φ H s.heap)(hp:φ[i]?=some p)(ho:H[i]?=some (.list l))(ry:VR X ψ φ s.heap y (.lst l'))(hz:l.length+l'.length<1000000) :
  wpAny (model prog w) A (call (.builtin "list.extend") [.ref p,y]) (Out X prog w base ψ φ s .none (H.set i (.list (l++l')))) NoE s:=by
 obtain⟨vs,n,e1,q,r⟩:=qGG S hp ho
 obtain⟨a2,vs2,n2,rfl,e2,_,_,k2,r2⟩:=ry
 refine call_meets F.slot_list_extend ⟨_,e1,rfl⟩ F.entry_list_extend (F.args_list_extend_2 _ _) (AutoSeq1.list_extend_list_list_0 _ _ _ _ _ _ ?_ (qDb r q) (Nat.le_succ_of_le (qGV r r2 hz))) ⟨e1,e2,?_⟩
 .rw [qAT r,qAT r2]
  have:Builtin.List.listTooLong (l.length+l'.length)=false:=by unfold Builtin.List.listTooLong;simp[qBP];omega
  rw[this,Bool.and_false];exact Bool.false_ne_true
 .exact ⟨φ,(qC8 (k:=s.toks) (f:=fun x=>x++vs2) (l:=l++l') S hp e1 (qI5 hz) (by rw[Array.toList_append];exact r.append r2)).1,.none⟩
theorem qLG{p:Addr}{i:Nat}{kvs:List (Int×AV)}{k:Int}{t:Tok}{z:Value}{dv:AV}(S:SR X prog w base ψ φ H s.heap)(hp:φ[i]?=some p)(ho:H[i]?=some (.dictI kvs))(rz:VR X ψ φ s.heap z dv) :
  wpAny (model prog w) A (call (.builtin "dict.get") [.ref p,.int k t,z]) (Out X prog w base ψ φ s ((kvs.lookup k).getD dv) H) NoE s:=by
 obtain⟨ks,vs,l,rfl,e1,q,q2,r⟩:=S.obj _ _ _ hp ho
 refine call_meetsIn F.slot_dict_get e1.typeIs F.entry_dict_get (F.args_dict_get_3 _ _ _) (meets_dict_get_default (intKind prog w) _ (qCM k _) (qKf S hp) z) ⟨_,e1.mapOf,?_⟩
 have g:=qDH (k:=k) (ks:=ks) r
 cases ha:(ks.zip l).lookup k with
 |some a =>
  rw[ha]at g
  obtain⟨y,hy,ry⟩:=g
  rw[hy]
  exact qC5 S ry
 |none =>
  rw[ha]at g
  rw[show valueAt (ks.zip vs) k=none from g]
  exact qC5 S rz
theorem qEA{p:Addr}{i:Nat}{kvs:List (Int×AV)}{k:Int}{t:Tok}{z:Value}{dv v:AV}(S:SR X prog w base ψ φ H s.heap)(hp:φ[i]?=some p)(ho:H[i]?=some (.dictI kvs))(rz:VR X ψ φ s.heap z dv)
 (h1:∀u,kvs.lookup k=some u->v=u/\H'=H)(h2:kvs.lookup k=none->kvs.length<900000/\v=dv/\H'=H.set i (.dictI (kvs++[(k,dv)]))) :
  wpAny (model prog w) A (call (.builtin "dict.setdefault") [.ref p,.int k t,z]) (Out X prog w base ψ φ s v H') NoE s:=by
 delta A ψ φ H H' s p i kvs k t z dv v at S hp ho rz h1 h2
 obtain⟨ks,vs,l,rfl,e1,q,q2,r⟩:=S.obj _ _ _ hp ho
 delta ks vs l at e1 q q2 r ho h1 h2
 have g:=qDH (k:=k) (ks:=ks) r
 have hzl:(ks.zip vs).length<=sizeLine:=by rw[List.length_zip,qBP];exact Nat.le_trans (Nat.min_le_left _ _) (Nat.le_of_lt (Nat.lt_trans q2 (by decide)))
 refine call_meetsIn F.slot_dict_setdefault e1.typeIs F.entry_dict_setdefault (F.args_dict_setdefault_3 _ _ _) (kt_meets_setdefault (intKind prog w) p (qCM k t) (qKf S hp) z) ⟨_,e1,hzl,?_,?_⟩
 .intros u;intro hu
  rw[hu]at g
  cases ha:(ks.zip l).lookup k with
  |some a =>
   delta a at ha
   rw[ha]at g
   (injection (g)with y;try clear g;rintro⟨hy,ry⟩)
   obtain⟨rfl,rfl⟩:=h1 a ha
   exact qC5 S (Option.some.inj hy▸ry)
  |none=>rw[ha]at g;exact qNz (show some u=none from g)
 .intro hn;intros h';intro hd hs
  rw[hn]at g
  cases ha:(ks.zip l).lookup k with
  |some a =>
   delta a at ha
   rw[ha]at g
   (injection (g)with y;try clear g;rintro⟨hy,ry⟩)
   exact qA2 hy
  |none =>
   obtain⟨hz,rfl,rfl⟩:=h2 ha
   have hln:ks.length=l.length:=by rw[q,r.length]
   rw[List.length_zip,<-hln,Nat.min_self]at hz
   obtain⟨p1,g1⟩:=qF2 (k:=s.toks+1) (o:=.dictI (ks.zip l++[(k,v)])) S hp hs fun gr=>by
    rw[<-qB7 hln]
    refine .dictI (vs:=vs++[z]) ?_ (by rw[List.length_append,List.length_append,q];rfl) (by rw[List.length_append];exact Nat.lt_of_lt_of_le (Nat.succ_lt_succ hz) (by decide)) ((r.append (.cons rz .nil)).grow0 gr)
    rw[qB7 q,<-qHe hn];exact hd
   exact⟨φ,p1,rz.grow0 g1⟩
theorem qHu{p:Addr}{i:Nat}{l:List AV}{xs:List Value}{as:List AV}{v:AV}(S:SR X prog w base ψ φ H s.heap)(hp:φ[i]?=some p)(ho:H[i]?=some (.list l))(ra:VRs X ψ φ s.heap xs as):∀m,methL i l as H m=some (v,H') ->
  wpAny (model prog w) A (call (.builtin (qFW m)) (.ref p::xs)) (Out X prog w base ψ φ s v H') NoE s
 | 0,e=>by
  obtain⟨a,h1,e⟩:=qA0 e
  obtain⟨hz,e⟩:=qA9 e
  obtain⟨rfl,rfl⟩:=qA6 e
  obtain⟨y,rfl,ry⟩:=ra.one_of h1
  exact qHW S hp ho ry hz
 | 1,e=>by
  obtain⟨h1,e⟩:=qA9 e
  obtain⟨a,hz,e⟩:=qA3 e
  cases e
  cases List.isEmpty_iff.mp h1
  cases ra
  exact qKS S hp ho hz
 | 2,e=>by
  obtain⟨k,h1,e⟩:=qA0 e
  obtain⟨hz,e⟩:=qA9 e
  obtain⟨rfl,rfl⟩:=qA6 e
  obtain⟨a,h2,h3⟩:=qA0 h1
  obtain⟨y,rfl,ry⟩:=ra.one_of h2
  obtain⟨t,rfl⟩:=(ry.isInt h3).2
  exact qGo S hp ho hz
 | 3,e=>by
  obtain⟨l',h1,e⟩:=qA0 e
  obtain⟨hz,e⟩:=qA9 e
  obtain⟨rfl,rfl⟩:=qA6 e
  obtain⟨a,h2,h3⟩:=qA0 h1
  obtain⟨y,rfl,ry⟩:=ra.one_of h2
  exact qHF S hp ho (qBa h3▸ry) hz
 |_+4,e=>qA2 e
theorem qHv{p:Addr}{i:Nat}{kvs:List (Int×AV)}{xs:List Value}{as:List AV}{v:AV}(S:SR X prog w base ψ φ H s.heap)(hp:φ[i]?=some p)(ho:H[i]?=some (.dictI kvs))(ra:VRs X ψ φ s.heap xs as):∀m,methD i kvs as H m=some (v,H') ->
  wpAny (model prog w) A (call (.builtin (qFW m)) (.ref p::xs)) (Out X prog w base ψ φ s v H') NoE s
 | 0,e | 1,e | 2,e | 3,e=>qA2 e
 | 4,e=>by
  obtain⟨q,h1,e⟩:=qA0 e
  obtain⟨k,h2,e⟩:=qA3 e
  cases e
  obtain⟨y,z,rfl,ry,rz⟩:=ra.two_of h1
  obtain⟨t,rfl⟩:=(ry.isInt h2).2
  exact qLG S hp ho rz
 | 5,e=>by
  obtain⟨q,h1,e⟩:=qA0 e
  obtain⟨k,h2,e⟩:=qA0 e
  obtain⟨y,z,rfl,ry,rz⟩:=ra.two_of h1
  obtain⟨t,rfl⟩:=(ry.isInt h2).2
  refine qEA S hp ho rz (fun u hu=>?_) fun hn=>?_
  .rw [hu]at e
   obtain⟨rfl,rfl⟩:=qA6 e
   exact⟨rfl,rfl⟩
  .rw [hn]at e
   obtain⟨hz,e⟩:=qA9 e
   obtain⟨rfl,rfl⟩:=qA6 e
   exact⟨hz,rfl,rfl⟩
 |_+6,e=>qA2 e
theorem qJD{x:Value}{i m:Nat}{xs:List Value}{as:List AV}{v:AV}(S:SR X prog w base ψ φ H s.heap)(rx:VR X ψ φ s.heap x (.ref i))(ra:VRs X ψ φ s.heap xs as)(e:qAg i m as H=some (v,H')) :
  wpAny (model prog w) A (call (.builtin (qFW m)) (x::xs)) (Out X prog w base ψ φ s v H') NoE s:=by
 obtain⟨p,rfl,hp⟩:=rx
 obtain⟨o,ho,e⟩:=qA0 e
 cases o with
 |list l=>exact qHu S hp ho ra m e
 |dictI kvs=>exact qHv S hp ho ra m e
 |_=>exact qA2 e
end
end
section
section
variable{A:Around}{ψ φ φ9:List Addr}{H H' H₁:AHeap}{s s8:Shared}{d:Nat}
theorem qHf{K:Type} [DecidableEq K]{k k':K}{v u:Value}{r:List (K×Value)}(h:∀p∈r,p.1=k->k'≠k):stored ((k',u)::r) k v=if k'=k then(k,v)::r else(k',u)::stored r k v:=by
 unfold stored
 by_cases e:k'=k
 .rw [if_pos e,if_pos (by rw[List.any_cons,decide_eq_true e,Bool.true_or]),List.map_cons,if_pos e,e]
  congr 1
  refine(List.map_congr_left fun p hp=>?_).trans (List.map_id' r)
  rw[if_neg fun z=>h p hp z e]
 .rw [if_neg e,List.any_cons,decide_eq_false e,Bool.false_or,List.map_cons,if_neg e]
  cases r.any fun p=>decide (p.1=k)<;>rfl
inductive UpdZip (X:CX) (ψ φ:List Addr) (h:Heap) {κ K:Type} [DecidableEq κ] [DecidableEq K] (k:κ) (x:K) (a:AV) (v:Value) (ks:List κ) (ss:List K) (vs:List Value) (l:List AV):Prop
 |mk (ks':List κ) (ss':List K) (vs':List Value) (l':List AV) (g1:upd k a (ks.zip l)=ks'.zip l') (g2:stored (ss.zip vs) x v=ss'.zip vs') (g3:ks'.length=vs'.length) (g4:ss'.length=vs'.length) (g5:VRs X ψ φ h vs' l') (g6:ks'.length<=ks.length+1)
  (g7:(ks'=ks/\ss'=ss)\/(ks'=ks++[k]/\ss'=ss++[x]))
theorem qHb{κ K:Type} [DecidableEq κ] [DecidableEq K]{k:κ}{x:K}{a:AV}{v:Value}{h:Heap}(ra:VR X ψ φ h v a) :
  ∀{l:List AV}{ks:List κ}{ss:List K}{vs:List Value},VRs X ψ φ h vs l->ks.length=l.length->ss.length=l.length->(∀(i:Nat) (a:κ) (b:K),ks[i]?=some a->ss[i]?=some b->(a=k↔b=x))->ss.Nodup->UpdZip X ψ φ h k x a v ks ss vs l
 |[],ks,ss,vs,r,h1,h2,_,_=>by
  obtain rfl:=List.eq_nil_of_length_eq_zero h1
  obtain rfl:=List.eq_nil_of_length_eq_zero h2
  cases r
  exact⟨[k],[x],[v],[a],rfl,rfl,rfl,rfl,.cons ra .nil,Nat.le_refl _,.inr ⟨rfl,rfl⟩⟩
 |a0::l,[],_,_,_,h1,_,_,_=>nomatch h1
 |a0::l,_::_,[],_,_,_,h2,_,_=>nomatch h2
 |a0::l,k'::ks,x'::ss,_,r,h1,h2,h3,h4=>by
  obtain⟨v0,vs,rfl,r0,rs⟩:=r
  have kk:=h3 0 k' x' rfl rfl
  have h4:=List.nodup_cons.mp h4
  have hl:ss.length=vs.length:=(Nat.succ.inj h2).trans rs.length.symm
  have st:=qHf (k:=x) (k':=x') (v:=v) (u:=v0) (r:=ss.zip vs) fun p hp z e=>h4.1 (e.trans z.symm▸(List.of_mem_zip hp).1)
  by_cases e:k'=k
  .refine ⟨k'::ks,x'::ss,v::vs,a::l,?_,?_,congrArg (·+1) ((Nat.succ.inj h1).trans rs.length.symm),congrArg (·+1) hl,.cons ra rs,Nat.le_succ _,.inl ⟨rfl,rfl⟩⟩
   .rw [List.zip_cons_cons,qEC,if_pos e,e];rfl
   .rw [List.zip_cons_cons,st,if_pos (kk.mp e),kk.mp e];rfl
  .obtain ⟨ks',ss',vs',l',g1,g2,g3,g4,g5,g6,g7⟩:=qHb ra rs (Nat.succ.inj h1) (Nat.succ.inj h2) (fun i a b q q'=>h3 (i+1) a b q q') h4.2
   refine⟨k'::ks',x'::ss',v0::vs',a0::l',?_,?_,congrArg (·+1) g3,congrArg (·+1) g4,.cons r0 g5,Nat.succ_le_succ g6,?_⟩
   .rw [List.zip_cons_cons,qEC,if_neg e,g1];rfl
   .rw [List.zip_cons_cons,st,if_neg fun z=>e (kk.mpr z),g2];rfl
   .rcases g7 with⟨rfl,rfl⟩|⟨rfl,rfl⟩
    .exact .inl ⟨rfl,rfl⟩
    .exact .inr ⟨rfl,rfl⟩
theorem qFm{K:Type} [DecidableEq K]{knd:KeyKind prog w K}{h:Heap}{p:Addr}{ss:List K}{vs:List Value}(D:h.DictOf knd p (ss.zip vs))(hl:ss.length=vs.length):ss.Nodup:=by
 obtain⟨_,_,_,_,_,_,_,_,n⟩:=D
 rwa [List.map_fst_zip (Nat.le_of_eq hl)]at n
theorem qHV(G:GW X base){x y z:Value}{o i u:AV}(S:SR X prog w base ψ φ H s.heap)(rx:VR X ψ φ s.heap x o)(ry:VR X ψ φ s.heap y i)(rz:VR X ψ φ s.heap z u)(e:qAu o i u H=some H') :
  wpAny (model prog w) A (setItem x y z) (fun _ s'=>Post X prog w base [] ψ φ φ H' s s') NoE s:=by
 delta A ψ φ H H' s x y z o i u at G S rx ry rz e
 induction o using AV.casesOn with
 |ref r =>
  delta r at rx e
  (injection (qA3 e)with o';rintro⟨h0,rfl⟩)
  (injection (qA0 h0)with o;rintro⟨ho,e⟩)
  (injection (rx)with p;try clear rx;rintro⟨rfl,hp⟩)
  have ob:=S.obj _ _ _ hp ho
  cases o with
  |list l =>
   delta l at ho e ob
   (injection (qA0 e)with k;rintro⟨hk,e⟩)
   obtain⟨hz,e⟩:=qA9 e
   obtain rfl:=Option.some.inj e
   (injection ((ry.isInt hk).2)with t;rintro rfl)
   obtain⟨vs,n,e1,q,r1⟩:=ob
   have hs:=qAT r1
   refine ki_setAt e1 hz.1 (Int.lt_trans hz.2 (Int.lt_trans (Int.ofNat_lt.mpr q) (by decide))) (by rw[hs];exact hz.2) ?_
   exact(qC8 (k:=s.toks) (f:=fun x=>x.setIfInBounds k.toNat z) (l:=l.set k.toNat u) S hp e1 (by rw[List.length_set];exact q) (by rw[Array.toList_setIfInBounds];exact r1.set k.toNat rz)).1
  |dictI kvs =>
   delta kvs at ho e ob
   (injection (qA0 e)with k;rintro⟨hk,e⟩)
   obtain⟨hz,e⟩:=qA9 e
   obtain rfl:=Option.some.inj e
   (injection ((ry.isInt hk).2)with t;rintro rfl)
   obtain⟨ks,vs,l,rfl,e1,q,q2,r1⟩:=ob
   obtain⟨ks',ss',vs',l',g1,g2,g3,g4,g5,g6,g7⟩:=qHb (k:=k) (x:=k) rz r1 (q.trans r1.length) (q.trans r1.length) (fun i a b h1 h2=>by rw[Option.some.inj (h1.symm.trans h2)]) (qFm e1 q)
   have hks:ks'=ss':=by rcases g7 with⟨rfl,rfl⟩|⟨rfl,rfl⟩<;>rfl
   rw[List.length_zip,<-r1.length,q,Nat.min_self]at hz
   refine wpAny_setItem_pairs (qCM k _) e1 (fun h' hd hs=>?_) (by rw[List.length_zip,qBP];exact Nat.le_trans (Nat.min_le_right _ _) (Nat.le_trans (Nat.le_of_lt hz) (by decide)))
   rw[g1]
   exact(qF2 (k:=s.toks+1) (o:=.dictI (ks'.zip l')) S hp hs fun gr=>.dictI (by rw[g2,<-hks]at hd;exact hd) g3 (Nat.lt_of_le_of_lt g6 (Nat.lt_of_lt_of_le (Nat.succ_lt_succ (Nat.lt_of_le_of_lt (Nat.le_of_eq q) hz)) (by decide))) (g5.grow0 gr)).1
  |dictS kvs =>
   delta kvs at ho e ob
   (injection (qA0 e)with k;rintro⟨hk,e⟩)
   obtain⟨hz,e⟩:=qA9 e
   obtain rfl:=Option.some.inj e
   obtain rfl:=qBW hk
   (injection (ry)with xs t;try clear ry;rintro⟨rfl,hx⟩)
   obtain⟨ks,ss,vs,l,rfl,e1,q,q2,q3,r1⟩:=ob
   have hkl:ks.length=ss.length:=by have:=congrArg List.length q;rwa [List.length_map,List.length_map]at this
   obtain⟨ks',ss',vs',l',g1,g2,g3,g4,g5,g6,g7⟩:=qHb (k:=k) (x:=xs) rz r1 (hkl.trans (q2.trans r1.length)) (q2.trans r1.length) (fun i a b h1 h2=>by
    have h3:X.names[a]?=some b:=by
     have:=congrArg (fun z=>z[i]?) q
     rw[List.getElem?_map,List.getElem?_map,h1,h2]at this
     exact Option.some.inj this
    exact⟨fun z=>Option.some.inj (h3.symm.trans (z▸hx)),fun z=>((List.getElem?_inj (List.getElem?_eq_some_iff.mp hx).1 G.nd).mp (hx.trans (z▸h3.symm))).symm⟩) (qFm e1 q2)
   rw[List.length_zip,<-r1.length,hkl,q2,Nat.min_self]at hz
   refine wpAny_setItem_pairs (qDk xs _) e1 (fun h' hd hs=>?_) (by rw[List.length_zip,qBP];exact Nat.le_trans (Nat.min_le_right _ _) (Nat.le_trans (Nat.le_of_lt hz) (by decide)))
   rw[g1]
   exact(qF2 (k:=s.toks+1) (o:=.dictS (ks'.zip l')) S hp hs fun gr=>.dictS (ss:=ss') (by rw[g2]at hd;exact hd) (by
    rcases g7 with⟨rfl,rfl⟩|⟨rfl,rfl⟩
    .exact q
    .rw [List.map_append,List.map_append,q];exact congrArg (fun y=>_++[y]) hx) g4 (Nat.lt_of_le_of_lt g6 (Nat.lt_of_lt_of_le (Nat.succ_lt_succ (Nat.lt_of_le_of_lt (Nat.le_of_eq (hkl.trans q2)) hz)) (by decide))) (g5.grow0 gr)).1
  |ns=>exact qA2 e
 |_=>exact qA2 e
end
end
section
section
variable{A:Around}{ψ φ φ9:List Addr}{H H' H₁:AHeap}{s s8:Shared}{d:Nat}
structure RoomC (d:Nat) (A:Around):Prop where
 handled:A.handled=none
 depth:A.depth+2*d+1<recursionLimit
 units:A.units+8*d+196<cLine
theorem Room.toC{d A}(R:Room d A):RoomC d A:=⟨R.handled,Nat.lt_of_succ_lt R.depth,Nat.lt_of_le_of_lt (Nat.add_le_add_left (by decide) _) R.units⟩
theorem qJr{args:Args}:(Code.builtin "type.__call__" args).weight=0+(if(Code.builtin "type.__call__" args).isCreation then 1 else 0):=by kernel_rfl
theorem qMC{args:Args}:(Code.builtin "type.__call__" args).cUnits=1:=by kernel_rfl
theorem qMD{args:Args}:(A.under (.builtin "type.__call__" args)).depth<=A.depth+1/\(A.under (.builtin "type.__call__" args)).units<=A.units+4/\(A.under (.builtin "type.__call__" args)).handled=A.handled :=
 ⟨Nat.add_le_add_left (by rw[qJr];split<;>decide) _,Nat.add_le_add_left (by rw[qMC];decide) _,rfl⟩
theorem Room.under{d A}{args:Args}(R:Room d A):RoomC d (A.under (.builtin "type.__call__" args)):=by
 obtain⟨h1,h2,h3⟩:=qMD (A:=A) (args:=args)
 exact⟨h3.trans R.handled,Nat.lt_of_le_of_lt (Nat.add_le_add_right (Nat.add_le_add_right h1 _) 1) (by rw[Nat.add_right_comm A.depth 1];exact R.depth),Nat.lt_of_le_of_lt (Nat.add_le_add_right (Nat.add_le_add_right h2 _) 196) (by rw[Nat.add_right_comm A.units 4];exact R.units)⟩
noncomputable def SndCF(X:CX)(prog:Program)(w:World)(base:Heap)(d:Nat)(cf:qAb):Prop :=
 ∀{A:Around}{f a:Nat}{xs:List Value}{as:List AV}{H H':AHeap}{v:AV}{ψ φ:List Addr}{s:Shared},X.fns[f]?=some a->RoomC d A->SR X prog w base ψ φ H s.heap->VRs X ψ φ s.heap xs as->cf f as H=some (v,H') ->
  codeAny (model prog w) A (.call (.ref a) ⟨xs,[]⟩) (fun r s'=>match r with|.ok (.ret x)=>Out X prog w base ψ φ s v H' x s'|_=>False) s
theorem SndCF.call{cf:qAb}(C:SndCF X prog w base d cf){f a:Nat}{xs:List Value}{as:List AV}{v:AV}(hf:X.fns[f]?=some a)(R:RoomC d A)(S:SR X prog w base ψ φ H s.heap)(r:VRs X ψ φ s.heap xs as)(e:cf f as H=some (v,H')) :
  wpAny (model prog w) A (call (.ref a) xs) (Out X prog w base ψ φ s v H') NoE s:=by
 refine wpAny_call (codeAny_mono (C hf R S r e) fun r s' q=>?_)
 rcases r with e|(v|_|_|_)<;>first|exact q|exact q.elim
theorem qBE{M:Model}{E:Value->Shared->Prop}{f:Value}{env:PySem.Env}{es:List Expr}{Q:Args->Shared->Prop}(h:wpAny M A (spliced (es.map fun e=>(false,eval e env))) (fun vs s'=>Q ⟨vs,[]⟩ s') E s) :
  wpAny M A (evalArgs f true (es.map fun e=>(false,eval e env)) []) Q E s:=by
 unfold evalArgs
 cases es with
 |nil =>
  show wpAny M A (spliced [] >>= _) Q E s
  refine wpAny_bind (wpAny_mono h (fun vs s' h'=>?_) fun _ _ x=>x)
  refine wpAny_holding ?_
  exact wpAny_bind (wpAny_pure (wpAny_bind (wpAny_pure (wpAny_pure h'))))
 |cons e es =>
  show wpAny M A (spliced ((e::es).map fun e=>(false,eval e env)) >>= _) Q E s
  refine wpAny_bind (wpAny_mono h (fun vs s' h'=>?_) fun _ _ x=>x)
  refine wpAny_holding ?_
  exact wpAny_bind (wpAny_pure (wpAny_bind (wpAny_pure (wpAny_pure h'))))
theorem qBA{env:PySem.Env}(es:List Expr):(es.map fun e=>((false,eval e env):Bool×Sem Value)).any (·.1)=false:=by
 induction es with
 |nil=>rfl
 |cons e r ih=>rw[List.map_cons,List.any_cons,ih];rfl
theorem qBg{env:PySem.Env}{pos:Pos}{es:List Expr}(h:es.any qAq=false):backTo pos (starEach es env)=es.map fun e=>(false,eval e env):=by
 rw[qCT h,qHT]
theorem qE0(G:GW X base){env:PySem.Env}{sc:Scope}(O:EnvOk env sc){x:Str}{p:Pos}{v:Value}{Q:Value->Shared->Prop}{E:Value->Shared->Prop}(S:SR X prog w base ψ φ H s.heap)(hk:qAE sc x=some .globalImplicit)
 (e:nsIn X.K mainGlobals x=some (some v))(hd:(x==("__debug__":Str))=false)(h:Q v s):wpAny (model prog w) A (eval (.Name x p) env) Q E s:=by
 obtain⟨mg,hm⟩:=G.g
 have hm':=hm.keeps (h':=s.heap) (fun b o e=>S.keep b o e)
 refine PySem.Calls.Name_function_global O.kind (O.glob x hk) (PySem.Calls.loadGlobal_global (by rw[O.globals];exact hm') (mg_of (KS G S) hm' e) h) hd
theorem qDM(G:GW X base){env:PySem.Env}{sc:Scope}(O:EnvOk env sc){x:Str}{p:Pos}{v:Value}{Q:Value->Shared->Prop}{E:Value->Shared->Prop}(S:SR X prog w base ψ φ H s.heap)(hk:qAE sc x=some .globalImplicit)
 (e:nsIn X.K mainGlobals x=some none)(hv:bootBuiltins x=some v)(hn:x≠("__name__":Str))(hd:(x==("__debug__":Str))=false)(h:Q v s):wpAny (model prog w) A (eval (.Name x p) env) Q E s:=by
 obtain⟨mg,hm⟩:=G.g
 obtain⟨mb,hb,hb2⟩:=G.b
 have hm':=hm.keeps (h':=s.heap) (fun b o e=>S.keep b o e)
 have hb':=hb.keeps (h':=s.heap) (fun b o e=>S.keep b o e)
 refine PySem.Calls.Name_function_global O.kind (O.glob x hk) (PySem.Calls.loadGlobal_builtin (by rw[O.globals];exact hm') (mg_none_of (KS G S) hm' e) (by rw[O.builtins];exact hb') ((hb2 x hn).trans hv) h) hd
theorem qHO(G:GW X base){cf:qAb}(C:SndCF X prog w base d cf)(R:Room d A){ev:EvFn}{env:PySem.Env}{sc:Scope}{ρ:Rho}(O:EnvOk env sc){x:Str}{p pos:Pos}{es:List Expr}{ces:List CE}{f a:Nat}{as:List AV}{v:AV}
 (hk:qAE sc x=some .globalImplicit)(e:nsIn X.K mainGlobals x=some (some (.ref a)))(hd:(x==("__debug__":Str))=false)(hkeep:keepIn X.K (.ref a)=true)(hf:X.fns[f]?=some a)(hs:es.any qAq=false)
 (hp:listM₂ (fun e ce=>SndE X prog w base d ev e ce sc) es ces)(F:FR X ψ φ s.heap env sc ρ)(S:SR X prog w base ψ φ H s.heap)(h1:evEs ev ces ρ H=some (as,H₁))(h2:cf f as H₁=some (v,H')) :
  wpAny (model prog w) A (eval (.Call (.Name x p) es [] pos) env) (Out X prog w base ψ φ s v H') NoE s:=by
 refine Call_Name (qBg hs) (qE0 G O S hk e hd ?_)
 refine callWith_of (P:=fun h=>X.K.In h) (by rw[qBA];rfl) (keeps_K hkeep) (qBE (qA1 (qB1 R O hp F S h1) fun xs s1 o=>?_))
 obtain⟨φ1,p1,r1⟩:=o
 exact⟨KS G p1.sr,wp_step p1 (C.call hf R.toC p1.sr r1 h2)⟩
theorem qHP(G:GW X base)(R:Room d A){ev:EvFn}{env:PySem.Env}{sc:Scope}{ρ:Rho}(O:EnvOk env sc){x:Str}{p pos:Pos}{es:List Expr}{ces:List CE}{b:BI}{as:List AV}{v:AV}
 (hk:qAE sc x=some .globalImplicit)(e:nsIn X.K mainGlobals x=some none)(hd:(x==("__debug__":Str))=false)(hb:biTab.lookup x=some b)(hs:es.any qAq=false)
 (hp:listM₂ (fun e ce=>SndE X prog w base d ev e ce sc) es ces)(F:FR X ψ φ s.heap env sc ρ)(S:SR X prog w base ψ φ H s.heap)(h1:evEs ev ces ρ H=some (as,H₁))
 (h2:∀{φ1:List Addr}{s1:Shared}{xs:List Value},SR X prog w base ψ φ1 H₁ s1.heap->VRs X ψ φ1 s1.heap xs as->wpAny (model prog w) A (call (biVal b) xs) (Out X prog w base ψ φ1 s1 v H') NoE s1) :
  wpAny (model prog w) A (eval (.Call (.Name x p) es [] pos) env) (Out X prog w base ψ φ s v H') NoE s:=by
 have hx:x≠("__name__":Str):=by
  rintro rfl
  have:biTab.lookup ("__name__":Str)=none:=by decide +kernel
  rw[this]at hb;cases hb
 refine Call_Name (qBg hs) (qDM G O S hk e (qLq hb) hx hd ?_)
 have key:∀{g:Value},wpAny (model prog w) A (evalArgs g true (es.map fun e=>(false,eval e env)) []) (fun a s8=>wpAny (model prog w) A (call (biVal b) ([]++a.pos) a.kw) (Out X prog w base ψ φ s v H') NoE s8) NoE s:=by
  intro g
  refine qBE (qA1 (qB1 R O hp F S h1) fun xs s1 o=>?_)
  obtain⟨φ1,p1,r1⟩:=o
  exact wp_step p1 (h2 p1.sr r1)
 cases b<;>first|exact PySem.Calls.callWith_builtin (qBA es) key|exact PyProof.Rows.callWith_type (qBA es) key|exact PySem.callWith_type (qBA es) key
end
end
section
section
variable{A:Around}{ψ φ φ9:List Addr}{H H' H₁ H9:AHeap}{s s8:Shared}{d:Nat}
theorem qGL{M:Model}{E:Value->Shared->Prop}{f:Value}{Q:Args->Shared->Prop}(h:Q ⟨[],[]⟩ s):wpAny M A (evalArgs f true [] []) Q E s:=evalArgs_nil3 h
theorem qKi(G:GW X base)(V:PV X P){cf:qAb}(C:SndCF X prog w base d cf)(R:Room d A){env:PySem.Env}{sc:Scope}(O:EnvOk env sc){x:Str}{p pos:Pos}{c f Ca:Nat}
 (hk:qAE sc x=some .globalImplicit)(e:nsIn X.K mainGlobals x=some (some (.ref Ca)))(hd:(x==("__debug__":Str))=false)(hCa:X.clss[c]?=some Ca)(S:SR X prog w base ψ φ H s.heap)
 (hm:mtOf P c 6=some f)(h2:cf f [.inst c H.length] (H++[.ns []])=some (.none,H')) :
  wpAny (model prog w) A (eval (.Call (.Name x p) [] [] pos) env) (Out X prog w base ψ φ s (.inst c H.length) H') NoE s:=by
 delta A ψ φ H H' s d cf env sc x p pos c f Ca at G V C R O hk e hd hCa S hm h2
 (injection (V.new c f hm)with C1;rintro⟨hC1,hmk,hkeep⟩)
 obtain rfl:=Option.some.inj (hCa.symm.trans hC1)
 (injection (V.mt c 6 f hm)with C2 a nm;rintro⟨hC2,hfa,hnm,_,g2,g3,g4⟩)
 obtain rfl:=Option.some.inj (hCa.symm.trans hC2)
 obtain rfl:=Option.some.inj (V.init.symm.trans hnm)
 refine Call_Name (trees:=[]) rfl (qE0 G O S hk e hd ?_)
 refine callWith_of (P:=fun h=>X.K.In h) rfl (keeps_K hkeep) (qGL ⟨KS G S,wpAny_call ?_⟩)
 obtain⟨hh,g,dr,t,os⟩:=s
 delta hh g dr t os at S
 refine make_core (makes_of (KS G S) hmk) (looks_findIn (KS G S) g2) (fun self=>bind_fn (KS G S) self g3) (.inl rfl) ?_
 have k:∀b o,hh.get? b=some o->((hh.push emptyDict).push (instObj Ca hh.objs.size)).get? b=some o:=fun b o e=>Heap.get?_push_of_some _ (Heap.get?_push_of_some _ e)
 have hsz:(hh.push emptyDict).objs.size=hh.objs.size+1:=Heap.size_push ..
 have hdx:((hh.push emptyDict).push (instObj Ca hh.objs.size)).get? hh.objs.size=some emptyDict:=Heap.get?_push_of_some _ (Heap.get?_push_size _ rfl)
 have hx:((hh.push emptyDict).push (instObj Ca hh.objs.size)).get? (hh.objs.size+1)=some (instObj Ca hh.objs.size):=by rw[<-hsz];exact Heap.get?_push_size _ rfl
 have f0:=S.fresh_at G (h₀:=hh) fun b o e=>e
 obtain⟨S1,g1⟩:=S.tracked (h:=(hh.push emptyDict).push (instObj Ca hh.objs.size)) (a:=hh.objs.size) (o:=.ns []) f0.2.1 f0.2.2 (qAe fun _ _ e=>e) k (.ns (es:=[]) (n:=0) hdx (Nat.le_refl _) rfl fun k x _=>rfl)
 have f1:=S.fresh_at G (h₀:=hh.push emptyDict) (qAp _ _)
 have hxp:=S.out (h₀:=hh.push emptyDict) (qAp _ _)
 rw[hsz]at f1 hxp
 have rI:VR X ψ (φ++[hh.objs.size]) ((hh.push emptyDict).push (instObj Ca hh.objs.size)) (.ref (hh.objs.size+1)) (.inst c H.length):=by
  refine .inst hx (fun m=>?_) hxp hCa (by rw[<-S.len];simp)
  rcases List.mem_append.mp m with m|m
  .exact f1.1 m
  .exact absurd (List.mem_singleton.mp m) (Nat.succ_ne_self _)
 refine codeAny_mono (C hfa R.under S1 (.cons rI .nil) h2) ?_
 intros r s';intro q
 rcases r with e|(v|_|_|_)<;>first|exact q.elim|skip
 obtain⟨φ2,p2,r2⟩:=q
 refine⟨r2,φ2,?_,rI.grow0 p2.grow⟩
 have p1:Post X prog w base [] ψ φ (φ++[hh.objs.size]) (H++[.ns []]) (⟨hh,g,dr,t,os⟩:Shared) (⟨(hh.push emptyDict).push (instObj Ca hh.objs.size),g,dr,t,os⟩:Shared):=⟨rfl,g1,S1⟩
 exact p1.trans p2
theorem qGa{o:Expr}{name:Str}{env:PySem.Env}{whole:Sem Value}(h:qBK o=true):attributeBase o name env whole=whole:=by
 delta o name env whole at h
 induction o using Expr.casesOn with
 |Call f as ks p =>
  induction f using Expr.casesOn with
  |Name x q =>
   cases as with
   |nil =>
    cases ks with
    |nil=>exact nomatch h
    |cons=>exact(rfl:whole=whole)
   |cons=>exact(rfl:whole=whole)
  |_=>exact(rfl:whole=whole)
 |_=>exact(rfl:whole=whole)
theorem qCY{pos:Pos}{o:Expr}{name:Str}{apos:Pos}{env:PySem.Env}{ov:Value}{trees:List (Bool×Sem Value)}{n:Nat}{Q:Value->Shared->Prop}{E:Value->Shared->Prop}
 (hform:methodCallForm n trees []=true)(hline:(apos.endLine==pos.line)=true)(h:wpAny (model prog w) A (getMethod ov name (do return(<-importBound o env).getD true)) (fun r s8=>wpAny (model prog w) A (callWith pos r.1 r.2 trees []) Q E s8) E s) :
  wpAny (model prog w) A (methodCall o name apos pos env ov n trees []) Q E s:=by
 have hpos:methodCallPos true o env apos pos=pure pos:=by unfold methodCallPos;simp[hline]
 unfold methodCall
 rw[hform]
 refine wpAny_bind (wpAny_holding ?_)
 refine wpAny_mono h (fun r s8 h₁=>?_) fun _ _ x=>x
 exact wpAny_bind (wpAny_of_eq hpos h₁)
theorem qFj{env:PySem.Env}(es:List Expr)(h:es.length<=20):methodCallForm (es.length+([]:List Keyword).length) (es.map fun e=>((false,eval e env):Bool×Sem Value)) []=true:=by
 unfold methodCallForm
 simp
 omega
theorem qJb(G:GW X base)(V:PV X P){cf:qAb}(C:SndCF X prog w base d cf)(R:Room d A){ev:EvFn}{env:PySem.Env}{sc:Scope}{ρ:Rho}(O:EnvOk env sc){o:Expr}{m:Str}{apos pos:Pos}{es:List Expr}{ces:List CE}{co:CE}
 {mi c i f:Nat}{as:List AV}{v:AV}(hbase:qBK o=true)(hs:es.any qAq=false)(hlen:es.length<=20)(hline:(apos.endLine==pos.line)=true)(hn:nid X.names m=some mi)
 (ho:SndE X prog w base d ev o co sc)(hp:listM₂ (fun e ce=>SndE X prog w base d ev e ce sc) es ces)(F:FR X ψ φ s.heap env sc ρ)(S:SR X prog w base ψ φ H s.heap)
 (h0:ev co ρ H=some (.inst c i,H₁))(hm:mtOf P c mi=some f)(hna:qAo i mi H₁=true)(h1:evEs ev ces ρ H₁=some (as,H9))(h2:cf f (.inst c i::as) H9=some (v,H')) :
  wpAny (model prog w) A (eval (.Call (.Attribute o m apos) es [] pos) env) (Out X prog w base ψ φ s v H') NoE s:=by
 rw[arm_eval_Call,qGa hbase,qBg hs]
 refine wpAny_bind (qA1 (ho R O F S h0) fun ov s1 q=>wpAny_bind (wpAny_standAt ?_))
 obtain⟨φ1,p1,r1⟩:=q
 refine qCY (qFj es hlen) hline (qGy G V p1.sr r1 (qBm hn) hm hna fun a hfa hkeep=>?_)
 refine callWith_of (P:=fun h=>X.K.In h) (by rw[qBA];rfl) (keeps_K hkeep) (qBE (qA1 (qB1 R O hp (FRs.post F S p1) p1.sr h1) fun xs s2 q=>?_))
 obtain⟨φ2,p2,r2⟩:=q
 refine⟨KS G p2.sr,wp_step (p1.trans p2) ?_⟩
 exact C.call hfa R.toC p2.sr (.cons (r1.grow0 p2.grow) r2) h2
theorem lt4{m:Nat}(h:m<4):m=0\/m=1\/m=2\/m=3 :=
 (Nat.lt_succ_iff_lt_or_eq.mp h).elim (fun h=>(Nat.lt_succ_iff_lt_or_eq.mp h).elim (fun h=>(Nat.lt_succ_iff_lt_or_eq.mp h).elim (fun h=>.inl (Nat.lt_one_iff.mp h)) fun e=>.inr (.inl e)) fun e=>.inr (.inr (.inl e))) fun e=>.inr (.inr (.inr e))
theorem qLk(G:GW X base)(V:PV X P)(R:Room d A){ev:EvFn}{env:PySem.Env}{sc:Scope}{ρ:Rho}(O:EnvOk env sc){o:Expr}{m:Str}{apos pos:Pos}{es:List Expr}{ces:List CE}{co:CE}
 {mi i:Nat}{as:List AV}{v:AV}(hbase:qBK o=true)(hs:es.any qAq=false)(hlen:es.length<=20)(hline:(apos.endLine==pos.line)=true)(hn:nid X.names m=some mi)
 (ho:SndE X prog w base d ev o co sc)(hp:listM₂ (fun e ce=>SndE X prog w base d ev e ce sc) es ces)(F:FR X ψ φ s.heap env sc ρ)(S:SR X prog w base ψ φ H s.heap)
 (h0:ev co ρ H=some (.ref i,H₁))(hok:qBZ H₁ i mi=true)(h1:evEs ev ces ρ H₁=some (as,H9))(h2:qAg i mi as H9=some (v,H')) :
  wpAny (model prog w) A (eval (.Call (.Attribute o m apos) es [] pos) env) (Out X prog w base ψ φ s v H') NoE s:=by
 revert G V R O hbase hs hlen hline hn ho hp F S h0 hok h1 h2
 revert A ψ φ H H' H₁ H9 s d ev env sc ρ o m apos pos es ces co mi i as v
 intros A ψ φ H H' H₁ H9 s d ev env sc
 intros ρ o m apos pos es ces co mi i as v
 intro G V R O hbase hs hlen hline hn ho hp F S h0 hok h1 h2
 rw[arm_eval_Call,qGa hbase,qBg hs]
 refine wpAny_bind (qA1 (ho R O F S h0) fun ov s1 q=>wpAny_bind (wpAny_standAt ?_))
 obtain⟨φ1,p1,r1⟩:=q
 refine qCY (qFj es hlen) hline ?_
 have fin:wpAny (model prog w) A (callWith pos (.builtin (qFW mi)) [ov] (es.map fun e=>(false,eval e env)) []) (Out X prog w base ψ φ s v H') NoE s1:=by
  refine PySem.Calls.callWith_builtin (qBA es) (qBE (qA1 (qB1 R O hp (FRs.post F S p1) p1.sr h1) fun xs s2 q=>?_))
  obtain⟨φ2,p2,r2⟩:=q
  exact wp_step (p1.trans p2) (qJD p2.sr (r1.grow0 p2.grow) r2 h2)
 have hname:=qBm hn
 obtain⟨n0,n1,n2,n3,n4,n5⟩:=V.mn
 obtain⟨a,rfl,hi⟩:=r1
 (injection (qCQ hok)with ob;rintro⟨ho,hok⟩)
 have hob:=p1.sr.obj _ _ _ hi ho
 cases ob with
 |list l =>
  obtain⟨vs,n,e1,_,_⟩:=hob
  have getL:∀{nm:Str}{id:String},X.names[mi]?=some nm->Slot "list" nm id->typeOf (.builtin id)=pure (.type "method_descriptor")->id=qFW mi ->
    wpAny (model prog w) A (getMethod (.ref a) m (do return(<-importBound o env).getD true)) (fun r s8=>wpAny (model prog w) A (callWith pos r.1 r.2 (es.map fun e=>(false,eval e env)) []) (Out X prog w base ψ φ s v H') NoE s8) NoE s1:=by
   intro nm id hm slot ty e
   obtain rfl:=Option.some.inj (hname.symm.trans hm)
   exact getMethod_builtin ⟨_,e1,rfl⟩ PySem.F.plainAttrs_list slot ty (fun b hb=>by cases hb;exact⟨_,e1,rfl⟩) (e▸fin)
  rcases lt4 (of_decide_eq_true hok)with h4|h4|h4|h4
  .exact getL (h4▸n0) PySem.F.slot_list_append PySem.F.type_list_append (h4▸rfl)
  .exact getL (h4▸n1) PySem.F.slot_list_pop PySem.F.type_list_pop (h4▸rfl)
  .exact getL (h4▸n2) PySem.F.slot_list_remove PySem.F.type_list_remove (h4▸rfl)
  .exact getL (h4▸n3) PySem.F.slot_list_extend PySem.F.type_list_extend (h4▸rfl)
 |dictI l =>
  obtain⟨ks,vs,l,_,e1,_⟩:=hob
  have getD:∀{nm:Str}{id:String},X.names[mi]?=some nm->Slot "dict" nm id->typeOf (.builtin id)=pure (.type "method_descriptor")->id=qFW mi ->
    wpAny (model prog w) A (getMethod (.ref a) m (do return(<-importBound o env).getD true)) (fun r s8=>wpAny (model prog w) A (callWith pos r.1 r.2 (es.map fun e=>(false,eval e env)) []) (Out X prog w base ψ φ s v H') NoE s8) NoE s1:=by
   intro nm id hm slot ty e
   obtain rfl:=Option.some.inj (hname.symm.trans hm)
   exact getMethod_builtin e1.typeIs PySem.F.plainAttrs_dict slot ty e1.mapOf.noDict (e▸fin)
  rcases of_decide_eq_true hok with h4|h4
  .exact getD (h4▸n4) PySem.F.slot_dict_get PySem.F.type_dict_get (h4▸rfl)
  .exact getD (h4▸n5) PySem.F.slot_dict_setdefault PySem.F.type_dict_setdefault (h4▸rfl)
 |_=>exact nomatch hok
end
end
section
structure StoreOk (fr:List Addr) (h:Heap) (env:PySem.Env) (sc:Scope):Prop where
 loc:env.locals∈fr
 ns:∃m,h.Ns env.locals m
 cel:∀x,qAE sc x=some .cell->∃c v,env.cells.lookup x=some c/\c∈fr/\h.IsCell c v
 inj:∀x y c,qAE sc x=some .cell->env.cells.lookup x=some c->env.cells.lookup y=some c->x=y
theorem StoreOk.keep{fr h h' env sc}(T:StoreOk fr h env sc)(k:∀a∈fr,∀o,h.get? a=some o->h'.get? a=some o):StoreOk fr h' env sc:=by
 delta fr h h' env sc at T k
 refine⟨T.loc,?_,?_,T.inj⟩
 ·(injection (T.ns)with m;(intro H_;injection H_ with o es ep;clear H_;rintro⟨e,r⟩));exact⟨m,o,es,ep,k _ T.loc _ e,r⟩
 .intros x;intro hx
  (injection (T.cel x hx)with c v;(rintro⟨a,b,H_⟩;injection H_ with o;clear H_;rintro⟨e,r⟩));exact⟨c,v,a,b,o,k _ b _ e,r⟩
theorem qPI{h:Heap}{a:Addr}{m m':Str->Option Value}(x:h.Ns a m)(y:h.Ns a m'):∀z,m z=m' z:=by
 delta h a m m' at x y
 (injection (x)with o es ep;try clear x;rintro⟨e,d,_,f⟩)
 (injection (y)with o' es' ep';try clear y;rintro⟨e',d',_,f'⟩)
 rw[e]at e';cases e'
 rw[d]at d';cases d'
 exact fun z=>(f z).symm.trans (f' z)
theorem qEe{h:Heap}{a:Addr}{m:Str->Option Value}{v:Option Value}(x:h.Ns a m)(y:h.IsCell a v):False:=by
 obtain⟨o,es,ep,e,d,_,f⟩:=x
 obtain⟨o',e',d'⟩:=y
 rw[e]at e';cases e'
 rw[d]at d';cases d'
section
variable{A:Around}{fr ψ φ φ9:List Addr}{H H' H₁ H9:AHeap}{s s8:Shared}{d:Nat}{env:PySem.Env}{sc:Scope}{ρ ρ':Rho}{ok:Str->Prop}{E:Value->Shared->Prop}
theorem StoreOk.post{φ':List Addr}(T:StoreOk fr s.heap env sc)(S:SR X prog w base ψ φ H s.heap)(hfr:∀a∈fr,a∈ψ)(p:Post X prog w base [] ψ φ φ' H' s s8):StoreOk fr s8.heap env sc :=
 T.keep fun a ha o e=>p.grow.kept a o e (fun m=>(S.fresh a m).2.2 (hfr a ha)) (fun q=>qA5 q)
structure Stored (X:CX) (prog:Program) (w:World) (base:Heap) (ok:Str->Prop) (fr ψ φ:List Addr) (H:AHeap) (env:PySem.Env) (sc:Scope) (ρ:Rho) (s s':Shared):Prop where
 post:Post X prog w base fr ψ φ φ H s s'
 vars:FRs ok X ψ φ s'.heap env sc ρ
 st:StoreOk fr s'.heap env sc
 kept:∀b o,b ∉ fr->s.heap.get? b=some o->s'.heap.get? b=some o
theorem qB8(O:EnvOk env sc)(T:StoreOk fr s.heap env sc)(hfr:∀a∈fr,a∈ψ){x:Str}{k:Nat}{y:Value}{v:AV}(hk:qAE sc x=some .local\/qAE sc x=some .cell)(hn:nid X.names x=some k)
 (F:FRs ok X ψ φ s.heap env sc ρ)(S:SR X prog w base ψ φ H s.heap)(ry:VR X ψ φ s.heap y v) :
  wpAny (model prog w) A (storeName env x y) (fun _ s'=>Stored X prog w base (fun z=>ok z\/z=x) fr ψ φ H env sc (upd k v ρ) s s') E s:=by
 delta A fr ψ φ H s env sc ρ ok E x k y v at O T hfr hk hn F S ry
 rcases hk with hk|hk
 ·(injection (T.ns)with m;intro hm)
  refine wpAny_storeName_local (O.loc x hk) hm (?_) (by rw[O.kind];rfl)
  intros h';intro hn' hs'
  have kp:∀b o,b ∉ fr->s.heap.get? b=some o->h'.get? b=some o:=fun b o nb e=>(hs'.2 b fun z=>nb (z▸T.loc)).trans e
  have g:Grow fr φ φ s.heap h':=⟨List.prefix_refl _,fun _ q=>.inl q,fun b o e _ nb=>kp b o nb e⟩
  have S':SR X prog w base ψ φ H h':=S.privately (fun b o nb e=>kp b o (fun z=>nb (hfr b z)) e) fun a ha=>by
   by_cases q:a=env.locals
   .subst q;(injection (hn')with o ζ_1 ζ_2;try clear hn';rintro⟨e,_⟩);exact⟨o,e⟩
   .obtain ⟨o,e⟩:=S.stand a ha;exact⟨o,(hs'.2 a q).trans e⟩
  refine⟨⟨rfl,g,S'⟩,?_,?_,kp⟩
  ·(intros z kz u;intro oz hv hz hl)
   rw[qBV]at hl
   by_cases q:kz=k
   .subst q
    rw[if_pos rfl]at hl;cases hl
    have:z=x:=qGB hz hn
    subst this
    exact⟨y,.local (O.loc z hk) (hfr _ T.loc) hn' (by simp),ry.grow g hfr⟩
   .rw [if_neg q]at hl
    have hzx:z≠x:=fun e=>by subst e;rw[hn]at hz;cases hz;exact q rfl
    (injection (F z kz u (oz.resolve_right hzx) hv hz hl)with y';rintro⟨va,r'⟩)
    refine⟨y',?_,r'.grow g hfr⟩
    cases va with
    | «local» a b c e=>exact .local a b hn' (by rw[if_neg hzx,qPI hm c z];exact e)
    |@cell c a b e h4 =>
     delta c at b e h4
     have hc:c≠env.locals:=fun q=>qEe hm (q▸h4)
     exact .cell a b e (h4.sameBut hs' hc)
  .refine ⟨T.loc,⟨_,hn'⟩,?_,T.inj⟩
   intros z;intro hz
   (injection (T.cel z hz)with c v0;rintro⟨a,b,e⟩)
   exact⟨c,v0,a,b,e.sameBut hs' fun q=>qEe hm (q▸e)⟩
 ·(injection (T.cel x hk)with c v0;rintro⟨hc,hcf,hcell⟩)
  (injection (T.ns)with m;intro hm)
  refine wpAny_storeName_cell O.kind (O.cel x hk) hc hcell (?_)
  intros h';intro hn' hs'
  have kp:∀b o,b ∉ fr->s.heap.get? b=some o->h'.get? b=some o:=fun b o nb e=>(hs'.2 b fun z=>nb (z▸hcf)).trans e
  have g:Grow fr φ φ s.heap h':=⟨List.prefix_refl _,fun _ q=>.inl q,fun b o e _ nb=>kp b o nb e⟩
  have S':SR X prog w base ψ φ H h':=S.privately (fun b o nb e=>kp b o (fun z=>nb (hfr b z)) e) fun a ha=>by
   by_cases q:a=c
   .subst q;obtain⟨o,e,_⟩:=hn';exact⟨o,e⟩
   .obtain ⟨o,e⟩:=S.stand a ha;exact⟨o,(hs'.2 a q).trans e⟩
  refine⟨⟨rfl,g,S'⟩,?_,?_,kp⟩
  ·(intros z kz u;intro oz hv hz hl)
   rw[qBV]at hl
   by_cases q:kz=k
   .subst q
    rw[if_pos rfl]at hl;cases hl
    have:z=x:=qGB hz hn
    subst this
    exact⟨y,.cell (.inl (O.cel z hk)) hc (hfr _ hcf) hn',ry.grow g hfr⟩
   .rw [if_neg q]at hl
    have hzx:z≠x:=fun e=>by subst e;rw[hn]at hz;cases hz;exact q rfl
    (injection (F z kz u (oz.resolve_right hzx) hv hz hl)with y';rintro⟨va,r'⟩)
    refine⟨y',?_,r'.grow g hfr⟩
    cases va with
    | «local» a b c' e=>exact .local a b (c'.sameBut hs' fun q=>qEe c' (q▸hcell)) e
    |@cell c' a b e h4 =>
     delta c' at b e h4
     have hcc:c'≠c:=fun q=>hzx (T.inj x z c hk hc (q▸b)).symm
     exact .cell a b e (h4.sameBut hs' hcc)
  .refine ⟨T.loc,⟨m,hm.sameBut hs' fun q=>qEe hm (q▸hcell)⟩,?_,T.inj⟩
   intros z;intro hz
   (injection (T.cel z hz)with c' v1;rintro⟨a,b,e⟩)
   by_cases q:c'=c
   .subst q;exact⟨c',_,a,b,hn'⟩
   .exact ⟨c',v1,a,b,e.sameBut hs' q⟩
theorem Stored.trans{ok':Str->Prop}{s9:Shared}(x:Stored X prog w base ok fr ψ φ H env sc ρ s s8)(y:Stored X prog w base ok' fr ψ φ H env sc ρ' s8 s9)(hfr:∀a∈fr,a∈ψ):Stored X prog w base ok' fr ψ φ H env sc ρ' s s9 :=
 ⟨x.post.transF y.post hfr,y.vars,y.st,fun b o nb e=>y.kept b o nb (x.kept b o nb e)⟩
inductive NameIs (X:CX) (sc:Scope) (t:Expr) (ct:CT):Prop
 |mk (x:Str) (p:Pos) (k:Nat) (z:t=.Name x p) (y:ct=.name k) (hk:qAE sc x=some .local\/qAE sc x=some .cell) (hn:nid X.names x=some k)
theorem qAL{t:Expr}{ct:CT}(h:qBF X sc t=some ct):NameIs X sc t ct:=by
 delta sc t ct at h
 induction t using Expr.casesOn with
 |Name x p =>
  obtain⟨hk,h⟩:=qA9 h
  rw[Bool.or_eq_true,beq_iff_eq,beq_iff_eq]at hk
  obtain⟨k,hn,h⟩:=qA3 h
  exact⟨x,p,k,rfl,h.symm,hk,hn⟩
 |_=>exact qA2 h
inductive LoopIs (X:CX) (sc:Scope) (t:Expr) (ct:CT):Prop
 |tup (es:List Expr) (k:Nat) (p:Pos) (cts:List CT) (z:t=.Tuple es k p) (y:ct=.tup cts) (h:listM (qBF X sc) es=some cts)
 |name (h:qBF X sc t=some ct)
theorem qKu{t:Expr}{ct:CT}(h:qAf X sc t=some ct):LoopIs X sc t ct:=by
 delta sc t ct at h
 induction t using Expr.casesOn with
 |Tuple es k p =>
  obtain⟨cts,hl,y⟩:=qA3 h
  exact .tup es k p cts rfl y.symm hl
 |_=>exact .name h
theorem qE9{h:Heap}:∀{es:List Expr}{cts:List CT}{ys:List Value}{vs:List AV}{ρ ρ':Rho},listM (qBF X sc) es=some cts->qCP cts vs ρ=some ρ'->VRs X ψ φ h ys vs ->
  (assignEach es env).length=ys.length/\(assignEach es env).findIdx? (·.1)=none
 |[],cts,ys,vs,ρ,ρ',hc,ha,r=>by
  cases hc
  cases vs with
  |nil=>cases r;exact⟨rfl,rfl⟩
  |cons=>exact qA2 ha
 |e::es,cts,ys,vs,ρ,ρ',hc,ha,r=>by
  obtain⟨ct,h1,hc⟩:=qA0 hc
  obtain⟨cts',h2,rfl⟩:=qA3 hc
  obtain⟨x,p,k,rfl,rfl,hk,hn⟩:=qAL h1
  cases vs with
  |nil=>exact qA2 ha
  |cons v vs =>
   obtain⟨y,ys,rfl,ry,rs⟩:=r
   obtain⟨ρ1,h4,ha⟩:=qA0 (qDS.symm.trans ha)
   obtain⟨a,b⟩:=qE9 h2 ha rs
   refine⟨congrArg (·+1) a,?_⟩
   show((false,assign (.Name x p) env)::assignEach es env).findIdx? (·.1)=_
   rw[List.findIdx?_cons,b];rfl
theorem qCZ(O:EnvOk env sc)(hfr:∀a∈fr,a∈ψ):∀{es:List Expr}{cts:List CT}{ys:List Value}{vs:List AV}{ρ ρ':Rho}{ok:Str->Prop}{s:Shared},listM (qBF X sc) es=some cts->qCP cts vs ρ=some ρ' ->
  StoreOk fr s.heap env sc->FRs ok X ψ φ s.heap env sc ρ->SR X prog w base ψ φ H s.heap->VRs X ψ φ s.heap ys vs ->
  wpAny (model prog w) A (assignInOrder ((assignEach es env).map (·.2)) ys) (fun _ s'=>Stored X prog w base (fun z=>ok z\/z∈es.filterMap qCf) fr ψ φ H env sc ρ' s s') E s
 |[],cts,ys,vs,ρ,ρ',ok,s,hc,ha,T,F,S,r=>by
  cases hc
  cases vs with
  |nil =>
   cases ha
   cases r
   exact wpAny_pure ⟨⟨rfl,(Grow.refl φ s.heap).more (fun _ q=>qA5 q),S⟩,fun z k v o=>F z k v (o.elim id fun q=>qA5 q),T,fun b o _ e=>e⟩
  |cons=>exact qA2 ha
 |e::es,cts,ys,vs,ρ,ρ',ok,s,hc,ha,T,F,S,r=>by
  obtain⟨ct,h1,hc⟩:=qA0 hc
  obtain⟨cts',h2,rfl⟩:=qA3 hc
  obtain⟨x,p,k,rfl,rfl,hk,hn⟩:=qAL h1
  cases vs with
  |nil=>exact qA2 ha
  |cons v vs =>
   obtain⟨y,ys,rfl,ry,rs⟩:=r
   obtain⟨ρ1,h3,ha⟩:=qA0 (qDS.symm.trans ha)
   obtain rfl:=Option.some.inj h3
   show wpAny _ A (do holding ys (assign (.Name x p) env y);assignInOrder ((assignEach es env).map (·.2)) ys) _ _ s
   refine wpAny_bind (wpAny_holding (wpAny_assign_Name (wpAny_mono (qB8 (E:=E) O T hfr hk hn F S ry) (fun _ s1 q=>?_) fun _ _ e=>e)))
   refine wpAny_mono (qCZ O hfr h2 ha q.st q.vars q.post.sr (rs.grow q.post.grow hfr)) (fun _ s2 q2=>?_) fun _ _ e=>e
   have:=q.trans q2 hfr
   refine⟨this.post,fun z k v o=>this.vars z k v ?_,this.st,this.kept⟩
   rcases o with o|o
   .exact .inl (.inl o)
   .rcases List.mem_cons.mp (show z∈x::es.filterMap qCf from o)with o|o
    .exact .inl (.inr o)
    .exact .inr o
theorem qDT(O:EnvOk env sc)(hfr:∀a∈fr,a∈ψ)(hh:A.handled=none){t:Expr}{ct:CT}{y:Value}{v:AV}(hc:qAf X sc t=some ct)(ha:qBS ct v ρ=some ρ')(T:StoreOk fr s.heap env sc)(F:FRs ok X ψ φ s.heap env sc ρ)
 (S:SR X prog w base ψ φ H s.heap)(ry:VR X ψ φ s.heap y v) :
  wpAny (model prog w) A (assign t env y) (fun _ s'=>Stored X prog w base (fun z=>ok z\/z∈qED t) fr ψ φ H env sc ρ' s s') E s:=by
 delta A fr ψ φ H s env sc ρ ρ' ok E t ct y v at O hfr hh hc ha T F S ry
 rcases qKu hc with⟨es,kx,pos,cts,rfl,rfl,hl⟩|hn
 .clear hc
  delta es kx pos cts at hl ha
  (injection (qA0 ha)with vs;rintro⟨hv,ha⟩)
  obtain rfl:=qAv hv
  obtain⟨a,items,n,rfl,e1,n1,m1,k1,r1⟩:=ry
  delta a items n at e1 n1 m1 r1
  have IT:IsTup s.heap a items:=⟨_,e1,rfl,_,rfl⟩
  have pre:=qE9 (env:=env) hl ha r1
  refine assign_Tuple_tuple hh IT (by rw[pre.1];exact Array.length_toList) pre.2 ?_
  intros h';intro hb
  have kp:∀b o,s.heap.get? b=some o->h'.get? b=some o:=fun b o e=>hb b o (Nat.ne_of_lt (Heap.lt_size e)) e
  have p1:=Post.grown (s:=s) (tk:=s.toks) S kp
  refine wpAny_mono (qCZ (s:={ s with heap:=h' }) O hfr hl ha (T.keep fun a _ o e=>kp a o e) (FRs.post F S p1) p1.sr (r1.grow0 p1.grow)) (?_) fun _ _ e=>e
  intro _;intros s2;intro q
  exact⟨⟨by rw[q.post.same],(p1.grow.more (fun _ q=>qA5 q)).trans q.post.grow fun a ha m=>.inl m,q.post.sr⟩,q.vars,q.st,fun b o nb e=>q.kept b o nb (kp b o e)⟩
 .obtain ⟨x,p,k,rfl,rfl,hk,hi⟩:=qAL hn
  clear hc hn
  delta x p k at hk hi ha
  obtain rfl:=Option.some.inj ha
  refine wpAny_assign_Name (wpAny_mono (qB8 (E:=E) O T hfr hk hi F S ry) (?_) fun _ _ e=>e)
  intro _;intros s1;intro q
  exact⟨q.post,fun z k v o=>q.vars z k v (o.elim .inl fun m=>.inr (List.mem_singleton.mp m)),q.st,q.kept⟩
end
end
section
inductive LSrc (X:CX) (ψ φ:List Addr) (h:Heap) (H0:AHeap) (I:Addr) (k:Nat) (src:Option Nat) (rest:List AV):Prop
 |lst {p:Addr}{n:Nat}{vs:Array Value}{l:List AV} (es:src=none) (er:rest=l.drop k) (it:h.IsListIter I p k) (e:h.get? p=some (seqObj "list" vs n)) (np:p ∉ φ) (nq:p ∉ ψ) (hl:l.length<1000001) (r:VRs X ψ φ h vs.toList l)
 |trk {p:Addr}{i:Nat}{l:List AV} (es:src=some i) (er:rest=l.drop k) (it:h.IsListIter I p k) (hp:φ[i]?=some p) (hi:H0[i]?=some (.list l))
inductive ItR (X:CX) (ψ φ:List Addr) (h:Heap) (H0:AHeap) (I:Addr) (pv:List Addr) (en:Bool) (src:Option Nat) (rest:List AV):Prop
 |list {k:Nat} (ep:pv=[I]) (ee:en=false) (ls:LSrc X ψ φ h H0 I k src rest)
 |tup {p:Addr}{k n:Nat}{vs:Array Value}{l:List AV} (ep:pv=[I]) (ee:en=false) (es:src=none) (er:rest=l.drop k) (it:h.IsTupleIter I p k) (e:h.get? p=some (seqObj "tuple" vs n)) (np:p ∉ φ) (nq:p ∉ ψ) (hl:l.length<1000001) (r:VRs X ψ φ h vs.toList l)
 |rng {x left:Int} (ep:pv=[I]) (ee:en=false) (es:src=none) (er:rest=qAJ x (x+left)) (it:IsRangeIter h I x left 1)
 |enum {J:Addr}{k:Nat}{old:Value}{rs:List AV} (ep:pv=[I,J]) (ee:en=true) (er:rest=qEy k rs) (it:IsEnum h I J (k:Int) old) (ne:I≠J) (ls:LSrc X ψ φ h H0 J k src rs)
theorem qEJ{h h':Heap}{I p:Addr}{k:Nat}(x:h.IsListIter I p k)(e:∀o,h.get? I=some o->h'.get? I=some o):h'.IsListIter I p k:=let⟨o,a,b⟩:=x;⟨o,e o a,b⟩
theorem qId{h h':Heap}{I p:Addr}{k:Nat}(x:h.IsTupleIter I p k)(e:∀o,h.get? I=some o->h'.get? I=some o):h'.IsTupleIter I p k:=let⟨o,a,b⟩:=x;⟨o,e o a,b⟩
section
variable{A:Around}{fr pv ψ φ φ' φ9:List Addr}{H H' H₁ H9 H0:AHeap}{s s8:Shared}{d:Nat}{I:Addr}{src:Option Nat}{rest:List AV}{en:Bool}{v:AV}{E:Value->Shared->Prop}
theorem LSrc.grow{h h':Heap}{k:Nat}(x:LSrc X ψ φ h H0 I k src rest)(g:Grow fr φ φ' h h')(hf:∀a∈fr,a∈ψ)(e:∀o,h.get? I=some o->h'.get? I=some o):LSrc X ψ φ' h' H0 I k src rest:=by
 cases x with
 |lst es er a b c d l r=>exact .lst es er (qEJ a e) (g.kept _ _ b c fun q=>d (hf _ q)) (g.out b c) d l (r.grow g hf)
 |trk es er a b c=>exact .trk es er (qEJ a e) (qBx g.pre b) c
theorem ItR.grow{h h':Heap}(x:ItR X ψ φ h H0 I pv en src rest)(g:Grow fr φ φ' h h')(hf:∀a∈fr,a∈ψ)(e:∀a∈pv,∀o,h.get? a=some o->h'.get? a=some o):ItR X ψ φ' h' H0 I pv en src rest:=by
 have eI:pv.head?=some I->∀o,h.get? I=some o->h'.get? I=some o:=fun q=>e I (List.mem_of_mem_head? q)
 cases x with
 |list ep ee a=>exact .list ep ee (a.grow g hf (eI (ep▸rfl)))
 |tup ep ee es er a b c d l r=>exact .tup ep ee es er (qId a (eI (ep▸rfl))) (g.kept _ _ b c fun q=>d (hf _ q)) (g.out b c) d l (r.grow g hf)
 |rng ep ee es er a=>exact .rng ep ee es er (eI (ep▸rfl) _ a)
 |@enum J _ _ _ ep ee er a b c=>exact .enum ep ee er (eI (ep▸rfl) _ a) b (c.grow g hf (e J (ep▸.tail _ (.head _))))
inductive ListNow (X:CX) (ψ φ:List Addr) (h:Heap) (H0:AHeap) (I:Addr) (k:Nat) (src:Option Nat) (rest:List AV):Prop
 |mk (p:Addr) (n:Nat) (vs:Array Value) (l:List AV) (it:h.IsListIter I p k) (e:h.get? p=some (seqObj "list" vs n)) (r:VRs X ψ φ h vs.toList l) (er:rest=l.drop k)
  (go:∀{φ':List Addr}{h':Heap}{fr:List Addr},Grow fr φ φ' h h'->(∀a∈fr,a∈ψ)->h'.IsListIter I p (k+1)->LSrc X ψ φ' h' H0 I (k+1) src (l.drop (k+1)))
theorem LSrc.now(S:SR X prog w base ψ φ H s.heap){k:Nat}(x:LSrc X ψ φ s.heap H0 I k src rest)(hst:qAa H0 H src=true):ListNow X ψ φ s.heap H0 I k src rest:=by
 cases x with
 |lst es er a b c d l r=>exact⟨_,_,_,_,a,b,r,er,fun g hf it=>.lst es rfl it (g.kept _ _ b c fun q=>d (hf _ q)) (g.out b c) d l (r.grow g hf)⟩
 |@trk p i l es er a b c =>
  have e:=(qFS _ _).mp (show qAa H0 H (some i)=true from es▸hst)
  obtain⟨vs,n,e1,q,r⟩:=S.obj _ _ (.list l) b (e.trans c)
  exact⟨_,_,_,_,a,e1,r,er,fun g hf it=>.trk es rfl it (qBx g.pre b) c⟩
theorem qEz{l:List AV}{k:Nat}{v:AV}{rest:List AV}(h:v::rest=l.drop k):l[k]?=some v/\rest=l.drop (k+1):=by
 have hk:k<l.length:=by
  apply Decidable.byContradiction
  intro q
  rw[List.drop_eq_nil_of_le (Nat.le_of_not_lt q)]at h;cases h
 rw[List.drop_eq_getElem_cons hk]at h
 obtain⟨a,b⟩:=List.cons.inj h
 exact⟨by rw[List.getElem?_eq_getElem hk,a],b⟩
theorem qGQ{l:List AV}{k:Nat}(h:[]=l.drop k):l.length<=k:=List.drop_eq_nil_iff.mp h.symm
theorem qCh{t:Expr}{x:Value}{o:Obj}{n:String}{Q:Unit->Shared->Prop}(ho:s.heap.get? I=some o)(hc:o.cls=.type n)
 (hn:(["enumerate","zip","dict_itemiterator","dict_reverseitemiterator","odict_iterator","itertools.zip_longest","itertools.pairwise"].contains n)=false)(hQ:Q () s) :
  wpAny (model prog w) A (letOwnedTupleGo t (.ref I) x) Q E s:=by
 delta A s I E t x o n Q at ho hc hn hQ
 have key:wpAny (model prog w) A (letOwnedTupleGo (.Tuple [] 0 default) (.ref I) x) Q E s:=by
  induction x using Value.casesOn with
  |ref a =>
   revert a;intros a
   refine wpAny_bind (wpAny_load ho ?_)
   obtain⟨oc,od,oda,osl⟩:=o
   obtain rfl:oc=.type n:=hc
   induction oda using Data.casesOn with
   |fields vs =>
    show wpAny _ _ (if(_&&_)=true then _ else _) _ _ s
    rw[hn,Bool.false_and,if_neg Bool.false_ne_true]
    exact wpAny_pure hQ
   |_=>exact wpAny_pure hQ
  |_=>exact wpAny_pure hQ
 induction t using Expr.casesOn with
 |Tuple=>exact key
 |List=>exact key
 |_=>exact wpAny_pure hQ
theorem Post.priv{h':Heap}{k:Nat}(S:SR X prog w base ψ φ H s.heap)(hpv:∀a∈pv,a∈ψ)(kp:∀b o,b ∉ pv->s.heap.get? b=some o->h'.get? b=some o)(st:∀a∈pv,∃o,h'.get? a=some o) :
  Post X prog w base pv ψ φ φ H s { s with heap:=h',toks:=k }:=by
 refine⟨rfl,⟨List.prefix_refl _,fun _ q=>.inl q,fun b o e _ nb=>kp b o nb e⟩,S.privately (fun b o nb e=>kp b o (fun z=>nb (hpv b z)) e) fun a ha=>?_⟩
 by_cases q:a∈pv
 .exact st a q
 .obtain ⟨o,e⟩:=S.stand a ha;exact⟨o,kp a o q e⟩
theorem qJ6{x left:Int}{v:AV}{rest:List AV}(h:v::rest=qAJ x (x+left)):0<left/\v=.int x/\rest=qAJ (x+1) (x+1+(left-1)):=by
 delta x left v rest at h
 unfold qAJ at h ⊢
 rw[Int.add_comm x left,Int.add_sub_cancel]at h
 rw[Int.add_comm (x+1),Int.add_sub_cancel]
 cases hl:left.toNat with
 |zero=>rw[hl]at h;exact nomatch h
 |succ n =>
  delta n at hl
  rw[hl,List.range_succ_eq_map,List.map_cons]at h
  have h:=List.cons.inj h
  refine⟨(qFM hl).1,h.1.trans (congrArg AV.int (Int.add_zero x)),?_⟩
  rw[h.2,(qFM hl).2,List.map_map]
  refine List.map_congr_left fun i _=>congrArg AV.int ?_
  show x+((i+1:Nat):Int)=_
  rw[Int.natCast_succ,Int.add_comm (i:Int) 1,Int.add_assoc]
theorem qKM{x left:Int}(h:[]=qAJ x (x+left)):left<=0:=by
 unfold qAJ at h
 rw[Int.add_comm x left,Int.add_sub_cancel]at h
 have:=congrArg List.length h
 rw[List.length_map,List.length_range]at this
 exact Int.toNat_eq_zero.mp this.symm
noncomputable def qPr(X:CX)(prog:Program)(w:World)(base:Heap)(ψ φ:List Addr)(H H0:AHeap)(I:Addr)(pv:List Addr)(en:Bool)(src:Option Nat)(v:AV)(rest:List AV)(s:Shared)(y:Value)(s9:Shared):Prop :=
 VR X ψ φ s9.heap y v/\Post X prog w base pv ψ φ φ H s s9/\ItR X ψ φ s9.heap H0 I pv en src rest
theorem priv1{h':Heap}{k:Nat}{o:Obj}(S:SR X prog w base ψ φ H s.heap)(hI:I∈ψ)(hs:∀b,b≠I->h'.get? b=s.heap.get? b)(e:h'.get? I=some o):Post X prog w base [I] ψ φ φ H s { s with heap:=h',toks:=k } :=
 Post.priv (k:=k) S (fun a ha=>List.mem_singleton.mp ha▸hI) (fun b o nb e=>(hs b fun z=>nb (List.mem_singleton.mpr z)).trans e) fun a ha=>⟨o,List.mem_singleton.mp ha▸e⟩
theorem in1{a:Addr}(hI:I∈ψ)(h:a∈[I]):a∈ψ:=List.mem_singleton.mp h▸hI
theorem qL7(S:SR X prog w base ψ φ H s.heap)(hpv:∀a∈pv,a∈ψ)(x:ItR X ψ φ s.heap H0 I pv en src (v::rest))(hst:qAa H0 H src=true){t:Expr}(ht:en=true->∃es k p,t=.Tuple es k p) :
  wpAny (model prog w) A (pyNext (.ref I)) (fun r s8=>∃y,r=some y/\wpAny (model prog w) A (letOwnedTupleGo t (.ref I) y) (fun _ s9=>qPr X prog w base ψ φ H H0 I pv en src v rest s y s9) E s8) E s:=by
 delta A pv ψ φ H H0 s I src rest en v E t at S hpv x hst ht
 cases x with
 |list ep ee a =>
  subst ep
  have hI:=hpv I (.head _)
  obtain⟨p,n,vs,l,h1,h2,h5,h6,h7⟩:=a.now S hst
  obtain⟨hv,rfl⟩:=qEz h6
  obtain⟨y,hy,ry⟩:=h5.get hv
  rw[Array.getElem?_toList]at hy
  refine wpAny_pyNext_list_item h1 ⟨_,h2,rfl,_,rfl⟩ hy fun h' it hs=>⟨y,rfl,?_⟩
  obtain⟨oi,ei,ci,di⟩:=id it
  have p1:=priv1 (k:=s.toks) S hI hs.2 ei
  exact qCh (s:={ s with heap:=h' }) ei ci (by decide +kernel) ⟨ry.grow p1.grow hpv,p1,.list rfl ee (h7 p1.grow hpv it)⟩
 |@tup p k n vs l ep ee es er a b c d q r =>
  delta p k n vs l at er a b c d q r
  subst ep
  have hI:=hpv I (.head _)
  obtain⟨hv,rfl⟩:=qEz er
  (injection (r.get hv)with y;rintro⟨hy,ry⟩)
  rw[Array.getElem?_toList]at hy
  refine wpAny_pyNext_tuple_item a ⟨_,b,rfl,_,rfl⟩ hy fun h' it hs=>⟨y,rfl,?_⟩
  obtain⟨oi,ei,ci,di⟩:=id it
  have p1:=priv1 (k:=s.toks) S hI hs.2 ei
  exact qCh (s:={ s with heap:=h' }) ei ci (by decide +kernel) ⟨ry.grow p1.grow hpv,p1,.tup rfl ee es rfl it (p1.grow.kept _ _ b c fun z=>d (hpv _ z)) c d q (r.grow p1.grow hpv)⟩
 |@rng x left ep ee es er a =>
  delta x left at er a
  subst ep
  have hI:=hpv I (.head _)
  obtain⟨h0,rfl,rfl⟩:=qJ6 er
  refine wpAny_pyNext_range_item a h0 fun h' it hs=>⟨_,rfl,?_⟩
  exact qCh (s:={ s with heap:=h',toks:=s.toks+1 }) it rfl (by decide +kernel) ⟨.int _ _,priv1 (k:=s.toks+1) S hI hs.2 it,.rng rfl ee es rfl it⟩
 |@enum J k old rs ep ee er a b c =>
  delta J k old rs at ep er a b c
  subst ep
  cases rs with
  |nil=>exact nomatch er
  |cons v0 rs =>
  delta v0 rs at er c
  obtain⟨rfl,rfl⟩:=List.cons.inj er
  obtain⟨p,n,vs,l,h1,h2,h5,h6,h7⟩:=c.now S hst
  delta p n vs l at h1 h2 h5 h6 h7
  obtain⟨hv,rfl⟩:=qEz h6
  (injection (h5.get hv)with y;rintro⟨hy,ry⟩)
  rw[Array.getElem?_toList]at hy
  (injection (ht ee)with es kx pp;rintro rfl)
  refine wpAny_pyNext_enum_item a h1 ⟨_,h2,rfl,_,rfl⟩ hy b fun h' he hl hT hsz kp0=>⟨_,rfl,?_⟩
  refine wpAny_letOwnedTupleGo_enum he fun h'' he2 hs2=>?_
  have neI:s.heap.objs.size≠I:=Nat.ne_of_gt (Heap.lt_size a)
  have hlJ:h''.IsListIter J p (k+1):=hl.extBut hs2.extBut (Ne.symm b)
  have p1:Post X prog w base [I,J] ψ φ φ H s { s with heap:=h'',toks:=s.toks+1 }:=Post.priv (k:=s.toks+1) S hpv (fun b o nb e=>hs2.extBut b o (fun z=>nb (z▸.head _)) (kp0 b o (fun z=>nb (z▸.head _)) (fun z=>nb (z▸.tail _ (.head _))) e)) fun z hz=>by
   rcases List.mem_cons.mp hz with rfl|hz
   .exact ⟨_,he2⟩
   .rw [List.mem_singleton.mp hz];obtain⟨oj,ej,_⟩:=hlJ;exact⟨oj,ej⟩
  have hT2:h''.get? s.heap.objs.size=some (seqObj "tuple" #[.int (k:Int) s.toks,y] 0):=hs2.extBut _ _ neI hT
  refine⟨.tup hT2 (fun m=>?_) (fun m=>?_) (show 2<1000001 by decide) (.cons (.int _ _) (.cons (ry.grow p1.grow hpv) .nil)),p1,.enum (k:=k+1) rfl ee rfl he2 b (h7 p1.grow hpv hlJ)⟩
  ·(injection (S.there m)with o;intro e);exact absurd (Heap.lt_size e) (Nat.lt_irrefl _)
  ·(injection (S.stand _ m)with o;intro e);exact absurd (Heap.lt_size e) (Nat.lt_irrefl _)
theorem qNc(hh:A.handled=none)(S:SR X prog w base ψ φ H s.heap)(x:ItR X ψ φ s.heap H0 I pv en src [])(hst:qAa H0 H src=true) :
  wpAny (model prog w) A (pyNext (.ref I)) (fun r s'=>r=none/\s'={ s with heap:=s'.heap }/\∀b o,b ∉ pv->s.heap.get? b=some o->s'.heap.get? b=some o) E s:=by
 delta A pv ψ φ H H0 s I src en E at hh S x hst
 have out:∀{h':Heap}{J:Addr},J∈pv->(∀b o,b≠J->s.heap.get? b=some o->h'.get? b=some o)->∀b o,b ∉ pv->s.heap.get? b=some o->h'.get? b=some o:=fun q hb b o nb e=>hb b o (fun z=>nb (z▸q)) e
 cases x with
 |list ep ee a =>
  obtain⟨p,n,vs,l,h1,h2,h5,h6,h7⟩:=a.now S hst
  exact wpAny_pyNext_list_end hh h1 ⟨_,h2,rfl,_,rfl⟩ (by rw[Array.getElem?_eq_none_iff,qAT h5];exact qGQ h6) fun h' hb=>⟨rfl,rfl,out (J:=I) (ep▸.head _) hb⟩
 |tup ep ee es er a b c d q r =>
  exact wpAny_pyNext_tuple_end hh a ⟨_,b,rfl,_,rfl⟩ (by rw[Array.getElem?_eq_none_iff,qAT r];exact qGQ er) fun h' hb=>⟨rfl,rfl,out (J:=I) (ep▸.head _) hb⟩
 |rng ep ee es er a=>exact wpAny_pyNext_range_end hh a (qKM er) fun h' hb=>⟨rfl,rfl,out (J:=I) (ep▸.head _) hb⟩
 |@enum J k old rs ep ee er a b c =>
  delta J k old rs at ep er a b c
  cases rs with
  |cons v0 rs=>exact nomatch er
  |nil =>
   obtain⟨p,n,vs,l,h1,h2,h5,h6,h7⟩:=c.now S hst
   exact wpAny_pyNext_enum_end hh a h1 ⟨_,h2,rfl,_,rfl⟩ (by rw[Array.getElem?_eq_none_iff,qAT h5];exact qGQ h6) fun h' hb=>⟨rfl,rfl,out (J:=J) (ep▸.tail _ (.head _)) hb⟩
end
end
section
section
variable{A:Around}{fr pv ψ φ φ' φ9:List Addr}{H H' H₁ H9 H0:AHeap}{s s8:Shared}{d:Nat}{I:Addr}{src:Option Nat}{rest xs:List AV}{en:Bool}{v:AV}{E:Value->Shared->Prop}
theorem LSrc.iter{h:Heap}{k:Nat}(x:LSrc X ψ φ h H0 I k src rest):∃p,h.IsListIter I p k:=by
 cases x with
 |lst _ _ a=>exact⟨_,a⟩
 |trk _ _ a=>exact⟨_,a⟩
theorem qL5(x:ItR X ψ φ s.heap H0 I pv en src rest){Q:Value->Shared->Prop}(h:Q (.ref I) s):wpAny (model prog w) A (pyIter (.ref I)) Q E s:=by
 delta A pv ψ φ H0 s I src rest en E Q at x h
 cases x with
 |list _ _ a =>
  obtain⟨p,a⟩:=a.iter
  exact wpAny_pyIter_listiter a h
 |tup _ _ _ _ a =>
  refine wpAny_pyIter_slot a.typeIs PySem.F.slot_tuple_iterator_iter (wpAny_call_entry PySem.F.slot_tuple_iterator_iter a.typeIs PySem.F.entry_tuple_iterator_iter ?_ (PySem.F.args_tuple_iterator_iter_1 _))
  show wpAny _ _ (ret (.ref I)) _ _ s
  exact wpAny_pure ⟨_,rfl,"tuple_iterator",_,a.typeIs,PySem.F.slot_tuple_iterator_next.lookup,h⟩
 |rng _ _ _ _ a =>
  have hT:s.TypeIs (.ref I) "range_iterator":=⟨_,a,rfl⟩
  refine wpAny_pyIter_slot hT PySem.F.slot_range_iterator_iter (wpAny_call_entry PySem.F.slot_range_iterator_iter hT PySem.F.entry_range_iterator_iter ?_ (PySem.F.args_range_iterator_iter_1 _))
  show wpAny _ _ (ret (.ref I)) _ _ s
  exact wpAny_pure ⟨_,rfl,"range_iterator",_,hT,PySem.F.slot_range_iterator_next.lookup,h⟩
 |enum _ _ _ a=>exact wpAny_pyIter_enum a h
structure Made (X:CX) (ψ φ:List Addr) (H:AHeap) (src:Option Nat) (xs:List AV) (en:Bool) (s:Shared) (it:Value) (s':Shared) (I:Addr) (pv:List Addr):Prop where
 it:it=.ref I
 own:I∈pv
 fresh:∀a∈pv,s.heap.get? a=none
 there:∀a∈pv,∃o,s'.heap.get? a=some o
 same:s'={ s with heap:=s'.heap }
 keep:∀b o,s.heap.get? b=some o->s'.heap.get? b=some o
 rel:ItR X (pv++ψ) φ s'.heap H I pv en src xs
theorem qIX{h:Heap}{a:Addr}{o:Obj}(e:h.get? a=some o)(hp:∀b∈pv,h.get? b=none)(n:a ∉ ψ):a ∉ pv++ψ:=fun m=>by
 rcases List.mem_append.mp m with m|m
 .rw [hp a m]at e;cases e
 .exact n m
theorem VRs.new{h h':Heap}{vs:List Value}{l:List AV}(r:VRs X ψ φ h vs l)(kp:∀b o,h.get? b=some o->h'.get? b=some o)(hp:∀b∈pv,h.get? b=none):VRs X (pv++ψ) φ h' vs l :=
 VRs.move (fun _ _ e=>e) (fun b o e n m=>⟨kp b o e,n,qIX e hp m⟩) r
noncomputable def qEM(X:CX)(ψ φ:List Addr)(H:AHeap)(src:Option Nat)(xs:List AV)(en:Bool)(s:Shared)(it:Value)(s':Shared):Prop:=∃I pv,Made X ψ φ H src xs en s it s' I pv
theorem qHD(s:Shared):∀b∈[s.heap.objs.size],s.heap.get? b=none:=fun b hb=>by rw[List.mem_singleton.mp hb];exact qAe fun _ _ e=>e
theorem made1{o:Obj}(e:(s.heap.push o).get? s.heap.objs.size=some o)(rel:(s.heap.push o).get? s.heap.objs.size=some o->(∀b ob,s.heap.get? b=some ob->(s.heap.push o).get? b=some ob)->ItR X ([s.heap.objs.size]++ψ) φ (s.heap.push o) H s.heap.objs.size [s.heap.objs.size] false src xs) :
  qEM X ψ φ H src xs false s (.ref s.heap.objs.size) { s with heap:=s.heap.push o }:=by
 exact⟨_,[s.heap.objs.size],rfl,.head _,qHD s,fun a ha=>⟨o,List.mem_singleton.mp ha▸e⟩,rfl,fun b o e=>Heap.get?_push_of_some _ e,rel e fun b o e=>Heap.get?_push_of_some _ e⟩
theorem qOQ(S:SR X prog w base ψ φ H s.heap){x:Value}(r:VR X ψ φ s.heap x v)(e:iterE false H v=some (xs,src)):wpAny (model prog w) A (pyIter x) (qEM X ψ φ H src xs false s) E s:=by
 delta A ψ φ H s src xs v E x at S r e
 induction v using AV.casesOn with
 |tup l =>
  delta l at r e
  obtain⟨rfl,rfl⟩:=qA6 (show some (l,none)=some (xs,src)from e)
  obtain⟨p,vs,n,rfl,e1,n1,m1,k1,r1⟩:=r
  exact wpAny_pyIter_tuple (items:=vs) ⟨_,e1,rfl,_,rfl⟩ (made1 (Heap.get?_push_size _ rfl) fun eI kp=>.tup (k:=0) rfl rfl rfl rfl ⟨_,eI,rfl,rfl⟩ (kp _ _ e1) n1 (qIX e1 (qHD s) m1) k1 (r1.new kp (qHD s)))
 |lst l =>
  delta l at r e
  obtain⟨rfl,rfl⟩:=qA6 (show some (l,none)=some (xs,src)from e)
  obtain⟨p,vs,n,rfl,e1,n1,m1,k1,r1⟩:=r
  exact wpAny_pyIter_list (items:=vs) ⟨_,e1,rfl,_,rfl⟩ (made1 (Heap.get?_push_size _ rfl) fun eI kp=>.list (k:=0) rfl rfl (.lst rfl rfl ⟨_,eI,rfl,rfl⟩ (kp _ _ e1) n1 (qIX e1 (qHD s) m1) k1 (r1.new kp (qHD s))))
 |ref i =>
  delta i at r e
  (injection (qA3 (show(qAj H i).map (fun l=>(l,some i))=some (xs,src)from e))with l;rintro⟨hl,e2⟩)
  cases e2
  (injection (S.list r hl)with p;rintro⟨rfl,hp,vs,n,e1,q,r1⟩)
  exact wpAny_pyIter_list (items:=vs) ⟨_,e1,rfl,_,rfl⟩ (made1 (Heap.get?_push_size _ rfl) fun eI kp=>.list (k:=0) rfl rfl (.trk rfl rfl ⟨_,eI,rfl,rfl⟩ hp (qCg hl)))
 |rng a b =>
  delta a b at r e
  obtain⟨rfl,rfl⟩:=qA6 (show some (qAJ a b,none)=some (xs,src)from e)
  obtain⟨rr,t,u,v,rfl,e1,n1,m1,ha,hb⟩:=r
  have er:qAJ a b=qAJ a (a+Builtin.Range.rangeSize a b 1):=by
   rw[rangeSize_one]
   unfold qAJ
   rw[Int.add_comm a,Int.add_sub_cancel]
   split
   .rfl
   .rw [Int.toNat_of_nonpos (Int.sub_nonpos_of_le (Int.not_lt.mp ‹_›))];rfl
  exact wpAny_pyIter_range e1 (small_one (Int.le_trans (by decide) (qBz ha).1) (Int.lt_of_lt_of_le (qBz ha).2 (by decide)) (Int.le_trans (by decide) (qBz hb).1) (Int.lt_of_lt_of_le (qBz hb).2 (by decide))) (made1 (Heap.get?_push_size _ rfl) fun eI kp=>.rng rfl rfl rfl er eI)
 |_=>exact qA2 e
theorem qLQ(S:SR X prog w base ψ φ H s.heap){x:Value}(r:VR X ψ φ s.heap x v)(e:iterE true H v=some (xs,src)):wpAny (model prog w) A (call (.type "enumerate") [x]) (qEM X ψ φ H src xs true s) E s:=by
 delta A ψ φ H s src xs v E x at S r e
 (injection (qA0 (show(qAH H v).bind (fun _=>bnd (qH7 H v) fun l src=>some (qEy 0 l,src))=some (xs,src)from e))with l0;rintro⟨h1,e⟩)
 (injection (qA4 e)with l sr;rintro⟨h2,e⟩)
 obtain⟨rfl,rfl⟩:=qA6 e
 have fresh:∀b∈[s.heap.objs.size+1,s.heap.objs.size],s.heap.get? b=none:=by
  intros b;intro hb
  cases q:s.heap.get? b with
  |none=>rfl
  |some o =>
   delta o at q
   have:=Heap.lt_size q
   rcases List.mem_cons.mp hb with rfl|hb
   .exact absurd (Nat.lt_of_succ_lt this) (Nat.lt_irrefl _)
   .exact absurd (List.mem_singleton.mp hb▸this) (Nat.lt_irrefl _)
 have fin:∀{p:Addr}{vs:Array Value}{n:Nat},x=.ref p->s.heap.get? p=some (seqObj "list" vs n) ->
   (∀h',h'.IsListIter s.heap.objs.size p 0->(∀b o,s.heap.get? b=some o->h'.get? b=some o)->LSrc X ([s.heap.objs.size+1,s.heap.objs.size]++ψ) φ h' H s.heap.objs.size 0 sr l) ->
   wpAny (model prog w) A (call (.type "enumerate") [x]) (qEM X ψ φ H sr (qEy 0 l) true s) E s:=by
  (intros p vs n;intro hx e1 k)
  subst hx
  refine call_enumerate_1 e1 fun h' he hl hz kp=>⟨_,[s.heap.objs.size+1,s.heap.objs.size],rfl,.head _,fresh,fun a ha=>?_,rfl,kp,.enum rfl rfl rfl he (Nat.succ_ne_self _) (k h' hl kp)⟩
  rcases List.mem_cons.mp ha with rfl|ha
  .exact ⟨_,he⟩
  .rw [List.mem_singleton.mp ha];obtain⟨o,e,_⟩:=hl;exact⟨o,e⟩
 induction v using AV.casesOn with
 |lst m =>
  revert r h1 h2 e;revert m;intros m;intro _ r h1 h2 e
  obtain⟨rfl,rfl⟩:=qA6 (show some (m,none)=some (l,sr)from h2)
  obtain⟨p,vs,n,z,e1,n1,m1,k1,r1⟩:=r
  exact fin z e1 (by intros h';intro it kp;exact .lst rfl rfl it (kp _ _ e1) n1 (qIX e1 fresh m1) k1 (r1.new kp fresh))
 |ref i =>
  revert r h1 h2 e;revert i;intros i;intro _ r h1 h2 e
  (injection (qA3 (show(qAj H i).map (fun l=>(l,some i))=some (l,sr)from h2))with l';rintro⟨hl,e2⟩)
  cases e2
  (injection (S.list r hl)with p;rintro⟨z,hp,vs,n,e1,q,r1⟩)
  exact fin z e1 fun h' it kp=>.trk rfl rfl it hp (qCg hl)
 |_=>exact qA2 h1
theorem Made.sr{it:Value}{s':Shared}(M:Made X ψ φ H src xs en s it s' I pv)(S:SR X prog w base ψ φ H s.heap):SR X prog w base (pv++ψ) φ H s'.heap :=
 S.more M.keep fun a ha=>by
  rcases List.mem_append.mp ha with q|q
  .exact .inr ⟨M.fresh a q,M.there a q⟩
  .exact .inl q
end
end
section
noncomputable def SndT(X:CX)(prog:Program)(w:World)(base:Heap)(d:Nat)(ev:EvFn)(e:Expr)(ce:CE)(sc:Scope):Prop :=
 ∀{A:Around}{env:PySem.Env}{ρ:Rho}{ψ φ:List Addr}{H H':AHeap}{s:Shared}{v:AV}{b:Bool},Room d A->EnvOk env sc->FR X ψ φ s.heap env sc ρ->SR X prog w base ψ φ H s.heap->ev ce ρ H=some (v,H')->qAN v=some b ->
  wpAny (model prog w) A (isTrue e env (eval e env)) (fun c s'=>c=b/\∃φ',Post X prog w base [] ψ φ φ' H' s s') NoE s
theorem Post.wide{ψ φ φ' H'}{fr fr':List Addr}{s s':Shared}(x:Post X prog w base fr ψ φ φ' H' s s')(k:∀a∈fr,a∈fr'):Post X prog w base fr' ψ φ φ' H' s s' :=
 ⟨x.same,x.grow.more fun a q=>.inl (k a q),x.sr⟩
theorem SR.left{pv ψ ψ' φ:List Addr}{H:AHeap}{h h':Heap}(x:SR X prog w base ψ φ H h)(kp:∀b o,b ∉ pv->h.get? b=some o->h'.get? b=some o)(hpv:∀a∈pv,a∈ψ)(hs:∀a∈ψ',a∈ψ)(hn:∀a∈ψ',a ∉ pv):SR X prog w base ψ' φ H h' :=
 ⟨fun b o e=>kp b o (fun q=>by rw[x.priv b (hpv b q)]at e;cases e) (x.keep b o e),x.len,x.nodup,fun a m=>⟨(x.fresh a m).1,(x.fresh a m).2.1,fun q=>(x.fresh a m).2.2 (hs a q)⟩,fun a q=>x.priv a (hs a q),
  fun a q=>let⟨o,e⟩:=x.stand a (hs a q);⟨o,kp a o (hn a q) e⟩,fun i a o e e' =>
  (x.obj i a o e e').move (fun _ _ e=>e) (fun b o e n m=>⟨kp b o (fun q=>m (hpv b q)) e,n,fun q=>m (hs b q)⟩) fun ob q=>kp _ _ (fun q=>(x.fresh a (List.mem_of_getElem? e)).2.2 (hpv a q)) q⟩
theorem VR.left{pv ψ ψ' φ:List Addr}{h h':Heap}(kp:∀b o,b ∉ pv->h.get? b=some o->h'.get? b=some o)(hpv:∀a∈pv,a∈ψ)(hs:∀a∈ψ',a∈ψ){v a}(r:VR X ψ φ h v a):VR X ψ' φ h' v a :=
 VR.move (fun _ _ e=>e) (fun b o e n m=>⟨kp b o (fun q=>m (hpv b q)) e,n,fun q=>m (hs b q)⟩) r
theorem VRs.left{pv ψ ψ' φ:List Addr}{h h':Heap}(kp:∀b o,b ∉ pv->h.get? b=some o->h'.get? b=some o)(hpv:∀a∈pv,a∈ψ)(hs:∀a∈ψ',a∈ψ){v a}(r:VRs X ψ φ h v a):VRs X ψ' φ h' v a :=
 VRs.move (fun _ _ e=>e) (fun b o e n m=>⟨kp b o (fun q=>m (hpv b q)) e,n,fun q=>m (hs b q)⟩) r
section
variable{A:Around}{fr pv ψ ψ' φ φ' φ9:List Addr}{H H' H₁ H9 H0:AHeap}{s s8:Shared}{d:Nat}{I:Addr}{src:Option Nat}{rest xs:List AV}{en:Bool}{v:AV}{E:Value->Shared->Prop}{env:PySem.Env}{sc:Scope}{ρ ρ':Rho}{ok:Str->Prop}
theorem FRs.shift{h h':Heap}(F:FRs ok X ψ φ h env sc ρ)(S:SR X prog w base ψ φ H h)(g:Grow [] φ φ' h h')(k:∀a∈ψ',a∈ψ\/h.get? a=none)(k2:∀a∈ψ,a∈ψ'):FRs ok X ψ' φ' h' env sc ρ:=by
 intro x kx v o a b c
 obtain⟨y,p,q⟩:=F x kx v o a b c
 have p':=p.keep (h':=h') fun a ha o e=>g.kept a o e (fun m=>(S.fresh a m).2.2 ha) (fun q=>qA5 q)
 refine⟨y,?_,VR.move (fun _ _ e=>qBx g.pre e) (fun b o e n m=>⟨g.kept b o e n (fun q=>qA5 q),g.out e n,fun q=>(k b q).elim m fun z=>by rw[e]at z;cases z⟩) q⟩
 cases p' with
 | «local» a b c d=>exact .local a (k2 _ b) c d
 |cell a b c d=>exact .cell a b (k2 _ c) d
theorem FRs.iter{h h':Heap}(F:FRs ok X ψ φ h env sc ρ)(g:Grow pv φ φ h h')(hpv:∀a∈pv,a∈ψ)(S:SR X prog w base ψ φ H h)(hf:∀a∈pv,∃o vs,h.get? a=some o/\o.data=.fields vs):FRs ok X ψ φ h' env sc ρ:=by
 intro x kx v o a b c
 obtain⟨y,p,q⟩:=F x kx v o a b c
 refine⟨y,?_,q.grow g hpv⟩
 cases p with
 |@«local» m a b c d =>
  have hn:env.locals ∉ pv:=fun q=>by
   obtain⟨o,vs,e1,e2⟩:=hf _ q
   obtain⟨o',_,_,e3,e4,_⟩:=c
   rw[e1]at e3;cases e3;rw[e2]at e4;cases e4
  obtain⟨o',es,ep,e3,r⟩:=c
  exact .local a b ⟨o',es,ep,g.kept _ _ e3 (fun m=>(S.fresh _ m).2.2 b) hn,r⟩ d
 |@cell cc a b c d =>
  have hn:cc ∉ pv:=fun q=>by
   obtain⟨o,vs,e1,e2⟩:=hf _ q
   obtain⟨o',e3,e4⟩:=d
   rw[e1]at e3;cases e3;rw[e2]at e4;cases e4
  obtain⟨o',e3,r⟩:=d
  exact .cell a b c ⟨o',g.kept _ _ e3 (fun m=>(S.fresh _ m).2.2 c) hn,r⟩
theorem FRs.list{h h':Heap}(F:FRs ok X ψ φ h env sc ρ)(g:Grow pv φ φ h h')(hpv:∀a∈pv,a∈ψ)(S:SR X prog w base ψ φ H h)(hf:∀a∈pv,∃vs n,h.get? a=some (seqObj "list" vs n)):FRs ok X ψ φ h' env sc ρ:=by
 delta pv ψ φ H env sc ρ ok h h' at F g hpv S hf
 (intros x kx v;intro o a b c)
 (injection (F x kx v o a b c)with y;rintro⟨p,q⟩)
 refine⟨y,?_,q.grow g hpv⟩
 cases p with
 |@«local» m a b c d =>
  have hn:env.locals ∉ pv:=fun q=>by
   (injection (hf _ q)with vs n;intro e1)
   obtain⟨o',_,_,e3,e4,_⟩:=c
   rw[e1]at e3;cases e3;cases e4
  obtain⟨o',es,ep,e3,r⟩:=c
  exact .local a b ⟨o',es,ep,g.kept _ _ e3 (fun m=>(S.fresh _ m).2.2 b) hn,r⟩ d
 |@cell cc a b c d =>
  delta cc at b c d
  have hn:cc ∉ pv:=fun q=>by
   (injection (hf _ q)with vs n;intro e1)
   (injection (d)with o';try clear d;rintro⟨e3,e4⟩)
   rw[e1]at e3;cases e3;cases e4
  (injection (d)with o';try clear d;rintro⟨e3,r⟩)
  exact .cell a b c ⟨o',g.kept _ _ e3 (fun m=>(S.fresh _ m).2.2 c) hn,r⟩
theorem LSrc.fields{h:Heap}{k:Nat}(x:LSrc X ψ φ h H0 I k src rest):∃o vs,h.get? I=some o/\o.data=.fields vs:=by
 obtain⟨p,o,a,_,b⟩:=x.iter
 exact⟨o,_,a,b⟩
theorem ItR.fields{h:Heap}(x:ItR X ψ φ h H0 I pv en src rest):∀a∈pv,∃o vs,h.get? a=some o/\o.data=.fields vs:=by
 delta pv ψ φ H0 I src rest en h at x
 (intros z;intro hz)
 cases x with
 |list ep _ a=>subst ep;rw[List.mem_singleton.mp hz];exact a.fields
 |tup ep _ _ _ a=>subst ep;rw[List.mem_singleton.mp hz];obtain⟨o,a,_,b⟩:=a;exact⟨o,_,a,b⟩
 |rng ep _ _ _ a=>subst ep;rw[List.mem_singleton.mp hz];exact⟨_,_,a,rfl⟩
 |enum ep _ _ a b c =>
  subst ep
  rcases List.mem_cons.mp hz with rfl|hz
  .exact ⟨_,_,a,rfl⟩
  .rw [List.mem_singleton.mp hz];exact c.fields
theorem qDG{ev:EvFn}(R:Room d A)(O:EnvOk env sc):∀{es:List Expr}{ces:List CE}{H H':AHeap}{φ:List Addr}{s:Shared}{b:Bool},listM₂ (fun e ce=>SndT X prog w base d ev e ce sc) es ces->FR X ψ φ s.heap env sc ρ->SR X prog w base ψ φ H s.heap ->
  qCk ev ces ρ H=some (b,H') ->
  wpAny (model prog w) A (forIn es true fun c r=>if r=true then do let ok <-isTrue c env (eval c env);pure (ForInStep.yield ok)else pure (ForInStep.yield r)) (fun c s'=>c=b/\∃φ',Post X prog w base [] ψ φ φ' H' s s') NoE s
 |[],[],H,H',φ,s,b,_,F,S,e=>by
  cases e
  rw[List.forIn_nil]
  exact wpAny_pure ⟨rfl,φ,Post.refl S⟩
 |e::es,c::ces,H,H',φ,s,b,hp,F,S,h=>by
  obtain⟨v,H1,h1,h⟩:=qA4 h
  obtain⟨b1,h2,h⟩:=qA0 h
  rw[List.forIn_cons,if_pos rfl]
  refine wpAny_bind (wpAny_bind (qA1 (hp.1 R O F S h1 h2) fun c1 s1 q=>wpAny_pure ?_))
  obtain⟨rfl,φ1,p1⟩:=q
  cases c1 with
  |true =>
   rw[if_pos rfl]at h
   refine qA1 (qDG R O hp.2 (FRs.post F S p1) p1.sr h) fun c2 s2 q=>?_
   obtain⟨rfl,φ2,p2⟩:=q
   exact⟨rfl,φ2,p1.trans p2⟩
  |false =>
   rw[if_neg Bool.false_ne_true]at h
   cases h
   have stop:∀(es:List Expr) {s:Shared}{Q:Bool->Shared->Prop},Q false s->wpAny (model prog w) A (forIn es false fun c r=>if r=true then do let ok <-isTrue c env (eval c env);pure (ForInStep.yield ok)else pure (ForInStep.yield r)) Q NoE s:=by
    intro es
    induction es with
    |nil=>intro s Q q;rw[List.forIn_nil];exact wpAny_pure q
    |cons e es ih=>intro s Q q;rw[List.forIn_cons,if_neg Bool.false_ne_true];exact wpAny_bind (wpAny_pure (ih q))
   exact stop es ⟨rfl,φ1,p1⟩
 |[],_::_,_,_,_,_,_,hp,_,_,_=>hp.elim
 |_::_,[],_,_,_,_,_,hp,_,_,_=>hp.elim
theorem qIA{D:Addr}{x:Value}{vs:Array Value}{n:Nat}{done:List AV}(S:SR X prog w base ψ φ H s.heap)(hD:D∈ψ)(e:s.heap.get? D=some (seqObj "list" vs n))(hl:done.length<1000000)(r:VRs X ψ φ s.heap vs.toList done)(rx:VR X ψ φ s.heap x v)
 {Q:Value->Shared->Prop}(h:∀s' n',Post X prog w base [D] ψ φ φ H s s'->s'.heap.get? D=some (seqObj "list" (vs.push x) n')->VRs X ψ φ s'.heap (vs.push x).toList (done++[v])->Q .none s') :
  wpAny (model prog w) A (call (.builtin "list.append") [.ref D,x]) Q E s:=by
 refine call_meets PySem.F.slot_list_append ⟨_,e,rfl⟩ PySem.F.entry_list_append (PySem.F.args_list_append_2 _ _) (PySem.list_append _ _ _ _ (by rw[qAT r,qBP];omega)) ⟨e,?_⟩
 have U:=PySem.IsL.update (h:=s.heap) (l:=D) (items:=vs) (n:=n) e (fun a=>a.push x)
 have kp:∀b o,b ∉ [D]->s.heap.get? b=some o->(s.heap.update D (Obj.mapSeq fun a=>a.push x)).get? b=some o:=fun b o nb e=>(Heap.get?_update_other _ _ (Ne.symm (by simpa using nb))).trans e
 have p1:=Post.priv (k:=s.toks) S (pv:=[D]) (fun a ha=>by rw[List.mem_singleton.mp ha];exact hD) kp fun a ha=>by rw[List.mem_singleton.mp ha];exact⟨_,U⟩
 have hf:∀a∈[D],a∈ψ:=fun a ha=>by rw[List.mem_singleton.mp ha];exact hD
 exact h _ _ p1 U (by rw[qGs];exact(r.grow p1.grow hf).append (.cons (rx.grow p1.grow hf) .nil))
structure CFin (X:CX) (prog:Program) (w:World) (base:Heap) (pv ψ φ:List Addr) (H':AHeap) (D C:Addr) (l:List AV) (s s':Shared) (φ':List Addr) (vs:Array Value) (n:Nat):Prop where
 same:s'={ s with heap:=s'.heap,toks:=s'.toks,drawn:=s'.drawn }
 grow:Grow (D::C::pv) φ φ' s.heap s'.heap
 sr:SR X prog w base (D::C::ψ) φ' H' s'.heap
 acc:s'.heap.get? D=some (seqObj "list" vs n)
 rel:VRs X (D::C::ψ) φ' s'.heap vs.toList l
 ns:∃m,s'.heap.Ns C m
theorem qLe{ev:EvFn}{inner:Scope}{cenv:PySem.Env}{D:Addr}{t elt iter:Expr}{ct:CT}{celt:CE}{ifs:List Expr}{cifs:List CE}{pos:Pos}{scp:Scope}{R:Result->Shared->Prop}(Rm:Room d A)(O:EnvOk cenv inner)
 (hct:qAf X inner t=some ct)(ht:en=true->∃es k p,t=.Tuple es k p)(hloc:∀x,qAE inner x=some .local->x∈qED t\/nid X.names x=none)(he:SndE X prog w base d ev elt celt inner)(hifs:listM₂ (fun e ce=>SndT X prog w base d ev e ce inner) ifs cifs)
 (hDC:D≠cenv.locals)(hDp:D ∉ pv)(hCp:cenv.locals ∉ pv)(hDψ:D ∉ ψ)(hpψ:∀a∈ψ,a ∉ pv) :
  ∀{xs:List AV}{ρ:Rho}{H H':AHeap}{φ:List Addr}{s:Shared}{done vs:List AV}{va:Array Value}{n:Nat},SR X prog w base (D::cenv.locals::pv++ψ) φ H s.heap->ItR X (D::cenv.locals::pv++ψ) φ s.heap H0 I pv en src xs ->
   StoreOk [cenv.locals] s.heap cenv inner->FRs (fun x=>qAE inner x≠some .local) X (D::cenv.locals::pv++ψ) φ s.heap cenv inner ρ->s.heap.get? D=some (seqObj "list" va n)->VRs X (D::cenv.locals::pv++ψ) φ s.heap va.toList done ->
   done.length+xs.length<1000001->compLoop ev celt ct cifs H0 src xs ρ H=some (vs,H') ->
   (∀s' φ' va' n',CFin X prog w base pv ψ φ H' D cenv.locals (done++vs) s s' φ' va' n'->R (.ok .next) s') ->
   codeAny (model prog w) A (.compLoop (.ListComp elt [⟨t,iter,ifs,0⟩] scp pos) 0 (.ref I) (.ref D) cenv) R s:=by
 revert Rm O hct ht hloc he hifs hDC hDp hCp hDψ hpψ
 revert A pv ψ H0 d I src en ev inner cenv D t elt iter ct celt ifs cifs pos scp R
 intros A pv ψ H0 d I src en ev inner cenv
 intros D t elt iter ct celt ifs cifs pos scp R
 intro Rm O hct ht hloc he hifs hDC hDp hCp hDψ hpψ
 intros xs
 have inP:∀a∈pv,a∈D::cenv.locals::pv++ψ:=fun a ha=>List.mem_append_left _ (.tail _ (.tail _ ha))
 have inC:∀a∈[cenv.locals],a∈D::cenv.locals::pv++ψ:=fun a ha=>by rw[List.mem_singleton.mp ha];exact .tail _ (.head _)
 have inQ:∀a∈D::cenv.locals::ψ,a∈D::cenv.locals::pv++ψ:=by
  intros a;intro ha
  rcases List.mem_cons.mp ha with rfl|ha
  .exact .head _
  rcases List.mem_cons.mp ha with rfl|ha
  .exact .tail _ (.head _)
  .exact List.mem_append_right (D::cenv.locals::pv) ha
 induction xs with
 |nil =>
  (intros ρ H H' φ s done vs va n;intro S it T F hacc racc hlen hev hR)
  obtain⟨hst,hev⟩:=qA9 hev
  cases hev
  refine codeAny_of_tree ?_
  show wpAny _ A ((compTurn (.ListComp elt [⟨t,iter,ifs,0⟩] scp pos) 0 (.ref I) (.ref D) cenv).onRaise (fun x=>do noteFrame x cenv;theTreesLotGoes x)) _ _ s
  refine wpAny_noted ?_
  rw[compTurn_list]
  refine wpAny_bind (wpAny_standAt (wpAny_bind (wpAny_mono (qNc Rm.handled S it hst) (?_) fun _ _ h'=>h')))
  intros r s8;intro h₁
  obtain⟨rfl,h2,h3⟩:=h₁
  refine wpAny_pure (hR s8 φ va n ⟨by rw[h2],⟨List.prefix_refl _,fun _ q=>.inl q,fun b o e _ nb=>h3 b o (fun q=>nb (.tail _ (.tail _ q))) e⟩,?_,h3 D _ hDp hacc,?_,?_⟩)
  .refine S.left h3 inP inQ ?_
   intros a;intro ha
   rcases List.mem_cons.mp ha with rfl|ha
   .exact hDp
   rcases List.mem_cons.mp ha with rfl|ha
   .exact hCp
   .exact hpψ a ha
  .rw [List.append_nil]
   exact racc.left h3 inP inQ
  ·(injection (T.ns)with m o es ep;rintro⟨e,r⟩)
   exact⟨m,o,es,ep,h3 _ _ hCp e,r⟩
 |cons x xs ih =>
  delta x xs at ih
  (intros ρ H H' φ s done vs va n;intro S it T F hacc racc hlen hev hR)
  obtain⟨hst,hev⟩:=qA9 hev
  (injection (qA0 hev)with ρ1;rintro⟨h1,hev⟩)
  (injection (qA4 hev)with b H4;rintro⟨h2,hev⟩)
  refine codeAny_of_tree ?_
  show wpAny _ A ((compTurn (.ListComp elt [⟨t,iter,ifs,0⟩] scp pos) 0 (.ref I) (.ref D) cenv).onRaise (fun x=>do noteFrame x cenv;theTreesLotGoes x)) _ _ s
  refine wpAny_noted ?_
  rw[compTurn_list]
  refine wpAny_bind (wpAny_standAt (wpAny_bind (wpAny_mono (qL7 S inP it hst ht) (?_) fun _ _ h'=>h')))
  intros r s8;intro h₁
  (injection (h₁)with y;try clear h₁;rintro⟨rfl,h₁⟩)
  refine wpAny_bind (wpAny_mono h₁ (?_) fun _ _ h'=>h')
  intro _;intros s2;intro q
  obtain⟨ry,p2,it2⟩:=q
  have T2:StoreOk [cenv.locals] s2.heap cenv inner:=T.keep (by intros a;intro ha;intros o;intro e;exact p2.grow.kept a o e (fun m=>(S.fresh a m).2.2 (inC a ha)) (by rw[List.mem_singleton.mp ha];exact hCp))
  have F2:=F.iter p2.grow inP S it.fields
  refine wpAny_bind (wpAny_mono (qDT (E:=_) O inC Rm.handled hct h1 T2 F2 p2.sr ry) (?_) fun _ _ h'=>h')
  intro _;intros s3;intro q3
  have F3:FR X (D::cenv.locals::pv++ψ) φ s3.heap cenv inner ρ1:=fun z k u _ hv hn=>q3.vars z k u (by
   by_cases hz:qAE inner z=some .local
   .exact .inr ((hloc z hz).resolve_right fun q=>by rw[hn]at q;cases q)
   .exact .inl hz) hv hn
  refine wpAny_bind (wpAny_mono (qDG Rm O hifs F3 q3.post.sr h2) (?_) fun _ _ e=>e.elim)
  intros c s4;intro q4
  (obtain⟨rfl,H_⟩:=q4;injection H_ with φ4;clear H_;intro p4)
  have T4:=q3.st.post q3.post.sr inC p4
  have F4:=FRs.post F3 q3.post.sr p4
  have it3:=it2.grow q3.post.grow inC (by intros a;intro ha;intros o;intro e;exact q3.kept a o (fun q=>hCp (by rw[List.mem_singleton.mp q]at ha;exact ha)) e)
  have it4:=it3.grow p4.grow (fun _ q=>nomatch q) (by intros a;intro ha;intros o;intro e;exact p4.grow.kept a o e (fun m=>(q3.post.sr.fresh a m).2.2 (inP a ha)) (fun q=>qA5 q))
  have subP:∀a∈pv,a∈D::cenv.locals::pv:=fun a ha=>.tail _ (.tail _ ha)
  have subC:∀a∈[cenv.locals],a∈D::cenv.locals::pv:=fun a ha=>by rw[List.mem_singleton.mp ha];exact .tail _ (.head _)
  have inA:∀a∈D::cenv.locals::pv,a∈D::cenv.locals::pv++ψ:=fun a ha=>List.mem_append_left _ ha
  have p24:Post X prog w base (D::cenv.locals::pv) (D::cenv.locals::pv++ψ) φ φ4 H4 s s4:=((p2.wide subP).transF (q3.post.wide subC) inA).transF (p4.wide fun _ q=>qA5 q) inA
  have accD:∀o,s.heap.get? D=some o->s4.heap.get? D=some o:=by
   intros o;intro e
   have e2:=p2.grow.kept D o e (fun m=>(S.fresh D m).2.2 (.head _)) hDp
   have e3:=q3.kept D o (fun z=>hDC (List.mem_singleton.mp z)) e2
   exact p4.grow.kept D o e3 (fun m=>(q3.post.sr.fresh D m).2.2 (.head _)) (fun q=>qA5 q)
  have hacc4:=accD _ hacc
  have racc4:=racc.grow p24.grow inA
  have out:∀{φ7 φ8:List Addr}{H7:AHeap}{h7 h8:Heap},SR X prog w base (D::cenv.locals::pv++ψ) φ7 H7 h7->Grow (D::cenv.locals::pv) φ7 φ8 h7 h8->∀a∈D::cenv.locals::pv++ψ,a∈φ8->False:=fun S7 g a ha m=>by
   rcases g.new a m with q|q
   .exact (S7.fresh a q).2.2 ha
   .obtain ⟨o,e⟩:=S7.stand a ha;rw[e]at q;cases q
  cases c with
  |false =>
   rw[if_neg Bool.false_ne_true]at hev
   refine wpAny_pure ⟨rfl,ih p24.sr it4 T4 (fun z k u _=>F4 z k u trivial) hacc4 racc4 (Nat.lt_of_succ_lt hlen) hev fun s' φ' va' n' cf=>hR s' φ' va' n' ⟨?_,?_,cf.sr,cf.acc,cf.rel,cf.ns⟩⟩
   .rw [cf.same,p24.same]
   .exact p24.grow.trans cf.grow fun a ha m=>(out p24.sr cf.grow a (inA a ha) m).elim
  |true =>
   rw[if_pos rfl]at hev
   (injection (qA4 hev)with v5 H5;rintro⟨h3,hev⟩)
   (injection (qA4 hev)with vs6 H6;rintro⟨h4,hev⟩)
   cases hev
   refine wpAny_bind (wpAny_bind (wpAny_mono (he Rm O F4 p4.sr h3) (?_) fun _ _ e=>e.elim))
   intros x5 s5;intro q5
   (injection (q5)with φ5;try clear q5;rintro⟨p5,r5⟩)
   have hacc5:=p5.grow.kept D _ hacc4 (fun m=>(p4.sr.fresh D m).2.2 (.head _)) (fun q=>qA5 q)
   refine wpAny_bind (qIA p5.sr (.head _) hacc5 (Nat.lt_of_le_of_lt (Nat.le_add_right _ xs.length) (Nat.lt_of_succ_lt_succ hlen)) (racc4.grow0 p5.grow) r5 fun s6 n6 p6 e6 r6=>wpAny_pure (wpAny_pure ⟨rfl,?_⟩))
   have inD:∀a∈[D],a∈D::cenv.locals::pv++ψ:=fun a ha=>by rw[List.mem_singleton.mp ha];exact .head _
   have p26:Post X prog w base (D::cenv.locals::pv) (D::cenv.locals::pv++ψ) φ φ5 H5 s s6:=(p24.transF (p5.wide fun _ q=>qA5 q) inA).transF (p6.wide fun a ha=>by rw[List.mem_singleton.mp ha];exact .head _) inA
   have T5:=T4.post p4.sr inC p5
   have T6:StoreOk [cenv.locals] s6.heap cenv inner:=T5.keep fun a ha o e=>p6.grow.kept a o e (fun m=>(p5.sr.fresh a m).2.2 (inC a ha)) (by rw[List.mem_singleton.mp ha,List.mem_singleton];exact Ne.symm hDC)
   have F5:=FRs.post F4 p4.sr p5
   have F6:FR X (D::cenv.locals::pv++ψ) φ5 s6.heap cenv inner ρ1:=FRs.list F5 p6.grow inD p5.sr fun a ha=>by rw[List.mem_singleton.mp ha];exact⟨_,_,p5.grow.kept D _ hacc4 (fun m=>(p4.sr.fresh D m).2.2 (.head _)) (fun q=>qA5 q)⟩
   have it5:=it4.grow p5.grow (fun _ q=>qA5 q) (by intros a;intro ha;intros o;intro e;exact p5.grow.kept a o e (fun m=>(p4.sr.fresh a m).2.2 (inP a ha)) (fun q=>qA5 q))
   have it6:=it5.grow p6.grow inD fun a ha o e=>p6.grow.kept a o e (fun m=>(p5.sr.fresh a m).2.2 (inP a ha)) (fun q=>hDp (by rw[List.mem_singleton.mp q]at ha;exact ha))
   refine ih p6.sr it6 T6 (fun z k u _=>F6 z k u trivial) e6 r6 (by rw[List.length_append,Nat.add_right_comm];exact hlen) h4 fun s' φ' va' n' cf=>hR s' φ' va' n' ⟨?_,?_,cf.sr,cf.acc,?_,cf.ns⟩
   .rw [cf.same,p26.same]
   .exact p26.grow.trans cf.grow fun a ha m=>(out p26.sr cf.grow a (inA a ha) m).elim
   .have:=cf.rel
    rw[List.append_assoc]at this
    exact this
end
end
section
section
variable{A:Around}{fr pv ψ ψ' φ φ' φ9:List Addr}{H H' H₁ H9 H0:AHeap}{s s8:Shared}{d:Nat}{I:Addr}{src:Option Nat}{rest xs:List AV}{en:Bool}{v:AV}{E:Value->Shared->Prop}{env:PySem.Env}{sc:Scope}{ρ ρ':Rho}{ok:Str->Prop}
theorem qFl:∀(k:Nat) (l:List AV),(qEy k l).length=l.length
 |_,[]=>rfl
 |k,_::l=>congrArg (·+1) (qFl (k+1) l)
theorem qFe(S:SR X prog w base ψ φ H s.heap){x:Value}(r:VR X ψ φ s.heap x v)(e:qH7 H v=some (xs,src)):xs.length<1000001:=by
 delta ψ φ H s src xs v x at S r e
 induction v using AV.casesOn with
 |tup l=>rw[<-(qA6 (show some (l,none)=some (xs,src)from e)).1];obtain⟨_,_,_,_,_,_,_,k,_⟩:=r;exact k
 |lst l=>rw[<-(qA6 (show some (l,none)=some (xs,src)from e)).1];obtain⟨_,_,_,_,_,_,_,k,_⟩:=r;exact k
 |ref i =>
  delta i at r e
  (injection (qA3 (show(qAj H i).map (fun l=>(l,some i))=some (xs,src)from e))with l;rintro⟨hl,e2⟩)
  (injection (S.list r hl)with ζ_1;rintro⟨_,_,_,_,_,k,_⟩)
  cases e2;exact k
 |rng a b =>
  delta a b at r e
  rw[<-(qA6 (show some (qAJ a b,none)=some (xs,src)from e)).1]
  obtain⟨_,_,_,_,_,_,_,_,k,m⟩:=r
  unfold qAJ
  rw[List.length_map,List.length_range]
  exact Nat.lt_of_le_of_lt (qCc a b) (Nat.add_lt_add (Nat.lt_of_lt_of_le m (by decide)) (Nat.lt_of_lt_of_le k (by decide:400001<=500000)) |> (Nat.lt_of_lt_of_le · (by decide:500000+500000<=1000001)))
 |_=>exact qA2 e
theorem qH8(S:SR X prog w base ψ φ H s.heap){x:Value}(r:VR X ψ φ s.heap x v)(e:iterE en H v=some (xs,src)):xs.length<1000001:=by
 cases en with
 |true =>
  obtain⟨l0,h1,e⟩:=qA0 (show(qAH H v).bind (fun _=>bnd (qH7 H v) fun l src=>some (qEy 0 l,src))=some (xs,src)from e)
  obtain⟨l,sr,h2,e⟩:=qA4 e
  rw[<-(qA6 e).1,qFl]
  exact qFe S r h2
 |false=>exact qFe S r e
theorem SR.promote{D:Addr}{h:Heap}{o:AObj}(x:SR X prog w base (D::ψ) φ H h)(h3:3<D)(hn:D ∉ ψ)(ho:ObjR X prog w ψ (φ++[D]) h D o):SR X prog w base ψ (φ++[D]) (H++[o]) h:=by
 delta ψ φ H D h o at x h3 hn ho
 have hD:D ∉ φ:=fun m=>(x.fresh D m).2.2 (.head _)
 refine⟨x.keep,by simp[x.len],?_,?_,fun a q=>x.priv a (.tail _ q),fun a q=>x.stand a (.tail _ q),?_⟩
 .rw [List.nodup_append];exact⟨x.nodup,by simp,by intros b;intro hb;intros c;intro hc;rw[List.mem_singleton]at hc;rw[hc];exact fun z=>hD (z▸hb)⟩
 .intros b;intro q
  rcases List.mem_append.mp q with q|q
  .exact ⟨(x.fresh b q).1,(x.fresh b q).2.1,fun z=>(x.fresh b q).2.2 (.tail _ z)⟩
  .rw [List.mem_singleton.mp q];exact⟨x.priv D (.head _),h3,hn⟩
 .intros i b ob;intro e e'
  by_cases hi:i<φ.length
  .rw [List.getElem?_append_left hi]at e
   rw[List.getElem?_append_left (by rw[<-x.len];exact hi)]at e'
   refine(x.obj i b ob e e').move (fun _ _ e=>qBx (List.prefix_append _ _) e) (fun b o e n m=>⟨e,fun q=>?_,fun q=>m (.tail _ q)⟩) fun _ e=>e
   rcases List.mem_append.mp q with q|q
   .exact n q
   .exact m (by rw[List.mem_singleton.mp q];exact .head _)
  .rw [List.getElem?_append_right (Nat.le_of_not_lt hi)]at e
   rw[List.getElem?_append_right (by rw[<-x.len];exact Nat.le_of_not_lt hi),<-x.len]at e'
   (injection (⟨_,rfl⟩:∃j,i-φ.length=j)with j;intro hj)
   rw[hj]at e e'
   cases j with
   |zero=>cases e;cases e';exact ho
   |succ j=>cases e
inductive Promoted (X:CX) (prog:Program) (w:World) (base:Heap) (ψ φ:List Addr) (D:Addr) (h:Heap) (v:AV) (H':AHeap):Prop
 |mk (φ':List Addr) (pre:φ <+: φ') (new:∀a∈φ',a∈φ\/a=D) (sr:SR X prog w base ψ φ' H' h) (r:VR X ψ φ' h (.ref D) v)
theorem promote{D:Addr}{h:Heap}{vs:Array Value}{n:Nat}{l:List AV}(trk:Bool)(S:SR X prog w base (D::ψ) φ H h)(e:h.get? D=some (seqObj "list" vs n))(r:VRs X (D::ψ) φ h vs.toList l)(hl:l.length<1000001)(h3:3<D)(hn:D ∉ ψ) :
  Promoted X prog w base ψ φ D h (qAC trk l H).1 (qAC trk l H).2:=by
 have hD:D ∉ φ:=fun m=>(S.fresh D m).2.2 (.head _)
 cases trk with
 |false =>
  exact⟨φ,List.prefix_refl _,fun _ q=>.inl q,S.fewer fun a q=>.tail _ q,.lst e hD hn hl (VRs.move (fun _ _ e=>e) (fun b o e n m=>⟨e,n,fun q=>m (.tail _ q)⟩) r)⟩
 |true =>
  have r':VRs X ψ (φ++[D]) h vs.toList l:=VRs.move (fun _ _ e=>qBx (List.prefix_append _ _) e) (fun b o e n m=>⟨e,fun q=>by
   rcases List.mem_append.mp q with q|q
   .exact n q
   .exact m (by rw[List.mem_singleton.mp q];exact .head _),fun q=>m (.tail _ q)⟩) r
  refine⟨φ++[D],List.prefix_append _ _,fun a q=>?_,S.promote h3 hn (.list e hl r'),.ref ?_⟩
  .rcases List.mem_append.mp q with q|q
   .exact .inl q
   .exact .inr (List.mem_singleton.mp q)
  .rw [<-S.len];simp
theorem qFa{f:Str->NameKind->NameKind}:∀{l:List (Str×NameKind)}{x:Str},(l.map fun(n,k)=>(n,f n k)).lookup x=(l.lookup x).map (f x)
 |[],_=>rfl
 |(n,k)::r,x=>by
  rw[List.map_cons,List.lookup_cons,List.lookup_cons]
  cases q:x==n with
  |true=>rw[beq_iff_eq.mp q];rfl
  |false=>exact qFa (l:=r)
theorem qFE{inner:Scope}{x:Str}:(relabel inner env).names.lookup x=(inner.names.lookup x).map (fun k=>if(k==.free&&env.scope.kind==.function&&env.kindOf x==some .cell)then .cell else k):=by
 revert env inner x
 intros env inner x
 show(inner.names.map fun(n,k)=>if(k==.free&&env.scope.kind==.function&&env.kindOf n==some .cell)then(n,NameKind.cell)else(n,k)).lookup x=_
 rw[<-qFa (f:=fun n k=>if(k==.free&&env.scope.kind==.function&&env.kindOf n==some .cell)then .cell else k)]
 congr 1
 apply List.map_congr_left
 (intros p;intro _)
 obtain⟨n,k⟩:=p
 dsimp only
 split<;>rfl
noncomputable def closL(env:PySem.Env):List (Str×NameKind)->List (Str×Addr)->List (Str×Addr)
 |[],acc=>acc
 |(n,k)::r,acc=>if k==.free then closL env r ((n,(env.cells.lookup n).getD 0)::acc)else closL env r acc
theorem qOk(hc:∀x,(x,NameKind.free)∈sc.names->∃c,env.cells.lookup x=some c):closureFor sc env=pure (closL env sc.names []):=by
 delta env sc at hc
 have gen:∀(l:List (Str×NameKind)) (acc:List (Str×Addr)),(∀x,(x,NameKind.free)∈l->∃c,env.cells.lookup x=some c) ->
   (forIn l acc fun(x:Str×NameKind) cs=>match x with|(name,kind)=>if kind==.free then do let a <-cellOf env name;pure (ForInStep.yield ((name,a)::cs))else pure (ForInStep.yield cs))=(pure (closL env l acc):Sem _):=by
  intros l
  induction l with
  |nil=>(intros acc;intro _);rfl
  |cons p r ih =>
   delta p r at ih
   (intros acc;intro h)
   obtain⟨n,k⟩:=p
   delta n k at h
   rw[List.forIn_cons]
   by_cases hk:k=.free
   .subst hk
    (injection (h n (.head _))with c;intro hc)
    have e:cellOf env n=pure c:=by unfold cellOf;rw[hc]
    dsimp only
    rw[if_pos (show(NameKind.free==NameKind.free)=true from rfl),e]
    simp only[pure_bind]
    refine(ih _ fun x hx=>h x (.tail _ hx)).trans ?_
    rw[closL,if_pos (show(NameKind.free==NameKind.free)=true from rfl),hc];rfl
   .have hk':(k==NameKind.free)=false:=by simpa using hk
    dsimp only
    rw[hk',if_neg Bool.false_ne_true]
    simp only[pure_bind]
    refine(ih _ fun x hx=>h x (.tail _ hx)).trans ?_
    rw[closL,hk',if_neg Bool.false_ne_true]
 unfold closureFor
 have:=gen sc.names [] hc
 simp only[]at this ⊢
 first|exact this|(rw[this];rfl)
theorem qF6:∀{l:List (Str×NameKind)}{acc:List (Str×Addr)},(∀p∈acc,p.2=(env.cells.lookup p.1).getD 0)->∀p∈closL env l acc,p.2=(env.cells.lookup p.1).getD 0
 |[],acc,h=>h
 |(n,k)::r,acc,h=>by
  unfold closL
  split
  .exact qF6 fun p hp=>by
    rcases List.mem_cons.mp hp with rfl|hp
    .rfl
    .exact h p hp
  .exact qF6 h
theorem qDs{x:Str}:∀{l:List (Str×NameKind)}{acc:List (Str×Addr)},(x,NameKind.free)∈l\/(∃c,acc.lookup x=some c)->∃c,(closL env l acc).lookup x=some c
 |[],acc,h=>h.elim (fun q=>qA5 q) id
 |(n,k)::r,acc,h=>by
  unfold closL
  have step:∀(c:Addr),(∃c,acc.lookup x=some c)->∃c',((n,c)::acc).lookup x=some c':=fun c q=>by
   rw[List.lookup_cons]
   split
   .exact ⟨_,rfl⟩
   .exact q
  split
  .rename_i hk
   refine qDs ?_
   rcases h with h|h
   .rcases List.mem_cons.mp h with q|q
    .right
     cases q
     rw[List.lookup_cons,beq_self_eq_true];exact⟨_,rfl⟩
    .exact .inl q
   .exact .inr (step _ h)
  .rename_i hk
   refine qDs ?_
   rcases h with h|h
   .rcases List.mem_cons.mp h with q|q
    .cases q;exact absurd rfl hk
    .exact .inl q
   .exact .inr h
theorem qIp{x:Str}{c:Addr}{l:List (Str×NameKind)}(h:(x,NameKind.free)∈l)(hc:env.cells.lookup x=some c):(closL env l []).lookup x=some c:=by
 obtain⟨c',e⟩:=qDs (env:=env) (acc:=[]) (.inl h)
 have:=qF6 (env:=env) (l:=l) (acc:=[]) (fun _ q=>qA5 q) _ (mem_of_lookup e)
 dsimp only at this
 rw[hc]at this
 rw[e,this];rfl
end
end
section
structure CompOk (X:CX) (sc inner:Scope) (t:Expr):Prop where
 kind:inner.kind=.function
 nocell:∀x∈inner.names,x.2≠.cell
 loc:∀x∈inner.names,x.2=.local->inner.names.lookup x.1=some .local/\(x.1∈qED t\/nid X.names x.1=none)
 free:∀x∈inner.names,x.2=.free->(qAE sc x.1=some .cell\/qAE sc x.1=some .free)/\qAE inner x.1=some .free
theorem qCB{sc inner:Scope}{t:Expr}(h:qCm X sc inner t=true):CompOk X sc inner t:=by
 delta sc inner t at h
 unfold qCm at h
 rw[Bool.and_eq_true,beq_iff_eq,List.all_eq_true]at h
 refine⟨h.1,?_,?_,?_⟩
 .intros x;intro hx q
  have:=h.2 x hx
  rw[q]at this
  simp at this
 .intros x;intro hx q
  have:=h.2 x hx
  rw[q]at this
  simpa using this
 .intros x;intro hx q
  have:=h.2 x hx
  rw[q]at this
  simpa[qAE]using this
section
variable{A:Around}{fr pv ψ ψ' φ φ' φ9:List Addr}{H H' H₁ H9 H0:AHeap}{s s8:Shared}{d:Nat}{I:Addr}{src:Option Nat}{rest xs:List AV}{en:Bool}{v:AV}{E:Value->Shared->Prop}{env:PySem.Env}{sc:Scope}{ρ ρ':Rho}{ok:Str->Prop}
theorem qFp{inner:Scope}{t:Expr}{C:Addr}(O:EnvOk env sc)(K:CompOk X sc inner t):EnvOk (compEnvC inner (closL env inner.names []) C env) inner:=by
 have kof:∀x,(compEnvC inner (closL env inner.names []) C env).kindOf x=(qAE inner x).map (fun k=>if(k==.free&&env.scope.kind==.function&&env.kindOf x==some .cell)then .cell else k):=fun x=>qFE
 refine⟨K.kind,O.globals,O.builtins,fun x h=>?_,fun x h=>?_,fun x h=>?_,fun x h=>?_,fun x h=>?_⟩
 .rw [kof,h];rfl
 .rw [kof,h];rfl
 .rw [kof,h];rfl
 .rw [kof,h,Option.map_some]
  split
  .exact .inr rfl
  .exact .inl rfl
 .rcases h with h|h
  .exact absurd rfl (K.nocell _ (mem_of_lookup h))
  .have hm:=mem_of_lookup h
   obtain⟨c,hc⟩:=O.cells x (K.free _ hm rfl).1
   exact⟨c,qIp hm hc⟩
theorem qHL{inner:Scope}{t:Expr}{C:Addr}{h:Heap}(O:EnvOk env sc)(K:CompOk X sc inner t)(F:FR X ψ φ h env sc ρ):FRs (fun x=>qAE inner x≠some .local) X ψ φ h (compEnvC inner (closL env inner.names []) C env) inner ρ:=by
 intro x k v hx hv hn hl
 have hfree:qAE inner x=some .free:=by
  have hv:isV (qAE inner x)=true:=hv
  cases q:qAE inner x with
  |none=>rw[q]at hv;cases hv
  |some k =>
   rw[q]at hv
   cases k with
   | «local»=>exact absurd q hx
   |cell=>exact absurd rfl (K.nocell _ (mem_of_lookup q))
   |free=>rfl
   |_=>cases hv
 have hm:=mem_of_lookup hfree
 have hk:=(K.free _ hm rfl).1
 obtain⟨y,va,r⟩:=F x k v trivial (by show isV _=true;rcases hk with q|q<;>rw[q]<;>rfl) hn hl
 refine⟨y,?_,r⟩
 cases va with
 | «local» a b c d =>
  rcases hk with q|q
  .rw [O.cel x q]at a;cases a
  .rcases O.fre x q with z|z<;>rw[z]at a<;>cases a
 |@cell c a b e g =>
  refine .cell ?_ (qIp hm b) e g
  have O':=qFp (C:=C) O K
  exact(O'.fre x hfree).symm
theorem qLf{ev:EvFn}{inner:Scope}{t elt iter:Expr}{ct:CT}{celt:CE}{ifs:List Expr}{cifs:List CE}{pos:Pos}{vs:List AV}{RR:Value->Addr->Result->Shared->Prop}(G:GW X base)(Rm:Room d A)(O:EnvOk env sc)(K:CompOk X sc inner t)
 (hct:qAf X inner t=some ct)(ht:en=true->∃es k p,t=.Tuple es k p)(he:SndE X prog w base d ev elt celt inner)(hifs:listM₂ (fun e ce=>SndT X prog w base d ev e ce inner) ifs cifs)
 (hpψ:∀a∈ψ,a ∉ pv)(S:SR X prog w base (pv++ψ) φ H s.heap)(it:ItR X (pv++ψ) φ s.heap H I pv en src xs)(F:FR X (pv++ψ) φ s.heap env sc ρ)(hlen:xs.length<1000001)(hev:compLoop ev celt ct cifs H src xs ρ H=some (vs,H'))
 (hRR:∀(D C:Addr) (s':Shared) (φ':List Addr) (va:Array Value) (n:Nat),s.heap.get? D=none->s.heap.get? C=none->D≠C->3<D->D ∉ ψ->C ∉ ψ->s'={ s with heap:=s'.heap,toks:=s'.toks,drawn:=s'.drawn }->Grow pv φ φ' s.heap s'.heap->SR X prog w base (D::C::ψ) φ' H' s'.heap ->
   s'.heap.get? D=some (seqObj "list" va n)->VRs X (D::C::ψ) φ' s'.heap va.toList vs->(∃m,s'.heap.Ns C m)->RR (.ref D) C (.ok .next) s') :
  wpAny (model prog w) A (newList []) (fun acc s₃=>wpAny (model prog w) A (newFunctionEnv inner env.globals (closL env inner.names []) [] env.qual none .none (some env)) (fun cenv s₄ =>
   codeAny (model prog w) A (.compStart (.ListComp elt [⟨t,iter,ifs,0⟩] inner pos) 0 (.ref I) acc { cenv with scope:=relabel inner env }) (RR acc cenv.locals) s₄) E s₃) E s:=by
 revert G Rm O K hct ht he hifs hpψ S it F hlen hev hRR
 revert A pv ψ φ H H' s d I src xs en E env sc ρ ev inner t elt iter ct celt ifs cifs pos vs RR
 intros A pv ψ φ H H' s d I src xs en E env
 intros sc ρ ev inner t elt iter ct celt ifs cifs pos vs RR
 intro G Rm O K hct ht he hifs hpψ S it F hlen hev hRR
 refine wpAny_newObj_type (wpAny_newFunctionEnv K.nocell (by(intros y;intro hy);simp at hy) (?_) K.kind)
 intros h₁;intro hns₁ hsb₁
 dsimp only at hns₁ hsb₁ ⊢
 generalize hH2:s.heap.push { cls:=.type "list",dict:=none,data:=.seq ([]:List Value).toArray }=H2 at hns₁ hsb₁ ⊢
 have hC:H2.objs.size=s.heap.objs.size+1:=by rw[<-hH2,Heap.size_push]
 have hDC:s.heap.objs.size≠H2.objs.size:=by rw[hC];exact Nat.ne_of_lt (Nat.lt_succ_self _)
 have old:∀b o,s.heap.get? b=some o->h₁.get? b=some o:=fun b o e=>hsb₁.extBut b o (by rw[hC];exact Nat.ne_of_lt (Nat.lt_succ_of_lt (Heap.lt_size e))) (Heap.get?_push_of_some _ (hH2▸Heap.get?_push_of_some _ e))
 have hacc:h₁.get? s.heap.objs.size=some (seqObj "list" #[] 0):=hsb₁.extBut _ _ hDC (Heap.get?_push_of_some _ (hH2▸Heap.get?_push_size _ rfl))
 have fresh:∀a,s.heap.objs.size<=a->s.heap.get? a=none:=by
  intros a;intro ha
  cases e:s.heap.get? a with
  |none=>rfl
  |some o'=>exact absurd (Heap.lt_size e) (Nat.not_lt.mpr ha)
 have fD:=fresh s.heap.objs.size (Nat.le_refl _)
 have fC:=fresh H2.objs.size (by rw[hC];exact Nat.le_succ _)
 have nD:∀a∈pv++ψ,a≠s.heap.objs.size:=by intros a;intro ha q;(injection (S.stand a ha)with o;intro e);rw[q,fD]at e;cases e
 have nC:∀a∈pv++ψ,a≠H2.objs.size:=fun a ha q=>by(injection (S.stand a ha)with o;intro e);rw[q,fC]at e;cases e
 obtain⟨oC,esC,epC,eC,rC⟩:=hns₁
 have S1:SR X prog w base (s.heap.objs.size::H2.objs.size::pv++ψ) φ H h₁:=S.more old fun a ha=>by
  simp only[List.cons_append,List.mem_cons]at ha
  rcases ha with rfl|rfl|ha
  .exact .inr ⟨fD,_,hacc⟩
  .exact .inr ⟨fC,_,eC⟩
  .exact .inl ha
 have g1:Grow [] φ φ s.heap h₁:=Grow.of_keep old
 have kψ:∀a∈s.heap.objs.size::H2.objs.size::pv++ψ,a∈pv++ψ\/s.heap.get? a=none:=fun a ha=>by
  simp only[List.cons_append,List.mem_cons]at ha
  rcases ha with rfl|rfl|ha
  .exact .inr fD
  .exact .inr fC
  .exact .inl ha
 have F1:FR X (s.heap.objs.size::H2.objs.size::pv++ψ) φ h₁ env sc ρ:=F.shift S g1 kψ fun a ha=>by simp only[List.cons_append,List.mem_cons];exact .inr (.inr ha)
 have it1:ItR X (s.heap.objs.size::H2.objs.size::pv++ψ) φ h₁ H I pv en src xs:=by
  have shiftV:∀{vs:List Value}{l:List AV},VRs X (pv++ψ) φ s.heap vs l->VRs X (s.heap.objs.size::H2.objs.size::pv++ψ) φ h₁ vs l:=fun r =>
   VRs.move (fun _ _ e=>e) ((by intros b o;intro e n m;exact⟨old b o e,n,fun q=>(kψ b q).elim m fun z=>by rw[e]at z;cases z⟩)) r
  have shiftN:∀{p:Addr}{o:Obj},s.heap.get? p=some o->p ∉ pv++ψ->p ∉ s.heap.objs.size::H2.objs.size::pv++ψ:=fun e m q=>(kψ _ q).elim m fun z=>by rw[e]at z;cases z
  have shiftL:∀{J:Addr}{k:Nat}{src:Option Nat}{rest:List AV},LSrc X (pv++ψ) φ s.heap H J k src rest->LSrc X (s.heap.objs.size::H2.objs.size::pv++ψ) φ h₁ H J k src rest:=fun x=>by
   cases x with
   |lst es er a b c d l r=>exact .lst es er (qEJ a fun o e=>old _ o e) (old _ _ b) c (shiftN b d) l (shiftV r)
   |trk es er a b c=>exact .trk es er (qEJ a fun o e=>old _ o e) b c
  cases it with
  |list ep ee a=>exact .list ep ee (shiftL a)
  |tup ep ee es er a b c d l r=>exact .tup ep ee es er (qId a fun o e=>old _ o e) (old _ _ b) c (shiftN b d) l (shiftV r)
  |rng ep ee es er a=>exact .rng ep ee es er (old _ _ a)
  |enum ep ee er a b c=>exact .enum ep ee er (old _ _ a) b (shiftL c)
 have loop:∀s₃:Shared,s₃={ s with heap:=h₁,toks:=s.toks+([]:List (Str×Value)).length } ->
   codeAny (model prog w) A (.compLoop (.ListComp elt [⟨t,iter,ifs,0⟩] inner pos) 0 (.ref I) (.ref s.heap.objs.size) (compEnvC inner (closL env inner.names []) H2.objs.size env))
    (RR (.ref s.heap.objs.size) H2.objs.size) s₃:=by
  rintro s₃ rfl
  refine qLe (cenv:=compEnvC inner (closL env inner.names []) H2.objs.size env) (s:={ s with heap:=h₁,toks:=s.toks+([]:List (Str×Value)).length }) (done:=[]) Rm (qFp O K) hct ht (fun x hx=>(K.loc _ (mem_of_lookup hx) rfl).2) he hifs hDC
   (fun q=>nD _ (List.mem_append_left _ q) rfl) (fun q=>nC _ (List.mem_append_left _ q) rfl) (fun q=>nD _ (List.mem_append_right _ q) rfl) hpψ S1 it1 ⟨.head _,⟨_,oC,esC,epC,eC,rC⟩,fun x hx=>absurd rfl (K.nocell _ (mem_of_lookup hx)),fun x y c hk=>absurd rfl (K.nocell _ (mem_of_lookup hk))⟩
   (qHL O K F1) hacc .nil (by simpa using hlen) hev fun s' φ' va n cf=>?_
  .obtain ⟨m,hm⟩:=cf.ns
   have f3:=(S.fresh_at G fun _ _ e=>e).2.2
   refine hRR _ _ s' φ' va n fD fC hDC f3 (fun q=>nD _ (List.mem_append_right _ q) rfl) (fun q=>nC _ (List.mem_append_right _ q) rfl) (by rw[cf.same]) ?_ cf.sr cf.acc (by have:=cf.rel;rw[List.nil_append]at this;exact this) ⟨m,hm⟩
   have g2:Grow (s.heap.objs.size::H2.objs.size::pv) φ φ' s.heap s'.heap:=(g1.more fun _ q=>qA5 q).trans cf.grow fun a ha m=>by
    rcases cf.grow.new a m with z|z
    .exact .inl z
    .right
     cases e:s.heap.get? a with
     |none=>rfl
     |some o=>rw[old a o e]at z;cases z
   exact g2.more fun a ha=>by
    simp only[List.mem_cons]at ha
    rcases ha with rfl|rfl|ha
    .exact .inr fD
    .exact .inr fC
    .exact .inl ha
 exact codeAny_compStart_list (loop _ rfl) (qL5 (s:={ s with heap:=h₁,toks:=s.toks+([]:List (Str×Value)).length }) it1 (loop _ rfl))
end
end
section
section
variable{A:Around}{fr pv ψ ψ' φ φ' φ9:List Addr}{H H' H₁ H9 H0:AHeap}{s s8:Shared}{d:Nat}{I:Addr}{src:Option Nat}{rest xs:List AV}{en:Bool}{v:AV}{E:Value->Shared->Prop}{env:PySem.Env}{sc:Scope}{ρ ρ':Rho}{ok:Str->Prop}
noncomputable def Taken(X:CX)(prog:Program)(w:World)(base:Heap)(ψ φ:List Addr)(s:Shared)(H1:AHeap)(src:Option Nat)(xs:List AV)(en:Bool)(it:Value)(s9:Shared):Prop :=
 ∃φ1 s1 I pv,Post X prog w base [] ψ φ φ1 H1 s s1/\Made X ψ φ1 H1 src xs en s1 it s9 I pv/\xs.length<1000001
theorem qDY{ev:EvFn}{e:Expr}{ce:CE}(Rm:Room d A)(O:EnvOk env sc)(he:SndE X prog w base d ev e ce sc)(F:FR X ψ φ s.heap env sc ρ)(S:SR X prog w base ψ φ H s.heap)(h1:ev ce ρ H=some (v,H₁))(h2:iterE false H₁ v=some (xs,src)) :
  wpAny (model prog w) A (eval e env) (fun x s8=>wpAny (model prog w) A (pyIter x) (Taken X prog w base ψ φ s H₁ src xs false) NoE s8) NoE s:=by
 refine qA1 (he Rm O F S h1) fun x s1 q=>?_
 obtain⟨φ1,p1,r1⟩:=q
 refine qA1 (qOQ p1.sr r1 h2) fun it s2 M=>?_
 obtain⟨I,pv,M⟩:=M
 exact⟨φ1,s1,I,pv,p1,M,qH8 p1.sr r1 h2⟩
noncomputable def NmAt(x:Str)(e:Expr):Prop:=∃p,e=.Name x p
theorem qGx{e:Expr}{x:Str}(h:qCf e=some x):NmAt x e:=by
 delta e x at h
 induction e using Expr.casesOn with
 |Name y p=>exact⟨p,congrArg (Expr.Name · p) (Option.some.inj h)⟩
 |_=>exact qA2 h
inductive EnumIs (X:CX) (sc:Scope) (e a:Expr):Prop
 |mk (p pos:Pos) (z:e=.Call (.Name ("enumerate":Str) p) [a] [] pos) (hk:qAE sc ("enumerate":Str)=some .globalImplicit) (hg:nsIn X.K mainGlobals ("enumerate":Str)=some none) (hs:qAq a=false)
theorem qE4{e a:Expr}(h:qCl X sc e=some a):EnumIs X sc e a:=by
 delta sc e a at h
 induction e using Expr.casesOn with
 |Call f as ks pos =>
  delta f as ks pos at h
  (injection (qA0 h)with x;rintro⟨hx,h⟩)
  (injection (qA0 h)with y;rintro⟨hy,h⟩)
  obtain⟨hk,h⟩:=qA9 h
  obtain rfl:=Option.some.inj h
  (injection (qGx hx)with p;rintro rfl)
  obtain rfl:=qBI hy
  have k1:=Bool.and_eq_true_iff.mp hk
  have k2:=Bool.and_eq_true_iff.mp k1.1
  have k3:=Bool.and_eq_true_iff.mp k2.1
  have k4:=Bool.and_eq_true_iff.mp k3.1
  obtain rfl:=List.isEmpty_iff.mp k1.2
  obtain rfl:=beq_iff_eq.mp k4.1
  exact⟨p,pos,rfl,beq_iff_eq.mp k4.2,beq_iff_eq.mp k3.2,(Bool.not_eq_true' _).mp k2.2⟩
 |_=>exact qA2 h
theorem qGi(G:GW X base){ev:EvFn}{e a:Expr}{ce:CE}(Rm:Room d A)(O:EnvOk env sc)(ha:qCl X sc e=some a)(he:SndE X prog w base d ev a ce sc)(F:FR X ψ φ s.heap env sc ρ)(S:SR X prog w base ψ φ H s.heap)(h1:ev ce ρ H=some (v,H₁))
 (h2:iterE true H₁ v=some (xs,src)) :
  wpAny (model prog w) A (eval e env) (fun x s8=>wpAny (model prog w) A (pyIter x) (Taken X prog w base ψ φ s H₁ src xs true) NoE s8) NoE s:=by
 obtain⟨p,pos,rfl,hk,hg,hstar⟩:=qE4 ha
 refine Call_Name (qBg (show(qAq a || false)=false by rw[hstar];rfl)) (qDM G O S hk hg (v:=.type "enumerate") (by decide +kernel) (by decide) (by decide) ?_)
 refine PyProof.Rows.callWith_type (qBA [a]) (qBE ?_)
 refine PySem.Calls.spliced_cons (qA1 (he Rm O F S h1) fun x s1 q=>PySem.Calls.spliced_nil ?_)
 obtain⟨φ1,p1,r1⟩:=q
 refine qA1 (qLQ p1.sr r1 h2) fun it s2 M=>?_
 obtain⟨I,pv,M⟩:=M
 rw[M.it]
 exact qL5 M.rel ⟨φ1,s1,I,pv,p1,⟨rfl,M.own,M.fresh,M.there,M.same,M.keep,M.rel⟩,qH8 p1.sr r1 h2⟩
theorem qKe{e:Expr}(h:NSt e)(x:Value):foldedSetIterable e env x=pure x:=by
 delta env e x at h
 induction e using Expr.casesOn with
 |Set a b c=>exact absurd rfl (h _ _ _)
 |_=>exact(rfl:(pure x:Sem Value)=_)
theorem qCC{ev:EvFn}{celt:CE}{ct:CT}{cifs:List CE}:∀{xs:List AV}{ρ:Rho}{H H':AHeap}{vs:List AV},compLoop ev celt ct cifs H₁ src xs ρ H=some (vs,H')->vs.length<=xs.length
 |[],ρ,H,H',vs,h=>by
  obtain⟨_,h⟩:=qA9 h
  rw[<-(qA6 h).1];exact Nat.le_refl _
 |x::xs,ρ,H,H',vs,h=>by
  obtain⟨_,h⟩:=qA9 h
  obtain⟨ρ1,_,h⟩:=qA0 h
  obtain⟨b,H4,_,h⟩:=qA4 h
  cases b with
  |true =>
   rw[if_pos rfl]at h
   obtain⟨v5,H5,_,h⟩:=qA4 h
   obtain⟨vs6,H6,h4,h⟩:=qA4 h
   rw[<-(qA6 h).1]
   exact Nat.succ_le_succ (qCC h4)
  |false =>
   rw[if_neg Bool.false_ne_true]at h
   exact Nat.le_succ_of_le (qCC h)
theorem qIo(trk:Bool)(G:GW X base)(Rm:Room d A)(O:EnvOk env sc){ev:EvFn}{inner:Scope}{t elt iter:Expr}{ct:CT}{celt:CE}{ifs:List Expr}{cifs:List CE}{pos p0:Pos}{vs:List AV}{use:Option (Value->Sem Unit)}{Q:Value->Shared->Prop}(K:CompOk X sc inner t)
 (hct:qAf X inner t=some ct)(ht:en=true->∃es k p,t=.Tuple es k p)(he:SndE X prog w base d ev elt celt inner)(hifs:listM₂ (fun e ce=>SndT X prog w base d ev e ce inner) ifs cifs)(hns:∀a b c,iter≠.Set a b c)
 (F:FR X ψ φ s.heap env sc ρ)(S:SR X prog w base ψ φ H s.heap)
 (hit:wpAny (model prog w) A (eval iter env) (fun x s8=>wpAny (model prog w) A (pyIter x) (Taken X prog w base ψ φ s H₁ src xs en) NoE s8) NoE s)(hev:compLoop ev celt ct cifs H₁ src xs ρ H₁=some (vs,H'))
 (hQ:∀(D C:Addr) (s':Shared) (φ':List Addr),C ∉ ψ->s.heap.get? C=none->s'={ s with heap:=s'.heap,toks:=s'.toks,drawn:=s'.drawn }->Grow [] φ φ' s.heap s'.heap->SR X prog w base (C::ψ) φ' (qAC trk vs H').2 s'.heap->VR X (C::ψ) φ' s'.heap (.ref D) (qAC trk vs H').1 ->
   (∃m,s'.heap.Ns C m)->vs.length<1000001->compPost (model prog w) A NoE use Q (.ref D) C (.ok .next) s') :
  wpAny (model prog w) A (comprehension (.ListComp elt [⟨t,iter,ifs,0⟩] inner pos) inner env p0 (newList []) false (eval iter env) use) Q NoE s:=by
 revert G Rm O K hct ht he hifs hns F S hit hev hQ
 revert A ψ φ H H' H₁ s d src xs en env sc ρ trk ev inner t elt iter ct celt ifs cifs pos p0 vs use Q
 intros A ψ φ H H' H₁ s d src xs en env sc ρ
 intros trk ev inner t elt iter ct celt ifs cifs pos p0 vs use Q
 intro G Rm O K hct ht he hifs hns F S hit hev hQ
 refine wpAny_comprehension_free (use:=use) (cl:=closL env inner.names []) rfl (qKe hns) (qOk fun x hx=>?_) K.kind (fun x hx hl=>(K.loc x hx hl).1) (qA1 hit fun x s8 h₁=>qA1 h₁ fun it s9 h₂=>?_)
 .exact O.cells x (K.free _ hx rfl).1
 obtain⟨φ1,s1,I,pv,p1,M,hlen⟩:=h₂
 have hpψ:∀a∈ψ,a ∉ pv:=fun a ha q=>by obtain⟨o,e⟩:=p1.sr.stand a ha;rw[M.fresh a q]at e;cases e
 have S2:=M.sr p1.sr
 have F1:=FRs.post F S p1
 have F2:FR X (pv++ψ) φ1 s9.heap env sc ρ:=F1.shift p1.sr (Grow.of_keep M.keep) (fun a ha=>by
  rcases List.mem_append.mp ha with q|q
  .exact .inr (M.fresh a q)
  .exact .inl q) fun a ha=>List.mem_append_right _ ha
 rw[M.it]
 have hl:vs.length<1000001:=Nat.lt_of_le_of_lt (qCC hev) hlen
 refine qLf (RR:=compPost (model prog w) A NoE use Q) G Rm O K hct ht he hifs hpψ S2 M.rel F2 hlen hev fun D C s' φ' va n hD hC hDC h3 hDψ hCψ hsame g sr acc rel ns=>?_
 have back:∀{a:Addr},s9.heap.get? a=none->s.heap.get? a=none\/a∈φ:=fun{a} e=>by
  cases q:s.heap.get? a with
  |none=>exact .inl rfl
  |some o =>
   by_cases hm:a∈φ
   .exact .inr hm
   .have:=M.keep a o (p1.grow.kept a o q hm (fun z=>qA5 z))
    rw[e]at this;cases this
 have hCs:s.heap.get? C=none:=by
  rcases back hC with q|q
  .exact q
  .obtain ⟨o,e⟩:=p1.sr.there (List.IsPrefix.subset p1.grow.pre q)
   rw[M.keep _ _ e]at hC;cases hC
 have hDs:s.heap.get? D=none:=by
  rcases back hD with q|q
  .exact q
  .obtain ⟨o,e⟩:=p1.sr.there (List.IsPrefix.subset p1.grow.pre q)
   rw[M.keep _ _ e]at hD;cases hD
 have grows:∀{φ3:List Addr},φ' <+: φ3->(∀a∈φ3,a∈φ'\/a=D)->Grow [] φ φ3 s.heap s'.heap:=fun hp hn=>by
  have g02:Grow [] φ φ1 s.heap s9.heap:=p1.grow.trans0 (Grow.of_keep M.keep)
  have g2:Grow pv φ φ' s.heap s'.heap:=(g02.more fun _ q=>qA5 q).trans g fun a ha m=>by
   rcases g.new a m with z|z
   .rcases p1.grow.new a z with y|y
    .exact .inl y
    .exact .inr y
   .exact (back z).symm
  have g3:Grow [] φ φ' s.heap s'.heap:=g2.more fun a ha=>.inr (by
   cases q:s.heap.get? a with
   |none=>rfl
   |some o =>
    have hm:a ∉ φ:=fun m=>by
     obtain⟨o',e⟩:=p1.sr.there (List.IsPrefix.subset p1.grow.pre m)
     rw[M.fresh a ha]at e;cases e
    have:=p1.grow.kept a o q hm (fun z=>qA5 z)
    rw[M.fresh a ha]at this;cases this)
  exact⟨g3.pre.trans hp,fun a m=>by
   rcases hn a m with z|rfl
   .exact g3.new a z
   .exact .inr hDs,fun b o e n nb=>g3.kept b o e n nb⟩
 obtain⟨φ3,hp,hn,sr3,r3⟩:=promote trk sr acc rel hl h3 (fun m=>(List.mem_cons.mp m).elim hDC hDψ)
 exact hQ D C s' φ3 hCψ hCs (by rw[hsame,M.same,p1.same]) (grows hp hn) sr3 r3 ns hl
theorem qJX(trk:Bool)(G:GW X base)(Rm:Room d A)(O:EnvOk env sc){ev:EvFn}{inner:Scope}{t elt iter:Expr}{ct:CT}{celt:CE}{ifs:List Expr}{cifs:List CE}{pos:Pos}{vs:List AV}(K:CompOk X sc inner t)
 (hct:qAf X inner t=some ct)(ht:en=true->∃es k p,t=.Tuple es k p)(he:SndE X prog w base d ev elt celt inner)(hifs:listM₂ (fun e ce=>SndT X prog w base d ev e ce inner) ifs cifs)(hns:∀a b c,iter≠.Set a b c)
 (F:FR X ψ φ s.heap env sc ρ)(S:SR X prog w base ψ φ H s.heap)
 (hit:wpAny (model prog w) A (eval iter env) (fun x s8=>wpAny (model prog w) A (pyIter x) (Taken X prog w base ψ φ s H₁ src xs en) NoE s8) NoE s)(hev:compLoop ev celt ct cifs H₁ src xs ρ H₁=some (vs,H')) :
  wpAny (model prog w) A (eval (.ListComp elt [⟨t,iter,ifs,0⟩] inner pos) env) (Out X prog w base ψ φ s (qAC trk vs H').1 (qAC trk vs H').2) NoE s:=by
 rw[eval_ListComp]
 refine qIo (use:=none) trk G Rm O K hct ht he hifs hns F S hit hev fun D C s' φ' hCψ hCs hsame g sr r ns hl=>?_
 obtain⟨m,hm⟩:=ns
 refine⟨m,hm,fun h' hs=>?_⟩
 have kp:∀b o,b ∉ [C]->s'.heap.get? b=some o->h'.get? b=some o:=fun b o nb e=>(hs.2 b (by simpa using nb)).trans e
 have hpv:∀a∈[C],a∈C::ψ:=fun a ha=>by rw[List.mem_singleton.mp ha];exact .head _
 have sr':=sr.left (ψ':=ψ) kp hpv (fun a q=>.tail _ q) fun a ha q=>hCψ (by rw[List.mem_singleton.mp q]at ha;exact ha)
 refine⟨φ',⟨by rw[hsame],⟨g.pre,g.new,fun b o e n nb=>kp b o (fun q=>?_) (g.kept b o e n nb)⟩,sr'⟩,r.left kp hpv fun a q=>.tail _ q⟩
 rw[List.mem_singleton.mp q,hCs]at e;cases e
end
end
section
section
variable{A:Around}{fr pv ψ ψ' φ φ' φ9:List Addr}{H H' H₁ H9 H0:AHeap}{s s8:Shared}{d:Nat}{I:Addr}{src:Option Nat}{rest xs:List AV}{en:Bool}{v:AV}{E:Value->Shared->Prop}{env:PySem.Env}{sc:Scope}{ρ ρ':Rho}{ok:Str->Prop}
theorem qGM{ev:EvFn}(R:Room d A)(O:EnvOk env sc){pos:Pos} :
  ∀{ks:List (Option Expr)}{es:List Expr}{cks ces:List CE}{kvs:List (AV×AV)}{H H':AHeap}{φ:List Addr}{s:Shared},listM₂ (fun(k:Option Expr) ck=>∃e,k=some e/\SndE X prog w base d ev e ck sc) ks cks ->
   listM₂ (fun e ce=>SndE X prog w base d ev e ce sc) es ces->FR X ψ φ s.heap env sc ρ->SR X prog w base ψ φ H s.heap->qAz ev cks ces ρ H=some (kvs,H')->ks.length=es.length ->
   wpAny (model prog w) A (evalPairs (pairTrees ks es env pos)) (fun vs s'=>∃φ',Post X prog w base [] ψ φ φ' H' s s'/\VRs X ψ φ' s'.heap (vs.map (·.1)) (kvs.map (·.1))/\VRs X ψ φ' s'.heap (vs.map (·.2)) (kvs.map (·.2))) NoE s:=by
 delta A ψ d env sc ρ ev pos at R O
 intros ks
 induction ks with
 |nil =>
  (intros es cks ces kvs H H' φ s;intro hk he F S e hl)
  obtain rfl:=List.eq_nil_of_length_eq_zero hl.symm
  cases cks with
  |cons=>exact hk.elim
  |nil =>
   cases ces with
   |cons=>exact he.elim
   |nil =>
    cases e
    exact pairTrees_nil_walk ⟨φ,Post.refl S,.nil,.nil⟩
 |cons k ks ih =>
  delta k ks at ih
  (intros es cks ces kvs H H' φ s;intro hk he F S h hl)
  cases es with
  |nil=>exact nomatch hl
  |cons e es =>
  delta e es at he hl
  cases cks with
  |nil=>exact hk.elim
  |cons ck cks =>
  delta ck cks at hk h
  cases ces with
  |nil=>exact he.elim
  |cons ce ces =>
  delta ce ces at he h
  (injection (qA4 (qE1.symm.trans h))with kv H1;rintro⟨h1,h⟩)
  (injection (qA4 h)with v H2;rintro⟨h2,h⟩)
  (injection (qA4 h)with vs H3;rintro⟨h3,h⟩)
  obtain⟨rfl,rfl⟩:=qA6 h
  obtain⟨⟨ke,rfl,hk1⟩,hk2⟩:=hk
  refine pairTrees_cons_walk (qA1 (hk1 R O F S h1) ?_)
  intros x s1;intro q
  (injection (q)with φ1;try clear q;rintro⟨p1,r1⟩)
  have F1:=FRs.post F S p1
  refine qA1 (he.1 R O F1 p1.sr h2) ?_
  intros y s2;intro q
  (injection (q)with φ2;try clear q;rintro⟨p2,r2⟩)
  refine qA1 (ih hk2 he.2 (FRs.post F1 p1.sr p2) p2.sr h3 (Nat.succ.inj hl)) ?_
  intros zs s3;intro q
  (injection (q)with φ3;try clear q;rintro⟨p3,r3,r4⟩)
  exact⟨φ3,(p1.trans p2).trans p3,.cons ((r1.grow0 p2.grow).grow0 p3.grow) r3,.cons (r2.grow0 p3.grow) r4⟩
inductive DictKeys (X:CX) (prog:Program) (w:World) (ψ φ:List Addr) (h:Heap) (vs:List (Value×Value)) (r:List (Nat×AV)):Prop
 |mk (ks:List Nat) (ss:List Str) (l:List AV) (z:r=ks.zip l) (e1:ks.length=l.length) (e2:ks.map (X.names[·]?)=ss.map some) (e3:ss.length=vs.length) (e4:ks.Nodup) (e5:VRs X ψ φ h (vs.map (·.2)) l) (e6:Carries (PySem.strKind prog w) vs (ss.zip (vs.map (·.2))))
theorem qNr{ks:List Nat}{l:List AV}{n:Nat}(e:ks.length=l.length)(h:(ks.zip l).any (·.1==n)=false):n ∉ ks:=fun m=>by
 obtain⟨i,hi,ei⟩:=List.getElem_of_mem m
 have:=List.any_eq_false.mp h (ks[i],l[i]'(e▸hi)) (List.mem_of_getElem? (i:=i) (by rw[List.getElem?_zip_eq_some];exact⟨List.getElem?_eq_getElem hi,List.getElem?_eq_getElem (e▸hi)⟩))
 exact this (by rw[ei];exact beq_self_eq_true n)
theorem qFn{h:Heap}:∀{kvs:List (AV×AV)}{vs:List (Value×Value)}{r:List (Nat×AV)},VRs X ψ φ h (vs.map (·.1)) (kvs.map (·.1))->VRs X ψ φ h (vs.map (·.2)) (kvs.map (·.2))->qBb kvs=some r->DictKeys X prog w ψ φ h vs r
 |[],vs,r,q,_,e=>by
  obtain rfl:=List.map_eq_nil_iff.mp (show vs.map (·.1)=[]from q)
  exact⟨[],[],[],(Option.some.inj e).symm,rfl,rfl,rfl,List.nodup_nil,.nil,trivial⟩
 |p::kvs,[],r,q,_,e=>by obtain⟨_,_,z,_⟩:=q;exact nomatch z
 |p::kvs,v::vs,r,q,q',e=>by
  obtain⟨kv,ws,z,rk,rks⟩:=q
  obtain⟨rfl,rfl⟩:=List.cons.inj z
  obtain⟨vv,ws,z,rv,rvs⟩:=q'
  obtain⟨rfl,rfl⟩:=List.cons.inj z
  obtain⟨n,hn,e⟩:=qA0 e
  obtain⟨r',h1,e⟩:=qA0 e
  obtain⟨ks,ss,l,rfl,e1,e2,e3,e4,e5,e6⟩:=qFn rks rvs h1
  obtain⟨x,t,hv,hx⟩:=(qBW hn▸rk:VR X ψ φ h v.1 (.str n))
  cases ha:(ks.zip l).any (·.1==n)with
  |true=>rw[ha]at e;exact qA2 e
  |false =>
   rw[ha]at e
   refine⟨n::ks,x::ss,p.2::l,(Option.some.inj e).symm,congrArg (·+1) e1,congr (congrArg List.cons hx) e2,congrArg (·+1) e3,List.nodup_cons.mpr ⟨qNr e1 ha,e4⟩,.cons rv e5,?_⟩
   obtain⟨a,b⟩:=v
   obtain rfl:a=.str x t:=hv
   exact⟨qDk x t,rfl,e6⟩
theorem qEw{ev:EvFn}:∀{cks ces:List CE}{kvs:List (AV×AV)}{H H':AHeap},qAz ev cks ces ρ H=some (kvs,H')->kvs.length<=cks.length
 |[],ces,kvs,H,H',h=>by
  cases ces with
  |nil=>rw[<-(qA6 (show some ([],H)=some (kvs,H')from h)).1];exact Nat.le_refl _
  |cons=>exact qA2 h
 |c::cks,ces,kvs,H,H',h=>by
  cases ces with
  |nil=>exact qA2 h
  |cons c' ces =>
   obtain⟨kv,H1,_,h⟩:=qA4 (qE1.symm.trans h)
   obtain⟨v,H2,_,h⟩:=qA4 h
   obtain⟨vs,H3,h3,h⟩:=qA4 h
   rw[<-(qA6 h).1]
   exact Nat.succ_le_succ (qEw h3)
theorem listM₂_len{α β:Type}{R:α->β->Prop}:∀{l:List α}{r:List β},listM₂ R l r->l.length=r.length
 |[],[],_=>rfl
 |_::_,_::_,h=>congrArg (·+1) (listM₂_len h.2)
 |[],_::_,h=>h.elim
 |_::_,[],h=>h.elim
theorem qC6{K:Type} [DecidableEq K]:∀{kvs acc:List (K×Value)},((acc++kvs).map (·.1)).Nodup->merged acc kvs=acc++kvs
 |[],acc,_=>by simp[merged]
 |(k,v)::r,acc,h=>by
  have h1:stored acc k v=acc++[(k,v)]:=by
   unfold stored
   rw[if_neg]
   intro q
   obtain⟨p,hp,e⟩:=List.any_eq_true.mp q
   rw[List.map_append,List.nodup_append]at h
   exact h.2.2 p.1 (List.mem_map_of_mem hp) k (by simp) (by simpa using e)
  show merged (stored acc k v) r=_
  rw[h1,qC6 (by simpa using h),List.append_assoc];rfl
theorem qJV(G:GW X base){ev:EvFn}(R:Room d A)(O:EnvOk env sc){pos:Pos}{ks:List (Option Expr)}{es:List Expr}{cks ces:List CE}{kvs:List (AV×AV)}{r:List (Nat×AV)}(hk:listM₂ (fun(k:Option Expr) ck=>∃e,k=some e/\SndE X prog w base d ev e ck sc) ks cks)
 (he:listM₂ (fun e ce=>SndE X prog w base d ev e ce sc) es ces)(hl:ks.length=es.length)(h0:ks≠[])(hlen:ks.length<9)(F:FR X ψ φ s.heap env sc ρ)(S:SR X prog w base ψ φ H s.heap)(h1:qAz ev cks ces ρ H=some (kvs,H'))(h2:qBb kvs=some r) :
  wpAny (model prog w) A (eval (.Dict ks es pos) env) (Out X prog w base ψ φ s (.ref H'.length) (H'++[.dictS r])) NoE s:=by
 have hall:ks.all (·.isSome)=true:=by
  clear hl h0 hlen h1
  induction ks generalizing cks with
  |nil=>rfl
  |cons k ks ih =>
   cases cks with
   |nil=>exact hk.elim
   |cons c cks =>
    obtain⟨⟨e,rfl,_⟩,h⟩:=hk
    rw[List.all_cons,ih h];rfl
 have hpl:=pairTrees_length ks es env pos hall hl
 refine wpAny_Dict_pairs (knd:=PySem.strKind prog w) (zip_pairTrees ks es env pos hall hl) (fun e=>h0 (List.length_eq_zero_iff.mp (by rw[<-hpl,e];rfl))) (by rw[hpl];exact Nat.le_trans (Nat.le_of_lt hlen) (by decide)) ?_
 have fD:s.heap.get? s.heap.objs.size=none:=qAe fun _ _ e=>e
 have f3:=(S.fresh_at G fun _ _ e=>e).2.2
 have nD:s.heap.objs.size ∉ ψ:=S.out fun _ _ e=>e
 have kp:∀b o,s.heap.get? b=some o->(s.heap.push { cls:=.type "dict",data:=.dict #[] }).get? b=some o:=qAp _ _
 have D0:=Heap.DictOf.new (knd:=PySem.strKind prog w) s.heap
 have kψ:∀a∈s.heap.objs.size::ψ,a∈ψ\/(s.heap.get? a=none/\∃o,(s.heap.push { cls:=.type "dict",data:=.dict #[] }).get? a=some o):=fun a ha=>by
  rcases List.mem_cons.mp ha with rfl|ha
  .exact .inr ⟨fD,_,Heap.get?_push_size _ rfl⟩
  .exact .inl ha
 have S1:SR X prog w base (s.heap.objs.size::ψ) φ H (s.heap.push { cls:=.type "dict",data:=.dict #[] }):=S.more kp kψ
 have F1:FR X (s.heap.objs.size::ψ) φ (s.heap.push { cls:=.type "dict",data:=.dict #[] }) env sc ρ:=F.shift S (Grow.of_keep kp) (fun a ha=>(kψ a ha).imp id (·.1)) fun a ha=>.tail _ ha
 refine qA1 (qGM (s:={ s with heap:=s.heap.push { cls:=.type "dict",data:=.dict #[] } }) R O hk he F1 S1 h1 hl) fun vs s2 q=>?_
 obtain⟨φ2,p2,r1,r2⟩:=q
 obtain⟨kn,ss,l,rfl,e1,e2,e3,e4,e5,e6⟩:=qFn r1 r2 h2
 have ndS:ss.Nodup:=by
  have:(ss.map some).Nodup:=by
   rw[<-e2]
   rw[List.Nodup,List.pairwise_map]at *
   refine List.Pairwise.imp_of_mem (fun{a b} ha hb hab z=>hab ?_) e4
   have hlt:a<X.names.length:=by
    have:X.names[a]?∈ss.map some:=by rw[<-e2];exact List.mem_map_of_mem ha
    obtain⟨x,_,hx⟩:=List.mem_map.mp this
    exact(List.getElem?_eq_some_iff.mp hx.symm).1
   exact(List.getElem?_inj hlt G.nd).mp z
  exact(List.pairwise_map.mp this).imp fun h e=>h (congrArg some e)
 have hm:merged [] (ss.zip (vs.map (·.2)))=ss.zip (vs.map (·.2)):=by
  rw[qC6 (by rw[List.nil_append,List.map_fst_zip (by simp[e3])];exact ndS)];rfl
 refine⟨ss.zip (vs.map (·.2)),e6,D0.at fun o e=>p2.grow.kept _ o e (fun m=>(S1.fresh _ m).2.2 (.head _)) (fun q=>qA5 q),fun h' hd hs=>?_⟩
 rw[hm]at hd
 have kp2:∀b o,b ∉ [s.heap.objs.size]->s2.heap.get? b=some o->h'.get? b=some o:=fun b o nb e=>(hs.2 b (by simpa using nb)).trans e
 have p3:=Post.priv (k:=s2.toks+vs.length) p2.sr (pv:=[s.heap.objs.size]) (fun a ha=>by rw[List.mem_singleton.mp ha];exact .head _) kp2 fun a ha=>by
  rw[List.mem_singleton.mp ha];obtain⟨o,_,_,e,_⟩:=hd;exact⟨o,e⟩
 have hD2:s.heap.objs.size ∉ φ2:=fun m=>(p2.sr.fresh _ m).2.2 (.head _)
 have rl:VRs X ψ (φ2++[s.heap.objs.size]) h' (vs.map (·.2)) l:=VRs.move (fun _ _ e=>qBx (List.prefix_append _ _) e) (fun b o e n m=>⟨kp2 b o (fun q=>m (by rw[List.mem_singleton.mp q];exact .head _)) e,fun q=>by
   rcases List.mem_append.mp q with q|q
   .exact n q
   .exact m (by rw[List.mem_singleton.mp q];exact .head _),fun q=>m (.tail _ q)⟩) e5
 have hkn:kn.length=ss.length:=by have:=congrArg List.length e2;simpa using this
 have hvl:vs.length<9:=by
  have h3:vs.length=kvs.length:=by have:=r1.length;rwa [List.length_map,List.length_map]at this
  rw[h3]
  exact Nat.lt_of_le_of_lt (qEw h1) (listM₂_len hk▸hlen)
 have sr4:=p3.sr.promote f3 nD (.dictS (ss:=ss) hd e2 (by simp[e3]) (Nat.lt_of_le_of_lt (Nat.le_of_eq (hkn.trans e3)) (Nat.lt_trans hvl (by decide))) rl)
 refine⟨φ2++[s.heap.objs.size],⟨by rw[p2.same],?_,sr4⟩,.ref (by rw[<-p2.sr.len];simp)⟩
 refine⟨p2.grow.pre.trans (List.prefix_append _ _),fun a m=>?_,fun b o e n _=>?_⟩
 .rcases List.mem_append.mp m with m|m
  .rcases p2.grow.new a m with z|z
   .exact .inl z
   .right
    cases q:s.heap.get? a with
    |none=>rfl
    |some o=>rw[kp a o q]at z;cases z
  .rw [List.mem_singleton.mp m];exact .inr fD
 .exact kp2 b o (fun q=>by rw[List.mem_singleton.mp q,fD]at e;cases e) (p2.grow.kept b o (kp b o e) n (fun q=>qA5 q))
end
end
section
noncomputable def Snd(X:CX)(prog:Program)(w:World)(base:Heap)(d:Nat)(ev:EvFn)(e:Expr)(ce:CE)(sc:Scope):Prop:=SndE X prog w base d ev e ce sc/\SndT X prog w base d ev e ce sc
noncomputable def SndBi(X:CX)(prog:Program)(w:World)(base:Heap)(d:Nat):Prop :=
 ∀{A:Around}{b:BI}{trk:Bool}{xs:List Value}{as:List AV}{r:AV×AHeap}{ψ φ:List Addr}{H:AHeap}{s:Shared},Room d A->SR X prog w base ψ φ H s.heap->VRs X ψ φ s.heap xs as->biAV b trk as H=some r ->
  wpAny (model prog w) A (call (biVal b) xs) (Out X prog w base ψ φ s r.1 r.2) NoE s
section
variable{A:Around}{fr pv ψ ψ' φ φ' φ9:List Addr}{H H' H₁ H9 H0:AHeap}{s s8:Shared}{d:Nat}{v:AV}{E:Value->Shared->Prop}{env:PySem.Env}{sc:Scope}{ρ ρ':Rho}{cf:qAb}{m:Nat}
theorem qMM{e:Expr}{ce:CE}:Snd X prog w base d (evE P cf 0) e ce sc:=⟨fun _ _ _ _ e=>(qA2 e),fun _ _ _ _ e=>(qA2 e)⟩
theorem VR.isBool{h:Heap}{x:Value}{a:AV}{b:Bool}(r:VR X ψ φ h x a)(e:qAN a=some b):x=.bool b:=by
 rw[qAR e]at r
 exact r
theorem qO0{ev:EvFn}{e:Expr}{ce:CE}(h:SndE X prog w base d ev e ce sc)(hp:∀(env:PySem.Env) (whole:Sem Value),isTrue e env whole=(do let v <-whole;standAt e.pos;holding [v] (truthy v))):SndT X prog w base d ev e ce sc:=by
 intro A env ρ ψ φ H H' s v b R O F S e hb
 obtain rfl:=qAR hb
 refine isTrue_plain (qA1 (h R O F S e) fun x s1 q=>?_) (hp env _)
 obtain⟨φ1,p1,r1⟩:=q
 cases r1
 exact wpAny_truthy_bool ⟨rfl,φ1,p1⟩
theorem qBX{ev:EvFn}{e:Expr}{ce:CE}(h:SndE X prog w base d ev e ce sc)(hp:∀(env:PySem.Env) (whole:Sem Value),isTrue e env whole=(do let v <-whole;standAt e.pos;holding [v] (truthy v))):Snd X prog w base d ev e ce sc:=⟨h,qO0 h hp⟩
theorem listM₂_fst{ev:EvFn}:∀{es:List Expr}{ces:List CE},listM₂ (fun e ce=>Snd X prog w base d ev e ce sc) es ces->listM₂ (fun e ce=>SndE X prog w base d ev e ce sc) es ces
 |[],[],h=>h
 |_::_,_::_,h=>⟨h.1.1,listM₂_fst h.2⟩
 |[],_::_,h=>h
 |_::_,[],h=>h
theorem listM₂_snd{ev:EvFn}:∀{es:List Expr}{ces:List CE},listM₂ (fun e ce=>Snd X prog w base d ev e ce sc) es ces->listM₂ (fun e ce=>SndT X prog w base d ev e ce sc) es ces
 |[],[],h=>h
 |_::_,_::_,h=>⟨h.1.2,listM₂_snd h.2⟩
 |[],_::_,h=>h
 |_::_,[],h=>h
theorem qCo{n:Nat}{e:Expr}{c:CE}(h:cmpE X n sc e=some c):∀a b k,e≠.Set a b k:=by
 rintro a b k rfl
 cases n<;>exact qA2 h
theorem qGS{n:Nat}{e:Expr}{c:CE}(h:cmpE X n sc e=some c):∀a b s p,e≠.Slice a b s p:=by
 rintro a b s p rfl
 cases n<;>exact qA2 h
theorem qMi{op:CmpOp}{r:Expr}(h:NSt r):behindInMarks op r=false:=by
 delta op r at h
 induction r using Expr.casesOn with
 |Set a b k=>exact absurd rfl (h _ _ _)
 |_=>exact(rfl:false=_)
theorem qJW{M:Model}{k:Nat}{p:Pos}{Q:Value->Shared->Prop}(h:Q .none s):wpAny M A (eval (.Constant .none k p) env) Q E s:=fun _ _ _=>h
theorem s_lit{c:Const}{a:AV}{k:Nat}{pos:Pos}(hc:qLd X c=some a):Snd X prog w base d (evE P cf (m+1)) (.Constant c k pos) (.lit a) sc:=by
 refine qBX ?_ fun _ _=>rfl
 intro A env ρ ψ φ H H' s v R O F S e
 obtain⟨rfl,rfl⟩:=qA6 (show some (a,H)=some (v,H')from e)
 induction c using Const.casesOn with
 |int i=>cases Option.some.inj hc;exact fun _ _ _=>qBO S
 |bool b=>cases Option.some.inj hc;exact fun _ _ _=>qAS S
 |none=>cases Option.some.inj hc;exact fun _ _ _=>qB2 S .none
 |str x =>
  obtain⟨i,hx,rfl⟩:=qA3 hc
  exact PySem.Calls.Constant_str (qC5 S (.str _ (qBm hx)))
 |_=>exact qA2 hc
theorem s_var{x:Str}{i:Nat}{pos:Pos}(hv:isVar sc x=true)(hd:(x==("__debug__":Str))=false)(hc:(x==("__classdict__":Str))=false)(hx:nid X.names x=some i):Snd X prog w base d (evE P cf (m+1)) (.Name x pos) (.var i) sc:=by
 refine qBX ?_ fun _ _=>rfl
 intro A env ρ ψ φ H H' s v R O F S e
 obtain⟨u,hl,e⟩:=qA3 (show(ρ.lookup i).map (fun v=>(v,H))=some (v,H')from e)
 cases e
 obtain⟨y,va,r⟩:=F x i _ trivial hv hx hl
 exact wpAny_Name (qJG O.kind va hc (qB2 S r)) hd
theorem s_bin(G:GW X base){l r:Expr}{a b:CE}{o:Operator}{op:BOp}{trk:Bool}{pos:Pos}(ho:bOp o=some op)(hl:Snd X prog w base d (evE P cf m) l a sc)(hr:Snd X prog w base d (evE P cf m) r b sc) :
  Snd X prog w base d (evE P cf (m+1)) (.BinOp l o r pos) (.bin op trk a b) sc:=by
 refine qBX ?_ fun _ _=>rfl
 intro A env ρ ψ φ H H' s v R O F S e
 obtain⟨x,H1,h1,e⟩:=qA4 e
 obtain⟨y,H2,h2,e⟩:=qA4 e
 obtain⟨z,h3,e⟩:=qA3 e
 obtain rfl:_=v:=congrArg Prod.fst e
 obtain rfl:_=H':=congrArg Prod.snd e
 refine wpAny_BinOp (qA1 (hl.1 R O F S h1) fun xv s1 q=>?_)
 obtain⟨φ1,p1,r1⟩:=q
 refine qA1 (hr.1 R O (FRs.post F S p1) p1.sr h2) fun yv s2 q=>?_
 obtain⟨φ2,p2,r2⟩:=q
 exact wp_step (p1.trans p2) (qLo G ho p2.sr (r1.grow0 p2.grow) r2 h3)
theorem s_neg{a:Expr}{ca:CE}{pos:Pos}(ha:Snd X prog w base d (evE P cf m) a ca sc):Snd X prog w base d (evE P cf (m+1)) (.UnaryOp .USub a pos) (.neg ca) sc:=by
 refine qBX ?_ fun _ _=>rfl
 intro A env ρ ψ φ H H' s v R O F S e
 obtain⟨x,H1,h1,e⟩:=qA4 e
 obtain⟨i,h2,e⟩:=qA3 e
 cases e
 obtain rfl:=qAZ h2
 refine UnaryOp_ (qA1 (ha.1 R O F S h1) fun xv s1 q=>?_)
 obtain⟨φ1,p1,r1⟩:=q
 obtain⟨t,rfl⟩:=r1
 exact _root_.PyProof.Rows.neg_int (Out.step p1 (qBO p1.sr))
theorem s_not{a:Expr}{ca:CE}{pos:Pos}(ha:Snd X prog w base d (evE P cf m) a ca sc):Snd X prog w base d (evE P cf (m+1)) (.UnaryOp .Not a pos) (.not ca) sc:=by
 delta d sc cf m a ca pos at ha
 constructor
 ·(intros A env ρ ψ φ H H' s v;intro R O F S e)
  (injection (qA4 e)with x H1;rintro⟨h1,e⟩)
  (injection (qA3 e)with i;rintro⟨h2,e⟩)
  cases e
  obtain rfl:=qAR h2
  refine UnaryOp_ (qA1 (ha.1 R O F S h1) ?_)
  intros xv s1;intro q
  (injection (q)with φ1;try clear q;rintro⟨p1,r1⟩)
  cases r1
  exact not_of (wpAny_truthy_bool (Out.step p1 (qAS p1.sr)))
 ·(intros A env ρ ψ φ H H' s v b;intro R O F S e hb)
  (injection (qA4 e)with x H1;rintro⟨h1,e⟩)
  (injection (qA3 e)with i;rintro⟨h2,e⟩)
  cases e
  cases hb
  refine isTrue_not (qA1 (ha.2 R O F S h1 h2) ?_)
  intros c s1;intro q
  (obtain⟨rfl,H_⟩:=q;injection H_ with φ1;clear H_;intro p1)
  exact⟨rfl,φ1,p1⟩
theorem qK4{l r:Expr}{ce:CE}{op:CmpOp}{pos:Pos}{ev:EvFn}(hm:behindInMarks op r=false)
 (h:∀{A:Around}{env:PySem.Env}{ρ:Rho}{ψ φ:List Addr}{H H':AHeap}{s:Shared}{v:AV},Room d A->EnvOk env sc->FR X ψ φ s.heap env sc ρ->SR X prog w base ψ φ H s.heap->ev ce ρ H=some (v,H') ->
   (∃b,v=.bool b)/\wpAny (model prog w) A (eval l env) (fun a s8=>wpAny (model prog w) A (eval r env) (fun b s9=>wpAny (model prog w) A (compareOp op a b) (Out X prog w base ψ φ s v H') NoE s9) NoE s8) NoE s) :
  Snd X prog w base d ev (.Compare l [op] [r] pos) ce sc:=by
 constructor
 .intro A env ρ ψ φ H H' s v R O F S e
  exact wpAny_Compare1 (h R O F S e).2 hm
 .intro A env ρ ψ φ H H' s v b R O F S e hb
  obtain rfl:=qAR hb
  refine wpAny_isTrue_Compare1 (qA1 (h R O F S e).2 fun a s1 q=>qA1 q fun c s2 q=>qA1 q fun z s3 q=>?_) hm
  obtain⟨φ1,p1,r1⟩:=q
  cases r1
  exact wpAny_truthy_bool ⟨rfl,φ1,p1⟩
theorem s_cmp(G:GW X base){l r:Expr}{a b:CE}{o:CmpOp}{op:COp}{pos:Pos}(ho:cOp o=some op)(hm:behindInMarks o r=false)(hl:Snd X prog w base d (evE P cf m) l a sc)(hr:Snd X prog w base d (evE P cf m) r b sc) :
  Snd X prog w base d (evE P cf (m+1)) (.Compare l [o] [r] pos) (.cmp op a b) sc:=by
 delta d sc cf m l r a b o op pos at G ho hm hl hr
 refine qK4 hm ?_
 (intros A env ρ ψ φ H H' s v;intro R O F S e)
 (injection (qA4 e)with x H1;rintro⟨h1,e⟩)
 (injection (qA4 e)with y H2;rintro⟨h2,e⟩)
 (injection (qA3 e)with z;rintro⟨h3,e⟩)
 cases e
 refine⟨⟨z,rfl⟩,qA1 (hl.1 R O F S h1) ?_⟩
 intros xv s1;intro q
 (injection (q)with φ1;try clear q;rintro⟨p1,r1⟩)
 refine qA1 (hr.1 R O (FRs.post F S p1) p1.sr h2) ?_
 intros yv s2;intro q
 (injection (q)with φ2;try clear q;rintro⟨p2,r2⟩)
 exact wp_step (p1.trans p2) (qLg G R ho p2.sr (r1.grow0 p2.grow) r2 h3)
theorem qMq{c:AV}{ρ:Rho}{H H':AHeap}{y:AV}(h:evE P cf m (.lit c) ρ H=some (y,H')):H=H':=by
 cases m with
 |zero=>exact qA2 h
 |succ m=>exact(qA6 (show some (c,H)=some (y,H')from h)).2
theorem ff_tt{C:Prop}(h:false=true):C:=by cases h
noncomputable def NcAt(r:Expr):Prop:=∃k p,r=.Constant .none k p
theorem qJB{r:Expr}(h:noneC r=true):NcAt r:=by
 delta r at h
 induction r using Expr.casesOn with
 |Constant c k p =>
  delta c k p at h
  induction c using Const.casesOn with
  |none=>exact⟨k,p,rfl⟩
  |_=>exact ff_tt h
 |_=>exact ff_tt h
theorem qP8{l r:Expr}{a:CE}{o:CmpOp}{op:COp}{pos:Pos}(ho:isOp o=some op)(hr:noneC r=true)(hl:Snd X prog w base d (evE P cf m) l a sc):Snd X prog w base d (evE P cf (m+1)) (.Compare l [o] [r] pos) (.cmp op a (.lit .none)) sc:=by
 delta d sc cf m l r a o op pos at ho hr hl
 (injection (qJB hr)with k p;rintro rfl)
 refine qK4 (by cases o<;>rfl) ?_
 (intros A env ρ ψ φ H H' s v;intro R O F S e)
 (injection (qA4 e)with x H1;rintro⟨h1,e⟩)
 (injection (qA4 e)with y H2;rintro⟨h2,e⟩)
 (injection (qA3 e)with z;rintro⟨h3,e⟩)
 cases e
 obtain rfl:=qMq h2
 refine⟨⟨z,rfl⟩,qA1 (hl.1 R O F S h1) ?_⟩
 intros xv s1;intro q
 (injection (q)with φ1;try clear q;rintro⟨p1,r1⟩)
 refine qJW (wp_step p1 ?_)
 cases o with
 |Is=>cases Option.some.inj ho;exact qH9 (A:=A) p1.sr r1 h3
 |IsNot =>
  cases Option.some.inj ho
  (injection (qA3 h3)with b;rintro⟨h4,rfl⟩)
  exact qG9 (A:=A) p1.sr r1 h4
 |_=>exact qA2 ho
theorem qM1{ev:EvFn}{pos:Pos}(R:Room d A)(O:EnvOk env sc):∀{es:List Expr}{e:Expr}{ces:List CE}{H H':AHeap}{φ:List Addr}{s:Shared}{v:AV},listM₂ (fun e ce=>Snd X prog w base d ev e ce sc) (e::es) ces->FR X ψ φ s.heap env sc ρ ->
  SR X prog w base ψ φ H s.heap->evAnd ev ces ρ H=some (v,H')->wpAny (model prog w) A (eval (.BoolOp .And (e::es) pos) env) (Out X prog w base ψ φ s v H') NoE s
 |es,e,[],_,_,_,_,_,hp,_,_,_=>hp.elim
 |es,e,c::ces,H,H',φ,s,v,hp,F,S,h=>by
  obtain⟨x,H1,h1,h⟩:=qA4 h
  obtain⟨b,h2,h⟩:=qA0 h
  cases es with
  |nil =>
   cases ces with
   |cons=>exact hp.2.elim
   |nil =>
    have e:some (AV.bool b,H1)=some (v,H'):=by cases b<;>exact h
    rw[<-(qA6 e).1,<-(qA6 e).2,<-qAR h2]
    exact BoolOp_one (hp.1.1 R O F S h1)
  |cons e2 es =>
   refine BoolOp_and (qA1 (hp.1.1 R O F S h1) fun xv s1 q=>?_)
   obtain⟨φ1,p1,r1⟩:=q
   obtain rfl:=r1.isBool h2
   refine wpAny_truthy_bool ?_
   cases b with
   |true=>rw[if_pos rfl]at h ⊢;exact wp_step p1 (qM1 R O hp.2 (FRs.post F S p1) p1.sr h)
   |false=>rw[if_neg Bool.false_ne_true]at h ⊢;rw[<-(qA6 h).1,<-(qA6 h).2];exact⟨φ1,p1,.bool _⟩
theorem qIu{ev:EvFn}{pos:Pos}{whole:Sem Value}(R:Room d A)(O:EnvOk env sc):∀{es:List Expr}{ces:List CE}{H H':AHeap}{φ:List Addr}{s:Shared}{v:AV}{b:Bool},listM₂ (fun e ce=>Snd X prog w base d ev e ce sc) es ces->FR X ψ φ s.heap env sc ρ ->
  SR X prog w base ψ φ H s.heap->evAnd ev ces ρ H=some (v,H')->qAN v=some b->wpAny (model prog w) A (isTrue (.BoolOp .And es pos) env whole) (fun c s'=>c=b/\∃φ',Post X prog w base [] ψ φ φ' H' s s') NoE s
 |[],[],_,_,_,_,_,_,_,F,S,h,hb=>by cases h;cases hb;exact isTrue_and_nil ⟨rfl,_,Post.refl S⟩
 |e::es,c::ces,H,H',φ,s,v,b,hp,F,S,h,hb=>by
  obtain⟨x,H1,h1,h⟩:=qA4 h
  obtain⟨b1,h2,h⟩:=qA0 h
  refine isTrue_and (qA1 (hp.1.2 R O F S h1 h2) fun c1 s1 q=>?_)
  obtain⟨rfl,φ1,p1⟩:=q
  cases c1 with
  |true =>
   rw[if_pos rfl]at h ⊢
   refine qA1 (qIu R O hp.2 (FRs.post F S p1) p1.sr h hb) fun c2 s2 q=>?_
   obtain⟨rfl,φ2,p2⟩:=q
   exact⟨rfl,φ2,p1.trans p2⟩
  |false=>rw[if_neg Bool.false_ne_true]at h ⊢;cases h;cases hb;exact⟨rfl,φ1,p1⟩
 |[],_::_,_,_,_,_,_,_,hp,_,_,_,_=>hp.elim
 |_::_,[],_,_,_,_,_,_,hp,_,_,_,_=>hp.elim
theorem qPC{es:List Expr}{ces:List CE}{pos:Pos}(h0:2<=es.length)(hp:listM₂ (fun e ce=>Snd X prog w base d (evE P cf m) e ce sc) es ces):Snd X prog w base d (evE P cf (m+1)) (.BoolOp .And es pos) (.band ces) sc:=by
 constructor
 .intro A env ρ ψ φ H H' s v R O F S e
  cases es with
  |nil=>simp at h0
  |cons e0 es=>exact qM1 R O hp F S e
 .intro A env ρ ψ φ H H' s v b R O F S e hb
  exact qIu R O hp F S e hb
theorem qNT{ev:EvFn}{pos:Pos}(R:Room d A)(O:EnvOk env sc):∀{es:List Expr}{e:Expr}{ces:List CE}{H H':AHeap}{φ:List Addr}{s:Shared}{v:AV},listM₂ (fun e ce=>Snd X prog w base d ev e ce sc) (e::es) ces->FR X ψ φ s.heap env sc ρ ->
  SR X prog w base ψ φ H s.heap->evOr ev ces ρ H=some (v,H')->wpAny (model prog w) A (eval (.BoolOp .Or (e::es) pos) env) (Out X prog w base ψ φ s v H') NoE s
 |es,e,[],_,_,_,_,_,hp,_,_,_=>hp.elim
 |es,e,c::ces,H,H',φ,s,v,hp,F,S,h=>by
  obtain⟨x,H1,h1,h⟩:=qA4 h
  obtain⟨b,h2,h⟩:=qA0 h
  cases es with
  |nil =>
   cases ces with
   |cons=>exact hp.2.elim
   |nil =>
    have e:some (AV.bool b,H1)=some (v,H'):=by cases b<;>exact h
    rw[<-(qA6 e).1,<-(qA6 e).2,<-qAR h2]
    exact BoolOp_one (hp.1.1 R O F S h1)
  |cons e2 es =>
   refine BoolOp_or (qA1 (hp.1.1 R O F S h1) fun xv s1 q=>?_)
   obtain⟨φ1,p1,r1⟩:=q
   obtain rfl:=r1.isBool h2
   refine wpAny_truthy_bool ?_
   cases b with
   |true=>rw[if_pos rfl]at h ⊢;rw[<-(qA6 h).1,<-(qA6 h).2];exact⟨φ1,p1,.bool _⟩
   |false=>rw[if_neg Bool.false_ne_true]at h ⊢;exact wp_step p1 (qNT R O hp.2 (FRs.post F S p1) p1.sr h)
theorem qKY{ev:EvFn}{pos:Pos}{whole:Sem Value}(R:Room d A)(O:EnvOk env sc):∀{es:List Expr}{ces:List CE}{H H':AHeap}{φ:List Addr}{s:Shared}{v:AV}{b:Bool},listM₂ (fun e ce=>Snd X prog w base d ev e ce sc) es ces->FR X ψ φ s.heap env sc ρ ->
  SR X prog w base ψ φ H s.heap->evOr ev ces ρ H=some (v,H')->qAN v=some b->wpAny (model prog w) A (isTrue (.BoolOp .Or es pos) env whole) (fun c s'=>c=b/\∃φ',Post X prog w base [] ψ φ φ' H' s s') NoE s
 |[],[],_,_,_,_,_,_,_,F,S,h,hb=>by cases(show some (AV.bool false,_)=_ from h);cases hb;exact isTrue_or_nil ⟨rfl,_,Post.refl S⟩
 |e::es,c::ces,H,H',φ,s,v,b,hp,F,S,h,hb=>by
  obtain⟨x,H1,h1,h⟩:=qA4 h
  obtain⟨b1,h2,h⟩:=qA0 h
  refine isTrue_or (qA1 (hp.1.2 R O F S h1 h2) fun c1 s1 q=>?_)
  obtain⟨rfl,φ1,p1⟩:=q
  cases c1 with
  |false =>
   rw[if_neg Bool.false_ne_true]at h ⊢
   refine qA1 (qKY R O hp.2 (FRs.post F S p1) p1.sr h hb) fun c2 s2 q=>?_
   obtain⟨rfl,φ2,p2⟩:=q
   exact⟨rfl,φ2,p1.trans p2⟩
  |true=>rw[if_pos rfl]at h ⊢;cases h;cases hb;exact⟨rfl,φ1,p1⟩
 |[],_::_,_,_,_,_,_,_,hp,_,_,_,_=>hp.elim
 |_::_,[],_,_,_,_,_,_,hp,_,_,_,_=>hp.elim
theorem s_bor{es:List Expr}{ces:List CE}{pos:Pos}(h0:2<=es.length)(hp:listM₂ (fun e ce=>Snd X prog w base d (evE P cf m) e ce sc) es ces):Snd X prog w base d (evE P cf (m+1)) (.BoolOp .Or es pos) (.bor ces) sc:=by
 constructor
 .intro A env ρ ψ φ H H' s v R O F S e
  cases es with
  |nil=>simp at h0
  |cons e0 es=>exact qNT R O hp F S e
 .intro A env ρ ψ φ H H' s v b R O F S e hb
  exact qKY R O hp F S e hb
theorem s_ite{t a b:Expr}{ct ca cb:CE}{pos:Pos}(ht:Snd X prog w base d (evE P cf m) t ct sc)(ha:Snd X prog w base d (evE P cf m) a ca sc)(hb:Snd X prog w base d (evE P cf m) b cb sc) :
  Snd X prog w base d (evE P cf (m+1)) (.IfExp t a b pos) (.ite ct ca cb) sc:=by
 constructor
 .intro A env ρ ψ φ H H' s v R O F S e
  obtain⟨x,H1,h1,e⟩:=qA4 e
  obtain⟨c,h2,e⟩:=qA0 e
  refine IfExp_ (qA1 (ht.2 R O F S h1 h2) fun c1 s1 q=>?_)
  obtain⟨rfl,φ1,p1⟩:=q
  cases c1 with
  |true=>rw[if_pos rfl]at e ⊢;exact wp_step p1 (ha.1 R O (FRs.post F S p1) p1.sr e)
  |false=>rw[if_neg Bool.false_ne_true]at e ⊢;exact wp_step p1 (hb.1 R O (FRs.post F S p1) p1.sr e)
 .intro A env ρ ψ φ H H' s v bb R O F S e hbb
  obtain⟨x,H1,h1,e⟩:=qA4 e
  obtain⟨c,h2,e⟩:=qA0 e
  refine isTrue_IfExp (qA1 (ht.2 R O F S h1 h2) fun c1 s1 q=>?_)
  obtain⟨rfl,φ1,p1⟩:=q
  cases c1 with
  |true =>
   rw[if_pos rfl]at e ⊢
   refine qA1 (ha.2 R O (FRs.post F S p1) p1.sr e hbb) fun c2 s2 q=>?_
   obtain⟨rfl,φ2,p2⟩:=q
   exact⟨rfl,φ2,p1.trans p2⟩
  |false =>
   rw[if_neg Bool.false_ne_true]at e ⊢
   refine qA1 (hb.2 R O (FRs.post F S p1) p1.sr e hbb) fun c2 s2 q=>?_
   obtain⟨rfl,φ2,p2⟩:=q
   exact⟨rfl,φ2,p1.trans p2⟩
end
end
section
section
variable{A:Around}{fr pv ψ ψ' φ φ' φ9:List Addr}{H H' H₁ H9 H0:AHeap}{s s8:Shared}{d:Nat}{v:AV}{E:Value->Shared->Prop}{env:PySem.Env}{sc:Scope}{ρ ρ':Rho}{cf:qAb}{m:Nat}
theorem qGN{ev:EvFn}:∀{ces:List CE}{ρ:Rho}{H H':AHeap}{as:List AV},evEs ev ces ρ H=some (as,H')->as.length=ces.length
 |[],_,_,_,_,h=>by rw[<-(qA6 h).1];rfl
 |c::ces,ρ,H,H',as,h=>by
  obtain⟨v,H1,h1,h⟩:=qA4 h
  obtain⟨vs,H2,h2,h⟩:=qA4 h
  rw[<-(qA6 h).1]
  exact congrArg (·+1) (qGN h2)
theorem qKo{trk:Bool}{l:List AV}{H₁ H':AHeap}{v:AV}{x:Value}{s s':Shared}(e:qAC trk l H₁=(v,H'))(o:Out X prog w base ψ φ s (qAC trk l H₁).1 (qAC trk l H₁).2 x s'):Out X prog w base ψ φ s v H' x s':=by
 rw[e]at o
 exact o
theorem s_tup(G:GW X base){es:List Expr}{ces:List CE}{k:Nat}{pos:Pos}(hs:es.any qAq=false)(hn:es.length<=1000)(hp:listM₂ (fun e ce=>Snd X prog w base d (evE P cf m) e ce sc) es ces) :
  Snd X prog w base d (evE P cf (m+1)) (.Tuple es k pos) (.tup ces) sc:=by
 refine qBX ?_ fun _ _=>rfl
 intro A env ρ ψ φ H H' s v R O F S e
 obtain⟨as,H1,h1,e⟩:=qA4 e
 have hl:as.length<=1000:=by rw[qGN h1,<-listM₂_len hp];exact hn
 refine Tuple_ ?_
 rw[qBg hs]
 refine qA1 (qB1 R O (listM₂_fst hp) F S h1) fun xs s1 q=>?_
 obtain⟨φ1,p1,r1⟩:=q
 have hl:=Nat.lt_of_le_of_lt hl (show 1000<1000001 by decide)
 refine wpAny_newTuple ?_ (qNa r1 hl)
 rw[<-(qA6 e).1,<-(qA6 e).2]
 exact Out.step p1 (qDd (k:=s1.toks) (n:=0) G p1.sr (h₀:=s1.heap) (fun _ _ e=>e) r1 hl)
theorem s_lst(G:GW X base){es:List Expr}{ces:List CE}{trk:Bool}{pos:Pos}(hs:es.any qAq=false)(hn:es.length<=1000)(hp:listM₂ (fun e ce=>Snd X prog w base d (evE P cf m) e ce sc) es ces) :
  Snd X prog w base d (evE P cf (m+1)) (.List es pos) (.lst trk ces) sc:=by
 refine qBX ?_ fun _ _=>rfl
 intro A env ρ ψ φ H H' s v R O F S e
 obtain⟨as,H1,h1,e⟩:=qA4 e
 have hl:as.length<=1000:=by rw[qGN h1,<-listM₂_len hp];exact hn
 refine List_ ?_
 rw[qBg hs]
 refine qA1 (qB1 R O (listM₂_fst hp) F S h1) fun xs s1 q=>?_
 obtain⟨φ1,p1,r1⟩:=q
 have hl:=Nat.lt_of_le_of_lt hl (show 1000<1000001 by decide)
 exact wpAny_newList (qKo (Option.some.inj e) (Out.step p1 (qEb (k:=s1.toks) (n:=0) G trk p1.sr (h₀:=s1.heap) (fun _ _ e=>e) r1 hl))) (qNa r1 hl)
theorem s_dct(G:GW X base){ks:List (Option Expr)}{es:List Expr}{cks ces:List CE}{pos:Pos}(hl:ks.length=es.length)(hlen:ks.length<9)
 (hk:listM₂ (fun(k:Option Expr) ck=>∃e,k=some e/\Snd X prog w base d (evE P cf m) e ck sc) ks cks)(hp:listM₂ (fun e ce=>Snd X prog w base d (evE P cf m) e ce sc) es ces) :
  Snd X prog w base d (evE P cf (m+1)) (.Dict ks es pos) (.dct cks ces) sc:=by
 delta d sc cf m ks es cks ces pos at G hl hlen hk hp
 refine qBX ?_ fun _ _=>rfl
 (intros A env ρ ψ φ H H' s v;intro R O F S e)
 have hkl:=listM₂_len hk
 cases ks with
 |nil =>
  obtain rfl:=List.eq_nil_of_length_eq_zero hl.symm
  obtain rfl:=List.eq_nil_of_length_eq_zero hkl.symm
  obtain⟨rfl,rfl⟩:=qA6 (show some (AV.ref H.length,H++[.dictI []])=some (v,H')from e)
  refine wpAny_Dict_empty ?_
  exact qGu (k:=s.toks) G S (qAp _ _) (qAe fun _ _ e=>e) (S.fresh_at G fun _ _ e=>e).2.2 (.dictI (ks:=[]) (vs:=[]) (l:=[]) (Heap.DictOf.new (knd:=intKind prog w) s.heap) rfl (by decide) .nil)
 |cons k ks =>
  delta k ks at hl hlen hk hkl
  cases cks with
  |nil=>exact nomatch hkl
  |cons ck cks =>
   delta ck cks at e hk hkl
   (injection (qA4 (show bnd (qAz (evE P cf m) (ck::cks) ces ρ H) (fun kvs H=>(qBb kvs).map fun d=>alloc H (.dictS d))=some (v,H')from e))with kvs H1;rintro⟨h1,e⟩)
   (injection (qA3 e)with r;rintro⟨h2,e⟩)
   cases e
   have hk':∀{ks:List (Option Expr)}{cks:List CE},listM₂ (fun(k:Option Expr) ck=>∃e,k=some e/\Snd X prog w base d (evE P cf m) e ck sc) ks cks->listM₂ (fun(k:Option Expr) ck=>∃e,k=some e/\SndE X prog w base d (evE P cf m) e ck sc) ks cks:=by
    intros ks
    induction ks with
    |nil=>(intros cks;intro hk);cases cks with
     |nil=>trivial
     |cons=>exact hk.elim
    |cons a r ih=>intro cks hk;cases cks with
     |nil=>exact hk.elim
     |cons b t=>exact⟨let⟨e,q,z⟩:=hk.1;⟨e,q,z.1⟩,ih hk.2⟩
   exact qJV G R O (hk' hk) (listM₂_fst hp) hl (List.cons_ne_nil _ _) hlen F S h1 h2
theorem qLr{o:Expr}{name:Str}{pos:Pos}{Q:Value->Shared->Prop}(hb:qBK o=true)(h:wpAny (model prog w) A (eval o env) (fun ov s8=>wpAny (model prog w) A (getAttr ov name true) Q E s8) E s) :
  wpAny (model prog w) A (eval (.Attribute o name pos) env) Q E s:=by
 rw[arm_eval_Attribute,qGa hb]
 exact wpAny_bind (wpAny_mono h (fun ov s8 h₁=>wpAny_bind (wpAny_standAt (wpAny_bind (wpAny_holding (wpAny_mono h₁ (fun r s9 h₂=>wpAny_bind (wpAny_letTemporaryGo (wpAny_pure h₂))) fun _ _ x=>x))))) fun _ _ x=>x)
theorem qPD(G:GW X base)(V:PV X P){o:Expr}{co:CE}{a:Nat}{name:Str}{pos:Pos}(hb:qBK o=true)(hn:nid X.names name=some a)(ho:Snd X prog w base d (evE P cf m) o co sc) :
  Snd X prog w base d (evE P cf (m+1)) (.Attribute o name pos) (.attr co a) sc:=by
 refine qBX ?_ fun _ _=>rfl
 intro A env ρ ψ φ H H' s v R O F S e
 obtain⟨x,H1,h1,e⟩:=qA4 e
 obtain⟨y,h2,e⟩:=qA3 e
 cases e
 refine qLr hb (qA1 (ho.1 R O F S h1) fun ov s1 q=>?_)
 obtain⟨φ1,p1,r1⟩:=q
 exact wp_step p1 (qGK G V p1.sr r1 (qBm hn) h2)
theorem s_sub(G:GW X base){o i:Expr}{co ci:CE}{pos:Pos}(hs:∀a b p,i≠.Slice a b none p)(ho:Snd X prog w base d (evE P cf m) o co sc)(hi:Snd X prog w base d (evE P cf m) i ci sc) :
  Snd X prog w base d (evE P cf (m+1)) (.Subscript o i pos) (.sub co ci) sc:=by
 refine qBX ?_ fun _ _=>rfl
 intro A env ρ ψ φ H H' s v R O F S e
 obtain⟨x,H1,h1,e⟩:=qA4 e
 obtain⟨y,H2,h2,e⟩:=qA4 e
 obtain⟨z,h3,e⟩:=qA3 e
 cases e
 refine Subscript_ (qA1 (ho.1 R O F S h1) fun ov s1 q=>?_)
 obtain⟨φ1,p1,r1⟩:=q
 refine qA1 (hi.1 R O (FRs.post F S p1) p1.sr h2) fun iv s2 q=>?_
 obtain⟨φ2,p2,r2⟩:=q
 exact wp_step (p1.trans p2) (qJu G p2.sr (r1.grow0 p2.grow) r2 h3 hs)
noncomputable def OptE(X:CX)(prog:Program)(w:World)(base:Heap)(d:Nat)(ev:EvFn)(sc:Scope):Option Expr->Option CE->Prop
 |none,c=>c=none
 |some e,c=>∃ce,c=some ce/\SndE X prog w base d ev e ce sc
theorem qFR{ev:EvFn}{e:Option Expr}{ce:Option CE}{o:Option Int}(R:Room d A)(O:EnvOk env sc)(he:OptE X prog w base d ev sc e ce)(F:FR X ψ φ s.heap env sc ρ)
 (S:SR X prog w base ψ φ H s.heap)(h:evOpt ev ce ρ H=some (o,H')):wpAny (model prog w) A (evalPart e env) (fun x s'=>IsPart x o/\∃φ',Post X prog w base [] ψ φ φ' H' s s') NoE s:=by
 cases e with
 |none =>
  rw[he]at h
  rw[evalPart_none,<-(qA6 h).1,<-(qA6 h).2]
  exact wpAny_pure ⟨.none,φ,Post.refl S⟩
 |some e =>
  obtain⟨ce,rfl,he⟩:=he
  obtain⟨v,H1,h1,h⟩:=qA4 h
  obtain⟨i,h2,h⟩:=qA0 h
  obtain⟨_,h⟩:=qA9 h
  rw[evalPart_some,<-(qA6 h).1,<-(qA6 h).2]
  refine qA1 (he R O F S h1) fun x s1 q=>?_
  obtain⟨φ1,p1,r1⟩:=q
  obtain⟨t,rfl⟩:=(r1.isInt h2).2
  exact⟨.int i t,φ1,p1⟩
theorem qO8(G:GW X base){o:Expr}{lo hi:Option Expr}{co:CE}{clo chi:Option CE}{trk:Bool}{p pos:Pos}(ho:Snd X prog w base d (evE P cf m) o co sc)
 (hlo:OptE X prog w base d (evE P cf m) sc lo clo)(hhi:OptE X prog w base d (evE P cf m) sc hi chi) :
  Snd X prog w base d (evE P cf (m+1)) (.Subscript o (.Slice lo hi none p) pos) (.slice trk co clo chi) sc:=by
 delta d sc cf m o lo hi co clo chi trk p pos at G ho hlo hhi
 refine qBX ?_ fun _ _=>rfl
 (intros A env ρ ψ φ H H' s v;intro R O F S e)
 (injection (qA4 e)with x H1;rintro⟨h1,e⟩)
 (injection (qA4 e)with a H2;rintro⟨h2,e⟩)
 (injection (qA4 e)with b H3;rintro⟨h3,e⟩)
 (injection (qA3 e)with l;rintro⟨h4,e⟩)
 refine Subscript_ (qA1 (ho.1 R O F S h1) ?_)
 intros ov s1;intro q
 (injection (q)with φ1;try clear q;rintro⟨p1,r1⟩)
 have F1:=FRs.post F S p1
 refine wpAny_Slice (qA1 (qFR R O hlo F1 p1.sr h2) ?_)
 intros x2 s2;intro q
 (obtain⟨i2,H_⟩:=q;injection H_ with φ2;clear H_;intro p2)
 refine qA1 (qFR R O hhi (FRs.post F1 p1.sr p2) p2.sr h3) ?_
 intros x3 s3;intro q
 (obtain⟨i3,H_⟩:=q;injection H_ with φ3;clear H_;intro p3)
 rw[evalPart_none]
 refine wpAny_pure ?_
 exact qA1 (qHh G trk p3.sr ((r1.grow0 p2.grow).grow0 p3.grow) h4 i2 i3) fun _ _ q=>qKo e (q.step ((p1.trans p2).trans p3))
end
end
section
section
variable{A:Around}{fr pv ψ ψ' φ φ' φ9:List Addr}{H H' H₁ H9 H0:AHeap}{s s8:Shared}{d:Nat}{v:AV}{E:Value->Shared->Prop}{env:PySem.Env}{sc:Scope}{ρ ρ':Rho}{cf:qAb}{m:Nat}
theorem idx_at{α:Type} [BEq α] [LawfulBEq α]{l:List α}{a:α}{i:Nat}(h:l.idxOf? a=some i):l[i]?=some a:=by
 have:=List.findIdx?_eq_some_iff_getElem.mp h
 obtain⟨hk,q,_⟩:=this
 rw[List.getElem?_eq_getElem hk,beq_iff_eq.mp q]
theorem qPA(G:GW X base){inner:Scope}{t elt it e:Expr}{ct:CT}{celt ci:CE}{ifs:List Expr}{cifs:List CE}{trk en:Bool}{pos:Pos}(K:CompOk X sc inner t)(hct:qAf X inner t=some ct)(ht:en=true->∃es k p,t=.Tuple es k p)
 (hns:∀a b c,it≠.Set a b c)(hsrc:if en then qCl X sc it=some e else e=it)
 (hi:Snd X prog w base d (evE P cf m) e ci sc)(he:Snd X prog w base d (evE P cf m) elt celt inner)(hf:listM₂ (fun e ce=>Snd X prog w base d (evE P cf m) e ce inner) ifs cifs) :
  Snd X prog w base d (evE P cf (m+1)) (.ListComp elt [⟨t,it,ifs,0⟩] inner pos) (.comp trk en celt ct ci cifs) sc:=by
 refine qBX ?_ fun _ _=>rfl
 intro A env ρ ψ φ H H' s v R O F S e'
 obtain⟨x,H1,h1,e'⟩:=qA4 e'
 obtain⟨xs,src,h2,e'⟩:=qA4 e'
 obtain⟨vs,H3,h3,e'⟩:=qA4 e'
 refine qA1 (qJX (en:=en) (xs:=xs) (src:=src) (H₁:=H1) trk G R O K hct ht he.1 (listM₂_snd hf) hns F S ?_ h3) fun _ _ o=>qKo (Option.some.inj e') o
 cases en with
 |true=>exact qGi G R O hsrc hi.1 F S h1 h2
 |false =>
  obtain rfl:e=it:=hsrc
  exact qDY R O hi.1 F S h1 h2
theorem qFf{t:Expr}{ct:CT}(h:qAf X sc t=some ct)(ht:isTup ct=true):∃es k p,t=.Tuple es k p:=by
 delta sc t ct at h ht
 rcases qKu h with⟨es,k,p,cts,z,_⟩|h
 .exact ⟨es,k,p,z⟩
 .obtain ⟨x,p,k,_,rfl,_⟩:=qAL h
  cases ht
noncomputable def qNJ(X:CX)(sc:Scope)(x:Str):Callee->Prop
 |.fn f=>∃a,qAE sc x=some .globalImplicit/\nsIn X.K mainGlobals x=some (some (.ref a))/\keepIn X.K (.ref a)=true/\X.fns[f]?=some a
 |.cls c=>∃a,qAE sc x=some .globalImplicit/\nsIn X.K mainGlobals x=some (some (.ref a))/\X.clss[c]?=some a
 |.bi b=>qAE sc x=some .globalImplicit/\nsIn X.K mainGlobals x=some none/\biTab.lookup x=some b
theorem qI6{x:Str}{c:Callee}(h:qGW X sc x=some c):qNJ X sc x c:=by
 delta sc x c at h
 obtain⟨hk,h⟩:=qA9 h
 have hk:=beq_iff_eq.mp hk
 (injection (qA0 h)with v;rintro⟨ha,h⟩)
 cases v with
 |none =>
  (injection (qA3 h)with b;rintro⟨hb,rfl⟩)
  exact⟨hk,ha,hb⟩
 |some v =>
  delta v at ha h
  induction v using Value.casesOn with
  |ref a =>
   delta a at ha h
   (injection (qA0 (show qIr X a=some c from h))with o;rintro⟨ho,h⟩)
   obtain⟨oc,od,oda,osl⟩:=o
   induction oda using Data.casesOn with
   |func fd =>
    (injection (qA3 h)with f;rintro⟨hf,rfl⟩)
    exact⟨a,hk,ha,by unfold keepIn;dsimp only;rw[ho],idx_at hf⟩
   |cls cd =>
    (injection (qA3 h)with f;rintro⟨hf,rfl⟩)
    exact⟨a,hk,ha,idx_at hf⟩
   |_=>exact qA2 h
  |_=>exact qA2 h
theorem qDp{it:Expr}:if(qBR X sc it).1 then qCl X sc it=some (qBR X sc it).2 else(qBR X sc it).2=it:=by
 unfold qBR
 cases qCl X sc it<;>rfl
theorem qCX{n:Nat}{it:Expr}{ci:CE}(h:cmpE X n sc (qBR X sc it).2=some ci):∀a b c,it≠.Set a b c:=by
 have q:=qDp (sc:=sc) (it:=it)
 cases he:(qBR X sc it).1 with
 |true =>
  rw[he]at q
  obtain⟨p,pos,z,_⟩:=qE4 q
  intro a b c y
  cases y.symm.trans z
 |false =>
  rw[he]at q
  rw[show(qBR X sc it).2=it from q]at h
  exact qCo h
theorem s_opt{n:Nat}{o:Option Expr}{c:Option CE}(ih:∀(e:Expr) (ce:CE),cmpE X n sc e=some ce->Snd X prog w base d (evE P cf m) e ce sc)(q:optM (cmpE X n sc) o=some c):OptE X prog w base d (evE P cf m) sc o c:=by
 cases o with
 |none=>exact(Option.some.inj q).symm
 |some e =>
  obtain⟨ce,q1,rfl⟩:=qA3 q
  exact⟨ce,rfl,(ih _ _ q1).1⟩
theorem qPB(G:GW X base)(V:PV X P)(C:SndCF X prog w base d cf)(B:SndBi X prog w base d){n:Nat}{x:Str}{p pos:Pos}{args:List Expr}{c:Callee}{ce:CE}(all:∀{ces:List CE},listM (cmpE X n sc) args=some ces->listM₂ (fun e ce=>Snd X prog w base d (evE P cf m) e ce sc) args ces)
 (hs:args.any qAq=false)(hx:(x==("__debug__":Str))=false)(hc:qGW X sc x=some c)
 (h:qNk (listM (cmpE X n sc) args) args (X.isTrk pos) c=some ce) :
  Snd X prog w base d (evE P cf (m+1)) (.Call (.Name x p) args [] pos) ce sc:=by
 delta d sc cf m n x p pos args c ce at G V C B all hs hx hc h
 have hc:=qI6 hc
 refine qBX ?_ fun _ _=>rfl
 (intros A env ρ ψ φ H H' s v;intro R O F S e)
 cases c with
 |fn f =>
  revert h hc;revert f;intros f;intro _ h hc
  (injection (qA3 h)with ces;rintro⟨h1,rfl⟩)
  (injection (hc)with a;try clear hc;rintro⟨hk,ha,hkp,hf⟩)
  (injection (qA4 e)with as H1;rintro⟨h2,e⟩)
  exact qHO G C R O hk ha hx hkp hf hs (listM₂_fst (all h1)) F S h2 e
 |cls c =>
  revert h hc;revert c;intros c;intro _ h hc
  obtain⟨he,h⟩:=qA9 h
  obtain rfl:=Option.some.inj h
  obtain rfl:=List.isEmpty_iff.mp he
  (injection (hc)with a;try clear hc;rintro⟨hk,ha,hcl⟩)
  (injection (qA0 e)with f;rintro⟨h2,e⟩)
  (injection (qA4 e)with r H2;rintro⟨h3,e⟩)
  obtain⟨hr,e⟩:=qA9 e
  rw[<-(qA6 e).1,<-(qA6 e).2]
  cases r with
  |none=>exact qKi G V C R O hk ha hx hcl S h2 h3
  |_=>exact ff_tt hr
 |bi b =>
  revert h hc;revert b;intros b;intro _ h hc
  (injection (qA3 h)with ces;rintro⟨h1,rfl⟩)
  obtain⟨hk,ha,hb⟩:=hc
  (injection (qA4 e)with as H1;rintro⟨h2,e⟩)
  exact qHP G R O hk ha hx hb hs (listM₂_fst (all h1)) F S h2 fun S1 r1=>B R S1 r1 e
theorem qOA(G:GW X base)(V:PV X P)(C:SndCF X prog w base d cf){o:Expr}{x:Str}{apos pos:Pos}{args:List Expr}{co:CE}{ces:List CE}{mi:Nat}(ho:Snd X prog w base d (evE P cf m) o co sc)(all:listM₂ (fun e ce=>Snd X prog w base d (evE P cf m) e ce sc) args ces)
 (hb:qBK o=true)(hs:args.any qAq=false)(hl:args.length<=20)(hp:(apos.endLine==pos.line)=true)(hn:nid X.names x=some mi):Snd X prog w base d (evE P cf (m+1)) (.Call (.Attribute o x apos) args [] pos) (.callM co mi ces) sc:=by
 refine qBX ?_ fun _ _=>rfl
 intro A env ρ ψ φ H H' s v R O F S e
 obtain⟨ov,H1,h4,e⟩:=qA4 e
 induction ov using AV.casesOn with
 |inst c i =>
  obtain⟨f,h5,e⟩:=qA0 e
  obtain⟨hna,e⟩:=qA9 e
  obtain⟨as,H2,h6,e⟩:=qA4 e
  exact qJb G V C R O hb hs hl hp hn ho.1 (listM₂_fst all) F S h4 h5 hna h6 e
 |ref i =>
  obtain⟨hok,e⟩:=qA9 e
  obtain⟨as,H2,h6,e⟩:=qA4 e
  exact qLk G V R O hb hs hl hp hn ho.1 (listM₂_fst all) F S h4 hok h6 e
 |_=>exact qA2 e
theorem qO9(G:GW X base){n:Nat}{elt:Expr}{gens:List Comprehension}{inner:Scope}{pos:Pos}{ce:CE}(ih:∀(sc:Scope) (e:Expr) (ce:CE),cmpE X n sc e=some ce->Snd X prog w base d (evE P cf m) e ce sc)
 (h:cmpE X (n+1) sc (.ListComp elt gens inner pos)=some ce):Snd X prog w base d (evE P cf (m+1)) (.ListComp elt gens inner pos) ce sc:=by
 delta d sc cf m n elt gens inner pos ce at G ih h
 (injection (qA0 h)with g;rintro⟨hg,h⟩)
 obtain rfl:=qBI hg
 obtain⟨hk,h⟩:=qA9 h
 have hk:=Bool.and_eq_true_iff.mp hk
 (injection (qA0 h)with ct;rintro⟨h1,h⟩)
 obtain⟨ht,h⟩:=qA9 h
 (injection (qA0 h)with celt;rintro⟨h2,h⟩)
 (injection (qA0 h)with ci;rintro⟨h3,h⟩)
 (injection (qA3 h)with cifs;rintro⟨h4,h⟩)
 obtain⟨t,it,ifs,z⟩:=g
 obtain rfl:z=0:=of_decide_eq_true hk.2
 rw[<-h]
 refine qPA G (qCB hk.1) h1 (fun q=>qFf h1 ?_) (qCX h3) qDp (ih _ _ _ h3) (ih _ _ _ h2) (qBC (fun e ce q=>ih _ e ce q) h4)
 rw[q]at ht
 exact ht
theorem qLN(G:GW X base)(V:PV X P)(C:SndCF X prog w base d cf)(B:SndBi X prog w base d):∀(n:Nat) (sc:Scope) (e:Expr) (ce:CE),cmpE X n sc e=some ce->∀m,Snd X prog w base d (evE P cf m) e ce sc:=by
 delta d cf at G V C B
 intros n
 induction n with
 |zero=>(intros sc e ce;intro h);exact qA2 h
 |succ n ih =>
  delta n at ih
  (intros sc e ce;intro h;intros m)
  cases m with
  |zero=>exact qMM
  |succ m =>
  revert m;intros m
  have all:∀{sc:Scope}{es:List Expr}{ces:List CE},listM (cmpE X n sc) es=some ces->listM₂ (fun e ce=>Snd X prog w base d (evE P cf m) e ce sc) es ces:=fun h=>qBC (fun e ce q=>ih _ e ce q m) h
  induction e using Expr.casesOn with
  |Constant c k p=>(injection (qA3 h)with a;rintro⟨ha,rfl⟩);exact s_lit ha
  |Name x p =>
   delta x p at h
   obtain⟨hv,h⟩:=qA9 h
   (injection (qA3 h)with i;rintro⟨hi,rfl⟩)
   have hv:=Bool.and_eq_true_iff.mp hv
   have hw:=Bool.and_eq_true_iff.mp hv.1
   exact s_var hw.1 ((Bool.not_eq_true' _).mp hw.2) ((Bool.not_eq_true' _).mp hv.2) hi
  |BinOp l op r p =>
   delta l op r p at h
   (injection (qA0 h)with o;rintro⟨h1,h⟩)
   (injection (qA0 h)with a;rintro⟨h2,h⟩)
   (injection (qA3 h)with b;rintro⟨h3,rfl⟩)
   exact s_bin G h1 (ih _ _ _ h2 m) (ih _ _ _ h3 m)
  |UnaryOp op a p =>
   delta op a p at h
   (injection (qA0 h)with c;rintro⟨h1,h⟩)
   cases op with
   |USub=>obtain rfl:=Option.some.inj h;exact s_neg (ih _ _ _ h1 m)
   |Not=>obtain rfl:=Option.some.inj h;exact s_not (ih _ _ _ h1 m)
   |_=>exact qA2 h
  |Compare l ops rs p =>
   delta l ops rs p at h
   (injection (qA0 h)with o;rintro⟨h1,ha⟩)
   (injection (qA0 ha)with r;rintro⟨h2,hb⟩)
   (injection (qA0 hb)with a;rintro⟨h3,hc⟩)
   clear h ha hb
   obtain rfl:=qBI h1
   obtain rfl:=qBI h2
   cases hi:isOp o with
   |some op =>
    delta op at hi
    rw[hi]at hc
    obtain⟨hr,hd⟩:=qA9 hc
    obtain rfl:=Option.some.inj hd
    exact qP8 hi hr (ih _ _ _ h3 m)
   |none =>
    rw[hi]at hc
    (injection (qA0 hc)with op;rintro⟨h4,hd⟩)
    (injection (qA3 hd)with b;rintro⟨h5,he⟩)
    rw[<-he]
    exact s_cmp G h4 (qMi (qCo h5)) (ih _ _ _ h3 m) (ih _ _ _ h5 m)
  |BoolOp op es p =>
   delta op es p at h
   obtain⟨hl,h⟩:=qA9 h
   (injection (qA3 h)with ces;rintro⟨h1,rfl⟩)
   cases op with
   |And=>exact qPC hl (all h1)
   |Or=>exact s_bor hl (all h1)
  |IfExp t a b p =>
   delta t a b p at h
   (injection (qA0 h)with ct;rintro⟨h1,h⟩)
   (injection (qA0 h)with ca;rintro⟨h2,h⟩)
   (injection (qA3 h)with cb;rintro⟨h3,rfl⟩)
   exact s_ite (ih _ _ _ h1 m) (ih _ _ _ h2 m) (ih _ _ _ h3 m)
  |Tuple es k p =>
   delta es k p at h
   obtain⟨hs,h⟩:=qA9 h
   (injection (qA3 h)with ces;rintro⟨h1,rfl⟩)
   have hs:=Bool.and_eq_true_iff.mp hs
   exact s_tup G ((Bool.not_eq_true' _).mp hs.1) (of_decide_eq_true hs.2) (all h1)
  |List es p =>
   delta es p at h
   obtain⟨hs,h⟩:=qA9 h
   (injection (qA3 h)with ces;rintro⟨h1,rfl⟩)
   have hs:=Bool.and_eq_true_iff.mp hs
   exact s_lst G ((Bool.not_eq_true' _).mp hs.1) (of_decide_eq_true hs.2) (all h1)
  |Dict ks vs p =>
   delta ks vs p at h
   obtain⟨hl,h⟩:=qA9 h
   (injection (qA0 h)with cks;rintro⟨h1,h⟩)
   (injection (qA3 h)with ces;rintro⟨h2,rfl⟩)
   have hl:=Bool.and_eq_true_iff.mp hl
   exact s_dct G (beq_iff_eq.mp hl.1) (of_decide_eq_true hl.2) (qBC (fun k ck q=>by
    obtain⟨k',hk,q⟩:=qA0 q
    exact⟨k',hk,ih _ _ _ q m⟩) h1) (all h2)
  |ListComp elt gens inner p=>exact qO9 G (fun sc e ce q=>ih sc e ce q m) h
  |Call f args kws p =>
   delta f args kws p at h
   obtain⟨hs',ha⟩:=qA9 h
   clear h
   have hs:=Bool.and_eq_true_iff.mp hs'
   clear hs'
   obtain rfl:=List.isEmpty_iff.mp hs.2
   induction f using Expr.casesOn with
   |Name x q =>
    delta x q at ha
    obtain⟨hx,hb⟩:=qA9 ha
    (injection (qA0 hb)with c;rintro⟨hc,hd⟩)
    exact qPB G V C B all ((Bool.not_eq_true' _).mp hs.1) ((Bool.not_eq_true' _).mp hx) hc hd
   |Attribute o x q =>
    delta o x q at ha
    obtain⟨hq,hb⟩:=qA9 ha
    (injection (qA0 hb)with co;rintro⟨h1,hc⟩)
    (injection (qA0 hc)with mi;rintro⟨h2,hd⟩)
    (injection (qA3 hd)with ces;rintro⟨h3,rfl⟩)
    have hq:=Bool.and_eq_true_iff.mp hq
    have hr:=Bool.and_eq_true_iff.mp hq.1
    exact qOA G V C (ih _ _ _ h1 m) (all h3) hr.1 ((Bool.not_eq_true' _).mp hs.1) (of_decide_eq_true hr.2) hq.2 h2
   |_=>exact qA2 ha
  |Attribute o x p =>
   delta o x p at h
   obtain⟨hb,h⟩:=qA9 h
   (injection (qA0 h)with co;rintro⟨h1,h⟩)
   (injection (qA3 h)with a;rintro⟨h2,rfl⟩)
   exact qPD G V hb h2 (ih _ _ _ h1 m)
  |Subscript o i p =>
   delta o i p at h
   (injection (qA0 h)with co;rintro⟨h1,h⟩)
   have plain:(cmpE X n sc i).map (.sub co)=some ce->Snd X prog w base d (evE P cf (m+1)) (.Subscript o i p) ce sc:=fun h=>by
    (injection (qA3 h)with ci;rintro⟨h2,rfl⟩)
    exact s_sub G (fun a b p=>qGS h2 a b none p) (ih _ _ _ h1 m) (ih _ _ _ h2 m)
   induction i using Expr.casesOn with
   |Slice lo hi st q =>
    revert h plain;revert lo hi st q;intros lo hi st q;intro _ h plain
    obtain⟨hst,h⟩:=qA9 h
    (injection (qA0 h)with clo;rintro⟨h2,h⟩)
    (injection (qA3 h)with chi;rintro⟨h3,rfl⟩)
    obtain rfl:=Option.isNone_iff_eq_none.mp hst
    exact qO8 G (ih _ _ _ h1 m) (s_opt (fun e ce q=>ih _ e ce q m) h2) (s_opt (fun e ce q=>ih _ e ce q m) h3)
   |_=>exact plain h
  |_=>exact qA2 h
end
end
section
section
variable{A:Around}{fr pv ψ ψ' φ φ' φ9:List Addr}{H H' H₁ H9 H0:AHeap}{s s8:Shared}{d:Nat}{v:AV}{E:Value->Shared->Prop}{env:PySem.Env}{sc:Scope}{ρ ρ':Rho}{cf:qAb}{m:Nat}
def OutA(X:CX)(prog:Program)(w:World)(base:Heap)(fr ψ φ:List Addr)(s:Shared)(env:PySem.Env)(sc:Scope)(ρ':Rho)(H':AHeap)(s':Shared):Prop :=
 ∃φ',Post X prog w base fr ψ φ φ' H' s s'/\FR X ψ φ' s'.heap env sc ρ'/\StoreOk fr s'.heap env sc
theorem OutA.step{s':Shared}(hfr:∀a∈fr,a∈ψ)(p:Post X prog w base fr ψ φ φ9 H₁ s s8)(o:OutA X prog w base fr ψ φ9 s8 env sc ρ' H' s'):OutA X prog w base fr ψ φ s env sc ρ' H' s' :=
 let⟨φ',q,r⟩:=o;⟨φ',p.transF q hfr,r⟩
theorem Post.up{s':Shared}(p:Post X prog w base [] ψ φ φ9 H₁ s s'):Post X prog w base fr ψ φ φ9 H₁ s s':=p.wide fun _ q=>qA5 q
theorem Stored.out{s':Shared}{k:Nat}(q:Stored X prog w base (fun z=>True\/z=x) fr ψ φ H env sc ρ' s s'):OutA X prog w base fr ψ φ s env sc ρ' H s' :=
 ⟨φ,q.post,fun z k v _=>q.vars z k v (.inl trivial),q.st⟩
inductive T1Is (sc:Scope) (t:Expr) (ct:CT):Prop
 |attr (o:Expr) (x:Str) (p:Pos) (c:CE) (a:Nat) (z:t=.Attribute o x p) (y:ct=.attr c a) (h1:cmpE X 40 sc o=some c) (h2:nid X.names x=some a)
 |sub (o i:Expr) (p:Pos) (c d:CE) (z:t=.Subscript o i p) (y:ct=.sub c d) (h1:cmpE X 40 sc o=some c) (h2:cmpE X 40 sc i=some d)
 |name (h:qBF X sc t=some ct)
theorem t1_is{t:Expr}{ct:CT}(hc:cmpT1 X sc t=some ct):T1Is sc t ct:=by
 delta sc t ct at hc
 induction t using Expr.casesOn with
 |Attribute o x p =>
  obtain⟨c,h1,hc⟩:=qA0 hc
  obtain⟨a,h2,y⟩:=qA3 hc
  exact .attr o x p c a rfl y.symm h1 h2
 |Subscript o i p =>
  obtain⟨c,h1,hc⟩:=qA0 hc
  obtain⟨a,h2,y⟩:=qA3 hc
  exact .sub o i p c a rfl y.symm h1 h2
 |_=>exact .name hc
theorem qFs(G:GW X base)(V:PV X P)(R:Room d A)(O:EnvOk env sc)(hfr:∀a∈fr,a∈ψ)(he:∀(n:Nat) (sc:Scope) (e:Expr) (ce:CE),cmpE X n sc e=some ce->∀m,Snd X prog w base d (evE P cf m) e ce sc)
 {t:Expr}{ct:CT}{y:Value}(hc:cmpT1 X sc t=some ct)(h:qDR P (evE P cf 40) ct v ρ H=some (ρ',H'))(T:StoreOk fr s.heap env sc)(F:FR X ψ φ s.heap env sc ρ)(S:SR X prog w base ψ φ H s.heap)(ry:VR X ψ φ s.heap y v) :
  wpAny (model prog w) A (assign t env y) (fun _ s'=>OutA X prog w base fr ψ φ s env sc ρ' H' s') NoE s:=by
 delta A fr ψ φ H H' s d v env sc ρ ρ' cf t ct y at G V R O hfr he hc h T F S ry
 rcases t1_is hc with⟨o,x,p,co,a,rfl,rfl,h1,h2⟩|⟨o,i,p,co,ci,rfl,rfl,h1,h2⟩|hc
 .clear hc
  delta o x p co a at h1 h2 h
  (injection (qA4 h)with ov H1;rintro⟨h3,h⟩)
  (injection (qA3 h)with H2;rintro⟨h4,h⟩)
  rw[<-(Prod.mk.inj h).1,<-(Prod.mk.inj h).2]
  rw[arm_assign_Attribute]
  refine wpAny_bind (wpAny_holding (qA1 ((he _ _ _ _ h1 40).1 R O F S h3) fun x s1 q=>wpAny_bind (wpAny_standAt (wpAny_bind (wpAny_holding ?_)))))
  obtain⟨φ1,p1,r1⟩:=q
  refine qA1 (qG1 G V p1.sr r1 (ry.grow0 p1.grow) (qBm h2) h4) fun _ s2 p2=>wpAny_release ?_
  have p12:=p1.trans p2
  exact⟨φ1,p12.up,FRs.post F S p12,T.post S hfr p12⟩
 .clear hc
  delta o i p co ci at h1 h2 h
  (injection (qA4 h)with ov H1;rintro⟨h3,h⟩)
  (injection (qA4 h)with iv H2;rintro⟨h4,h⟩)
  (injection (qA3 h)with H3;rintro⟨h5,h⟩)
  rw[<-(Prod.mk.inj h).1,<-(Prod.mk.inj h).2]
  rw[arm_assign_Subscript]
  refine wpAny_bind (wpAny_holding (qA1 ((he _ _ _ _ h1 40).1 R O F S h3) fun x s1 q=>wpAny_bind (wpAny_holding ?_)))
  obtain⟨φ1,p1,r1⟩:=q
  refine qA1 ((he _ _ _ _ h2 40).1 R O (FRs.post F S p1) p1.sr h4) fun z s2 q=>wpAny_bind (wpAny_standAt (wpAny_bind (wpAny_holding ?_)))
  obtain⟨φ2,p2,r2⟩:=q
  refine qA1 (qHV G p2.sr (r1.grow0 p2.grow) r2 ((ry.grow0 p1.grow).grow0 p2.grow) h5) fun _ s3 p3=>wpAny_release ?_
  have p13:=(p1.trans p2).trans p3
  exact⟨φ2,p13.up,FRs.post F S p13,T.post S hfr p13⟩
 .obtain ⟨x,p,k,rfl,rfl,hk,hn⟩:=qAL hc
  rw[<-(qA6 h).1,<-(qA6 h).2]
  exact wpAny_assign_Name (qA1 (qB8 (E:=NoE) O T hfr hk hn F S ry) fun _ s1 q=>Stored.out (k:=0) q)
theorem qCn{t:Expr}{ct:CT}{rest:List Expr}(hc:cmpT1 X sc t=some ct):assignEach (t::rest) env=(false,assign t env)::assignEach rest env:=by
 rcases t1_is hc with⟨o,x,p,c,a,rfl,_⟩|⟨o,i,p,c,d,rfl,_⟩|hc
 .rfl
 .rfl
 .obtain ⟨x,p,k,rfl,_⟩:=qAL hc
  rfl
inductive TIs (sc:Scope) (t:Expr) (ct:CT):Prop
 |tup (es:List Expr) (k:Nat) (p:Pos) (cts:List CT) (z:t=.Tuple es k p) (y:ct=.tup cts) (h:listM (cmpT1 X sc) es=some cts)
 |one (h:cmpT1 X sc t=some ct)
theorem t_is{t:Expr}{ct:CT}(hc:cmpT X sc t=some ct):TIs sc t ct:=by
 delta sc t ct at hc
 induction t using Expr.casesOn with
 |Tuple es k p =>
  obtain⟨cts,hl,y⟩:=qA3 hc
  exact .tup es k p cts rfl y.symm hl
 |_=>exact .one hc
theorem qJg{t:Expr}{ct:CT}(hc:cmpT X sc t=some ct):(assignEach [t] env).map (·.2)=[assign t env]:=by
 rcases t_is hc with⟨es,k,p,cts,rfl,_⟩|hc
 .rfl
 .rw [qCn hc];rfl
theorem qDU(G:GW X base)(V:PV X P)(R:Room d A)(O:EnvOk env sc)(hfr:∀a∈fr,a∈ψ)(he:∀(n:Nat) (sc:Scope) (e:Expr) (ce:CE),cmpE X n sc e=some ce->∀m,Snd X prog w base d (evE P cf m) e ce sc) :
  ∀{ts:List Expr}{cts:List CT}{ys:List Value}{vs:List AV}{ρ ρ':Rho}{H H':AHeap}{φ:List Addr}{s:Shared},listM (cmpT1 X sc) ts=some cts->qBT P (evE P cf 40) cts vs ρ H=some (ρ',H')->StoreOk fr s.heap env sc->FR X ψ φ s.heap env sc ρ ->
   SR X prog w base ψ φ H s.heap->VRs X ψ φ s.heap ys vs ->
   wpAny (model prog w) A (assignInOrder ((assignEach ts env).map (·.2)) ys) (fun _ s'=>OutA X prog w base fr ψ φ s env sc ρ' H' s') NoE s
 |[],cts,ys,vs,ρ,ρ',H,H',φ,s,hc,h,T,F,S,r=>by
  cases hc
  cases vs with
  |nil =>
   cases r
   rw[<-(qA6 (show some (ρ,H)=some (ρ',H')from h)).1,<-(qA6 (show some (ρ,H)=some (ρ',H')from h)).2]
   exact wpAny_pure ⟨φ,(Post.refl S).up,F,T⟩
  |cons=>exact qA2 h
 |t::ts,cts,ys,vs,ρ,ρ',H,H',φ,s,hc,h,T,F,S,r=>by
  obtain⟨ct,h1,hc⟩:=qA0 hc
  obtain⟨cts',h2,rfl⟩:=qA3 hc
  cases vs with
  |nil=>exact qA2 h
  |cons v vs =>
   obtain⟨y,ys,rfl,ry,rs⟩:=r
   obtain⟨ρ1,H1,h3,h⟩:=qA4 (qCE.symm.trans h)
   rw[qCn h1]
   show wpAny _ A (do holding ys (assign t env y);assignInOrder ((assignEach ts env).map (·.2)) ys) _ _ s
   refine wpAny_bind (wpAny_holding (qA1 (qFs G V R O hfr he h1 h3 T F S ry) fun _ s1 q=>?_))
   obtain⟨φ1,p1,F1,T1⟩:=q
   exact qA1 (qDU G V R O hfr he h2 h T1 F1 p1.sr (rs.grow p1.grow hfr)) fun _ s2 q=>q.step hfr p1
theorem qFD:∀{ts:List Expr}{cts:List CT}{vs:List AV}{ρ:Rho}{H:AHeap}{r:Rho×AHeap},listM (cmpT1 X sc) ts=some cts->qBT P (evE P cf 40) cts vs ρ H=some r->(assignEach ts env).length=vs.length/\(assignEach ts env).findIdx? (·.1)=none
 |[],cts,vs,ρ,H,r,hc,h=>by
  cases hc
  cases vs with
  |nil=>exact⟨rfl,rfl⟩
  |cons=>exact qA2 h
 |t::ts,cts,vs,ρ,H,r,hc,h=>by
  obtain⟨ct,h1,hc⟩:=qA0 hc
  obtain⟨cts',h2,rfl⟩:=qA3 hc
  cases vs with
  |nil=>exact qA2 h
  |cons v vs =>
   obtain⟨ρ1,H1,h3,h⟩:=qA4 (qCE.symm.trans h)
   obtain⟨a,b⟩:=qFD h2 h
   rw[qCn h1]
   exact⟨congrArg (·+1) a,by rw[List.findIdx?_cons,b];rfl⟩
theorem qHU(G:GW X base)(V:PV X P)(R:Room d A)(O:EnvOk env sc)(hfr:∀a∈fr,a∈ψ)(he:∀(n:Nat) (sc:Scope) (e:Expr) (ce:CE),cmpE X n sc e=some ce->∀m,Snd X prog w base d (evE P cf m) e ce sc)
 {t:Expr}{ct:CT}{y:Value}(hc:cmpT X sc t=some ct)(h:qE8 P (evE P cf 40) ct v ρ H=some (ρ',H'))(T:StoreOk fr s.heap env sc)(F:FR X ψ φ s.heap env sc ρ)(S:SR X prog w base ψ φ H s.heap)(ry:VR X ψ φ s.heap y v) :
  wpAny (model prog w) A (assign t env y) (fun _ s'=>OutA X prog w base fr ψ φ s env sc ρ' H' s') NoE s:=by
 delta A fr ψ φ H H' s d v env sc ρ ρ' cf t ct y at G V R O hfr he hc h T F S ry
 rcases t_is hc with⟨es,kx,pos,cts,rfl,rfl,hl⟩|h1
 .clear hc
  delta es kx pos cts at hl h
  (injection (qA0 h)with vs;rintro⟨hv,h⟩)
  rw[qAv hv]at ry
  obtain⟨a,items,n,rfl,e1,n1,m1,k1,r1⟩:=ry
  have IT:IsTup s.heap a items:=⟨_,e1,rfl,_,rfl⟩
  have pre:=qFD (env:=env) hl h
  refine assign_Tuple_tuple R.handled IT (by rw[pre.1,qAT r1]) pre.2 fun h' hb=>?_
  have kp:∀b o,s.heap.get? b=some o->h'.get? b=some o:=fun b o e=>hb b o (Nat.ne_of_lt (Heap.lt_size e)) e
  have p1:=Post.grown (s:=s) (tk:=s.toks) S kp
  exact qA1 (qDU (s:={ s with heap:=h' }) G V R O hfr he hl h (T.keep fun a _ o e=>kp a o e) (FRs.post F S p1) p1.sr (r1.grow0 p1.grow)) fun _ s2 q=>q.step hfr p1.up
 .refine qFs G V R O hfr he h1 ?_ T F S ry
  clear hc
  rcases t1_is h1 with⟨o,x,p,c,a,_,rfl,_⟩|⟨o,i,p,c,d,_,rfl,_⟩|hn
  .exact h
  .exact h
  .obtain ⟨x,p,k,_,rfl,_⟩:=qAL hn
   exact h
theorem qCD(O:EnvOk env sc)(hfr:∀a∈fr,a∈ψ):∀{ns:List Str}{ks:List Nat}{ys:List Value}{vs:List AV}{ρ:Rho}{s:Shared},ns.length=ys.length->ns.map (nid X.names)=ks.map some->(∀x∈ns,qAE sc x=some .local) ->
  StoreOk fr s.heap env sc->FR X ψ φ s.heap env sc ρ->SR X prog w base ψ φ H s.heap->VRs X ψ φ s.heap ys vs ->
  wpAny (model prog w) A (assignInOrder (ns.map fun n=>bindName env n) ys) (fun _ s'=>OutA X prog w base fr ψ φ s env sc ((ks.zip vs).foldl (fun ρ p=>upd p.1 p.2 ρ) ρ) H s') NoE s
 |[],ks,ys,vs,ρ,s,hl,hk,_,T,F,S,r=>by
  obtain rfl:ks=[]:=List.map_eq_nil_iff.mp hk.symm
  obtain rfl:=List.eq_nil_of_length_eq_zero hl.symm
  exact wpAny_pure ⟨φ,(Post.refl S).up,F,T⟩
 |n::ns,[],ys,vs,ρ,s,hl,hk,_,T,F,S,r=>nomatch hk
 |n::ns,k::ks,ys,[],ρ,s,hl,hk,_,T,F,S,r=>by cases r;cases hl
 |n::ns,k::ks,ys,v::vs,ρ,s,hl,hk,hloc,T,F,S,r=>by
  obtain⟨y,ys,rfl,ry,rs⟩:=r
  have hk:=List.cons.inj hk
  show wpAny _ A (do holding ys (bindName env n y);assignInOrder (ns.map fun n=>bindName env n) ys) _ _ s
  refine wpAny_bind (wpAny_holding (wpAny_bindName (qA1 (qB8 (E:=NoE) O T hfr (.inl (hloc n (.head _))) hk.1 F S ry) fun _ s1 q=>?_)))
  exact qA1 (qCD O hfr (Nat.succ.inj hl) hk.2 (fun x hx=>hloc x (.tail _ hx)) q.st (fun z k v _=>q.vars z k v (.inl trivial)) q.post.sr (rs.grow q.post.grow hfr)) fun _ s2 q2=>q2.step hfr q.post
theorem qB3{α:Type}{k:Nat}{v:α}:∀{l:List (Nat×α)},(l.map (·.1)).Nodup->(l.lookup k=some v↔(k,v)∈l)
 |[],_=>⟨fun e=>(qA2 e),fun m=>(qA5 m)⟩
 |p::r,h=>by
  have h:=List.nodup_cons.mp h
  rw[qAU,List.mem_cons]
  by_cases q:p.1=k
  .rw [if_pos q]
   refine⟨fun e=>.inl (Prod.ext q.symm (Option.some.inj e).symm),fun m=>m.elim (fun e=>congrArg some (congrArg Prod.snd e).symm) fun m=>absurd (List.mem_map_of_mem (f:=(·.1)) m) (q▸h.1)⟩
  .rw [if_neg q]
   exact(qB3 h.2).trans ⟨.inr,fun m=>m.resolve_left fun e=>q (congrArg Prod.fst e).symm⟩
theorem qCj{α:Type}:∀{kvs:List (Nat×α)}{ρ:List (Nat×α)}{k:Nat},(kvs.map (·.1)).Nodup->(kvs.foldl (fun ρ p=>upd p.1 p.2 ρ) ρ).lookup k=(kvs.lookup k).or (ρ.lookup k)
 |[],ρ,k,_=>rfl
 |p::r,ρ,k,h=>by
  have h:=List.nodup_cons.mp h
  rw[List.foldl_cons,qCj h.2,qBV,qAU]
  by_cases q:k=p.1
  .have:r.lookup k=none:=by
    cases e:r.lookup k with
    |none=>rfl
    |some v=>exact absurd (List.mem_map_of_mem (f:=(·.1)) ((qB3 h.2).mp e)) (q▸h.1)
   rw[this,if_pos q,if_pos q.symm];rfl
  .rw [if_neg q,if_neg (Ne.symm q)]
theorem qJF{α:Type}{kvs:List (Nat×α)}{k:Nat}(h:(kvs.map (·.1)).Nodup):kvs.reverse.lookup k=kvs.lookup k:=by
 have hr:(kvs.reverse.map (·.1)).Nodup:=by rw[List.map_reverse];exact List.pairwise_reverse.mpr (List.Pairwise.imp (fun h=>Ne.symm h) h)
 refine Option.ext fun v=>?_
 rw[qB3 hr,List.mem_reverse]
 exact(qB3 h).symm
end
end
section
section
variable{A:Around}{fr pv ψ ψ' φ φ' φ9:List Addr}{H H' H₁ H9 H0:AHeap}{s s8:Shared}{d:Nat}{v:AV}{E:Value->Shared->Prop}{env:PySem.Env}{sc:Scope}{ρ ρ':Rho}{cf:qAb}{m:Nat}{ok:Str->Prop}
theorem FR.ext{h:Heap}(F:FR X ψ φ h env sc ρ)(e:∀k,ρ.lookup k=ρ'.lookup k):FR X ψ φ h env sc ρ':=fun x k v o a b c=>F x k v o a b ((e k).trans c)
theorem qDV{ev:EvFn}:∀{ks:List Nat}{vs:List AV}{ρ:Rho}{H:AHeap}{r:Rho×AHeap},qBT P ev (ks.map .name) vs ρ H=some r->ks.length=vs.length/\r=((ks.zip vs).foldl (fun ρ p=>upd p.1 p.2 ρ) ρ,H)
 |[],[],_,_,r,h=>⟨rfl,(Option.some.inj h).symm⟩
 |[],_::_,_,_,_,h=>qA2 h
 |_::_,[],_,_,_,h=>qA2 h
 |k::ks,v::vs,ρ,H,r,h=>by
  obtain⟨ρ1,H1,h1,h⟩:=qA4 (qCE.symm.trans h)
  obtain⟨rfl,rfl⟩:=qA6 (show some (upd k v ρ,H)=some (ρ1,H1)from h1)
  obtain⟨a,b⟩:=qDV h
  exact⟨congrArg (·+1) a,b⟩
theorem qEN{α β:Type}:∀{l:List α}{m:List β},l.length=m.length->(l.zip m).reverse=l.reverse.zip m.reverse
 |[],[],_=>rfl
 |a::l,b::m,h=>by
  have h':l.length=m.length:=Nat.succ.inj h
  rw[List.zip_cons_cons,List.reverse_cons,qEN h',List.reverse_cons,List.reverse_cons,qB7 (by rw[List.length_reverse,List.length_reverse];exact h')]
noncomputable def qAO(env:PySem.Env)(line:Nat):Expr->Option Str
 |.Name id pos=>if env.kindOf id==some .local&&pos.line==line then some id else none
 |_=>none
theorem qFO{ts vs:List Expr}{k k':Nat}{p p':Pos}:swappedStores [.Tuple ts k p] (.Tuple vs k' p') env =
  (if(!(ts.length==2 || ts.length==3) || vs.length != ts.length || env.blockKind != .function)=true then pure none
   else if(vs.any qAq)=true then pure none
   else if((ts.filterMap (qAO env ((ts.head?.map (·.pos.line)).getD 0))).length != ts.length || (ts.filterMap (qAO env ((ts.head?.map (·.pos.line)).getD 0))).eraseDups.length != (ts.filterMap (qAO env ((ts.head?.map (·.pos.line)).getD 0))).length)=true then pure none
   else if(vs.all (foldedForSure 8))=true then pure none
   else if(vs.all (constantsAlone 8))=true then(do unsupported "assign.tuple-of-constant-expressions:order-of-the-stores";pure (some (ts.filterMap (qAO env ((ts.head?.map (·.pos.line)).getD 0)))))
   else pure (some (ts.filterMap (qAO env ((ts.head?.map (·.pos.line)).getD 0))))):=by
 rfl
inductive Swapped (env:PySem.Env) (t e:Expr):Prop
 |mk (ts:List Expr) (k:Nat) (p:Pos) (line:Nat) (z:t=.Tuple ts k p) (s:swappedStores [t] e env=pure (some (ts.filterMap (qAO env line)))) (h3:ts.length<=3) (hl:(ts.filterMap (qAO env line)).length=ts.length)
  (hd:(ts.filterMap (qAO env line)).eraseDups.length=(ts.filterMap (qAO env line)).length)
theorem sp1:(pure none:Sem (Option (List Str)))=pure none:=rfl
theorem sp0{t e:Expr}(h:swappedStores [t] e env=pure none):swappedStores [t] e env=pure none\/Swapped env t e:=.inl h
theorem qFw{t e:Expr}{ct:CT}(hc:cmpT X sc t=some ct)(hp:qD0 t e=true):swappedStores [t] e env=pure none\/Swapped env t e:=by
 delta env sc t e ct at hc hp
 rcases t_is hc with⟨ts,k,p,cts,rfl,y,hl⟩|hc
 .clear hc y hl
  delta ts k p at hp
  induction e using Expr.casesOn with
  |Tuple vs k' p' =>
   delta vs k' p' at hp
   have hca:¬vs.all (constantsAlone 8)=true:=by
    have:(!vs.all (constantsAlone 8))=true:=hp
    intro q;rw[q]at this;exact nomatch this
   rw[qFO]
   generalize hline:(ts.head?.map (·.pos.line)).getD 0=line
   by_cases h1:(!(ts.length==2 || ts.length==3) || vs.length != ts.length || env.blockKind != .function)=true
   .left;rw[if_pos h1]
   .by_cases h2:(vs.any qAq)=true
    .left;rw[if_neg h1,if_pos h2]
    .by_cases h3:((ts.filterMap (qAO env line)).length != ts.length || (ts.filterMap (qAO env line)).eraseDups.length != (ts.filterMap (qAO env line)).length)=true
     .left;rw[if_neg h1,if_neg h2,if_pos h3]
     .by_cases h4:vs.all (foldedForSure 8)=true
      .left;rw[if_neg h1,if_neg h2,if_neg h3,if_pos h4]
      .right
       have h3':=not_or.mp (fun q=>h3 (Bool.or_eq_true_iff.mpr q))
       refine⟨ts,k,p,line,rfl,?_,?_,Decidable.not_not.mp fun q=>h3'.1 (bne_iff_ne.mpr q),Decidable.not_not.mp fun q=>h3'.2 (bne_iff_ne.mpr q)⟩
       .rw [qFO,hline,if_neg h1,if_neg h2,if_neg h3,if_neg h4,if_neg hca]
       .cases h5:(ts.length==2 || ts.length==3)with
        |false=>rw[h5]at h1;exact absurd rfl h1
        |true =>
         rcases Bool.or_eq_true_iff.mp h5 with h5|h5<;>rw[beq_iff_eq.mp h5]<;>decide
  |_=>exact sp0 sp1
 .rcases t1_is hc with⟨o,x,p,c,a,rfl,_⟩|⟨o,i,p,c,d,rfl,_⟩|hc
  .exact sp0 sp1
  .exact sp0 sp1
  .obtain ⟨x,p,k,rfl,_⟩:=qAL hc
   exact sp0 sp1
theorem qE2:∀{n:Nat}{l:List Str},l.length<=n->l.eraseDups.length<=l.length
 |_,[],_=>Nat.le_refl _
 |n+1,a::r,h=>by
  rw[List.eraseDups_cons,List.length_cons]
  have h1:(r.filter fun b=>!b==a).length<=r.length:=List.length_filter_le _ _
  exact Nat.succ_le_succ (Nat.le_trans (qE2 (n:=n) (Nat.le_trans h1 (Nat.le_of_succ_le_succ h))) h1)
theorem qFV:∀{l:List Str},l.eraseDups.length=l.length->l.Nodup
 |[],_=>List.nodup_nil
 |a::r,e=>by
  rw[List.eraseDups_cons,List.length_cons,List.length_cons]at e
  have e:=Nat.succ.inj e
  have h1:(r.filter fun b=>!b==a).length<=r.length:=List.length_filter_le _ _
  have h2:=qE2 (l:=r.filter fun b=>!b==a) (Nat.le_refl _)
  have h4:=List.filter_eq_self.mpr (List.length_filter_eq_length_iff.mp (Nat.le_antisymm h1 (e▸h2)))
  rw[h4]at e
  refine List.nodup_cons.mpr ⟨fun m=>?_,qFV e⟩
  have:=List.filter_eq_self.mp h4 a m
  rw[beq_self_eq_true]at this
  exact nomatch this
noncomputable def PkAt(env:PySem.Env)(x:Str)(t:Expr):Prop:=∃p,t=.Name x p/\env.kindOf x=some .local
theorem qKV{line:Nat}{t:Expr}{x:Str}(h:qAO env line t=some x):PkAt env x t:=by
 delta env line t x at h
 induction t using Expr.casesOn with
 |Name id p =>
  obtain⟨hk,h⟩:=qA9 h
  obtain rfl:=Option.some.inj h
  exact⟨p,rfl,beq_iff_eq.mp (Bool.and_eq_true_iff.mp hk).1⟩
 |_=>exact qA2 h
inductive Picked (X:CX) (sc:Scope) (ns:List Str) (cts:List CT):Prop
 |mk (ks:List Nat) (e1:cts=ks.map .name) (e2:ns.map (nid X.names)=ks.map some) (e3:∀x∈ns,qAE sc x=some .local)
theorem qNS{line:Nat}(O:EnvOk env sc):∀{ts:List Expr}{cts:List CT},(ts.filterMap (qAO env line)).length=ts.length->listM (cmpT1 X sc) ts=some cts->Picked X sc (ts.filterMap (qAO env line)) cts
 |[],cts,_,hc=>by cases hc;exact⟨[],rfl,rfl,fun _ q=>nomatch q⟩
 |t::ts,cts,hl,hc=>by
  obtain⟨ct,h1,hc⟩:=qA0 hc
  obtain⟨cts',h2,rfl⟩:=qA3 hc
  cases hp:qAO env line t with
  |none =>
   rw[List.filterMap_cons_none hp]at hl
   exact absurd (hl▸List.length_filterMap_le (qAO env line) ts) (Nat.not_succ_le_self _)
  |some x =>
   rw[List.filterMap_cons_some hp]at hl ⊢
   obtain⟨ks,e1,e2,e3⟩:=qNS O (Nat.succ.inj hl) h2
   obtain⟨p,rfl,hx⟩:=qKV hp
   obtain⟨x',p',k,q,rfl,hkk,hn⟩:=qAL (show qBF X sc (.Name x p)=some ct from h1)
   cases q
   refine⟨k::ks,by rw[e1];rfl,congr (congrArg List.cons hn) e2,fun z hz=>?_⟩
   rcases List.mem_cons.mp hz with rfl|hz
   .exact hkk.resolve_right fun hkk=>nomatch (O.cel _ hkk).symm.trans hx
   .exact e3 z hz
theorem VRs.reverse{h:Heap}:∀{l:List AV}{vs:List Value},VRs X ψ φ h vs l->VRs X ψ φ h vs.reverse l.reverse
 |[],_,r=>by cases r;exact .nil
 |_::_,_,r=>by
  obtain⟨v,ws,rfl,r,q⟩:=r
  rw[List.reverse_cons,List.reverse_cons]
  exact q.reverse.append (.cons r .nil)
theorem qLs(G:GW X base)(V:PV X P)(R:Room d A)(O:EnvOk env sc)(hfr:∀a∈fr,a∈ψ)(he:∀(n:Nat) (sc:Scope) (e:Expr) (ce:CE),cmpE X n sc e=some ce->∀m,Snd X prog w base d (evE P cf m) e ce sc)
 {t value:Expr}{ct:CT}{y:Value}(hp:qD0 t value=true)(hc:cmpT X sc t=some ct)(h:qE8 P (evE P cf 40) ct v ρ H=some (ρ',H'))(T:StoreOk fr s.heap env sc)(F:FR X ψ φ s.heap env sc ρ)(S:SR X prog w base ψ φ H s.heap)(ry:VR X ψ φ s.heap y v) :
  wpAny (model prog w) A (swappedStores [t] value env >>= fun sw=>assignStores env y sw ((assignEach [t] env).map (·.2))) (fun fl s'=>fl=.next/\OutA X prog w base fr ψ φ s env sc ρ' H' s') NoE s:=by
 delta A fr ψ φ H H' s d v env sc ρ ρ' cf t value ct y at G V R O hfr he hp hc h T F S ry
 have hone:=qJg (env:=env) hc
 rcases qFw (env:=env) hc hp with e|⟨ts,k,p,line,rfl,e,hl,hnl,hdup⟩
 .rw [e]
  refine wpAny_bind (wpAny_pure ?_)
  rw[hone]
  show wpAny _ A (do assign t env y;pure Flow.next) _ _ _
  exact wpAny_bind (qA1 (qHU G V R O hfr he hc h T F S ry) fun _ s1 q=>wpAny_pure ⟨rfl,q⟩)
 .delta ts k p line at hl hnl hdup hp hc hone e
  delta ts k p line at hl hnl hdup hp hc hone e
  rw[e]
  refine wpAny_bind (wpAny_pure ?_)
  (injection (qA3 hc)with cts;rintro⟨hcl,rfl⟩)
  obtain⟨ks,rfl,e2,e3⟩:=qNS (line:=line) O hnl hcl
  delta ks at e2 hcl h hc
  generalize ts.filterMap (qAO env line)=names at e2 e3 hdup
  show wpAny _ A (do rule "assign.swapped-stores";let items <-unpackItems y names.length none;assignInOrder (names.reverse.map fun n=>bindName env n) items.reverse;pure Flow.next) _ _ _
  refine wpAny_bind (wpAny_rule (wpAny_bind ?_))
  (injection (qA0 h)with l;rintro⟨hv,h⟩)
  rw[qAv hv]at ry
  obtain⟨hkl,hr⟩:=qDV h
  have hnk:names.length=ks.length:=by have:=congrArg List.length e2;rwa [List.length_map,List.length_map]at this
  have ndN:=qFV hdup
  have ndK:ks.Nodup:=by
   have:(ks.map some).Nodup:=by
    rw[<-e2,List.Nodup,List.pairwise_map]
    refine List.Pairwise.imp_of_mem (fun{a b} ha hb hab z=>hab ?_) ndN
    obtain⟨k,_,hk⟩:=List.mem_map.mp (show nid X.names a∈ks.map some from e2▸List.mem_map_of_mem ha)
    exact qGB hk.symm (hk.symm▸z.symm)
   exact(List.pairwise_map.mp this).imp fun h e=>h (congrArg some e)
  obtain⟨a,items,n,rfl,e1,n1,m1,k1,r1⟩:=ry
  have IT:IsTup s.heap a items:=⟨_,e1,rfl,_,rfl⟩
  have hsz:items.size=names.length:=by rw[qAT r1,hnk,hkl]
  rw[<-hsz]
  refine unpackItems_tuple R.handled IT fun h' hb=>?_
  have kp:∀b o,s.heap.get? b=some o->h'.get? b=some o:=fun b o e=>hb b o (Nat.ne_of_lt (Heap.lt_size e)) e
  have p1:=Post.grown (s:=s) (tk:=s.toks) S kp
  refine wpAny_bind (qA1 (qCD (ns:=names.reverse) (ks:=ks.reverse) (s:={ s with heap:=h' }) O hfr (by simp[hsz]) (by rw[List.map_reverse,e2,List.map_reverse]) (fun x hx=>e3 x (List.mem_reverse.mp hx)) (T.keep fun a _ o e=>kp a o e) (FRs.post F S p1) p1.sr (r1.grow0 p1.grow).reverse) fun _ s2 q=>wpAny_pure ⟨rfl,?_⟩)
  obtain⟨φ2,p2,F2,T2⟩:=q.step hfr p1.up
  rw[(Prod.mk.inj hr).2]
  refine⟨φ2,p2,F2.ext ?_,T2⟩
  intros k
  have hz1:((ks.zip l).map (·.1)).Nodup:=by rw[List.map_fst_zip (Nat.le_of_eq hkl)];exact ndK
  rw[(Prod.mk.inj hr).1,<-qEN hkl,qCj (by rw[List.map_reverse];exact List.pairwise_reverse.mpr (List.Pairwise.imp (fun h=>Ne.symm h) hz1)),qCj hz1,qJF hz1]
end
end
section
noncomputable def FlR(X:CX)(ψ φ:List Addr)(h:Heap):Fl->Flow->Prop
 |.next,f=>f=.next
 |.ret v,f=>∃x,f=.ret x/\VR X ψ φ h x v
theorem FlR.next{ψ φ h}:FlR X ψ φ h .next .next:=rfl
theorem FlR.ret{ψ φ h}{v:AV}{x:Value}(r:VR X ψ φ h x v):FlR X ψ φ h (.ret v) (.ret x):=⟨x,rfl,r⟩
section
variable{A:Around}{fr pv ψ ψ' φ φ' φ9:List Addr}{H H' H₁ H9 H0:AHeap}{s s8:Shared}{d:Nat}{v:AV}{E:Value->Shared->Prop}{env:PySem.Env}{sc:Scope}{ρ ρ':Rho}{cf:qAb}{m:Nat}{ok:Str->Prop}
noncomputable def OutS(X:CX)(prog:Program)(w:World)(base:Heap)(fr ψ φ:List Addr)(s:Shared)(env:PySem.Env)(sc:Scope)(f:Fl)(ρ':Rho)(H':AHeap)(fl:Flow)(s':Shared):Prop :=
 ∃φ',Post X prog w base fr ψ φ φ' H' s s'/\FR X ψ φ' s'.heap env sc ρ'/\StoreOk fr s'.heap env sc/\FlR X ψ φ' s'.heap f fl
theorem OutS.step{f:Fl}{fl:Flow}{s':Shared}(hfr:∀a∈fr,a∈ψ)(p:Post X prog w base fr ψ φ φ9 H₁ s s8)(o:OutS X prog w base fr ψ φ9 s8 env sc f ρ' H' fl s'):OutS X prog w base fr ψ φ s env sc f ρ' H' fl s' :=
 let⟨φ',q,r⟩:=o;⟨φ',p.transF q hfr,r⟩
inductive Swaps (env:PySem.Env) (value t:Expr) (line:Nat):Prop
 |mk (x:Str) (p:Pos) (z:t=.Name x p) (hk:env.kindOf x=some .local) (e:swapsWith value (some t) line env=pure true) (hc:∃a b c d,value=.ListComp a b c d)
theorem sw1:(pure false:Sem Bool)=pure false:=rfl
theorem sw0{t:Expr}{line:Nat}{value:Expr}(h:swapsWith value (some t) line env=pure false):swapsWith value (some t) line env=pure false\/Swaps env value t line:=.inl h
theorem qHd{sc:Scope}{ce:CE}{n:Nat}{value t:Expr}{line:Nat}(hs:cmpE X (n+1) sc value=some ce):swapsWith value (some t) line env=pure false\/Swaps env value t line:=by
 delta env sc ce n value t line at hs
 induction value using Expr.casesOn with
 |ListComp a b c d =>
  clear hs
  revert a b c d;intros a b c d
  induction t using Expr.casesOn with
  |Name x p =>
   revert x p;intros x p
   cases hb:(env.blockKind==.function&&env.kindOf x==some .local&&p.line==d.line&&!(c.names.any fun(n,k)=>n==x&&(k==.local || k==.cell)))with
   |false=>exact sw0 (congrArg pure hb)
   |true=>exact .inr ⟨x,p,rfl,beq_iff_eq.mp (Bool.and_eq_true_iff.mp (Bool.and_eq_true_iff.mp (Bool.and_eq_true_iff.mp hb).1).1).2,congrArg pure hb,a,b,c,d,rfl⟩
  |_=>exact sw0 sw1
 |SetComp=>exact qA2 hs
 |DictComp=>exact qA2 hs
 |_=>exact sw0 sw1
theorem qHG{t value:Expr}{pos:Pos}:exec (.Assign [t] value pos) env=(do
  standAt pos
  if <-swapsWith value (some t) pos.line env then do
   evalThenUse value env fun v=>assignAll v ((assignEach [t] env).map (·.2))
   pure .next
  else do
   let v <-eval value env
   assignStores env v (<-swappedStores [t] value env) ((assignEach [t] env).map (·.2))):=rfl
inductive CompParts (X:CX) (P:Prog) (prog:Program) (w:World) (base:Heap) (d:Nat) (cf:qAb) (sc:Scope) (value:Expr) (ce:CE):Prop
 |mk (elt:Expr) (inner:Scope) (pos:Pos) (t it e:Expr) (ifs:List Expr) (en:Bool) (celt:CE) (ct:CT) (ci:CE) (cifs:List CE) (z:value=.ListComp elt [⟨t,it,ifs,0⟩] inner pos) (y:ce=.comp (X.isTrk pos) en celt ct ci cifs) (K:CompOk X sc inner t) (hct:qAf X inner t=some ct)
  (ht:en=true->∃es k p,t=.Tuple es k p) (hns:∀a b c,it≠.Set a b c) (hsrc:if en then qCl X sc it=some e else e=it) (hi:∀m,Snd X prog w base d (evE P cf m) e ci sc) (hel:∀m,Snd X prog w base d (evE P cf m) elt celt inner)
  (hf:∀m,listM₂ (fun e ce=>Snd X prog w base d (evE P cf m) e ce inner) ifs cifs)
theorem qJY(he:∀(n:Nat) (sc:Scope) (e:Expr) (ce:CE),cmpE X n sc e=some ce->∀m,Snd X prog w base d (evE P cf m) e ce sc){n:Nat}{value:Expr}{ce:CE}(hc:∃a b c d,value=.ListComp a b c d)(h:cmpE X (n+1) sc value=some ce):CompParts X P prog w base d cf sc value ce:=by
 delta d sc cf n value ce at he hc h
 (injection (hc)with elt gens inner pos;rintro rfl)
 (injection (qA0 h)with g;rintro⟨hg,h⟩)
 obtain⟨hk,h⟩:=qA9 h
 have hk:=Bool.and_eq_true_iff.mp hk
 (injection (qA0 h)with ct;rintro⟨h1,h⟩)
 obtain⟨ht,h⟩:=qA9 h
 (injection (qA0 h)with celt;rintro⟨h2,h⟩)
 (injection (qA0 h)with ci;rintro⟨h3,h⟩)
 (injection (qA3 h)with cifs;rintro⟨h4,h⟩)
 have hz:gens=[⟨g.target,g.iter,g.ifs,0⟩]:=by
  rw[qBI hg]
  obtain⟨t,it,ifs,z⟩:=g
  rw[show z=0 from of_decide_eq_true hk.2]
 refine⟨elt,inner,pos,g.target,g.iter,_,g.ifs,_,celt,ct,ci,cifs,by rw[hz],h.symm,qCB hk.1,h1,fun q=>qFf h1 ?_,qCX h3,qDp,fun m=>he _ _ _ _ h3 m,fun m=>he _ _ _ _ h2 m,fun m=>qBC (fun e ce q=>he _ _ e ce q m) h4⟩
 rw[q]at ht
 exact ht
end
end
section
section
variable{A:Around}{fr pv ψ ψ' φ φ' φ9:List Addr}{H H' H₁ H9 H0:AHeap}{s s8:Shared}{d:Nat}{v:AV}{E:Value->Shared->Prop}{env:PySem.Env}{sc:Scope}{ρ ρ':Rho}{cf:qAb}{m:Nat}{ok:Str->Prop}
abbrev HE(X:CX)(P:Prog)(prog:Program)(w:World)(base:Heap)(d:Nat)(cf:qAb):Prop:=∀(n:Nat) (sc:Scope) (e:Expr) (ce:CE),cmpE X n sc e=some ce->∀m,Snd X prog w base d (evE P cf m) e ce sc
theorem FRs.left{h h':Heap}{C:Addr}(F:FRs ok X (C::ψ) φ h env sc ρ)(hL:env.locals∈ψ)(hC:C ∉ ψ)(hn:∃m,h.Ns C m)(kp:∀b o,b ∉ [C]->h.get? b=some o->h'.get? b=some o):FRs ok X ψ φ h' env sc ρ:=by
 have hpv:∀a∈[C],a∈C::ψ:=fun a ha=>by rw[List.mem_singleton.mp ha];exact .head _
 intro x k v o a b c
 obtain⟨y,p,q⟩:=F x k v o a b c
 refine⟨y,?_,q.left kp hpv fun a q=>.tail _ q⟩
 cases p with
 |@«local» m a b c d =>
  obtain⟨o,es,ep,e,r⟩:=c
  exact .local a hL ⟨o,es,ep,kp _ o (fun z=>hC (List.mem_singleton.mp z▸hL)) e,r⟩ d
 |@cell cc a b c d =>
  have hcc:cc≠C:=fun z=>by
   subst z
   obtain⟨m,hm⟩:=hn
   exact qEe hm d
  have hm:cc∈ψ:=(List.mem_cons.mp c).resolve_left hcc
  obtain⟨o,e,r⟩:=d
  exact .cell a b hm ⟨o,kp _ o (by simpa using hcc) e,r⟩
theorem qI3(G:GW X base)(R:Room d A)(O:EnvOk env sc)(hfr:∀a∈fr,a∈ψ)(he:HE X P prog w base d cf){x:Str}{p:Pos}{k:Nat}{value:Expr}{ce:CE}(hk:qAE sc x=some .local\/qAE sc x=some .cell)(hn:nid X.names x=some k)
 (hcomp:∃a b c d,value=.ListComp a b c d)(hc:cmpE X 40 sc value=some ce)(h1:evE P cf 40 ce ρ H=some (v,H'))(T:StoreOk fr s.heap env sc)(F:FR X ψ φ s.heap env sc ρ)(S:SR X prog w base ψ φ H s.heap) :
  wpAny (model prog w) A (evalThenUse value env fun v=>assignAll v ((assignEach [.Name x p] env).map (·.2))) (fun _ s'=>OutA X prog w base fr ψ φ s env sc (upd k v ρ) H' s') NoE s:=by
 delta A fr ψ φ H H' s d v env sc ρ cf x p k value ce at G R O hfr he hk hn hcomp hc h1 T F S
 obtain⟨elt,inner,cpos,t,it,e,ifs,en,celt,ct,ci,cifs,rfl,rfl,K,hct,ht,hns,hsrc,hi,hel,hf⟩:=qJY he hcomp hc
 delta elt inner cpos t it e ifs en celt ct ci cifs at K hct ht hns hsrc hi hel hf hcomp h1 hc
 (injection (qA4 (show bnd (evE P cf 39 ci ρ H) (fun x H=>bnd (iterE en H x) fun xs src=>bnd (compLoop (evE P cf 39) celt ct cifs H src xs ρ H) fun vs H=>some (qAC (X.isTrk cpos) vs H))=some (v,H')from h1))with xv H1;rintro⟨h2,h1'⟩)
 (injection (qA4 h1')with xs src;rintro⟨h3,h1'⟩)
 (injection (qA4 h1')with vs H3;rintro⟨h4,h1'⟩)
 have e1:(qAC (X.isTrk cpos) vs H3).1=v:=congrArg Prod.fst (Option.some.inj h1')
 have e2:(qAC (X.isTrk cpos) vs H3).2=H':=congrArg Prod.snd (Option.some.inj h1')
 clear h1 h1'
 subst e1 e2
 show wpAny _ A (do let _ <-comprehension (.ListComp elt [⟨t,it,ifs,0⟩] inner cpos) inner env _ (newList []) false (eval it env) (some (assign (.Name x p) env))) _ _ s
 refine wpAny_bind (qA1 (qIo (Q:=fun _ s'=>OutA X prog w base fr ψ φ s env sc (upd k (qAC (X.isTrk cpos) vs H3).1 ρ) (qAC (X.isTrk cpos) vs H3).2 s') (use:=some (assign (.Name x p) env)) (en:=en) (xs:=xs) (src:=src) (H₁:=H1) (X.isTrk cpos) G R O K hct ht (hel 39).1 (listM₂_snd (hf 39)) hns F S ?_ h4
  ?_) fun _ s' q=>wpAny_pure q)
 .cases en with
  |true=>exact qGi G R O hsrc (hi 39).1 F S h2 h3
  |false =>
   have:e=it:=hsrc
   subst this
   exact qDY R O (hi 39).1 F S h2 h3
 .intros D C s' φ';intro hCψ hCs hsame g sr r ns hl
  show wpAny _ A (assign (.Name x p) env (.ref D)) _ _ _
  have hfrC:C ∉ fr:=fun q=>hCψ (hfr C q)
  have F1:FR X (C::ψ) φ' s'.heap env sc ρ:=F.shift S g (by
   intros a;intro ha
   rcases List.mem_cons.mp ha with rfl|ha
   .exact .inr hCs
   .exact .inl ha) fun a ha=>.tail _ ha
  have T1:StoreOk fr s'.heap env sc:=T.keep (by intros a;intro ha;intros o;intro e;exact g.kept a o e (fun m=>(S.fresh a m).2.2 (hfr a ha)) (fun q=>nomatch q))
  refine wpAny_assign_Name (qA1 (qB8 (E:=NoE) O T1 (fun a ha=>.tail _ (hfr a ha)) hk hn F1 sr r) ?_)
  intro _;intros s2;intro q
  (injection (ns)with m0;try clear ns;intro hm0)
  have hm2:s2.heap.Ns C m0:=by
   (injection (hm0)with o es ep;try clear hm0;rintro⟨e,rr⟩)
   exact⟨o,es,ep,q.kept C o hfrC e,rr⟩
  refine⟨m0,hm2,?_⟩
  intros h';intro hs
  have kp:∀b o,b ∉ [C]->s2.heap.get? b=some o->h'.get? b=some o:=fun b o nb e=>(hs.2 b (by simpa using nb)).trans e
  have hpv:∀a∈[C],a∈C::ψ:=fun a ha=>by rw[List.mem_singleton.mp ha];exact .head _
  have sr':=q.post.sr.left (ψ':=ψ) kp hpv (fun a q=>.tail _ q) fun a ha q=>hCψ (by rw[List.mem_singleton.mp q]at ha;exact ha)
  refine⟨φ',⟨by rw[q.post.same,hsame],⟨g.pre,g.new,fun b o e n nb=>kp b o (fun z=>?_) (q.kept b o nb (g.kept b o e n (fun z=>qA5 z)))⟩,sr'⟩,?_,q.st.keep (by intros a;intro ha;intros o;intro e;exact kp a o (fun z=>hfrC (by rw[List.mem_singleton.mp z]at ha;exact ha)) e)⟩
  .rw [List.mem_singleton.mp z,hCs]at e;cases e
  .have F2:FR X (C::ψ) φ' s2.heap env sc (upd k (qAC (X.isTrk cpos) vs H3).1 ρ):=fun z k v _=>q.vars z k v (.inl trivial)
   exact F2.left (hfr _ T.loc) hCψ ⟨m0,hm2⟩ kp
theorem qNE(G:GW X base)(V:PV X P)(R:Room d A)(O:EnvOk env sc)(hfr:∀a∈fr,a∈ψ)(he:HE X P prog w base d cf){t value:Expr}{pos:Pos}{ct:CT}{ce:CE}(hp:qD0 t value=true)(hct:cmpT X sc t=some ct)(hc:cmpE X 40 sc value=some ce)
 (h1:evE P cf 40 ce ρ H=some (v,H₁))(h2:qE8 P (evE P cf 40) ct v ρ H₁=some (ρ',H'))(T:StoreOk fr s.heap env sc)(F:FR X ψ φ s.heap env sc ρ)(S:SR X prog w base ψ φ H s.heap) :
  wpAny (model prog w) A (exec (.Assign [t] value pos) env) (OutS X prog w base fr ψ φ s env sc .next ρ' H') NoE s:=by
 revert G V R O hfr he hp hct hc h1 h2 T F S
 revert A fr ψ φ H H' H₁ s d v env sc ρ ρ' cf t value pos ct ce
 intros A fr ψ φ H H' H₁ s d v
 intros env sc ρ ρ' cf t value pos ct ce
 intro G V R O hfr he hp hct hc h1 h2 T F S
 rw[qHG]
 refine wpAny_bind (wpAny_standAt ?_)
 rcases qHd (env:=env) (t:=t) (line:=pos.line) hc with e|⟨x,p,rfl,hk,e,hcomp⟩
 .rw [e]
  refine wpAny_bind (wpAny_pure ?_)
  rw[if_neg Bool.false_ne_true]
  refine wpAny_bind (qA1 ((he _ _ _ _ hc 40).1 R O F S h1) ?_)
  intros y s1;intro q
  (injection (q)with φ1;try clear q;rintro⟨p1,r1⟩)
  refine qA1 (qLs G V R O hfr he hp hct h2 (T.post S hfr p1) (FRs.post F S p1) p1.sr r1) ?_
  intros fl s2;intro q
  obtain⟨rfl,q⟩:=q
  (injection (q.step hfr p1.up)with φ2;rintro⟨p2,F2,T2⟩)
  exact⟨φ2,p2,F2,T2,.next⟩
 .delta x p at hk hp hct e
  rw[e]
  refine wpAny_bind (wpAny_pure ?_)
  rw[if_pos rfl]
  have hct':qBF X sc (.Name x p)=some ct:=hct
  obtain⟨x',p',k,q,rfl,hkk,hn⟩:=qAL hct'
  cases q
  rw[<-(qA6 (show some (upd k v ρ,H₁)=some (ρ',H')from h2)).1,<-(qA6 (show some (upd k v ρ,H₁)=some (ρ',H')from h2)).2]
  refine wpAny_bind (qA1 (qI3 G R O hfr he hkk hn hcomp hc h1 T F S) fun _ s1 q=>wpAny_pure ?_)
  obtain⟨φ2,p2,F2,T2⟩:=q
  exact⟨φ2,p2,F2,T2,.next⟩
end
end
section
section
variable{A:Around}{fr pv ψ ψ' φ φ' φ9:List Addr}{H H' H₁ H9 H0:AHeap}{s s8:Shared}{d:Nat}{v:AV}{E:Value->Shared->Prop}{env:PySem.Env}{sc:Scope}{ρ ρ':Rho}{cf:qAb}{m:Nat}{ok:Str->Prop}{f:Fl}{I:Addr}{src:Option Nat}{xs:List AV}{en:Bool}
noncomputable def SndS(X:CX)(prog:Program)(w:World)(base:Heap)(d:Nat)(es:CS->Rho->AHeap->StRes)(c:Stmt)(cs:CS)(sc:Scope):Prop :=
 ∀{A:Around}{env:PySem.Env}{ρ ρ':Rho}{fr ψ φ:List Addr}{H H':AHeap}{s:Shared}{f:Fl},Room d A->EnvOk env sc->(∀a∈fr,a∈ψ)->StoreOk fr s.heap env sc->FR X ψ φ s.heap env sc ρ->SR X prog w base ψ φ H s.heap->es cs ρ H=some (f,ρ',H') ->
  wpAny (model prog w) A (exec c env) (OutS X prog w base fr ψ φ s env sc f ρ' H') NoE s
theorem qAy{es:CS->Rho->AHeap->StRes}(R:Room d A)(O:EnvOk env sc)(hfr:∀a∈fr,a∈ψ):∀{l:List Stmt}{cs:List CS}{ρ ρ':Rho}{φ:List Addr}{H H':AHeap}{s:Shared}{f:Fl},listM₂ (fun c cs=>SndS X prog w base d es c cs sc) l cs->StoreOk fr s.heap env sc ->
  FR X ψ φ s.heap env sc ρ->SR X prog w base ψ φ H s.heap->evSs es cs ρ H=some (f,ρ',H')->wpAny (model prog w) A (execs l env) (OutS X prog w base fr ψ φ s env sc f ρ' H') NoE s
 |[],[],ρ,ρ',φ,H,H',s,f,_,T,F,S,e=>by
  cases e
  exact wpAny_execs_nil ⟨φ,(Post.refl S).up,F,T,.next⟩
 |c::l,cc::cs,ρ,ρ',φ,H,H',s,f,hp,T,F,S,e=>by
  obtain⟨f1,ρ1,H1,h1,e⟩:=qBt e
  refine wpAny_execs_cons (qA1 (hp.1 R O hfr T F S h1) fun fl s1 q=>?_)
  obtain⟨φ1,p1,F1,T1,fl1⟩:=q
  cases f1 with
  |next=>cases fl1;exact qA1 (qAy R O hfr hp.2 T1 F1 p1.sr e) fun fl s2 q=>q.step hfr p1
  |ret v =>
   obtain⟨x,rfl,r⟩:=fl1
   cases e
   exact⟨φ1,p1,F1,T1,.ret r⟩
 |[],_::_,_,_,_,_,_,_,_,hp,_,_,_,_=>hp.elim
 |_::_,[],_,_,_,_,_,_,_,hp,_,_,_,_=>hp.elim
theorem FRs.drop{h h':Heap}(F:FRs ok X (pv++ψ) φ h env sc ρ)(hL:env.locals∈ψ)(hd:∀a∈ψ,a ∉ pv)(hf:∀a∈pv,∃o vs,h.get? a=some o/\o.data=.fields vs)(kp:∀b o,b ∉ pv->h.get? b=some o->h'.get? b=some o):FRs ok X ψ φ h' env sc ρ:=by
 intro x k v o a b c
 obtain⟨y,p,q⟩:=F x k v o a b c
 refine⟨y,?_,q.left kp (fun a ha=>List.mem_append_left _ ha) fun a ha=>List.mem_append_right _ ha⟩
 cases p with
 |@«local» m a b c d =>
  obtain⟨o,es,ep,e,r⟩:=c
  exact .local a hL ⟨o,es,ep,kp _ o (hd _ hL) e,r⟩ d
 |@cell cc a b c d =>
  have hn:cc ∉ pv:=fun q=>by
   obtain⟨o,vs,e1,e2⟩:=hf _ q
   obtain⟨o',e3,e4⟩:=d
   rw[e1]at e3;cases e3;rw[e2]at e4;cases e4
  have hm:cc∈ψ:=(List.mem_append.mp c).resolve_left hn
  obtain⟨o,e,r⟩:=d
  exact .cell a b hm ⟨o,kp _ o hn e,r⟩
theorem qN0{body:List Stmt}{cb:List CS}{t:Expr}{ct:CT}{es:CS->Rho->AHeap->StRes}{s0:Shared}{φ0:List Addr}(R:Room d A)(O:EnvOk env sc)(hfr:∀a∈fr,a∈ψ)(hct:qAf X sc t=some ct)(ht:en=true->∃es k p,t=.Tuple es k p)
 (hb:listM₂ (fun c cs=>SndS X prog w base d es c cs sc) body cb)(hd:∀a∈ψ,a ∉ pv)(hfresh:∀a∈pv,s0.heap.get? a=none)(hsame:s={ s0 with heap:=s.heap,toks:=s.toks,drawn:=s.drawn })(g0:Grow [] φ0 φ s0.heap s.heap)
 (S:SR X prog w base (pv++ψ) φ H s.heap)(it:ItR X (pv++ψ) φ s.heap H I pv en src xs)(T:StoreOk fr s.heap env sc)(F:FR X (pv++ψ) φ s.heap env sc ρ)(e:forLoop (evSs es cb) ct H src xs ρ H=some (f,ρ',H')) :
  codeAny (model prog w) A (.forLoop t (.ref I) body [] env) (fun r s'=>match r with|.ok fl=>OutS X prog w base fr ψ φ0 s0 env sc f ρ' H' fl s'|.error e=>cameBackBy (model prog w) A env NoE e s') s:=by
 revert R O hfr hct ht hb hd hfresh hsame g0 S it T F e
 revert A fr pv ψ φ H H' s d env sc ρ ρ' f I src xs en body cb t ct es s0 φ0
 intros A fr pv ψ φ H H' s d env sc ρ
 intros ρ' f I src xs en body cb t ct es s0 φ0
 intro R O hfr hct ht hb hd hfresh hsame g0 S it T F e
 have inP:∀a∈pv,a∈pv++ψ:=fun a ha=>List.mem_append_left _ ha
 have inF:∀a∈fr,a∈pv++ψ:=fun a ha=>List.mem_append_right _ (hfr a ha)
 have inA:∀a∈pv++fr,a∈pv++ψ:=by
  intros a;intro ha
  rcases List.mem_append.mp ha with q|q
  .exact inP a q
  .exact inF a q
 have hpf:∀a∈fr,a ∉ pv:=fun a ha=>hd a (hfr a ha)
 have leave:∀{φ2:List Addr}{H2:AHeap}{s2 s3:Shared},Post X prog w base (pv++fr) (pv++ψ) φ φ2 H2 s s2->s3={ s2 with heap:=s3.heap }->(∀b o,b ∉ pv->s2.heap.get? b=some o->s3.heap.get? b=some o)->Post X prog w base fr ψ φ0 φ2 H2 s0 s3:=by
  (intros φ2 H2 s2 s3;intro p h3 kp)
  have sr:=p.sr.left (ψ':=ψ) kp inP (fun a q=>List.mem_append_right _ q) hd
  have g1:Grow (pv++fr) φ0 φ2 s0.heap s2.heap:=(g0.more fun _ q=>qA5 q).trans p.grow fun a ha m=>absurd (inA a ha) (p.sr.fresh a m).2.2
  refine⟨by rw[h3,p.same,hsame],⟨g1.pre,g1.new,?_⟩,sr⟩
  intros b o;intro e n nb
  have hnp:b ∉ pv:=fun q=>by rw[hfresh b q]at e;cases e
  exact kp b o hnp (g1.kept b o e n fun q=>by
   rcases List.mem_append.mp q with q|q
   .exact hnp q
   .exact nb q)
 have key:=codeAny_forLoop_any (prog:=prog) (w:=w) (A:=A) (target:=t) (it:=.ref I) (body:=body) (orelse:=[]) (env:=env)
  (R:=fun r s'=>match r with|.ok fl=>OutS X prog w base fr ψ φ0 s0 env sc f ρ' H' fl s'|.error e=>cameBackBy (model prog w) A env NoE e s')
  (fun n s'=>∃(ys:List AV) (ρ1:Rho) (H1:AHeap) (φ1:List Addr),n=ys.length/\Post X prog w base (pv++fr) (pv++ψ) φ φ1 H1 s s'/\ItR X (pv++ψ) φ1 s'.heap H I pv en src ys/\StoreOk fr s'.heap env sc/\FR X (pv++ψ) φ1 s'.heap env sc ρ1 /\
   forLoop (evSs es cb) ct H src ys ρ1 H1=some (f,ρ',H')) ?_ xs.length ⟨xs,ρ,H,φ,rfl,(Post.refl S).up,it,T,F,e⟩
 .exact key
 ·(intros n s';intro H_;injection H_ with ys ρ1 H1 φ1;clear H_;rintro⟨rfl,p1,it1,T1,F1,e1⟩)
  cases ys with
  |nil =>
   obtain⟨hst,e1⟩:=qA9 e1
   refine wpAny_mono (qNc R.handled p1.sr it1 hst) (?_) fun _ _ h=>h
   intros r s2;intro q
   obtain⟨rfl,h2,kp⟩:=q
   cases e1
   exact wpAny_execs_nil ⟨φ1,leave p1 h2 kp,F1.drop (hfr _ T1.loc) hd it1.fields kp,T1.keep fun a ha o e=>kp a o (hpf a ha) e,.next⟩
  |cons x ys =>
   delta x ys at it1 e1
   obtain⟨hst,e1⟩:=qA9 e1
   (injection (qA0 e1)with ρ2;rintro⟨h1,e1⟩)
   (injection (qBt e1)with f3 ρ3 H3;rintro⟨h3,e1⟩)
   refine wpAny_mono (qL7 p1.sr inP it1 hst ht) (?_) fun _ _ h=>h
   intros r s2;intro q
   (injection (q)with y;try clear q;rintro⟨rfl,q⟩)
   refine wpAny_mono q (?_) fun _ _ h=>h
   intro _;intros s3;intro q
   obtain⟨ry,p3,it3⟩:=q
   have T3:StoreOk fr s3.heap env sc:=T1.keep (by intros a;intro ha;intros o;intro e;exact p3.grow.kept a o e (fun m=>(p1.sr.fresh a m).2.2 (inF a ha)) (hpf a ha))
   have F3:=F1.iter p3.grow inP p1.sr it1.fields
   refine wpAny_mono (qDT (E:=_) O inF R.handled hct h1 T3 F3 p3.sr ry) (?_) fun _ _ h=>h
   intro _;intros s4;intro q4
   have F4:FR X (pv++ψ) φ1 s4.heap env sc ρ2:=fun z k u _=>q4.vars z k u (.inl trivial)
   refine wpAny_mono (qAy R O inF hb q4.st F4 q4.post.sr h3) (?_) fun _ _ e=>e.elim
   intros fl s5;intro q5
   (injection (q5)with φ5;try clear q5;rintro⟨p5,F5,T5,fl5⟩)
   have pL:∀a∈pv,a∈pv++fr:=fun a ha=>List.mem_append_left _ ha
   have pR:∀a∈fr,a∈pv++fr:=fun a ha=>List.mem_append_right _ ha
   have p15:Post X prog w base (pv++fr) (pv++ψ) φ φ5 H3 s s5:=((p1.transF (p3.wide pL) inA).transF (q4.post.wide pR) inA).transF (p5.wide pR) inA
   have it4:=it3.grow q4.post.grow inF fun a ha o e=>q4.kept a o (fun q=>hpf a q ha) e
   have it5:=it4.grow p5.grow inF (by intros a;intro ha;intros o;intro e;exact p5.grow.kept a o e (fun m=>(q4.post.sr.fresh a m).2.2 (inP a ha)) fun q=>hpf a q ha)
   cases f3 with
   |next =>
    cases fl5
    exact⟨ys.length,Nat.lt_succ_self _,ys,ρ3,H3,φ5,rfl,p15,it5,T5,F5,e1⟩
   |ret v =>
    delta v at h3 e1 fl5
    (injection (fl5)with x;try clear fl5;rintro⟨rfl,r⟩)
    cases e1
    exact⟨φ5,leave (s3:=s5) p15 rfl fun _ _ _ e=>e,F5.drop (hfr _ T5.loc) hd it5.fields fun _ _ _ e=>e,T5,.ret (r.left (pv:=pv) (fun _ _ _ e=>e) inP fun a ha=>List.mem_append_right _ ha)⟩
theorem qIx{body:List Stmt}{cb:List CS}{t:Expr}{ct:CE}{es:CS->Rho->AHeap->StRes}{ev:EvFn}(R:Room d A)(O:EnvOk env sc)(hfr:∀a∈fr,a∈ψ)(ht:SndT X prog w base d ev t ct sc)
 (hb:listM₂ (fun c cs=>SndS X prog w base d es c cs sc) body cb){k:Nat}(S:SR X prog w base ψ φ H s.heap)(T:StoreOk fr s.heap env sc)(F:FR X ψ φ s.heap env sc ρ)(e:whileLoop (ev ct) (evSs es cb) k ρ H=some (f,ρ',H')) :
  codeAny (model prog w) A (.whileLoop t body [] env) (fun r s'=>match r with|.ok fl=>OutS X prog w base fr ψ φ s env sc f ρ' H' fl s'|.error e=>cameBackBy (model prog w) A env NoE e s') s:=by
 revert R O hfr ht hb S T F e
 revert A fr ψ φ H H' s d env sc ρ ρ' f body cb t ct es ev k
 intros A fr ψ φ H H' s d env sc
 intros ρ ρ' f body cb t ct es ev k
 intro R O hfr ht hb S T F e
 have key:=codeAny_whileLoop (prog:=prog) (w:=w) (A:=A) (test:=t) (body:=body) (orelse:=[]) (env:=env)
  (R:=fun r s'=>match r with|.ok fl=>OutS X prog w base fr ψ φ s env sc f ρ' H' fl s'|.error e=>cameBackBy (model prog w) A env NoE e s')
  (fun n s'=>∃(ρ1:Rho) (H1:AHeap) (φ1:List Addr),Post X prog w base fr ψ φ φ1 H1 s s'/\StoreOk fr s'.heap env sc/\FR X ψ φ1 s'.heap env sc ρ1/\whileLoop (ev ct) (evSs es cb) n ρ1 H1=some (f,ρ',H')) ?_ k ⟨ρ,H,φ,(Post.refl S).up,T,F,e⟩
 .exact key
 ·(intros n s';intro H_;injection H_ with ρ1 H1 φ1;clear H_;rintro⟨p1,T1,F1,e1⟩)
  cases n with
  |zero=>exact qA2 e1
  |succ n =>
   delta n at e1
   (injection (qA4 e1)with v H2;rintro⟨h2,e1⟩)
   (injection (qA0 e1)with b;rintro⟨hb1,e1⟩)
   refine wpAny_mono (ht R O F1 p1.sr h2 hb1) (?_) fun _ _ e=>e.elim
   intros c s2;intro q
   (obtain⟨rfl,H_⟩:=q;injection H_ with φ2;clear H_;intro p2)
   have F2:=FRs.post F1 p1.sr p2
   have T2:=T1.post p1.sr hfr p2
   cases c with
   |true =>
    rw[if_pos rfl]at e1 ⊢
    (injection (qBt e1)with f3 ρ3 H3;rintro⟨h3,e1⟩)
    refine wpAny_mono (qAy R O hfr hb T2 F2 p2.sr h3) (?_) fun _ _ e=>e.elim
    intros fl s5;intro q5
    (injection (q5)with φ5;try clear q5;rintro⟨p5,F5,T5,fl5⟩)
    have p15:=(p1.transF p2.up hfr).transF p5 hfr
    cases f3 with
    |next=>cases fl5;exact⟨n,Nat.lt_succ_self _,ρ3,H3,φ5,p15,T5,F5,e1⟩
    |ret v =>
     delta v at h3 e1 fl5
     (injection (fl5)with x;try clear fl5;rintro⟨rfl,r⟩)
     cases e1
     exact⟨φ5,p15,F5,T5,.ret r⟩
   |false =>
    rw[if_neg Bool.false_ne_true]at e1 ⊢
    cases e1
    exact wpAny_execs_nil ⟨φ2,p1.transF p2.up hfr,F2,T2,.next⟩
theorem qMh{e:Expr}{line:Nat}(h:qNd e=false):swapsWith e none line env=pure false:=by
 delta env e line at h
 induction e using Expr.casesOn with
 |ListComp|SetComp|DictComp=>cases h
 |_=>exact sw1
theorem qP1(R:Room d A)(O:EnvOk env sc)(hfr:∀a∈fr,a∈ψ){es:CS->Rho->AHeap->StRes}{ev:EvFn}{t it:Expr}{body:List Stmt}{p:Pos}{ct:CT}{ci:CE}{cb:List CS}(hi:SndE X prog w base d ev it ci sc)(hct:qAf X sc t=some ct)(hns:∀a b c,it≠.Set a b c)
 (hb:listM₂ (fun c cs=>SndS X prog w base d es c cs sc) body cb)(T:StoreOk fr s.heap env sc)(F:FR X ψ φ s.heap env sc ρ)(S:SR X prog w base ψ φ H s.heap)(h4:ev ci ρ H=some (v,H₁))(h5:iterE false H₁ v=some (xs,src))(e:forLoop (evSs es cb) ct H₁ src xs ρ H₁=some (f,ρ',H')) :
  wpAny (model prog w) A (exec (.For t it body [] p) env) (OutS X prog w base fr ψ φ s env sc f ρ' H') NoE s:=by
 refine wpAny_For (qA1 (qDY R O hi F S h4 h5) fun x s1 q=>qA1 q fun it s2 q=>?_) (qKe hns)
 obtain⟨φ1,s1',I,pv,p1,M,hlen⟩:=q
 have hd:∀a∈ψ,a ∉ pv:=fun a ha q=>by obtain⟨o,e⟩:=p1.sr.stand a ha;exact qA2 ((M.fresh a q).symm.trans e)
 rw[M.it]
 have g0:Grow [] φ φ1 s.heap s2.heap:=p1.grow.trans0 (Grow.of_keep M.keep)
 have hfresh:∀a∈pv,s.heap.get? a=none:=fun a ha=>by
  cases q:s.heap.get? a with
  |none=>rfl
  |some o =>
   have hm:a ∉ φ:=fun m=>by
    obtain⟨o',e⟩:=p1.sr.there (List.IsPrefix.subset p1.grow.pre m)
    exact qA2 ((M.fresh a ha).symm.trans e)
   exact qA2 ((M.fresh a ha).symm.trans (p1.grow.kept a o q hm (fun z=>qA5 z)))
 have F2:FR X (pv++ψ) φ1 s2.heap env sc ρ:=(FRs.post F S p1).shift p1.sr (Grow.of_keep M.keep) (fun a ha=>by
  rcases List.mem_append.mp ha with q|q
  .exact .inr (M.fresh a q)
  .exact .inl q) fun a ha=>List.mem_append_right _ ha
 exact qN0 (en:=false) R O hfr hct (fun q=>absurd q Bool.false_ne_true) hb hd hfresh (by rw[M.same,p1.same]) g0 (M.sr p1.sr) M.rel ((T.post S hfr p1).keep fun a _ o e=>M.keep a o e) F2 e
theorem qLM(G:GW X base)(V:PV X P)(he:HE X P prog w base d cf):∀(n:Nat) (sc:Scope) (c:Stmt) (cs:CS),cmpS X n sc c=some cs->∀m,SndS X prog w base d (evS P cf m) c cs sc:=by
 delta d cf at G V he
 intros n
 induction n with
 |zero=>(intros sc c cs;intro h);exact qA2 h
 |succ n ih =>
  delta n at ih
  (intros sc c cs;intro h;intros m)
  cases m with
  |zero=>(intros A env ρ ρ' fr ψ φ H H' s f;intro _ _ _ _ _ _ e);exact qA2 e
  |succ m =>
  revert m;intros m
  have all:∀{l:List Stmt}{cs:List CS},listM (cmpS X n sc) l=some cs->listM₂ (fun c cs=>SndS X prog w base d (evS P cf m) c cs sc) l cs:=fun h=>qBC (P:=fun c cs=>SndS X prog w base d (evS P cf m) c cs sc) (fun c cs q=>@ih sc c cs q m) h
  (intros A env ρ ρ' fr ψ φ H H' s f;intro R O hfr T F S e)
  induction c using Stmt.casesOn with
  |Return o p =>
   delta o p at h
   cases o with
   |none =>
    obtain rfl:=Option.some.inj h
    cases e
    exact wpAny_Return_none ⟨φ,(Post.refl S).up,F,T,.ret .none⟩
   |some x =>
    delta x at h
    (injection (qA3 h)with ce;rintro⟨h1,rfl⟩)
    (injection (qA4 e)with v H1;rintro⟨h2,e⟩)
    cases e
    refine wpAny_Return_some (qA1 ((he _ _ _ _ h1 40).1 R O F S h2) ?_)
    intros x s1;intro q
    (injection (q)with φ1;try clear q;rintro⟨p1,r1⟩)
    exact⟨φ1,p1.up,FRs.post F S p1,T.post S hfr p1,.ret r1⟩
  |Expr x p =>
   delta x p at h
   obtain⟨hnc,h⟩:=qA9 h
   (injection (qA3 h)with ce;rintro⟨h1,rfl⟩)
   (injection (qA4 e)with v H1;rintro⟨h2,e⟩)
   cases e
   refine wpAny_Expr_any (qA1 ((he _ _ _ _ h1 40).1 R O F S h2) ?_) (by unfold interactive;rw[O.kind];rfl) (qMh ((Bool.not_eq_true' _).mp hnc))
   intros x s1;intro q
   (injection (q)with φ1;try clear q;rintro⟨p1,r1⟩)
   exact⟨φ1,p1.up,FRs.post F S p1,T.post S hfr p1,.next⟩
  |Assign ts x p =>
   delta ts x p at h
   (injection (qA0 h)with t;rintro⟨ht,h⟩)
   obtain⟨hp,h⟩:=qA9 h
   (injection (qA0 h)with ct;rintro⟨h1,h⟩)
   (injection (qA3 h)with ce;rintro⟨h2,rfl⟩)
   (injection (qA4 e)with v H1;rintro⟨h3,e⟩)
   (injection (qA4 e)with ρ1 H2;rintro⟨h4,e⟩)
   cases e
   rw[qBI ht]
   exact qNE G V R O hfr he hp h1 h2 h3 h4 T F S
  |If t a b p =>
   delta t a b p at h
   (injection (qA0 h)with ct;rintro⟨h1,h⟩)
   (injection (qA0 h)with ca;rintro⟨h2,h⟩)
   (injection (qA3 h)with cb;rintro⟨h3,rfl⟩)
   (injection (qA4 e)with v H1;rintro⟨h4,e⟩)
   (injection (qA0 e)with b;rintro⟨h5,e⟩)
   refine wpAny_If (qA1 ((he _ _ _ _ h1 40).2 R O F S h4 h5) ?_)
   intros c s1;intro q
   (obtain⟨rfl,H_⟩:=q;injection H_ with φ1;clear H_;intro p1)
   have F1:=FRs.post F S p1
   have T1:=T.post S hfr p1
   cases c with
   |true=>rw[if_pos rfl]at e ⊢;exact qA1 (qAy R O hfr (all h2) T1 F1 p1.sr e) fun fl s2 q=>q.step hfr p1.up
   |false=>rw[if_neg Bool.false_ne_true]at e ⊢;exact qA1 (qAy R O hfr (all h3) T1 F1 p1.sr e) fun fl s2 q=>q.step hfr p1.up
  |For t it body orelse p =>
   delta t it body orelse p at h
   obtain⟨ho,h⟩:=qA9 h
   (injection (qA0 h)with ct;rintro⟨h1,h⟩)
   (injection (qA0 h)with ci;rintro⟨h2,h⟩)
   (injection (qA3 h)with cb;rintro⟨h3,rfl⟩)
   (injection (qA4 e)with v H1;rintro⟨h4,e⟩)
   (injection (qA4 e)with xs src;rintro⟨h5,e⟩)
   rw[List.isEmpty_iff.mp ho]
   exact qP1 R O hfr (he _ _ _ _ h2 40).1 h1 (qCo h2) (all h3) T F S h4 h5 e
  |While t body orelse p =>
   delta t body orelse p at h
   obtain⟨ho,h⟩:=qA9 h
   (injection (qA0 h)with ct;rintro⟨h1,h⟩)
   (injection (qA3 h)with cb;rintro⟨h3,rfl⟩)
   rw[List.isEmpty_iff.mp ho]
   exact wpAny_While (qIx R O hfr (he _ _ _ _ h1 40).2 (all h3) S T F e)
  |Raise =>
   obtain rfl:=Option.some.inj h
   exact qA2 e
  |_=>exact qA2 h
end
end
theorem qCI{β:Type}:∀{names:List Str}{vs:List β}{n:Str},names.length=vs.length->n∈names->∃v,(names.zip vs).lookup n=some v
 |[],_,n,_,h=>qA5 h
 |a::names,[],n,e,h=>by simp at e
 |a::names,v::vs,n,e,h=>by
  rw[List.zip_cons_cons,List.lookup_cons]
  cases q:n==a with
  |true=>exact⟨v,rfl⟩
  |false =>
   rcases List.mem_cons.mp h with rfl|h
   .simp at q
   .exact qCI (by simpa using e) h
theorem qC0{β:Type}{n:Str}:∀{names:List Str}{vs:List β},n ∉ names->(names.zip vs).lookup n=none
 |[],_,_=>rfl
 |a::names,[],_=>rfl
 |a::names,v::vs,h=>by
  rw[List.zip_cons_cons,List.lookup_cons]
  simp only[List.mem_cons,not_or]at h
  have:(n==a)=false:=by simpa using h.1
  rw[this];exact qC0 h.2
theorem qIj{α β:Type}{f g:α->Option β}:∀{l:List α},(∀a∈l,f a=g a)->l.filterMap f=l.filterMap g
 |[],_=>rfl
 |a::l,h=>by rw[List.filterMap_cons,List.filterMap_cons,h a (.head _),qIj fun b hb=>h b (.tail _ hb)]
theorem qCr{β:Type}:∀{names:List Str}{vs:List β},names.length=vs.length->names.Nodup->names.filterMap (fun n=>((names.zip vs).lookup n).map fun x=>(n,x))=names.zip vs
 |[],_,_,_=>rfl
 |a::names,[],e,_=>by simp at e
 |a::names,v::vs,e,nd=>by
  rw[List.nodup_cons]at nd
  rw[List.zip_cons_cons,List.filterMap_cons]
  have h1:List.lookup a ((a,v)::names.zip vs)=some v:=by rw[List.lookup_cons,beq_self_eq_true]
  rw[h1]
  simp only[Option.map_some]
  congr 1
  have:names.filterMap (fun n=>(List.lookup n ((a,v)::names.zip vs)).map fun x=>(n,x))=names.filterMap (fun n=>((names.zip vs).lookup n).map fun x=>(n,x)):=by
   apply qIj
   intro n hn
   have:(n==a)=false:=by
    rw[beq_eq_false_iff_ne];rintro rfl;exact nd.1 hn
   rw[List.lookup_cons,this]
  rw[this,qCr (by simpa using e) nd.2]
structure PlainPar (fd:FuncData) (names:List Str):Prop where
 po:fd.params.posonlyargs=[]
 ko:fd.params.kwonlyargs=[]
 va:fd.params.vararg=none
 ka:fd.params.kwarg=none
 ar:fd.params.args.map (·.arg)=names
 nd:names.Nodup
theorem qJU{l:List (Str×Value)}{acc:List (Str×Value)}(h:∀x∈l,∃v,acc.lookup x.1=some v) :
  (forIn l acc fun(x:Str×Value) (s:List (Str×Value))=>if(List.lookup x.fst s).isNone=true then pure (ForInStep.yield (s++[(x.fst,x.snd)]))else pure (ForInStep.yield s))=(pure acc:Sem _):=by
 delta l acc at h
 induction l with
 |nil=>rfl
 |cons x r ih =>
  delta x r at ih h
  rw[List.forIn_cons]
  (injection (h x (.head _))with v;intro e)
  rw[e]
  simp only[Option.isNone_some,Bool.false_eq_true,if_false,pure_bind]
  exact ih fun y hy=>h y (.tail _ hy)
theorem qHQ{fd:FuncData}{vals full:List Value}{names:List Str}{ds:Array Value}{s:Shared}(p:PlainPar fd names)(hl:¬vals.length>names.length)(hf:names.length=full.length)(hds:ds.toList.length<=names.length)
 (hm:∀n∈names.take (names.length-ds.toList.length),∃v,(names.zip vals).lookup n=some v)(hs:(forIn ((names.drop (names.length-ds.toList.length)).zip ds.toList) (names.zip vals) fun(x:Str×Value) (s:List (Str×Value))=>if(List.lookup x.fst s).isNone=true then pure (ForInStep.yield (s++[(x.fst,x.snd)]))else pure (ForInStep.yield s))=(pure (names.zip full):Sem _))
 (hd:∀(M:Model) (A:Around) (E:Value->Shared->Prop) (Q:Option (Array Value)->Shared->Prop),(∀o,o.getD #[]=ds->Q o s)->wpAny M A (seqItems? fd.defaults) Q E s):BindsTo s fd ⟨vals,[]⟩ (names.zip full):=by
 delta fd vals full names ds s at p hl hf hds hm hs hd
 obtain⟨po,ko,va,ka,ar,nd⟩:=p
 obtain⟨nm,qn,⟨qo,qs,qv,qk,qd,qw,qf⟩,bo,sc,gl,cl,de,kd,dc,pm,an,co,ct,bi⟩:=fd
 dsimp only at po ko va ka ar hd
 subst po ko va ka
 delta nm qn qs qd qf bo sc gl cl de kd dc pm an co ct bi at hd ar
 have e0:List.drop (ds.toList.length-names.length) ds.toList=ds.toList:=by rw[Nat.sub_eq_zero_of_le hds];rfl
 have h2:List.filter (fun n=>(List.lookup n (names.zip vals)).isNone) (List.take (names.length-(List.drop (ds.toList.length-names.length) ds.toList).length) names)=[]:=by
  rw[e0,List.filter_eq_nil_iff]
  intro n hn h
  obtain⟨v,e⟩:=hm n hn
  rw[e]at h;exact Bool.false_ne_true h
 have h3:(forIn ((names.drop (names.length-(List.drop (ds.toList.length-names.length) ds.toList).length)).zip (List.drop (ds.toList.length-names.length) ds.toList)) (names.zip vals) fun(x:Str×Value) (s:List (Str×Value))=>if(List.lookup x.fst s).isNone=true then pure (ForInStep.yield (s++[(x.fst,x.snd)]))else pure (ForInStep.yield s))=(pure (names.zip full):Sem _):=by rw[e0];exact hs
 have h4:((names++[]).filterMap fun n=>((names.zip full).lookup n).map fun x=>(n,x))=names.zip full:=by rw[List.append_nil];exact qCr hf nd
 clear hm hs hds hf nd e0
 subst ar
 intro M A E Q hq
 unfold bindArgs
 refine wpAny_bind (wpAny_pure ?_)
 refine wpAny_bind (hd _ _ _ _ fun o ho=>?_)
 subst ho
 refine wpAny_ite_false (decide_eq_false fun h=>hl (of_decide_eq_true (Bool.and_eq_true_iff.mp h).1)) ?_
 refine wpAny_ite_false (decide_eq_false fun h=>Bool.false_ne_true ((congrArg (fun l:List Str=>!l.isEmpty) h2).symm.trans h)) ?_
 refine wpAny_bind (wpAny_of_eq h3 ?_)
 refine wpAny_bind (wpAny_pure ?_)
 refine wpAny_ite_false rfl ?_
 exact wpAny_pure (h4.symm▸hq)
theorem qJd{fd:FuncData}{vals:List Value}{names:List Str}{ds:Array Value}{s:Shared}(p:PlainPar fd names)(hl:vals.length=names.length)(hds:ds.size<=names.length)
 (hd:∀(M:Model) (A:Around) (E:Value->Shared->Prop) (Q:Option (Array Value)->Shared->Prop),(∀o,o.getD #[]=ds->Q o s)->wpAny M A (seqItems? fd.defaults) Q E s):BindsTo s fd ⟨vals,[]⟩ (names.zip vals) :=
 qHQ p (Nat.not_lt.mpr (Nat.le_of_eq hl)) hl.symm hds (fun n hn=>qCI hl.symm (List.mem_of_mem_take hn)) (qJU (by intros x;intro hx;exact qCI hl.symm (List.mem_of_mem_drop (List.of_mem_zip hx).1))) hd
theorem qI8{fd:FuncData}{vals:List Value}{names:List Str}{x:Str}{dv:Value}{s:Shared}(p:PlainPar fd (names++[x]))(hl:vals.length=names.length)
 (hd:∀(M:Model) (A:Around) (E:Value->Shared->Prop) (Q:Option (Array Value)->Shared->Prop),(∀o,o.getD #[]=#[dv]->Q o s)->wpAny M A (seqItems? fd.defaults) Q E s):BindsTo s fd ⟨vals,[]⟩ ((names++[x]).zip (vals++[dv])):=by
 delta fd vals names x dv s at p hl hd
 have hx:x ∉ names:=by
  have:=p.nd
  rw[List.nodup_append]at this
  exact fun m=>this.2.2 x m x (by simp) rfl
 have hz:(names++[x]).zip vals=names.zip vals:=by
  have gen:∀{a:List Str}{b:List Value},b.length=a.length->(a++[x]).zip b=a.zip b:=by
   intros a
   induction a with
   |nil=>(intros b;intro h);rw[List.eq_nil_of_length_eq_zero h];rfl
   |cons y a ih =>
    delta y a at ih
    (intros b;intro h)
    cases b with
    |nil=>simp at h
    |cons z b=>simp[ih (b:=b) (by simpa using h)]
  exact gen hl
 have hfull:(names++[x]).zip (vals++[dv])=names.zip vals++[(x,dv)]:=qB7 hl.symm
 refine qHQ p (by rw[List.length_append,hl];exact Nat.not_lt.mpr (Nat.le_add_right _ _)) (by rw[List.length_append,List.length_append,hl];rfl) (by rw[List.length_append];exact Nat.le_add_left _ _) ?_ ?_ hd
 .intros n;intro hn
  rw[hz]
  rw[show(names++[x]).take ((names++[x]).length-(#[dv]:Array Value).toList.length)=names by simp]at hn
  exact qCI hl.symm hn
 .rw [show(names++[x]).drop ((names++[x]).length-(#[dv]:Array Value).toList.length)=[x]by simp,hz,hfull]
  show(forIn [(x,dv)] (names.zip vals) _:Sem _)=_
  rw[List.forIn_cons,qC0 hx]
  rfl
section
mutual
noncomputable def refsB(n:Nat):AV->Bool
 |.ref i=>decide (i<n)
 |.inst _ i=>decide (i<n)
 |.tup l=>qEX n l
 |.lst l=>qEX n l
 |.sset l=>qEX n l
 |_=>true
noncomputable def qEX(n:Nat):List AV->Bool
 |[]=>true
 |a::r=>refsB n a&&qEX n r
end
section
variable{ψ φ φ':List Addr}
mutual
theorem VR.refs{h:Heap}:∀{a:AV}{v:Value},VR X ψ φ h v a->refsB φ.length a=true
 |.none,_,_|.bool _,_,_|.int _,_,_|.str _,_,_|.rng _ _,_,_=>rfl
 |.tup l,_,r=>by obtain⟨_,_,_,_,_,_,_,_,r⟩:=r;exact VRs.refs (l:=l) r
 |.lst l,_,r=>by obtain⟨_,_,_,_,_,_,_,_,r⟩:=r;exact VRs.refs (l:=l) r
 |.ref i,_,r=>by obtain⟨_,_,e⟩:=r;exact decide_eq_true (List.getElem?_eq_some_iff.mp e).1
 |.inst _ i,_,r=>by obtain⟨_,_,_,_,_,_,_,_,e⟩:=r;exact decide_eq_true (List.getElem?_eq_some_iff.mp e).1
 |.sset l,_,r=>by obtain⟨_,_,_,_,_,_,_,_,_,_,_,_,_,_,_,_,_,r⟩:=r;exact VRs.refs (l:=l) r
theorem VRs.refs{h:Heap}:∀{l:List AV}{vs:List Value},VRs X ψ φ h vs l->qEX φ.length l=true
 |[],_,_=>rfl
 |a::l,_,r=>by obtain⟨_,_,_,r,q⟩:=r;exact Bool.and_eq_true_iff.mpr ⟨VR.refs (a:=a) r,VRs.refs (l:=l) q⟩
end
mutual
theorem qFQ(n:Nat):∀{a:AV},a.plain=true->refsB n a=true
 |.none,_|.bool _,_|.int _,_|.str _,_|.rng _ _,_=>rfl
 |.tup l,h=>qBl n (l:=l) h
 |.lst l,h=>qBl n (l:=l) h
 |.ref _,h|.inst _ _,h|.sset _,h=>nomatch h
theorem qBl(n:Nat):∀{l:List AV},qAk l=true->qEX n l=true
 |[],_=>rfl
 |a::r,h=>Bool.and_eq_true_iff.mpr ⟨qFQ n (Bool.and_eq_true_iff.mp h).1,qBl n (Bool.and_eq_true_iff.mp h).2⟩
end
theorem qIS(hp:φ <+: φ'){i:Nat}{a:Addr}(q:decide (i<φ.length)=true)(e:φ'[i]?=some a):φ[i]?=some a:=by
 obtain⟨t,rfl⟩:=hp
 rwa [List.getElem?_append_left (of_decide_eq_true q)]at e
mutual
theorem VR.shrink{h:Heap}(hp:φ <+: φ'):∀{a:AV}{v:Value},VR X ψ φ' h v a->refsB φ.length a=true->VR X ψ φ h v a
 |.none,_,r,_|.bool _,_,r,_|.int _,_,r,_|.str _,_,r,_=>r
 |.tup l,_,r,q=>by obtain⟨a,vs,n,z,e,p,m,k,r⟩:=r;exact⟨a,vs,n,z,e,fun z=>p (hp.subset z),m,k,VRs.shrink hp (l:=l) r q⟩
 |.lst l,_,r,q=>by obtain⟨a,vs,n,z,e,p,m,k,r⟩:=r;exact⟨a,vs,n,z,e,fun z=>p (hp.subset z),m,k,VRs.shrink hp (l:=l) r q⟩
 |.ref i,_,r,q=>by obtain⟨a,z,e⟩:=r;exact⟨a,z,qIS hp q e⟩
 |.inst c i,_,r,q=>by obtain⟨a,C,dx,z,e,p,m,k,d⟩:=r;exact⟨a,C,dx,z,e,fun z=>p (hp.subset z),m,k,qIS hp q d⟩
 |.rng _ _,_,r,_=>by obtain⟨a,t,u,v,z,e,p,m,k,y⟩:=r;exact⟨a,t,u,v,z,e,fun z=>p (hp.subset z),m,k,y⟩
 |.sset l,_,r,q=>by obtain⟨a,o,es,ep,t,vs,z,e,p,m,a1,a2,a3,a4,a5,a6,a7,r⟩:=r;exact⟨a,o,es,ep,t,vs,z,e,fun z=>p (hp.subset z),m,a1,a2,a3,a4,a5,a6,a7,VRs.shrink hp (l:=l) r q⟩
theorem VRs.shrink{h:Heap}(hp:φ <+: φ'):∀{l:List AV}{vs:List Value},VRs X ψ φ' h vs l->qEX φ.length l=true->VRs X ψ φ h vs l
 |[],_,r,_=>r
 |a::l,_,r,q=>by
  obtain⟨v,ws,z,r,s⟩:=r
  have q:=Bool.and_eq_true_iff.mp q
  exact⟨v,ws,z,VR.shrink hp r q.1,VRs.shrink hp s q.2⟩
end
theorem qFz{α β:Type}:∀{a:List α}{b:List β},a.length=b.length->(a.zip b).map (·.2)=b
 |[],[],_=>rfl
 |[],_::_,h=>nomatch h
 |_::_,[],h=>nomatch h
 |a::l,b::m,h=>congrArg (List.cons b) (qFz (Nat.succ.inj h))
theorem qJh{α:Type}{ks ks₀:List α}{l l7:List AV}(h:ks.length=l.length)(h₀:ks₀.length=l7.length)(e:ks.zip l=ks₀.zip l7):l=l7:=by
 rw[<-qFz h,e,qFz h₀]
theorem ObjR.shrink{h h₀:Heap}{a a8:Addr}{o:AObj}(hp:φ <+: φ')(x₀:ObjR X prog w ψ φ h₀ a8 o)(x:ObjR X prog w ψ φ' h a o):ObjR X prog w ψ φ h a o:=by
 delta ψ φ φ' h h₀ a a8 o at hp x₀ x
 cases o with
 |list l =>
  delta l at x₀ x
  obtain⟨vs,n,p,q,r⟩:=x
  obtain⟨_,_,_,_,r7⟩:=x₀
  exact⟨vs,n,p,q,r.shrink hp r7.refs⟩
 |dictI kvs =>
  delta kvs at x₀ x
  obtain⟨ks,vs,l,z,p,q,s,r⟩:=x
  obtain⟨ks₀,vs₀,l7,z7,_,q7,_,r7⟩:=x₀
  have e:=qJh (q.trans r.length) (q7.trans r7.length) (z.symm.trans z7)
  exact⟨ks,vs,l,z,p,q,s,r.shrink hp (e▸r7.refs)⟩
 |dictS kvs =>
  delta kvs at x₀ x
  obtain⟨ks,ss,vs,l,z,p,q,s,t,r⟩:=x
  obtain⟨ks₀,ss₀,vs₀,l7,z7,_,q7,s7,_,r7⟩:=x₀
  have len:∀{ks:List Nat}{ss:List Str},ks.map (X.names[·]?)=ss.map some->ks.length=ss.length:=fun q=>by have:=congrArg List.length q;rwa [List.length_map,List.length_map]at this
  have e:=qJh ((len q).trans (s.trans r.length)) ((len q7).trans (s7.trans r7.length)) (z.symm.trans z7)
  exact⟨ks,ss,vs,l,z,p,q,s,t,r.shrink hp (e▸r7.refs)⟩
 |ns fs =>
  delta fs at x₀ x
  obtain⟨es,n,p,q,z,k⟩:=x
  obtain⟨_,_,_,_,_,k7⟩:=x₀
  refine⟨es,n,p,q,z,fun i y hy=>?_⟩
  have h1:=k i y hy
  have h0:=k7 i y hy
  cases hv:fs.lookup i with
  |none=>rw[hv]at h1;exact h1
  |some v =>
   rw[hv]at h1 h0
   obtain⟨u,a,b⟩:=h1
   obtain⟨u₀,a8,b7⟩:=h0
   exact⟨u,a,b.shrink hp b7.refs⟩
theorem SR.shrink{H:AHeap}{H':AHeap}{h h₀:Heap}(hp:φ <+: φ')(S8:SR X prog w base ψ φ H h₀)(S:SR X prog w base ψ φ' H' h)(e:H'.take H.length=H):SR X prog w base ψ φ H h:=by
 refine⟨S.keep,S8.len,S8.nodup,fun a m=>S.fresh a (hp.subset m),S.priv,S.stand,fun i a o e1 e2=>?_⟩
 refine(S8.obj i a o e1 e2).shrink hp (S.obj i a o (qBx hp e1) ?_)
 rw[<-e2,<-e,List.getElem?_take]
 rw[if_pos (List.getElem?_eq_some_iff.mp e2).1]
end
theorem qHR{kof:Str->Option NameKind}{x:Str}:∀{binds:List (Str×Value)}{m:Str->Option Value},x ∉ binds.map (·.1)->bindL kof binds m x=m x
 |[],_,_=>rfl
 |(n,v)::r,m,h=>by
  have h:=not_or.mp fun q=>h (List.mem_cons.mpr q)
  unfold bindL
  rw[qHR h.2]
  by_cases q:kof n=some .local
  .rw [if_pos q];exact if_neg h.1
  .rw [if_neg q]
theorem qHS{kof:Str->Option NameKind}{x:Str}:∀{binds:List (Str×Value)}{m:Str->Option Value},x ∉ binds.map (·.1)->bindC kof binds m x=m x
 |[],_,_=>rfl
 |(n,v)::r,m,h=>by
  have h:=not_or.mp fun q=>h (List.mem_cons.mpr q)
  unfold bindC
  rw[qHS h.2]
  by_cases q:kof n=some .local
  .rw [if_pos q]
  .rw [if_neg q];exact if_neg h.1
theorem qIs{kof:Str->Option NameKind}{x:Str}{y:Value}(hk:kof x=some .local):∀{binds:List (Str×Value)}{m:Str->Option Value},(binds.map (·.1)).Nodup->(x,y)∈binds->bindL kof binds m x=some y
 |p::r,m,nd,h=>by
  have nd:=List.nodup_cons.mp nd
  unfold bindL
  rcases List.mem_cons.mp h with q|q
  .rw [<-q]at nd ⊢
   rw[qHR nd.1,if_pos hk];exact if_pos rfl
  .exact qIs hk nd.2 q
theorem qIt{kof:Str->Option NameKind}{x:Str}{y:Value}(hk:kof x≠some .local):∀{binds:List (Str×Value)}{m:Str->Option Value},(binds.map (·.1)).Nodup->(x,y)∈binds->bindC kof binds m x=some y
 |p::r,m,nd,h=>by
  have nd:=List.nodup_cons.mp nd
  unfold bindC
  rcases List.mem_cons.mp h with q|q
  .rw [<-q]at nd ⊢
   rw[qHS nd.1,if_neg hk];exact if_pos rfl
  .exact qIt hk nd.2 q
end
section
structure FnOk (X:CX) (a:Nat) (fn:FnC):Prop where
 obj:∃(oc:Value) (od:Option Addr) (fd:FuncData) (sl:Array (Option Value)) (body:List Stmt) (names:List Str),X.K.lookup a=some ⟨oc,od,.func fd,sl⟩/\fd.body=.stmts body/\listM (cmpS X 20 fd.scope) body=some fn.body/\PlainPar fd names /\
  names.map (nid X.names)=fn.params.map some/\fd.closure=[]/\fd.globals=mainGlobals/\fd.builtins=builtinsNs/\fd.scope.isCoroutine=false/\fd.scope.isGenerator=false/\fd.scope.kind=.function/\codeIn X.K fd.code fd.qualname=true /\
  (∀n∈names,qAE fd.scope n=some .local\/qAE fd.scope n=some .cell)/\(∀x∈fd.scope.names,x.2≠.free) /\
  ((fn.dflt=false/\fd.defaults=.none)\/(fn.dflt=true/\∃T o n,fd.defaults=.ref T/\X.K.lookup T=some o/\o.data=.seq #[.none] n/\names≠[]))
structure FV (X:CX) (P:Prog):Prop where
 fn:∀f fn a,P.fns.lookup f=some fn->X.fns[f]?=some a->FnOk X a fn
section
variable{A:Around}{fr pv ψ ψ' φ φ' φ9:List Addr}{H H' H₁ H9 H0:AHeap}{s s8:Shared}{d:Nat}{v:AV}{sc:Scope}{ρ ρ':Rho}{cf:qAb}{m:Nat}
theorem qFB:∀{ks:List Nat}{df:Bool}{as:List AV}{ρ:Rho},bindP ks df as=some ρ->(as.length=ks.length/\ρ=ks.zip as)\/(df=true/\∃pre x,ks=pre++[x]/\as.length=pre.length/\ρ=ks.zip (as++[.none]))
 |[],df,[],ρ,h=>.inl ⟨rfl,(Option.some.inj h).symm⟩
 |[],df,_::_,ρ,h=>qA2 h
 |k::ks,df,[],ρ,h=>by
  obtain⟨hd,h⟩:=qA9 (show(if df&&ks.isEmpty then some [(k,AV.none)]else none)=some ρ from h)
  have hd:=Bool.and_eq_true_iff.mp hd
  rw[List.isEmpty_iff.mp hd.2]
  exact .inr ⟨hd.1,[],k,rfl,rfl,(Option.some.inj h).symm⟩
 |k::ks,df,v::as,ρ,h=>by
  obtain⟨r,h1,h2⟩:=qA3 (qJe.symm.trans h)
  rw[<-h2]
  rcases qFB h1 with⟨a,b⟩|⟨a,pre,x,b,c,e⟩
  .exact .inl ⟨congrArg (·+1) a,congrArg (List.cons (k,v)) b⟩
  .exact .inr ⟨a,k::pre,x,congrArg (List.cons k) b,congrArg (·+1) c,congrArg (List.cons (k,v)) e⟩
theorem qNB{fd:FuncData}{names:List Str}{fn:FnC}{xs:List Value}{as:List AV}(KX:X.K.In s.heap)(p:PlainPar fd names)(hn:names.map (nid X.names)=fn.params.map some)
 (hd:(fn.dflt=false/\fd.defaults=.none)\/(fn.dflt=true/\∃T o n,fd.defaults=.ref T/\X.K.lookup T=some o/\o.data=.seq #[.none] n/\names≠[]))(r:VRs X ψ φ s.heap xs as)(e:bindP fn.params fn.dflt as=some ρ) :
  ∃(ys:List Value) (bs:List AV),BindsTo s fd ⟨xs,[]⟩ (names.zip ys)/\ρ=fn.params.zip bs/\VRs X ψ φ s.heap ys bs/\names.length=ys.length:=by
 delta ψ φ s ρ fd names fn xs as at KX p hn hd r e
 have hk:names.length=fn.params.length:=by have:=congrArg List.length hn;rwa [List.length_map,List.length_map]at this
 have sq:∃ds:Array Value,ds.size<=1/\(fn.dflt=true->ds=#[.none])/\(names=[]->ds=#[])/\∀(M:Model) (A:Around) (E:Value->Shared->Prop) (Q:Option (Array Value)->Shared->Prop),(∀o,o.getD #[]=ds->Q o s)->wpAny M A (seqItems? fd.defaults) Q E s:=by
  rcases hd with⟨h1,h2⟩|⟨h1,T,o,n,h2,h3,h4,h5⟩
  .exact ⟨#[],by simp,fun q=>absurd (h1.symm.trans q) Bool.false_ne_true,fun _=>rfl,fun M A E Q q=>by rw[h2];exact wpAny_pure (q none rfl)⟩
  .delta T o n at h2 h3 h4
   exact⟨#[.none],by simp,fun _=>rfl,fun q=>absurd q h5,fun M A E Q q=>by rw[h2];exact wpAny_seqItems (KX _ _ h3) h4 (q _ rfl)⟩
 (injection (sq)with ds;rintro⟨hds,hdt,hd0,hsq⟩)
 rcases qFB e with⟨a,b⟩|⟨a,pre,x,b,c,g⟩
 .have hl:xs.length=names.length:=by rw[r.length,a,hk]
  have hdl:ds.size<=names.length:=by
   cases names with
   |nil=>rw[hd0 rfl];simp
   |cons=>exact Nat.le_trans hds (Nat.succ_le_succ (Nat.zero_le _))
  exact⟨xs,as,qJd p hl hdl hsq,b,r,hl.symm⟩
 .delta pre x at b c
  (have H_:∃npre nx,names=npre++[nx]:=(by
   have:names≠[]:=fun q=>by rw[q,b]at hk;simp at hk
   exact⟨names.dropLast,names.getLast this,(List.dropLast_concat_getLast this).symm⟩);injection H_ with npre nx;clear H_;intro hnn)
  have hl:xs.length=npre.length:=by
   rw[r.length,c]
   rw[hnn,b]at hk;simp at hk;exact hk.symm
  subst hnn
  refine⟨xs++[.none],as++[.none],qI8 p hl (by rw[<-hdt a];exact hsq),g,r.append (.cons .none .nil),by simp[hl]⟩
theorem qNK{h:Heap}{x:Str}{k:Nat}{v:AV}:∀{names:List Str}{ks:List Nat}{bs:List AV}{ys:List Value},names.map (nid X.names)=ks.map some->VRs X ψ φ h ys bs->nid X.names x=some k->(ks.zip bs).lookup k=some v->∃y,(x,y)∈names.zip ys/\VR X ψ φ h y v
 |[],[],_,_,_,_,_,e=>qA2 e
 |[],_::_,_,_,hn,_,_,_=>nomatch hn
 |_::_,[],_,_,hn,_,_,_=>nomatch hn
 |_::_,_::_,[],_,_,_,_,e=>qA2 e
 |n::names,k0::ks,v0::bs,_,hn,r,hx,e=>by
  obtain⟨y0,ys,rfl,ry,rs⟩:=r
  have hn:=List.cons.inj hn
  rw[List.zip_cons_cons,qAU]at e
  by_cases q:k0=k
  .rw [if_pos q]at e
   rw[qGB hx (hn.1.trans (congrArg some q))]
   exact⟨y0,.head _,Option.some.inj e▸ry⟩
  .rw [if_neg q]at e
   obtain⟨y,a,b⟩:=qNK hn.2 rs hx e
   exact⟨y,.tail _ a,b⟩
noncomputable def qAr(env:PySem.Env):List Addr:=env.locals::(env.cells.filter fun p=>env.cells.lookup p.1==some p.2).map (·.2)
theorem qFr(G:GW X base)(V:PV X P)(C:SndCF X prog w base d cf)(B:SndBi X prog w base d){fn:FnC}{a:Nat}{xs:List Value}{as:List AV}(hfn:FnOk X a fn)(R:RoomC (d+1) A)(S:SR X prog w base ψ φ H s.heap)(r:VRs X ψ φ s.heap xs as)
 {ρ ρ2:Rho}{fl:Fl}{H1:AHeap}(h1:bindP fn.params fn.dflt as=some ρ)(h2:evSs (evS P cf 20) fn.body ρ H=some (fl,ρ2,H1)) :
  codeAny (model prog w) A (.call (.ref a) ⟨xs,[]⟩) (fun r s'=>match r with
   |.ok (.ret x)=>∃φ2,s'={ s with heap:=s'.heap,toks:=s'.toks,drawn:=s'.drawn }/\Grow [] φ φ2 s.heap s'.heap/\SR X prog w base ψ φ2 H1 s'.heap/\VR X ψ φ2 s'.heap x (flVal fl)
   |_=>False) s:=by
 delta A ψ φ H s d cf fn a xs as ρ ρ2 fl H1 at G V C B hfn R S r h1 h2
 (injection (hfn.obj)with oc od fd sl body;intro H_;injection H_ with names;clear H_;rintro⟨hK,hbody,hcb,hpar,hnames,hclo,hglob,hbuil,hco,hgen,hkind,hcode,hloc,hfree,hdflt⟩)
 have KX:=KS G S
 (injection (qNB KX hpar hnames hdflt r h1)with ys bs;rintro⟨hbinds,rfl,ry,hyl⟩)
 have hdep:=R.depth
 refine codeAny_call_function (Nat.lt_of_le_of_lt (Nat.le_trans (Nat.le_add_right _ _) (Nat.le_add_right _ 1)) hdep) (KX _ _ hK) rfl hco hgen hbody (codeRec_of KX hcode) (hbinds _ _ _ _ ?_)
 have hcells:∀(n:Nat) (x:Str),qAE fd.scope x=some .cell->((cellsFrom n fd.scope.names []).lookup x).isSome=true:=fun n x hx=>cellsFrom_some _ _ _ (.inl hx)
 rw[hclo]
 refine wpAny_newFunctionEnv_cells hkind (fun x hx=>?_) fun env he s' IC=>?_
 .have hm:=(List.of_mem_zip (show(x.1,x.2)∈names.zip ys from hx)).1
  rcases hloc x.1 hm with q|q
  .exact .inl q
  .exact .inr ⟨q,hcells _ _ q⟩
 have hscope:env.scope=fd.scope:=by rw[he];rfl
 have hkof:∀x,env.kindOf x=qAE fd.scope x:=fun x=>by rw[he];rfl
 have hL:env.locals=s.heap.objs.size:=by rw[he];rfl
 have keep:=IC.toInCall.keep
 refine⟨(G.nolim.keeps fun b o e=>keep b o (S.keep b o e)),codeAny_func ?_⟩
 have O:EnvOk env fd.scope:=by
  refine⟨by rw[hscope,hkind],by rw[he];exact hglob,by rw[he];exact hbuil,fun x h=>(hkof x).trans h,fun x h=>(hkof x).trans h,fun x h=>(hkof x).trans h,fun x h=>.inl ((hkof x).trans h),fun x h=>?_⟩
  rcases h with h|h
  .obtain ⟨c,hc⟩:=Option.isSome_iff_exists.mp (hcells (s.heap.objs.size+1) x h)
   exact⟨c,by rw[he];exact hc⟩
  .exact absurd rfl (hfree _ (mem_of_lookup h))
 have memF:∀a∈qAr env,a=env.locals\/∃n,env.cells.lookup n=some a:=fun a ha=>by
  unfold qAr at ha
  rcases List.mem_cons.mp ha with q|q
  .exact .inl q
  .obtain ⟨p,hp,rfl⟩:=List.mem_map.mp q
   rw[List.mem_filter,beq_iff_eq]at hp
   exact .inr ⟨p.1,hp.2⟩
 have cellF:∀n c,env.cells.lookup n=some c->c∈qAr env:=fun n c h=>by
  unfold qAr
  refine .tail _ (List.mem_map.mpr ⟨(n,c),List.mem_filter.mpr ⟨mem_of_lookup h,?_⟩,rfl⟩)
  rw[beq_iff_eq];exact h
 have freshF:∀a∈qAr env,s.heap.get? a=none:=fun a ha=>by
  have:s.heap.objs.size<=a:=by
   rcases memF a ha with rfl|⟨n,hn⟩
   .rw [hL];exact Nat.le_refl _
   .have:=IC.above n a (mem_of_lookup hn);rw[hL]at this;exact Nat.le_of_lt this
  cases q:s.heap.get? a with
  |none=>rfl
  |some o=>exact absurd (Heap.lt_size q) (Nat.not_lt.mpr this)
 have thereF:∀a∈qAr env,∃o,s'.heap.get? a=some o:=fun a ha=>by
  rcases memF a ha with rfl|⟨n,hn⟩
  .obtain ⟨o,_,_,e,_⟩:=IC.toInCall.ns;exact⟨o,e⟩
  .obtain ⟨o,e,_⟩:=IC.cell n a hn;exact⟨o,e⟩
 have kψ:∀a∈qAr env++ψ,a∈ψ\/s.heap.get? a=none:=fun a ha=>by
  rcases List.mem_append.mp ha with q|q
  .exact .inr (freshF a q)
  .exact .inl q
 have S1:SR X prog w base (qAr env++ψ) φ H s'.heap:=S.more keep fun a ha=>by
  rcases List.mem_append.mp ha with q|q
  .exact .inr ⟨freshF a q,thereF a q⟩
  .exact .inl q
 have hfr:∀a∈qAr env,a∈qAr env++ψ:=fun a ha=>List.mem_append_left _ ha
 have T1:StoreOk (qAr env) s'.heap env fd.scope:=by
  refine⟨.head _,⟨_,IC.toInCall.ns⟩,fun x hx=>?_,fun x y c _ hx hy=>name_of_addr IC.apart (mem_of_lookup hx) (mem_of_lookup hy)⟩
  obtain⟨c,hc⟩:=O.cells x (.inl hx)
  exact⟨c,_,hc,cellF x c hc,IC.cell x c hc⟩
 have hz:((names.zip ys).map (·.1)).Nodup:=by rw[List.map_fst_zip (Nat.le_of_eq hyl)];exact hpar.nd
 have F1:FR X (qAr env++ψ) φ s'.heap env fd.scope (fn.params.zip bs):=by
  intro x k u _ hv hn hl
  obtain⟨y,hm,rv⟩:=qNK hnames ry hn hl
  have rv':VR X (qAr env++ψ) φ s'.heap y u:=VR.move (fun _ _ e=>e) ((by intros b o;intro e n m;exact⟨keep b o e,n,fun q=>(kψ b q).elim m fun z=>by rw[e]at z;cases z⟩)) rv
  refine⟨y,?_,rv'⟩
  have hmem:=(List.of_mem_zip hm).1
  rcases hloc x hmem with q|q
  .have hk:env.kindOf x=some .local:=(hkof x).trans q
   exact .local hk (hfr _ (.head _)) IC.toInCall.ns (qIs hk hz hm)
  .have hk:env.kindOf x=some .cell:=(hkof x).trans q
   obtain⟨c,hc⟩:=O.cells x (.inl q)
   refine .cell (.inl hk) hc (hfr _ (cellF x c hc)) ?_
   have:=IC.cell x c hc
   rwa [qIt (by rw[hk];decide) hz hm]at this
 have R1:Room d (A.deeper env):=⟨R.handled,by have h:=R.depth;show A.depth+1+2*d+2<_;rw[Nat.mul_succ,<-Nat.add_assoc]at h;rw[Nat.add_right_comm A.depth 1];exact h,by have h:=R.units;show A.units+3+8*d+200<_;rw[Nat.mul_succ,<-Nat.add_assoc]at h;rw[Nat.add_right_comm A.units 3];exact Nat.lt_of_succ_lt h⟩
 have he':HE X P prog w base d cf:=qLN G V C B
 have hb:=qBC (P:=fun c cs=>SndS X prog w base d (evS P cf 20) c cs fd.scope) (fun c cs q=>@qLM d cf G V he' 20 fd.scope c cs q 20) hcb
 refine wpAny_mono (qAy R1 O hfr hb T1 F1 S1 h2) (fun flow s2 q=>?_) fun _ _ e=>e.elim
 obtain⟨φ2,p2,F2,T2,flr⟩:=q
 obtain⟨hh',tk',hs',_⟩:=IC.done
 have sr2:SR X prog w base ψ φ2 H1 s2.heap:=p2.sr.fewer fun a q=>List.mem_append_right _ q
 have gr:Grow [] φ φ2 s.heap s2.heap:=by
  have g1:Grow (qAr env) φ φ2 s.heap s2.heap:=((Grow.of_keep (φ:=φ) keep).more fun _ q=>qA5 q).trans p2.grow fun a ha m=>absurd (hfr a ha) (p2.sr.fresh a m).2.2
  exact g1.more fun a ha=>.inr (freshF a ha)
 have same:s2={ s with heap:=s2.heap,toks:=s2.toks,drawn:=s2.drawn }:=by rw[p2.same,hs']
 cases fl with
 |next=>cases flr;exact⟨φ2,same,gr,sr2,.none⟩
 |ret u =>
  obtain⟨x,rfl,rv⟩:=flr
  exact⟨φ2,same,gr,sr2,VR.move (fun _ _ e=>e) (fun b o e n m=>⟨e,n,fun q=>m (List.mem_append_right _ q)⟩) rv⟩
mutual
theorem VR.seen{h:Heap}(k:∀b,b ∉ φ->b ∉ ψ->b ∉ φ'/\b ∉ ψ'):∀{u:AV}{x:Value},VR X ψ φ h x u->u.plain=true->VR X ψ' φ' h x u
 |.none,_,r,_|.bool _,_,r,_|.int _,_,r,_|.str _,_,r,_=>r
 |.tup l,_,r,q=>by obtain⟨a,vs,n,z,e,p,m,y,r⟩:=r;exact⟨a,vs,n,z,e,(k _ p m).1,(k _ p m).2,y,VRs.seen k (u:=l) r q⟩
 |.lst l,_,r,q=>by obtain⟨a,vs,n,z,e,p,m,y,r⟩:=r;exact⟨a,vs,n,z,e,(k _ p m).1,(k _ p m).2,y,VRs.seen k (u:=l) r q⟩
 |.ref _,_,_,q|.inst _ _,_,_,q|.rng _ _,_,_,q|.sset _,_,_,q=>nomatch q
theorem VRs.seen{h:Heap}(k:∀b,b ∉ φ->b ∉ ψ->b ∉ φ'/\b ∉ ψ'):∀{u:List AV}{x:List Value},VRs X ψ φ h x u->qAk u=true->VRs X ψ' φ' h x u
 |[],_,r,_=>r
 |_::_,_,r,q=>by
  obtain⟨v,ws,z,r,s⟩:=r
  have q:=Bool.and_eq_true_iff.mp q
  exact⟨v,ws,z,VR.seen k r q.1,VRs.seen k s q.2⟩
end
theorem SR.veil{h:Heap}(S:SR X prog w base ψ φ H h):SR X prog w base (φ++ψ) [] [] h:=by
 refine⟨S.keep,rfl,List.nodup_nil,fun _ q=>(qA5 q),fun a q=>?_,fun a q=>?_,fun i a o e _=>qA2 e⟩
 .rcases List.mem_append.mp q with q|q
  .exact (S.fresh a q).1
  .exact S.priv a q
 .rcases List.mem_append.mp q with q|q
  .exact S.there q
  .exact S.stand a q
theorem qFi{u:AV}(h:qBM H H' u=some v):(∃i l,u=.ref i/\qAj H' i=some l/\H.length<=i/\qAk l=true/\v=.lst l)\/(u=v/\u.plain=true):=by
 delta H H' v u at h
 have plain:(if u.plain then some u else none)=some v->(∃i l,u=.ref i/\qAj H' i=some l/\H.length<=i/\qAk l=true/\v=.lst l)\/(u=v/\u.plain=true):=fun h=>by
  obtain⟨a,b⟩:=qA9 h
  exact .inr ⟨Option.some.inj b,a⟩
 induction u using AV.casesOn with
 |ref i =>
  delta i at h plain
  (injection (qA0 h)with l;rintro⟨hl,h⟩)
  obtain⟨hc,h⟩:=qA9 h
  have hc:=Bool.and_eq_true_iff.mp hc
  exact .inl ⟨i,l,rfl,hl,of_decide_eq_true hc.1,hc.2,(Option.some.inj h).symm⟩
 |_=>exact plain h
theorem qKA(G:GW X base)(V:PV X P)(C:SndCF X prog w base d cf)(B:SndBi X prog w base d){fn:FnC}{a:Nat}{xs:List Value}{as:List AV}(hfn:FnOk X a fn)(R:RoomC (d+1) A)(S:SR X prog w base ψ φ H s.heap)(r:VRs X ψ φ s.heap xs as)
 (e:runFn P cf fn as H=some (v,H')) :
  codeAny (model prog w) A (.call (.ref a) ⟨xs,[]⟩) (fun r s'=>match r with|.ok (.ret x)=>Out X prog w base ψ φ s v H' x s'|_=>False) s:=by
 delta A ψ φ H H' s d v cf fn a xs as at G V C B hfn R S r e
 (injection (qA0 e)with ρ;rintro⟨h1,e⟩)
 cases hpl:(fn.pure&&qAk as)with
 |true =>
  rw[hpl,if_pos rfl]at e
  (injection (qBt e)with fl ρ2 H1;rintro⟨h2,e⟩)
  (injection (qA3 e)with v2;rintro⟨h3,e⟩)
  obtain⟨rfl,rfl⟩:=Prod.mk.inj e
  refine codeAny_mono (qFr G V C B hfn R S.veil (r.seen (φ':=[]) (ψ':=φ++ψ) ((by intros b;intro n m;exact⟨fun q=>(nomatch q),fun q=>(List.mem_append.mp q).elim n m⟩)) (Bool.and_eq_true_iff.mp hpl).2) h1 h2) ?_
  intros res s2;intro q
  rcases res with er|(x|_|_|_)<;>try exact q.elim
  obtain⟨φ2,same,gr,sr2,rv⟩:=q
  have keep:∀b o,s.heap.get? b=some o->s2.heap.get? b=some o:=fun b o e=>gr.kept b o e (fun q=>qA5 q) (fun q=>qA5 q)
  have un:∀b,b ∉ φ2->b ∉ φ++ψ->b ∉ φ/\b ∉ ψ:=fun b _ m=>⟨fun q=>m (List.mem_append_left _ q),fun q=>m (List.mem_append_right _ q)⟩
  refine⟨φ,⟨same,Grow.of_keep keep,S.grown keep⟩,?_⟩
  rcases qFi h3 with⟨i,l,hu,hl,_,hp,rfl⟩|⟨hu,hp⟩
  .rw [hu]at rv
   obtain⟨p,rfl,hi,vs,n,e1,q1,r1⟩:=sr2.list rv hl
   have hp2:=(sr2.fresh _ (List.mem_of_getElem? hi)).2.2
   exact .lst e1 (fun q=>hp2 (List.mem_append_left _ q)) (fun q=>hp2 (List.mem_append_right _ q)) q1 (r1.seen un hp)
  .exact hu▸rv.seen un hp
 |false =>
  rw[hpl,if_neg Bool.false_ne_true]at e
  (injection (qBt e)with fl ρ2 H1;rintro⟨h2,e⟩)
  refine codeAny_mono (qFr G V C B hfn R S r h1 h2) ?_
  intros res s2;intro q
  rcases res with er|(x|_|_|_)<;>try exact q.elim
  obtain⟨φ2,same,gr,sr2,ru⟩:=q
  cases hpu:fn.pure with
  |false =>
   rw[hpu,if_neg Bool.false_ne_true]at e
   obtain⟨rfl,rfl⟩:=qA6 e
   exact⟨φ2,⟨same,gr,sr2⟩,ru⟩
  |true =>
   rw[hpu,if_pos rfl]at e
   obtain⟨hhb,e⟩:=qA9 e
   (injection (qA3 e)with v2;rintro⟨h3,e⟩)
   obtain⟨rfl,rfl⟩:=Prod.mk.inj e
   refine⟨φ,⟨same,⟨List.prefix_refl _,fun _ q=>.inl q,gr.kept⟩,S.shrink gr.pre sr2 ((qEr _ _).mp hhb)⟩,?_⟩
   rcases qFi h3 with⟨i,l,hu,hl,hle,hp,rfl⟩|⟨hu,hp⟩
   .rw [hu]at ru
    obtain⟨p,rfl,hi,vs,n,e1,q1,r1⟩:=sr2.list ru hl
    refine .lst e1 (fun m=>?_) (sr2.fresh _ (List.mem_of_getElem? hi)).2.2 q1 (r1.shrink gr.pre (qBl _ hp))
    obtain⟨j,hj,ej⟩:=List.getElem_of_mem m
    have hj2:=qBx gr.pre (by rw[List.getElem?_eq_getElem hj,ej]:φ[j]?=some p)
    have:=(List.getElem?_inj (List.getElem?_eq_some_iff.mp hi).1 sr2.nodup).mp (hi.trans hj2.symm)
    rw[S.len]at hj
    omega
   .exact hu▸ru.shrink gr.pre (qFQ _ hp)
theorem qI7(G:GW X base)(V:PV X P)(W:FV X P)(B:∀d,SndBi X prog w base d)(d:Nat):SndCF X prog w base d (callF P d):=by
 induction d with
 |zero=>intro A f a xs as H H' v ψ φ s _ _ _ _ e;exact qA2 e
 |succ d ih =>
  intro A f a xs as H H' v ψ φ s hf R S r e
  obtain⟨fn,h1,e⟩:=qA0 e
  exact qKA G V @ih (@B d) (W.fn f fn a h1 hf) R S r e
end
end
noncomputable def litK(q:Int×Nat×Int):List Int:=[q.1,q.2.1,q.2.2]
noncomputable def keyL(v:AV):List Int:=match intOf v with
 |some a=>[a]
 |none=>match lit3 v with
  |some q=>litK q
  |none=>match rank v with
   |some q=>q.1::litK q.2
   |none=>[]
noncomputable def litV(q:Int×Nat×Int):AV:=.tup [.int q.1,.str q.2.1,.int q.2.2]
theorem qH1{v:AV}{q:Int×Nat×Int}(e:lit3 v=some q):v=litV q:=by
 delta v q at e
 (injection (qA0 e)with p;rintro⟨h,e⟩)
 (injection (qA0 h)with l;rintro⟨h1,h2⟩)
 (injection (qA0 e)with i;rintro⟨h3,e⟩)
 (injection (qA0 e)with n;rintro⟨h4,e⟩)
 (injection (qA3 e)with k;rintro⟨h5,e⟩)
 rw[qAv h1,qJ0 h2,qAZ h3,qBW h4,qAZ h5,<-e];rfl
theorem qKL{v:AV}{q:Int×Int×Nat×Int}(e:rank v=some q):v=.tup [.int q.1,litV q.2]:=by
 delta v q at e
 (injection (qA0 e)with p;rintro⟨h,e⟩)
 (injection (qA0 h)with l;rintro⟨h1,h2⟩)
 (injection (qA0 e)with i;rintro⟨h3,e⟩)
 (injection (qA3 e)with n;rintro⟨h4,e⟩)
 rw[qAv h1,qFv h2,qAZ h3,qH1 h4,<-e]
noncomputable def SameK(l:List AV):Prop:=∀a∈l,∀b∈l,ltKey a b=decide (keyL a<keyL b)/\(keyL a=keyL b->a=b)
theorem qEI{a:AV}(h:isK1 a=true):∃i,a=.int i:=by
 obtain⟨i,e⟩:=Option.isSome_iff_exists.mp h
 exact⟨i,qAZ e⟩
theorem qK6{q:Int×Nat×Int}(h:qKb q=true):7<=q.2.1/\q.2.1<=10:=by
 have h:=Bool.and_eq_true_iff.mp h
 exact⟨of_decide_eq_true h.1,of_decide_eq_true h.2⟩
theorem qC9{a:AV}(h:isK2 a=true):∃q,a=litV q/\7<=q.2.1/\q.2.1<=10:=by
 obtain⟨q,e,h⟩:=qCQ h
 exact⟨q,qH1 e,qK6 h⟩
theorem qH4{a:AV}(h:isK3 a=true):∃x q,a=.tup [.int x,litV q]/\7<=q.2.1/\q.2.1<=10:=by
 obtain⟨q,e,h⟩:=qCQ h
 exact⟨q.1,q.2,qKL e,qK6 h⟩
theorem qEH{a b:Int}{l m:List Int}:a::l<b::m↔a<b\/a=b/\l<m:=List.cons_lt_cons_iff
theorem qKw{a b:Int}:[a]<[b]↔a<b:=by
 rw[qEH]
 exact⟨fun h=>h.elim id fun q=>absurd q.2 (List.not_lt_nil _),.inl⟩
theorem qIa{p q:Int×Nat×Int}:litK p<litK q↔LtL p q:=by
 unfold litK
 rw[qEH,qEH,qKw,Int.ofNat_lt,Int.ofNat_inj];rfl
theorem qIY{p q:Int×Nat×Int}(e:litK p=litK q):p=q:=by
 have e1:=List.cons.inj e
 have e2:=List.cons.inj e1.2
 exact Prod.ext e1.1 (Prod.ext (Int.ofNat_inj.mp e2.1) (List.cons.inj e2.2).1)
theorem qFo{p q:Prop} [Decidable p] [Decidable q](h:p↔q):decide p=decide q:=by
 exact decide_eq_decide.mpr h
theorem qG2{l:List AV}(h:qAn l=true):SameK l:=by
 intro a ha b hb
 rcases Bool.or_eq_true_iff.mp h with h|h
 rcases Bool.or_eq_true_iff.mp h with h|h
 .obtain ⟨i,rfl⟩:=qEI (List.all_eq_true.mp h a ha)
  obtain⟨j,rfl⟩:=qEI (List.all_eq_true.mp h b hb)
  exact⟨qFo qKw.symm,fun e=>congrArg AV.int (List.cons.inj e).1⟩
 .obtain ⟨p,rfl,_⟩:=qC9 (List.all_eq_true.mp h a ha)
  obtain⟨q,rfl,_⟩:=qC9 (List.all_eq_true.mp h b hb)
  exact⟨qFo qIa.symm,fun e=>congrArg litV (qIY e)⟩
 .obtain ⟨x,p,rfl,_⟩:=qH4 (List.all_eq_true.mp h a ha)
  obtain⟨y,q,rfl,_⟩:=qH4 (List.all_eq_true.mp h b hb)
  refine⟨qFo ?_,fun e=>?_⟩
  .exact (Iff.trans qEH (or_congr Iff.rfl (and_congr Iff.rfl qIa))).symm
  .have e:=List.cons.inj (show x::litK p=y::litK q from e)
   rw[e.1,qIY e.2]
theorem qEn{a b c:List Int}(h:a<b)(h':b<c):a<c:=List.lt_trans h h'
theorem qDj(a:List Int):¬a<a:=List.lt_irrefl a
theorem qL3{a b:List Int}(h:¬a<b)(h':a≠b):b<a:=by
 apply Decidable.byContradiction
 intro q
 exact h' (List.le_antisymm (List.not_lt.mp q) (List.not_lt.mp h))
theorem qDE{x:AV}:∀{l:List AV},hasAV x l=true↔x∈l
 |[]=>⟨fun h=>(Bool.false_ne_true h).elim,fun h=>qA5 h⟩
 |y::r=>by rw[qFh,Bool.or_eq_true,AV.beq_iff,qDE,List.mem_cons];constructor<;>rintro(h|h)<;>simp[h]
theorem qBB:∀{l:List AV},qEf l=true↔l.Nodup
 |[]=>⟨fun _=>List.nodup_nil,fun _=>rfl⟩
 |x::r=>by rw[show qEf (x::r)=(!hasAV x r&&qEf r)from rfl,Bool.and_eq_true,Bool.not_eq_true',List.nodup_cons,qBB,<-Bool.not_eq_true,qDE]
theorem qCi(x:AV):∀l:List AV,(qBq x l).Perm (x::l)
 |[]=>List.Perm.refl _
 |y::r=>by
  rw[qDD]
  split
  .exact ((qCi x r).cons y).trans (List.Perm.swap x y r)
  .exact List.Perm.refl _
theorem qAP:∀l:List AV,(qAD l).Perm l
 |[]=>List.Perm.refl _
 |x::r=>(qCi x _).trans ((qAP r).cons x)
theorem qDB{x:AV}:∀{l:List AV},SameK (x::l)->x ∉ l->l.Pairwise (fun a b=>keyL a<keyL b)->(qBq x l).Pairwise (fun a b=>keyL a<keyL b)
 |[],_,_,_=>List.pairwise_singleton _ _
 |y::r,hs,hx,hp=>by
  rw[qDD]
  have hxy:=hs y (by simp) x (by simp)
  simp only[List.mem_cons,not_or]at hx
  rw[List.pairwise_cons]at hp
  split
  .rename_i hlt
   rw[hxy.1,decide_eq_true_eq]at hlt
   rw[List.pairwise_cons]
   refine⟨fun z hz=>?_,qDB (fun a ha b hb=>hs a (by rcases List.mem_cons.mp ha with rfl|q<;>simp[*]) b (by rcases List.mem_cons.mp hb with rfl|q<;>simp[*])) hx.2 hp.2⟩
   rcases List.mem_cons.mp ((qCi x r).mem_iff.mp hz)with rfl|q
   .exact hlt
   .exact hp.1 z q
  .rename_i hlt
   rw[hxy.1,decide_eq_true_eq]at hlt
   have hne:keyL y≠keyL x:=fun e=>hx.1 (hxy.2 e).symm
   have hlt':=qL3 hlt hne
   rw[List.pairwise_cons,List.pairwise_cons]
   refine⟨fun z hz=>?_,hp⟩
   rcases List.mem_cons.mp hz with rfl|q
   .exact hlt'
   .exact qEn hlt' (hp.1 z q)
theorem qAx:∀{l:List AV},SameK l->l.Nodup->(qAD l).Pairwise (fun a b=>keyL a<keyL b)
 |[],_,_=>List.Pairwise.nil
 |x::r,hs,nd=>by
  rw[List.nodup_cons]at nd
  show(qBq x (qAD r)).Pairwise _
  have hr:SameK r:=fun a ha b hb=>hs a (.tail _ ha) b (.tail _ hb)
  refine qDB (fun a ha b hb=>hs a ?_ b ?_) (fun m=>nd.1 ((qAP r).mem_iff.mp m)) (qAx hr nd.2)
  .rcases List.mem_cons.mp ha with rfl|q
   .exact .head _
   .exact .tail _ ((qAP r).mem_iff.mp q)
  .rcases List.mem_cons.mp hb with rfl|q
   .exact .head _
   .exact .tail _ ((qAP r).mem_iff.mp q)
noncomputable def runT(lt:Nat->Nat->Bool)(n:Nat):KasT (Array Nat)->Option (Array Nat)
 |.ret p=>some p
 |.ask i j k=>if i<n/\j<n/\i≠j then runT lt n (k (lt i j))else none
theorem qKE{cmp:Nat->Nat->(Bool->Shared->Prop)->Shared->Prop}{lt:Nat->Nat->Bool}{n:Nat}{I:Shared->Prop}{G:Array Nat->Shared->Prop}{p:Array Nat}
 (hc:∀i j (C:Bool->Shared->Prop) s,i<n->j<n->i≠j->I s->(∀s',I s'->C (lt i j) s')->cmp i j C s)(hG:∀s',I s'->G p s'):∀(t:KasT (Array Nat)) (s:Shared),runT lt n t=some p->I s->t.kasWp cmp G s
 |.ret q,s,h,hi=>by cases Option.some.inj h;exact hG s hi
 |.ask i j k,s,h,hi=>by
  have h:=(show(if i<n/\j<n/\i≠j then runT lt n (k (lt i j))else none)=some p from h)
  by_cases hb:i<n/\j<n/\i≠j
  .rw [if_pos hb]at h
   exact hc i j _ s hb.1 hb.2.1 hb.2.2 hi fun s' hi'=>qKE hc hG (k (lt i j)) s' h hi'
  .rw [if_neg hb]at h;cases h
noncomputable def qD1(avail:List Nat):Nat->List (List Nat)
 | 0=>[[]]
 |k+1=>avail.flatMap fun a=>(qD1 (avail.erase a) k).map (a::·)
theorem qGt:∀{k:Nat}{avail r:List Nat},r.length=k->r.Nodup->(∀a∈r,a∈avail)->r∈qD1 avail k
 | 0,avail,r,hl,_,_=>by
  have:r=[]:=List.eq_nil_of_length_eq_zero hl
  subst this;exact .head _
 |k+1,avail,r,hl,nd,hm=>by
  cases r with
  |nil=>simp at hl
  |cons a t =>
   rw[List.nodup_cons]at nd
   refine List.mem_flatMap.mpr ⟨a,hm a (.head _),List.mem_map.mpr ⟨t,qGt (by simpa using hl) nd.2 (fun b hb=>?_),rfl⟩⟩
   have hne:b≠a:=fun e=>nd.1 (e▸hb)
   exact(List.mem_erase_of_ne hne).mpr (hm b (.tail _ hb))
noncomputable def qIV(n:Nat)(r:List Nat):Bool:=match runT (fun i j=>decide (r.getD i 0<r.getD j 0)) n (kas_sort n)with
 |some p=>(p.toList.map fun i=>r.getD i 0)==List.range n&&p.toList.all (·<n)
 |none=>false
theorem qMe:((List.range 6).all fun n=>(qD1 (List.range n) n).all (qIV n))=true:=by decide +kernel
theorem qMd:((qD1 (List.range 6) 6).all (qIV 6))=true:=by decide +kernel
theorem qOD{n:Nat}(h:n<7){r:List Nat}(hl:r.length=n)(nd:r.Nodup)(hb:∀a∈r,a<n):qIV n r=true:=by
 have hm:=qGt hl nd (avail:=List.range n) fun a ha=>List.mem_range.mpr (hb a ha)
 by_cases q:n=6
 .subst q;exact List.all_eq_true.mp qMd r hm
 .exact List.all_eq_true.mp (List.all_eq_true.mp qMe n (List.mem_range.mpr (by lia))) r hm
noncomputable def idxAV(x:AV):List AV->Nat
 |[]=>0
 |y::r=>if y.beq x then 0 else idxAV x r+1
theorem qHB{x:AV}:∀{l:List AV},x∈l->l[idxAV x l]?=some x
 |[],h=>qA5 h
 |y::r,h=>by
  show(y::r)[if y.beq x then 0 else idxAV x r+1]?=_
  by_cases q:y.beq x=true
  .rw [if_pos q,(AV.beq_iff _ _).mp q];rfl
  .rw [if_neg q]
   have hne:x≠y:=fun e=>q ((AV.beq_iff _ _).mpr e.symm)
   rw[List.getElem?_cons_succ]
   exact qHB ((List.mem_cons.mp h).resolve_left hne)
set_option tactic.hygienic true in
set_option hygiene true in
theorem qK0{l:List AV}(hs:SameK l)(nd:l.Nodup)(hn:l.length<7) :
  ∃p:Array Nat,runT (fun i j=>ltKey (l.getD i .none) (l.getD j .none)) l.length (kas_sort l.length)=some p/\p.toList.map (fun i=>l.getD i .none)=qAD l/\∀i∈p.toList,i<l.length:=by
 delta l at hs nd hn
 have hp:=qAP l
 have hsorted:=qAx hs nd
 have hlen:=hp.length_eq
 have hget:=List.pairwise_iff_getElem.mp hsorted
 let r:=l.map fun x=>idxAV x (qAD l)
 have rget:∀i (hi:i<l.length),∃(h:r.getD i 0<(qAD l).length),(qAD l)[r.getD i 0]=l[i]:=by
  intro i hi
  have e:r.getD i 0=idxAV l[i] (qAD l):=by
   show(l.map _).getD i 0=_
   rw[List.getD_eq_getElem?_getD,List.getElem?_map,List.getElem?_eq_getElem hi];rfl
  have:=qHB (hp.mem_iff.mpr (List.getElem_mem hi))
  rw[<-e]at this
  exact List.getElem?_eq_some_iff.mp this
 have hcmp:∀i j,i<l.length->j<l.length->ltKey (l.getD i .none) (l.getD j .none)=decide (r.getD i 0<r.getD j 0):=by
  intro i j hi hj
  obtain⟨hi',ei⟩:=rget i hi
  obtain⟨hj',ej⟩:=rget j hj
  have g1:l.getD i .none=l[i]:=by rw[List.getD_eq_getElem?_getD,List.getElem?_eq_getElem hi];rfl
  have g2:l.getD j .none=l[j]:=by rw[List.getD_eq_getElem?_getD,List.getElem?_eq_getElem hj];rfl
  rw[g1,g2,(hs l[i] (List.getElem_mem hi) l[j] (List.getElem_mem hj)).1]
  congr 1
  apply propext
  rw[<-ei,<-ej]
  constructor
  .intro h
   apply Decidable.byContradiction
   intro q
   rcases Nat.lt_or_eq_of_le (Nat.le_of_not_lt q)with z|z
   .exact qDj _ (qEn h (hget _ _ hj' hi' z))
   .have:(qAD l)[r.getD j 0]=(qAD l)[r.getD i 0]:=by congr 1
    rw[this]at h;exact qDj _ h
  .exact fun h=>hget _ _ hi' hj' h
 have hr:r.length=l.length:=by simp[r]
 have rnd:r.Nodup:=by
  refine List.pairwise_iff_getElem.mpr fun i j hi hj hij e=>?_
  have hi2:i<l.length:=by rw[<-hr];exact hi
  have hj2:j<l.length:=by rw[<-hr];exact hj
  obtain⟨a,ea⟩:=rget i hi2
  obtain⟨b,eb⟩:=rget j hj2
  have:r.getD i 0=r.getD j 0:=by rw[List.getD_eq_getElem?_getD,List.getD_eq_getElem?_getD,List.getElem?_eq_getElem hi,List.getElem?_eq_getElem hj,e]
  have e3:l[i]=l[j]:=by rw[<-ea,<-eb];congr 1
  have:=(List.getElem_inj nd).mp e3
  lia
 have rb:∀a∈r,a<l.length:=by
  intro a ha
  obtain⟨i,hi,e⟩:=List.getElem_of_mem ha
  have hi2:i<l.length:=by rw[<-hr];exact hi
  obtain⟨h,_⟩:=rget i hi2
  rw[List.getD_eq_getElem?_getD,List.getElem?_eq_getElem hi,Option.getD_some,e,hlen]at h
  exact h
 have ok:=qOD hn hr rnd rb
 unfold qIV at ok
 have same:∀t:KasT (Array Nat),runT (fun i j=>ltKey (l.getD i .none) (l.getD j .none)) l.length t=runT (fun i j=>decide (r.getD i 0<r.getD j 0)) l.length t:=by
  intro t
  induction t with
  |ret p=>rfl
  |ask i j k ih =>
   show(if _ then _ else _)=if _ then _ else _
   by_cases hb:i<l.length/\j<l.length/\i≠j
   .rw [if_pos hb,if_pos hb];exact(congrArg (fun z=>runT (fun i j=>ltKey (l.getD i .none) (l.getD j .none)) l.length (k z)) (hcmp i j hb.1 hb.2.1)).trans (ih _)
   .rw [if_neg hb,if_neg hb]
 rw[same]
 split at ok
 .rename_i p hpp
  rw[Bool.and_eq_true,beq_iff_eq,List.all_eq_true]at ok
  refine⟨p,hpp,?_,fun i hi=>by simpa using ok.2 i hi⟩
  apply List.ext_getElem?
  intro k
  have hk:=congrArg (fun z=>z[k]?) ok.1
  simp only[List.getElem?_map]at hk ⊢
  cases hpk:p.toList[k]? with
  |none =>
   rw[hpk]at hk
   simp only[Option.map_none]at hk ⊢
   have:l.length<=k:=by
    have:=hk.symm
    rw[List.getElem?_eq_none_iff]at this;simpa using this
   exact(List.getElem?_eq_none (by rw[hlen];exact this)).symm
  |some i =>
   rw[hpk]at hk
   simp only[Option.map_some]at hk ⊢
   have hi:i<l.length:=by simpa using ok.2 i (List.mem_of_getElem? hpk)
   have hkn:k<l.length:=by
    have:=hk.symm
    have:=(List.getElem?_eq_some_iff.mp this).1
    simpa using this
   have hrk:r.getD i 0=k:=by
    rw[List.getElem?_range hkn]at hk
    exact Option.some.inj hk
   obtain⟨h,e⟩:=rget i hi
   rw[List.getD_eq_getElem?_getD,List.getElem?_eq_getElem hi,Option.getD_some,<-e]
   rw[List.getElem?_eq_getElem (by rw[hlen];exact hkn)]
   congr 1
   congr 1
 .cases ok
end Internal
end
section
open PySem PySem.W PySem.Calls PyProof.Rows
namespace Internal
section
section
variable{A:Around}{E:Value->Shared->Prop}{s:Shared}{vs:List Value}{a:Addr}
theorem qH2{n:Nat}{P:PySem.Fin->Shared->Prop}(ho:s.heap.get? a=some (seqObj "list" vs.toArray n))(h2:2<=vs.length)(h64:vs.length<64)
 (h:∀e1 h',h'.get? a=some (seqObj "list" #[] e1)->(∀b o,b≠a->s.heap.get? b=some o->h'.get? b=some o) ->
   wpAny (model prog w) A (keyKind' vs.toArray) (fun κ s'=>(kas_sort vs.length).kasWp (kas_ask prog w A κ vs) (fun p s''=>s''.heap.get? a=some (seqObj "list" #[] e1) /\
    ∀h3 c,h3.get? a=some (seqObj "list" (p.toList.map fun i=>vs.getD i Value.none).toArray c)->Heap.SameBut a s''.heap h3->P (.done (.ret .none)) { s'' with heap:=h3 }) s') (fun _ _=>False) { s with heap:=h' }) :
  wpAny (model prog w) A (Builtin.«list.sort» ⟨[.ref a],[]⟩) P E s:=by
 delta A E s vs a n P at ho h2 h64 h
 have ha:a<s.heap.objs.size:=Heap.lt_size ho
 have s1:=Heap.SameBut.update s.heap a (Obj.mapSeq fun _=>(#[]:Array Value))
 (have H_:∃e1,(s.heap.update a (Obj.mapSeq fun _=>(#[]:Array Value))).get? a=some (seqObj "list" #[] e1):=(⟨_,get?_update_seq ho fun _=>#[]⟩);injection H_ with e1;clear H_;intro ho1)
 have ask:=h e1 (((s.heap.update a (Obj.mapSeq fun _=>(#[]:Array Value))).push (seqObj "tuple" vs.toArray 0)).push (seqObj "list" #[] 0)) (Heap.get?_push_of_some _ (Heap.get?_push_of_some _ ho1)) fun b o hb e =>
  Heap.get?_push_of_some _ (Heap.get?_push_of_some _ ((s1.2 b hb).trans e))
 rw[list_sort_plain]
 refine wpAny_bind (listItems_at ho rfl ?_)
 refine wpAny_bind (listUpdate_at ho rfl ?_ (by rw[List.size_toArray,sizeLine_eq];lia) (Nat.zero_le _))
 refine wpAny_bind (seqEpoch_at ho1 rfl ?_)
 refine wpAny_bind (wpAny_newTuple ?_ (by show vs.length<=_;rw[sizeLine_eq];lia))
 refine wpAny_bind (wpAny_newList ?_ (Nat.zero_le _))
 refine wpAny_holding ?_
 show wpAny (model prog w) A _ P E { s with heap:=((s.heap.update a (Obj.mapSeq fun _=>(#[]:Array Value))).push (seqObj "tuple" vs.toArray 0)).push (seqObj "list" #[] 0) }
 dsimp only
 have hn2:¬vs.toArray.size<2:=by rw[List.size_toArray];lia
 rw[if_neg hn2,if_neg hn2]
 refine wpAny_bind (wpAny_mono ask (?_) fun _ _ x=>x.elim)
 intro κ;intros s0;intro hk
 refine wpAny_bind (wpAny_mono (kat_run (Q:=fun st' s'=>∃p:Array Nat,p.size=vs.length/\arrOf st'=p.map (kas_item (vs.toArray.zip vs.toArray))/\failedOf st'=none/\s'.heap.get? a=some (seqObj "list" #[] e1) /\
    ∀h3 c,h3.get? a=some (seqObj "list" (p.toList.map fun i=>vs.getD i Value.none).toArray c)->Heap.SameBut a s'.heap h3->P (.done (.ret .none)) { s' with heap:=h3 })
  rfl h2 h64 (fun p' st' s' a1 a2 a3 a4=>⟨p',a1,a2,a3,a4.1,a4.2⟩) hk) ?_ fun _ _ e=>e)
 (rintro⟨⟨⟩,st'⟩;intros s';intro H_;injection H_ with p;clear H_;rintro⟨hp,har,hf,na,k⟩)
 dsimp only
 have hout:=kat_snds rfl har
 have hsz:(List.toArray (p.toList.map fun i=>vs.getD i Value.none)).size=vs.length:=by rw[List.size_toArray,List.length_map,Array.length_toList,hp]
 rw[hout]
 have s2:=Heap.SameBut.update s'.heap a (Obj.mapSeq fun _=>List.toArray (p.toList.map fun i=>vs.getD i Value.none))
 (have H_:∃c2,(s'.heap.update a (Obj.mapSeq fun _=>List.toArray (p.toList.map fun i=>vs.getD i Value.none))).get? a=some (seqObj "list" (List.toArray (p.toList.map fun i=>vs.getD i Value.none)) c2):=(⟨_,get?_update_seq na fun _=>List.toArray (p.toList.map fun i=>vs.getD i Value.none)⟩);injection H_ with c2;clear H_;intro hc2)
 refine wpAny_bind (seqEpoch_at na rfl ?_)
 refine wpAny_bind (listUpdate_at na rfl ?_ (Nat.zero_le _) (Nat.le_trans (Nat.le_of_eq hsz) (by rw[sizeLine_eq];lia)))
 rw[hf]
 simp only[bne_self_eq_false,Bool.false_eq_true,if_false]
 exact wpAny_pure (k _ c2 hc2 s2)
theorem qGF{n:Nat}{P:PySem.Fin->Shared->Prop}(ho:s.heap.get? a=some (seqObj "list" vs.toArray n))(h2:vs.length<2)
 (h:∀h3 c,h3.get? a=some (seqObj "list" vs.toArray c)->(∀b o,b≠a->s.heap.get? b=some o->h3.get? b=some o)->P (.done (.ret .none)) { s with heap:=h3 }) :
  wpAny (model prog w) A (Builtin.«list.sort» ⟨[.ref a],[]⟩) P E s:=by
 delta A E s vs a n P at ho h2 h
 have ha:a<s.heap.objs.size:=Heap.lt_size ho
 have s1:=Heap.SameBut.update s.heap a (Obj.mapSeq fun _=>(#[]:Array Value))
 (have H_:∃e1,(s.heap.update a (Obj.mapSeq fun _=>(#[]:Array Value))).get? a=some (seqObj "list" #[] e1):=(⟨_,get?_update_seq ho fun _=>#[]⟩);injection H_ with e1;clear H_;intro ho1)
 have ho6:(((s.heap.update a (Obj.mapSeq fun _=>(#[]:Array Value))).push (seqObj "tuple" vs.toArray 0)).push (seqObj "list" #[] 0)).get? a=some (seqObj "list" #[] e1):=Heap.get?_push_of_some _ (Heap.get?_push_of_some _ ho1)
 rw[list_sort_plain]
 refine wpAny_bind (listItems_at ho rfl ?_)
 refine wpAny_bind (listUpdate_at ho rfl ?_ (by rw[List.size_toArray,sizeLine_eq];lia) (Nat.zero_le _))
 refine wpAny_bind (seqEpoch_at ho1 rfl ?_)
 refine wpAny_bind (wpAny_newTuple ?_ (by show vs.length<=_;rw[sizeLine_eq];lia))
 refine wpAny_bind (wpAny_newList ?_ (Nat.zero_le _))
 refine wpAny_holding ?_
 show wpAny (model prog w) A _ P E { s with heap:=((s.heap.update a (Obj.mapSeq fun _=>(#[]:Array Value))).push (seqObj "tuple" vs.toArray 0)).push (seqObj "list" #[] 0) }
 dsimp only
 have hn2:vs.toArray.size<2:=by rw[List.size_toArray];lia
 rw[if_pos hn2,if_pos hn2]
 refine wpAny_bind (wpAny_pure ?_)
 rw[StateT.run_pure]
 refine wpAny_bind (wpAny_pure ?_)
 dsimp only
 refine wpAny_bind (seqEpoch_at ho6 rfl ?_)
 have hz:(arrOf (SortSt.mk' general' (vs.toArray.zip vs.toArray) #[] 7 none)).map (·.2)=vs.toArray:=by
  show(vs.toArray.zip vs.toArray).map (·.2)=_
  apply Array.toList_inj.mp;simp;exact qFz rfl
 rw[hz]
 have s2:=Heap.SameBut.update (((s.heap.update a (Obj.mapSeq fun _=>(#[]:Array Value))).push (seqObj "tuple" vs.toArray 0)).push (seqObj "list" #[] 0)) a (Obj.mapSeq fun _=>vs.toArray)
 (have H_:∃c2,((((s.heap.update a (Obj.mapSeq fun _=>(#[]:Array Value))).push (seqObj "tuple" vs.toArray 0)).push (seqObj "list" #[] 0)).update a (Obj.mapSeq fun _=>vs.toArray)).get? a=some (seqObj "list" vs.toArray c2):=(⟨_,get?_update_seq ho6 fun _=>vs.toArray⟩);injection H_ with c2;clear H_;intro hc2)
 refine wpAny_bind (listUpdate_at ho6 rfl ?_ (Nat.zero_le _) (by rw[List.size_toArray,sizeLine_eq];lia))
 simp only[bne_self_eq_false,Bool.false_eq_true,if_false]
 exact wpAny_pure (h _ c2 hc2 fun b o hb e=>(s2.2 b hb).trans (Heap.get?_push_of_some _ (Heap.get?_push_of_some _ ((s1.2 b hb).trans e))))
theorem qJz{dr:Drawn}{C:List Value->Prop}{x:Value}{Q:Value->Shared->Prop}(h64:∀vs,C vs->vs.length<64)
 (hcol:∀{Q':List Value->Shared->Prop},(∀vs h' tk,C vs->(∀b o,s.heap.get? b=some o->h'.get? b=some o)->Q' vs { s with heap:=h',toks:=tk,drawn:=dr })->wpAny (model prog w) A.in1 (collect x) Q' E s)
 (h1:∀vs,C vs->vs.length<2->∀D h' tk c,(∀b o,s.heap.get? b=some o->b<D)->(∀b o,s.heap.get? b=some o->h'.get? b=some o)->h'.get? D=some (seqObj "list" vs.toArray c)->Q (.ref D) { s with heap:=h',toks:=tk,drawn:=dr })
 (h2:∀vs,C vs->2<=vs.length->∀D e1 h' tk,(∀b o,s.heap.get? b=some o->b<D)->(∀b o,s.heap.get? b=some o->h'.get? b=some o)->h'.get? D=some (seqObj "list" #[] e1) ->
   wpAny (model prog w) A.in1.in1 (keyKind' vs.toArray) (fun κ s'=>(kas_sort vs.length).kasWp (kas_ask prog w A.in1.in1 κ vs) (fun p s''=>s''.heap.get? D=some (seqObj "list" #[] e1) /\
    ∀h3 c,h3.get? D=some (seqObj "list" (p.toList.map fun i=>vs.getD i Value.none).toArray c)->Heap.SameBut D s''.heap h3->Q (.ref D) { s'' with heap:=h3 }) s') (fun _ _=>False) { s with heap:=h',toks:=tk,drawn:=dr }) :
  wpAny (model prog w) A (call (.builtin "sorted") [x]) Q E s:=by
 delta A E s dr C x Q at h64 hcol h1 h2
 refine Calls.call_function_entry kind_sorted plain_sorted entry_sorted (args_sorted1 _) ?_
 unfold Builtin.«sorted»
 refine wpAny_bind (m:=checkCount "sorted" 1 1 _) (wpAny_pure ?_)
 refine wpAny_bind (hcol ?_)
 intros vs h' tk;intro hC kp
 have h64:=h64 vs hC
 have h1:=h1 vs hC
 have h2:=h2 vs hC
 refine wpAny_bind (wpAny_newList ?_ (by rw[sizeLine_eq];lia))
 have hoL:(h'.push (seqObj "list" vs.toArray 0)).get? h'.objs.size=some (seqObj "list" vs.toArray 0):=Heap.get?_push_size _ rfl
 have kp2:∀b o,s.heap.get? b=some o->(h'.push (seqObj "list" vs.toArray 0)).get? b=some o:=fun b o e=>Heap.get?_push_of_some _ (kp b o e)
 have hn:s.heap.get? h'.objs.size=none:=qAe kp
 have hne:∀b o,s.heap.get? b=some o->b≠h'.objs.size:=fun b o e q=>by rw[q,hn]at e;cases e
 show wpAny _ _ _ _ _ { s with heap:=h'.push (seqObj "list" vs.toArray 0),toks:=tk,drawn:=dr }
 refine wpAny_bind (wpAny_holding (wpAny_call_entry slot_list_sort ⟨_,hoL,rfl⟩ entry_list_sort ?body (args_list_sort _)))
 case body =>
  by_cases hl:vs.length<2
  .refine qGF (s:={ s with heap:=h'.push (seqObj "list" vs.toArray 0),toks:=tk,drawn:=dr }) hoL hl fun h3 c e3 kp3=>⟨_,rfl,wpAny_pure ⟨_,rfl,?_⟩⟩
   exact h1 hl _ h3 tk c (fun b o e=>Heap.lt_size (kp b o e)) (fun b o e=>kp3 b o (hne b o e) (kp2 b o e)) e3
  .refine qH2 (s:={ s with heap:=h'.push (seqObj "list" vs.toArray 0),toks:=tk,drawn:=dr }) hoL (by lia) h64 ?_
   intros e1 h3;intro e3 kp3
   refine wpAny_mono (h2 (by lia) _ e1 h3 tk (fun b o e=>Heap.lt_size (kp b o e)) (fun b o e=>kp3 b o (hne b o e) (kp2 b o e)) e3) (?_) fun _ _ x=>x
   intro κ;intros s';intro hk
   rw[kat_ask_eq rfl]at hk ⊢
   exact kas_wp_mono hk (by intros p s'';intro hk';exact⟨hk'.1,fun h4 c e4 sb=>⟨_,rfl,wpAny_pure ⟨_,rfl,hk'.2 h4 c e4 sb⟩⟩⟩)
end
end
section
section
variable{A:Around}{ψ φ φ9:List Addr}{H H' H₁:AHeap}{s s8:Shared}{d:Nat}{E:Value->Shared->Prop}
noncomputable def atom(X:CX)(v:Value)(f:Addr->AV):AV:=match v with
 |.int i _=>.int i
 |.str y _=>.str (X.names.idxOf y)
 |.ref a=>f a
 |_=>.none
noncomputable def ofO(f:Value->AV)(o:Option Obj):AV:=match o with
 |some o=>(match o.data with
  |.seq vs _=>if eqC o.cls (.type "tuple")then .tup (vs.toList.map f)else .lst (vs.toList.map f)
  |_=>.none)
 |none=>.none
noncomputable def ofVal(X:CX)(h:Heap):Nat->Value->AV
 | 0,v=>atom X v fun _=>.none
 |n+1,v=>atom X v fun a=>ofO (ofVal X h n) (h.get? a)
theorem VRs.back{h:Heap}{f:Value->AV}{n:Nat}(ih:∀{v:Value}{a:AV},VR X ψ φ h v a->qAM n a=true->f v=a):∀{l:List AV}{vs:List Value},VRs X ψ φ h vs l->(∀a∈l,qAM n a=true)->vs.map f=l
 |[],_,r,_=>by obtain rfl:=r;rfl
 |a::l,_,r,c=>by
  obtain⟨v,ws,rfl,r,q⟩:=r
  exact congr (congrArg List.cons (ih r (c a (.head _)))) (VRs.back ih q fun x m=>c x (.tail _ m))
theorem qJx(nd:X.names.Nodup){n:Nat}{y:Str}(e:X.names[n]?=some y):X.names.idxOf y=n:=by
 have p:=List.getElem?_eq_some_iff.mp e
 rw[<-p.2]
 exact(List.getElem_inj nd).mp (List.getElem_idxOf (List.idxOf_lt_length_of_mem (List.getElem_mem p.1)))
theorem qOE{f:Value->AV}{h:Heap}{a:Addr}{vs:Array Value}{n:Nat}(e:h.get? a=some (seqObj "tuple" vs n)):ofO f (h.get? a)=.tup (vs.toList.map f):=by
 rw[e]
 exact if_pos ((qDo _ _).mpr rfl)
theorem qOF{f:Value->AV}{h:Heap}{a:Addr}{vs:Array Value}{n:Nat}(e:h.get? a=some (seqObj "list" vs n)):ofO f (h.get? a)=.lst (vs.toList.map f):=by
 rw[e]
 exact if_neg fun q=>(show ¬Value.type "list" = Value.type "tuple" by decide) ((qDo _ _).mp q)
theorem VR.back(nd:X.names.Nodup){h:Heap}:∀(n:Nat) {v:Value}{a:AV},VR X ψ φ h v a->qAM n a=true->ofVal X h n v=a
 | 0,v,a,r,c=>by
  induction a using AV.casesOn with
  |none=>obtain rfl:=r;rfl
  |int=>obtain⟨t,rfl⟩:=r;rfl
  |str=>obtain⟨y,t,rfl,e⟩:=r;exact congrArg AV.str (qJx nd e)
  |_=>exact nomatch c
 |k+1,v,a,r,c=>by
  induction a using AV.casesOn with
  |none=>obtain rfl:=r;rfl
  |int=>obtain⟨t,rfl⟩:=r;rfl
  |str=>obtain⟨y,t,rfl,e⟩:=r;exact congrArg AV.str (qJx nd e)
  |tup l=>obtain⟨a,vs,n,rfl,e,_,_,_,r⟩:=r;exact(qOE e).trans (congrArg AV.tup (r.back (VR.back nd k) (List.all_eq_true.mp c)))
  |lst l=>obtain⟨a,vs,n,rfl,e,_,_,_,r⟩:=r;exact(qOF e).trans (congrArg AV.lst (r.back (VR.back nd k) (List.all_eq_true.mp c)))
  |_=>exact nomatch c
theorem VR.fn(nd:X.names.Nodup){h:Heap}(n:Nat){v:Value}{a b:AV}(ra:VR X ψ φ h v a)(rb:VR X ψ φ h v b)(ca:qAM n a=true)(cb:qAM n b=true):a=b:=(ra.back nd n ca).symm.trans (rb.back nd n cb)
theorem qLP(G:GW X base){x y:Value}{a b:AV}{Q:Value->Shared->Prop}(hu:A.units+64<cLine)
 (ia:Is X s.heap x a)(ib:Is X s.heap y b)(ca:a.clean=true)(cb:b.clean=true)(h:Q (.bool (a.beq b)) s):wpAny (model prog w) A (compareOp .Eq x y) Q E s:=by
 obtain⟨as,ra⟩:=ia.reads
 obtain⟨bs,rb⟩:=ib.reads
 have z:=qL8 G ia ib ca cb
 exact eq_dataH ra rb z.2.1 z.2.2 hu (by rw[z.1];exact h)
theorem qHl(G:GW X base){x y:Value}{a b:AV}(hu:A.units+64<cLine)
 (ia:Is X s.heap x a)(ib:Is X s.heap y b)(ca:a.clean=true)(cb:b.clean=true):wpAny (model prog w) A (richCompare .Eq x y) (fun v s'=>v=.bool (a.beq b)/\s'=s) E s:=qLP G hu ia ib ca cb ⟨rfl,rfl⟩
theorem qMg{h:Heap}{x:Value}{a:AV}(r:VR X ψ φ h x a):(∃p,x=.ref p)\/(∃i t,x=.int i t)\/(∃i t,x=.str i t)\/(∃b,x=.bool b)\/x=.none:=by
 delta ψ φ h x a at r
 induction a using AV.casesOn with
 |none=>exact .inr (.inr (.inr (.inr r)))
 |bool=>exact .inr (.inr (.inr (.inl ⟨_,r⟩)))
 |int=>exact .inr (.inl ⟨_,r⟩)
 |str=>obtain⟨y,t,rfl,_⟩:=r;exact .inr (.inr (.inl ⟨_,_,rfl⟩))
 |tup=>obtain⟨a,_,_,rfl,_⟩:=r;exact .inl ⟨a,rfl⟩
 |lst=>obtain⟨a,_,_,rfl,_⟩:=r;exact .inl ⟨a,rfl⟩
 |ref=>obtain⟨a,rfl,_⟩:=r;exact .inl ⟨a,rfl⟩
 |inst=>obtain⟨a,_,_,rfl,_⟩:=r;exact .inl ⟨a,rfl⟩
 |rng=>obtain⟨a,_,_,_,rfl,_⟩:=r;exact .inl ⟨a,rfl⟩
 |sset=>obtain⟨a,_,_,_,_,_,rfl,_⟩:=r;exact .inl ⟨a,rfl⟩
theorem qAQ(G:GW X base)(R:A.units+64<cLine){x y:Value}{a b:AV}{Q:Bool->Shared->Prop}(ra:VR X ψ φ s.heap x a)(rb:VR X ψ φ s.heap y b)(ca:a.clean=true)(cb:b.clean=true)(h:Q (a.beq b) s) :
  wpAny (model prog w) A (eqBool x y) Q E s:=by
 delta A ψ φ s E x y a b Q at G R ra rb ca cb h
 unfold eqBool
 try with_reducible refine wpAny_holding ?_
 by_cases hab:(x==y)=true
 .rw [if_pos hab]
  obtain rfl:x=y:=eq_of_beq hab
  obtain rfl:=VR.fn G.nd 8 ra rb ca cb
  rw[(AV.beq_iff a a).mpr rfl]at h
  exact wpAny_bind (wpAny_rule (wpAny_pure h))
 .rw [if_neg hab]
  have key:wpAny (model prog w) A (truthOfDropped =<< richCompare .Eq x y) Q E s:=by
   refine wpAny_bind (qA1 (qHl G R (ra.isOf ca) (rb.isOf cb) ca cb) ?_)
   intros v s';intro q
   obtain⟨rfl,rfl⟩:=q
   exact wpAny_truthy_bool h
  rcases qMg ra with⟨_,rfl⟩|⟨_,_,rfl⟩|⟨_,_,rfl⟩|⟨_,rfl⟩|rfl<;>exact key
structure SignOk (X:CX):Prop where
 lt:∀i j x y,7<=i->i<=10->7<=j->j<=10->X.names[i]?=some x->X.names[j]?=some y->decide (x.cps.toList<y.cps.toList)=decide (i<j)
theorem qKx{A B C:Prop} [Decidable A] [Decidable B] [Decidable C](n:B->¬A):decide (A\/B/\C)=if B then decide C else decide A:=by
 by_cases b:B
 .rw [if_pos b];exact qFo ⟨fun h=>h.elim (fun a=>absurd a (n b)) (·.2),fun c=>.inr ⟨b,c⟩⟩
 .rw [if_neg b];exact qFo ⟨fun h=>h.elim id fun q=>absurd q.1 b,.inl⟩
theorem qKr(i i' k k':Int)(b b':Nat):ltKey (.tup [.int i,.str b,.int k]) (.tup [.int i',.str b',.int k'])=if i=i' then(if b=b' then decide (k<k')else decide (b<b'))else decide (i<i'):=by
 rw[<-qKx (A:=b<b') (B:=b=b') (fun e a=>Nat.ne_of_lt a e),<-qKx (A:=i<i') (B:=i=i') (fun e a=>Int.ne_of_lt a e)]
 exact qFo Iff.rfl
theorem qOK(x x' i i' k k':Int)(b b':Nat):ltKey (.tup [.int x,.tup [.int i,.str b,.int k]]) (.tup [.int x',.tup [.int i',.str b',.int k']])=if x=x' then ltKey (.tup [.int i,.str b,.int k]) (.tup [.int i',.str b',.int k'])else decide (x<x') :=
 qKx (A:=x<x') (B:=x=x') (fun e a=>Int.ne_of_lt a e)
theorem qMB{h:Heap}{v:Value}{a b c:AV}(r:VR X ψ φ h v (.tup [a,b,c])):∃p n x y z,v=.ref p/\h.get? p=some (seqObj "tuple" #[x,y,z] n)/\VR X ψ φ h x a/\VR X ψ φ h y b/\VR X ψ φ h z c:=by
 delta ψ φ h v a b c at r
 obtain⟨p,vs,n,rfl,e,_,_,_,x,w1,z1,r1,y,w2,z2,r2,z,w3,z3,r3,z4⟩:=r
 have q:vs=#[x,y,z]:=Array.toList_inj.mp (by rw[z1,z2,z3,z4])
 exact⟨p,n,x,y,z,rfl,q▸e,r1,r2,r3⟩
theorem qNL{h:Heap}{v:Value}{a b:AV}(r:VR X ψ φ h v (.tup [a,b])):∃p n x y,v=.ref p/\h.get? p=some (seqObj "tuple" #[x,y] n)/\VR X ψ φ h x a/\VR X ψ φ h y b:=by
 delta ψ φ h v a b at r
 obtain⟨p,vs,n,rfl,e,_,_,_,x,w1,z1,r1,y,w2,z2,r2,z4⟩:=r
 have q:vs=#[x,y]:=Array.toList_inj.mp (by rw[z1,z2,z4])
 exact⟨p,n,x,y,rfl,q▸e,r1,r2⟩
theorem qEk{h:Heap}{v:Value}{i k:Int}{b:Nat}(r:VR X ψ φ h v (.tup [.int i,.str b,.int k])) :
  ∃(a:Addr) (n:Nat) (t u:Tok) (x:Str) (t2:Tok),v=.ref a/\h.get? a=some (seqObj "tuple" #[.int i t,.str x t2,.int k u] n)/\X.names[b]?=some x:=by
 delta ψ φ h v i k b at r
 (injection (qMB r)with p n ζ_1 ζ_2 ζ_3;rintro⟨rfl,e,⟨t,rfl⟩,⟨x,t2,rfl,hx⟩,⟨u,rfl⟩⟩)
 exact⟨p,n,t,u,x,t2,rfl,e,hx⟩
theorem str_beq(a b:Nat):(AV.str a).beq (.str b)=decide (a=b):=Bool.eq_iff_iff.mpr ((AV.beq_iff _ _).trans ((AV.str.injEq a b).to_iff.trans decide_eq_true_iff.symm))
theorem qOO(G:GW X base)(N:SignOk X)(R:A.units+64<cLine){fin c0:Bool}{Q:Bool->Shared->Prop}{i i' k k':Int}{t u t' u':Tok}{x x':Str}{t2 t2':Tok}{b b':Nat}(hx:X.names[b]?=some x)(hx':X.names[b']?=some x')(h7:7<=b/\b<=10)(h7':7<=b'/\b'<=10)
 (hb:¬(i=i'/\b=b'/\k=k'))(h:Q (ltKey (.tup [.int i,.str b,.int k]) (.tup [.int i',.str b',.int k'])) s) :
  KatLex prog w A c0 fin Q [(.int i t,.int i' t'),(.str x t2,.str x' t2'),(.int k u,.int k' u')] 0 s:=by
 rw[qKr]at h
 have ei:=qAQ (A:=A) (s:=s) (E:=fun _ _=>False) (ψ:=[]) (φ:=[]) (Q:=KatGo prog w A c0 fin Q (.int i t) (.int i' t') [(.str x t2,.str x' t2'),(.int k u,.int k' u')] 0) G R (VR.int i t) (VR.int i' t') rfl rfl
 refine kat_cons (ei ?_)
 rw[int_beq]
 by_cases q1:i=i'
 .rw [decide_eq_true q1]
  rw[if_pos q1]at h
  refine kat_yes (kat_cons (qAQ (ψ:=[]) (φ:=[]) G R (VR.str t2 hx) (VR.str t2' hx') rfl rfl ?_))
  rw[str_beq]
  by_cases q2:b=b'
  .rw [decide_eq_true q2]
   rw[if_pos q2]at h
   refine kat_yes (kat_cons (qAQ (ψ:=[]) (φ:=[]) G R (VR.int k u) (VR.int k' u') rfl rfl ?_))
   rw[int_beq,decide_eq_false fun q3=>hb ⟨q1,q2,q3⟩]
   refine kat_no ?_
   have:(c0&&(0+1+1==0))=false:=Bool.and_false _
   rw[this]
   exact kat_one _ _ (_root_.PyProof.Rows.lt_int h)
  .rw [decide_eq_false q2]
   rw[if_neg q2]at h
   refine kat_no ?_
   have:(c0&&(0+1==0))=false:=Bool.and_false _
   rw[this]
   refine kat_one _ _ (_root_.PyProof.Rows.lt_str ?_)
   show Q (decide (x.cps.toList<x'.cps.toList)) s
   rw[N.lt b b' x x' h7.1 h7.2 h7'.1 h7'.2 hx hx']
   exact h
 .rw [decide_eq_false q1]
  rw[if_neg q1]at h
  refine kat_no ?_
  cases c0 with
  |true=>exact oneLt_int h
  |false=>exact kat_one _ _ (_root_.PyProof.Rows.lt_int h)
end
end
section
section
variable{A:Around}{ψ φ φ9:List Addr}{H H' H₁:AHeap}{s s8:Shared}{d:Nat}{E:Value->Shared->Prop}
theorem qHx(G:GW X base)(N:SignOk X)(R:A.units+64<cLine){a a':Addr}{n n':Nat}{i i' k k':Int}{t u t' u':Tok}{x x':Str}{t2 t2':Tok}{b b':Nat}{P:PySem.Fin->Shared->Prop}
 (e:s.heap.get? a=some (seqObj "tuple" #[.int i t,.str x t2,.int k u] n))(e':s.heap.get? a'=some (seqObj "tuple" #[.int i' t',.str x' t2',.int k' u'] n'))(hx:X.names[b]?=some x)(hx':X.names[b']?=some x')
 (h7:7<=b/\b<=10)(h7':7<=b'/\b'<=10)(hb:¬(i=i'/\b=b'/\k=k'))(h:P (.done (.ret (.bool (ltKey (.tup [.int i,.str b,.int k]) (.tup [.int i',.str b',.int k']))))) s) :
  wpAny (model prog w) A (Builtin.«tuple.__lt__» ⟨[.ref a,.ref a'],[]⟩) P E s:=by
 revert G N R e e' hx hx' h7 h7' hb h
 revert A s E a a' n n' i i' k k' t u t' u' x x' t2 t2' b b' P
 intros A s E a a' n n' i i' k k'
 intros t u t' u' x x' t2 t2' b b' P
 intro G N R e e' hx hx' h7 h7' hb h
 have hTb:s.TypeIs (.ref a') "tuple":=⟨_,e',rfl⟩
 rw[qKr]at h
 show wpAny _ _ (isInstance (.ref a') (.type "tuple") >>= _) _ _ s
 refine wpAny_bind (wpAny_isInstance hTb isSubtype_tuple_tuple ?_)
 refine wpAny_bind (wpAny_tupleItemsOf e rfl ?_)
 refine wpAny_bind (wpAny_tupleItemsOf e' rfl ?_)
 refine wpAny_bind ?_
 simp only[List.zip_cons_cons,List.zip_nil_right,List.forIn_cons,List.forIn_nil]
 refine wpAny_bind (wpAny_bind (qAQ (ψ:=[]) (φ:=[]) G R (VR.int i t) (VR.int i' t') rfl rfl ?_))
 rw[int_beq]
 by_cases q1:i=i'
 .rw [decide_eq_true q1]
  rw[if_pos q1]at h
  simp only[Bool.not_true,Bool.false_eq_true,if_false]
  refine wpAny_pure ?_
  dsimp only
  refine wpAny_bind (wpAny_bind (qAQ (ψ:=[]) (φ:=[]) G R (VR.str t2 hx) (VR.str t2' hx') rfl rfl ?_))
  rw[str_beq]
  by_cases q2:b=b'
  .rw [decide_eq_true q2]
   rw[if_pos q2]at h
   simp only[Bool.not_true,Bool.false_eq_true,if_false]
   refine wpAny_pure ?_
   dsimp only
   refine wpAny_bind (wpAny_bind (qAQ (ψ:=[]) (φ:=[]) G R (VR.int k u) (VR.int k' u') rfl rfl ?_))
   rw[int_beq,decide_eq_false fun q3=>hb ⟨q1,q2,q3⟩]
   simp only[Bool.not_false,if_true]
   refine wpAny_bind (wpAny_rule (wpAny_bind (show wpAny (model prog w) A (richCompare .Lt (.int k u) (.int k' u')) _ E s from _root_.PyProof.Rows.lt_int ?_)))
   exact wpAny_bind (wpAny_pure (wpAny_pure (wpAny_pure (wpAny_pure h))))
  .rw [decide_eq_false q2]
   rw[if_neg q2]at h
   simp only[Bool.not_false,if_true]
   refine wpAny_bind (wpAny_rule (wpAny_bind (show wpAny (model prog w) A (richCompare .Lt (.str x t2) (.str x' t2')) _ E s from _root_.PyProof.Rows.lt_str ?_)))
   have:=N.lt b b' x x' h7.1 h7.2 h7'.1 h7'.2 hx hx'
   rw[<-this]at h
   exact wpAny_bind (wpAny_pure (wpAny_pure (wpAny_pure (wpAny_pure h))))
 .rw [decide_eq_false q1]
  rw[if_neg q1]at h
  simp only[Bool.not_false,if_true]
  refine wpAny_bind (wpAny_rule (wpAny_bind (show wpAny (model prog w) A (richCompare .Lt (.int i t) (.int i' t')) _ E s from _root_.PyProof.Rows.lt_int ?_)))
  exact wpAny_bind (wpAny_pure (wpAny_pure (wpAny_pure (wpAny_pure h))))
theorem qPM(G:GW X base)(N:SignOk X)(R:A.units+70<cLine){a a':Addr}{n n':Nat}{i i' k k':Int}{t u t' u':Tok}{x x':Str}{t2 t2':Tok}{b b':Nat}{Q:Value->Shared->Prop}
 (e:s.heap.get? a=some (seqObj "tuple" #[.int i t,.str x t2,.int k u] n))(e':s.heap.get? a'=some (seqObj "tuple" #[.int i' t',.str x' t2',.int k' u'] n'))(hx:X.names[b]?=some x)(hx':X.names[b']?=some x')
 (h7:7<=b/\b<=10)(h7':7<=b'/\b'<=10)(hb:¬(i=i'/\b=b'/\k=k'))(h:Q (.bool (ltKey (.tup [.int i,.str b,.int k]) (.tup [.int i',.str b',.int k']))) s) :
  wpAny (model prog w) A (compareOp .Lt (.ref a) (.ref a')) Q E s:=by
 have hT:s.TypeIs (.ref a) "tuple":=⟨_,e,rfl⟩
 have hT':s.TypeIs (.ref a') "tuple":=⟨_,e',rfl⟩
 show wpAny (model prog w) A (richCompare .Lt (.ref a) (.ref a')) Q E s
 refine wpAny_richCompare_same_room (op:=.Lt) hT hT' PySem.F.slot_tuple_lt (wpAny_call_entry PySem.F.slot_tuple_lt hT PySem.F.entry_tuple_lt (qHx G N (by show A.units+1+64<_;lia) e e' hx hx' h7 h7' hb ?_) (PySem.F.args_tuple_lt_2 _ _)) (by lia)
 exact⟨_,rfl,(fun z=>nomatch z),h⟩
theorem qBf{h:Heap}{vs:List Value}{l:List AV}(r:VRs X ψ φ h vs l){i:Nat}(hi:i<l.length):VR X ψ φ h (vs.getD i Value.none) (l.getD i .none):=by
 obtain⟨v,e,rv⟩:=r.get (List.getElem?_eq_getElem hi)
 rw[List.getD_eq_getElem?_getD,List.getD_eq_getElem?_getD,e,List.getElem?_eq_getElem hi]
 exact rv
theorem qKm{l:List AV}(nd:l.Nodup){i j:Nat}(hi:i<l.length)(hj:j<l.length)(hij:i≠j):l.getD i .none≠l.getD j .none:=by
 rw[List.getD_eq_getElem?_getD,List.getD_eq_getElem?_getD,List.getElem?_eq_getElem hi,List.getElem?_eq_getElem hj]
 intro e
 exact hij ((List.getElem_inj nd).mp e)
theorem qCO{l:List AV}{i:Nat}(h:i<l.length):l.getD i .none∈l:=by
 rw[List.getD_eq_getElem?_getD,List.getElem?_eq_getElem h];exact List.getElem_mem h
theorem qPj{vs:List Value}{l:List AV}(r:VRs X ψ φ s.heap vs l)(hk:l.all isK1=true){i j:Nat}(hi:i<l.length)(hj:j<l.length){C:Bool->Shared->Prop}(h:C (ltKey (l.getD i .none) (l.getD j .none)) s) :
  kas_ask prog w A oneType' vs i j C s:=by
 unfold kas_ask
 have ri:=qBf r hi
 have rj:=qBf r hj
 obtain⟨x,ex⟩:=qEI (List.all_eq_true.mp hk _ (qCO hi))
 obtain⟨y,ey⟩:=qEI (List.all_eq_true.mp hk _ (qCO hj))
 rw[ex]at ri h
 rw[ey]at rj h
 obtain⟨t,ri⟩:=ri
 obtain⟨t',rj⟩:=rj
 rw[ri,rj]
 exact kat_lt_int h
theorem qPi(G:GW X base)(N:SignOk X)(R:A.units+70<cLine){vs:List Value}{l:List AV}(r:VRs X ψ φ s.heap vs l)(hk:l.all isK2=true)(nd:l.Nodup){i j:Nat}(hi:i<l.length)(hj:j<l.length)(hij:i≠j){C:Bool->Shared->Prop}
 (h:C (ltKey (l.getD i .none) (l.getD j .none)) s):kas_ask prog w A (tuples' true) vs i j C s:=by
 delta A ψ φ s vs l i j C at G N R r hk nd hi hj hij h
 unfold kas_ask
 have ri:=qBf r hi
 have rj:=qBf r hj
 have hne:=qKm nd hi hj hij
 (injection (qC9 (List.all_eq_true.mp hk _ (qCO hi)))with p;rintro⟨ex,h7⟩)
 (injection (qC9 (List.all_eq_true.mp hk _ (qCO hj)))with q;rintro⟨ey,h7'⟩)
 rw[ex]at ri h hne
 rw[ey]at rj h hne
 (injection (qEk ri)with ζ_1 n t u x;intro H_;injection H_ with t2;clear H_;rintro⟨e1,e2,hx⟩)
 (injection (qEk rj)with ζ_1 n' t' u' x';intro H_;injection H_ with t2';clear H_;rintro⟨e1',e2',hx'⟩)
 rw[e1,e1']
 refine kat_lt e2 rfl e2' rfl ?_
 exact qOO G N (Nat.lt_of_le_of_lt (Nat.add_le_add_left (by decide) _) R) hx hx' h7 h7' (fun z=>hne (congrArg litV (Prod.ext z.1 (Prod.ext z.2.1 z.2.2)))) h
theorem qPh(G:GW X base)(N:SignOk X)(R:A.units+70<cLine){vs:List Value}{l:List AV}(r:VRs X ψ φ s.heap vs l)(hk:l.all isK3=true)(nd:l.Nodup){i j:Nat}(hi:i<l.length)(hj:j<l.length)(hij:i≠j){C:Bool->Shared->Prop}
 (h:C (ltKey (l.getD i .none) (l.getD j .none)) s):kas_ask prog w A (tuples' true) vs i j C s:=by
 delta A ψ φ s vs l i j C at G N R r hk nd hi hj hij h
 unfold kas_ask
 have R':A.units+64<cLine:=Nat.lt_of_le_of_lt (Nat.add_le_add_left (by decide) _) R
 have ri:=qBf r hi
 have rj:=qBf r hj
 have hne:=qKm nd hi hj hij
 (injection (qH4 (List.all_eq_true.mp hk _ (qCO hi)))with z1 p;rintro⟨ex,h7⟩)
 (injection (qH4 (List.all_eq_true.mp hk _ (qCO hj)))with z2 q;rintro⟨ey,h7'⟩)
 rw[ex]at ri h hne
 rw[ey]at rj h hne
 (injection (qNL ri)with ζ_1 n ζ_2 x;rintro⟨vi,e1,⟨t,rfl⟩,rb⟩)
 (injection (qNL rj)with ζ_1 n' ζ_2 x';rintro⟨vj,e1',⟨t',rfl⟩,rd⟩)
 rw[vi,vj]
 refine kat_lt e1 rfl e1' rfl (kat_cons (qAQ (ψ:=[]) (φ:=[]) G R' (VR.int z1 t) (VR.int z2 t') rfl rfl ?_))
 rw[int_beq]
 have h:C (if z1=z2 then ltKey (litV p) (litV q)else decide (z1<z2)) s:=(qOK _ _ _ _ _ _ _ _)▸h
 by_cases q1:z1=z2
 .rw [decide_eq_true q1]
  rw[if_pos q1]at h
  have hn:p≠q:=fun q2=>hne (by rw[q1,q2])
  have hb:(litV p).beq (litV q)=false:=Bool.not_eq_true _▸fun z=>hne (by rw[q1,(AV.beq_iff _ _).mp z])
  refine kat_yes (kat_cons (qAQ G R' rb rd rfl rfl ?_))
  rw[hb]
  refine kat_no ?_
  (injection (qEk rb)with p1 n1 t u x;intro H_;injection H_ with t2;clear H_;rintro⟨e3,e4,hx⟩)
  (injection (qEk rd)with p2 n2 t' u' x';intro H_;injection H_ with t2';clear H_;rintro⟨e3',e4',hx'⟩)
  rw[e3,e3']
  exact kat_one _ _ (qPM G N R e4 e4' hx hx' h7 h7' (fun z=>hn (Prod.ext z.1 (Prod.ext z.2.1 z.2.2))) h)
 .rw [decide_eq_false q1]
  rw[if_neg q1]at h
  exact kat_no (oneLt_int h)
end
end
section
section
variable{A:Around}{ψ φ φ9:List Addr}{H H' H₁:AHeap}{s s8:Shared}{d:Nat}{E:Value->Shared->Prop}
theorem VRs.maps{h:Heap}{vs:List Value}{l:List AV}(r:VRs X ψ φ h vs l):∀{p:List Nat},(∀i∈p,i<l.length)->VRs X ψ φ h (p.map fun i=>vs.getD i Value.none) (p.map fun i=>l.getD i .none)
 |[],_=>.nil
 |i::p,hp=>.cons (qBf r (hp i (.head _))) (VRs.maps r fun j hj=>hp j (.tail _ hj))
theorem qJL{h:Heap}{vs:List Value}{l:List AV}(r:VRs X ψ φ h vs l)(hk:l.all isK1=true){M:Model}:∀v∈vs,Looks M h (typeOf v) (.type "int"):=by
 intro v hv
 obtain⟨t,e⟩:=qIC r hk v hv
 rw[e]
 exact Looks.of_pure rfl
theorem qJq{h:Heap}:∀{l:List AV}{vs:List Value},VRs X ψ φ h vs l->(∀a∈l,∃i r,a=.tup (.int i::r))->∃fs:List Value,KatTups h vs fs/\(∀v∈fs,∃i t,v=.int i t)/\fs.length=vs.length
 |[],_,r,_=>by obtain rfl:=r;exact⟨[],KatTups.nil,(fun _ q=>nomatch q),rfl⟩
 |a::l,_,r,hk=>by
  obtain⟨v,ws,rfl,r,rs⟩:=r
  obtain⟨fs,k,hf,hl⟩:=qJq rs fun b hb=>hk b (.tail _ hb)
  obtain⟨i,rest,rfl⟩:=hk a (.head _)
  obtain⟨p,vp,n,rfl,e,_,_,_,v0,vr,z,⟨t,rfl⟩,_⟩:=r
  refine⟨.int i t::fs,KatTups.cons e rfl rfl ?_ k,fun v hv=>?_,congrArg (·+1) hl⟩
  .rw [<-Array.getElem?_toList,z];rfl
  .cases hv with
   |head=>exact⟨i,t,rfl⟩
   |tail _ hv=>exact hf v hv
theorem qMK:∀{l:List AV},l.length<2->qAD l=l
 |[],_=>rfl
 |[x],_=>rfl
 |_::_::_,h=>by simp at h;lia
theorem Out.drawn{dr:Drawn}{x:Value}{v:AV}{s':Shared}(o:Out X prog w base ψ φ { s with drawn:=dr } v H x s'):Out X prog w base ψ φ s v H x s' :=
 let⟨φ1,p,r⟩:=o
 ⟨φ1,⟨p.same,p.grow,p.sr⟩,r⟩
theorem qK2{h:Heap}{vs:List Value}{l:List AV}(G:GW X base)(N:SignOk X)(R:A.units+70<cLine)(hso:qAn l=true)(nd:l.Nodup){s:Shared}(r:VRs X ψ φ s.heap vs l)(h2:2<=vs.length){p:Array Nat}
 (hp:runT (fun i j=>ltKey (l.getD i .none) (l.getD j .none)) l.length (kas_sort l.length)=some p){K:Array Nat->Shared->Prop}(fin:K p s) :
  wpAny (model prog w) A (keyKind' vs.toArray) (fun κ s'=>(kas_sort vs.length).kasWp (kas_ask prog w A κ vs) K s') (fun _ _=>False) s:=by
 have go:∀{κ},(∀{i j:Nat}{C:Bool->Shared->Prop},i<l.length->j<l.length->i≠j->C (ltKey (l.getD i .none) (l.getD j .none)) s->kas_ask prog w A κ vs i j C s)->(kas_sort vs.length).kasWp (kas_ask prog w A κ vs) K s:=fun{κ} ask=>by
  rw[r.length]
  exact qKE (I:=fun s''=>s''=s) (p:=p) (fun i j C s'' hi hj hij hs hC=>by rw[hs];exact ask hi hj hij (hC _ rfl)) (fun s'' z=>z▸fin) _ _ hp rfl
 have tups:(∀a∈l,∃i r,a=.tup (.int i::r))->(∀{i j:Nat}{C:Bool->Shared->Prop},i<l.length->j<l.length->i≠j->C (ltKey (l.getD i .none) (l.getD j .none)) s->kas_ask prog w A (tuples' true) vs i j C s)->wpAny (model prog w) A (keyKind' vs.toArray) (fun κ s'=>(kas_sort vs.length).kasWp (kas_ask prog w A κ vs) K s') (fun _ _=>False) s:=fun hk ask=>by
  obtain⟨fs,hf1,hf2,hf3⟩:=qJq r hk
  refine kat_kind (T:=.type "int") hf1 (hf3▸Nat.lt_of_lt_of_le (by decide) h2) (fun v hv=>by obtain⟨i,t,rfl⟩:=hf2 v hv;exact Looks.of_pure rfl) (by decide) ?_
  rw[(by decide:(Value.type "int" != Value.type "tuple")=true)]
  exact go ask
 rcases Bool.or_eq_true_iff.mp hso with hk|hk
 rcases Bool.or_eq_true_iff.mp hk with hk|hk
 .exact kas_kind h2 (fun v hv=>qJL r hk v hv) (by decide) (by decide) (go fun hi hj _ hC=>qPj r hk hi hj hC)
 .refine tups (fun a ha=>?_) fun hi hj hij hC=>qPi G N R r hk nd hi hj hij hC
  obtain⟨q,rfl,_⟩:=qC9 (List.all_eq_true.mp hk a ha);exact⟨_,_,rfl⟩
 .refine tups (fun a ha=>?_) fun hi hj hij hC=>qPh G N R r hk nd hi hj hij hC
  obtain⟨x,q,rfl,_⟩:=qH4 (List.all_eq_true.mp hk a ha);exact⟨_,_,rfl⟩
theorem qDZ{dr:Drawn}(G:GW X base)(N:SignOk X)(R:Room d A)(trk:Bool){x:Value}{l m:List AV}(S:SR X prog w base ψ φ H s.heap)(e:qAY l=some m)
 (hcol:∀{E:Value->Shared->Prop}{Q':List Value->Shared->Prop},(∀vs h' tk,VRs X ψ φ s.heap vs l->(∀b o,s.heap.get? b=some o->h'.get? b=some o)->Q' vs { s with heap:=h',toks:=tk,drawn:=dr })->wpAny (model prog w) A.in1 (collect x) Q' E s) :
  wpAny (model prog w) A (call (.builtin "sorted") [x]) (Out X prog w base ψ φ s (qAC trk m H).1 (qAC trk m H).2) NoE s:=by
 delta A ψ φ H s d dr trk x l m at G N R S e hcol
 obtain⟨hc,e⟩:=qA9 e
 obtain rfl:=Option.some.inj e
 have hc:=Bool.and_eq_true_iff.mp hc
 have hc1:=Bool.and_eq_true_iff.mp hc.1
 have hso:=hc1.1
 have hn:=of_decide_eq_true hc1.2
 have nd:=qBB.mp hc.2
 have hml:(qAD l).length=l.length:=(qAP l).length_eq
 have hm:(qAD l).length<1000001:=by rw[hml];exact Nat.lt_trans hn (by decide)
 have gt3:∀{D:Addr},(∀b o,s.heap.get? b=some o->b<D)->3<D:=fun h=>by
  (injection (G.g)with mg;rintro⟨o,_,_,e,_⟩)
  exact h _ o (S.keep _ _ e)
 have noD:∀{D:Addr},(∀b o,s.heap.get? b=some o->b<D)->s.heap.get? D=none:=fun{D} h=>by
  cases q:s.heap.get? D with
  |none=>rfl
  |some o=>exact absurd (h D o q) (Nat.lt_irrefl _)
 have out:∀{D:Addr}{h':Heap}{tk c}{vs:List Value},(∀b o,s.heap.get? b=some o->b<D)->(∀b o,s.heap.get? b=some o->h'.get? b=some o)->h'.get? D=some (seqObj "list" vs.toArray c)->VRs X ψ φ s.heap vs (qAD l)->Out X prog w base ψ φ s (qAC trk (qAD l) H).1 (qAC trk (qAD l) H).2 (.ref D) { s with heap:=h',toks:=tk,drawn:=dr } :=
  fun{D h' tk c vs} hD kp eD r=>Out.drawn (dr:=dr)<|qCK (s:={ s with drawn:=dr }) (k:=tk) (n:=c) G trk S kp (noD hD) (gt3 hD) eD r hm
 refine qJz (C:=fun vs=>VRs X ψ φ s.heap vs l) (fun vs r=>by rw[r.length];exact Nat.lt_trans hn (by decide)) (fun h=>hcol h) (fun vs r h2 D h' tk c hD kp eD=>out hD kp eD ?_) ?_
 .rw [qMK (r.length▸h2)];exact r
 .intros vs;intro r h2;intros D e1 h' tk;intro hD kp eD
  (injection (qK0 (qG2 hso) nd hn)with p;rintro⟨hp1,hp2,hp3⟩)
  refine qK2 (s:={ s with heap:=h',toks:=tk,drawn:=dr }) (h:=s.heap) G N (by have:=R.units;show A.units+1+1+70<_;lia) hso nd (r.grow0 (Grow.of_keep kp)) h2 hp1 ⟨eD,?_⟩
  intros h3 c;intro e3 sb
  refine out hD (fun b o eb=>(sb.2 b (Nat.ne_of_lt (hD b o eb))).trans (kp b o eb)) e3 ?_
  rw[<-hp2]
  exact r.maps hp3
end
end
end Internal
end
section
open PySem PySem.W PyProof.Rows
namespace Internal
section
open SetTable
noncomputable def Mask(m:Nat):Prop:=m=7\/m=31
noncomputable def adv(mask:Nat)(p:Probe):Probe :=
 if p.more>0 then{ p with j:=p.j+1,more:=p.more-1 }else{ p with j:=(leap mask p.i p.perturb).1,more:=runEnd mask (leap mask p.i p.perturb).1-(leap mask p.i p.perturb).1,i:=(leap mask p.i p.perturb).1,perturb:=(leap mask p.i p.perturb).2 }
noncomputable def qAh(mask:Nat)(h:Int):Probe:={ j:=bits h % (mask+1),more:=runEnd mask (bits h % (mask+1))-bits h % (mask+1),i:=bits h % (mask+1),perturb:=bits h,dummy:=none }
noncomputable def iterP(mask:Nat)(p:Probe):Nat->Probe
 | 0=>p
 |k+1=>adv mask (iterP mask p k)
noncomputable def visit(mask:Nat)(h:Int)(k:Nat):Nat:=(iterP mask (qAh mask h) k).j
noncomputable def runP(mask i perturb:Nat):Probe:={ j:=i,more:=runEnd mask i-i,i,perturb,dummy:=none }
theorem qPE(mask i:Nat):runEnd mask i-i<=9:=by
 unfold runEnd;split
 .rw [Nat.add_sub_cancel_left];exact Nat.le_refl _
 .rw [Nat.sub_self];exact Nat.zero_le _
theorem qEo(mask:Nat)(p:Probe)(a b:Nat):iterP mask p (a+b)=iterP mask (iterP mask p a) b:=by
 induction b with
 |zero=>rfl
 |succ b ih=>rw[Nat.add_succ];exact congrArg (adv mask) ih
theorem qG3(mask:Nat):∀(n j i q:Nat),iterP mask { j,more:=n,i,perturb:=q,dummy:=none } (n+1)=runP mask (leap mask i q).1 (leap mask i q).2
 | 0,j,i,q=>rfl
 |n+1,j,i,q=>by
  rw[Nat.add_comm (n+1) 1,qEo]
  have:iterP mask { j,more:=n+1,i,perturb:=q,dummy:=none } 1={ j:=j+1,more:=n,i,perturb:=q,dummy:=none }:=by
   show adv mask { j,more:=n+1,i,perturb:=q,dummy:=none }=_
   exact if_pos (Nat.succ_pos n)
  rw[this]
  exact qG3 mask n (j+1) i q
noncomputable def leaps(mask:Nat):Nat->Nat->Nat->Nat×Nat
 | 0,i,q=>(i,q)
 |L+1,i,q=>leap mask (leaps mask L i q).1 (leaps mask L i q).2
theorem qGm(mask i q:Nat):∀L,∃k,k<=10*L/\iterP mask (runP mask i q) k=runP mask (leaps mask L i q).1 (leaps mask L i q).2
 | 0=>⟨0,Nat.le_refl _,rfl⟩
 |L+1=>by
  obtain⟨k,hk,e⟩:=qGm mask i q L
  refine⟨k+(runEnd mask (leaps mask L i q).1-(leaps mask L i q).1+1),Nat.add_le_add hk (Nat.succ_le_succ (qPE mask _)),?_⟩
  rw[qEo,e]
  exact qG3 mask _ _ _ _
theorem qD8(mask i q:Nat):∀L,(leaps mask L i q).2=q / 32 ^ L
 | 0=>(Nat.div_one q).symm
 |L+1=>by
  show(leaps mask L i q).2 / 32=_
  rw[qD8 mask i q L,Nat.pow_succ,Nat.div_div_eq_div_mul]
noncomputable def cyc(mask:Nat):Nat->Nat->Nat
 | 0,i=>i
 |m+1,i=>(cyc mask m i*5+1) % (mask+1)
theorem qN7:((List.range 8).all fun i=>(List.range 8).all fun t=>(List.range 8).any fun m=>cyc 7 m i==t)=true:=by decide +kernel
theorem qLZ:((List.range 32).all fun i=>(List.range 32).all fun t=>(List.range 32).any fun m=>cyc 31 m i==t)=true:=by decide +kernel
theorem qLa{mask i t:Nat}(hm:Mask mask)(hi:i<=mask)(ht:t<=mask):∃m,m<=mask/\cyc mask m i=t:=by
 delta mask i t at hm hi ht
 rcases hm with rfl|rfl
 .have:=List.any_eq_true.mp (List.all_eq_true.mp (List.all_eq_true.mp qN7 i (List.mem_range.mpr (by lia))) t (List.mem_range.mpr (by lia)))
  (injection (this)with m;rintro⟨hm,e⟩)
  exact⟨m,by have:=List.mem_range.mp hm;lia,by simpa using e⟩
 .have:=List.any_eq_true.mp (List.all_eq_true.mp (List.all_eq_true.mp qLZ i (List.mem_range.mpr (by lia))) t (List.mem_range.mpr (by lia)))
  (injection (this)with m;rintro⟨hm,e⟩)
  exact⟨m,by have:=List.mem_range.mp hm;lia,by simpa using e⟩
theorem qOn(h:Int):bits h<2 ^ 64:=(Int.toNat_lt (Int.emod_nonneg _ (by decide))).mpr (Int.emod_lt_of_pos _ (by decide))
theorem qDi(mask i:Nat)(h:Int):∀m,(leaps mask (13+m) i (bits h)).1=cyc mask m (leaps mask 13 i (bits h)).1
 | 0=>rfl
 |m+1=>by
  show((leaps mask (13+m) i (bits h)).1*5+1+(leaps mask (13+m) i (bits h)).2 / 32) % (mask+1)=(cyc mask m _*5+1) % (mask+1)
  rw[qDi mask i h m,qD8]
  have:bits h / 32 ^ (13+m)=0:=by
   apply Nat.div_eq_of_lt
   refine Nat.lt_of_lt_of_le (qOn h) ?_
   calc 2 ^ 64<=32 ^ 13:=by decide
    _<=32 ^ (13+m):=Nat.pow_le_pow_right (by decide) (Nat.le_add_right _ _)
  rw[this]
theorem qIb{mask:Nat}{i q:Nat}(hi:i<=mask):∀L,(leaps mask L i q).1<=mask
 | 0=>hi
 |L+1=>by show(_ % (mask+1))<=mask;exact Nat.le_of_lt_succ (Nat.mod_lt _ (Nat.succ_pos _))
theorem qJk{mask:Nat}(hm:Mask mask)(h:Int){t:Nat}(ht:t<=mask):∃k,k<10*turns mask/\visit mask h k=t:=by
 delta mask h t at hm ht
 have h0:bits h % (mask+1)<=mask:=Nat.le_of_lt_succ (Nat.mod_lt _ (Nat.succ_pos _))
 (injection (qLa (t:=t) hm (qIb h0 (q:=bits h) 13) ht)with m;rintro⟨h1,h2⟩)
 (injection (qGm mask (bits h % (mask+1)) (bits h) (13+m))with k;rintro⟨h3,h4⟩)
 refine⟨k,Nat.lt_of_le_of_lt h3 (Nat.mul_lt_mul_of_pos_left (by rw[Nat.add_comm 13];exact Nat.lt_of_le_of_lt (Nat.add_le_add_right h1 13) (Nat.add_lt_add_left (by decide) mask)) (by decide)),?_⟩
 show(iterP mask (runP mask _ _) k).j=t
 rw[h4]
 show(leaps mask (13+m) _ _).1=t
 rw[qDi,h2]
theorem qCJ{mask:Nat}(h:Int):∀k,visit mask h k<=mask/\visit mask h k+(iterP mask (qAh mask h) k).more<=mask/\(iterP mask (qAh mask h) k).dummy=none
 | 0=>by
  have h0:bits h % (mask+1)<=mask:=Nat.le_of_lt_succ (Nat.mod_lt _ (Nat.succ_pos _))
  refine⟨h0,?_,rfl⟩
  show bits h % (mask+1)+(runEnd mask (bits h % (mask+1))-bits h % (mask+1))<=mask
  unfold runEnd;split
  .rw [Nat.add_sub_cancel_left];exact ‹_›
  .rw [Nat.sub_self];exact h0
 |k+1=>by
  obtain⟨a,b,c⟩:=qCJ h k
  show(adv mask (iterP mask (qAh mask h) k)).j<=mask/\(adv mask (iterP mask (qAh mask h) k)).j+(adv mask (iterP mask (qAh mask h) k)).more<=mask/\(adv mask (iterP mask (qAh mask h) k)).dummy=none
  unfold visit at a b
  generalize iterP mask (qAh mask h) k=p at a b c
  unfold adv
  split
  .exact ⟨Nat.le_trans (Nat.add_le_add_left ‹_› p.j) b,by show p.j+1+(p.more-1)<=mask;rw[Nat.add_assoc,Nat.add_sub_of_le ‹_›];exact b,c⟩
  .have h0:(leap mask p.i p.perturb).1<=mask:=Nat.le_of_lt_succ (Nat.mod_lt _ (Nat.succ_pos _))
   refine⟨h0,?_,c⟩
   show(leap mask p.i p.perturb).1+(runEnd mask (leap mask p.i p.perturb).1-(leap mask p.i p.perturb).1)<=mask
   unfold runEnd;split
   .rw [Nat.add_sub_cancel_left];exact ‹_›
   .rw [Nat.sub_self];exact h0
end
section
open SetTable
theorem qDf(p n:Nat):min p n+(n-p+1)=n+1:=by
 rcases Nat.le_total p n with q|q
 .exact qOJ q
 .rw [Nat.min_eq_right q,Nat.sub_eq_zero_of_le q]
theorem qOV(xs:Array Nat)(j:Nat)(hr:xs.toList.Pairwise (·<·)):∀(fuel lo hi:Nat),hi<=xs.size->lo<=hi->hi-lo<=fuel->(∀i,i<lo->xs.getD i 0<j)->(∀i,hi<=i->i<xs.size->j<=xs.getD i 0) ->
  below.go xs j fuel lo hi<=xs.size/\(∀i,i<below.go xs j fuel lo hi->xs.getD i 0<j)/\(∀i,below.go xs j fuel lo hi<=i->i<xs.size->j<=xs.getD i 0):=by
 delta xs j at hr
 have mono:∀a b,a<b->b<xs.size->xs.getD a 0<xs.getD b 0:=by
  intros a b;intro hab hb
  have:=List.pairwise_iff_getElem.mp hr a b (by rw[Array.length_toList];lia) (by rw[Array.length_toList];exact hb) hab
  simp only[Array.getElem_toList]at this
  simp[Array.getD,show a<xs.size by lia,hb,this]
 intros fuel
 induction fuel with
 |zero =>
  (intros lo hi;intro h1 h2 h3 h4 h5)
  have:lo=hi:=by lia
  subst this
  exact⟨h1,h4,h5⟩
 |succ fuel ih =>
  delta fuel at ih
  (intros lo hi;intro h1 h2 h3 h4 h5)
  have e:below.go xs j (fuel+1) lo hi=(if lo<hi then(if xs.getD ((lo+hi) / 2) j<j then below.go xs j fuel ((lo+hi) / 2+1) hi else below.go xs j fuel lo ((lo+hi) / 2))else lo):=rfl
  rw[e]
  split
  .rename_i hlt
   rw[show xs.getD ((lo+hi) / 2) j=xs.getD ((lo+hi) / 2) 0 by simp[Array.getD,show(lo+hi) / 2<xs.size by lia]]
   split
   .rename_i hm
    have⟨m1,m2⟩:=qNW hlt
    refine ih _ _ h1 m2 (Nat.le_of_lt_succ (qEv (Nat.lt_succ_of_le h3) m1 m2)) (?_) h5
    intros i;intro hi'
    rcases Nat.lt_or_eq_of_le (Nat.le_of_lt_succ hi')with q|q
    .exact Nat.lt_trans (mono i _ q (by lia)) hm
    .rw [q];exact hm
   .rename_i hm
    have⟨m1,m2⟩:=qNW hlt
    refine ih _ _ (Nat.le_trans (Nat.le_of_lt m2) h1) m1 (Nat.le_of_lt_succ (Nat.lt_of_lt_of_le (Nat.sub_lt_sub_right m1 m2) h3)) h4 (?_)
    intros i;intro hi' hs
    rcases Nat.lt_or_eq_of_le hi' with q|q
    .exact Nat.le_trans (Nat.le_of_not_lt hm) (Nat.le_of_lt (mono _ i q hs))
    .rw [<-q];exact Nat.le_of_not_lt hm
  .rename_i hlt
   have:lo=hi:=by lia
   subst this
   exact⟨h1,h4,h5⟩
theorem qDt{xs:Array Nat}{j:Nat}(hr:xs.toList.Pairwise (·<·)):below xs j<=xs.size/\(∀i,i<below xs j->xs.getD i 0<j)/\(∀i,below xs j<=i->i<xs.size->j<=xs.getD i 0) :=
 qOV xs j hr xs.size 0 xs.size (Nat.le_refl _) (Nat.zero_le _) (by lia) (fun _ h=>absurd h (Nat.not_lt_zero _)) fun i h1 h2=>absurd h2 (by lia)
theorem qDP{xs:Array Nat}{i j:Nat}(hr:xs.toList.Pairwise (·<·))(h:xs[i]?=some j):below xs j=i:=by
 delta xs i j at hr h
 obtain⟨h1,h2,h3⟩:=qDt (j:=j) hr
 obtain⟨hi,e⟩:=Array.getElem?_eq_some_iff.mp h
 have ed:xs.getD i 0=j:=by simp[Array.getD,hi,e]
 have mono:∀a b,a<b->b<xs.size->xs.getD a 0<xs.getD b 0:=by
  intros a b;intro hab hb
  have:=List.pairwise_iff_getElem.mp hr a b (by rw[Array.length_toList];lia) (by rw[Array.length_toList];exact hb) hab
  simp only[Array.getElem_toList]at this
  simp[Array.getD,show a<xs.size by lia,hb,this]
 rcases Nat.lt_trichotomy (below xs j) i with q|q|q
 .have h4:=h3 _ (Nat.le_refl _) (by lia)
  have h5:=mono _ _ q hi
  lia
 .exact q
 .have:=h2 i q;lia
structure TI (t:SetTable) (hs:List Int):Prop where
 sz:t.place.size=hs.length
 dm:t.dummies=#[]
 mkk:(t.mask=7/\hs.length<=4)\/(t.mask=31/\hs.length<=6)
 rise:t.place.toList.Pairwise (·<·)
 le:∀j∈t.place.toList,j<=t.mask
 reach:∀p∈t.place.toList.zip hs,∃k,visit t.mask p.2 k=p.1/\∀k'<k,visit t.mask p.2 k'∈t.place.toList
theorem TI.mask{t hs}(T:TI t hs):Mask t.mask:=T.mkk.elim (fun h=>.inl h.1) fun h=>.inr h.1
theorem TI.few{t hs}(T:TI t hs):hs.length<=t.mask:=T.mkk.elim (fun h=>by lia) fun h=>by lia
theorem TI.fits{t hs}(T:TI t hs){n:Nat}(hn:n=hs.length):t.fits n=true:=by
 unfold SetTable.fits SetTable.fill
 rw[T.dm,T.sz,hn]
 have:=T.few
 simp;lia
theorem TI.slot_live{t hs}(T:TI t hs){i j:Nat}(h:t.place[i]?=some j):t.slot j=.live i:=by
 unfold slot
 rw[qDP T.rise h]
 simp[h]
theorem TI.slot_empty{t hs}(T:TI t hs){j:Nat}(h:j ∉ t.place.toList):t.slot j=.empty:=by
 unfold slot
 have:(t.place[below t.place j]?==some j)=false:=by
  rw[beq_eq_false_iff_ne]
  intro e
  exact h (by rw[<-Array.getElem?_toList]at e;exact List.mem_of_getElem? e)
 simp only[this]
 have hd:SetTable.has t.dummies j=false:=by rw[T.dm];simp[SetTable.has]
 rw[hd];rfl
theorem TI.slot_cases{t hs}(T:TI t hs)(j:Nat):(j ∉ t.place.toList/\t.slot j=.empty)\/∃i,t.place[i]?=some j/\t.slot j=.live i:=by
 by_cases h:j∈t.place.toList
 .obtain ⟨i,hi,e⟩:=List.getElem_of_mem h
  have:t.place[i]?=some j:=by rw[<-Array.getElem?_toList,List.getElem?_eq_getElem hi,e]
  exact .inr ⟨i,this,T.slot_live this⟩
 .exact .inl ⟨h,T.slot_empty h⟩
theorem qPH{l:List Nat}{n:Nat}(h:l.length<n):∃j,j<n/\j ∉ l:=by
 apply Decidable.byContradiction
 intro q
 have:List.range n ⊆ l:=fun j hj=>by
  apply Decidable.byContradiction
  intro z
  exact q ⟨j,List.mem_range.mp hj,z⟩
 have:=List.nodup_range.length_le_of_subset this
 rw[List.length_range]at this
 lia
theorem TI.ends{t hs}(T:TI t hs)(h:Int):∃k,k<10*turns t.mask/\visit t.mask h k ∉ t.place.toList/\∀k'<k,visit t.mask h k'∈t.place.toList:=by
 delta t hs h at T
 (injection (qPH (l:=t.place.toList) (n:=t.mask+1) (by rw[Array.length_toList,T.sz];have:=T.few;lia))with j;rintro⟨hj,hn⟩)
 (injection (qJk T.mask h (t:=j) (by lia))with k;rintro⟨hk,e⟩)
 have:∀n,(∃k,k<n/\visit t.mask h k ∉ t.place.toList)->∃k,k<n/\visit t.mask h k ∉ t.place.toList/\∀k'<k,visit t.mask h k'∈t.place.toList:=by
  intros n
  induction n with
  |zero=>(intro H_;injection H_ with k;clear H_;rintro⟨hk,_⟩);lia
  |succ n ih =>
   delta n at ih
   (intro H_;injection H_ with k;clear H_;rintro⟨hk,hv⟩)
   by_cases q:∃k,k<n/\visit t.mask h k ∉ t.place.toList
   ·(injection (ih q)with k;rintro⟨a,b,c⟩)
    exact⟨k,by lia,b,c⟩
   .have hkn:k=n:=by
     apply Decidable.byContradiction
     intro z
     exact q ⟨k,by lia,hv⟩
    subst hkn
    refine⟨k,by lia,hv,?_⟩
    intros k';intro hk'
    apply Decidable.byContradiction
    intro z
    exact q ⟨k',hk',z⟩
 exact this _ ⟨k,hk,by rw[e];exact hn⟩
theorem TI.meets{t hs}(T:TI t hs){i:Nat}{h:Int}(hi:hs[i]?=some h):∃k j,t.place[i]?=some j/\visit t.mask h k=j/\∀k' ≤ k,visit t.mask h k'∈t.place.toList:=by
 delta t hs i h at T hi
 obtain⟨hlt,e⟩:=List.getElem?_eq_some_iff.mp hi
 have hp:i<t.place.size:=by rw[T.sz];exact hlt
 have hz:(t.place[i],h)∈t.place.toList.zip hs:=by
  have:(t.place.toList.zip hs)[i]?=some (t.place[i],h):=by
   rw[List.getElem?_zip_eq_some]
   exact⟨by rw[Array.getElem?_toList,Array.getElem?_eq_getElem hp],hi⟩
  exact List.mem_of_getElem? this
 (injection (T.reach _ hz)with k;rintro⟨h1,h2⟩)
 refine⟨k,t.place[i],Array.getElem?_eq_getElem hp,h1,fun k' hk'=>?_⟩
 rcases Nat.lt_or_eq_of_le hk' with q|q
 .exact h2 k' q
 .rw [q,h1];exact Array.getElem_mem_toList hp
theorem qDC{α:Type}(xs:Array α)(p:Nat)(x:α):(insertAt xs p x).toList=xs.toList.take p++x::xs.toList.drop p:=by
 unfold insertAt
 simp[List.take_of_length_le]
theorem TI.put{t hs}(T:TI t hs){h:Int}{k j:Nat}(hk:visit t.mask h k=j)(hj:j ∉ t.place.toList)(hb:∀k'<k,visit t.mask h k'∈t.place.toList)(hsz:(t.mask=7/\hs.length<5)\/(t.mask=31/\hs.length<6)) :
  (t.put j).1.dummies=#[]/\(t.put j).1.place.toList=t.place.toList.take (t.put j).2++j::t.place.toList.drop (t.put j).2/\(t.put j).1.mask=t.mask/\(t.put j).1.led=t.led/\(t.put j).1.plain=t.plain /\
  (t.put j).1.place.toList.Pairwise (·<·)/\(∀i∈(t.put j).1.place.toList,i<=t.mask) /\
  (∀p∈(t.put j).1.place.toList.zip (hs.take (t.put j).2++h::hs.drop (t.put j).2),∃k,visit t.mask p.2 k=p.1/\∀k'<k,visit t.mask p.2 k'∈(t.put j).1.place.toList):=by
 delta t hs h k j at T hk hj hb hsz
 have hd:SetTable.has t.dummies j=false:=by rw[T.dm];simp[SetTable.has]
 have e1:(t.put j).1={ t with place:=insertAt t.place (below t.place j) j }:=by
  unfold SetTable.put
  dsimp only
  rw[hd]
  rfl
 have e2:(t.put j).2=below t.place j:=rfl
 obtain⟨s1,s2,s3⟩:=qDt (j:=j) T.rise
 have hpl:(t.put j).1.place.toList=t.place.toList.take (below t.place j)++j::t.place.toList.drop (below t.place j):=by rw[e1];exact qDC _ _ _
 have hle:j<=t.mask:=hk▸(qCJ h k).1
 have gd:∀i (hi:i<t.place.toList.length),t.place.toList[i]=t.place.getD i 0:=by
  intros i;intro hi
  rw[Array.length_toList]at hi
  simp[Array.getD,hi]
 rw[e2,hpl]
 refine⟨by rw[e1];exact T.dm,rfl,by rw[e1],by rw[e1],by rw[e1],?_,?_,?_⟩
 .rw [List.pairwise_append,List.pairwise_cons]
  refine⟨T.rise.sublist (List.take_sublist _ _),⟨?_,T.rise.sublist (List.drop_sublist _ _)⟩,?_⟩
  .intros a;intro ha
   (injection (List.getElem_of_mem ha)with i;rintro⟨hi,e⟩)
   rw[List.length_drop]at hi
   rw[List.getElem_drop,gd _ (Nat.add_lt_of_lt_sub' hi)]at e
   have:=s3 (below t.place j+i) (Nat.le_add_right _ _) (by rw[<-Array.length_toList];exact Nat.add_lt_of_lt_sub' hi)
   rw[e]at this
   refine Nat.lt_of_le_of_ne this fun z=>hj ?_
   rw[z,<-e,<-gd _ (Nat.add_lt_of_lt_sub' hi)];exact List.getElem_mem _
  .intros a;intro ha;intros b;intro hb
   (injection (List.getElem_of_mem ha)with i;rintro⟨hi,e⟩)
   rw[List.length_take]at hi
   rw[List.getElem_take,gd _ (Nat.lt_of_lt_of_le hi (Nat.min_le_right _ _))]at e
   have hlt:a<j:=by rw[<-e];exact s2 i (Nat.lt_of_lt_of_le hi (Nat.min_le_left _ _))
   rcases List.mem_cons.mp hb with rfl|hb
   .exact hlt
   ·(injection (List.getElem_of_mem hb)with i';rintro⟨hi',e'⟩)
    rw[List.length_drop]at hi'
    rw[List.getElem_drop,gd _ (Nat.add_lt_of_lt_sub' hi')]at e'
    have:=s3 (below t.place j+i') (Nat.le_add_right _ _) (by rw[<-Array.length_toList];exact Nat.add_lt_of_lt_sub' hi')
    exact Nat.lt_of_lt_of_le hlt (e'▸this)
 ·(intros i;intro hi)
  rcases List.mem_append.mp hi with q|q
  .exact T.le i (List.mem_of_mem_take q)
  .rcases List.mem_cons.mp q with rfl|q
   .exact hle
   .exact T.le i (List.mem_of_mem_drop q)
 .have sub:∀a∈t.place.toList,a∈t.place.toList.take (below t.place j)++j::t.place.toList.drop (below t.place j):=by
   intros a;intro ha
   rw[<-List.take_append_drop (below t.place j) t.place.toList]at ha
   rcases List.mem_append.mp ha with q|q
   .exact List.mem_append_left _ q
   .exact List.mem_append_right _ (.tail _ q)
  have hlen:(t.place.toList.take (below t.place j)).length=(hs.take (below t.place j)).length:=by
   rw[List.length_take,List.length_take,Array.length_toList,T.sz]
  (intros p;intro hp)
  rw[List.zip_append hlen,List.zip_cons_cons]at hp
  have old:∀p∈t.place.toList.zip hs,∃k,visit t.mask p.2 k=p.1/\∀k'<k,visit t.mask p.2 k'∈t.place.toList.take (below t.place j)++j::t.place.toList.drop (below t.place j):=by
   intros p;intro hp
   (injection (T.reach p hp)with k;rintro⟨a,b⟩)
   exact⟨k,a,fun k' hk'=>sub _ (b k' hk')⟩
  have hz:t.place.toList.zip hs=(t.place.toList.take (below t.place j)).zip (hs.take (below t.place j))++(t.place.toList.drop (below t.place j)).zip (hs.drop (below t.place j)):=by
   rw[<-List.zip_append hlen,List.take_append_drop,List.take_append_drop]
  rcases List.mem_append.mp hp with q|q
  .exact old p (by rw[hz];exact List.mem_append_left _ q)
  .rcases List.mem_cons.mp q with rfl|q
   .exact ⟨k,hk,fun k' hk'=>sub _ (hb k' hk')⟩
   .exact old p (by rw[hz];exact List.mem_append_right _ q)
end
section
open SetTable
theorem qNP(mask:Nat):∀(k n j i q:Nat),k<=n->iterP mask { j,more:=n,i,perturb:=q,dummy:=none } k={ j:=j+k,more:=n-k,i,perturb:=q,dummy:=none }
 | 0,n,j,i,q,_=>rfl
 |k+1,n,j,i,q,h=>by
  show adv mask (iterP mask _ k)=_
  rw[qNP mask k n j i q (by lia)]
  unfold adv
  rw[if_pos (show n-k>0 by lia)]
  show Probe.mk _ _ _ _ _=Probe.mk _ _ _ _ _
  rw[show n-k-1=n-(k+1)by lia];rfl
theorem qFd(mask:Nat):∀(L i q:Nat),leaps mask (L+1) i q=leaps mask L (leap mask i q).1 (leap mask i q).2
 | 0,i,q=>rfl
 |L+1,i,q=>by
  show leap mask (leaps mask (L+1) i q).1 (leaps mask (L+1) i q).2=_
  rw[qFd mask L i q];rfl
theorem qKC{i e k:Nat}(hi:i<=e):k<e+1-i↔k<=e-i:=by rw[Nat.sub_add_comm hi];exact Nat.lt_succ_iff
set_option tactic.hygienic true in
set_option hygiene true in
theorem qHE{mask:Nat}{owner:Array (Option Nat)}:∀(fuel i q:Nat),(∃L,L<fuel/\(owner.getD (leaps mask L i q).1 (some 0)).isNone=true) ->
  ∃j k,layClean.free mask owner fuel i q=some j/\(owner.getD j (some 0)).isNone=true/\(iterP mask (runP mask i q) k).j=j/\∀k'<k,(owner.getD (iterP mask (runP mask i q) k').j (some 0)).isNone=false
 | 0,i,q,⟨L,h,_⟩=>absurd h (Nat.not_lt_zero _)
 |fuel+1,i,q,⟨L,hL,hn⟩=>by
  have inr:∀k,k<=runEnd mask i-i->(iterP mask (runP mask i q) k).j=i+k:=fun k hk=>by
   unfold runP;rw[qNP mask k _ _ _ _ hk]
  have hre:i<=runEnd mask i:=by unfold runEnd;split<;>lia
  show ∃j k,(match(List.range (runEnd mask i+1-i)).find? fun k=>(owner.getD (i+k) (some 0)).isNone with|some k=>some (i+k)|none=>layClean.free mask owner fuel (leap mask i q).1 (leap mask i q).2)=some j/\_
  cases hf:(List.range (runEnd mask i+1-i)).find? fun k=>(owner.getD (i+k) (some 0)).isNone with
  |some k =>
   rw[List.find?_range_eq_some]at hf
   obtain⟨h1,h2,h3⟩:=hf
   have h2:=List.mem_range.mp h2
   refine⟨i+k,k,rfl,h1,inr k ((qKC hre).mp h2),fun k' hk'=>?_⟩
   rw[inr k' (Nat.le_trans (Nat.le_of_lt hk') ((qKC hre).mp h2))]
   have:=h3 k' hk'
   simpa using this
  |none =>
   rw[List.find?_range_eq_none]at hf
   have full:∀k',k'<=runEnd mask i-i->(owner.getD (i+k') (some 0)).isNone=false:=fun k' hk'=>by
    have:=hf k' ((qKC hre).mpr hk')
    simpa using this
   cases L with
   |zero =>
    have:=full 0 (Nat.zero_le _)
    rw[Nat.add_zero]at this
    rw[show(leaps mask 0 i q).1=i from rfl,this]at hn
    exact absurd hn (by decide)
   |succ L =>
    rw[qFd]at hn
    obtain⟨j,k,e1,e2,e3,e4⟩:=qHE (mask:=mask) (owner:=owner) fuel (leap mask i q).1 (leap mask i q).2 ⟨L,by lia,hn⟩
    have sh:∀k,iterP mask (runP mask i q) (runEnd mask i-i+1+k)=iterP mask (runP mask (leap mask i q).1 (leap mask i q).2) k:=fun k=>by
     rw[qEo]
     exact congrArg (iterP mask · k) (qG3 mask _ _ _ _)
    refine⟨j,runEnd mask i-i+1+k,e1,e2,by rw[sh];exact e3,fun k' hk'=>?_⟩
    by_cases hk:k'<=runEnd mask i-i
    .rw [inr k' hk];exact full k' hk
    .obtain ⟨z,rfl⟩:∃z,k'=runEnd mask i-i+1+z:=⟨k'-(runEnd mask i-i+1),(Nat.add_sub_of_le (Nat.lt_of_not_le hk)).symm⟩
     rw[sh]
     exact e4 z (by lia)
end
section
open SetTable
structure OI (mask:Nat) (owner:Array (Option Nat)) (hs:List Int):Prop where
 sz:owner.size=mask+1
 lt:∀j n,owner.getD j none=some n->n<hs.length
 uniq:∀j j' n,owner.getD j none=some n->owner.getD j' none=some n->j=j'
 all:∀n,n<hs.length->∃j,j<=mask/\owner.getD j none=some n
 reach:∀j n,owner.getD j none=some n->∃h,hs[n]?=some h/\∃k,visit mask h k=j/\∀k'<k,(owner.getD (visit mask h k') none).isSome=true
theorem OI.free{mask owner hs}(hm:Mask mask)(O:OI mask owner hs)(hl:hs.length<=mask)(h:Int) :
  ∃j k,layClean.free mask owner (turns mask) (bits h % (mask+1)) (bits h)=some j/\j<=mask/\owner.getD j none=none/\visit mask h k=j/\∀k'<k,(owner.getD (visit mask h k') none).isSome=true:=by
 delta mask owner hs h at hm O hl
 have conv:∀j,j<=mask->owner.getD j (some 0)=owner.getD j none:=by
  intros j;intro hj
  have:j<owner.size:=by rw[O.sz];lia
  simp[Array.getD,this]
 have:∃j,j<=mask/\owner.getD j none=none:=by
  apply Decidable.byContradiction
  intro z
  have hz:∀j,j<=mask->∃n,owner.getD j none=some n:=by
   intros j;intro hj
   cases e:owner.getD j none with
   |none=>exact absurd ⟨j,hj,e⟩ z
   |some n=>exact⟨n,rfl⟩
  have nd:((List.range (mask+1)).map fun j=>(owner.getD j none).getD 0).Nodup:=by
   rw[List.nodup_iff_pairwise_ne,List.pairwise_map]
   refine List.Pairwise.imp_of_mem (fun{a b} ha hb hab q=>?_) (List.nodup_iff_pairwise_ne.mp List.nodup_range)
   obtain⟨n,en⟩:=hz a (by have:=List.mem_range.mp ha;lia)
   obtain⟨n',en'⟩:=hz b (by have:=List.mem_range.mp hb;lia)
   rw[en,en']at q
   have q:n=n':=q
   exact hab (O.uniq a b n en (q▸en'))
  have sub:((List.range (mask+1)).map fun j=>(owner.getD j none).getD 0) ⊆ List.range hs.length:=by
   intros n;intro hn
   (injection (List.mem_map.mp hn)with j;rintro⟨hj,e⟩)
   (injection (hz j (by have:=List.mem_range.mp hj;lia))with n';intro en)
   rw[en]at e
   have e:n'=n:=e
   exact List.mem_range.mpr (e▸O.lt j n' en)
  have:=nd.length_le_of_subset sub
  simp only[List.length_map,List.length_range]at this
  lia
 (injection (this)with t;rintro⟨ht,et⟩)
 have h0:bits h % (mask+1)<=mask:=Nat.le_of_lt_succ (Nat.mod_lt _ (Nat.succ_pos _))
 (injection (qLa (t:=t) hm (qIb h0 (q:=bits h) 13) ht)with m;rintro⟨h1,h2⟩)
 (injection (qHE (mask:=mask) (owner:=owner) (turns mask) (bits h % (mask+1)) (bits h)
  ⟨13+m,by unfold turns;lia,by rw[qDi,h2,conv t ht,et];rfl⟩)with j k;rintro⟨e1,e2,e3,e4⟩)
 have e3:visit mask h k=j:=e3
 have hj:j<=mask:=e3▸(qCJ h k).1
 refine⟨j,k,e1,hj,?_,e3,?_⟩
 .rw [<-conv j hj];exact Option.isNone_iff_eq_none.mp e2
 .intros k';intro hk'
  have:=e4 k' hk'
  rw[show(iterP mask (runP mask (bits h % (mask+1)) (bits h)) k').j=visit mask h k' from rfl,conv _ (qCJ h k').1]at this
  cases e:owner.getD (visit mask h k') none with
  |none=>rw[e]at this;exact absurd this (by decide)
  |some _=>rfl
theorem OI.step{mask owner hs}(O:OI mask owner hs){h:Int}{j k:Nat}(hj:j<=mask)(hn:owner.getD j none=none)(hv:visit mask h k=j)(hb:∀k'<k,(owner.getD (visit mask h k') none).isSome=true) :
  OI mask (owner.setIfInBounds j (some hs.length)) (hs++[h]):=by
 delta mask owner hs h j k at O hj hn hv hb
 have hlt:j<owner.size:=by rw[O.sz];lia
 have gd:∀i,(owner.setIfInBounds j (some hs.length)).getD i none=if i=j then some hs.length else owner.getD i none:=fun i=>by
  rw[Array.getD_eq_getD_getElem?,Array.getD_eq_getD_getElem?,Array.getElem?_setIfInBounds]
  by_cases q:i=j
  .subst q;simp[hlt]
  .rw [if_neg (fun e=>q e.symm),if_neg q]
 have mono:∀i,(owner.getD i none).isSome=true->((owner.setIfInBounds j (some hs.length)).getD i none).isSome=true:=fun i hi=>by
  rw[gd];split
  .rfl
  .exact hi
 refine⟨by rw[Array.size_setIfInBounds];exact O.sz,?_,?_,?_,?_⟩
 .intros i n;intro e
  rw[gd]at e
  rw[List.length_append,List.length_singleton]
  split at e
  .cases e;lia
  .have:=O.lt i n e;lia
 .intros i i' n;intro e e'
  rw[gd]at e e'
  split at e<;>split at e'
  .rename_i a b;rw[a,b]
  .cases e;have:=O.lt _ _ e';lia
  .cases e';have:=O.lt _ _ e;lia
  .exact O.uniq _ _ _ e e'
 .intros n;intro hn'
  rw[List.length_append,List.length_singleton]at hn'
  by_cases q:n=hs.length
  .exact ⟨j,hj,by rw[gd,if_pos rfl,q]⟩
  ·(injection (O.all n (by lia))with i;rintro⟨h1,h2⟩)
   refine⟨i,h1,?_⟩
   rw[gd,if_neg,h2]
   intro z;rw[z,hn]at h2;cases h2
 .intros i n;intro e
  rw[gd]at e
  split at e
  .rename_i z
   cases e
   exact⟨h,List.getElem?_concat_length,k,by rw[z];exact hv,fun k' hk'=>mono _ (hb k' hk')⟩
  ·(injection (O.reach i n e)with h';rintro⟨a,H_⟩;injection H_ with k';clear H_;rintro⟨b,c⟩)
   refine⟨h',?_,k',b,fun k'' hk=>mono _ (c k'' hk)⟩
   rw[List.getElem?_append_left (List.getElem?_eq_some_iff.mp a).1];exact a
theorem OI.init(mask:Nat):OI mask (Array.replicate (mask+1) none) []:=by
 have gd:∀j,(Array.replicate (mask+1) (none:Option Nat)).getD j none=none:=fun j=>by
  rw[Array.getD_eq_getD_getElem?,Array.getElem?_replicate];split<;>rfl
 exact⟨by simp,fun j n e=>(by rw[gd]at e;cases e),fun j j' n e=>(by rw[gd]at e;cases e),fun n h=>absurd h (Nat.not_lt_zero _),fun j n e=>(by rw[gd]at e;cases e)⟩
theorem qNb{mask:Nat}(hm:Mask mask):∀(hs' hs:List Int) (owner:Array (Option Nat)),OI mask owner hs->hs.length+hs'.length<=mask+1 ->
  ∃owner',(hs'.foldl (fun acc h=>do
   let(owner,k) <-acc
   let j <-layClean.free mask owner (turns mask) (bits h % (mask+1)) (bits h)
   pure (owner.setIfInBounds j (some k),k+1)) (some (owner,hs.length)))=some (owner',hs.length+hs'.length)/\OI mask owner' (hs++hs')
 |[],hs,owner,O,_=>⟨owner,rfl,by rw[List.append_nil];exact O⟩
 |h::hs',hs,owner,O,hl=>by
  rw[List.length_cons]at hl
  obtain⟨j,k,e,hj,hn,hv,hb⟩:=O.free hm (by lia) h
  have O':=O.step hj hn hv hb
  obtain⟨owner',e',O''⟩:=qNb hm hs' (hs++[h]) _ O' (by rw[List.length_append,List.length_singleton];lia)
  refine⟨owner',?_,by rw[List.append_assoc]at O'';exact O''⟩
  rw[List.foldl_cons]
  have:(do
   let(owner,k) <-some (owner,hs.length)
   let j <-layClean.free mask owner (turns mask) (bits h % (mask+1)) (bits h)
   pure (owner.setIfInBounds j (some k),k+1):Option (Array (Option Nat)×Nat))=some (owner.setIfInBounds j (some hs.length),(hs++[h]).length):=by
   rw[List.length_append,List.length_singleton]
   show(layClean.free mask owner (turns mask) (bits h % (mask+1)) (bits h) >>= fun j=>pure (owner.setIfInBounds j (some hs.length),hs.length+1))=_
   rw[e];rfl
  rw[this,e',List.length_append,List.length_singleton,List.length_cons]
  congr 2;lia
theorem qGI{mask:Nat}(hm:Mask mask)(hs:Array Int)(hl:hs.size<=mask+1):∃owner,layClean mask hs=some owner/\OI mask owner hs.toList:=by
 obtain⟨owner,e,O⟩:=qNb hm hs.toList [] _ (OI.init mask) (by simpa using hl)
 refine⟨owner,?_,by simpa using O⟩
 unfold layClean
 rw[<-Array.foldl_toList]
 exact(congrArg (Option.map (·.1)) e)
theorem qL0{mask:Nat}(hm:Mask mask)(finger moves:Nat)(led plain:Bool)(hs:Array Int)(hsz:(mask=7/\hs.size<=4)\/(mask=31/\hs.size<=6)) :
  ∃t order,laid mask finger moves led plain hs=some (t,order)/\t.mask=mask/\t.led=led/\t.plain=plain/\order.toList.Perm (List.range hs.size)/\TI t (order.toList.map fun n=>hs.toList.getD n 0):=by
 delta mask finger moves led plain hs at hm hsz
 have hle:hs.size<=mask+1:=by lia
 (injection (qGI hm hs hle)with owner;rintro⟨e,O⟩)
 have hlen:hs.toList.length=hs.size:=Array.length_toList
 let live:=(List.range (mask+1)).filterMap fun j=>(owner.getD j none).map (j,·)
 have hl:∀j n,(j,n)∈live↔j<=mask/\owner.getD j none=some n:=fun j n=>by
  show(j,n)∈List.filterMap _ _↔_
  rw[List.mem_filterMap]
  constructor
  .rintro ⟨j',hj',q⟩
   obtain⟨n',h1,h2⟩:=Option.map_eq_some_iff.mp q
   cases h2
   exact⟨by have:=List.mem_range.mp hj';lia,h1⟩
  .rintro ⟨h1,h2⟩
   exact⟨j,List.mem_range.mpr (by lia),by rw[h2];rfl⟩
 have rise:(live.map (·.1)).Pairwise (·<·):=by
  rw[List.pairwise_map]
  show List.Pairwise _ (List.filterMap _ _)
  rw[List.pairwise_filterMap]
  refine List.Pairwise.imp (fun{a b} hab x hx y hy=>?_) List.pairwise_lt_range
  obtain⟨_,_,rfl⟩:=Option.map_eq_some_iff.mp hx
  obtain⟨_,_,rfl⟩:=Option.map_eq_some_iff.mp hy
  exact hab
 have nd:(live.map (·.2)).Nodup:=by
  rw[List.nodup_iff_pairwise_ne,List.pairwise_map]
  refine List.Pairwise.imp_of_mem (fun{a b} ha hb hab q=>?_) (List.pairwise_map.mp rise)
  obtain⟨_,h1⟩:=(hl a.1 a.2).mp ha
  obtain⟨_,h2⟩:=(hl b.1 b.2).mp hb
  have:=O.uniq a.1 b.1 a.2 h1 (by rw[q];exact h2)
  lia
 have pm:(live.map (·.2)).Perm (List.range hs.size):=by
  rw[List.perm_ext_iff_of_nodup nd List.nodup_range]
  intro n
  rw[List.mem_map,List.mem_range]
  constructor
  .rintro ⟨p,hp,rfl⟩
   have:=O.lt p.1 p.2 ((hl p.1 p.2).mp hp).2
   lia
  .intro hn
   obtain⟨j,h1,h2⟩:=O.all n (by lia)
   exact⟨(j,n),(hl j n).mpr ⟨h1,h2⟩,rfl⟩
 have len:live.length=hs.size:=by have:=pm.length_eq;simpa using this
 refine⟨{ mask,place:=(live.map (·.1)).toArray,dummies:=#[],finger,led,moves,plain },(live.map (·.2)).toArray,?_,rfl,rfl,rfl,pm,?_⟩
 .unfold laid
  rw[e];rfl
 .refine ⟨?_,rfl,?_,rise,?_,?_⟩
  .show (live.map (·.1)).toArray.size=_
   simp
  .show (mask=7/\_)\/(mask=31/\_)
   rw[List.length_map,List.length_map,len]
   exact hsz
  .intro j hj
   obtain⟨p,hp,rfl⟩:=List.mem_map.mp hj
   exact((hl p.1 p.2).mp hp).1
  .intro p hp
   have hp:p∈(live.map (·.1)).zip ((live.map (·.2)).map fun n=>hs.toList.getD n 0):=hp
   rw[List.map_map,List.zip_map']at hp
   obtain⟨⟨j,n⟩,hjn,rfl⟩:=List.mem_map.mp hp
   obtain⟨h1,h2⟩:=(hl j n).mp hjn
   obtain⟨h,a,k,b,c⟩:=O.reach j n h2
   refine⟨k,?_,fun k' hk'=>?_⟩
   .show visit mask (hs.toList.getD n 0) k=j
    rw[List.getD_eq_getElem?_getD,a];exact b
   .show visit mask (hs.toList.getD n 0) k'∈live.map (·.1)
    rw[List.getD_eq_getElem?_getD,a]
    have:=c k' hk'
    obtain⟨n',en⟩:=Option.isSome_iff_exists.mp this
    exact List.mem_map.mpr ⟨(_,n'),(hl _ n').mpr ⟨(qCJ _ k').1,en⟩,rfl⟩
end
section
open SetTable
theorem pg_eq{t:SetTable}{hashAt:Nat->Int}{h:Int}{fuel:Nat}{p:Probe}:probe.go t hashAt h (fuel+1) p=(match t.slot p.j with|.empty=>some (.empty p.j p.dummy)|.dummy=>probe.go t hashAt h fuel (t.advance { p with dummy:=some p.j })|.live i=>if hashAt i==h then some (.candidate p.j i (t.advance p))else probe.go t hashAt h fuel (t.advance p)):=rfl
theorem qIR{t:SetTable}{hs:List Int}(T:TI t hs)(hashAt:Nat->Int)(h:Int){k0:Nat}(he:visit t.mask h k0 ∉ t.place.toList)(hb:∀k'<k0,visit t.mask h k'∈t.place.toList) :
  ∀(fuel k:Nat),k<=k0->k0-k<fuel ->
  (probe.go t hashAt h fuel (iterP t.mask (qAh t.mask h) k)=some (.empty (visit t.mask h k0) none)/\∀k',k<=k'->k'<k0->∀i,t.place[i]?=some (visit t.mask h k')->hashAt i≠h) \/
  ∃k1 i,k<=k1/\k1<k0/\t.place[i]?=some (visit t.mask h k1)/\hashAt i=h/\probe.go t hashAt h fuel (iterP t.mask (qAh t.mask h) k)=some (.candidate (visit t.mask h k1) i (iterP t.mask (qAh t.mask h) (k1+1))) /\
   ∀k',k<=k'->k'<k1->∀i,t.place[i]?=some (visit t.mask h k')->hashAt i≠h
 | 0,k,_,hf=>absurd hf (Nat.not_lt_zero _)
 |fuel+1,k,hk,hf=>by
  rw[pg_eq]
  rcases T.slot_cases (visit t.mask h k)with⟨hn,es⟩|⟨i,hi,es⟩
  .have:k=k0:=by
    apply Decidable.byContradiction
    intro z
    exact hn (hb k (Nat.lt_of_le_of_ne hk z))
   subst this
   refine .inl ⟨?_,fun k' h1 h2=>absurd h1 (Nat.not_le_of_lt h2)⟩
   rw[show(iterP t.mask (qAh t.mask h) k).j=visit t.mask h k from rfl,es]
   show some (Met.empty (visit t.mask h k) (iterP t.mask (qAh t.mask h) k).dummy)=_
   rw[(qCJ h k).2.2]
  .have hk':k<k0:=by
    rcases Nat.lt_or_eq_of_le hk with q|q
    .exact q
    .refine absurd ?_ he
     rw[<-q]
     exact List.mem_of_getElem? (by rw[Array.getElem?_toList];exact hi)
   rw[show(iterP t.mask (qAh t.mask h) k).j=visit t.mask h k from rfl,es]
   dsimp only
   have pl:∀i',t.place[i']?=some (visit t.mask h k)->i'=i:=fun i' e=>by rw[<-qDP T.rise e,qDP T.rise hi]
   by_cases q:hashAt i=h
   .refine .inr ⟨k,i,Nat.le_refl _,hk',hi,q,?_,fun k' h1 h2=>absurd h1 (Nat.not_le_of_lt h2)⟩
    rw[if_pos (beq_iff_eq.mpr q)]
    rfl
   .rw [if_neg (fun z=>q (beq_iff_eq.mp z))]
    have:=qIR T hashAt h he hb fuel (k+1) hk' (qEv hf (Nat.le_refl _) hk')
    rw[show t.advance (iterP t.mask (qAh t.mask h) k)=iterP t.mask (qAh t.mask h) (k+1)from rfl]
    have ext:∀k',k<=k'->(k+1<=k'->∀i,t.place[i]?=some (visit t.mask h k')->hashAt i≠h)->∀i,t.place[i]?=some (visit t.mask h k')->hashAt i≠h:=fun k' h1 h2 i' e=>by
     rcases Nat.lt_or_eq_of_le h1 with z|z
     .exact h2 z i' e
     .subst z;rw[pl i' e];exact q
    rcases this with⟨a,b⟩|⟨k1,i1,a,b,c,d,e,f⟩
    .exact .inl ⟨a,fun k' h1 h2=>ext k' h1 fun z=>b k' z h2⟩
    .exact .inr ⟨k1,i1,Nat.le_of_succ_le a,b,c,d,e,fun k' h1 h2=>ext k' h1 fun z=>f k' z h2⟩
theorem qJ7{t:SetTable}{hs:List Int}(T:TI t hs)(hashAt:Nat->Int)(h:Int){k0:Nat}(hk0:k0<10*turns t.mask)(he:visit t.mask h k0 ∉ t.place.toList)(hb:∀k'<k0,visit t.mask h k'∈t.place.toList){k:Nat}(hk:k<=k0) :
  (t.probe hashAt h (iterP t.mask (qAh t.mask h) k)=some (.empty (visit t.mask h k0) none)/\∀k',k<=k'->k'<k0->∀i,t.place[i]?=some (visit t.mask h k')->hashAt i≠h) \/
  ∃k1 i,k<=k1/\k1<k0/\t.place[i]?=some (visit t.mask h k1)/\hashAt i=h/\t.probe hashAt h (iterP t.mask (qAh t.mask h) k)=some (.candidate (visit t.mask h k1) i (iterP t.mask (qAh t.mask h) (k1+1))) /\
   ∀k',k<=k'->k'<k1->∀i,t.place[i]?=some (visit t.mask h k')->hashAt i≠h :=
 qIR T hashAt h he hb _ k hk (Nat.lt_of_le_of_lt (Nat.sub_le _ _) hk0)
theorem TI.more{t hs}(T:TI t hs){h:Int}{k j:Nat}(hk:visit t.mask h k=j)(hj:j ∉ t.place.toList)(hb:∀k'<k,visit t.mask h k'∈t.place.toList)(hsz:(t.mask=7/\hs.length<4)\/(t.mask=31/\hs.length<6)) :
  TI (t.put j).1 (hs.take (t.put j).2++h::hs.drop (t.put j).2)/\(t.put j).1.tooFull=false:=by
 obtain⟨a,b,c,_,_,d,e,f⟩:=T.put hk hj hb (hsz.elim (fun z=>.inl ⟨z.1,by lia⟩) fun z=>.inr z)
 have hlen:(hs.take (t.put j).2++h::hs.drop (t.put j).2).length=hs.length+1:=by
  rw[List.length_append,List.length_cons,List.length_take,List.length_drop];exact qDf _ _
 have hp:(t.put j).1.place.size=hs.length+1:=by
  rw[<-Array.length_toList,b,List.length_append,List.length_cons,List.length_take,List.length_drop,Array.length_toList,T.sz];exact qDf _ _
 refine⟨⟨by rw[hp,hlen],a,?_,d,by rw[c];exact e,by rw[c];exact f⟩,?_⟩
 .rw [c,hlen];rcases hsz with z|z
  .exact .inl ⟨z.1,by lia⟩
  .exact .inr ⟨z.1,by lia⟩
 .unfold tooFull SetTable.fill
  rw[hp,a,c]
  simp
  rcases hsz with z|z<;>lia
theorem TI.grow{t hs}(T:TI t hs){h:Int}{k j:Nat}(hk:visit t.mask h k=j)(hj:j ∉ t.place.toList)(hb:∀k'<k,visit t.mask h k'∈t.place.toList)(hsz:t.mask=7/\hs.length=4) :
  (t.put j).1.tooFull=true/\sizeAbove (grown 5)=32:=by
 delta t hs h k j at T hk hj hb hsz
 obtain⟨a,b,c,_,_,d,e,f⟩:=T.put hk hj hb (.inl ⟨hsz.1,by lia⟩)
 have hp:(t.put j).1.place.size=hs.length+1:=by
  rw[<-Array.length_toList,b,List.length_append,List.length_cons,List.length_take,List.length_drop,Array.length_toList,T.sz];exact qDf _ _
 refine⟨?_,by decide +kernel⟩
 unfold tooFull SetTable.fill
 rw[hp,a,c]
 simp;lia
end
end Internal
end
section
open PySem PySem.W PySem.Calls PyProof.Rows
namespace Internal
section
theorem qFJ{prog:Program}{w:World}{A:Around}{E:Value->Shared->Prop}{s:Shared}{i:Int}{t:Tok}{x:Str}{u:Tok}{Q:Bool->Shared->Prop}(h:Q false s):wpAny (model prog w) A (eqBool (.int i t) (.str x u)) Q E s:=by
 unfold eqBool
 refine wpAny_holding ?_
 show wpAny _ _ (if(Value.int i t==Value.str x u)=true then _ else _) Q E s
 rw[if_neg (by rw[show(Value.int i t==Value.str x u)=false from rfl];exact Bool.false_ne_true)]
 exact wpAny_bind (show wpAny (model prog w) A (richCompare .Eq (.int i t) (.str x u)) _ E s from PySem.EqMixed.eq_int_str (wpAny_truthy_bool h))
theorem qFI{prog:Program}{w:World}{A:Around}{E:Value->Shared->Prop}{s:Shared}{i:Int}{t:Tok}{x:Str}{u:Tok}{Q:Bool->Shared->Prop}(h:Q false s):wpAny (model prog w) A (eqBool (.str x u) (.int i t)) Q E s:=by
 unfold eqBool
 refine wpAny_holding ?_
 show wpAny _ _ (if(Value.str x u==Value.int i t)=true then _ else _) Q E s
 rw[if_neg (by rw[show(Value.str x u==Value.int i t)=false from rfl];exact Bool.false_ne_true)]
 exact wpAny_bind (show wpAny (model prog w) A (richCompare .Eq (.str x u) (.int i t)) _ E s from PySem.EqMixed.eq_str_int (wpAny_truthy_bool h))
noncomputable def qPQ:Int ⊕ Str->Value->Bool
 |.inl i=>Value.isInt i
 |.inr x=>Value.isStrOf x
set_option tactic.hygienic true in
set_option hygiene true in
noncomputable def qHy(prog:Program)(w:World):PySem.KeyKind prog w (Int ⊕ Str) where
 is:=qPQ
 hash:=fun|.inl i=>hashInt i|.inr x=>hashStr w x
 inj:=fun v a b ha hb=>by
  cases a<;>cases b
  .exact congrArg Sum.inl (Value.isInt_inj _ _ _ ha hb)
  .obtain ⟨_,rfl⟩:=Value.isInt_shape ha;cases hb
  .obtain ⟨_,rfl⟩:=Value.isInt_shape hb;cases ha
  .exact congrArg Sum.inr (Value.isStrOf_inj _ _ _ ha hb)
 byValue:=fun k v h=>by
  cases k
  .obtain ⟨t,rfl⟩:=Value.isInt_shape h;rfl
  .obtain ⟨t,rfl⟩:=Value.isStrOf_shape h;rfl
 pyHash:=fun{A E s k v Q} hv h=>by
  cases k
  .obtain ⟨t,rfl⟩:=Value.isInt_shape hv;exact wpAny_pyHash_int h
  .obtain ⟨t,rfl⟩:=Value.isStrOf_shape hv;exact wpAny_pyHash_str h
 eqBool:=fun{A E s a b u v Q} hu hv h=>by
  cases a<;>cases b
  .obtain ⟨t,rfl⟩:=Value.isInt_shape hu
   obtain⟨t',rfl⟩:=Value.isInt_shape hv
   refine wpAny_eqBool_int ?_
   rename_i a b
   rw[show(a==b)=decide (Sum.inl a=(Sum.inl b:Int ⊕ Str))by by_cases q:a=b<;>simp[q]]
   exact h
  .obtain ⟨t,rfl⟩:=Value.isInt_shape hu
   obtain⟨t',rfl⟩:=Value.isStrOf_shape hv
   exact qFJ (by simpa using h)
  .obtain ⟨t,rfl⟩:=Value.isStrOf_shape hu
   obtain⟨t',rfl⟩:=Value.isInt_shape hv
   exact qFI (by simpa using h)
  .obtain ⟨t,rfl⟩:=Value.isStrOf_shape hu
   obtain⟨t',rfl⟩:=Value.isStrOf_shape hv
   refine wpAny_eqBool_str ?_
   simpa using h
 «strs»:=fun k x t v h=>by
  cases k
  .cases h
  .rename_i y
   have h:Value.isStrOf y (.str x t)=true:=h
   have hx:x=y:=by simpa[Value.isStrOf]using h
   subst hx
   cases v<;>rfl
noncomputable def qHp(X:CX)(v:AV):List (Int ⊕ Str):=match lit3 v with
 |some q=>[Sum.inl q.1,Sum.inr ((X.names[q.2.1]?).getD default),Sum.inl q.2.2]
 |none=>[]
section
variable{A:Around}{ψ φ:List Addr}{s:Shared}{E:Value->Shared->Prop}
theorem qGE{h:Heap}{v:Value}{q:Int×Nat×Int}(r:VR X ψ φ h v (litV q)):∃a,v=.ref a/\IsTupleKey (qHy prog w) h (qHp X (litV q)) a:=by
 delta ψ φ h v q at r
 (injection (qEk r)with a n t u x;intro H_;injection H_ with t2;clear H_;rintro⟨rfl,e,ex⟩)
 refine⟨a,rfl,_,_,_,e,rfl,rfl,?_⟩
 show ItemsAre (qHy prog w) [Sum.inl q.1,Sum.inr ((X.names[q.2.1]?).getD default),Sum.inl q.2.2] [.int q.1 t,.str x t2,.int q.2.2 u]
 rw[ex]
 exact .cons (beq_self_eq_true q.1) (.cons (beq_self_eq_true x) (.cons (beq_self_eq_true q.2.2) .nil))
end
end
section
section
variable{A:Around}{s:Shared}{E:Value->Shared->Prop}
theorem qFG(n:Nat){v:Value}(h:carriedByValue v=true):ofAClassStatement n v=pure false:=by
 induction v using Value.casesOn with
 |ref a=>simp[carriedByValue]at h
 |_=>cases n<;>rfl
theorem qCV{K:Type} [DecidableEq K]{knd:PySem.KeyKind prog w K}{ks:List K}{a:Addr}{Q:Bool->Shared->Prop}(hk:IsTupleKey knd s.heap ks a)(h:Q false s):wpAny (model prog w) A (ofAClassStatement 8 (.ref a)) Q E s:=by
 have hT:=hk.typeIs
 obtain⟨o,items,n,ho,_,hd,hi⟩:=hk
 unfold ofAClassStatement
 refine wpAny_bind (wpAny_typeOf hT ?_)
 dsimp only
 rw[if_pos (show("tuple" == "tuple")=true from rfl)]
 refine wpAny_bind (wpAny_pure ?_)
 simp only[Bool.not_true,Bool.false_eq_true,if_false]
 refine wpAny_bind (wpAny_seqItems ho hd ?_)
 dsimp only
 refine wpAny_bind ?_
 rw[<-Array.forIn_toList]
 refine wpAny_forIn_list _ (fun rest r s'=>r.1=none/\s'=s/\∀v∈rest,carriedByValue v=true) _ ?_ ?_ _ _ ⟨rfl,rfl,hi.byValue⟩
 .rintro v rest r s' ⟨hr,rfl,hall⟩
  rw[qFG _ (hall v List.mem_cons_self)]
  refine wpAny_bind (wpAny_pure ?_)
  simp only[Bool.false_eq_true,if_false]
  exact wpAny_pure ⟨rfl,rfl,fun u hu'=>hall u (List.mem_cons_of_mem _ hu')⟩
 .rintro ⟨r1,r2⟩ s' ⟨hr,rfl,_⟩
  simp only at hr
  subst hr
  exact wpAny_pure h
theorem qDJ{K:Type} [DecidableEq K]{knd:PySem.KeyKind prog w K}{ks:List K}{a:Addr}{L:List Value}{Q:Bool->Shared->Prop}(hk:IsTupleKey knd s.heap ks a)(hL:∀y∈L,∃ks' b,y=.ref b/\IsTupleKey knd s.heap ks' b)(h:Q false s) :
  wpAny (model prog w) A (searchCouldBeSeen (.ref a) L) Q E s:=by
 unfold searchCouldBeSeen
 refine wpAny_bind ?_
 refine wpAny_forIn_list _ (fun rest r s'=>r.1=none/\s'=s/\∀y∈rest,y∈L) _ ?_ ?_ _ _ ⟨rfl,rfl,fun _ h=>h⟩
 .rintro y rest r s' ⟨hr,rfl,hall⟩
  obtain⟨ks',b,rfl,hk'⟩:=hL y (hall y (.head _))
  have tl:∀y∈rest,y∈L:=fun y hy=>hall y (.tail _ hy)
  dsimp only
  by_cases q:a=b
  .subst q
   rw[if_pos (by simp)]
   exact wpAny_pure ⟨rfl,rfl,tl⟩
  .rw [if_neg (by simp[q,carriedByValue])]
   refine wpAny_bind (wpAny_eqIsQuiet_tuple hk ?_)
   simp only[Bool.not_true,Bool.false_eq_true,if_false]
   refine wpAny_bind (wpAny_eqIsQuiet_tuple hk' ?_)
   simp only[Bool.not_true,Bool.false_eq_true,if_false]
   refine wpAny_bind (qCV hk ?_)
   simp only[Bool.false_eq_true,if_false]
   refine wpAny_bind (qCV hk' ?_)
   simp only[Bool.false_eq_true,if_false]
   exact wpAny_pure ⟨rfl,rfl,tl⟩
 .rintro ⟨r1,r2⟩ s' ⟨hr,rfl,_⟩
  simp only at hr
  subst hr
  exact wpAny_pure h
end
end
section
open SetTable
noncomputable def hashL(X:CX)(prog:Program)(w:World)(b:AV):Int:=tupleKeyHash (qHy prog w) (qHp X b)
structure LitSet (X:CX) (prog:Program) (w:World) (ψ φ:List Addr) (h:Heap) (S:Addr) (es:Array (Int×Value)) (ep:Nat) (t:SetTable) (l:List AV):Prop where
 at_:∃o,h.get? S=some o/\o.ExactSet/\o.data=.set es ep t
 tab:TI t (es.toList.map (·.1))
 led:X.byText=true\/t.led=true
 len:l.length=es.size
 item:∀(i:Nat) (e:Int×Value),es[i]?=some e->∃b,l[i]?=some b/\isK2 b=true/\VR X ψ φ h e.2 b/\e.1=hashL X prog w b
section
variable{A:Around}{ψ φ:List Addr}{s:Shared}{E:Value->Shared->Prop}
theorem qJ2(G:GW X base)(R:A.units+64<cLine){S:Addr}{es:Array (Int×Value)}{ep:Nat}{t:SetTable}{l:List AV}(L:LitSet X prog w ψ φ s.heap S es ep t l){x:Value}{b:AV}(hb:isK2 b=true)(rx:VR X ψ φ s.heap x b)
 {k0:Nat}(hk0:k0<10*turns t.mask)(he:visit t.mask (hashL X prog w b) k0 ∉ t.place.toList)(hbf:∀k'<k0,visit t.mask (hashL X prog w b) k'∈t.place.toList){Q:SetFound->Shared->Prop} :
  ∀(fuel k:Nat) (stand:Option Probe),stand.getD (t.probeStart (hashL X prog w b))=iterP t.mask (qAh t.mask (hashL X prog w b)) k->k<=k0->k0-k<fuel ->
   (∀k'<k,∀i:Nat,t.place[i]?=some (visit t.mask (hashL X prog w b) k')->l[i]?≠some b) ->
   (b∈l->Q (.there none) s)->(b ∉ l->Q (.free (visit t.mask (hashL X prog w b) k0) false) s) ->
   wpAny (model prog w) A (setSearchFrom S x (hashL X prog w b) true fuel stand) Q E s:=by
 delta A ψ φ s E S es ep t l x b k0 Q at G R L hb rx hk0 he hbf
 intros fuel
 induction fuel with
 |zero=>exact fun _ _ _ _ hf=>absurd hf (Nat.not_lt_zero _)
 |succ fuel ih =>
  delta fuel at ih
  (intros k stand;intro hst hk hf hpast hin hout)
  (injection (L.at_)with o;rintro⟨ho,hex,hd⟩)
  have hfit:t.fits es.size=true:=L.tab.fits (by simp)
  show wpAny _ _ (setState S >>= _) _ _ _
  refine wpAny_bind (wpAny_setState_of ho hd hfit ?_)
  dsimp only
  have hg:t.gaveWay=false:=by
   unfold SetTable.gaveWay
   rcases L.tab.mask with q|q<;>rw[q]<;>rfl
  rw[hg]
  simp only[Bool.false_eq_true,if_false]
  rw[hst]
  have yet:∀i:Nat,l[i]?=some b->∃k1,k<=k1/\k1<k0/\t.place[i]?=some (visit t.mask (hashL X prog w b) k1)/\∃e,es[i]?=some e/\e.1=hashL X prog w b:=fun i hi=>by
   have hlt:i<es.size:=by rw[<-L.len];exact(List.getElem?_eq_some_iff.mp hi).1
   obtain⟨b',h1,h2,h3,h4⟩:=L.item i es[i] (Array.getElem?_eq_getElem hlt)
   rw[hi]at h1;cases h1
   obtain⟨k1,j,m1,m2,m3⟩:=L.tab.meets (i:=i) (h:=hashL X prog w b) (by
    rw[List.getElem?_map,Array.getElem?_toList,Array.getElem?_eq_getElem hlt,<-h4];rfl)
   have h01:k1<k0:=by
    apply Decidable.byContradiction
    intro z
    exact he (m3 k0 (by lia))
   refine⟨k1,?_,h01,by rw[m2];exact m1,_,Array.getElem?_eq_getElem hlt,h4⟩
   apply Decidable.byContradiction
   intro z
   exact hpast k1 (by lia) i (by rw[m2];exact m1) hi
  have hsp:=fun hashAt=>qJ7 L.tab hashAt (hashL X prog w b) hk0 he hbf hk
  rcases hsp _ with⟨ep',hno⟩|⟨k1,i,h1,h2,h3,h4,ep',hno⟩
  .rw [ep']
   dsimp only
   refine wpAny_pure (hout fun hm=>?_)
   (injection (List.getElem?_of_mem hm)with i;intro hi)
   (injection (yet i hi)with k1;rintro⟨a1,a2,a3,H_⟩;injection H_ with e;clear H_;rintro⟨a4,a5⟩)
   refine hno k1 a1 a2 i a3 ?_
   show((es[i]?.map (·.1)).getD 0)=_
   rw[a4];exact a5
  .delta k1 i at h1 h2 h3 h4 ep' hno
   rw[ep']
   dsimp only
   have h4:((es[i]?.map (·.1)).getD 0)=hashL X prog w b:=h4
   have hi:i<es.size:=by
    have:=L.tab.sz
    rw[List.length_map,Array.length_toList]at this
    rw[<-this]
    exact(Array.getElem?_eq_some_iff.mp h3).1
   (injection (L.item i es[i] (Array.getElem?_eq_getElem hi))with b';rintro⟨g1,g2,g3,g4⟩)
   (injection (qC9 hb)with qb;rintro⟨rfl,_⟩)
   (injection (qC9 g2)with qb';rintro⟨rfl,_⟩)
   (injection (qGE rx)with ax;rintro⟨rfl,kx⟩)
   have rest:wpAny (model prog w) A (do
     let some (_,y):=es[i]?|unsupported "internal:set-entry"
     let equal <-holding [y] (eqBool y (.ref ax))
     let(es',_,t') <-setState S
     if true&&equal then return .there none
     let some same:=t'.sameMemory t.moves t.mask|unsupported "set.changed-during-lookup:is-the-new-block-at-the-old-address"
     let still <-match(if same then t'.slot (visit t.mask (hashL X prog w (litV qb)) k1)else .empty)with
      |.live i'=>match es'[i']? with
       |some (_,y')=>do pure (if <-isSame y' y then some i' else none)
       |none=>pure none
      |_=>pure none
     match still with
     |none=>rule "set.search.anew";setSearchFrom S (.ref ax) (hashL X prog w (litV qb)) true fuel none
     |some i'=>if equal then return .there (some i')else setSearchFrom S (.ref ax) (hashL X prog w (litV qb)) true fuel (some (iterP t.mask (qAh t.mask (hashL X prog w (litV qb))) (k1+1)))) Q E s:=by
    rw[Array.getElem?_eq_getElem hi]
    dsimp only
    generalize hes:es[i]=ev at g3 g4
    obtain⟨hv,y⟩:=ev
    dsimp only at g3 g4 ⊢
    refine wpAny_bind (wpAny_holding (qAQ G R g3 rx rfl rfl ?_))
    refine wpAny_bind (wpAny_setState_of ho hd hfit ?_)
    dsimp only
    by_cases q:litV qb'=litV qb
    .rw [q,(AV.beq_iff _ _).mpr rfl]
     simp only[Bool.and_self,if_true]
     exact wpAny_pure (hin (List.mem_of_getElem? (q▸g1)))
    .have qf:AV.beq (litV qb') (litV qb)=false:=by
      cases z:AV.beq (litV qb') (litV qb)with
      |false=>rfl
      |true=>exact absurd ((AV.beq_iff _ _).mp z) q
     rw[qf]
     simp only[Bool.and_false,Bool.false_eq_true,if_false]
     have hsm:t.sameMemory t.moves t.mask=some true:=by unfold sameMemory;simp
     rw[hsm]
     dsimp only
     rw[if_pos rfl,L.tab.slot_live h3]
     dsimp only
     rw[Array.getElem?_eq_getElem hi,hes]
     dsimp only
     obtain⟨ay,ny,ty,uy,xy,t2y,rfl,ey,exy⟩:=qEk g3
     refine wpAny_bind (wpAny_isSame_ref_self (wpAny_bind (wpAny_pure ?_)))
     simp only[if_true]
     refine ih (k1+1) _ rfl h2 (qEv hf h1 h2) (?_) hin hout
     intros k';intro hk';intros i';intro hi' hl
     by_cases z:k'<k
     .exact hpast k' z i' hi' hl
     ·(injection (yet i' hl)with k2;rintro⟨a1,a2,a3,H_⟩;injection H_ with e;clear H_;rintro⟨a4,a5⟩)
      by_cases z':k'<k1
      .refine hno k' (by lia) z' i' hi' ?_
       show((es[i']?.map (·.1)).getD 0)=_
       rw[a4];exact a5
      .have:k'=k1:=by lia
       subst this
       have:i'=i:=by rw[<-qDP L.tab.rise hi',qDP L.tab.rise h3]
       subst this
       rw[g1]at hl
       exact q (Option.some.inj hl)
   split
   .refine wpAny_bind (qDJ kx (?_) ?_)
    .intros y;intro hy
     (injection (List.mem_map.mp hy)with e;rintro⟨he',rfl⟩)
     have hem:=(Array.mem_filter.mp (Array.mem_toList_iff.mp he')).1
     (injection (Array.getElem_of_mem hem)with z;rintro⟨hz,ez⟩)
     (injection (L.item z e (by rw[Array.getElem?_eq_getElem hz,ez]))with b'';rintro⟨f1,f2,f3,f4⟩)
     (injection (qC9 f2)with ζ_1;rintro⟨rfl,_⟩)
     obtain⟨ad,r1,r2⟩:=qGE f3
     exact⟨_,ad,r1,r2⟩
    .simp only[Bool.false_eq_true,if_false]
     exact rest
   .exact rest
end
end
section
open SetTable
theorem qL4{es:List (Int×Value)}{l:List AV}{P:Int×Value->AV->Prop}(hl:l.length=es.length)(h:∀p∈es.zip l,P p.1 p.2)(i:Nat)(e:Int×Value)(hi:es[i]?=some e):∃b,l[i]?=some b/\P e b:=by
 have hlt:i<l.length:=by rw[hl];exact(List.getElem?_eq_some_iff.mp hi).1
 refine⟨l[i],List.getElem?_eq_getElem hlt,h (e,l[i]) ?_⟩
 exact List.mem_of_getElem? (i:=i) (List.getElem?_zip_eq_some.mpr ⟨hi,List.getElem?_eq_getElem hlt⟩)
theorem qJi{es:List (Int×Value)}{l:List AV}{P:Int×Value->AV->Prop}(h:∀(i:Nat) (e:Int×Value),es[i]?=some e->∃b,l[i]?=some b/\P e b):∀p∈es.zip l,P p.1 p.2:=fun p hp=>by
 obtain⟨i,hi⟩:=List.getElem?_of_mem hp
 obtain⟨h1,h2⟩:=List.getElem?_zip_eq_some.mp hi
 obtain⟨b,h3,h4⟩:=h i _ h1
 rw[h2]at h3;cases h3
 exact h4
theorem qNf{β:Type}{f:Nat->Option β}{g:Nat->β}:∀{l:List Nat},(∀i∈l,f i=some (g i))->l.filterMap f=l.map g
 |[],_=>rfl
 |i::l,h=>by
  rw[List.filterMap_cons,h i (.head _),List.map_cons]
  exact congrArg _ (qNf fun j hj=>h j (.tail _ hj))
section
variable{A:Around}{ψ φ:List Addr}{s:Shared}{E:Value->Shared->Prop}
theorem qEs{v:Value}{q:Int×Nat×Int}(r:VR X ψ φ s.heap v (litV q)){Q:Bool->Shared->Prop}(h:Q false s):wpAny (model prog w) A (hashByValue 8 v) Q E s:=by
 delta A ψ φ s E v q Q at r h
 (injection (qEk r)with a n t u x;intro H_;injection H_ with t2;clear H_;rintro⟨rfl,e,ex⟩)
 have hT:s.TypeIs (.ref a) "tuple":=⟨_,e,rfl⟩
 unfold hashByValue
 refine wpAny_bind (wpAny_specialOf hT F.slot_tuple_hash.lookup ?_)
 show wpAny _ _ (seqItems? (.ref a) >>= _) _ _ s
 refine wpAny_bind (wpAny_seqItems e rfl ?_)
 dsimp only
 refine wpAny_bind ?_
 rw[<-Array.forIn_toList]
 simp only[Option.getD_some,List.forIn_cons,List.forIn_nil]
 have e1:hashByValue 7 (.int q.1 t)=pure true:=rfl
 have e2:hashByValue 7 (.str x t2)=pure false:=rfl
 rw[e1,e2]
 refine wpAny_bind (wpAny_bind (wpAny_pure ?_))
 simp only[Bool.not_true,Bool.false_eq_true,if_false]
 refine wpAny_pure ?_
 dsimp only
 refine wpAny_bind (wpAny_bind (wpAny_pure ?_))
 simp only[Bool.not_false,if_true]
 exact wpAny_pure (wpAny_pure (wpAny_pure h))
theorem TI.plainOff{t:SetTable}{hs:List Int}(T:TI t hs):TI { t with plain:=false } hs:=⟨T.sz,T.dm,T.mkk,T.rise,T.le,T.reach⟩
theorem qKJ{S:Addr}{es:Array (Int×Value)}{ep:Nat}{t:SetTable}{l:List AV}(hsz:l.length=es.size)(hz:es.size=5)
 (ho:∃o,s.heap.get? S=some o/\o.ExactSet/\o.data=.set es ep t)(hled:X.byText=true\/t.led=true)(hf:t.fits es.size=true)
 (item:∀(i:Nat) (e:Int×Value),es[i]?=some e->∃b,l[i]?=some b/\isK2 b=true/\VR X ψ φ s.heap e.2 b/\e.1=hashL X prog w b)(hS:S∈ψ){Q:Unit->Shared->Prop}
 (h:∀h' es' t' l',Heap.SameBut S s.heap h'->LitSet X prog w ψ φ h' S es' (ep+1) t' l'->t'.plain=t.plain->l'.Perm l->Q () { s with heap:=h' }) :
  wpAny (model prog w) A (setRelay S (grown 5)) Q E s:=by
 delta A ψ φ s E S es ep t l Q at hsz hz ho hled hf item hS h
 (injection (ho)with o;rintro⟨ho,hex,hd⟩)
 unfold setRelay
 refine wpAny_bind (wpAny_setState_of ho hd hf ?_)
 dsimp only
 have hsa:sizeAbove (grown 5)=32:=by decide +kernel
 rw[hsa,if_neg (by rw[sizeLine_eq];decide)]
 unfold relaid
 rw[hsa]
 (injection (qL0 (mask:=31) (.inr rfl) t.finger (t.movedTo (32-1)) t.led t.plain (es.map (·.1)) (.inr ⟨rfl,by rw[Array.size_map];lia⟩))with t' order;rintro⟨el,hm,hl,hp,hpm,T⟩)
 rw[Array.size_map]at hpm
 have lt:∀i∈order.toList,i<es.size:=fun i hi=>List.mem_range.mp (hpm.mem_iff.mp hi)
 have fm:order.toList.filterMap (es[·]?)=order.toList.map fun i=>es.getD i default:=qNf fun i hi=>by
   have:=lt i hi
   simp[Array.getD,this]
 have e1:(order.filterMap (es[·]?)).toList=order.toList.map fun i=>es.getD i default:=by rw[Array.toList_filterMap,fm]
 have e2:(order.filterMap (es[·]?)).size=es.size:=by
  rw[<-Array.length_toList,e1,List.length_map]
  have:=hpm.length_eq
  rwa [List.length_range]at this
 have kk:∀{R:(Array (Int×Value)×SetTable)->Shared->Prop},R (order.filterMap (es[·]?),t') s->wpAny (model prog w) A (do
   let some (t,order):=laid (32-1) t.finger (t.movedTo (32-1)) t.led t.plain (es.map (·.1))|unsupported "internal:set-table-without-room"
   let es':=order.filterMap (es[·]?)
   if es'.size != es.size then unsupported "internal:set-table-lost-an-element"
   pure (es',t)) R E s:=fun{R} hr=>by
  rw[el]
  dsimp only
  rw[if_neg (by rw[e2];simp)]
  exact wpAny_bind (wpAny_pure (wpAny_pure hr))
 refine wpAny_bind (kk ?_)
 dsimp only
 refine wpAny_storeSet_of ho hd ?_ (by rw[e2,sizeLine_eq,hz];decide)
 have sb:=Heap.SameBut.update s.heap S (Obj.putSet (order.filterMap (es[·]?)) t')
 have mv:∀{v:Value}{b:AV},VR X ψ φ s.heap v b->VR X ψ φ (s.heap.update S (Obj.putSet (order.filterMap (es[·]?)) t')) v b:=fun r =>
  VR.move (fun _ _ e=>e) (fun b o e n m=>⟨(sb.2 b (fun z=>m (z▸hS))).trans e,n,m⟩) r
 have lm:l.length=es.size:=hsz
 refine h _ _ t' (order.toList.map fun i=>l.getD i .none) sb ⟨⟨{ o with data:=.set (order.filterMap (es[·]?)) (ep+1) t' },?_,hex,rfl⟩,?_,hled.imp id fun q=>hl.trans q,?_,?_⟩ hp ?_
 .rw [<-putSet_of _ _ hd];exact Heap.get?_update_self _ ho (by rw[putSet_of _ _ hd];rfl)
 .rw [e1,List.map_map]
  have:(order.toList.map fun n=>(es.map (·.1)).toList.getD n 0)=order.toList.map ((·.1) ∘ fun i=>es.getD i default):=by
   refine List.map_congr_left ?_
   intros i;intro hi
   have:=lt i hi
   simp[Array.getD,List.getD,this]
  rw[<-this];exact T
 .rw [List.length_map,e2]
  have:=hpm.length_eq
  rwa [List.length_range]at this
 ·(intros i e;intro hi)
  rw[<-Array.getElem?_toList,e1,List.getElem?_map]at hi
  (injection (Option.map_eq_some_iff.mp hi)with j;rintro⟨hj,rfl⟩)
  have hlt:=lt j (List.mem_of_getElem? hj)
  (injection (item j es[j] (Array.getElem?_eq_getElem hlt))with b;rintro⟨g1,g2,g3,g4⟩)
  have ge:es.getD j default=es[j]:=by simp[Array.getD,hlt]
  refine⟨b,?_,g2,by rw[ge];exact mv g3,by rw[ge];exact g4⟩
  rw[List.getElem?_map,hj]
  show some (l.getD j .none)=_
  rw[List.getD_eq_getElem?_getD,g1];rfl
 .have:(order.toList.map fun i=>l.getD i .none).Perm ((List.range es.size).map fun i=>l.getD i .none):=hpm.map _
  refine this.trans (List.Perm.of_eq ?_)
  rw[<-lm]
  refine List.ext_getElem (by simp) ?_
  intros i;intro h1 h2
  simp[List.getD,List.getElem?_eq_getElem h2]
end
end
section
open SetTable
section
variable{A:Around}{ψ φ:List Addr}{s:Shared}{E:Value->Shared->Prop}
theorem qOs(G:GW X base)(R:A.units+64<cLine){S:Addr}{es:Array (Int×Value)}{ep:Nat}{t:SetTable}{l:List AV}(L:LitSet X prog w ψ φ s.heap S es ep t l)(hl:l.length<6)(hS:S∈ψ)
 {x:Value}{b:AV}(hb:isK2 b=true)(rx:VR X ψ φ s.heap x b){Q:Bool->Shared->Prop}(hin:b∈l->Q false s)
 (hout:b ∉ l->∀h' es' ep' t' l',Heap.SameBut S s.heap h'->LitSet X prog w ψ φ h' S es' ep' t' l'->t'.plain=false->l'.Perm (b::l)->Q true { s with heap:=h' }) :
  wpAny (model prog w) A (setAddHashed S x (hashL X prog w b)) Q E s:=by
 delta A ψ φ s E S es ep t l x b Q at G R L hl hS hb rx hin hout
 have L0:=L
 obtain⟨⟨o,ho,hex,hd⟩,T,hled,len,item⟩:=L
 delta o at ho hex hd
 have hfit:t.fits es.size=true:=T.fits (by simp)
 (injection (T.ends (hashL X prog w b))with k0;rintro⟨hk0,he,hbf⟩)
 unfold setAddHashed
 refine wpAny_holding ?_
 unfold setAddHashedIn
 refine wpAny_bind (wpAny_setState_of ho hd hfit ?_)
 dsimp only
 have hbs:byScan x es=false:=by
  (injection (qC9 hb)with ζ_1;rintro⟨rfl,_⟩)
  (injection (qGE rx)with a;rintro⟨rfl,_⟩)
  rfl
 rw[hbs]
 simp only[Bool.false_eq_true,if_false]
 unfold setSearch
 refine wpAny_bind (qJ2 G R L0 hb rx hk0 he hbf 100000 0 none rfl (Nat.zero_le _) ?_ (fun k' hk'=>absurd hk' (Nat.not_lt_zero _)) ?_ ?_)
 .have:turns t.mask<=46:=by unfold turns;rcases T.mask with q|q<;>lia
  lia
 .intro q
  exact wpAny_pure (hin q)
 .intro q
  dsimp only
  refine wpAny_bind (wpAny_setState_of ho hd hfit ?_)
  dsimp only
  have hsm:es.size=l.length:=len.symm
  have hlen:(es.toList.map (·.1)).length=es.size:=by simp
  have hput:=T.put rfl he hbf (by rw[hlen];rcases T.mkk with z|z<;>rw[hlen]at z<;>lia)
  have hpb:(t.put (visit t.mask (hashL X prog w b) k0)).2<=es.size:=by
   have:=(qDt (j:=visit t.mask (hashL X prog w b) k0) T.rise).1
   rw[T.sz,hlen]at this
   exact this
  have hpl:(t.put (visit t.mask (hashL X prog w b) k0)).1.led=t.led:=rfl
  generalize hpq:t.put (visit t.mask (hashL X prog w b) k0)=pq at hput hpb hpl
  obtain⟨t1,p⟩:=pq
  delta t1 p at hpq hput hpb hpl
  dsimp only at hput hpb hpl ⊢
  have hled1:X.byText=true\/({ t1 with plain:=false }:SetTable).led=true:=hled.imp id fun q=>hpl.trans q
  have go:∀t2:SetTable,t2={ t1 with plain:=false }->wpAny (model prog w) A (do
    storeSet S (insertAt es p (hashL X prog w b,x)) t2
    if !false&&t2.tooFull then setRelay S (grown (es.size+1))
    return true) Q E s:=by
   (intros t2;rintro rfl)
   have il:(insertAt es p (hashL X prog w b,x)).toList=es.toList.take p++(hashL X prog w b,x)::es.toList.drop p:=qDC _ _ _
   have isz:(insertAt es p (hashL X prog w b,x)).size=es.size+1:=by
    rw[<-Array.length_toList,il,List.length_append,List.length_cons,List.length_take,List.length_drop,Array.length_toList,qDf]
   refine wpAny_bind (wpAny_storeSet_of ho hd ?_ (by rw[isz,sizeLine_eq];lia))
   have sb:=Heap.SameBut.update s.heap S (Obj.putSet (insertAt es p (hashL X prog w b,x)) { t1 with plain:=false })
   have ho1:(s.heap.update S (Obj.putSet (insertAt es p (hashL X prog w b,x)) { t1 with plain:=false })).get? S=some { o with data:=.set (insertAt es p (hashL X prog w b,x)) (ep+1) { t1 with plain:=false } }:=by
    rw[<-putSet_of _ _ hd];exact Heap.get?_update_self _ ho (by rw[putSet_of _ _ hd];rfl)
   have mv:∀{v:Value}{b':AV},VR X ψ φ s.heap v b'->VR X ψ φ (s.heap.update S (Obj.putSet (insertAt es p (hashL X prog w b,x)) { t1 with plain:=false })) v b':=fun r =>
    VR.move (fun _ _ e=>e) (fun b o e n m=>⟨(sb.2 b (fun z=>m (z▸hS))).trans e,n,m⟩) r
   have hl1:(l.take p++b::l.drop p).length=es.size+1:=by
    rw[List.length_append,List.length_cons,List.length_take,List.length_drop,qDf];lia
   have pm:(l.take p++b::l.drop p).Perm (b::l):=by
    refine List.perm_middle.trans ?_
    rw[List.take_append_drop]
   have item1:∀(i:Nat) (e:Int×Value),(insertAt es p (hashL X prog w b,x))[i]?=some e->∃b',(l.take p++b::l.drop p)[i]?=some b'/\isK2 b'=true/\VR X ψ φ (s.heap.update S (Obj.putSet (insertAt es p (hashL X prog w b,x)) { t1 with plain:=false })) e.2 b'/\e.1=hashL X prog w b':=by
    (intros i e;intro hi)
    rw[<-Array.getElem?_toList,il]at hi
    have old:∀pr∈es.toList.zip l,isK2 pr.2=true/\VR X ψ φ s.heap pr.1.2 pr.2/\pr.1.1=hashL X prog w pr.2 :=
     qJi (P:=fun e b=>isK2 b=true/\VR X ψ φ s.heap e.2 b/\e.1=hashL X prog w b) fun i e hi=>item i e (by rw[<-Array.getElem?_toList];exact hi)
    refine qL4 (P:=fun e b'=>isK2 b'=true/\VR X ψ φ _ e.2 b'/\e.1=hashL X prog w b') (by rw[hl1,<-il,Array.length_toList,isz]) (?_) i e hi
    intros pr;intro hpr
    have ht:(es.toList.take p).length=(l.take p).length:=by rw[List.length_take,List.length_take,Array.length_toList,hsm]
    rw[List.zip_append ht,List.zip_cons_cons]at hpr
    have hz:es.toList.zip l=(es.toList.take p).zip (l.take p)++(es.toList.drop p).zip (l.drop p):=by
     rw[<-List.zip_append ht,List.take_append_drop,List.take_append_drop]
    rcases List.mem_append.mp hpr with z|z
    .have:=old pr (by rw[hz];exact List.mem_append_left _ z)
     exact⟨this.1,mv this.2.1,this.2.2⟩
    .rcases List.mem_cons.mp z with rfl|z
     .exact ⟨hb,mv rx,rfl⟩
     .have:=old pr (by rw[hz];exact List.mem_append_right _ z)
      exact⟨this.1,mv this.2.1,this.2.2⟩
   have hmp:((insertAt es p (hashL X prog w b,x)).toList.map (·.1))=(es.toList.map (·.1)).take p++hashL X prog w b::(es.toList.map (·.1)).drop p:=by
    rw[il,List.map_append,List.map_cons,List.map_take,List.map_drop]
   by_cases q4:t.mask=7/\es.size=4
   .have hg:=T.grow rfl he hbf ⟨q4.1,by rw[hlen];exact q4.2⟩
    rw[hpq]at hg
    have htf:SetTable.tooFull { t1 with plain:=false }=true:=hg.1
    rw[htf,q4.2]
    simp only[Bool.not_false,Bool.and_self,if_true]
    have hfit1:SetTable.fits { t1 with plain:=false } (insertAt es p (hashL X prog w b,x)).size=true:=by
     unfold SetTable.fits SetTable.fill
     show(t1.place.size==_&&decide (t1.place.size+t1.dummies.size<=t1.mask))=true
     have:t1.place.size=es.size+1:=by
      rw[<-Array.length_toList,hput.2.1,List.length_append,List.length_cons,List.length_take,List.length_drop,Array.length_toList,T.sz,hlen,qDf]
     rw[this,isz,hput.1,hput.2.2.1,q4.1,q4.2]
     decide
    refine wpAny_bind (qKJ (s:={ s with heap:=s.heap.update S (Obj.putSet (insertAt es p (hashL X prog w b,x)) { t1 with plain:=false }) }) (by rw[hl1,isz]) (by rw[isz,q4.2]) ⟨_,ho1,hex,rfl⟩ hled1 hfit1 item1 hS ?_)
    intros h' es' t' l';intro sb' L' hp' pm'
    exact wpAny_pure (hout q h' es' _ t' l' (sb.trans sb') L' hp' (pm'.trans pm))
   .have hm:=T.more rfl he hbf (by rw[hlen];rcases T.mkk with z|z<;>rw[hlen]at z<;>lia)
    rw[hpq]at hm
    have htf:SetTable.tooFull { t1 with plain:=false }=false:=hm.2
    rw[htf]
    simp only[Bool.and_false,Bool.false_eq_true,if_false]
    refine wpAny_pure (hout q _ _ _ _ _ sb ⟨⟨_,ho1,hex,rfl⟩,?_,hled1,by rw[hl1,isz],item1⟩ rfl pm)
    rw[hmp]
    exact TI.plainOff hm.1
  cases hp1:t1.plain with
  |true =>
   simp only[if_true]
   (injection (qC9 hb)with qb;rintro⟨rfl,_⟩)
   refine wpAny_bind (qEs rx ?_)
   simp only[Bool.false_eq_true,if_false]
   exact go _ rfl
  |false =>
   simp only[Bool.false_eq_true,if_false]
   refine wpAny_bind (wpAny_pure ?_)
   simp only[if_true]
   exact go _ (by rw[<-hp1])
end
end
section
section
variable{A:Around}{ψ φ:List Addr}
theorem VRs.at_{h:Heap}:∀{L:List AV}{vs:List Value},VRs X ψ φ h vs L->∀(i:Nat) (v:Value),vs[i]?=some v->∃b,L[i]?=some b/\VR X ψ φ h v b
 |[],_,r,_,_,e=>by obtain rfl:=r;exact qA2 e
 |a::l,_,r,i,v,e=>by
  obtain⟨u,ws,rfl,r,q⟩:=r
  cases i with
  |zero=>exact⟨a,rfl,Option.some.inj e▸r⟩
  |succ i=>exact VRs.at_ q i v e
theorem LitSet.moves{h h':Heap}{S:Addr}{es:Array (Int×Value)}{ep:Nat}{t:SetTable}{l:List AV}(L:LitSet X prog w ψ φ h S es ep t l)
 (hk:∀b o,h.get? b=some o->b ∉ ψ\/b=S->h'.get? b=some o):LitSet X prog w ψ φ h' S es ep t l:=by
 delta ψ φ h h' S es ep t l at L hk
 obtain⟨⟨o,ho,hex,hd⟩,T,hled,len,item⟩:=L
 refine⟨⟨o,hk S o ho (.inr rfl),hex,hd⟩,T,hled,len,?_⟩
 intros i e;intro hi
 (injection (item i e hi)with b;rintro⟨h1,h2,h3,h4⟩)
 exact⟨b,h1,h2,VR.move (fun _ _ e=>e) (fun b o e n m=>⟨hk b o e (.inl m),n,m⟩) h3,h4⟩
theorem qMS{I:Addr}{fp wr:List Addr}{Gn:Array GenState->Array GenState->Prop}{n:Nat}{P:Nat->Value->Prop}{St:Nat->Shared->Prop}{Rr:Result->Shared->Prop}
 (G:GW X base)(R:A.in1.units+64<cLine)(W:WalksS prog w A.in1 I fp wr Gn n P St)(S:Addr)(hSf:S ∉ fp)(hS:S∈ψ)(hwr:∀b∈wr,b∈ψ)
 {vs:List Value}{L:List AV}(hn:n=L.length)(hP:∀i v,P i v->vs[i]?=some v)(hlen:L.length<7)(hall:L.all isK2=true) :
  ∀(k i:Nat) (s:Shared) (es:Array (Int×Value)) (ep:Nat) (t:SetTable) (l:List AV),n-i=k->i<=n->St i s->VRs X ψ φ s.heap vs L->LitSet X prog w ψ φ s.heap S es ep t l->l.Nodup->(∀b,b∈l↔b∈L.take i)->(t.plain=false\/i=0) ->
   (∀s' es ep t l,Moved (S::wr) Gn s s'->LitSet X prog w ψ φ s'.heap S es ep t l->l.Nodup->(∀b,b∈l↔b∈L)->(t.plain=false\/n=0)->Rr (.ok (.ret .none)) s') ->
   codeAny (model prog w) A (.builtin "set.update.loop" ⟨[.ref S,.ref I],[]⟩) Rr s:=by
 delta A ψ φ I fp wr Gn n P St Rr S vs L at G R W hSf hS hwr hn hP hlen hall
 have hSw:S ∉ wr:=fun h=>hSf (W.sub _ h)
 have hsub:∀b∈wr,b∈S::wr:=fun b hb=>List.mem_cons_of_mem _ hb
 have mvd:∀{s s':Shared},Moved wr Gn s s'->∀b o,s.heap.get? b=some o->b ∉ ψ\/b=S->s'.heap.get? b=some o:=fun hm b o e hb =>
  hm.heap b o (fun q=>hb.elim (fun z=>z (hwr b q)) fun z=>hSw (z▸q)) e
 intros k
 induction k with
 |zero =>
  (intros i s es ep t l;intro hk hi hst rv LS nd mem pl hR)
  have hin:i=n:=Nat.le_antisymm hi (Nat.le_of_sub_eq_zero hk)
  subst hin
  refine codeAny_builtin F.entry_set_update_loop ?_
  rw[Around.under_plainId F.plain_set_update_loop _]
  show wpAny _ A.in1 (pyNext (.ref I) >>= _) _ _ s
  refine wpAny_bind (W.done s _ _ hst ?_)
  intros s';intro hm
  show wpAny _ A.in1 (ret Value.none) _ _ s'
  refine wpAny_pure (hR s' es ep t l (hm.mono hsub) (LS.moves (mvd hm)) nd (?_) pl)
  intros b
  rw[mem b,hn,List.take_length]
 |succ k ih =>
  delta k at ih
  (intros i s es ep t l;intro hk hi hst rv LS nd mem pl hR)
  have hlt:i<n:=(qKh hk).1
  refine codeAny_builtin F.entry_set_update_loop ?_
  rw[Around.under_plainId F.plain_set_update_loop _]
  show wpAny _ A.in1 (pyNext (.ref I) >>= _) _ _ s
  refine wpAny_bind (W.item i s _ _ hlt hst ?_)
  intros v s';intro hp hst' hm
  have LS':=LS.moves (mvd hm)
  have rv':VRs X ψ φ s'.heap vs L:=VRs.move (fun _ _ e=>e) (fun b o e n m=>⟨mvd hm b o e (.inl m),n,m⟩) rv
  (injection (rv'.at_ i v (hP i v hp))with b;rintro⟨hb,rb⟩)
  have kb:isK2 b=true:=List.all_eq_true.mp hall b (List.mem_of_getElem? hb)
  have tk1:L.take (i+1)=L.take i++[b]:=by rw[List.take_add_one,hb];rfl
  have hl6:l.length<6:=by
   have:=nd.length_le_of_subset (fun b hb=>(mem b).mp hb)
   rw[List.length_take]at this
   exact Nat.lt_of_le_of_lt (Nat.le_trans this (Nat.min_le_left _ _)) (Nat.lt_of_lt_of_le hlt (Nat.le_of_lt_succ (Nat.lt_of_le_of_lt (Nat.le_of_eq hn) hlen)))
  (injection (qC9 kb)with qb;rintro⟨rfl,_⟩)
  (injection (qGE rb)with ax;rintro⟨rfl,kx⟩)
  show wpAny _ A.in1 (holding [Value.ref ax] (setAdd S (.ref ax)) >>= _) _ _ s'
  refine wpAny_bind (wpAny_holding ?_)
  unfold setAdd
  refine wpAny_holding ?_
  refine wpAny_bind (wpAny_pyHash_tuple (by lia) kx ?_)
  have next:∀(h':Heap) (tk:Nat) (r:Bool) es' ep' t' l',s'.toks<=tk->Heap.SameBut S s'.heap h'->LitSet X prog w ψ φ h' S es' ep' t' l'->l'.Nodup->(∀b,b∈l'↔b∈L.take (i+1))->t'.plain=false ->
    codeAny (model prog w) A (.builtin "set.update.loop" ⟨[.ref S,.ref I],[]⟩) Rr { s' with heap:=h',toks:=tk }:=fun h' tk r es' ep' t' l' htk hsb L' nd' mem' pl'=>by
   refine ih (i+1) _ es' ep' t' l' (qKh hk).2 hlt (W.frame _ s' _ _ hst' htk fun b hb o e=>?_) (VRs.move (fun _ _ e=>e) (fun b o e n m=>⟨(hsb.2 b (fun z=>m (z▸hS))).trans e,n,m⟩) rv') L' nd' mem' (.inl pl') fun s'' es'' ep'' t'' l'' hm'' L'' nd'' mem'' pl''=>?_
   .rw [hsb.2 b (fun h:b=S=>hSf (by rw[<-h];exact hb))];exact e
   .refine hR s'' es'' ep'' t'' l'' (Moved.trans W.gtrans ((hm.mono hsub).then_heap htk ?_) hm'') L'' nd'' mem'' pl''
    intros b o;intro hb e
    rw[hsb.2 b (fun h:b=S=>hb (by rw[h];exact List.mem_cons_self))];exact e
  refine qOs (s:={ s' with toks:=s'.toks+((qHp X (litV qb)).length+1) }) G R LS' hl6 hS kb rb (fun hin=>?_) (?_)
  .refine wpAny_pure ⟨plainId_quiet F.plain_set_update_loop _,?_⟩
   have hp0:t.plain=false:=pl.elim id fun z=>by
    subst z
    exact nomatch (mem _).mp hin
   exact next s'.heap _ true es ep t l (Nat.le_add_right _ _) (Heap.SameBut.refl _ _) LS' nd (by
    intros b'
    rw[mem b',tk1,List.mem_append,List.mem_singleton]
    exact⟨.inl,fun z=>z.elim id fun z=>z▸(mem _).mp hin⟩) hp0
  .intro hout;intros h' es' ep' t' l';intro hsb L' pl' pm
   refine wpAny_pure ⟨plainId_quiet F.plain_set_update_loop _,?_⟩
   refine next h' _ true es' ep' t' l' (Nat.le_add_right _ _) hsb L' (pm.nodup_iff.mpr (List.nodup_cons.mpr ⟨hout,nd⟩)) (?_) pl'
   intros b'
   rw[pm.mem_iff,List.mem_cons,mem b',tk1,List.mem_append,List.mem_singleton]
   exact⟨fun z=>z.elim .inr .inl,fun z=>z.elim .inr .inl⟩
end
end
section
section
variable{A:Around}{ψ φ:List Addr}{s:Shared}{E:Value->Shared->Prop}
theorem qEB(a:Value){Q₁:Value->Shared->Prop}
 (h:Q₁ (.ref s.heap.objs.size) { s with heap:=s.heap.push { cls:=.type "set",dict:=none,data:=.set #[] 0 (.fresh 0 0 (!w.params.followText "set-order")) } }) :
  codeAny (model prog w) A (.call (.builtin "set.__new__") ⟨[.type "set",a],[]⟩) (wants Q₁ E) s:=by
 delta A s E a Q₁ at h
 refine codeAny_of_tree ?_
 show wpAny _ A.in1 (do checkBuiltinCall "set.__new__" ⟨[.type "set",a],[]⟩;again (.builtin "set.__new__" ⟨[.type "set",a],[]⟩)) _ _ s
 refine wpAny_bind (wpAny_of_eq (F.newCall_set_1 a) (wpAny_pure ⟨plainId_quiet F.plain_set_new _,codeAny_builtin F.entry_set_new ?_⟩))
 rw[Around.under_plainId F.plain_set_new _]
 unfold Builtin.«set.__new__» Builtin.Frozenset.newClass
 have hsub:=sub_set_self
 obtain⟨hp,g,d,tk,os⟩:=s
 dsimp only
 wp_walk
 refine wpAny_askSetting (wpAny_pure ?_)
 dsimp only
 simp only[newObj]
 refine wpAny_bind (wpAny_alloc (wpAny_pure ?_))
 exact wpAny_pure h
set_option maxHeartbeats 3200000 in
theorem qGX(G:GW X base)(hbt:X.byText=w.params.followText "set-order")(R:A.in1.in1.in1.units+64<cLine)(hh:A.handled=none){l:Addr}{items:Array Value}{n:Nat}{L:List AV}(hl:s.heap.get? l=some (seqObj "list" items n))
 (rv:VRs X ψ φ s.heap items.toList L)(hlen:L.length<7)(hall:L.all isK2=true){Q:Value->Shared->Prop}
 (h:∀(h':Heap) (tk:Nat) es ep t l',LitSet X prog w (s.heap.objs.size::(s.heap.objs.size+1)::ψ) φ h' s.heap.objs.size es ep t l'->l'.Nodup->(∀b,b∈l'↔b∈L)->(t.plain=false\/L.length=0) ->
   (∀b o,b<s.heap.objs.size->s.heap.get? b=some o->h'.get? b=some o)->Q (.ref s.heap.objs.size) { s with heap:=h',toks:=tk }) :
  wpAny (model prog w) A (call (.type "set") [.ref l]) Q E s:=by
 delta A ψ φ s E l items n L Q at G hbt R hh hl rv hlen hall h
 (injection (F.called_set.mro)with c tl;intro hmro)
 have hmade:=F.called_set.made
 have hsub:=F.called_set.sub
 refine wpAny_call (codeAny_of_tree ?_)
 show wpAny _ _ (callAny (.type "set") _) _ _ _
 refine wpAny_pure ⟨Code.quiet_builtin _ (by decide +kernel),codeAny_builtin F.entry_type_call ?_⟩
 rw[Around.under_plain (weight_type_call_type "set" [.ref l] []) rfl]
 have h1:=F.called_set.notType
 have h2:=F.called_set.canCreate
 have hct:=F.typeCall_set_1 (.ref l)
 repeat(any_goals(first|assumption|wp_step))
 refine codeAny_mono (qEB (.ref l) (E:=E) (Q₁:=fun obj s8=>∃led:Bool,led=(!w.params.followText "set-order")/\obj=.ref s.heap.objs.size/\s8={ s with heap:=s.heap.push { cls:=.type "set",dict:=none,data:=.set #[] 0 (.fresh 0 0 led) } }) ⟨_,rfl,rfl,rfl⟩) ?_
 intros r s8;intro hr
 cases r with
 |error e=>exact hr
 |ok fl =>
  delta fl at hr
  cases fl with
  |ret obj =>
   delta obj at hr
   (injection (hr)with led;try clear hr;rintro⟨hled,rfl,rfl⟩)
   have hS:(s.heap.push { cls:=.type "set",dict:=none,data:=.set #[] 0 (.fresh 0 0 led) }).get? s.heap.objs.size=some { cls:=.type "set",dict:=none,data:=.set #[] 0 (.fresh 0 0 led) }:=Heap.get?_push_size _ rfl
   have hT:Shared.TypeIs { s with heap:=s.heap.push { cls:=.type "set",dict:=none,data:=.set #[] 0 (.fresh 0 0 led) } } (.ref s.heap.objs.size) "set":=⟨_,hS,rfl⟩
   have hli:=F.called_set.init.lookup
   have hbi:=F.called_set.init.bind (.ref s.heap.objs.size)
   repeat(any_goals(first|assumption|wp_step))
   refine codeAny_mono (codeAny_call_builtin (R:=wants (fun r s9=>r=.none/\∃h' tk es ep t l',s9={ s with heap:=h',toks:=tk } /\
     LitSet X prog w (s.heap.objs.size::(s.heap.objs.size+1)::ψ) φ h' s.heap.objs.size es ep t l'/\l'.Nodup/\(∀b,b∈l'↔b∈L)/\(t.plain=false\/L.length=0) /\
     (∀b o,b<s.heap.objs.size->s.heap.get? b=some o->h'.get? b=some o)) E) F.called_set.init.plain F.entry_set_init (check_set_init_1 hT ?_)) ?_
   .have hol':(s.heap.push { cls:=.type "set",dict:=none,data:=.set #[] 0 (.fresh 0 0 led) }).get? l=some (seqObj "list" items n):=Heap.get?_push_of_some _ hl
    have hsls:=F.sub_list_set
    have hslf:=F.sub_list_frozenset
    have hne:(Value.type "list" == Value.type "dict")=false:=by decide
    have hl1:(s.heap.push { cls:=.type "set",dict:=none,data:=.set #[] 0 (.fresh 0 0 led) }).IsList l items:=⟨_,hol',rfl,n,rfl⟩
    unfold Builtin.«set.__init__» noKeywords Builtin.Frozenset.updateFrom
    generalize hPI:pyIter=PI
    unfold seqObj at hol'
    wp_walk
    subst hPI
    refine wpAny_pyIter_list hl1 ?_
    refine wpAny_bind (wpAny_runValue ?_)
    have hlS:l<s.heap.objs.size:=Heap.lt_size hl
    have hh3:A.in1.in1.in1.handled=none:=by simp[hh]
    have hIs:(s.heap.push { cls:=.type "set",dict:=none,data:=.set #[] 0 (.fresh 0 0 led) }).objs.size=s.heap.objs.size+1:=Heap.size_push ..
    have hneI:l≠(s.heap.push { cls:=.type "set",dict:=none,data:=.set #[] 0 (.fresh 0 0 led) }).objs.size:=by
     rw[Heap.size_push];exact Nat.ne_of_lt (Nat.lt_succ_of_lt hlS)
    have hSf:s.heap.objs.size ∉ [(s.heap.push { cls:=.type "set",dict:=none,data:=.set #[] 0 (.fresh 0 0 led) }).objs.size,l]:=by
     rw[Heap.size_push];simp only[List.mem_cons,List.mem_singleton,List.not_mem_nil,or_false,not_or]
     exact⟨Nat.ne_of_lt (Nat.lt_succ_self _),Nat.ne_of_gt hlS⟩
    have hget:((s.heap.push { cls:=.type "set",dict:=none,data:=.set #[] 0 (.fresh 0 0 led) }).push { cls:=.type "list_iterator",data:=.fields #[.ref l,.int 0 0] }).get? s.heap.objs.size
       = some { cls:=.type "set",dict:=none,data:=.set #[] 0 (.fresh 0 0 led) }:=Heap.get?_push_of_some _ hS
    have hin:items.size=L.length:=by have:=qAT rv;simpa using this
    have rv2:VRs X (s.heap.objs.size::(s.heap.objs.size+1)::ψ) φ ((s.heap.push { cls:=.type "set",dict:=none,data:=.set #[] 0 (.fresh 0 0 led) }).push { cls:=.type "list_iterator",data:=.fields #[.ref l,.int 0 0] }) items.toList L:=by
     refine VRs.move (fun _ _ e=>e) (fun b o e n m=>⟨Heap.get?_push_of_some _ (Heap.get?_push_of_some _ e),n,?_⟩) rv
     have:=Heap.lt_size e
     simp only[List.mem_cons,not_or]
     exact⟨Nat.ne_of_lt this,Nat.ne_of_lt (Nat.lt_succ_of_lt this),m⟩
    refine qMS (ψ:=s.heap.objs.size::(s.heap.objs.size+1)::ψ) (φ:=φ) (L:=L) (vs:=items.toList) G R ((Walks.list hh3 _ l hneI items).toS) s.heap.objs.size
     hSf (.head _) ?hw hin (fun i v hv=>by rw[Array.getElem?_toList];exact hv) hlen hall (items.size-0) 0 _ #[] 0 (.fresh 0 0 led) [] (by lia) (Nat.zero_le _)
     ⟨⟨_,Heap.get?_push_size _ rfl,rfl,rfl⟩,(hl1.push _)⟩ rv2 ?hS0 List.nodup_nil (fun b=>by simp) (.inr rfl) ?hR
    case hw =>
     (intros b;intro hb)
     rw[hIs]at hb
     rw[List.mem_singleton.mp hb]
     exact .tail _ (.head _)
    case hS0 =>
     refine⟨⟨_,hget,?_,rfl⟩,⟨rfl,rfl,.inl ⟨rfl,by simp⟩,.nil,fun j hj=>(qA5 hj),fun p hp=>(qA5 hp)⟩,?_,rfl,fun i e hi=>by simp at hi⟩
     .exact ⟨rfl,rfl,rfl⟩
     .show X.byText=true\/led=true
      rw[hbt,hled];cases w.params.followText "set-order" <;> simp
    case hR =>
     (intros s' es ep t l';intro hm hS' nd mem pl)
     obtain⟨h',g',d',tk',os'⟩:=s'
     delta h' g' d' tk' os' at hm hS'
     have eg:g'=s.gens:=hm.gens
     have ed:d'=s.drawn:=hm.drawn
     have eo:os'=s.os:=hm.os
     subst eg;subst ed;subst eo
     show wpAny _ _ _ _ _ _
     refine wpAny_pure ?_
     show wpAny _ _ (ret Value.none) _ _ _
     refine wpAny_pure ⟨rfl,h',tk',es,ep,t,l',rfl,hS',nd,mem,hin▸pl,?_⟩
     intros b o;intro hb e
     have hb1:b≠s.heap.objs.size:=Nat.ne_of_lt hb
     have hb2:b≠(s.heap.push { cls:=.type "set",dict:=none,data:=.set #[] 0 (.fresh 0 0 led) }).objs.size:=by
      rw[Heap.size_push];exact Nat.ne_of_lt (Nat.lt_succ_of_lt hb)
     exact hm.heap b o (by simp only[List.mem_cons,List.mem_singleton,List.not_mem_nil,or_false,not_or];exact⟨hb1,hb2⟩) (Heap.get?_push_of_some _ (Heap.get?_push_of_some _ e))
   .intros r8 s9;intro hr₂
    cases r8 with
    |error e=>exact hr₂
    |ok fl₂ =>
     delta fl₂ at hr₂
     cases fl₂ with
     |ret r =>
      delta r at hr₂
      (obtain⟨rfl,H_⟩:=hr₂;injection H_ with h' tk es ep t;clear H_;intro H_;injection H_ with l';clear H_;rintro⟨rfl,hS',nd,mem,pl,hk'⟩)
      repeat(any_goals(first|assumption|wp_step))
      exact h _ _ es ep t l' hS' nd mem pl hk'
     |_=>exact hr₂.elim
  |_=>exact hr.elim
end
end
theorem qD5:∀(L:List AV) (b:AV),b∈dedup L↔b∈L
 |[],b=>Iff.rfl
 |x::r,b=>by
  show b∈x::(dedup r).filter (fun y=>!y.beq x)↔_
  rw[List.mem_cons,List.mem_filter,qD5 r b,List.mem_cons]
  constructor
  .rintro (q|⟨q,_⟩)
   .exact .inl q
   .exact .inr q
  .rintro (q|q)
   .exact .inl q
   .by_cases z:b=x
    .exact .inl z
    .refine .inr ⟨q,?_⟩
     cases e:b.beq x with
     |false=>rfl
     |true=>exact absurd ((AV.beq_iff _ _).mp e) z
theorem qCe:∀L:List AV,(dedup L).Nodup
 |[]=>List.nodup_nil
 |x::r=>by
  show(x::(dedup r).filter (fun y=>!y.beq x)).Nodup
  rw[List.nodup_cons]
  refine⟨fun q=>?_,(qCe r).filter _⟩
  have:=(List.mem_filter.mp q).2
  rw[(AV.beq_iff x x).mpr rfl]at this
  cases this
theorem VRs.perm{ψ φ:List Addr}{h:Heap}{l m:List AV}(p:l.Perm m):∀{vs:List Value},VRs X ψ φ h vs l->∃ws,vs.Perm ws/\VRs X ψ φ h ws m:=by
 delta ψ φ h l m at p
 induction p with
 |nil=>exact fun r=>⟨_,.refl _,r⟩
 |cons a _ ih =>
  intro _ r
  obtain⟨v,vs,rfl,r,q⟩:=r
  obtain⟨ws,p,q⟩:=ih q
  exact⟨v::ws,p.cons v,VRs.cons r q⟩
 |swap a b l =>
  revert a b l;intros a b l
  intro _ r
  obtain⟨v,_,rfl,r1,u,vs,rfl,r2,q⟩:=r
  exact⟨_,.swap u v vs,.cons r2 (.cons r1 q)⟩
 |trans _ _ ih1 ih2 =>
  intro _ r
  obtain⟨ws,p,q⟩:=ih1 r
  obtain⟨us,p',q'⟩:=ih2 q
  exact⟨us,p.trans p',q'⟩
theorem qJj{ψ φ:List Addr}{h:Heap}:∀{vs:List Value}{l:List AV},l.length=vs.length->(∀(i:Nat) (v:Value),vs[i]?=some v->∃b,l[i]?=some b/\VR X ψ φ h v b)->VRs X ψ φ h vs l
 |vs,[],hl,_=>List.eq_nil_of_length_eq_zero hl.symm
 |[],_::_,hl,_=>nomatch hl
 |v::vs,b::l,hl,hi=>by
  obtain⟨b',h1,h2⟩:=hi 0 v rfl
  exact .cons (Option.some.inj h1▸h2) (qJj (Nat.succ.inj hl) fun i u e=>hi (i+1) u e)
theorem LitSet.sset{ψ ψ' φ:List Addr}{h:Heap}{S:Addr}{es:Array (Int×Value)}{ep:Nat}{t:SetTable}{l L:List AV}(x:LitSet X prog w ψ φ h S es ep t l)
 (nd:l.Nodup)(mem:∀b,b∈l↔b∈L)(pl:t.plain=false\/L.length=0)(hL:L.length<7)(hn:S ∉ φ)(hm:S ∉ ψ')(hsub:∀a∈ψ',a∈ψ):VR X ψ' φ h (.ref S) (.sset (dedup L)):=by
 delta ψ ψ' φ h S es ep t l L at x nd mem pl hL hn hm hsub
 obtain⟨⟨o,ho,hex,hd⟩,T,hled,len,item⟩:=x
 have pm:l.Perm (dedup L):=(List.perm_ext_iff_of_nodup nd (qCe L)).mpr fun b=>by rw[mem b,qD5]
 have le:l.length<=L.length:=nd.length_le_of_subset fun b hb=>(mem b).mp hb
 have r0:VRs X ψ' φ h (es.toList.map (·.2)) l:=qJj (len.trans ((List.length_map _).trans Array.length_toList).symm) fun i v hv=>by
  rw[List.getElem?_map]at hv
  obtain⟨e,he,rfl⟩:=Option.map_eq_some_iff.mp hv
  obtain⟨b,h1,_,h3,_⟩:=item i e (by rw[<-Array.getElem?_toList];exact he)
  exact⟨b,h1,VR.move (fun _ _ e=>e) (fun b o e n m=>⟨e,n,fun z=>m (hsub b z)⟩) h3⟩
 (injection (VRs.perm pm r0)with vs;rintro⟨p,r⟩)
 exact⟨S,o,es,ep,t,vs,rfl,ho,hn,hm,hex,hd,T.fits (by rw[List.length_map,Array.length_toList]),pl.imp id fun z=>by rw[<-len];exact Nat.le_trans le (Nat.le_trans (Nat.le_of_eq z) (Nat.zero_le 1)),hled,p,by rw[<-pm.length_eq];exact Nat.lt_of_le_of_lt le (Nat.lt_trans hL (by decide)),r⟩
section
theorem qA7:Slot "set_iterator" "__next__" "set_iterator.__next__" :=
 .of (owner:="set_iterator") (n:="__next__") (by rw[typeLookup_type,builtinLookup_eq_fast];kernel_rfl) (by decide +kernel) (by decide +kernel) (by decide +kernel)
  (by first|exact .inl (by decide +kernel)|exact .inr (by decide +kernel)) (by rw[isSubtype_type];kernel_rfl)
theorem qAK:entryFor table "set_iterator.__next__" = some Builtin.«set_iterator.__next__»:=entryFor_of_tree (by kernel_rfl)
theorem qAI(a:Value):argsOk "set_iterator.__next__" ⟨[a],[]⟩:=by unfold argsOk;kernel_rfl
theorem qAt:Slot "set_iterator" "__iter__" "set_iterator.__iter__" :=
 .of (owner:="set_iterator") (n:="__iter__") (by rw[typeLookup_type,builtinLookup_eq_fast];kernel_rfl) (by decide +kernel) (by decide +kernel) (by decide +kernel)
  (by first|exact .inl (by decide +kernel)|exact .inr (by decide +kernel)) (by rw[isSubtype_type];kernel_rfl)
theorem qBs:entryFor table "set_iterator.__iter__" = some Builtin.«dict_keyiterator.__iter__» :=
 entryFor_alias (id':="dict_keyiterator.__iter__") (by kernel_rfl) (by first|rfl|decide +kernel|(unfold String.splitOn;simp +decide [String.splitOnAux])) (by decide +kernel) (by kernel_rfl)
theorem qBd(a:Value):argsOk "set_iterator.__iter__" ⟨[a],[]⟩:=by unfold argsOk;kernel_rfl
theorem qFK:entryFor table "set.__iter__" = some Builtin.«frozenset.__iter__» :=
 entryFor_alias (id':="frozenset.__iter__") (by kernel_rfl) (by first|rfl|decide +kernel|(unfold String.splitOn;simp +decide [String.splitOnAux])) (by decide +kernel) (by kernel_rfl)
noncomputable def SetIt(h:Heap)(I S:Addr)(first:Value)(i n ep:Nat):Prop :=
 ∃o,h.get? I=some o/\o.cls=.type "set_iterator"/\o.data=.fields #[first,.int i 0,.ref S,.int n 0,.int ep 0]
noncomputable def SetAt(h:Heap)(S:Addr)(es:Array (Int×Value))(ep:Nat)(t:SetTable):Prop :=
 ∃o,h.get? S=some o/\o.ExactSet/\o.data=.set es ep t
section
variable{A:Around}{E:Value->Shared->Prop}{s:Shared}{I S:Addr}{first:Value}{i ep:Nat}{es:Array (Int×Value)}{t:SetTable}
theorem SetIt.typeIs{n}(x:SetIt s.heap I S first i n ep):s.TypeIs (.ref I) "set_iterator":=let⟨o,ho,hc,_⟩:=x;⟨o,ho,hc⟩
theorem SetIt.at{h h':Heap}{n}(x:SetIt h I S first i n ep)(e:∀o,h.get? I=some o->h'.get? I=some o):SetIt h' I S first i n ep:=let⟨o,ho,r⟩:=x;⟨o,e _ ho,r⟩
theorem SetAt.at{h h':Heap}(x:SetAt h S es ep t)(e:∀o,h.get? S=some o->h'.get? S=some o):SetAt h' S es ep t:=let⟨o,ho,r⟩:=x;⟨o,e _ ho,r⟩
theorem qFH{T:Addr}{places:Array Value}{j:Nat}{tk:Tok}{x:Value}{hx:Int}{Q:Option Value->Shared->Prop}(hit:SetIt s.heap I S (.ref T) i es.size ep)(hs:SetAt s.heap S es ep t)(hf:t.fits es.size=true)
 (ht:s.heap.IsTuple T places)(hp:places[i]?=some (.int j tk))(he:es[j]?=some (hx,x))
 (hQ:∀h',SetIt h' I S (.ref T) (i+1) es.size ep->Heap.SameBut I s.heap h'->Q (some x) { s with heap:=h' }) :
  wpAny (model prog w) A (pyNext (.ref I)) Q E s:=by
 delta A E s I S i ep es t T places j tk x hx Q at hit hs hf ht hp he hQ
 (injection (id hit)with o;rintro⟨ho,hc,hd⟩)
 (injection (hs)with os;try clear hs;rintro⟨hos,_,hds⟩)
 (injection (ht)with ot;try clear ht;rintro⟨hot,_,H_⟩;injection H_ with nt;clear H_;intro hdt)
 unfold pyNext
 refine wpAny_bind (wpAny_attempt (wpAny_callSpecial?_slot (name:=Str.ofString "__next__") hit.typeIs qA7
  (wpAny_call_entry qA7 hit.typeIs qAK ?_ (qAI _))))
 unfold Builtin.«set_iterator.__next__»
 refine wpAny_bind (m:=slotArgs _ _ _) (wpAny_pure ?_)
 refine wpAny_bind (wpAny_fieldsOf ho hd ?_)
 dsimp only
 refine wpAny_bind (wpAny_bind (wpAny_setState_of hos hds hf (wpAny_pure ?_)))
 dsimp only
 rw[if_neg (by simp)]
 refine wpAny_bind (wpAny_seqItems hot hdt ?_)
 dsimp only
 rw[Int.toNat_natCast,hp]
 dsimp only
 unfold setNextDrawn
 refine wpAny_bind (wpAny_bind (wpAny_setState_of hos hds hf ?_))
 dsimp only
 rw[if_neg (by simp)]
 rw[Int.toNat_natCast,he]
 refine wpAny_pure ?_
 refine wpAny_bind (wpAny_setField ho hd (by simp) (wpAny_pure ⟨x,rfl,wpAny_pure (hQ _ ?_ (Heap.SameBut.update ..))⟩))
 exact⟨_,Heap.get?_update_self _ ho (Obj.isFreed_of_fields (Obj.data_mapFields hd _)),(Obj.cls_mapFields ..).trans hc,by
  rw[Obj.data_mapFields hd];simp[rawInt]⟩
theorem qGl{K:Fin->Shared->Prop}{Q:Option Value->Shared->Prop}{s:Shared}(hh:A.handled=none)(hQ:∀h',(∀b o,s.heap.get? b=some o->h'.get? b=some o)->Q none { s with heap:=h' }) :
  wpAny (model prog w) A.in1 (do raiseNew (<-newExc (.type "StopIteration") [])) K (fun e s'=>wpAny (model prog w) A (do
   if <-isInstance e (.type "StopIteration")then pure none else throw e) Q E s') s:=by
 delta A E K Q s at hh hQ
 refine wpAny_bind ?_
 simp only[newExc,newTuple]
 refine wpAny_bind (wpAny_newObj_type ?_ (by size_fits))
 refine wpAny_bind (m:=firstArgMember _ _) (wpAny_of_eq (a:=Value.none) (by first|rfl|(simp only[firstArgMember];rfl)) ?_)
 refine wpAny_newObj_type ?_ (by size_fits)
 simp only[raiseNew]
 refine wpAny_bind (wpAny_handled ?_)
 first|rw[show A.in1.handled=none from hh]|rw[hh]
 refine wpAny_bind (wpAny_pure (wpAny_throw ?_))
 refine wpAny_bind (wpAny_isInstance (T:="StopIteration") (b:=true) ⟨_,Heap.get?_push_size _ rfl,rfl⟩ isSubtype_stop ?_)
 exact wpAny_pure (hQ _ fun b o e=>Heap.get?_push_of_some _ (Heap.get?_push_of_some _ e))
theorem qD3{T:Addr}{places:Array Value}{Q:Option Value->Shared->Prop}(hh:A.handled=none)(hit:SetIt s.heap I S (.ref T) i es.size ep)(hs:SetAt s.heap S es ep t)(hf:t.fits es.size=true)
 (ht:s.heap.IsTuple T places)(hp:places[i]?=none)(hQ:∀h',Heap.ExtBut I s.heap h'->Q none { s with heap:=h' }) :
  wpAny (model prog w) A (pyNext (.ref I)) Q E s:=by
 delta A E s I S i ep es t T places Q at hh hit hs hf ht hp hQ
 (injection (id hit)with o;rintro⟨ho,hc,hd⟩)
 (injection (hs)with os;try clear hs;rintro⟨hos,_,hds⟩)
 (injection (ht)with ot;try clear ht;rintro⟨hot,_,H_⟩;injection H_ with nt;clear H_;intro hdt)
 unfold pyNext
 refine wpAny_bind (wpAny_attempt (wpAny_callSpecial?_slot (name:=Str.ofString "__next__") hit.typeIs qA7
  (wpAny_call_entry qA7 hit.typeIs qAK ?_ (qAI _))))
 unfold Builtin.«set_iterator.__next__»
 refine wpAny_bind (m:=slotArgs _ _ _) (wpAny_pure ?_)
 refine wpAny_bind (wpAny_fieldsOf ho hd ?_)
 dsimp only
 refine wpAny_bind (wpAny_bind (wpAny_setState_of hos hds hf (wpAny_pure ?_)))
 dsimp only
 rw[if_neg (by simp)]
 refine wpAny_bind (wpAny_seqItems hot hdt ?_)
 dsimp only
 rw[Int.toNat_natCast,hp]
 dsimp only
 have h2:(Obj.mapFields (fun fs=>fs.setIfInBounds 0 (rawInt 0)) o).data=.fields #[rawInt 0,.int i 0,.ref S,.int es.size 0,.int ep 0]:=by rw[Obj.data_mapFields hd];simp[rawInt]
 refine wpAny_bind (wpAny_setField ho hd (by simp) ?_)
 have ho1:=Heap.get?_update_self (Obj.mapFields fun x=>x.setIfInBounds 0 (rawInt 0)) ho (Obj.isFreed_of_fields (Obj.data_mapFields hd _))
 refine wpAny_bind (wpAny_setField ho1 h2 (by simp) ?_)
 refine qGl (A:=A) hh fun h' hk=>hQ h' fun b o hb e=>hk _ _ ?_
 exact(Heap.get?_update_other _ _ (Ne.symm hb)).trans ((Heap.get?_update_other _ _ (Ne.symm hb)).trans e)
noncomputable def qDu(prog:Program)(w:World)(s:Shared)(S:Addr)(ep:Nat)(sl i:Nat)(r:Option (Value×Nat)):Prop :=
 ∀(A:Around) (E:Value->Shared->Prop) (Q:Option (Value×Nat)->Shared->Prop),Q r s->wpAny (model prog w) A (setNext S sl i ep) Q E s
theorem qGC{sl sl':Nat}{x:Value}{Q:Option Value->Shared->Prop}(hn:qDu prog w s S ep sl i (some (x,sl')))
 (hit:SetIt s.heap I S (.int sl 0) i es.size ep)(hs:SetAt s.heap S es ep t)(hf:t.fits es.size=true)
 (hQ:∀h',SetIt h' I S (.int sl' 0) (i+1) es.size ep->Heap.SameBut I s.heap h'->Q (some x) { s with heap:=h' }) :
  wpAny (model prog w) A (pyNext (.ref I)) Q E s:=by
 obtain⟨o,ho,hc,hd⟩:=id hit
 obtain⟨os,hos,_,hds⟩:=hs
 unfold pyNext
 refine wpAny_bind (wpAny_attempt (wpAny_callSpecial?_slot (name:=Str.ofString "__next__") hit.typeIs qA7
  (wpAny_call_entry qA7 hit.typeIs qAK ?_ (qAI _))))
 unfold Builtin.«set_iterator.__next__»
 refine wpAny_bind (m:=slotArgs _ _ _) (wpAny_pure ?_)
 refine wpAny_bind (wpAny_fieldsOf ho hd ?_)
 dsimp only
 refine wpAny_bind (wpAny_bind (wpAny_setState_of hos hds hf (wpAny_pure ?_)))
 dsimp only
 rw[if_neg (by simp)]
 rw[Int.toNat_natCast,Int.toNat_natCast,Int.toNat_natCast]
 refine wpAny_bind (hn _ _ _ ?_)
 dsimp only
 have h2:(Obj.mapFields (fun fs=>fs.setIfInBounds 0 (rawInt sl')) o).data=.fields #[rawInt sl',.int i 0,.ref S,.int es.size 0,.int ep 0]:=by rw[Obj.data_mapFields hd];simp[rawInt]
 have ho1:=Heap.get?_update_self (Obj.mapFields fun x=>x.setIfInBounds 0 (rawInt sl')) ho (Obj.isFreed_of_fields (Obj.data_mapFields hd _))
 refine wpAny_bind (wpAny_setField ho hd (by simp) ?_)
 refine wpAny_bind (wpAny_setField ho1 h2 (by simp) (wpAny_pure ⟨x,rfl,wpAny_pure (hQ _ ?_ ((Heap.SameBut.update ..).trans (Heap.SameBut.update ..)))⟩))
 exact⟨_,Heap.get?_update_self _ ho1 (Obj.isFreed_of_fields (Obj.data_mapFields h2 _)),(Obj.cls_mapFields ..).trans ((Obj.cls_mapFields ..).trans hc),by
  rw[Obj.data_mapFields h2];simp[rawInt]⟩
theorem qDe{sl:Nat}{Q:Option Value->Shared->Prop}(hh:A.handled=none)(hn:qDu prog w s S ep sl i none)
 (hit:SetIt s.heap I S (.int sl 0) i es.size ep)(hs:SetAt s.heap S es ep t)(hf:t.fits es.size=true)
 (hQ:∀h',Heap.ExtBut I s.heap h'->Q none { s with heap:=h' }) :
  wpAny (model prog w) A (pyNext (.ref I)) Q E s:=by
 delta A E s I S i ep es t sl Q at hh hn hit hs hf hQ
 (injection (id hit)with o;rintro⟨ho,hc,hd⟩)
 (injection (hs)with os;try clear hs;rintro⟨hos,_,hds⟩)
 unfold pyNext
 refine wpAny_bind (wpAny_attempt (wpAny_callSpecial?_slot (name:=Str.ofString "__next__") hit.typeIs qA7
  (wpAny_call_entry qA7 hit.typeIs qAK ?_ (qAI _))))
 unfold Builtin.«set_iterator.__next__»
 refine wpAny_bind (m:=slotArgs _ _ _) (wpAny_pure ?_)
 refine wpAny_bind (wpAny_fieldsOf ho hd ?_)
 dsimp only
 refine wpAny_bind (wpAny_bind (wpAny_setState_of hos hds hf (wpAny_pure ?_)))
 dsimp only
 rw[if_neg (by simp)]
 rw[Int.toNat_natCast,Int.toNat_natCast,Int.toNat_natCast]
 refine wpAny_bind (hn _ _ _ ?_)
 dsimp only
 refine wpAny_bind (wpAny_setField ho hd (by simp) ?_)
 exact qGl (A:=A) hh fun h' hk=>hQ h' fun b o hb e=>hk _ _ ((Heap.get?_update_other _ _ (Ne.symm hb)).trans e)
theorem qJN(hbt:w.params.followText "set-order" = true)(hs:SetAt s.heap S es ep t)(hf:t.fits es.size=true):qDu prog w s S ep 0 i ((pickOrder (w.params.setOrder S ep) es)[i]?.map fun e=>(e.2,0)):=by
 delta s S i ep es t at hbt hs hf
 (intros A E Q;intro hQ)
 (injection (hs)with os;try clear hs;rintro⟨hos,_,hds⟩)
 unfold setNext
 refine wpAny_bind (wpAny_setState_of hos hds hf ?_)
 dsimp only
 unfold setsByText
 refine wpAny_bind (wpAny_bind (wpAny_askSetting (wpAny_pure ?_)))
 show wpAny _ _ (if w.params.followText "set-order" = true then _ else _) _ _ _
 rw[hbt,if_pos rfl,if_neg (by simp)]
 unfold setWalk
 refine wpAny_bind (wpAny_bind (wpAny_setState_of hos hds hf ?_))
 dsimp only
 unfold setsByText
 refine wpAny_bind (wpAny_bind (wpAny_askSetting (wpAny_pure ?_)))
 show wpAny _ _ (if w.params.followText "set-order" = true then _ else _) _ _ _
 rw[hbt,if_pos rfl]
 refine wpAny_bind (wpAny_askSetting (wpAny_pure ?_))
 exact wpAny_pure hQ
theorem qLE(hbt:w.params.followText "set-order" = false)(hl:t.led=true)(hz:es.size<=1)(hs:SetAt s.heap S es ep t)(hf:t.fits es.size=true){sl:Nat} :
  qDu prog w s S ep sl i (match es[SetTable.below t.place sl]?,t.place[SetTable.below t.place sl]? with
  |some (_,x),some j=>some (x,j+1)
  |_,_=>none):=by
 delta s S i ep es t sl at hbt hl hz hs hf
 intro A E Q hQ
 (injection (hs)with os;try clear hs;rintro⟨hos,_,hds⟩)
 unfold setNext
 refine wpAny_bind (wpAny_setState_of hos hds hf ?_)
 dsimp only
 unfold setsByText
 refine wpAny_bind (wpAny_bind (wpAny_askSetting (wpAny_pure ?_)))
 show wpAny _ _ (if w.params.followText "set-order" = true then _ else _) _ _ _
 rw[hbt,if_neg Bool.false_ne_true]
 have hd:(!t.plain&&decide (es.size>1))=false:=by simp;lia
 show wpAny _ _ (if(!t.plain&&decide (es.size>1))=true then _ else _) _ _ _
 rw[hd,if_neg Bool.false_ne_true]
 have hm:(!t.led&&!es.isEmpty)=false:=by simp[hl]
 refine wpAny_bind ?_
 show wpAny _ _ (if(!t.led&&!es.isEmpty)=true then _ else _) _ _ _
 rw[hm,if_neg Bool.false_ne_true]
 exact wpAny_pure (wpAny_pure hQ)
theorem qDr{α:Type}:∀{l:List α}{i:Nat} (h:i<l.length),(l[i]::l.eraseIdx i).Perm l
 |x::r,0,_=>List.Perm.refl _
 |x::r,i+1,h=>by
  have:=qDr (l:=r) (i:=i) (by simpa using h)
  rw[List.eraseIdx_cons_succ,List.getElem_cons_succ]
  exact(List.Perm.swap _ _ _).trans (this.cons x)
theorem qOB{α:Type}{next:Nat->Nat}{fuel k:Nat}{left:List α}{out:Array α}:pickOrder.go next (fuel+1) k left out=(match left[next k % left.length]? with|some x=>pickOrder.go next fuel (k+1) (left.eraseIdx (next k % left.length)) (out.push x)|none=>out):=rfl
theorem qKW(next:Nat->Nat):∀(fuel k:Nat) (left:List (Int×Value)) (out:Array (Int×Value)),fuel=left.length->(pickOrder.go next fuel k left out).toList.Perm (out.toList++left)
 | 0,k,left,out,h=>by
  have:left=[]:=List.eq_nil_of_length_eq_zero h.symm
  subst this;show out.toList.Perm (out.toList++[]);rw[List.append_nil]
 |fuel+1,k,left,out,h=>by
  have hl:next k % left.length<left.length:=Nat.mod_lt _ (by lia)
  rw[qOB,List.getElem?_eq_getElem hl]
  dsimp only
  refine(qKW next fuel (k+1) _ _ (by rw[List.length_eraseIdx];simp[hl];lia)).trans ?_
  rw[Array.toList_push,List.append_assoc]
  refine List.Perm.append_left _ ?_
  exact(qDr hl)
theorem qFF(next:Nat->Nat)(xs:Array (Int×Value)):(pickOrder next xs).toList.Perm xs.toList:=by
 unfold pickOrder
 have:=qKW next xs.size 0 xs.toList #[] (by simp)
 simpa using this
theorem qLi{src:Source}{n:Nat}(hn:n≠0)(w:World)(s:Shared):∃i d,i<n/\∀(prog:Program) (A:Around) (E:Value->Shared->Prop) (Q:Nat->Shared->Prop),Q i { s with drawn:=d }->wpAny (model prog w) A (choose src n) Q E s :=
 ⟨w.draws src (s.drawn.get src) % n,s.drawn.bump src,Nat.mod_lt _ (Nat.pos_of_ne_zero hn),fun _ _ _ _ h _ _ _=>⟨hn,h⟩⟩
theorem qE5{α:Type}(w:World):∀(n:Nat) (xs:List α) (s:Shared),n=xs.length ->
  ∃ys d,ys.Perm xs/\∀(prog:Program) (A:Around) (E:Value->Shared->Prop) (Q:List α->Shared->Prop),Q ys { s with drawn:=d }->wpAny (model prog w) A (drawOrder n xs) Q E s
 | 0,xs,s,h=>⟨[],s.drawn,by rw[List.eq_nil_of_length_eq_zero h.symm],fun _ _ _ _ hq=>by
  show wpAny _ _ (pure []) _ _ _;exact wpAny_pure hq⟩
 |n+1,xs,s,h=>by
  have hne:xs.length≠0:=by lia
  obtain⟨i,d,hi,hc⟩:=qLi (src:=.order) hne w s
  obtain⟨ys,d',hp,hd⟩:=qE5 w n (xs.eraseIdx i) { s with drawn:=d } (by rw[List.length_eraseIdx];simp[hi];lia)
  refine⟨xs[i]::ys,d',((List.Perm.cons _ hp).trans (qDr hi)),fun prog A E Q hq=>?_⟩
  cases xs with
  |nil=>simp at hne
  |cons x xs =>
   show wpAny _ _ (_ >>= _) _ _ _
   refine wpAny_bind (hc _ _ _ _ ?_)
   rw[List.getElem?_eq_getElem hi]
   refine wpAny_bind (hd _ _ _ _ ?_)
   exact wpAny_pure hq
theorem qCU{n:Nat}{Q:Value->Shared->Prop}(hit:SetIt s.heap I S first i n ep)(h:Q (.ref I) s):wpAny (model prog w) A (pyIter (.ref I)) Q E s:=by
 refine wpAny_pyIter_slot hit.typeIs qAt (wpAny_call_entry qAt hit.typeIs qBs ?_ (qBd _))
 show wpAny _ _ (ret (.ref I)) _ _ s
 exact wpAny_pure ⟨_,rfl,"set_iterator",_,hit.typeIs,qA7.lookup,h⟩
theorem qHa{T:Addr}{places:Array Value}{vs:List Value}(hh:A.handled=none)(hSI:S≠I)(hTI:T≠I)(hf:t.fits es.size=true)(hl:places.size=vs.length)
 (hp:∀i:Nat,i<vs.length->∃(j:Nat) (tk:Tok) (hx:Int) (x:Value),places[i]?=some (.int j tk)/\es[j]?=some (hx,x)/\vs[i]?=some x) :
  WalksS prog w A I [I,S,T] [I] (fun a b=>b=a) vs.length (fun i v=>vs[i]?=some v) (fun i s=>SetIt s.heap I S (.ref T) i es.size ep/\SetAt s.heap S es ep t/\s.heap.IsTuple T places) where
 sub:=fun b hb=>by simp at hb;simp[hb]
 grefl:=fun _=>rfl
 gtrans:=fun _ _ _ h1 h2=>h2.trans h1
 frame:=fun _ s h' tk st _ hk=>⟨st.1.at fun o e=>hk I (by simp) o e,st.2.1.at fun o e=>hk S (by simp) o e,st.2.2.at fun o e=>hk T (by simp) o e⟩
 item:=fun i s Q E hi st hQ=>by
  obtain⟨j,tk,hx,x,h1,h2,h3⟩:=hp i hi
  refine qFH st.1 st.2.1 hf st.2.2 h1 h2 fun h' hit' hs'=>?_
  exact hQ x _ h3 ⟨hit',st.2.1.at fun o e=>hs'.extBut S o hSI e,st.2.2.at fun o e=>hs'.extBut T o hTI e⟩ ⟨fun b o hb e=>hs'.extBut b o (fun h=>hb (by simp[h])) e,rfl,rfl,rfl,Nat.le_refl _⟩
 done:=fun s Q E st hQ=>by
  refine qD3 hh st.1 st.2.1 hf st.2.2 (by rw[Array.getElem?_eq_none];lia) fun h' he=>?_
  exact hQ _ ⟨fun b o hb e=>he b o (fun h=>hb (by simp[h])) e,rfl,rfl,rfl,Nat.le_refl _⟩
 self:=fun i s Q E st hQ=>qCU st.1 hQ
theorem qIy{vs:List Value}{sl:Nat->Nat}(hh:A.handled=none)(hSI:S≠I)(hf:t.fits es.size=true)
 (hn:∀(i:Nat) (s:Shared),SetAt s.heap S es ep t->i<=vs.length->qDu prog w s S ep (sl i) i (vs[i]?.map fun v=>(v,sl (i+1)))) :
  WalksS prog w A I [I,S] [I] (fun a b=>b=a) vs.length (fun i v=>vs[i]?=some v) (fun i s=>SetIt s.heap I S (.int (sl i) 0) i es.size ep/\SetAt s.heap S es ep t) where
 sub:=fun b hb=>by simp at hb;simp[hb]
 grefl:=fun _=>rfl
 gtrans:=fun _ _ _ h1 h2=>h2.trans h1
 frame:=fun _ s h' tk st _ hk=>⟨st.1.at fun o e=>hk I (by simp) o e,st.2.at fun o e=>hk S (by simp) o e⟩
 item:=fun i s Q E hi st hQ=>by
  have h:=hn i s st.2 (Nat.le_of_lt hi)
  rw[List.getElem?_eq_getElem hi]at h
  refine qGC (sl':=sl (i+1)) h st.1 st.2 hf fun h' hit' hs'=>?_
  exact hQ _ _ (List.getElem?_eq_getElem hi) ⟨hit',st.2.at fun o e=>hs'.extBut S o hSI e⟩ ⟨fun b o hb e=>hs'.extBut b o (fun h=>hb (by simp[h])) e,rfl,rfl,rfl,Nat.le_refl _⟩
 done:=fun s Q E st hQ=>by
  have h:=hn vs.length s st.2 (Nat.le_refl _)
  rw[List.getElem?_eq_none (Nat.le_refl _)]at h
  refine qDe hh h st.1 st.2 hf fun h' he=>?_
  exact hQ _ ⟨fun b o hb e=>he b o (fun h=>hb (by simp[h])) e,rfl,rfl,rfl,Nat.le_refl _⟩
 self:=fun i s Q E st hQ=>qCU st.1 hQ
noncomputable def qM3(prog:Program)(w:World)(S:Addr)(s:Shared)(vs:List Value)(d:Drawn)(Q:Value->Shared->Prop):Prop :=
 ∀(I:Addr) (h':Heap) (fp:List Addr) (St:Nat->Shared->Prop),s.heap.get? I=none->(∀b o,s.heap.get? b=some o->h'.get? b=some o)->(∀b∈fp,b=S\/s.heap.get? b=none)->I∈fp ->
  (∀A:Around,A.handled=none->WalksS prog w A I fp [I] (fun a b=>b=a) vs.length (fun i v=>vs[i]?=some v) St)->St 0 { s with heap:=h',drawn:=d }->Q (.ref I) { s with heap:=h',drawn:=d }
theorem qH6{Q:Value->Shared->Prop}(hs:SetAt s.heap S es ep t)(hf:t.fits es.size=true)
 (h:wpAny (model prog w) A.in1 (do
   let first <-if <-setDrawn S then newTuple ((<-drawOrder es.size (List.range es.size)).map fun(i:Nat)=>rawInt i)else pure (rawInt 0)
   ret (<-newFields "set_iterator" [first,rawInt 0,.ref S,rawInt es.size,rawInt (<-setEpoch S)])) (fun fin s'=>∃v,fin=.done (.ret v)/\(∃T' r,s'.TypeIs v T'/\typeLookup (.type T') "__next__" = pure (some r)/\Q v s')) E s) :
  wpAny (model prog w) A (pyIter (.ref S)) Q E s:=by
 obtain⟨os,hos,hex,hds⟩:=hs
 have hT:s.TypeIs (.ref S) "set":=⟨os,hos,hex.1⟩
 refine wpAny_pyIter_slot hT F.slot_set_iter (wpAny_call_entry F.slot_set_iter hT qFK ?_ (F.args_set_iter_1 _))
 unfold Builtin.«frozenset.__iter__» Builtin.Frozenset.slot0 Builtin.Frozenset.sizeOf setEntries
 refine wpAny_bind (wpAny_bind (m:=slotArgs _ _ _) (wpAny_pure ?_))
 refine wpAny_pure (wpAny_bind (wpAny_bind (wpAny_bind (wpAny_setState_of hos hds hf (wpAny_pure (wpAny_pure ?_))))))
 exact h
theorem fresh_at{h h':Heap}(k:∀b o,h.get? b=some o->h'.get? b=some o):h.get? h'.objs.size=none:=by
 cases e:h.get? h'.objs.size with
 |none=>rfl
 |some o=>exact absurd (Heap.lt_size (k _ _ e)) (Nat.lt_irrefl _)
theorem qJK(hbt:w.params.followText "set-order" = false)(hp:t.plain=false)(hz:1<es.size)(hz2:es.size<1000)(hs:SetAt s.heap S es ep t)(hf:t.fits es.size=true) :
  ∃(vs:List Value) (d:Drawn),vs.Perm (es.toList.map (·.2))/\∀{A:Around}{E:Value->Shared->Prop}{Q:Value->Shared->Prop},qM3 prog w S s vs d Q->wpAny (model prog w) A (pyIter (.ref S)) Q E s:=by
 delta s S ep es t at hbt hp hz hz2 hs hf
 (injection (qE5 w es.size (List.range es.size) s (by simp))with ys d;rintro⟨hy,hd⟩)
 have lt:∀j∈ys,j<es.size:=fun j hj=>List.mem_range.mp (hy.mem_iff.mp hj)
 have hyl:ys.length=es.size:=by have:=hy.length_eq;simpa using this
 refine⟨ys.map fun j=>(es.getD j default).2,d,?_,fun{A E Q} hW=>?_⟩
 .refine (hy.map _).trans (List.Perm.of_eq ?_)
  refine List.ext_getElem (by simp) ?_
  intros i;intro h1 h2
  have:i<es.size:=by simpa using h2
  simp[Array.getD,this]
 .have hs0:=hs
  (injection (hs)with os;try clear hs;rintro⟨hos,hex,hds⟩)
  refine qH6 hs0 hf ?_
  unfold setDrawn
  refine wpAny_bind (wpAny_bind (wpAny_setState_of hos hds hf ?_))
  dsimp only
  unfold setsByText
  refine wpAny_bind (wpAny_bind (wpAny_askSetting (wpAny_pure ?_)))
  show wpAny _ _ (pure (!w.params.followText "set-order" && (!t.plain&&decide (es.size>1)))) _ _ _
  refine wpAny_pure ?_
  rw[hbt,hp,decide_eq_true hz,show(!false&&(!false&&true))=true from rfl,if_pos rfl]
  refine wpAny_bind (hd _ _ _ _ ?_)
  refine wpAny_bind (wpAny_newTuple ?_ (by rw[List.length_map,hyl,sizeLine_eq];lia))
  have hs1:SetAt (s.heap.push { cls:=.type "tuple",data:=.seq (ys.map fun(i:Nat)=>rawInt i).toArray }) S es ep t:=hs0.at fun o e=>Heap.get?_push_of_some _ e
  (injection (id hs1)with os1;rintro⟨hos1,_,hds1⟩)
  unfold setEpoch
  refine wpAny_bind (wpAny_bind (wpAny_setState_of hos1 hds1 hf (wpAny_pure ?_)))
  dsimp only
  refine wpAny_bind (wpAny_newObj_type (wpAny_pure ⟨_,rfl,"set_iterator",_,⟨_,Heap.get?_push_size _ rfl,rfl⟩,qA7.lookup,?_⟩))
  have hSlt:S<s.heap.objs.size:=Heap.lt_size hos
  have hT1:(s.heap.push { cls:=.type "tuple",data:=.seq (ys.map fun(i:Nat)=>rawInt i).toArray }).objs.size=s.heap.objs.size+1:=Heap.size_push ..
  have kp:∀b o,s.heap.get? b=some o->((s.heap.push { cls:=.type "tuple",data:=.seq (ys.map fun(i:Nat)=>rawInt i).toArray }).push { cls:=.type "set_iterator",data:=.fields [Value.ref s.heap.objs.size,rawInt 0,Value.ref S,rawInt es.size,rawInt ep].toArray }).get? b=some o :=
   fun b o e=>Heap.get?_push_of_some _ (Heap.get?_push_of_some _ e)
  dsimp only
  rw[hT1]
  have hfresh1:s.heap.get? (s.heap.objs.size+1)=none:=by
   have:=fresh_at (h:=s.heap) (h':=s.heap.push { cls:=.type "tuple",data:=.seq (ys.map fun(i:Nat)=>rawInt i).toArray }) fun b o e=>Heap.get?_push_of_some _ e
   rwa [hT1]at this
  refine hW (s.heap.objs.size+1) _ [s.heap.objs.size+1,S,s.heap.objs.size] (fun i s'=>SetIt s'.heap (s.heap.objs.size+1) S (.ref s.heap.objs.size) i es.size ep/\SetAt s'.heap S es ep t/\s'.heap.IsTuple s.heap.objs.size (ys.map fun(i:Nat)=>rawInt i).toArray)
   hfresh1 kp ?_ (by simp) (?_) ⟨?_,?_,?_⟩
  ·(intros b;intro hb)
   simp only[List.mem_cons,List.not_mem_nil,or_false]at hb
   rcases hb with rfl|rfl|rfl
   .exact .inr hfresh1
   .exact .inl rfl
   .exact .inr (fresh_at fun _ _ e=>e)
  .intros A;intro hh
   refine qHa hh (Nat.ne_of_lt (Nat.lt_succ_of_lt hSlt)) (Nat.ne_of_lt (Nat.lt_succ_self _)) hf (by simp) ?_
   intros i;intro hi
   rw[List.length_map]at hi
   have hj:=lt ys[i] (List.getElem_mem hi)
   refine⟨ys[i],0,es[ys[i]].1,es[ys[i]].2,?_,?_,?_⟩
   .simp [hi,rawInt]
   .rw [Array.getElem?_eq_getElem hj]
   .rw [List.getElem?_map,List.getElem?_eq_getElem hi];simp[Array.getD,hj]
  .refine ⟨_,by rw[<-hT1];exact Heap.get?_push_size _ rfl,rfl,rfl⟩
  .exact hs0.at fun o e=>kp _ _ e
  .exact ⟨_,Heap.get?_push_of_some _ (Heap.get?_push_size _ rfl),rfl,_,rfl⟩
theorem qH5{vs:List Value}{sl:Nat->Nat}(hbt:w.params.followText "set-order" = true\/es.size<=1)(h0:sl 0=0)(hs:SetAt s.heap S es ep t)(hf:t.fits es.size=true)
 (hn:∀(i:Nat) (s:Shared),SetAt s.heap S es ep t->i<=vs.length->qDu prog w s S ep (sl i) i (vs[i]?.map fun v=>(v,sl (i+1)))){Q:Value->Shared->Prop}(hW:qM3 prog w S s vs s.drawn Q):wpAny (model prog w) A (pyIter (.ref S)) Q E s:=by
 delta A E s S ep es t vs sl Q at hbt h0 hs hf hn hW
 have hs0:=hs
 (injection (hs)with os;try clear hs;rintro⟨hos,hex,hds⟩)
 refine qH6 hs0 hf ?_
 unfold setDrawn
 refine wpAny_bind (wpAny_bind (wpAny_setState_of hos hds hf ?_))
 dsimp only
 unfold setsByText
 refine wpAny_bind (wpAny_bind (wpAny_askSetting (wpAny_pure ?_)))
 show wpAny _ _ (pure (!w.params.followText "set-order" && (!t.plain&&decide (es.size>1)))) _ _ _
 refine wpAny_pure ?_
 have hd:(!w.params.followText "set-order" && (!t.plain&&decide (es.size>1)))=false:=by
  rcases hbt with q|q
  .rw [q];rfl
  .have:decide (es.size>1)=false:=by simp;lia
   rw[this];simp
 rw[hd,if_neg Bool.false_ne_true]
 refine wpAny_bind (wpAny_pure ?_)
 unfold setEpoch
 refine wpAny_bind (wpAny_bind (wpAny_setState_of hos hds hf (wpAny_pure ?_)))
 dsimp only
 refine wpAny_bind (wpAny_newObj_type (wpAny_pure ⟨_,rfl,"set_iterator",_,⟨_,Heap.get?_push_size _ rfl,rfl⟩,qA7.lookup,?_⟩))
 have hSlt:S<s.heap.objs.size:=Heap.lt_size hos
 have kp:∀b o,s.heap.get? b=some o->(s.heap.push { cls:=.type "set_iterator",data:=.fields [rawInt 0,rawInt 0,Value.ref S,rawInt es.size,rawInt ep].toArray }).get? b=some o:=fun b o e=>Heap.get?_push_of_some _ e
 refine hW s.heap.objs.size _ [s.heap.objs.size,S] (fun i s'=>SetIt s'.heap s.heap.objs.size S (.int (sl i) 0) i es.size ep/\SetAt s'.heap S es ep t) (fresh_at fun _ _ e=>e) kp ?_ (by simp) (?_) ⟨?_,?_⟩
 ·(intros b;intro hb)
  simp only[List.mem_cons,List.not_mem_nil,or_false]at hb
  rcases hb with rfl|rfl
  .exact .inr (fresh_at fun _ _ e=>e)
  .exact .inl rfl
 .intros A;intro hh
  exact qIy hh (Nat.ne_of_lt hSlt) hf hn
 .rw [h0];exact⟨_,Heap.get?_push_size _ rfl,rfl,rfl⟩
 .exact hs0.at fun o e=>kp _ _ e
theorem qLy{α:Type}{xs:Array α}(h:xs.size<=1):xs=#[]\/∃e,xs=#[e]:=by
 obtain⟨l⟩:=xs
 cases l with
 |nil=>exact .inl rfl
 |cons e t=>cases t with
  |nil=>exact .inr ⟨e,rfl⟩
  |cons=>exact absurd (Nat.le_of_succ_le_succ h) (Nat.not_succ_le_zero _)
theorem qOr{α:Type}{xs:Array α}(h:xs.size=1):∃e,xs=#[e]:=by
 rcases qLy (Nat.le_of_eq h)with q|q
 .rw [q]at h;exact nomatch h
 .exact q
theorem qMv(hp:t.plain=false\/es.size<=1)(hl:w.params.followText "set-order" = true\/t.led=true)(hz2:es.size<1000)(hs:SetAt s.heap S es ep t)(hf:t.fits es.size=true) :
  ∃(vs:List Value) (d:Drawn),vs.Perm (es.toList.map (·.2))/\∀{A:Around}{E:Value->Shared->Prop}{Q:Value->Shared->Prop},qM3 prog w S s vs d Q->wpAny (model prog w) A (pyIter (.ref S)) Q E s:=by
 delta s S ep es t at hp hl hz2 hs hf
 cases hbt:w.params.followText "set-order" with
 |true =>
  refine⟨(pickOrder (w.params.setOrder S ep) es).toList.map (·.2),s.drawn,(qFF _ _).map _,fun{A E Q} hW=>?_⟩
  refine qH5 (sl:=fun _=>0) (.inl hbt) rfl hs hf (?_) hW
  intros i s;intro hs hi
  have:=qJN (i:=i) hbt hs hf
  rw[List.getElem?_map,Array.getElem?_toList,Option.map_map]
  exact this
 |false =>
  have hled:t.led=true:=hl.resolve_left (by rw[hbt];exact Bool.false_ne_true)
  by_cases hz:es.size<=1
  .refine ⟨es.toList.map (·.2),s.drawn,List.Perm.refl _,fun{A E Q} hW=>?_⟩
   have hpl:t.place.size=es.size:=by
    simp only[SetTable.fits,Bool.and_eq_true,beq_iff_eq]at hf;exact hf.1
   refine qH5 (sl:=fun i=>if i=0 then 0 else t.place.getD 0 0+1) (.inr hz) rfl hs hf (?_) hW
   intros i s;intro hs hi
   have:=qLE (i:=i) (sl:=if i=0 then 0 else t.place.getD 0 0+1) hbt hled hz hs hf
   rw[List.length_map,Array.length_toList]at hi
   have hcase:=qLy hz
   rcases hcase with rfl|⟨e,rfl⟩
   .simpa using this
   ·(injection (qOr hpl)with j;intro hj)
    rw[hj]at this ⊢
    have hi':i=0\/i=1:=by simp at hi;lia
    rcases hi' with rfl|rfl
    .have b0:SetTable.below #[j] 0=0:=rfl
     simp only[↓reduceIte]at this ⊢
     rw[b0]at this
     simpa using this
    .have b1:SetTable.below #[j] (j+1)=1:=(show SetTable.below.go #[j] (j+1) 1 0 1=(if(#[j]:Array Nat).getD 0 0<j+1 then 1 else 0)from rfl).trans (if_pos (Nat.lt_succ_self j))
     simp at this ⊢
     rw[b1]at this
     simpa using this
  .have hp':t.plain=false:=hp.resolve_right hz
   exact qJK hbt hp' (by lia) hz2 hs hf
theorem qNV(S l:Addr)(h:l≠S):Builtin.List.listSameRef (.ref l) (.ref S)=false:=by simp[Builtin.List.listSameRef,h]
theorem qMw{vs:List Value}{acc:Array Value}(h:ItemsOf (fun i v=>vs[i]?=some v) acc vs.length):acc.toList=vs:=by
 refine List.ext_getElem (by rw[Array.length_toList,h.1]) fun i h1 h2=>?_
 have:=h.2 i acc[i] (Array.getElem?_eq_getElem _)
 have this:vs[i]?=some acc[i]:=this
 rw[List.getElem?_eq_getElem h2]at this
 rw[Array.getElem_toList]
 exact(Option.some.inj this).symm
theorem qI4(hp:t.plain=false\/es.size<=1)(hl:w.params.followText "set-order" = true\/t.led=true)(hz2:es.size<1000)(hs:SetAt s.heap S es ep t)(hf:t.fits es.size=true) :
  ∃(vs:List Value) (d:Drawn),vs.Perm (es.toList.map (·.2))/\∀{A:Around}{E:Value->Shared->Prop}{Q:List Value->Shared->Prop},A.handled=none ->
   (∀h' tk,(∀b o,s.heap.get? b=some o->h'.get? b=some o)->Q vs { s with heap:=h',toks:=tk,drawn:=d })->wpAny (model prog w) A (collect (.ref S)) Q E s:=by
 delta s S ep es t at hp hl hz2 hs hf
 have hs0:=hs
 (injection (hs)with os;try clear hs;rintro⟨hos,hex,hds⟩)
 have hlt:S<s.heap.objs.size:=Heap.lt_size hos
 have hs1:SetAt (s.heap.push { cls:=.type "list",data:=.seq ([]:List Value).toArray }) S es ep t:=hs0.at fun o e=>Heap.get?_push_of_some _ e
 (injection (qMv (s:={ s with heap:=s.heap.push { cls:=.type "list",data:=.seq ([]:List Value).toArray } }) hp hl hz2 hs1 hf)with vs d;rintro⟨hperm,hit⟩)
 have hvl:vs.length=es.size:=by have:=hperm.length_eq;simpa using this
 refine⟨vs,d,hperm,fun{A E Q} hh hQ=>?_⟩
 unfold collect
 refine wpAny_bind (wpAny_runValue (codeAny_builtin F.entry_proto_collect ?_))
 rw[Around.under_plainId F.plain_proto_collect _]
 show wpAny _ A.in1 (newList [] >>= fun l=>again (.builtin "list.__iadd__" ⟨[l,.ref S],[]⟩)) _ _ s
 refine wpAny_bind (wpAny_newObj_type ?_)
 refine wpAny_pure ⟨plainId_quiet F.plain_list_iadd _,codeAny_builtin F.entry_list_iadd ?_⟩
 rw[Around.under_plainId F.plain_list_iadd _]
 show wpAny _ A.in1 (Builtin.List.listExtendWith (.ref s.heap.objs.size) (.ref S) (.ref s.heap.objs.size)) _ _ _
 unfold Builtin.List.listExtendWith
 have hT:∀{s':Shared},SetAt s'.heap S es ep t->s'.TypeIs (.ref S) "set":=fun⟨o,ho,hx,_⟩=>⟨o,ho,hx.1⟩
 refine wpAny_bind (wpAny_typeOf (hT hs1) ?_)
 have h1:=qNV S s.heap.objs.size (Nat.ne_of_gt hlt)
 have h2:(Value.type "set" == Value.type "list")=false:=by decide
 have h3:(Value.type "set" == Value.type "tuple")=false:=by decide
 simp only[h1,h2,h3,Bool.or_false,Bool.false_eq_true,if_false]
 refine wpAny_bind (hit fun I h' fp St hI hk hfp hIfp hW hst=>?_)
 have hnS:s.heap.objs.size ∉ fp:=fun q=>by
  rcases hfp _ q with z|z
  .exact absurd z (Nat.ne_of_gt hlt)
  .have hS₀:(s.heap.push { cls:=.type "list",data:=.seq ([]:List Value).toArray }).get? s.heap.objs.size=some { cls:=.type "list",data:=.seq ([]:List Value).toArray }:=Heap.get?_push_size _ rfl
   have z':(s.heap.push { cls:=.type "list",data:=.seq ([]:List Value).toArray }).get? s.heap.objs.size=none:=z
   rw[z']at hS₀;cases hS₀
 have hs2:SetAt h' S es ep t:=hs1.at fun o e=>hk _ _ e
 refine wpAny_bind (wpAny_holding ?_)
 unfold Builtin.List.listLengthHint
 refine wpAny_bind (wpAny_specialOf (hT hs2) F.slot_set_len.lookup ?_)
 generalize hid:("set.__len__":String)=id0
 dsimp only
 rw[show splitId id0=some ("set","__len__")from by subst hid;decide +kernel]
 subst hid
 refine wpAny_bind (wpAny_isInstance (b:=true) (hT hs2) (by rw[isSubtype_type];kernel_rfl) ?_)
 refine wpAny_bind (wpAny_typeOf (hT hs2) ?_)
 refine wpAny_pure ?_
 show wpAny _ A.in1 (rule "list.extend.makes-room" >>= fun _=>Builtin.List.listTouch (.ref s.heap.objs.size) >>= fun _ =>
  again (.builtin "list.extend.loop" ⟨[.ref s.heap.objs.size,.ref I,.ref s.heap.objs.size],[]⟩)) _ _ _
 refine wpAny_bind (wpAny_rule ?_)
 have hS₁:h'.get? s.heap.objs.size=some { cls:=.type "list",data:=.seq ([]:List Value).toArray }:=hk _ _ (Heap.get?_push_size _ rfl)
 have hIne:s.heap.objs.size≠I:=fun e=>by
  have hS₀:(s.heap.push { cls:=.type "list",data:=.seq ([]:List Value).toArray }).get? s.heap.objs.size=some { cls:=.type "list",data:=.seq ([]:List Value).toArray }:=Heap.get?_push_size _ rfl
  rw[e]at hS₀
  have hI':(s.heap.push { cls:=.type "list",data:=.seq ([]:List Value).toArray }).get? I=none:=hI
  rw[hI']at hS₀;cases hS₀
 refine wpAny_bind ?_
 show wpAny _ A.in1 (updateSeq s.heap.objs.size (·.push .none) >>= fun _=>updateSeq s.heap.objs.size (·.pop)) _ _ _
 refine wpAny_bind (wpAny_updateSeq hS₁ rfl ?_)
 have hS₂:=Heap.get?_update_self (Obj.mapSeq (·.push Value.none)) hS₁ rfl
 refine wpAny_updateSeq hS₂ rfl ?_
 have hS₃:=Heap.get?_update_self (Obj.mapSeq (·.pop)) hS₂ rfl
 have hfpS:s.heap.objs.size ∉ fp:=hnS
 have oth:∀b o,b≠s.heap.objs.size->h'.get? b=some o->((h'.update s.heap.objs.size (Obj.mapSeq (·.push Value.none))).update s.heap.objs.size (Obj.mapSeq (·.pop))).get? b=some o :=
  fun b o hb e=>(Heap.get?_update_other _ _ (Ne.symm hb)).trans ((Heap.get?_update_other _ _ (Ne.symm hb)).trans e)
 have W:=hW A.in1 (by simp[hh])
 refine wpAny_pure ⟨plainId_quiet F.plain_extend_loop _,codeAny_extend_loopS W (by rw[hvl,sizeLine_eq];lia) _ hfpS _ vs.length 0 _ _ _ rfl (Nat.zero_le _)
  (W.frame 0 ({ s with heap:=h',drawn:=d }:Shared) _ s.toks hst (Nat.le_refl _) fun b hb o e=>oth b o (fun h=>hfpS (h▸hb)) e) hS₃ (ItemsOf.nil _) fun s' acc' c' hm hS' hacc=>?_⟩
 show wpAny _ A (load s.heap.objs.size >>= _) _ _ s'
 refine wpAny_bind (wpAny_load hS' ?_)
 refine wpAny_pure ?_
 rw[qMw hacc]
 obtain⟨h2',g',d',tk',os'⟩:=s'
 have eg:g'=s.gens:=hm.gens
 have ed:d'=d:=hm.drawn
 have eo:os'=s.os:=hm.os
 subst eg;subst ed;subst eo
 refine hQ h2' tk' fun b o e=>hm.heap b o ?_ ?_
 .have hb:=Heap.lt_size e
  simp only[List.mem_cons,List.not_mem_nil,or_false,not_or]
  refine⟨Nat.ne_of_lt hb,fun q=>?_⟩
  have hI':(s.heap.push { cls:=.type "list",data:=.seq ([]:List Value).toArray }).get? I=none:=hI
  rw[<-q,Heap.get?_push_of_some _ e]at hI';cases hI'
 .exact oth b o (Nat.ne_of_lt (Heap.lt_size e)) (hk _ _ (Heap.get?_push_of_some _ e))
end
end
section
section
variable{A:Around}{E:Value->Shared->Prop}{s:Shared}{D:Addr}{kvs:List (Int×Value)}
theorem qHM{Q:List Value->Shared->Prop}(hh:A.handled=none)(hd:(D==sysModules)=false)(hm:s.heap.DictOf (intKind prog w) D kvs)(hz:kvs.length<1000000)
 (hQ:∀(acc:Array Value) h' tk,ItemsOf (fun i v=>∃k x,kvs[i]?=some (k,x)/\(intKind prog w).is k v=true) acc kvs.length->(∀b o,s.heap.get? b=some o->h'.get? b=some o)->Q acc.toList { s with heap:=h',toks:=tk }) :
  wpAny (model prog w) A (collect (.ref D)) Q E s:=by
 delta A E s D kvs Q at hh hd hm hz hQ
 injection hm with o es ep;rintro⟨ho,hx,hdat,hk,hp,hn⟩
 have hs0:s.heap.DictAt (intKind prog w) D kvs ep:=⟨o,es,ho,hx,hdat,hk,hp,hn⟩
 have hlt:D<s.heap.objs.size:=Heap.lt_size ho
 have hs1:(s.heap.push { cls:=.type "list",data:=.seq ([]:List Value).toArray }).DictAt (intKind prog w) D kvs ep:=hs0.at' fun o e=>Heap.get?_push_of_some _ e
 unfold collect
 refine wpAny_bind (wpAny_runValue (codeAny_builtin F.entry_proto_collect ?_))
 rw[Around.under_plainId F.plain_proto_collect _]
 show wpAny _ A.in1 (newList [] >>= fun l=>again (.builtin "list.__iadd__" ⟨[l,.ref D],[]⟩)) _ _ s
 refine wpAny_bind (wpAny_newObj_type ?_)
 refine wpAny_pure ⟨plainId_quiet F.plain_list_iadd _,codeAny_builtin F.entry_list_iadd ?_⟩
 rw[Around.under_plainId F.plain_list_iadd _]
 show wpAny _ A.in1 (Builtin.List.listExtendWith (.ref s.heap.objs.size) (.ref D) (.ref s.heap.objs.size)) _ _ _
 unfold Builtin.List.listExtendWith
 refine wpAny_bind (wpAny_typeOf (T:="dict") hs1.dictOf.typeIs ?_)
 have h1:=qNV D s.heap.objs.size (Nat.ne_of_gt hlt)
 have h2:(Value.type "dict" == Value.type "list")=false:=by decide
 have h3:(Value.type "dict" == Value.type "tuple")=false:=by decide
 simp only[h1,h2,h3,Bool.or_false,Bool.false_eq_true,if_false]
 refine wpAny_bind (wpAny_pyIter_dict hd hs1 ?_)
 have kp:∀b o,s.heap.get? b=some o->((s.heap.push { cls:=.type "list",data:=.seq ([]:List Value).toArray }).push { cls:=.type "dict_keyiterator",data:=.fields #[.ref D,.int 0 0,.int kvs.length 0,.int ep 0] }).get? b=some o :=
  fun b o e=>Heap.get?_push_of_some _ (Heap.get?_push_of_some _ e)
 have hL:(s.heap.push { cls:=.type "list",data:=.seq ([]:List Value).toArray }).objs.size=s.heap.objs.size+1:=Heap.size_push ..
 have hs2:((s.heap.push { cls:=.type "list",data:=.seq ([]:List Value).toArray }).push { cls:=.type "dict_keyiterator",data:=.fields #[.ref D,.int 0 0,.int kvs.length 0,.int ep 0] }).DictAt (intKind prog w) D kvs ep:=hs1.at' fun o e=>Heap.get?_push_of_some _ e
 have hit:((s.heap.push { cls:=.type "list",data:=.seq ([]:List Value).toArray }).push { cls:=.type "dict_keyiterator",data:=.fields #[.ref D,.int 0 0,.int kvs.length 0,.int ep 0] }).IsKeyIter (s.heap.objs.size+1) D 0 kvs.length ep :=
  ⟨_,by rw[<-hL];exact Heap.get?_push_size _ rfl,rfl,rfl⟩
 dsimp only
 rw[hL]
 refine wpAny_bind (wpAny_holding ?_)
 unfold Builtin.List.listLengthHint
 refine wpAny_bind (wpAny_specialOf (T:="dict") hs2.dictOf.typeIs F.slot_dict_len.lookup ?_)
 generalize hid:("dict.__len__":String)=id0
 dsimp only
 rw[show splitId id0=some ("dict","__len__")from by subst hid;decide +kernel]
 subst hid
 refine wpAny_bind (wpAny_isInstance (b:=true) (T:="dict") hs2.dictOf.typeIs (by rw[isSubtype_type];kernel_rfl) ?_)
 refine wpAny_bind (wpAny_typeOf (T:="dict") hs2.dictOf.typeIs ?_)
 refine wpAny_pure ?_
 show wpAny _ A.in1 (rule "list.extend.makes-room" >>= fun _=>Builtin.List.listTouch (.ref s.heap.objs.size) >>= fun _ =>
  again (.builtin "list.extend.loop" ⟨[.ref s.heap.objs.size,.ref (s.heap.objs.size+1),.ref s.heap.objs.size],[]⟩)) _ _ _
 refine wpAny_bind (wpAny_rule ?_)
 generalize hh':(s.heap.push { cls:=.type "list",data:=.seq ([]:List Value).toArray }).push { cls:=.type "dict_keyiterator",data:=.fields #[.ref D,.int 0 0,.int kvs.length 0,.int ep 0] }=h' at *
 have hS₁:h'.get? s.heap.objs.size=some { cls:=.type "list",data:=.seq ([]:List Value).toArray }:=by
  rw[<-hh'];exact Heap.get?_push_of_some _ (Heap.get?_push_size _ rfl)
 refine wpAny_bind ?_
 show wpAny _ A.in1 (updateSeq s.heap.objs.size (·.push .none) >>= fun _=>updateSeq s.heap.objs.size (·.pop)) _ _ _
 refine wpAny_bind (wpAny_updateSeq hS₁ rfl ?_)
 have hS₂:=Heap.get?_update_self (Obj.mapSeq (·.push Value.none)) hS₁ rfl
 refine wpAny_updateSeq hS₂ rfl ?_
 have hS₃:=Heap.get?_update_self (Obj.mapSeq (·.pop)) hS₂ rfl
 have oth:∀b o,b≠s.heap.objs.size->h'.get? b=some o->((h'.update s.heap.objs.size (Obj.mapSeq (·.push Value.none))).update s.heap.objs.size (Obj.mapSeq (·.pop))).get? b=some o :=
  fun b o hb e=>(Heap.get?_update_other _ _ (Ne.symm hb)).trans ((Heap.get?_update_other _ _ (Ne.symm hb)).trans e)
 have W:=(Walks.dictKeys (prog:=prog) (w:=w) (knd:=intKind prog w) (A:=A.in1) (by simp[hh]) (s.heap.objs.size+1) D (Nat.ne_of_lt (Nat.lt_succ_of_lt hlt)) kvs ep).toS
 have hfpS:s.heap.objs.size ∉ [s.heap.objs.size+1,D]:=by
  simp only[List.mem_cons,List.not_mem_nil,or_false,not_or]
  exact⟨Nat.ne_of_lt (Nat.lt_succ_self _),Nat.ne_of_gt hlt⟩
 refine wpAny_pure ⟨plainId_quiet F.plain_extend_loop _,codeAny_extend_loopS W (by rw[sizeLine_eq];lia) _ hfpS _ kvs.length 0 _ _ _ rfl (Nat.zero_le _)
  (W.frame 0 ({ s with heap:=h' }:Shared) _ s.toks ⟨hit,hs2⟩ (Nat.le_refl _) fun b hb o e=>oth b o (fun h=>hfpS (h▸hb)) e) hS₃ (ItemsOf.nil _) fun s' acc' c' hm hS' hacc=>?_⟩
 show wpAny _ A (load s.heap.objs.size >>= _) _ _ s'
 refine wpAny_bind (wpAny_load hS' ?_)
 refine wpAny_pure ?_
 obtain⟨h2',g',d',tk',os'⟩:=s'
 have eg:g'=s.gens:=hm.gens
 have ed:d'=s.drawn:=hm.drawn
 have eo:os'=s.os:=hm.os
 subst eg;subst ed;subst eo
 refine hQ _ h2' tk' hacc fun b o e=>hm.heap b o ?_ ?_
 .have hb:=Heap.lt_size e
  simp only[List.mem_cons,List.not_mem_nil,or_false,not_or]
  exact⟨Nat.ne_of_lt hb,Nat.ne_of_lt (Nat.lt_succ_of_lt hb)⟩
 .exact oth b o (Nat.ne_of_lt (Heap.lt_size e)) (kp _ _ e)
end
end
section
theorem qBj:∀{l m:List AV},l.Pairwise (fun a b=>keyL a<keyL b)->m.Pairwise (fun a b=>keyL a<keyL b)->l.Perm m->l=m
 |[],m,_,_,p=>(List.Perm.nil_eq p)
 |a::l,[],_,_,p=>by have:=p.length_eq;simp at this
 |a::l,b::m,hl,hm,p=>by
  rw[List.pairwise_cons]at hl hm
  have hab:a=b:=by
   have ha:a∈b::m:=p.mem_iff.mp (.head _)
   have hb:b∈a::l:=p.mem_iff.mpr (.head _)
   rcases List.mem_cons.mp ha with q|q
   .exact q
   .rcases List.mem_cons.mp hb with z|z
    .exact z.symm
    .exact absurd (qEn (hm.1 a q) (hl.1 b z)) (qDj _)
  subst hab
  rw[qBj hl.2 hm.2 (List.Perm.cons_inv p)]
theorem qJ3{l m:List AV}(p:l.Perm m)(h:SameK l):SameK m:=fun a ha b hb=>h a (p.mem_iff.mpr ha) b (p.mem_iff.mpr hb)
theorem qHg{l m:List AV}(h:SameK l)(nd:l.Nodup)(p:l.Perm m):qAD l=qAD m :=
 qBj (qAx h nd) (qAx (qJ3 p h) (p.nodup_iff.mp nd)) ((qAP l).trans (p.trans (qAP m).symm))
theorem qGc{l m:List AV}{f:AV->Bool}(p:l.Perm m):l.all f=m.all f:=by
 rw[Bool.eq_iff_iff,List.all_eq_true,List.all_eq_true]
 exact⟨fun h x hx=>h x (p.mem_iff.mpr hx),fun h x hx=>h x (p.mem_iff.mp hx)⟩
theorem qFx{l m r:List AV}(p:l.Perm m)(e:qAY l=some r):qAY m=some r:=by
 delta l m r at p e
 obtain⟨hc,e⟩:=qA9 e
 obtain rfl:=Option.some.inj e
 have hc:=Bool.and_eq_true_iff.mp hc
 have hc1:=Bool.and_eq_true_iff.mp hc.1
 have nd:=qBB.mp hc.2
 have hso:qAn m=true:=by
  have:=hc1.1
  unfold qAn at this ⊢
  rwa [<-qGc p,<-qGc p,<-qGc p]
 refine(if_pos (Bool.and_eq_true_iff.mpr ⟨Bool.and_eq_true_iff.mpr ⟨hso,p.length_eq▸hc1.2⟩,qBB.mpr (p.nodup_iff.mp nd)⟩)).trans ?_
 rw[qHg (qG2 hc1.1) nd p]
section
variable{A:Around}{ψ φ φ9:List Addr}{H H' H₁:AHeap}{s s8:Shared}{d:Nat}{E:Value->Shared->Prop}
theorem qM9{h:Heap}{us vs:List Value}(p:us.Perm vs):∀{l:List AV},VRs X ψ φ h us l->∃m,l.Perm m/\VRs X ψ φ h vs m:=by
 delta ψ φ h us vs at p
 induction p with
 |nil=>exact fun r=>⟨_,.refl _,r⟩
 |cons x _ ih =>
  intro l r
  cases l with
  |nil=>exact nomatch r
  |cons a l =>
   obtain⟨_,_,z,rx,r⟩:=r
   have z:=List.cons.inj z
   obtain⟨m,pm,rm⟩:=ih (z.2▸r)
   exact⟨a::m,pm.cons _,VRs.cons (z.1▸rx) rm⟩
 |swap x y t =>
  revert x y t;intros x y t
  (intros l;intro r)
  cases l with
  |nil=>exact nomatch r
  |cons a l=>cases l with
   |nil =>
    obtain⟨_,_,z,_,r⟩:=r
    exact nomatch (List.cons.inj z).2.trans r
   |cons b l =>
    obtain⟨_,_,z,ry,_,_,z2,rx,r⟩:=r
    have z:=List.cons.inj z
    have z2:=List.cons.inj (z.2.trans z2)
    exact⟨_,.swap _ _ _,.cons (z2.1▸rx) (.cons (z.1▸ry) (z2.2▸r))⟩
 |trans _ _ ih1 ih2 =>
  intro l r
  obtain⟨m,pm,rm⟩:=ih1 r
  obtain⟨m2,pm2,rm2⟩:=ih2 rm
  exact⟨m2,pm.trans pm2,rm2⟩
theorem qFy(G:GW X base)(N:SignOk X)(R:Room d A)(trk:Bool){p:Addr}{c:String}{vs:Array Value}{n:Nat}{l m:List AV}(hc:c = "list"\/c = "tuple")(S:SR X prog w base ψ φ H s.heap)(e1:s.heap.get? p=some (seqObj c vs n))
 (r1:VRs X ψ φ s.heap vs.toList l)(k:l.length<1000001)(e:qAY l=some m) :
  wpAny (model prog w) A (call (.builtin "sorted") [.ref p]) (Out X prog w base ψ φ s (qAC trk m H).1 (qAC trk m H).2) NoE s :=
 qDZ (dr:=s.drawn) G N R trk S e fun{E Q'} hQ=>wpAny_collect_seq p hc e1 rfl rfl (fun h' g=>hQ _ h' s.toks r1 g) (by rw[qAT r1,qBP];lia)
theorem qMJ(G:GW X base)(N:SignOk X)(hbt:X.byText=w.params.followText "set-order")(R:Room d A)(trk:Bool){x:Value}{l m:List AV}(S:SR X prog w base ψ φ H s.heap)(r:VR X ψ φ s.heap x (.sset l))(e:qAY l=some m) :
  wpAny (model prog w) A (call (.builtin "sorted") [x]) (Out X prog w base ψ φ s (qAC trk m H).1 (qAC trk m H).2) NoE s:=by
 obtain⟨a,o,es,ep,t,us,rfl,ho,hn,hm,hex,hd,hf,pl,led,pm,k,rs⟩:=r
 have hz:es.size<1000:=by
  rw[<-Array.length_toList,<-List.length_map (f:=(·.2)),pm.length_eq,rs.length];exact k
 obtain⟨vs,dr,hperm,hcol⟩:=qI4 (s:=s) pl (hbt▸led) hz ⟨o,ho,hex,hd⟩ hf
 obtain⟨l2,p2,r2⟩:=qM9 (pm.symm.trans hperm.symm) rs
 exact qDZ (dr:=dr) G N R trk S (qFx p2 e) fun{E Q'} hQ=>hcol R.handled fun h' tk kp=>hQ _ h' tk r2 kp
theorem qP5(G:GW X base)(hbt:X.byText=w.params.followText "set-order")(R:Room d A){x:Value}{L:List AV}(S:SR X prog w base ψ φ H s.heap)(r:VR X ψ φ s.heap x (.lst L))(h1:L.all isK2=true)(h2:L.length<7) :
  wpAny (model prog w) A (call (.type "set") [x]) (Out X prog w base ψ φ s (.sset (dedup L)) H) NoE s:=by
 obtain⟨a,vs,n,rfl,e1,n1,m1,k1,r1⟩:=r
 refine qGX (ψ:=ψ) (φ:=φ) G hbt (by have:=R.units;show A.units+1+1+1+64<_;lia) R.handled e1 r1 h2 h1 fun h' tk es ep t l' LS nd mem pl hk=>?_
 have kp:∀b o,s.heap.get? b=some o->h'.get? b=some o:=fun b o e=>hk b o (Heap.lt_size e) e
 have hS0:s.heap.get? s.heap.objs.size=none:=fresh_at fun _ _ e=>e
 refine⟨φ,Post.grown S kp,LS.sset nd mem pl h2 (fun q=>?_) (fun q=>?_) (fun a ha=>.tail _ (.tail _ ha))⟩
 .obtain ⟨o,e⟩:=S.there q;rw[hS0]at e;exact qA2 e
 .obtain ⟨o,e⟩:=S.stand _ q;rw[hS0]at e;exact qA2 e
theorem qMu{h:Heap}{ks:List Int}{vs:List Value}{acc:Array Value}(hk:ks.length=vs.length)(it:ItemsOf (fun i v=>∃k x,(ks.zip vs)[i]?=some (k,x)/\(intKind prog w).is k v=true) acc (ks.zip vs).length) :
  VRs X ψ φ h acc.toList (ks.map AV.int):=by
 delta ψ φ h ks vs acc at hk it
 have hl:(ks.zip vs).length=ks.length:=by rw[List.length_zip,<-hk,Nat.min_self]
 refine qJj ((List.length_map _).trans (hl.symm.trans (it.1.symm.trans Array.length_toList.symm))) ?_
 intros i v;intro e
 rw[Array.getElem?_toList]at e
 (injection (it.2 i v e)with k x;rintro⟨h1,h2⟩)
 (injection (Value.isInt_shape h2:∃t,v=.int k t)with t;rintro rfl)
 exact⟨.int k,by rw[List.getElem?_map,(List.getElem?_zip_eq_some.mp h1).1];rfl,t,rfl⟩
theorem qIc{α:Type}:∀{ks:List Int}{l:List α},ks.length=l.length->(ks.zip l).map (fun p=>AV.int p.1)=ks.map AV.int
 |[],_,_=>rfl
 |_::_,[],h=>nomatch h
 |_::_,_::_,h=>congrArg (List.cons _) (qIc (Nat.succ.inj h))
theorem qK3(G:GW X base)(N:SignOk X)(R:Room d A)(trk:Bool){x:Value}{i:Nat}{kvs:List (Int×AV)}{m:List AV}(S:SR X prog w base ψ φ H s.heap)(r:VR X ψ φ s.heap x (.ref i))(hi:H[i]?=some (.dictI kvs))(e:qAY (kvs.map fun p=>.int p.1)=some m) :
  wpAny (model prog w) A (call (.builtin "sorted") [x]) (Out X prog w base ψ φ s (qAC trk m H).1 (qAC trk m H).2) NoE s:=by
 obtain⟨p,rfl,hp⟩:=r
 have hsys:=qKf S hp
 obtain⟨ks,vs,l,rfl,e1,q,q2,r⟩:=S.obj _ _ _ hp hi
 rw[qIc (q.trans r.length)]at e
 have hz:(ks.zip vs).length<1000000:=by
  have h7:=of_decide_eq_true (Bool.and_eq_true_iff.mp (Bool.and_eq_true_iff.mp (qA9 e).1).1).2
  rw[List.length_map]at h7
  rw[List.length_zip,<-q,Nat.min_self]
  exact Nat.lt_trans h7 (by decide)
 exact qDZ (dr:=s.drawn) G N R trk S e fun{E Q'} hQ=>qHM (A:=A.in1) (kvs:=ks.zip vs) R.handled hsys e1 hz fun acc h' tk it kp=>hQ _ h' tk (qMu q it) kp
theorem qML(G:GW X base)(N:SignOk X)(hbt:X.byText=w.params.followText "set-order")(R:Room d A)(trk:Bool){x:Value}{v:AV}{l m:List AV}(S:SR X prog w base ψ φ H s.heap)(r:VR X ψ φ s.heap x v)(hl:qER H v=some l)(e:qAY l=some m) :
  wpAny (model prog w) A (call (.builtin "sorted") [x]) (Out X prog w base ψ φ s (qAC trk m H).1 (qAC trk m H).2) NoE s:=by
 delta A ψ φ H s d trk x v l m at G N hbt R S r hl e
 induction v using AV.casesOn with
 |sset=>obtain rfl:=Option.some.inj hl;exact qMJ G N hbt R trk S r e
 |tup =>
  obtain rfl:=Option.some.inj hl
  obtain⟨a,vs,n,rfl,e1,_,_,k,r1⟩:=r
  exact qFy G N R trk (.inr rfl) S e1 r1 k e
 |lst =>
  obtain rfl:=Option.some.inj hl
  obtain⟨a,vs,n,rfl,e1,_,_,k,r1⟩:=r
  exact qFy G N R trk (.inl rfl) S e1 r1 k e
 |ref i =>
  delta i at r hl
  (injection (qA0 hl)with o;rintro⟨hi,hl⟩)
  cases o with
  |dictI=>obtain rfl:=Option.some.inj hl;exact qK3 G N R trk S r hi e
  |list =>
   obtain rfl:=Option.some.inj hl
   (injection (r)with p;try clear r;rintro⟨rfl,hp⟩)
   obtain⟨vs,n,e1,q,r1⟩:=S.obj _ _ _ hp hi
   exact qFy G N R trk (.inl rfl) S e1 r1 q e
  |_=>exact qA2 hl
 |_=>exact qA2 hl
theorem qNC(G:GW X base)(N:SignOk X)(hbt:X.byText=w.params.followText "set-order")(d:Nat):SndBi X prog w base d:=by
 intro A b trk xs as r ψ φ H s R S ra e
 by_cases hb1:b=.sorted
 .subst hb1
  obtain⟨v,h1,e⟩:=qA0 e
  obtain⟨l,h2,e⟩:=qA0 e
  obtain⟨m,h3,e⟩:=qA3 e
  obtain⟨x,rfl,rx⟩:=ra.one_of h1
  rw[<-e]
  exact qML G N hbt R trk S rx h2 h3
 .by_cases hb2:b=.set
  .subst hb2
   obtain⟨v,h1,e⟩:=qA0 e
   obtain⟨l,h2,e⟩:=qA0 e
   obtain⟨hc,e⟩:=qA9 e
   obtain⟨x,rfl,rx⟩:=ra.one_of h1
   rw[<-Option.some.inj e]
   have hc:=Bool.and_eq_true_iff.mp hc
   exact qP5 G hbt R S (qBa h2▸rx) hc.1 (of_decide_eq_true hc.2)
  .exact qLp G R S ra e hb1 hb2
end
end
end Internal
end
section
open PySem PySem.W PyProof.Rows
namespace Internal
set_option tactic.hygienic true in
set_option hygiene true in
theorem qOX{a:Nat}{fn:FnC}(h1:qLn X a=some fn.body)(h2:qNQ X a fn.params fn.dflt=true):FnOk X a fn:=by
 delta a fn at h1 h2
 injection qA0 h1 with o;rintro⟨e,g1⟩
 injection qA0 g1 with fd;rintro⟨e1,g2⟩
 injection qA0 g2 with body;rintro⟨hb,g3⟩
 have h3:(some o).any (fun o=>(fnOf o.data).any fun fd=>restF X fd fn.params fn.dflt)=true:=e▸h2
 have h2:(some fd).any (fun fd=>restF X fd fn.params fn.dflt)=true:=e1▸h3
 have h2:restF X fd fn.params fn.dflt=true:=h2
 have e:X.K.lookup a=some ⟨o.cls,o.dict,.func fd,o.slots⟩:=by rw[e,<-qN1 e1]
 unfold restF at h2
 simp only[Bool.and_eq_true,decide_eq_true_eq,Bool.not_eq_true',List.isEmpty_iff,Option.isNone_iff_eq_none,List.all_eq_true,Bool.or_eq_true]at h2
 obtain⟨⟨⟨⟨⟨⟨⟨⟨⟨⟨⟨⟨⟨⟨⟨p1,p2⟩,p3⟩,p4⟩,p5⟩,p6⟩,p7⟩,p8⟩,p9⟩,p10⟩,p11⟩,p12⟩,p13⟩,p14⟩,p15⟩,p16⟩:=h2
 refine⟨o.cls,o.dict,fd,o.slots,body,_,e,qMH hb,g3,⟨p1,p2,p3,p4,rfl,p5⟩,p6,p7,p8,p9,p10,p11,p12,p13,p14,p15,?_⟩
 by_cases hd:fn.dflt=true
 .rw [if_pos hd]at p16
  obtain⟨T,e3,p16⟩:=qCF p16
  obtain⟨o2,e4,p16⟩:=qCF p16
  have p16:=Bool.and_eq_true_iff.mp p16
  obtain⟨n,e5⟩:=qHq p16.1
  refine .inr ⟨hd,T,o2,n,qKK e3,e4,e5,fun q=>?_⟩
  rw[List.map_eq_nil_iff]at q
  rw[q]at p16
  cases p16.2
 .rw [if_neg hd]at p16
  exact .inl ⟨Bool.eq_false_iff.mpr hd,of_decide_eq_true p16⟩
theorem qBn{α β:Type} [BEq α] [LawfulBEq α]{k:α}{v:β}:∀{l:List (α×β)},l.lookup k=some v->(k,v)∈l
 |[],e=>by cases e
 |(k',v')::r,e=>by
  rw[List.lookup_cons]at e
  split at e
  .rename_i q;cases e;rw[beq_iff_eq.mp q];exact .head _
  .exact .tail _ (qBn e)
section
theorem qNX{α β:Type}{f g:α->β}:∀{l:List α},l.map f=l.map g->∀x∈l,f x=g x
 |_::_,e,_,.head _=>(List.cons.inj e).1
 |_::_,e,_,.tail _ m=>qNX (List.cons.inj e).2 _ m
theorem fv_of(h:qET X P=qEt P):FV X P:=by
 have h1:=congrArg (·.1) h
 have h2:(qET X P).2=true:=congrArg (·.2) h
 refine⟨fun f fn a e1 e2=>?_⟩
 have hm:=qBn e1
 have hb:(X.fns[f]?).bind (qLn X)=some fn.body:=qNX h1 _ hm
 rw[e2]at hb
 refine qOX hb ?_
 have:=List.all_eq_true.mp (Bool.and_eq_true_iff.mp (Bool.and_eq_true_iff.mp (Bool.and_eq_true_iff.mp h2).1).1).1 _ hm
 dsimp only at this
 rw[e2]at this
 exact this
set_option tactic.hygienic true in
set_option hygiene true in
theorem pv_of(h:qET X P=qEt P)(init:X.names[6]?=some (PySem.Str.ofString "__init__"))(mn:X.names[0]?=some (PySem.Str.ofString "append")/\X.names[1]?=some (PySem.Str.ofString "pop")/\X.names[2]?=some (PySem.Str.ofString "remove") /\
  X.names[3]?=some (PySem.Str.ofString "extend")/\X.names[4]?=some (PySem.Str.ofString "get")/\X.names[5]?=some (PySem.Str.ofString "setdefault")):PV X P:=by
 have h2:(qET X P).2=true:=congrArg (·.2) h
 have h3:=Bool.and_eq_true_iff.mp (Bool.and_eq_true_iff.mp h2).1
 refine⟨fun c m f e=>?_,fun c a e=>?_,fun c f e=>?_,init,mn⟩
 .have h:=List.all_eq_true.mp (Bool.and_eq_true_iff.mp h3.1).2 _ (qBn (l:=P.mts) (k:=(c,m)) e)
  obtain⟨C,h1,h⟩:=qCF h
  obtain⟨a,h2,h⟩:=qCF h
  obtain⟨x,h3,h⟩:=qCF h
  rw[Bool.and_eq_true,Bool.and_eq_true,Bool.and_eq_true]at h
  exact⟨C,a,x,h1,h2,h3,h.1.1.1,of_decide_eq_true h.1.1.2,of_decide_eq_true h.1.2,h.2⟩
 .unfold qDQ at e
  obtain⟨q,hq,e⟩:=List.any_eq_true.mp e
  rw[Bool.and_eq_true]at e
  rw[<-beq_iff_eq.mp e.1,<-beq_iff_eq.mp e.2]
  have h:=List.all_eq_true.mp h3.2 _ hq
  obtain⟨C,h1,h⟩:=qCF h
  obtain⟨x,h2,h⟩:=qCF h
  rw[Bool.and_eq_true,Bool.and_eq_true,Bool.and_eq_true,Bool.and_eq_true]at h
  exact⟨C,x,h1,h2,h.1.1.1.1,h.1.1.1.2,of_decide_eq_true h.1.1.2,of_decide_eq_true h.1.2,h.2⟩
 .have h:=List.all_eq_true.mp (Bool.and_eq_true_iff.mp h2).2 _ (qBn (l:=P.mts) (k:=(c,6)) e)
  rw[Bool.or_eq_true]at h
  have h:=h.resolve_left (show ¬((6:Nat) != 6)=true by decide)
  obtain⟨C,h1,h⟩:=qCF h
  rw[Bool.and_eq_true]at h
  exact⟨C,h1,h.1,h.2⟩
end
theorem qID{ψ φ:List Addr}{h:Heap}:∀{vs:List Value}{is:List Int},IntsAre vs is->VRs X ψ φ h vs (is.map AV.int)
 |_,_,.nil=>.nil
 |_,_,.cons n t r=>.cons (.int n t) (qID r)
theorem qHs:qD4.Nodup:=by decide +kernel
theorem qMn:qD4.all PyData.strOk=true:=by decide +kernel
theorem qMO:([7,8,9,10].all fun i=>[7,8,9,10].all fun j=>match qD4[i]?,qD4[j]? with
 |some x,some y=>decide (x.cps.toList<y.cps.toList)==decide (i<j)
 |_,_=>true)=true:=by decide +kernel
theorem qIL{i:Nat}(h1:7<=i)(h2:i<=10):i∈[7,8,9,10]:=by
 show i∈List.range' 7 4
 exact List.mem_range'_1.mpr ⟨h1,Nat.lt_succ_of_le h2⟩
theorem qO3(h:X.names=qD4):SignOk X:=by
 refine⟨fun i j x y h1 h2 h3 h4 e1 e2=>?_⟩
 have hi:=qIL h1 h2
 have hj:=qIL h3 h4
 have q:=List.all_eq_true.mp (List.all_eq_true.mp qMO i hi) j hj
 rw[show qD4[i]?=some x from h▸e1,show qD4[j]?=some y from h▸e2]at q
 exact beq_iff_eq.mp q
namespace Hd
noncomputable def view:Program:=qOx PySem.Challenge.pw_pc0041_01 [1,14,17,20,22]
noncomputable def loose:List Str:=[PySem.Str.ofString "has_domains"]
noncomputable def Xt(s:Shared):Bool:=xlAt view [] s&&recOk (RowW.records PySem.Challenge.rw_pc0041_01.row.toRowW) s
noncomputable def hook:Hook:=qMp (fun K=>(nsIn K mainGlobals (PySem.Str.ofString "law"),fun b=>qET (mkX K b) PP)) (some (some (.ref 471)),fun _=>qEt PP)
theorem look(w:World):(fun os=>(runG (stepOk 11 (some (.ref 6))) (stepT (denote treeTable) PySem.Challenge.pw_pc0041_01 w) 4000 ⟨bootT w.params,11,{},Array.mk [],boot_drawn,boot_toks,os⟩ (topStub PySem.Challenge.pw_pc0041_01)).map fun s =>
    (staticsOk (importedModules PySem.Challenge.pw_pc0041_01.main.body) (boot_heap w.params) s.abs.heap&&namesBound PySem.Challenge.pw_pc0041_01 s.abs.heap&&gensDone s.abs&&laidKept (boot_heap w.params) s.abs.heap,
     openSeen view loose (importedModules PySem.Challenge.pw_pc0041_01.main.body) Xt true s.abs,hook.obs s.abs))=fun _=>some (true,openGood view loose,hook.val w):=by
 rw[PySem.W.Fast.te10156331382660048174,PySem.W.Fast.te11892475500146522536,PySem.W.Fast.te14364793385576792824,PySem.W.Fast.te6613529449190102663,PySem.W.Fast.te4187177175401517315,PySem.W.Fast.te5923862056798008813]
 kernel_rfl
theorem left:LeftO PySem.Challenge.pw_pc0041_01 view loose Xt hook.obs hook.val 8000 :=
 left_of (boot_open (by kernel_rfl) (by decide) (fun _=>by kernel_rfl)) qLl qOm (by decide) look
noncomputable def dL:DefRec:=match defOf view (PySem.Str.ofString "law")with
 |some d=>d.1
 |none=>⟨PySem.Str.ofString "",default,[],default,default⟩
theorem d_is:defOf view (PySem.Str.ofString "law")=some (dL,[]):=by kernel_rfl
theorem d_name:dL.name=PySem.Str.ofString "law":=by kernel_rfl
theorem said:PySem.Challenge.rw_pc0041_01.wellSaid=true:=by kernel_rfl
theorem top(hc:WalkO view loose (XL view []) hook.says PySem.Challenge.rw_pc0041_01.row.toRowW dL [] fun f vs=>call f vs):PySem.Challenge.rw_pc0041_01.Holds:=by
 refine holds_law said fun said=>?_
 refine W.holds_open (r:=PySem.Challenge.rw_pc0041_01.row) (q:=view) (loose:=loose) (Xt:=Xt) (XP:=XL view []) (Yf:=hook.obs) (Ya:=hook.val) (YP:=hook.says) (d:=dL) (kwd:=[]) (N:=8000) left hook.of hook.keeps
  (fun s e=>xl_of s (Bool.and_eq_true_iff.mp e).1) XL.keeps d_is (by kernel_rfl) (by kernel_rfl) (fun s e=>recFacts_of (Bool.and_eq_true_iff.mp e).2) (by decide) (by first|assumption|decide +kernel) (by decide +kernel) ⟨rfl,rfl,rfl,rfl,rfl,by decide +kernel⟩ ?_ hc
 w_witness2
end Hd
set_option tactic.hygienic true in
set_option hygiene true in
theorem qJA{K:Frag}{h:Heap}{a:Addr}{m:Str->Option Value}{x:Str}{v:Value}(k:K.In h)(n:h.Ns a m)(e:nsIn K a x=some (some v)):m x=some v:=by
 delta K h a m x v at k n e
 (injection (n)with o es ep;try clear n;rintro⟨ho,hd,_,hf⟩)
 unfold nsIn at e
 split at e
 .rename_i c d es' n' sl hl
  delta c d es' n' sl at hl e
  have:=k _ _ hl
  rw[ho]at this
  cases this
  cases hd
  rw[<-hf x]
  unfold nsFind findBy
  rw[<-Array.find?_toList]
  split at e
  .rename_i en he
   delta en at he e
   cases e
   rw[he];rfl
  .split at e<;>cases e
 .cases e
theorem qMt:LE t0.1 t0.2.1 t0.2.2.1 t0.2.2.2:=by
 have hp:t0.2.1=prog:=by unfold prog;rfl
 have hw:t0.2.2.1=w:=by unfold w;rfl
 have hbs:t0.2.2.2.heap=base:=by unfold base;rfl
 have hX:X=mkX t0.1 (w.params.followText "set-order"):=by unfold X;rfl
 have hP:P=PP:=by unfold P;rfl
 rw[hp,hw]
 generalize t0.1=K at hX ⊢
 generalize t0.2.2.2=s at hbs ⊢
 intro loose mean prog' fa l vs is mg mb E Q KX hL hK T hmg hl hi hn plain hQ
 obtain⟨H',hp⟩:=plain
 rw[<-hP]at hp hK
 have hs:qET X P=qEt P:=by rw[hX];exact congrFun hK _
 have hN:X.names=qD4:=by rw[hX];rfl
 have hF:X.fns=qNm:=by rw[hX];rfl
 have G:GW X base:=by rw[<-hbs];exact⟨by rw[hX];exact KX,T.nolimit,⟨mg,T.g⟩,⟨mb,T.b,T.builtins⟩,by rw[hN];exact qHs,by rw[hN];exact qMn⟩
 have FVX:=fv_of hs
 have f0:X.fns[43]?=some 471:=by rw[hF];rfl
 have hfa:fa=471:=by
  have:=qJA KX T.g hL
  rw[hmg]at this
  cases this;rfl
 subst hfa
 have S:SR X prog w base [] [] [] s.heap:=by rw[hbs];exact⟨fun _ _ e=>e,rfl,List.nodup_nil,fun _ q=>(qA5 q),fun _ q=>(qA5 q),fun _ q=>(qA5 q),fun i a o e _=>by simp at e⟩
 have r:VRs X [] [] s.heap [.ref l] [.lst (is.map .int)]:=.cons (.lst hl (by simp) (by simp) (by simp;omega) (by rw[List.toList_toArray];exact qID hi)) .nil
 have C:SndCF X prog w base 14 (callF P 14):=qI7 G (pv_of hs (by rw[hN];rfl) (by rw[hN];exact⟨rfl,rfl,rfl,rfl,rfl,rfl⟩)) FVX (fun d=>qNC G (qO3 hN) (by rw[hX];rfl) d) 14
 refine wpAny_mono (C.call (A:=callerA) (f:=43) (a:=471) f0 ⟨rfl,by decide +kernel,by decide +kernel⟩ S r hp) (fun v s' q=>?_) fun _ _ e=>e.elim
 obtain⟨φ',p,rv⟩:=q
 cases rv
 have hs:=p.same
 refine hQ s' (hbs▸p.sr.keep) ?_ ?_<;>rw[hs]
set_option tactic.hygienic true in
set_option hygiene true in
theorem seal1(h:∀is:List Int,is.length<=63->∃H',callF PP 14 43 [.lst (is.map .int)] []=some (.bool true,H')):PySem.Challenge.rw_pc0041_01.Holds:=by
 refine Hd.top ?_
 unfold WalkO
 intro w s7 s8 mg mb G Y fa o pm cd doc dV kV ho hd hcd hD hmg hg args vals as hpre hlay hrd hwl hlo
 obtain⟨K,KX,hK⟩:=Y
 have T:=G.T
 have hmg':mg (PySem.Str.ofString "law")=some (.ref fa):=by rw[<-Hd.d_name];exact hmg
 clear hD hd hcd G hmg ho
 wrow_args hpre hlay hrd hwl hlo
 rename_i is _ _ _ _ _ _ _ l vs _ hL _ w1 _ hI _ hn _
 have hl:∃us,s8.heap.get? l=some (seqObj "list" us 0)/\us.toList=vs:=by
  obtain⟨o,h1,h2,n,h3⟩:=hL
  cases w1 with
  |list e1 _ =>
   rw[h1]at e1;cases e1
   exact⟨_,h1,by cases h3;rfl⟩
 obtain⟨us,hl,rfl⟩:=hl
 refine qP0 qMt _ _ _ _ KX (congrArg (·.1) hK) (congrArg (·.2) hK) T hmg' (by rw[Array.toArray_toList];exact hl) hI (by omega) (h is (by omega)) fun s' k ho hg'=>?_
 refine⟨.inl ⟨.bool true,.bool true,[],rfl,fun _=>rfl,.bool true,by wrow_post,fun _=>⟨List.nodup_nil,fun _ q=>(qA5 q)⟩⟩,.of_keep k,ho,.of_eq (hg'.trans hg)⟩
end Internal
end
section
namespace Internal.L
section
@[simp] theorem qA8{α β γ:Type}(a:α)(b:β)(f:α->β->Option γ):bnd (some (a,b)) f=f a b:=rfl
section
variable{P:Prog}{cf:qAb}{n:Nat}{ρ:Rho}{H:AHeap}
@[simp] theorem e_var{x}:evE P cf (n+1) (.var x) ρ H=(ρ.lookup x).map fun v=>(v,H):=rfl
@[simp] theorem e_bin{op t a b}:evE P cf (n+1) (.bin op t a b) ρ H=bnd (evE P cf n a ρ H) fun x H=>bnd (evE P cf n b ρ H) fun y H=>(binAV op x y).map fun z=>trkAV t z H:=rfl
@[simp] theorem e_neg{a}:evE P cf (n+1) (.neg a) ρ H=bnd (evE P cf n a ρ H) fun x H=>(intOf x).map fun i=>(.int (-i),H):=rfl
@[simp] theorem e_not{a}:evE P cf (n+1) (.not a) ρ H=bnd (evE P cf n a ρ H) fun x H=>(qAN x).map fun b=>(.bool !b,H):=rfl
@[simp] theorem e_cmp{op a b}:evE P cf (n+1) (.cmp op a b) ρ H=bnd (evE P cf n a ρ H) fun x H=>bnd (evE P cf n b ρ H) fun y H=>(cmpAV op x y H).map fun b=>(.bool b,H):=rfl
@[simp] theorem e_ite{t a b}:evE P cf (n+1) (.ite t a b) ρ H=bnd (evE P cf n t ρ H) fun x H=>(qAN x).bind fun c=>if c then evE P cf n a ρ H else evE P cf n b ρ H:=rfl
@[simp] theorem e_tup{es}:evE P cf (n+1) (.tup es) ρ H=bnd (evEs (evE P cf n) es ρ H) fun vs H=>some (.tup vs,H):=rfl
@[simp] theorem e_lst{t es}:evE P cf (n+1) (.lst t es) ρ H=bnd (evEs (evE P cf n) es ρ H) fun vs H=>some (qAC t vs H):=rfl
@[simp] theorem e_dct{k ks vs}:evE P cf (n+1) (.dct (k::ks) vs) ρ H=bnd (qAz (evE P cf n) (k::ks) vs ρ H) fun kvs H=>(qBb kvs).map fun d=>alloc H (.dictS d):=rfl
@[simp] theorem qNh{t en elt tg it ifs}:evE P cf (n+1) (.comp t en elt tg it ifs) ρ H=bnd (evE P cf n it ρ H) fun x H=>bnd (iterE en H x) fun xs src=>bnd (compLoop (evE P cf n) elt tg ifs H src xs ρ H) fun vs H=>some (qAC t vs H):=rfl
@[simp] theorem qOh{f es}:evE P cf (n+1) (.callF f es) ρ H=bnd (evEs (evE P cf n) es ρ H) fun vs H=>cf f vs H:=rfl
@[simp] theorem qOg{o m es}:evE P cf (n+1) (.callM o m es) ρ H=bnd (evE P cf n o ρ H) fun v H=>qGz P cf (evE P cf n) m es ρ v H:=rfl
@[simp] theorem e_bi{b t es}:evE P cf (n+1) (.bi b t es) ρ H=bnd (evEs (evE P cf n) es ρ H) fun vs H=>biAV b t vs H:=rfl
@[simp] theorem e_new{c}:evE P cf (n+1) (.new c) ρ H=(mtOf P c 6).bind fun f=>bnd (cf f [.inst c H.length] (H++[.ns []])) fun r H'=>if qIe r then some (.inst c H.length,H')else none:=rfl
@[simp] theorem qPV{o a}:evE P cf (n+1) (.attr o a) ρ H=bnd (evE P cf n o ρ H) fun v H=>(qAB P v a H).map fun x=>(x,H):=rfl
@[simp] theorem e_sub{o i}:evE P cf (n+1) (.sub o i) ρ H=bnd (evE P cf n o ρ H) fun x H=>bnd (evE P cf n i ρ H) fun y H=>(subAV x y H).map fun z=>(z,H):=rfl
@[simp] theorem qLR{t o lo hi}:evE P cf (n+1) (.slice t o lo hi) ρ H=bnd (evE P cf n o ρ H) fun x H=>bnd (evOpt (evE P cf n) lo ρ H) fun a H=>bnd (evOpt (evE P cf n) hi ρ H) fun b H=>(qAH H x).map fun l=>qAC t (qAW l a b) H:=rfl
@[simp] theorem qHt{ev m es c i}:qGz P cf ev m es ρ (.inst c i) H=(mtOf P c m).bind fun f=>if qAo i m H then bnd (evEs ev es ρ H) fun vs H=>cf f (.inst c i::vs) H else none:=rfl
@[simp] theorem qJE{ev m es i}:qGz P cf ev m es ρ (.ref i) H=if qBZ H i m then bnd (evEs ev es ρ H) fun vs H=>qAg i m vs H else none:=rfl
end
section
variable{P:Prog}{cf:qAb}{n:Nat}{ρ:Rho}{H:AHeap}{ev:CE->Rho->AHeap->Option (AV×AHeap)}
@[simp] theorem qOb{e r}:evEs ev (e::r) ρ H=bnd (ev e ρ H) fun v H=>bnd (evEs ev r ρ H) fun vs H=>some (v::vs,H):=rfl
@[simp] theorem qOc{k ks e r}:qAz ev (k::ks) (e::r) ρ H=bnd (ev k ρ H) fun kv H=>bnd (ev e ρ H) fun v H=>bnd (qAz ev ks r ρ H) fun vs H=>some ((kv,v)::vs,H):=rfl
@[simp] theorem qOf{e r}:evAnd ev (e::r) ρ H=bnd (ev e ρ H) fun v H=>(qAN v).bind fun b=>if b then evAnd ev r ρ H else some (.bool false,H):=rfl
@[simp] theorem qOd{e r}:evOr ev (e::r) ρ H=bnd (ev e ρ H) fun v H=>(qAN v).bind fun b=>if b then some (.bool true,H)else evOr ev r ρ H:=rfl
@[simp] theorem qOa{e r}:qCk ev (e::r) ρ H=bnd (ev e ρ H) fun v H=>(qAN v).bind fun b=>if b then qCk ev r ρ H else some (false,H):=rfl
@[simp] theorem qOC{e}:evOpt ev (some e) ρ H=bnd (ev e ρ H) fun v H=>(intOf v).bind fun i=>if small i then some (some i,H)else none:=rfl
theorem qLh{elt t ifs H0 src x xs}:compLoop ev elt t ifs H0 src (x::xs) ρ H=if qAa H0 H src then(qBS t x ρ).bind fun ρ=>bnd (qCk ev ifs ρ H) fun ok H=>if ok then bnd (ev elt ρ H) fun v H=>bnd (compLoop ev elt t ifs H0 src xs ρ H) fun vs H=>some (v::vs,H)else compLoop ev elt t ifs H0 src xs ρ H else none:=rfl
theorem qPa{elt t ifs H0 src}:compLoop ev elt t ifs H0 src [] ρ H=if qAa H0 H src then some ([],H)else none:=rfl
@[simp] theorem qDO{γ:Type}(a b c)(f:Fl->Rho->AHeap->Option γ):bnd3 (some (a,b,c)) f=f a b c:=rfl
@[simp] theorem qC4{es c r}:evSs es (c::r) ρ H=bnd3 (es c ρ H) fun f ρ H=>qD2 f ρ H fun ρ H=>evSs es r ρ H:=rfl
theorem qPT{body t H0 src}:forLoop body t H0 src [] ρ H=if qAa H0 H src then some (.next,ρ,H)else none:=rfl
theorem qOY{body t H0 src x xs}:forLoop body t H0 src (x::xs) ρ H=if qAa H0 H src then(qBS t x ρ).bind fun ρ=>bnd3 (body ρ H) fun f ρ H=>qD2 f ρ H fun ρ H=>forLoop body t H0 src xs ρ H else none:=rfl
theorem qHZ{test body k}:whileLoop test body (k+1) ρ H=bnd (test ρ H) fun v H=>(qAN v).bind fun b=>if b then bnd3 (body ρ H) fun f ρ H=>qD2 f ρ H fun ρ H=>whileLoop test body k ρ H else some (.next,ρ,H):=rfl
@[simp] theorem s_ret{e}:evS P cf (n+1) (.ret (some e)) ρ H=bnd (evE P cf 40 e ρ H) fun v H=>some (.ret v,ρ,H):=rfl
@[simp] theorem qP9{e}:evS P cf (n+1) (.expr e) ρ H=bnd (evE P cf 40 e ρ H) fun _ H=>some (.next,ρ,H):=rfl
@[simp] theorem s_asg{t e}:evS P cf (n+1) (.asg t e) ρ H=bnd (evE P cf 40 e ρ H) fun v H=>bnd (qE8 P (evE P cf 40) t v ρ H) fun ρ H=>some (.next,ρ,H):=rfl
@[simp] theorem s_ife{t a b}:evS P cf (n+1) (.ife t a b) ρ H=bnd (evE P cf 40 t ρ H) fun v H=>(qAN v).bind fun c=>if c then evSs (evS P cf n) a ρ H else evSs (evS P cf n) b ρ H:=rfl
@[simp] theorem s_for{en t it body}:evS P cf (n+1) (.for en t it body) ρ H=bnd (evE P cf 40 it ρ H) fun v H=>bnd (iterE en H v) fun xs src=>forLoop (evSs (evS P cf n) body) t H src xs ρ H:=rfl
@[simp] theorem s_whl{t body}:evS P cf (n+1) (.whl t body) ρ H=whileLoop (evE P cf 40 t) (evSs (evS P cf n) body) 1000 ρ H:=rfl
@[simp] theorem qNo{o a v}:qDR P ev (.attr o a) v ρ H=bnd (ev o ρ H) fun ov H=>(qB0 P ov a v H).map fun H=>(ρ,H):=rfl
@[simp] theorem a_sub{o i v}:qDR P ev (.sub o i) v ρ H=bnd (ev o ρ H) fun ov H=>bnd (ev i ρ H) fun iv H=>(qAu ov iv v H).map fun H=>(ρ,H):=rfl
@[simp] theorem qM2{t ts v vs}:qBT P ev (t::ts) (v::vs) ρ H=bnd (qDR P ev t v ρ H) fun ρ H=>qBT P ev ts vs ρ H:=rfl
@[simp] theorem qOq{o a v}:qE8 P ev (.attr o a) v ρ H=qDR P ev (.attr o a) v ρ H:=rfl
@[simp] theorem qPg{o i v}:qE8 P ev (.sub o i) v ρ H=qDR P ev (.sub o i) v ρ H:=rfl
end
theorem qDz(H:AHeap):qDn H H=true:=(qEr _ _).mpr rfl
noncomputable def outS(r:StRes):Option (Fl×AHeap):=bnd3 r fun f _ H=>some (f,H)
theorem qHr{r:StRes}{f:Fl}{H:AHeap}(h:outS r=some (f,H)):∃ρ,r=some (f,ρ,H):=by
 obtain⟨f',ρ,H',e,h⟩:=qBt h
 have h:=qA6 h
 exact⟨ρ,by rw[e,h.1,h.2]⟩
section
variable{P:Prog}{d f:Nat}{fn:FnC}{args:List AV}{H H':AHeap}{ρ ρ':Rho}{fl:Fl}{v:AV}
theorem qEL(hl:P.fns.lookup f=some fn)(hb:bindP fn.params fn.dflt args=some ρ):callF P (d+1) f args H=if fn.pure&&qAk args then bnd3 (evSs (evS P (callF P d) 20) fn.body ρ []) fun f _ H'=>(qBM [] H' (flVal f)).map fun v=>(v,H)
  else bnd3 (evSs (evS P (callF P d) 20) fn.body ρ H) fun f _ H'=>if fn.pure then if qDn (H'.take H.length) H then(qBM H H' (flVal f)).map fun v=>(v,H)else none else some (flVal f,H'):=by
 show(P.fns.lookup f).bind _=_
 rw[hl]
 show(bindP fn.params fn.dflt args).bind _=_
 rw[hb];rfl
theorem qPe(hl:P.fns.lookup f=some fn)(hp:fn.pure=false)(hb:bindP fn.params fn.dflt args=some ρ)(h:outS (evSs (evS P (callF P d) 20) fn.body ρ H)=some (fl,H')) :
  callF P (d+1) f args H=some (flVal fl,H'):=by
 obtain⟨ρ',h⟩:=qHr h
 rw[qEL hl hb,hp,h];rfl
theorem qNj(hl:P.fns.lookup f=some fn)(hp:fn.pure=true)(ha:qAk args=true)(hb:bindP fn.params fn.dflt args=some ρ)(h:outS (evSs (evS P (callF P d) 20) fn.body ρ [])=some (fl,H'))
 (hf:qBM [] H' (flVal fl)=some v):callF P (d+1) f args H=some (v,H):=by
 obtain⟨ρ',h⟩:=qHr h
 rw[qEL hl hb,hp,ha,h]
 show(qBM [] H' (flVal fl)).map _=_
 rw[hf];rfl
theorem qPd(hl:P.fns.lookup f=some fn)(hp:fn.pure=true)(ha:qAk args=false)(hb:bindP fn.params fn.dflt args=some ρ)(h:outS (evSs (evS P (callF P d) 20) fn.body ρ H)=some (fl,H))
 (hf:qBM H H (flVal fl)=some v):callF P (d+1) f args H=some (v,H):=by
 obtain⟨ρ',h⟩:=qHr h
 rw[qEL hl hb,hp,ha,h]
 show(if qDn (H.take H.length) H then(qBM H H (flVal fl)).map fun v=>(v,H)else none)=_
 rw[List.take_length,qDz,hf];rfl
theorem qDL(hl:P.fns.lookup f=some fn)(hp:fn.pure=true)(ha:qAk args=true)(h:callF P (d+1) f args []=some (v,[])):callF P (d+1) f args H=some (v,H):=by
 delta P d f fn args H v at hl hp ha h
 (injection (qA0 h)with fn';rintro⟨e,h⟩)
 obtain rfl:=Option.some.inj (hl.symm.trans e)
 (injection (qA0 h)with ρ;rintro⟨hb,h⟩)
 rw[hp,ha]at h
 (injection (qBt h)with fl ρ' H1;rintro⟨hs,h⟩)
 (injection (qA3 h)with u;rintro⟨hf,h⟩)
 rw[<-(Prod.mk.inj h).1]
 exact qNj hl hp ha hb (by rw[hs];rfl) hf
end
end
section
section
variable{P:Prog}{H:AHeap}{l m:List AV}{r i j c a n k:Nat}{x v:AV}{o:AObj}
theorem qAc{a:Int}(h:a.natAbs<400000):small a=true:=decide_eq_true h
theorem qI9{a b:Int}(ha:a.natAbs<400000)(hb:b.natAbs<400000):binAV .mul (.int a) (.int b)=some (.int (a*b)):=if_pos (Bool.and_eq_true_iff.mpr ⟨qAc ha,qAc hb⟩)
theorem qOo{a b:Int}(ha:0<b)(hb:b.natAbs<400000):binAV .div (.int a) (.int b)=some (.int (a / b)):=if_pos (Bool.and_eq_true_iff.mpr ⟨decide_eq_true ha,qAc hb⟩)
theorem qGZ{a b:Int}(ha:0<b):binAV .mod (.int a) (.int b)=some (.int (a % b)):=if_pos (decide_eq_true ha)
theorem qOp(h:l.length+m.length<1000000):binAV .add (.lst l) (.lst m)=some (.lst (l++m)):=if_pos h
@[simp] theorem qNN:trkAV false v H=(v,H):=by cases v<;>rfl
@[simp] theorem qCq{b:Bool}:qAN (.bool b)=some b:=rfl
@[simp] theorem qLA{b:Int}:intOf (.int b)=some b:=rfl
theorem int_beq{a b:Int}:(AV.int a).beq (.int b)=decide (a=b):=rfl
theorem str_beq{a b:Nat}:(AV.str a).beq (.str b)=decide (a=b):=rfl
noncomputable def noRef:AV->Bool
 |.ref _=>false
 |_=>true
theorem qN6:∀{a:AV},noRef a=true->qDI H a=some a:=by
 intro a h
 induction a using AV.casesOn with
 |ref=>exact nomatch h
 |_=>rfl
theorem qFX:∀{l:List AV},l.all noRef=true->l.mapM (qDI H)=some l
 |[],_=>rfl
 |a::r,h=>by
  have h:=Bool.and_eq_true_iff.mp h
  rw[List.mapM_cons,qFX h.2,qN6 h.1];rfl
theorem qF4(h:l.all noRef=true):qBN H (.lst l)=some (.lst l):=congrArg (Option.map AV.lst) (qFX h)
theorem qB6{β:Type}{f:AObj->Option β}(h:H[i]?=some o):H[i]?.bind f=f o:=by rw[h];rfl
theorem qEu{f:AObj->Bool}(h:H[i]?=some o):H[i]?.any f=f o:=by rw[h];rfl
theorem qD9(h:H[i]?=some (.list l)):qAj H i=some l:=qB6 h
theorem qPX(h:H[i]?=some (.list l))(h2:l.all noRef=true):qBN H (.ref i)=some (.lst l):=by
 show(qAj H i).bind _=_
 rw[qD9 h];exact qF4 h2
@[simp] theorem qOT{n k:Nat}:idx n (k:Int)=if k<n then some k else none:=by
 unfold idx
 by_cases h:k<n
 .rw [if_pos h,if_pos ⟨Int.natCast_nonneg k,Int.ofNat_lt.mpr h⟩];rfl
 .rw [if_neg h,if_neg fun q=>h (Int.ofNat_lt.mp q.2),if_neg fun q=>absurd q.1 (Int.not_lt.mpr (Int.natCast_nonneg k))]
theorem idx_at{n k:Nat}{i:Int}(h:i=k)(hk:k<n):idx n i=some k:=by rw[h,qOT,if_pos hk]
theorem qMx{n k:Nat}{i:Int}(h:i=(k:Int)-n)(hk:k<n):idx n i=some k:=by
 have q:(k:Int)<n:=Int.ofNat_lt.mpr hk
 rw[h]
 unfold idx
 rw[if_neg (fun z=>absurd (Int.le_of_sub_nonneg z.1) (Int.not_le.mpr q)),if_pos ⟨Int.sub_neg_of_lt q,by omega⟩,Int.sub_add_cancel];rfl
@[simp] theorem qNu{i:Int}:subAV (.lst l) (.int i) H=(idx l.length i).bind fun k=>l[k]?:=rfl
theorem qBh{i:Int}(h:H[r]?=some (.list l)):subAV (.ref r) (.int i) H=(idx l.length i).bind fun k=>l[k]?:=qB6 h
theorem qJv{i:Int}{kvs}(h:H[r]?=some (.dictI kvs)):subAV (.ref r) (.int i) H=kvs.lookup i:=qB6 h
theorem qCt{kvs}(h:H[r]?=some (.dictS kvs)):subAV (.ref r) (.str k) H=kvs.lookup k:=qB6 h
theorem qLt{o':AObj}{y:AV}(h:H[r]?=some o)(e:asgO o y x=some o'):qAu (.ref r) y x H=some (H.set r o'):=by
 show(H[r]?.bind _).map _=_
 rw[h];exact congrArg (Option.map fun o=>H.set r o) e
theorem qGb{i:Int}(h:H[r]?=some (.list l))(h1:0<=i)(h2:i<l.length):qAu (.ref r) (.int i) x H=some (H.set r (.list (l.set i.toNat x))):=qLt h (if_pos ⟨h1,h2⟩)
theorem qLw{i:Int}{kvs}(h:H[r]?=some (.dictI kvs))(h1:kvs.length<900000):qAu (.ref r) (.int i) x H=some (H.set r (.dictI (upd i x kvs))):=qLt h (if_pos h1)
theorem qLv{kvs}(h:H[r]?=some (.dictS kvs))(h1:kvs.length<900000):qAu (.ref r) (.str k) x H=some (H.set r (.dictS (upd k x kvs))):=qLt h (if_pos h1)
theorem ns_of{fs}(h:H[i]?=some (.ns fs)):nsAt H i=some fs:=qB6 h
theorem qBu{fs}(h:H[i]?=some (.ns fs))(h1:qDQ P c a=true)(h2:fs.length<900):qB0 P (.inst c i) a x H=some (H.set i (.ns (upd a x fs))):=by
 show(nsAt H i).bind _=_
 rw[ns_of h];exact if_pos (Bool.and_eq_true_iff.mpr ⟨h1,decide_eq_true h2⟩)
theorem qBL{fs}(h:H[i]?=some (.ns fs))(h1:qDQ P c a=true):qAB P (.inst c i) a H=fs.lookup a:=by
 show(nsAt H i).bind _=_
 rw[ns_of h];exact if_pos h1
theorem qKg{fs}(h:H[i]?=some (.ns fs))(h1:fs.lookup a=none):qAo i a H=true:=by
 show(nsAt H i).any _=_
 rw[ns_of h];exact congrArg Option.isNone h1
theorem qD6(h:H[i]?=some (.list l)):qAH H (.ref i)=some l:=qB6 h
@[simp] theorem qDh{t}:biAV .len t [.lst l] H=some (.int l.length,H):=rfl
theorem qBo{t}(h:H[i]?=some (.list l)):biAV .len t [.ref i] H=some (.int l.length,H):=by
 show((qAj H i).map List.length).map _=_
 rw[qD9 h];rfl
@[simp] theorem qEO{t}:biAV .tuple t [.lst l] H=some (.tup l,H):=rfl
@[simp] theorem qIZ{t}:biAV .list t [.lst l] H=some (qAC t l H):=rfl
theorem qMr{t}(h:H[i]?=some (.list l)):biAV .list t [.ref i] H=some (qAC t l H):=by
 show(qAj H i).map _=_
 rw[qD9 h];rfl
theorem qEY{t}{b:Int}(h:b.natAbs<400000):biAV .range t [.int b] H=some (.rng 0 b,H):=congrArg (Option.map fun p:Int×Int=>(AV.rng p.1 p.2,H)) (if_pos (qAc h))
theorem qKO{t}{a b:Int}(ha:a.natAbs<400000)(hb:b.natAbs<400000):biAV .range t [.int a,.int b] H=some (.rng a b,H):=congrArg (Option.map fun p:Int×Int=>(AV.rng p.1 p.2,H)) ((if_pos (qAc ha)).trans (if_pos (qAc hb)))
@[simp] theorem qL6:iterE false H (.lst l)=some (l,none):=rfl
theorem qCW(h:H[i]?=some (.list l)):iterE false H (.ref i)=some (l,some i):=by
 show(qAj H i).map _=_
 rw[qD9 h];rfl
theorem st_of{H0:AHeap}(h:H[i]?=H0[i]?):qAa H0 H (some i)=true:=(qFS _ _).mpr h
@[simp] theorem qB9{s}:qAa H H s=true:=by
 cases s with
 |none=>rfl
 |some i=>exact st_of rfl
theorem m_of{as:List AV}{r:Option (AV×AHeap)}(h:H[i]?=some (.list l))(e:methL i l as H n=r):qAg i n as H=r:=(qB6 h).trans e
theorem md_of{as:List AV}{kvs}{r:Option (AV×AHeap)}(h:H[i]?=some (.dictI kvs))(e:methD i kvs as H n=r):qAg i n as H=r:=(qB6 h).trans e
theorem qAs(h:H[i]?=some (.list l))(h2:l.length<900000):qAg i 0 [v] H=some (.none,H.set i (.list (l++[v]))):=m_of h (if_pos h2)
theorem qDW(h:H[i]?=some (.list l)):qBZ H i 0=true:=qEu h
theorem pop_m(h:H[i]?=some (.list l))(h2:l.getLast?=some v):qAg i 1 [] H=some (v,H.set i (.list l.dropLast)):=m_of h (congrArg (Option.map fun v=>(v,H.set i (.list l.dropLast))) h2)
theorem qMV{k:Int}(h:H[i]?=some (.list l))(h1:l.all isK1=true)(h2:hasAV (.int k) l=true):qAg i 2 [.int k] H=some (.none,H.set i (.list (qBQ (.int k) l))):=m_of h (if_pos (Bool.and_eq_true_iff.mpr ⟨h1,h2⟩))
theorem qKH(h:H[i]?=some (.list l)):qBZ H i 2=true:=qEu h
theorem get_m{k:Int}{kvs}(h:H[i]?=some (.dictI kvs)):qAg i 4 [.int k,v] H=some ((kvs.lookup k).getD v,H):=md_of h rfl
theorem qPS{kvs}(h:H[i]?=some (.dictI kvs)):qBZ H i 4=true:=(qEu h).trans (decide_eq_true (.inl rfl))
theorem qMP{k:Int}{kvs}(h:H[i]?=some (.dictI kvs))(h1:kvs.lookup k=some x):qAg i 5 [.int k,v] H=some (x,H):=md_of h (by show(match kvs.lookup k with|some v=>_|none=>_)=_;rw[h1])
theorem qMQ{k:Int}{kvs}(h:H[i]?=some (.dictI kvs))(h1:kvs.lookup k=none)(h2:kvs.length<900000):qAg i 5 [.int k,v] H=some (v,H.set i (.dictI (kvs++[(k,v)]))):=md_of h (by show(match kvs.lookup k with|some v=>_|none=>_)=_;rw[h1];exact if_pos h2)
theorem qHj{kvs}(h:H[i]?=some (.dictI kvs)):qBZ H i 5=true:=(qEu h).trans (decide_eq_true (.inr rfl))
theorem qC7(h:H[i]?=some o):i<H.length:=(List.getElem?_eq_some_iff.mp h).1
theorem qMR{o':AObj}(h:H[i]?=some o):(H.set i o')[i]?=some o':=List.getElem?_set_self (qC7 h)
theorem qES{o':AObj}(h:i≠j):(H.set i o')[j]?=H[j]?:=List.getElem?_set_ne h
theorem qBU{o':AObj}(h:H[i]?=some o):(H++[o'])[i]?=some o:=(List.getElem?_append_left (qC7 h)).trans h
theorem qIB:(H++[o])[H.length]?=some o:=List.getElem?_concat_length
theorem qPY(h:H[i]?=some (.list l)):qDI H (.ref i)=some (.lst l):=congrArg (Option.map AV.lst) (qD9 h)
theorem qOj(h:H[i]?=some (.list l))(h2:l.mapM (qDI H)=some m):qBN H (.ref i)=some (.lst m):=by
 show(qAj H i).bind _=_
 rw[qD9 h];exact congrArg (Option.map AV.lst) h2
theorem qMI{kvs}(h:H[i]?=some (.dictI kvs)):qER H (.ref i)=some (kvs.map fun p=>.int p.1):=qB6 h
theorem qAi(h:qER H v=some l)(e:qAY l=some m):biAV .sorted false [v] H=some (.lst m,H):=by
 show(qER H v).bind _=_
 rw[h];exact congrArg (Option.map fun m=>qAC false m H) e
theorem qJP{H':AHeap}(h:H'[i]?=some (.list l))(h1:H.length<=i)(h2:qAk l=true):qBM H H' (.ref i)=some (.lst l):=by
 show(qAj H' i).bind _=_
 rw[qD9 h];exact if_pos (Bool.and_eq_true_iff.mpr ⟨decide_eq_true h1,h2⟩)
end
end
end Internal.L
end
section
open PySem PySem.W PyProof.Rows
namespace Internal.L
abbrev Dm:=Fin 32
abbrev Lit:=Fin 3×Fin 4×Fin 7
noncomputable def litI(x:Int)(s:Fin 4)(k:Fin 7):AV:=.tup [.int x,.str (7+s.val),.int ((k.val:Int)-1)]
noncomputable def lav(l:Lit):AV:=litI (l.1.val:Int) l.2.1 l.2.2
noncomputable def bit(S v:Nat):Bool:=Nat.beq (S / 2 ^ v % 2) 1
noncomputable def obeys(s:Nat)(k v:Int):Bool:=match s with
 | 0=>!decide (v=k)
 | 1=>decide (v<=k)
 | 2=>decide (v=k)
 |_=>decide (k<=v)
noncomputable def msk(s:Fin 4)(k:Fin 7):Nat:=([0,1,2,3,4]:List Nat).foldr (fun(v r:Nat)=>if obeys s.val ((k.val:Int)-1) (v:Int)then r+2 ^ v else r) 0
noncomputable def cut(l:Lit)(S:Dm):Dm:=⟨S.val &&& msk l.2.1 l.2.2,Nat.lt_of_le_of_lt Nat.and_le_left S.isLt⟩
noncomputable def lotL(S:Nat):List AV:=([0,1,2,3,4]:List Nat).filterMap fun v=>if bit S v then some (.int (v:Int))else none
noncomputable def lot(S:Dm):AV:=.lst (lotL S.val)
noncomputable def ivs:Nat->Nat->Nat->List AV
 | 0,_,_=>[]
 |n+1,v,S=>if bit S v then
   (match ivs n (v+1) S with
   |.tup [.int a,b]::r=>if a=(v:Int)+1 then .tup [.int (v:Int),b]::r else .tup [.int (v:Int),.int (v:Int)]::.tup [.int a,b]::r
   |r=>.tup [.int (v:Int),.int (v:Int)]::r)
  else ivs n (v+1) S
noncomputable def dom(S:Dm):AV:=.tup (ivs 5 0 S.val)
theorem qLb(l m:Lit)(S:Dm):cut l (cut m S)=cut m (cut l S):=Fin.eq_of_val_eq (show _ &&& _ &&& _=_ &&& _ &&& _ by rw[Nat.and_assoc,Nat.and_comm (msk _ _),<-Nat.and_assoc])
theorem qN9(l:Lit)(S:Dm):cut l (cut l S)=cut l S:=Fin.eq_of_val_eq ((Nat.and_assoc _ _ _).trans (congrArg _ (Nat.and_self _)))
theorem qN8(l:Lit):cut l 0=0:=Fin.eq_of_val_eq (Nat.zero_and _)
theorem qPZ{l:Lit}{S:Dm}(h:cut l S≠S):(cut l S).val<S.val:=Nat.lt_of_le_of_ne Nat.and_le_left fun e=>h (Fin.eq_of_val_eq e)
noncomputable def chk2(f:Fin 7->Dm->Bool):Bool:=(List.finRange 7).all fun k=>(List.finRange 32).all fun S=>f k S
theorem qKc{f:Fin 7->Dm->Bool}(h:chk2 f=true)(k:Fin 7)(S:Dm):f k S=true :=
 List.all_eq_true.mp (List.all_eq_true.mp h k (List.mem_finRange k)) S (List.mem_finRange S)
theorem fin4{P:Fin 4->Prop}(h0:P 0)(h1:P 1)(h2:P 2)(h3:P 3)(x:Fin 4):P x:=match x with
 | 0=>h0
 | 1=>h1
 | 2=>h2
 | 3=>h3
noncomputable def resB(r:Option (AV×AHeap))(u:AV):Bool:=match r with
 |some (v,[])=>v.beq u
 |_=>false
theorem qG4{r:Option (AV×AHeap)}{u:AV}(h:resB r u=true):r=some (u,[]):=by
 cases r with
 |none=>cases h
 |some p =>
  obtain⟨v,H⟩:=p
  cases H with
  |nil=>rw[(AV.beq_iff v u).mp h]
  |cons=>cases h
noncomputable def said(l:Lit)(S:Dm):Int:=if cut l S=S then 1 else if cut l S=0 then -1 else 0
noncomputable def stB(d:Nat)(x:Int)(s:Fin 4):Bool:=chk2 fun k S=>resB (callF PP (d+4) 5 [litI x s k,dom S] []) (dom (cut (0,s,k) S))
theorem stB0(d:Nat)(x:Int):stB d x 0=true:=by kernel_rfl
theorem stB1(d:Nat)(x:Int):stB d x 1=true:=by kernel_rfl
theorem stB2(d:Nat)(x:Int):stB d x 2=true:=by kernel_rfl
theorem stB3(d:Nat)(x:Int):stB d x 3=true:=by kernel_rfl
theorem qJ1(d:Nat)(x:Int)(s:Fin 4):stB d x s=true:=fin4 (P:=fun s=>stB d x s=true) (stB0 d x) (stB1 d x) (stB2 d x) (stB3 d x) s
noncomputable def negL(l:Lit):Lit:=match l.2.1.val with
 | 1=>(l.1,3,l.2.2+1)
 | 3=>(l.1,1,l.2.2-1)
 | 2=>(l.1,0,l.2.2)
 |_=>(l.1,2,l.2.2)
noncomputable def midB(k:Fin 7):Bool:=decide (1<=k.val)&&decide (k.val<=5)
noncomputable def chkL(f:Lit->Bool):Bool:=(List.finRange 3).all fun x=>(List.finRange 4).all fun s=>(List.finRange 7).all fun k=>!midB k || f (x,s,k)
theorem qG6{f:Lit->Bool}(h:chkL f=true){l:Lit}(m:midB l.2.2=true):f l=true:=by
 have:=List.all_eq_true.mp (List.all_eq_true.mp (List.all_eq_true.mp h l.1 (List.mem_finRange _)) l.2.1 (List.mem_finRange _)) l.2.2 (List.mem_finRange _)
 rw[m]at this
 exact this
theorem qOG(d:Nat):chkL (fun l=>resB (callF PP (d+1) 4 [lav l] []) (lav (negL l)))=true:=by kernel_rfl
theorem qLc(d:Nat):chkL (fun l=>resB (callF PP (d+1) 35 [lav l] []) (lav (negL l)))=true:=by kernel_rfl
noncomputable def leB(d:Nat)(x:Int)(s:Fin 4):Bool:=chk2 fun k S=>!midB k || resB (callF PP (d+1) 34 [litI x s k,lot S] []) (lot (cut (0,s,k) S))
theorem leB0(d:Nat)(x:Int):leB d x 0=true:=by kernel_rfl
theorem leB1(d:Nat)(x:Int):leB d x 1=true:=by kernel_rfl
theorem leB2(d:Nat)(x:Int):leB d x 2=true:=by kernel_rfl
theorem leB3(d:Nat)(x:Int):leB d x 3=true:=by kernel_rfl
theorem qMs(d:Nat)(x:Int)(s:Fin 4):leB d x s=true:=fin4 (P:=fun s=>leB d x s=true) (leB0 d x) (leB1 d x) (leB2 d x) (leB3 d x) s
theorem qJC:chkL (fun l=>decide (negL (negL l)=l))=true:=by kernel_rfl
theorem qN5:chkL (fun l=>(List.finRange 32).all fun S=>decide (said (negL l) S=1)==decide (cut l S=0))=true:=by kernel_rfl
noncomputable def chkD(f:Dm->Bool):Bool:=(List.finRange 32).all f
theorem qEc{f:Dm->Bool}(h:chkD f=true)(S:Dm):f S=true:=List.all_eq_true.mp h S (List.mem_finRange S)
theorem qMf{f:Dm->Dm->Bool}(h:chkD (fun S=>chkD (f S))=true)(S T:Dm):f S T=true:=qEc (qEc h S) T
theorem qF0(S:Dm):((dom S).plain&&(dom S).clean&&((dom S).beq (.tup [])==decide (S=0))&&(lot S).plain&&(lot S).clean&&((lot S).beq (.lst [])==decide (S=0))&&(lotL S.val).all noRef)=true :=
 qEc (f:=fun S=>(dom S).plain&&(dom S).clean&&((dom S).beq (.tup [])==decide (S=0))&&(lot S).plain&&(lot S).clean&&((lot S).beq (.lst [])==decide (S=0))&&(lotL S.val).all noRef) (by kernel_rfl) S
theorem qLT(S T:Dm):((dom S).beq (dom T)==decide (S=T)&&((lot S).beq (lot T)==decide (S=T)))=true :=
 qMf (f:=fun S T=>(dom S).beq (dom T)==decide (S=T)&&((lot S).beq (lot T)==decide (S=T))) (by kernel_rfl) S T
section
section
variable{H:AHeap}{l:Lit}{S T:Dm}
theorem and7{a b c d e f g:Bool}(h:(a&&b&&c&&d&&e&&f&&g)=true):a=true/\b=true/\c=true/\d=true/\e=true/\f=true/\g=true:=by
 simpa[and_assoc]using h
theorem qCA(S:Dm):(dom S).plain=true:=(and7 (qF0 S)).1
theorem qF1(S:Dm):(dom S).clean=true:=(and7 (qF0 S)).2.1
theorem qLU(S:Dm):(dom S).beq (.tup [])=decide (S=0):=beq_iff_eq.mp (and7 (qF0 S)).2.2.1
theorem qEh(S:Dm):(lot S).plain=true:=(and7 (qF0 S)).2.2.2.1
theorem qEi(S:Dm):(lot S).clean=true:=(and7 (qF0 S)).2.2.2.2.1
theorem qOL(S:Dm):(lot S).beq (.lst [])=decide (S=0):=beq_iff_eq.mp (and7 (qF0 S)).2.2.2.2.2.1
theorem qKt(S:Dm):(lotL S.val).all noRef=true:=(and7 (qF0 S)).2.2.2.2.2.2
theorem qOi(S T:Dm):(dom S).beq (dom T)=decide (S=T):=beq_iff_eq.mp (Bool.and_eq_true_iff.mp (qLT S T)).1
theorem qON(S T:Dm):(lot S).beq (lot T)=decide (S=T):=beq_iff_eq.mp (Bool.and_eq_true_iff.mp (qLT S T)).2
theorem qPU{a b a' b':AV}(h1:qBN H a=some a')(h2:qBN H b=some b')(c1:a'.clean=true)(c2:b'.clean=true)(n:qAN a'=none):eqs a b H=some (a'.beq b'):=by
 unfold eqs
 rw[h1,h2]
 show eqAV a' b'=_
 unfold eqAV
 rw[n]
 exact if_pos (Bool.and_eq_true_iff.mpr ⟨c1,c2⟩)
theorem qBc{a b a' b':AV}{r:Bool}(h1:qBN H a=some a')(h2:qBN H b=some b')(c1:a'.clean=true)(c2:b'.clean=true)(n:qAN a'=none)(e:a'.beq b'=r):cmpAV .eq a b H=some r:=(qPU h1 h2 c1 c2 n).trans (congrArg some e)
theorem qDK{a b a' b':AV}{r:Bool}(h1:qBN H a=some a')(h2:qBN H b=some b')(c1:a'.clean=true)(c2:b'.clean=true)(n:qAN a'=none)(e:a'.beq b'=r):cmpAV .ne a b H=some !r:=congrArg (Option.map fun x=>!x) (qBc h1 h2 c1 c2 n e)
theorem qLY:qBN H (lot S)=some (lot S):=qF4 (qKt S)
theorem qNi:cmpAV .eq (dom S) (dom T) H=some (decide (S=T)):=qBc rfl rfl (qF1 S) (qF1 T) rfl (qOi S T)
theorem qLV:cmpAV .eq (dom S) (.tup []) H=some (decide (S=0)):=qBc rfl rfl (qF1 S) rfl rfl (qLU S)
theorem qPL:cmpAV .eq (lot S) (lot T) H=some (decide (S=T)):=qBc qLY qLY (qEi S) (qEi T) rfl (qON S T)
theorem qOM:cmpAV .ne (lot S) (.lst []) H=some (!decide (S=0)):=qDK qLY (qF4 rfl) (qEi S) rfl rfl (qOL S)
theorem qCd{a b:AV}(h1:a.plain=true)(h2:b.plain=true):qAk [a,b]=true:=Bool.and_eq_true_iff.mpr ⟨h1,Bool.and_eq_true_iff.mpr ⟨h2,rfl⟩⟩
theorem qBi(d:Nat)(l:Lit)(S:Dm):callF PP (d+4) 5 [lav l,dom S] H=some (dom (cut l S),H) :=
 qDL (fn:=fn5) rfl rfl (qCd rfl (qCA S)) (qG4 (qKc (qJ1 d l.1.val l.2.1) l.2.2 S))
theorem qEm(d:Nat){l:Lit}(h:midB l.2.2=true)(S:Dm):callF PP (d+1) 34 [lav l,lot S] H=some (lot (cut l S),H):=by
 have t:=qKc (qMs d l.1.val l.2.1) l.2.2 S
 rw[h]at t
 exact qDL (fn:=fn34) rfl rfl (qCd rfl (qEh S)) (qG4 t)
theorem qGD(d:Nat){l:Lit}(h:midB l.2.2=true):callF PP (d+1) 4 [lav l] H=some (lav (negL l),H):=qDL (fn:=fn4) rfl rfl rfl (qG4 (qG6 (qOG d) h))
theorem qDq(d:Nat){l:Lit}(h:midB l.2.2=true):callF PP (d+1) 35 [lav l] H=some (lav (negL l),H):=qDL (fn:=fn35) rfl rfl rfl (qG4 (qG6 (qLc d) h))
theorem qKl{l:Lit}(h:midB l.2.2=true):negL (negL l)=l:=of_decide_eq_true (qG6 qJC h)
theorem deny{l:Lit}(h:midB l.2.2=true)(S:Dm):said (negL l) S=1↔cut l S=0:=by
 have:=beq_iff_eq.mp (qEc (qG6 qN5 h) S)
 rw[<-decide_eq_true_iff (p:=said (negL l) S=1),this,decide_eq_true_iff]
theorem qFP:said l S=1↔cut l S=S:=by
 unfold said
 by_cases h:cut l S=S
 .rw [if_pos h];exact⟨fun _=>h,fun _=>rfl⟩
 .rw [if_neg h];split<;>exact⟨fun e=>absurd e (by decide),fun e=>absurd e h⟩
theorem qP7(hS:S≠0):said l S = -1↔cut l S=0:=by
 unfold said
 by_cases h:cut l S=S
 .rw [if_pos h];exact⟨fun e=>absurd e (by decide),fun e=>absurd (h.symm.trans e) hS⟩
 .rw [if_neg h]
  by_cases h0:cut l S=0
  .rw [if_pos h0];exact⟨fun _=>h0,fun _=>rfl⟩
  .rw [if_neg h0];exact⟨fun e=>absurd e (by decide),fun e=>absurd e h0⟩
end
end
section
@[irreducible] noncomputable def Cl(d:Nat)(H:AHeap)(f:Nat)(as:List AV)(v:AV)(H':AHeap):Prop:=callF PP d f as H=some (v,H')
@[irreducible] noncomputable def Ev(d:Nat)(ρ:Rho)(H:AHeap)(n:Nat)(e:CE)(v:AV)(H':AHeap):Prop:=evE PP (callF PP d) n e ρ H=some (v,H')
@[irreducible] noncomputable def El(d:Nat)(ρ:Rho)(H:AHeap)(n:Nat)(es:List CE)(v:List AV)(H':AHeap):Prop:=evEs (evE PP (callF PP d) n) es ρ H=some (v,H')
@[irreducible] noncomputable def Ea(d:Nat)(ρ:Rho)(H:AHeap)(n:Nat)(es:List CE)(b c:Bool)(H':AHeap):Prop:=(if c then evAnd (evE PP (callF PP d) n) es ρ H else some (.bool false,H))=some (.bool b,H')
@[irreducible] noncomputable def Eo(d:Nat)(ρ:Rho)(H:AHeap)(n:Nat)(es:List CE)(b c:Bool)(H':AHeap):Prop:=(if c then some (.bool true,H)else evOr (evE PP (callF PP d) n) es ρ H)=some (.bool b,H')
@[irreducible] noncomputable def Et(d:Nat)(ρ:Rho)(H:AHeap)(n:Nat)(es:List CE)(b c:Bool)(H':AHeap):Prop:=(if c then qCk (evE PP (callF PP d) n) es ρ H else some (false,H))=some (b,H')
@[irreducible] noncomputable def Ei(d:Nat)(ρ:Rho)(H:AHeap)(n:Nat)(c:Bool)(a b:CE)(v:AV)(H':AHeap):Prop:=(if c then evE PP (callF PP d) n a ρ H else evE PP (callF PP d) n b ρ H)=some (v,H')
@[irreducible] noncomputable def Eu(d:Nat)(ρ:Rho)(H:AHeap)(n:Nat)(e:Option CE)(v:Option Int)(H':AHeap):Prop:=evOpt (evE PP (callF PP d) n) e ρ H=some (v,H')
@[irreducible] noncomputable def Lc(d n:Nat)(elt:CE)(t:CT)(ifs:List CE)(H0:AHeap)(src:Option Nat)(ρ:Rho)(H:AHeap)(xs vs:List AV)(H':AHeap):Prop:=compLoop (evE PP (callF PP d) n) elt t ifs H0 src xs ρ H=some (vs,H')
@[irreducible] noncomputable def Ss(d n:Nat)(ρ:Rho)(H:AHeap)(l:List CS)(f:Fl)(ρ':Rho)(H':AHeap):Prop:=evSs (evS PP (callF PP d) n) l ρ H=some (f,ρ',H')
@[irreducible] noncomputable def Kx(d n:Nat)(l:List CS)(f1:Fl)(ρ:Rho)(H:AHeap)(f:Fl)(ρ':Rho)(H':AHeap):Prop:=qD2 f1 ρ H (fun ρ H=>evSs (evS PP (callF PP d) n) l ρ H)=some (f,ρ',H')
@[irreducible] noncomputable def Sx(d n:Nat)(ρ:Rho)(H:AHeap)(c:Bool)(a b:List CS)(f:Fl)(ρ':Rho)(H':AHeap):Prop:=(if c then evSs (evS PP (callF PP d) n) a ρ H else evSs (evS PP (callF PP d) n) b ρ H)=some (f,ρ',H')
@[irreducible] noncomputable def Lf(d n:Nat)(t:CT)(body:List CS)(H0:AHeap)(src:Option Nat)(ρ:Rho)(H:AHeap)(xs:List AV)(f:Fl)(ρ':Rho)(H':AHeap):Prop:=forLoop (evSs (evS PP (callF PP d) n) body) t H0 src xs ρ H=some (f,ρ',H')
@[irreducible] noncomputable def Lx(d n:Nat)(t:CT)(body:List CS)(H0:AHeap)(src:Option Nat)(F1:Fl)(ρ:Rho)(H:AHeap)(xs:List AV)(f:Fl)(ρ':Rho)(H':AHeap):Prop:=qD2 F1 ρ H (fun ρ H=>forLoop (evSs (evS PP (callF PP d) n) body) t H0 src xs ρ H)=some (f,ρ',H')
@[irreducible] noncomputable def Lw(d n:Nat)(t:CE)(body:List CS)(k:Nat)(ρ:Rho)(H:AHeap)(f:Fl)(ρ':Rho)(H':AHeap):Prop:=whileLoop (evE PP (callF PP d) 40 t) (evSs (evS PP (callF PP d) n) body) k ρ H=some (f,ρ',H')
@[irreducible] noncomputable def As(d:Nat)(ρ:Rho)(H:AHeap)(t:CT)(v:AV)(ρ':Rho)(H':AHeap):Prop:=qE8 PP (evE PP (callF PP d) 40) t v ρ H=some (ρ',H')
@[irreducible] noncomputable def Ah(d:Nat)(ρ:Rho)(H:AHeap)(t:List CT)(v:List AV)(ρ':Rho)(H':AHeap):Prop:=qBT PP (evE PP (callF PP d) 40) t v ρ H=some (ρ',H')
@[irreducible] noncomputable def Em(d:Nat)(ρ:Rho)(H:AHeap)(n m:Nat)(es:List CE)(x v:AV)(H':AHeap):Prop:=qGz PP (callF PP d) (evE PP (callF PP d) n) m es ρ x H=some (v,H')
section
variable{d n k m f i j c:Nat}{ρ ρ1 ρ2 ρ':Rho}{H H0 H1 H2 H3 H':AHeap}{e a b o:CE}{es ks:List CE}{u v x y z w:AV}{us vs xs:List AV}{t:CT}{ts:List CT}{p q:Bool}{l r body:List CS}{F F1:Fl}{src:Option Nat}{elt:CE}{ifs:List CE}{I J:Int}
theorem E_lit:Ev d ρ H (n+1) (.lit v) v H:=by delta Ev;rfl
theorem E_var(h:ρ.lookup k=some v):Ev d ρ H (n+1) (.var k) v H:=by delta Ev;rw[e_var,h];rfl
theorem E_bin{op}(h1:Ev d ρ H n a x H1)(h2:Ev d ρ H1 n b y H2)(h3:binAV op x y=some z):Ev d ρ H (n+1) (.bin op false a b) z H2:=by delta Ev at *;rw[e_bin,h1,qA8,h2,qA8,h3];exact congrArg some qNN
theorem qQC{op}(h1:Ev d ρ H n a x H1)(h2:Ev d ρ H1 n b y H2)(h3:binAV op x y=some (.lst vs)):Ev d ρ H (n+1) (.bin op true a b) (.ref H2.length) (H2++[.list vs]):=by delta Ev at *;rw[e_bin,h1,qA8,h2,qA8,h3];rfl
theorem E_neg(h1:Ev d ρ H n a (.int I) H1):Ev d ρ H (n+1) (.neg a) (.int (-I)) H1:=by delta Ev at *;rw[e_neg,h1];rfl
theorem E_not(h1:Ev d ρ H n a (.bool p) H1)(h2:(!p)=q):Ev d ρ H (n+1) (.not a) (.bool q) H1:=by delta Ev at *;rw[e_not,h1,<-h2];rfl
theorem E_cmp{op}(h1:Ev d ρ H n a x H1)(h2:Ev d ρ H1 n b y H2)(h3:cmpAV op x y H2=some p):Ev d ρ H (n+1) (.cmp op a b) (.bool p) H2:=by delta Ev at *;rw[e_cmp,h1,qA8,h2,qA8,h3];rfl
theorem qPt(h:Ea d ρ H n es p true H1):Ev d ρ H (n+1) (.band es) (.bool p) H1:=by delta Ev Ea at *;exact h
theorem E_bor(h:Eo d ρ H n es p false H1):Ev d ρ H (n+1) (.bor es) (.bool p) H1:=by delta Ev Eo at *;exact h
theorem qPs:Ea d ρ H n [] true true H:=by delta Ea;rfl
theorem Ea_no:Ea d ρ H n es false false H:=by delta Ea;rfl
theorem qM7(h1:Ev d ρ H n e (.bool q) H1)(h2:Ea d ρ H1 n es p q H2):Ea d ρ H n (e::es) p true H2:=by delta Ev Ea at *;rw[if_pos rfl,qOf,h1];exact h2
theorem qQ9:Eo d ρ H n [] false false H:=by delta Eo;rfl
theorem qQ8:Eo d ρ H n es true true H:=by delta Eo;rfl
theorem qPy(h1:Ev d ρ H n e (.bool q) H1)(h2:Eo d ρ H1 n es p q H2):Eo d ρ H n (e::es) p false H2:=by delta Ev Eo at *;rw[if_neg Bool.false_ne_true,qOd,h1];exact h2
theorem qDX:Et d ρ H n [] true true H:=by delta Et;rfl
theorem Et_no:Et d ρ H n es false false H:=by delta Et;rfl
theorem qB5(h1:Ev d ρ H n e (.bool q) H1)(h2:Et d ρ H1 n es p q H2):Et d ρ H n (e::es) p true H2:=by delta Ev Et at *;rw[if_pos rfl,qOa,h1];exact h2
theorem E_ite(h1:Ev d ρ H n e (.bool p) H1)(h2:Ei d ρ H1 n p a b v H2):Ev d ρ H (n+1) (.ite e a b) v H2:=by delta Ev Ei at *;rw[e_ite,h1];exact h2
theorem Ei_t(h:Ev d ρ H n a v H1):Ei d ρ H n true a b v H1:=by delta Ev Ei at *;exact h
theorem Ei_f(h:Ev d ρ H n b v H1):Ei d ρ H n false a b v H1:=by delta Ev Ei at *;exact h
theorem qHX:El d ρ H n [] [] H:=by delta El;rfl
theorem qGf(h1:Ev d ρ H n e v H1)(h2:El d ρ H1 n es vs H2):El d ρ H n (e::es) (v::vs) H2:=by delta Ev El at *;rw[qOb,h1,qA8,h2];rfl
theorem E_tup(h:El d ρ H n es vs H1):Ev d ρ H (n+1) (.tup es) (.tup vs) H1:=by delta Ev El at *;rw[e_tup,h];rfl
theorem E_lst(h:El d ρ H n es vs H1):Ev d ρ H (n+1) (.lst false es) (.lst vs) H1:=by delta Ev El at *;rw[e_lst,h];rfl
theorem qNq(h:El d ρ H n es vs H1):Ev d ρ H (n+1) (.lst true es) (.ref H1.length) (H1++[.list vs]):=by delta Ev El at *;rw[e_lst,h];rfl
theorem E_dct:Ev d ρ H (n+1) (.dct [] es) (.ref H.length) (H++[.dictI []]):=by delta Ev;rfl
theorem qQB{en}(h1:Ev d ρ H n o x H1)(h2:iterE en H1 x=some (xs,src))(h3:Lc d n elt t ifs H1 src ρ H1 xs vs H2):Ev d ρ H (n+1) (.comp false en elt t o ifs) (.lst vs) H2:=by delta Ev Lc at *;rw[qNh,h1,qA8,h2,qA8,h3];rfl
theorem qQ1{en}(h1:Ev d ρ H n o x H1)(h2:iterE en H1 x=some (xs,src))(h3:Lc d n elt t ifs H1 src ρ H1 xs vs H2):Ev d ρ H (n+1) (.comp true en elt t o ifs) (.ref H2.length) (H2++[.list vs]):=by delta Ev Lc at *;rw[qNh,h1,qA8,h2,qA8,h3];rfl
theorem qQ3(h:El d ρ H n es vs H1)(h2:Cl d H1 f vs v H2):Ev d ρ H (n+1) (.callF f es) v H2:=by delta Ev El Cl at *;rw[qOh,h];exact h2
theorem qQ2(h1:Ev d ρ H n o x H1)(h2:Em d ρ H1 n m es x v H2):Ev d ρ H (n+1) (.callM o m es) v H2:=by delta Ev Em at *;rw[qOg,h1];exact h2
theorem qPz(h2:mtOf PP c m=some f)(h3:qAo i m H=true)(h4:El d ρ H n es vs H2)(h5:Cl d H2 f (.inst c i::vs) v H3):Em d ρ H n m es (.inst c i) v H3:=by
 delta Em El Cl at *;rw[qHt,h2,Option.bind_some,h3,if_pos rfl,h4];exact h5
theorem qQA(h3:qBZ H i m=true)(h4:El d ρ H n es vs H2)(h5:qAg i m vs H2=some (v,H3)):Em d ρ H n m es (.ref i) v H3:=by
 delta Em El at *;rw[qJE,h3,if_pos rfl,h4];exact h5
theorem E_bi{bi tr}(h:El d ρ H n es vs H1)(h2:biAV bi tr vs H1=some (v,H2)):Ev d ρ H (n+1) (.bi bi tr es) v H2:=by delta Ev El at *;rw[e_bi,h];exact h2
theorem E_new(h1:mtOf PP c 6=some f)(h2:Cl d (H++[.ns []]) f [.inst c H.length] .none H1):Ev d ρ H (n+1) (.new c) (.inst c H.length) H1:=by delta Ev Cl at *;rw[e_new,h1,Option.bind_some,h2];rfl
theorem qQD(h1:Ev d ρ H n o x H1)(h2:qAB PP x m H1=some v):Ev d ρ H (n+1) (.attr o m) v H1:=by delta Ev at *;rw[qPV,h1,qA8,h2];rfl
theorem E_sub(h1:Ev d ρ H n a x H1)(h2:Ev d ρ H1 n b y H2)(h3:subAV x y H2=some z):Ev d ρ H (n+1) (.sub a b) z H2:=by delta Ev at *;rw[e_sub,h1,qA8,h2,qA8,h3];rfl
theorem qPx:Eu d ρ H n none none H:=by delta Eu;rfl
theorem qPw(h1:Ev d ρ H n e (.int I) H1)(h2:small I=true):Eu d ρ H n (some e) (some I) H1:=by delta Ev Eu at *;rw[qOC,h1,qA8,qLA,Option.bind_some,if_pos h2]
theorem qQ0{lo hi:Option CE}{A B:Option Int}(h1:Ev d ρ H n o x H1)(h2:Eu d ρ H1 n lo A H2)(h3:Eu d ρ H2 n hi B H3)(h4:qAH H3 x=some vs)(h5:qAW vs A B=us):Ev d ρ H (n+1) (.slice false o lo hi) (.lst us) H3:=by
 delta Ev Eu at *;rw[qLR,h1,qA8,h2,qA8,h3,qA8,h4,<-h5];rfl
theorem qPv{lo hi:Option CE}{A B:Option Int}(h1:Ev d ρ H n o x H1)(h2:Eu d ρ H1 n lo A H2)(h3:Eu d ρ H2 n hi B H3)(h4:qAH H3 x=some vs)(h5:qAW vs A B=us):Ev d ρ H (n+1) (.slice true o lo hi) (.ref H3.length) (H3++[.list us]):=by
 delta Ev Eu at *;rw[qLR,h1,qA8,h2,qA8,h3,qA8,h4,<-h5];rfl
theorem qM6(s:qAa H0 H src=true):Lc d n elt t ifs H0 src ρ H [] [] H:=by delta Lc;rw[qPa,s];rfl
theorem qM5(s:qAa H0 H src=true)(h1:qBS t x ρ=some ρ1)(h2:Et d ρ1 H n ifs true true H1)(h3:Ev d ρ1 H1 n elt v H2)(h4:Lc d n elt t ifs H0 src ρ1 H2 xs vs H3):Lc d n elt t ifs H0 src ρ H (x::xs) (v::vs) H3:=by
 delta Lc Et Ev at *;rw[if_pos rfl]at h2;rw[qLh,s,if_pos rfl,h1,Option.bind_some,h2,qA8,if_pos rfl,h3,qA8,h4];rfl
theorem qOu(s:qAa H0 H src=true)(h1:qBS t x ρ=some ρ1)(h2:Et d ρ1 H n ifs false true H1)(h4:Lc d n elt t ifs H0 src ρ1 H1 xs vs H3):Lc d n elt t ifs H0 src ρ H (x::xs) vs H3:=by
 delta Lc Et at *;rw[if_pos rfl]at h2;rw[qLh,s,if_pos rfl,h1,Option.bind_some,h2,qA8,if_neg Bool.false_ne_true,h4]
theorem qIw(s:qAa H0 H src=true):Lf d n t body H0 src ρ H [] .next ρ H:=by delta Lf;rw[qPT,s];rfl
theorem qM4(s:qAa H0 H src=true)(h1:qBS t x ρ=some ρ1)(h2:Ss d n ρ1 H body F1 ρ2 H1)(h3:Lx d n t body H0 src F1 ρ2 H1 xs F ρ' H'):Lf d n t body H0 src ρ H (x::xs) F ρ' H':=by
 delta Lf Ss Lx at *;rw[qOY,s,if_pos rfl,h1,Option.bind_some,h2,qDO];exact h3
theorem qOt(h:Lf d n t body H0 src ρ H xs F ρ' H'):Lx d n t body H0 src .next ρ H xs F ρ' H':=by delta Lx Lf at *;exact h
theorem qPo:Lx d n t body H0 src (.ret v) ρ H xs (.ret v) ρ H:=by delta Lx;rfl
theorem qCG(s:qAa H0 H src=true)(h1:qBS t x ρ=some ρ1)(h2:Ss d n ρ1 H body .next ρ' H1)(h3:Lf d n t body H0 src ρ' H1 xs F ρ2 H2):Lf d n t body H0 src ρ H (x::xs) F ρ2 H2:=qM4 s h1 h2 (qOt h3)
theorem qNp(s:qAa H0 H src=true)(h1:qBS t x ρ=some ρ1)(h2:Ss d n ρ1 H body (.ret v) ρ' H1):Lf d n t body H0 src ρ H (x::xs) (.ret v) ρ' H1:=qM4 s h1 h2 qPo
theorem qIv(h:Ev d ρ H 40 e (.bool false) H1):Lw d n e body (k+1) ρ H .next ρ H1:=by delta Lw Ev at *;rw[qHZ,h];rfl
theorem qGe(h:Ev d ρ H 40 e (.bool true) H1)(h2:Ss d n ρ H1 body .next ρ1 H2)(h3:Lw d n e body k ρ1 H2 F ρ' H'):Lw d n e body (k+1) ρ H F ρ' H':=by
 delta Lw Ev Ss at *;rw[qHZ,h,qA8,qCq,Option.bind_some,if_pos rfl,h2];exact h3
theorem qPp(h:Ev d ρ H 40 e (.bool true) H1)(h2:Ss d n ρ H1 body (.ret v) ρ1 H2):Lw d n e body (k+1) ρ H (.ret v) ρ1 H2:=by
 delta Lw Ev Ss at *;rw[qHZ,h,qA8,qCq,Option.bind_some,if_pos rfl,h2];rfl
theorem S_nil:Ss d n ρ H [] .next ρ H:=by delta Ss;rfl
theorem qPq(h:Ss d n ρ H l F ρ' H'):Kx d n l .next ρ H F ρ' H':=by delta Kx Ss at *;exact h
theorem K_ret:Kx d n l (.ret v) ρ H (.ret v) ρ H:=by delta Kx;rfl
theorem S_asg(h1:Ev d ρ H 40 e v H1)(h2:As d ρ H1 t v ρ1 H2)(h3:Ss d (n+1) ρ1 H2 l F ρ' H'):Ss d (n+1) ρ H (.asg t e::l) F ρ' H':=by
 delta Ss Ev As at *;rw[qC4,s_asg,h1,qA8,h2];exact h3
theorem S_ret(h1:Ev d ρ H 40 e v H1):Ss d (n+1) ρ H (.ret (some e)::l) (.ret v) ρ H1:=by delta Ss Ev at *;rw[qC4,s_ret,h1];rfl
theorem qQ6:Ss d (n+1) ρ H (.ret none::l) (.ret .none) ρ H:=by delta Ss;rfl
theorem qQ7(h1:Ev d ρ H 40 e v H1)(h3:Ss d (n+1) ρ H1 l F ρ' H'):Ss d (n+1) ρ H (.expr e::l) F ρ' H':=by delta Ss Ev at *;rw[qC4,qP9,h1];exact h3
theorem S_ife(h1:Ev d ρ H 40 e (.bool p) H1)(h2:Sx d n ρ H1 p body r F1 ρ1 H2)(h3:Kx d (n+1) l F1 ρ1 H2 F ρ' H'):Ss d (n+1) ρ H (.ife e body r::l) F ρ' H':=by
 delta Ss Ev Sx Kx at *;rw[qC4,s_ife,h1,qA8,qCq,Option.bind_some,h2,qDO];exact h3
theorem Sx_t(h:Ss d n ρ H l F ρ' H'):Sx d n ρ H true l r F ρ' H':=by delta Sx Ss at *;exact h
theorem Sx_f(h:Ss d n ρ H r F ρ' H'):Sx d n ρ H false l r F ρ' H':=by delta Sx Ss at *;exact h
theorem S_for{en}(h1:Ev d ρ H 40 e x H1)(h2:iterE en H1 x=some (xs,src))(h3:Lf d n t body H1 src ρ H1 xs F1 ρ1 H2)(h4:Kx d (n+1) l F1 ρ1 H2 F ρ' H'):Ss d (n+1) ρ H (.for en t e body::l) F ρ' H':=by
 delta Ss Ev Lf Kx at *;rw[qC4,s_for,h1,qA8,h2,qA8,h3,qDO];exact h4
theorem S_whl(h3:Lw d n e body 1000 ρ H F1 ρ1 H2)(h4:Kx d (n+1) l F1 ρ1 H2 F ρ' H'):Ss d (n+1) ρ H (.whl e body::l) F ρ' H':=by
 delta Ss Lw Kx at *;rw[qC4,s_whl,h3,qDO];exact h4
theorem qQG:As d ρ H (.name k) v (upd k v ρ) H:=by delta As;rfl
theorem qQH(h1:Ev d ρ H 40 o x H1)(h2:qB0 PP x m v H1=some H2):As d ρ H (.attr o m) v ρ H2:=by delta As Ev at *;rw[qOq,qNo,h1,qA8,h2];rfl
theorem A_sub(h1:Ev d ρ H 40 o x H1)(h2:Ev d ρ H1 40 e y H2)(h3:qAu x y v H2=some H3):As d ρ H (.sub o e) v ρ H3:=by delta As Ev at *;rw[qPg,a_sub,h1,qA8,h2,qA8,h3];rfl
theorem A_tup(h:Ah d ρ H ts vs ρ' H'):As d ρ H (.tup ts) (.tup vs) ρ' H':=by delta As Ah at *;exact h
theorem qQF:Ah d ρ H [] [] ρ H:=by delta Ah;rfl
theorem qQ4(h:Ah d (upd k v ρ) H ts vs ρ' H'):Ah d ρ H (.name k::ts) (v::vs) ρ' H':=by delta Ah at *;exact h
theorem qQ5(h1:Ev d ρ H 40 o x H1)(h2:qB0 PP x m v H1=some H2)(h:Ah d ρ H2 ts vs ρ' H'):Ah d ρ H (.attr o m::ts) (v::vs) ρ' H':=by delta Ah Ev at *;rw[qM2,qNo,h1,qA8,h2];exact h
theorem qQE(h1:Ev d ρ H 40 o x H1)(h2:Ev d ρ H1 40 e y H2)(h3:qAu x y v H2=some H3)(h:Ah d ρ H3 ts vs ρ' H'):Ah d ρ H (.sub o e::ts) (v::vs) ρ' H':=by delta Ah Ev at *;rw[qM2,a_sub,h1,qA8,h2,qA8,h3];exact h
theorem C_imp{fn:FnC}(hl:PP.fns.lookup f=some fn)(hp:fn.pure=false)(hb:bindP fn.params fn.dflt vs=some ρ)(h:Ss d 20 ρ H fn.body F ρ' H')(hv:flVal F=v):Cl (d+1) H f vs v H':=by
 delta Cl Ss at *;rw[<-hv];exact qPe hl hp hb (by rw[h];rfl)
theorem qHY{fn:FnC}(hl:PP.fns.lookup f=some fn)(hp:fn.pure=true)(ha:qAk vs=true)(hb:bindP fn.params fn.dflt vs=some ρ)(h:Ss d 20 ρ [] fn.body F ρ' H')(hf:qBM [] H' (flVal F)=some v):Cl (d+1) H f vs v H:=by
 delta Cl Ss at *;exact qNj hl hp ha hb (by rw[h];rfl) hf
theorem qCH{fn:FnC}(hl:PP.fns.lookup f=some fn)(hp:fn.pure=true)(ha:qAk vs=false)(hb:bindP fn.params fn.dflt vs=some ρ)(h:Ss d 20 ρ H fn.body F ρ' H)(hf:qBM H H (flVal F)=some v):Cl (d+1) H f vs v H:=by
 delta Cl Ss at *;exact qPd hl hp ha hb (by rw[h];rfl) hf
theorem Cl_of(h:callF PP d f vs H=some (v,H')):Cl d H f vs v H':=by delta Cl;exact h
theorem Cl.out(h:Cl d H f vs v H'):callF PP d f vs H=some (v,H'):=by delta Cl at h;exact h
end
end
end Internal.L
end
section
set_option genSizeOf false
set_option genInjectivity false
namespace Internal.L
section
noncomputable def rowOf(is:List Int):List Int:=(is.take 60).map (· % 1000003)
noncomputable def LawAt(is:List Int):Prop:=is.length<=63->∃H',callF PP 14 43 [.lst (is.map .int)] []=some (.bool true,H')
@[irreducible] noncomputable def isC:List Int:=EE ⟨[]⟩ LawAt
noncomputable def rowC:List Int:=rowOf isC
@[irreducible] noncomputable def allC:Int:=((qC3 (rowC.map .int)).getD 0) % 997
noncomputable def kegC(t:Nat):AObj:=.dictS [(71,.int (t:Int)),(72,.lst (rowC.map .int)),(73,.int allC)]
@[irreducible] noncomputable def tapV(t m:Nat):Nat:=((match rowC[t]? with|some i=>i|none=>(((t:Int)+1)*((t:Int)+1)*3+((t:Int)+1)*7+allC) / 2) % (m:Int)).toNat
noncomputable def qB4(n:Nat):Dm:=match n with
 | 0=>15
 | 1=>11
 | 2=>14
 |_=>29
@[irreducible] noncomputable def FC(x:Fin 3):Dm:=qB4 (tapV x.val 4)
structure Ent where
 old:Dm
 lit:Lit
 why:Option (List Lit)
structure Bk where
 rows:List (List Lit)
 ca:Nat->Nat
 un:List Nat
 fr:List Nat
 ks:List (Fin 3)
 wt:Fin 3->List Nat
structure St where
 t:Nat
 D:Fin 3->Dm
 tr:List Ent
 lv:List Nat
 nw:List (Fin 3)
 fa:Bool
 cl:List Lit
 cs:List (List Lit)
 bk:Bool->Option Bk
 bb:Nat
 tm:Option (Nat×List AV)
structure Hid where
 ml:Nat
 nw:Nat
 fr:Bool->Nat
 w:Bool->Fin 3->Nat
noncomputable def whyAV:Option (List Lit)->AV
 |none=>.none
 |some r=>.tup (r.map lav)
noncomputable def entAV(e:Ent):AV:=.tup [.int (e.lit.1.val:Int),dom e.old,lav e.lit,whyAV e.why,.int (-1)]
noncomputable def nsAV(ns:List Nat):List AV:=ns.map fun(n:Nat)=>AV.int (n:Int)
noncomputable def clAV(c:List Lit):AV:=.tup (c.map lav)
noncomputable def l3{α:Type}(f:Fin 3->α):List α:=[f 0,f 1,f 2]
noncomputable def stF(mk nw:Nat)(fa:Bool)(cl:List Lit):List (Nat×AV):=[(57,.ref 2),(58,.ref 3),(27,.ref 4),(59,.ref mk),(60,.ref nw),(61,.int (-1)),(62,.bool fa),(63,clAV cl)]
noncomputable def bkF(b fr:Nat):List (Nat×AV):=[(30,.ref (b+1)),(31,.ref (b+2)),(32,.ref fr),(33,.ref (b+4))]
inductive Bl where
 |ns|cl|un|fr|wt
 |row (n:Nat)|wl (x:Fin 3)
inductive Sl where
 |keg|sns|dms|fst|trl|mks|nws|flo|cls|tmp
 |bk (k:Bool) (i:Bl)
noncomputable def bs(bb:Nat)(k:Bool):Nat:=bif k then bb else 7
noncomputable def adrB(b:Nat)(fr:Nat)(w:Fin 3->Nat)(o:Option Bk):Bl->Nat
 |.ns=>b|.cl=>b+1|.un=>b+2|.fr=>fr|.wt=>b+4
 |.row n=>(o.map fun B=>B.ca n).getD 0
 |.wl x=>w x
noncomputable def adr(st:St)(h:Hid):Sl->Nat
 |.keg=>0|.sns=>1|.dms=>2|.fst=>3|.trl=>4|.mks=>h.ml|.nws=>h.nw|.flo=>12|.cls=>13|.tmp=>(st.tm.map (·.1)).getD 0
 |.bk k i=>adrB (bs st.bb k) (h.fr k) (h.w k) (st.bk k) i
noncomputable def watI(ks:List (Fin 3))(w:Fin 3->Nat):List (Int×AV):=ks.map fun x=>((x.val:Int),AV.ref (w x))
noncomputable def newsI(nw:List (Fin 3)):List (Int×AV):=nw.map fun x=>((x.val:Int),AV.bool true)
noncomputable def qBH(n:Nat)(ca:Nat->Nat):List AV:=(List.range n).map fun i=>.ref (ca i)
noncomputable def objB(b:Nat)(fr:Nat)(w:Fin 3->Nat)(o:Option Bk):Bl->Option AObj
 |.ns=>o.map fun _=>.ns (bkF b fr)
 |.cl=>o.map fun B=>.list (qBH B.rows.length B.ca)
 |.un=>o.map fun B=>.list (nsAV B.un)
 |.fr=>o.map fun B=>.list (nsAV B.fr)
 |.wt=>o.map fun B=>.dictI (watI B.ks w)
 |.row n=>o.bind fun B=>(B.rows[n]?).map fun r=>.list (r.map lav)
 |.wl x=>o.bind fun B=>if x∈B.ks then some (.list (nsAV (B.wt x)))else none
noncomputable def obj(st:St)(h:Hid):Sl->Option AObj
 |.keg=>some (kegC st.t)
 |.sns=>some (.ns (stF h.ml h.nw st.fa st.cl))
 |.dms=>some (.list (l3 fun x=>dom (st.D x)))
 |.fst=>some (.list (l3 fun x=>dom (FC x)))
 |.trl=>some (.list (st.tr.map entAV))
 |.mks=>some (.list (nsAV st.lv))
 |.nws=>some (.dictI (newsI st.nw))
 |.flo=>some (.list (l3 fun x=>lot (FC x)))
 |.cls=>some (.list (st.cs.map clAV))
 |.tmp=>st.tm.map fun p=>.list p.2
 |.bk k i=>objB (bs st.bb k) (h.fr k) (h.w k) (st.bk k) i
structure R (st:St) (h:Hid) (H:AHeap):Prop where
 at_:∀s ob,obj st h s=some ob->H[adr st h s]?=some ob
 inj:∀s s',(obj st h s).isSome->(obj st h s').isSome->adr st h s=adr st h s'->s=s'
noncomputable def Rep(st:St)(H:AHeap):Prop:=∃h,R st h H
section
variable{st st':St}{h h':Hid}{H:AHeap}{s s0:Sl}{ob ob0:AObj}
theorem qCa{α:Type}{o:Option α}{a:α}(e:o=some a):o.isSome:=by rw[e];rfl
theorem qOR{α:Type}{o:Option α}(e:o.isSome):∃a,o=some a:=Option.isSome_iff_exists.mp e
noncomputable def cell(st:St)(h:Hid)(s:Sl):Nat×Option AObj:=(adr st h s,obj st h s)
noncomputable def Mv(st:St)(h:Hid)(st':St)(h':Hid)(n:Nat)(s0:Sl)(L:List AObj)(inv:Nat->Sl)(s':Sl):Prop:=(obj st' h' s').isSome->s'=s0\/cell st' h' s'=cell st h s'\/∃i,inv i=s'/\cell st' h' s'=(n+i,L[i]?)
theorem Mv.here{n:Nat}{L:List AObj}{inv:Nat->Sl}:Mv st h st' h' n s0 L inv s0:=fun _=>.inl rfl
theorem Mv.same{n:Nat}{L:List AObj}{inv:Nat->Sl}(e:cell st' h' s=cell st h s):Mv st h st' h' n s0 L inv s:=fun _=>.inr (.inl e)
theorem Mv.new{n:Nat}{L:List AObj}{inv:Nat->Sl}(i:Nat)(e:inv i=s)(e2:cell st' h' s=(n+i,L[i]?)):Mv st h st' h' n s0 L inv s:=fun _=>.inr (.inr ⟨i,e,e2⟩)
theorem Mv.dead{n:Nat}{L:List AObj}{inv:Nat->Sl}(e:obj st' h' s=none):Mv st h st' h' n s0 L inv s:=fun i=>by rw[e]at i;cases i
theorem Mv.at_{n:Nat}{L:List AObj}{inv:Nat->Sl}(o:∀s,Mv st h st' h' n s0 L inv s)(hs:(obj st h s0).isSome)(a0:adr st' h' s0=adr st h s0)(s':Sl)(z:(obj st' h' s').isSome):((obj st h s').isSome/\adr st' h' s'=adr st h s')\/∃i,inv i=s'/\adr st' h' s'=n+i :=
 (o s' z).elim (fun y=>.inl (y▸⟨hs,a0⟩)) fun y=>y.elim (fun y=>.inl ⟨(Prod.mk.inj y).2▸z,(Prod.mk.inj y).1⟩) fun⟨i,y⟩=>.inr ⟨i,y.1,(Prod.mk.inj y.2).1⟩
theorem R.mov(r:R st h H)(hs:(obj st h s0).isSome)(L:List AObj)(inv:Nat->Sl)(e0:obj st' h' s0=some ob0)(a0:adr st' h' s0=adr st h s0)(o:∀s,Mv st h st' h' H.length s0 L inv s):R st' h' ((H++L).set (adr st h s0) ob0):=by
 have lt:∀s',(obj st h s').isSome->adr st h s'<H.length:=fun s' q=>(qOR q).elim fun _ e=>qC7 (r.at_ _ _ e)
 refine⟨fun s' ob' e=>?_,fun s1 s2 i1 i2 z=>?_⟩
 .by_cases n:s'=s0
  .subst n
   rw[a0,<-Option.some.inj (e0.symm.trans e)]
   refine List.getElem?_set_self ?_
   rw[List.length_append];exact Nat.lt_add_right _ (lt _ hs)
  .rcases (o s' (qCa e)).resolve_left n with y|⟨i,y⟩
   .have y:=Prod.mk.inj y
    have w:=y.2▸qCa e
    rw[y.1,qES fun z=>n (r.inj _ _ hs w z).symm,List.getElem?_append_left (lt _ w)]
    exact r.at_ _ _ (y.2▸e)
   .have y:=Prod.mk.inj y.2
    rw[y.1,qES fun z=>absurd (lt _ hs) (Nat.not_lt_of_le (Nat.le_trans (Nat.le_add_right _ i) (Nat.le_of_eq z.symm))),List.getElem?_append_right (Nat.le_add_right _ _),Nat.add_sub_cancel_left,<-y.2];exact e
 .rcases Mv.at_ o hs a0 s1 i1 with y1|⟨i,y1⟩<;>rcases Mv.at_ o hs a0 s2 i2 with y2|⟨j,y2⟩
  .exact r.inj _ _ y1.1 y2.1 (by rw[<-y1.2,<-y2.2,z])
  .exact absurd (lt _ y1.1) (by rw[<-y1.2,z,y2.2];exact Nat.not_lt_of_le (Nat.le_add_right _ _))
  .exact absurd (lt _ y2.1) (by rw[<-y2.2,<-z,y1.2];exact Nat.not_lt_of_le (Nat.le_add_right _ _))
  .rw [<-y1.1,<-y2.1,Nat.add_left_cancel (y1.2.symm.trans (z.trans y2.2))]
theorem R.put(r:R st h H)(hs:(obj st h s0).isSome)(e0:obj st' h' s0=some ob0)(a0:adr st' h' s0=adr st h s0)(o:∀s,Mv st h st' h' H.length s0 [] (fun _=>s0) s):R st' h' (H.set (adr st h s0) ob0):=by
 have:=r.mov hs [] _ e0 a0 o
 rw[List.append_nil]at this
 exact this
theorem R.app(r:R st h H)(L:List AObj)(inv:Nat->Sl)(e0:obj st h s0=some ob0)(e1:obj st' h' s0=some ob0)(a0:adr st' h' s0=adr st h s0)(o:∀s,Mv st h st' h' H.length s0 L inv s):R st' h' (H++L):=by
 have:=r.mov (qCa e0) L inv e1 a0 o
 have z:(H++L)[adr st h s0]?=some ob0:=(List.getElem?_append_left (qC7 (r.at_ _ _ e0))).trans (r.at_ _ _ e0)
 obtain⟨hl,z⟩:=List.getElem?_eq_some_iff.mp z
 rw[<-z,List.set_getElem_self]at this
 exact this
theorem R.junk(r:R st h H)(ob:AObj):R st h (H++[ob]):=⟨fun s' ob' e'=>qBU (r.at_ s' ob' e'),r.inj⟩
theorem R.sub(r:R st h H)(o:∀s,obj st' h' s=none\/cell st' h' s=cell st h s):R st' h' H:=by
 have o:∀s,(obj st' h' s).isSome->adr st' h' s=adr st h s/\obj st' h' s=obj st h s:=fun s i=>Prod.mk.inj ((o s).resolve_left fun e=>by rw[e]at i;cases i)
 refine⟨fun s ob e=>?_,fun s s' i j q=>?_⟩
 .obtain ⟨z,q⟩:=o s (qCa e);rw[z];exact r.at_ _ _ (q▸e)
 .obtain ⟨z,y⟩:=o s i
  obtain⟨z',y'⟩:=o s' j
  exact r.inj _ _ (y▸i) (y'▸j) (by rw[<-z,<-z',q])
end
end
end Internal.L
end
section
namespace Internal.L
section
noncomputable def St.sT(st:St)(x:Nat):St:={ st with t:=x }
noncomputable def St.sD(st:St)(x:Fin 3->Dm):St:={ st with D:=x }
noncomputable def St.sTr(st:St)(x:List Ent):St:={ st with tr:=x }
noncomputable def St.sLv(st:St)(x:List Nat):St:={ st with lv:=x }
noncomputable def St.sNw(st:St)(x:List (Fin 3)):St:={ st with nw:=x }
noncomputable def St.sFa(st:St)(x:Bool):St:={ st with fa:=x }
noncomputable def St.sCl(st:St)(x:List Lit):St:={ st with cl:=x }
noncomputable def St.sCs(st:St)(x:List (List Lit)):St:={ st with cs:=x }
noncomputable def St.sTm(st:St)(x:Option (Nat×List AV)):St:={ st with tm:=x }
noncomputable def St.sB(st:St)(k:Bool)(B:Bk):St:={ st with bk:=fun j=>if j=k then some B else st.bk j }
noncomputable def setF{α:Type}(f:Fin 3->α)(x:Fin 3)(v:α):Fin 3->α:=fun y=>if y=x then v else f y
noncomputable def setN{α:Type}(f:Nat->α)(x:Nat)(v:α):Nat->α:=fun y=>if y=x then v else f y
section
variable{st st':St}{H:AHeap}{k:Bool}{B B':Bk}{h h':Hid}{n:Nat}{x:Fin 3}{r:List Lit}{ob:AObj}
theorem sB_at:(st.sB k B).bk k=some B:=if_pos rfl
theorem fin3{P:Fin 3->Prop}(h0:P 0)(h1:P 1)(h2:P 2)(x:Fin 3):P x:=Fin.cases h0 (fun y=>Fin.cases (motive:=fun y=>P y.succ) h1 (fun z=>Fin.cases (motive:=fun z=>P z.succ.succ) h2 (fun w=>w.elim0) z) y) x
theorem l3_at{α:Type}(f:Fin 3->α):∀x:Fin 3,(l3 f)[x.val]?=some (f x):=fin3 rfl rfl rfl
theorem qL1{α β:Type}(g:α->β)(f:Fin 3->α)(v:α):∀x:Fin 3,(l3 fun y=>g (f y)).set x.val (g v)=l3 fun y=>g (setF f x v y):=fin3 rfl rfl rfl
theorem Rep.ns(R:Rep st H):∃ml nw,H[1]?=some (.ns (stF ml nw st.fa st.cl)):=R.elim fun h r=>⟨h.ml,h.nw,r.at_ .sns _ rfl⟩
theorem Rep.ga(R:Rep st H){a:Nat}{v:AV}(q:qDQ PP 1 a=true)(e:∀ml nw,(stF ml nw st.fa st.cl).lookup a=some v):qAB PP (.inst 1 1) a H=some v:=by
 obtain⟨ml,nw,z⟩:=R.ns
 rw[qBL z q,e]
theorem Rep.g57(R:Rep st H):qAB PP (.inst 1 1) 57 H=some (.ref 2):=R.ga rfl fun _ _=>rfl
theorem Rep.g58(R:Rep st H):qAB PP (.inst 1 1) 58 H=some (.ref 3):=R.ga rfl fun _ _=>rfl
theorem Rep.g27(R:Rep st H):qAB PP (.inst 1 1) 27 H=some (.ref 4):=R.ga rfl fun _ _=>rfl
theorem Rep.g61(R:Rep st H):qAB PP (.inst 1 1) 61 H=some (.int (-1)):=R.ga rfl fun _ _=>rfl
theorem Rep.g62(R:Rep st H):qAB PP (.inst 1 1) 62 H=some (.bool st.fa):=R.ga rfl fun _ _=>rfl
theorem Rep.g63(R:Rep st H):qAB PP (.inst 1 1) 63 H=some (clAV st.cl):=R.ga rfl fun _ _=>rfl
theorem Rep.na(R:Rep st H){a:Nat}(e:∀ml nw fa cl,(stF ml nw fa cl).lookup a=none):qAo 1 a H=true:=R.ns.elim fun _ z=>z.elim fun _ z=>qKg z (e _ _ _ _)
theorem Rep.l2(R:Rep st H):H[2]?=some (.list (l3 fun x=>dom (st.D x))):=R.elim fun h r=>r.at_ .dms _ rfl
theorem Rep.l3_(R:Rep st H):H[3]?=some (.list (l3 fun x=>dom (FC x))):=R.elim fun h r=>r.at_ .fst _ rfl
theorem Rep.l4(R:Rep st H):H[4]?=some (.list (st.tr.map entAV)):=R.elim fun h r=>r.at_ .trl _ rfl
theorem Rep.l12(R:Rep st H):H[12]?=some (.list (l3 fun x=>lot (FC x))):=R.elim fun h r=>r.at_ .flo _ rfl
theorem Rep.l13(R:Rep st H):H[13]?=some (.list (st.cs.map clAV)):=R.elim fun h r=>r.at_ .cls _ rfl
theorem Rep.l0(R:Rep st H):H[0]?=some (kegC st.t):=R.elim fun h r=>r.at_ .keg _ rfl
theorem Rep.tap(R:Rep st H)(t:Nat):Rep (st.sT t) (H.set 0 (kegC t)):=R.elim fun h r=>⟨h,r.put (s0:=.keg) rfl rfl rfl fun s'=>by cases s'<;>first|exact .here|exact .same rfl⟩
theorem Rep.trl(R:Rep st H)(tr:List Ent):Rep (st.sTr tr) (H.set 4 (.list (tr.map entAV))):=R.elim fun h r=>⟨h,r.put (s0:=.trl) rfl rfl rfl fun s'=>by cases s'<;>first|exact .here|exact .same rfl⟩
theorem Rep.dms(R:Rep st H)(D:Fin 3->Dm):Rep (st.sD D) (H.set 2 (.list (l3 fun x=>dom (D x)))):=R.elim fun h r=>⟨h,r.put (s0:=.dms) rfl rfl rfl fun s'=>by cases s'<;>first|exact .here|exact .same rfl⟩
theorem Rep.cls(R:Rep st H)(cs:List (List Lit)):Rep (st.sCs cs) (H.set 13 (.list (cs.map clAV))):=R.elim fun h r=>⟨h,r.put (s0:=.cls) rfl rfl rfl fun s'=>by cases s'<;>first|exact .here|exact .same rfl⟩
theorem Rep.fa(R:Rep st H)(b:Bool):∃H',qB0 PP (.inst 1 1) 62 (.bool b) H=some H'/\Rep (st.sFa b) H':=R.elim fun h r=>⟨_,qBu (r.at_ .sns _ rfl) rfl (show(8:Nat)<900 by decide),h,r.put (s0:=.sns) rfl rfl rfl fun s'=>by cases s'<;>first|exact .here|exact .same rfl⟩
theorem Rep.cl(R:Rep st H)(c:List Lit):∃H',qB0 PP (.inst 1 1) 63 (clAV c) H=some H'/\Rep (st.sCl c) H':=R.elim fun h r=>⟨_,qBu (r.at_ .sns _ rfl) rfl (show(8:Nat)<900 by decide),h,r.put (s0:=.sns) rfl rfl rfl fun s'=>by cases s'<;>first|exact .here|exact .same rfl⟩
theorem Rep.nw0(R:Rep st H):∃H',qB0 PP (.inst 1 1) 60 (.ref H.length) (H++[.dictI []])=some H'/\Rep (st.sNw []) H':=R.elim fun h r=>⟨_,qBu (qBU (r.at_ .sns _ rfl)) rfl (show(8:Nat)<900 by decide),⟨h.ml,H.length,h.fr,h.w⟩,
 r.mov (s0:=.sns) rfl [.dictI []] (fun _=>.nws) rfl rfl fun s'=>by cases s'<;>first|exact .here|exact .same rfl|exact .new 0 rfl rfl⟩
theorem Rep.lv0(R:Rep st H)(m:List Nat):∃H',qB0 PP (.inst 1 1) 59 (.ref H.length) (H++[.list (nsAV m)])=some H'/\Rep (st.sLv m) H':=R.elim fun h r=>⟨_,qBu (qBU (r.at_ .sns _ rfl)) rfl (show(8:Nat)<900 by decide),⟨H.length,h.nw,h.fr,h.w⟩,
 r.mov (s0:=.sns) rfl [.list (nsAV m)] (fun _=>.mks) rfl rfl fun s'=>by cases s'<;>first|exact .here|exact .same rfl|exact .new 0 rfl rfl⟩
theorem Rep.lv(R:Rep st H):∃a,qAB PP (.inst 1 1) 59 H=some (.ref a)/\H[a]?=some (.list (nsAV st.lv))/\∀m,Rep (st.sLv m) (H.set a (.list (nsAV m))):=R.elim fun h r=>⟨h.ml,qBL (r.at_ .sns _ rfl) rfl,r.at_ .mks _ rfl,
 fun m=>⟨h,r.put (s0:=.mks) rfl rfl rfl fun s'=>by cases s'<;>first|exact .here|exact .same rfl⟩⟩
theorem Rep.nw(R:Rep st H):∃a,qAB PP (.inst 1 1) 60 H=some (.ref a)/\H[a]?=some (.dictI (newsI st.nw))/\∀m,Rep (st.sNw m) (H.set a (.dictI (newsI m))):=R.elim fun h r=>⟨h.nw,qBL (r.at_ .sns _ rfl) rfl,r.at_ .nws _ rfl,
 fun m=>⟨h,r.put (s0:=.nws) rfl rfl rfl fun s'=>by cases s'<;>first|exact .here|exact .same rfl⟩⟩
theorem Rep.tm0(R:Rep st H)(vs:List AV):Rep (st.sTm (some (H.length,vs))) (H++[.list vs]):=R.elim fun h r=>⟨h,r.app [.list vs] (fun _=>.tmp) (s0:=.keg) rfl rfl rfl fun s'=>by cases s'<;>first|exact .same rfl|exact .new 0 rfl rfl⟩
theorem Rep.tmd(R:Rep st H):Rep (st.sTm none) H:=R.elim fun h r=>⟨h,r.sub fun s=>by cases s<;>first|exact .inl rfl|exact .inr rfl⟩
theorem Rep.tm(R:Rep st H){a:Nat}{vs:List AV}(e:st.tm=some (a,vs)):H[a]?=some (.list vs)/\∀us,Rep (st.sTm (some (a,us))) (H.set a (.list us)):=R.elim fun h r=>by
 have e1:obj st h .tmp=some (.list vs):=by show st.tm.map _=_;rw[e];rfl
 have e2:adr st h .tmp=a:=by show(st.tm.map _).getD 0=_;rw[e];rfl
 refine⟨e2▸r.at_ .tmp _ e1,fun us=>⟨h,?_⟩⟩
 have:=r.put (st':=st.sTm (some (a,us))) (h':=h) (ob0:=.list us) (qCa e1) rfl e2.symm fun s'=>by cases s'<;>first|exact .here|exact .same rfl
 rw[e2]at this
 exact this
end
end
section
section
variable{st st':St}{H:AHeap}{k:Bool}{B B':Bk}{h h':Hid}{n:Nat}{x:Fin 3}{r:List Lit}{ob:AObj}{i j:Bl}{b fr fr':Nat}{w w':Fin 3->Nat}{L:List AObj}{inv:Nat->Bl}{m a:Nat}{ca:Nat->Nat}
noncomputable def cellB(b fr:Nat)(w:Fin 3->Nat)(B:Bk)(i:Bl):Nat×Option AObj:=(adrB b fr w (some B) i,objB b fr w (some B) i)
noncomputable def MvB(b fr:Nat)(w:Fin 3->Nat)(B:Bk)(fr':Nat)(w':Fin 3->Nat)(B':Bk)(n:Nat)(i:Bl)(L:List AObj)(inv:Nat->Bl)(j:Bl):Prop :=
 (objB b fr' w' (some B') j).isSome->j=i\/cellB b fr' w' B' j=cellB b fr w B j\/∃m,inv m=j/\cellB b fr' w' B' j=(n+m,L[m]?)
theorem MvB.here:MvB b fr w B fr' w' B' n i L inv i:=fun _=>.inl rfl
theorem MvB.same(e:cellB b fr' w' B' j=cellB b fr w B j):MvB b fr w B fr' w' B' n i L inv j:=fun _=>.inr (.inl e)
theorem MvB.new(m:Nat)(e:inv m=j)(e2:cellB b fr' w' B' j=(n+m,L[m]?)):MvB b fr w B fr' w' B' n i L inv j:=fun _=>.inr (.inr ⟨m,e,e2⟩)
theorem MvB.dead(e:objB b fr' w' (some B') j=none):MvB b fr w B fr' w' B' n i L inv j:=fun i=>by rw[e]at i;cases i
theorem qF8(hb:st.bk k=some B):cell st h (.bk k i)=cellB (bs st.bb k) (h.fr k) (h.w k) B i:=by show(adrB _ _ _ (st.bk k) i,objB _ _ _ (st.bk k) i)=_;rw[hb];rfl
theorem R.at_bk(r:R st h H)(hb:st.bk k=some B)(i:Bl)(e:objB (bs st.bb k) (h.fr k) (h.w k) (some B) i=some ob):H[adrB (bs st.bb k) (h.fr k) (h.w k) (some B) i]?=some ob:=by
 have z:=Prod.mk.inj (qF8 (h:=h) (i:=i) hb)
 rw[<-z.1];exact r.at_ (.bk k i) ob (z.2.trans e)
noncomputable def Hid.sB(h:Hid)(k:Bool)(fr:Nat)(w:Fin 3->Nat):Hid:=⟨h.ml,h.nw,fun j=>if j=k then fr else h.fr j,fun j=>if j=k then w else h.w j⟩
theorem qF7:cell (st.sB k B) (h.sB k fr w) (.bk k i)=cellB (bs st.bb k) fr w B i:=by
 show(adrB (bs st.bb k) (if k=k then fr else h.fr k) (if k=k then w else h.w k) (if k=k then some B else st.bk k) i,objB (bs st.bb k) (if k=k then fr else h.fr k) (if k=k then w else h.w k) (if k=k then some B else st.bk k) i)=_
 rw[if_pos rfl,if_pos rfl,if_pos rfl];rfl
theorem mv_of(hb:st.bk k=some B)(o:∀j,MvB (bs st.bb k) (h.fr k) (h.w k) B fr w B' n i L inv j)(s:Sl):Mv st h (st.sB k B') (h.sB k fr w) n (.bk k i) L (fun m=>.bk k (inv m)) s:=by
 cases s with
 |bk k' j =>
  by_cases q:k'=k
  .subst q
   intro z
   rw[qF7,qF8 hb]
   rw[(Prod.mk.inj (qF7 (st:=st) (h:=h) (B:=B') (fr:=fr) (w:=w) (i:=j) (k:=k'))).2]at z
   rcases o j z with z|z|⟨m,z⟩
   .exact .inl (z▸rfl)
   .exact .inr (.inl z)
   .exact .inr (.inr ⟨m,z.1▸rfl,z.2⟩)
  .refine .same ?_
   show(adrB _ (if k'=k then fr else h.fr k') (if k'=k then w else h.w k') (if k'=k then some B' else st.bk k') j,objB _ (if k'=k then fr else h.fr k') (if k'=k then w else h.w k') (if k'=k then some B' else st.bk k') j)=_
   rw[if_neg q,if_neg q,if_neg q];rfl
 |_=>exact .same rfl
theorem R.movB(r:R st h H)(hb:st.bk k=some B)(L:List AObj)(inv:Nat->Bl)(i:Bl)(fr:Nat)(w:Fin 3->Nat)(hs:(objB (bs st.bb k) (h.fr k) (h.w k) (some B) i).isSome)(e0:objB (bs st.bb k) fr w (some B') i=some ob)
 (a0:adrB (bs st.bb k) fr w (some B') i=adrB (bs st.bb k) (h.fr k) (h.w k) (some B) i)(o:∀j,MvB (bs st.bb k) (h.fr k) (h.w k) B fr w B' H.length i L inv j):R (st.sB k B') (h.sB k fr w) ((H++L).set (adrB (bs st.bb k) (h.fr k) (h.w k) (some B) i) ob):=by
 have z:=Prod.mk.inj (qF8 (h:=h) (i:=i) hb)
 have z':=Prod.mk.inj (qF7 (st:=st) (h:=h) (B:=B') (fr:=fr) (w:=w) (i:=i) (k:=k))
 rw[<-z.1]
 exact r.mov (by rw[z.2];exact hs) L _ (z'.2.trans e0) (z'.1.trans (a0.trans z.1.symm)) (mv_of hb o)
theorem R.putB(r:R st h H)(hb:st.bk k=some B)(i:Bl)(hs:(objB (bs st.bb k) (h.fr k) (h.w k) (some B) i).isSome)(e0:objB (bs st.bb k) (h.fr k) (h.w k) (some B') i=some ob)
 (a0:adrB (bs st.bb k) (h.fr k) (h.w k) (some B') i=adrB (bs st.bb k) (h.fr k) (h.w k) (some B) i)(o:∀j,MvB (bs st.bb k) (h.fr k) (h.w k) B (h.fr k) (h.w k) B' H.length i [] (fun _=>i) j):R (st.sB k B') (h.sB k (h.fr k) (h.w k)) (H.set (adrB (bs st.bb k) (h.fr k) (h.w k) (some B) i) ob):=by
 have:=r.movB hb [] _ i _ _ hs e0 a0 o
 rw[List.append_nil]at this
 exact this
theorem Rep.bns(R:Rep st H)(hb:st.bk k=some B):∃fr,H[bs st.bb k]?=some (.ns (bkF (bs st.bb k) fr)):=R.elim fun h r=>⟨_,r.at_bk hb .ns rfl⟩
theorem Rep.g30(R:Rep st H)(hb:st.bk k=some B)(e:b=bs st.bb k):qAB PP (.inst 0 b) 30 H=some (.ref (b+1)):=e▸(R.bns hb).elim fun _ e=>qBL e rfl
theorem Rep.g31(R:Rep st H)(hb:st.bk k=some B)(e:b=bs st.bb k):qAB PP (.inst 0 b) 31 H=some (.ref (b+2)):=e▸(R.bns hb).elim fun _ e=>qBL e rfl
theorem Rep.g33(R:Rep st H)(hb:st.bk k=some B)(e:b=bs st.bb k):qAB PP (.inst 0 b) 33 H=some (.ref (b+4)):=e▸(R.bns hb).elim fun _ e=>qBL e rfl
theorem Rep.nb(R:Rep st H)(hb:st.bk k=some B)(e:b=bs st.bb k){a:Nat}(q:∀b fr,(bkF b fr).lookup a=none):qAo b a H=true:=e▸(R.bns hb).elim fun _ z=>qKg z (q _ _)
theorem Rep.lcl(R:Rep st H)(hb:st.bk k=some B):H[bs st.bb k+1]?=some (.list (qBH B.rows.length B.ca)):=R.elim fun _ r=>r.at_bk hb .cl rfl
theorem Rep.lun(R:Rep st H)(hb:st.bk k=some B):H[bs st.bb k+2]?=some (.list (nsAV B.un)):=R.elim fun _ r=>r.at_bk hb .un rfl
theorem Rep.lrow(R:Rep st H)(hb:st.bk k=some B)(hr:B.rows[n]?=some r):H[B.ca n]?=some (.list (r.map lav)):=R.elim fun _ z=>z.at_bk hb (.row n) (congrArg (Option.map fun r:List Lit=>AObj.list (r.map lav)) hr)
theorem Rep.bfr(R:Rep st H)(hb:st.bk k=some B):∃a,qAB PP (.inst 0 (bs st.bb k)) 32 H=some (.ref a)/\H[a]?=some (.list (nsAV B.fr))/\∀m,Rep (st.sB k { B with fr:=m }) (H.set a (.list (nsAV m))):=R.elim fun h r=>⟨h.fr k,qBL (r.at_bk hb .ns rfl) rfl,r.at_bk hb .fr rfl,fun m =>
 ⟨_,r.putB (B':={ B with fr:=m }) hb .fr rfl rfl rfl fun j=>by cases j<;>first|exact .here|exact .same rfl⟩⟩
theorem Rep.un(R:Rep st H)(hb:st.bk k=some B)(m:List Nat):Rep (st.sB k { B with un:=m }) (H.set (bs st.bb k+2) (.list (nsAV m))):=R.elim fun h r=>⟨_,r.putB (B':={ B with un:=m }) hb .un rfl rfl rfl fun j=>by cases j<;>first|exact .here|exact .same rfl⟩
theorem qBk:(qBH n ca).length=n:=by unfold qBH;rw[List.length_map,List.length_range]
theorem qCx{α:Type}{f:Nat->α}{n:Nat}{v:α}:setN f n v n=v:=if_pos rfl
theorem qG0{α:Type}{f:Nat->α}{n m:Nat}{v:α}(h:m≠n):setN f n v m=f m:=if_neg h
theorem qAF{α:Type}{f:Fin 3->α}{n:Fin 3}{v:α}:setF f n v n=v:=if_pos rfl
theorem qAG{α:Type}{f:Fin 3->α}{n m:Fin 3}{v:α}(h:m≠n):setF f n v m=f m:=if_neg h
theorem qHm(hm:m<n):(qBH n ca)[m]?=some (.ref (ca m)):=by
 unfold qBH
 rw[List.getElem?_map,List.getElem?_range hm];rfl
theorem qMW(hn:n<m):(qBH m ca).set n (.ref a)=qBH m (setN ca n a):=by
 refine List.ext_getElem? fun i=>?_
 rw[List.getElem?_set,qBk]
 by_cases hi:i<m
 .rw [qHm hi,qHm hi]
  by_cases q:n=i
  .subst q;rw[if_pos rfl,if_pos hi,qCx]
  .rw [if_neg q,qG0 (Ne.symm q)]
 .rw [if_neg (show ¬n=i from fun q=>hi (q▸hn)),List.getElem?_eq_none (by rw[qBk];exact Nat.le_of_not_lt hi),List.getElem?_eq_none (by rw[qBk];exact Nat.le_of_not_lt hi)]
theorem qMX:qBH n ca++[.ref a]=qBH (n+1) (setN ca n a):=by
 unfold qBH
 rw[List.range_succ,List.map_append,List.map_singleton,qCx]
 refine congrArg (·++_) (List.map_congr_left fun i hi=>?_)
 rw[qG0 (Nat.ne_of_lt (List.mem_range.mp hi))]
theorem Rep.row(R:Rep st H)(hb:st.bk k=some B)(hr:B.rows[n]?=some r)(r':List Lit):Rep (st.sB k { B with rows:=B.rows.set n r' }) (H.set (B.ca n) (.list (r'.map lav))):=R.elim fun h q=>by
 have hn:=(List.getElem?_eq_some_iff.mp hr).1
 refine⟨_,q.putB (B':={ B with rows:=B.rows.set n r' }) hb (.row n) (qCa (congrArg (Option.map fun r:List Lit=>AObj.list (r.map lav)) hr)) (congrArg (Option.map fun r:List Lit=>AObj.list (r.map lav)) (List.getElem?_set_self hn)) rfl fun j=>?_⟩
 cases j with
 |cl=>refine .same ?_;show(_,some (AObj.list (qBH (B.rows.set n r').length B.ca)))=_;rw[List.length_set];rfl
 |row m =>
  by_cases e:n=m
  .subst e;exact .here
  .refine .same ?_;show(_,((B.rows.set n r')[m]?).map fun r:List Lit=>AObj.list (r.map lav))=_;rw[List.getElem?_set_ne e];rfl
 |_=>exact .same rfl
theorem Rep.add(R:Rep st H)(hb:st.bk k=some B)(r:List Lit)(hl:B.rows.length<900000):∃H',qAg (bs st.bb k+1) 0 [.ref H.length] (H++[.list (r.map lav)])=some (.none,H')/\Rep (st.sB k { B with rows:=B.rows++[r],ca:=setN B.ca B.rows.length H.length }) H':=R.elim fun h q=>by
 refine⟨_,qAs (qBU (q.at_bk hb .cl rfl)) (by rw[qBk];exact hl),?_⟩
 rw[qMX]
 refine⟨_,q.movB (B':={ B with rows:=B.rows++[r],ca:=setN B.ca B.rows.length H.length }) hb [.list (r.map lav)] (fun _=>.row B.rows.length) .cl (h.fr k) (h.w k) rfl ?_ rfl fun j=>?_⟩
 .show some (AObj.list (qBH (B.rows++[r]).length _))=_
  rw[List.length_append];rfl
 cases j with
 |cl=>exact .here
 |row m =>
  by_cases e:m=B.rows.length
  .subst e;refine .new 0 rfl ?_;show(setN B.ca B.rows.length H.length B.rows.length,((B.rows++[r])[B.rows.length]?).map fun r:List Lit=>AObj.list (r.map lav))=_;rw[qCx,List.getElem?_concat_length];rfl
  .by_cases e2:m<B.rows.length
   .refine .same ?_;show(setN B.ca B.rows.length H.length m,((B.rows++[r])[m]?).map fun r:List Lit=>AObj.list (r.map lav))=_;rw[qG0 e,List.getElem?_append_left e2];rfl
   .refine .dead ?_;show((B.rows++[r])[m]?).map _=_;rw[List.getElem?_eq_none (by rw[List.length_append,List.length_singleton];exact Nat.lt_of_le_of_ne (Nat.le_of_not_lt e2) (Ne.symm e))];rfl
 |_=>exact .same rfl
theorem Rep.plc(R:Rep st H)(hb:st.bk k=some B)(hr:B.rows[n]?=some r)(r':List Lit):∃H',qAu (.ref (bs st.bb k+1)) (.int n) (.ref H.length) (H++[.list (r'.map lav)])=some H'/\Rep (st.sB k { B with rows:=B.rows.set n r',ca:=setN B.ca n H.length }) H':=R.elim fun h q=>by
 have hn:=(List.getElem?_eq_some_iff.mp hr).1
 refine⟨_,qGb (qBU (q.at_bk hb .cl rfl)) (Int.natCast_nonneg n) (by rw[qBk];exact Int.ofNat_lt.mpr hn),?_⟩
 rw[Int.toNat_natCast,qMW hn]
 refine⟨_,q.movB (B':={ B with rows:=B.rows.set n r',ca:=setN B.ca n H.length }) hb [.list (r'.map lav)] (fun _=>.row n) .cl (h.fr k) (h.w k) rfl ?_ rfl fun j=>?_⟩
 .show some (AObj.list (qBH (B.rows.set n r').length _))=_
  rw[List.length_set]
 cases j with
 |cl=>exact .here
 |row m =>
  by_cases e:m=n
  .subst e;refine .new 0 rfl ?_;show(setN B.ca m H.length m,((B.rows.set m r')[m]?).map fun r:List Lit=>AObj.list (r.map lav))=_;rw[qCx,List.getElem?_set_self hn];rfl
  .refine .same ?_;show(setN B.ca n H.length m,((B.rows.set n r')[m]?).map fun r:List Lit=>AObj.list (r.map lav))=_;rw[qG0 e,List.getElem?_set_ne (Ne.symm e)];rfl
 |_=>exact .same rfl
theorem Rep.frx(R:Rep st H)(hb:st.bk k=some B)(m:List Nat):∃H',qB0 PP (.inst 0 (bs st.bb k)) 32 (.ref H.length) (H++[.list (nsAV m)])=some H'/\Rep (st.sB k { B with fr:=m }) H':=R.elim fun h q =>
 ⟨_,qBu (qBU (q.at_bk hb .ns rfl)) rfl (show(4:Nat)<900 by decide),_,q.movB (B':={ B with fr:=m }) hb [.list (nsAV m)] (fun _=>.fr) .ns H.length (h.w k) rfl rfl rfl fun j=>by cases j<;>first|exact .here|exact .same rfl|exact .new 0 rfl rfl⟩
theorem Rep.fr0(R:Rep st H)(hb:st.bk k=some B)(ht:st.tm=none)(m:List Nat):∃a H',qAB PP (.inst 0 (bs st.bb k)) 32 H=some (.ref a)/\qB0 PP (.inst 0 (bs st.bb k)) 32 (.ref H.length) (H++[.list (nsAV m)])=some H'/\Rep ((st.sB k { B with fr:=m }).sTm (some (a,nsAV B.fr))) H':=R.elim fun h q=>by
 have o:∀j,MvB (bs st.bb k) (h.fr k) (h.w k) B H.length (h.w k) { B with fr:=m } H.length .ns [.list (nsAV m)] (fun _=>.fr) j:=fun j=>by cases j<;>first|exact .here|exact .same rfl|exact .new 0 rfl rfl
 have q':=q.movB (B':={ B with fr:=m }) hb [.list (nsAV m)] (fun _=>.fr) .ns H.length (h.w k) rfl rfl rfl o
 refine⟨h.fr k,_,qBL (q.at_bk hb .ns rfl) rfl,qBu (qBU (q.at_bk hb .ns rfl)) rfl (show(4:Nat)<900 by decide),h.sB k H.length (h.w k),?_⟩
 have c1:=Prod.mk.inj (qF8 (h:=h) (i:=.fr) hb)
 have c0:=Prod.mk.inj (qF8 (h:=h) (i:=.ns) hb)
 have i1:(obj st h (.bk k .fr)).isSome:=by rw[c1.2];rfl
 have i0:(obj st h (.bk k .ns)).isSome:=by rw[c0.2];rfl
 have lt:h.fr k<H.length:=qC7 (q.at_bk hb .fr rfl)
 have far:∀s,(obj (st.sB k { B with fr:=m }) (h.sB k H.length (h.w k)) s).isSome->adr (st.sB k { B with fr:=m }) (h.sB k H.length (h.w k)) s≠h.fr k:=fun s z e=>by
  rcases Mv.at_ (mv_of hb o) i0 ((Prod.mk.inj qF7).1.trans c0.1.symm) s z with y|⟨u,y⟩
  .have:s=.bk k .fr:=q.inj _ _ y.1 i1 (y.2.symm.trans (e.trans c1.1.symm))
   subst this
   rw[(Prod.mk.inj qF7).1]at e
   exact absurd lt (e▸Nat.lt_irrefl _)
  .rw [y.2]at e;exact absurd lt (e▸Nat.not_lt_of_le (Nat.le_add_right _ _))
 have keep:∀s,s≠.tmp->cell ((st.sB k { B with fr:=m }).sTm (some (h.fr k,nsAV B.fr))) (h.sB k H.length (h.w k)) s=cell (st.sB k { B with fr:=m }) (h.sB k H.length (h.w k)) s:=fun s n=>by cases s<;>first|rfl|exact absurd rfl n
 refine⟨fun s ob e=>?_,fun s1 s2 z1 z2 e=>?_⟩
 .by_cases n:s=.tmp
  .subst n
   cases e
   show(List.set _ (bs st.bb k) _)[h.fr k]?=_
   exact(qES (show bs st.bb k≠h.fr k from fun z=>nomatch q.inj _ _ i0 i1 (c0.1.trans (z.trans c1.1.symm)))).trans (qBU (q.at_bk hb .fr rfl))
  .have z:=Prod.mk.inj (keep s n)
   rw[z.1];exact q'.at_ s ob (z.2▸e)
 .by_cases n1:s1=.tmp
  .by_cases n2:s2=.tmp
   .rw [n1,n2]
   .have z:=Prod.mk.inj (keep s2 n2)
    rw[n1,z.1]at e
    exact absurd e.symm (far s2 (z.2▸z2))
  .have z:=Prod.mk.inj (keep s1 n1)
   by_cases n2:s2=.tmp
   .rw [n2,z.1]at e
    exact absurd e (far s1 (z.2▸z1))
   .have y:=Prod.mk.inj (keep s2 n2)
    exact q'.inj _ _ (z.2▸z1) (y.2▸z2) (by rw[<-z.1,<-y.1,e])
theorem qBe{ks:List (Fin 3)}{w:Fin 3->Nat}(x:Fin 3):(watI ks w).lookup (x.val:Int)=if x∈ks then some (.ref (w x))else none:=by
 induction ks with
 |nil=>rfl
 |cons y r ih =>
  show List.lookup _ (((y.val:Int),AV.ref (w y))::watI r w)=_
  rw[List.lookup_cons,ih]
  by_cases q:x=y
  .subst q;rw[beq_self_eq_true,if_pos (List.mem_cons_self)]
  .have:((x.val:Int)==(y.val:Int))=false:=beq_eq_false_iff_ne.mpr fun e=>q (Fin.eq_of_val_eq (Int.ofNat_inj.mp e))
   rw[this]
   exact ite_congr (propext (List.mem_cons.trans (or_iff_right q)).symm) (fun _=>rfl) fun _=>rfl
theorem qM8{ks:List (Fin 3)}{w:Fin 3->Nat}(h:x ∉ ks):watI ks w++[((x.val:Int),.ref a)]=watI (ks++[x]) (setF w x a):=by
 unfold watI
 rw[List.map_append,List.map_singleton,qAF]
 exact congrArg (·++_) (List.map_congr_left fun y hy=>by rw[qAG (show y≠x from fun e=>h (e▸hy))])
theorem R.wl(r:R st h H)(hb:st.bk k=some B)(hx:x∈B.ks):H[h.w k x]?=some (.list (nsAV (B.wt x)))/\∀m,Rep (st.sB k { B with wt:=setF B.wt x m }) (H.set (h.w k x) (.list (nsAV m))):=by
 have e:∀B:Bk,x∈B.ks->objB (bs st.bb k) (h.fr k) (h.w k) (some B) (.wl x)=some (.list (nsAV (B.wt x))):=fun B hx=>if_pos hx
 refine⟨r.at_bk hb (.wl x) (e B hx),fun m=>⟨_,r.putB (B':={ B with wt:=setF B.wt x m }) hb (.wl x) (qCa (e B hx)) ((e { B with wt:=setF B.wt x m } hx).trans (by show some (AObj.list (nsAV (setF B.wt x m x)))=_;rw[qAF])) rfl fun j=>?_⟩⟩
 cases j with
 |wl y =>
  by_cases q:y=x
  .subst q;exact .here
  .refine .same ?_;show(_,if y∈B.ks then some (AObj.list (nsAV (setF B.wt x m y)))else none)=_;rw[qAG q];rfl
 |_=>exact .same rfl
theorem Rep.wt(R:Rep st H)(hb:st.bk k=some B):∃w:Fin 3->Nat,H[bs st.bb k+4]?=some (.dictI (watI B.ks w))/\∀x∈B.ks,H[w x]?=some (.list (nsAV (B.wt x)))/\∀m,Rep (st.sB k { B with wt:=setF B.wt x m }) (H.set (w x) (.list (nsAV m))) :=
 R.elim fun h r=>⟨h.w k,r.at_bk hb .wt rfl,fun x hx=>r.wl hb hx⟩
theorem sB_sB:(st.sB k B).sB k B'=st.sB k B':=by
 unfold St.sB
 refine congrArg (fun f=>{ st with bk:=f }) (funext fun j=>?_)
 by_cases q:j=k
 .rw [if_pos q,if_pos q]
 .rw [if_neg q,if_neg q];exact if_neg q
theorem Rep.wnew(R:Rep st H)(hb:st.bk k=some B)(hx:x ∉ B.ks)(hl:B.ks.length<900000):∃H1,qAg (bs st.bb k+4) 5 [.int (x.val:Int),.ref H.length] (H++[.list []])=some (.ref H.length,H1)/\H1[H.length]?=some (.list (nsAV [])) /\
  ∀m,Rep (st.sB k { B with ks:=B.ks++[x],wt:=setF B.wt x m }) (H1.set H.length (.list (nsAV m))):=R.elim fun h r=>by
 have hw:(watI B.ks (h.w k)).lookup (x.val:Int)=none:=(qBe x).trans (if_neg hx)
 refine⟨_,qMQ (qBU (r.at_bk hb .wt rfl)) hw (by unfold watI;rw[List.length_map];exact hl),?_⟩
 rw[qM8 hx]
 have r1:=r.movB (B':={ B with ks:=B.ks++[x],wt:=setF B.wt x [] }) hb [.list []] (fun _=>.wl x) .wt (h.fr k) (setF (h.w k) x H.length) rfl rfl rfl fun j=>by
  cases j with
  |wt=>exact .here
  |wl y =>
   by_cases q:y=x
   .subst q;refine .new 0 rfl ?_;show(setF _ y _ y,if y∈B.ks++[y]then some (AObj.list (nsAV (setF B.wt y [] y)))else none)=_;rw[qAF,qAF,if_pos (List.mem_append_right _ List.mem_cons_self)];rfl
   .refine .same (Prod.ext (qAG q) ?_)
    show(if y∈B.ks++[x]then some (AObj.list (nsAV (setF B.wt x [] y)))else none)=(if y∈B.ks then some (AObj.list (nsAV (B.wt y)))else none)
    rw[qAG q]
    exact ite_congr (propext (List.mem_append.trans (or_iff_left fun z=>q (List.mem_singleton.mp z)))) (fun _=>rfl) fun _=>rfl
  |_=>exact .same rfl
 have w1:=r1.wl sB_at (show x∈B.ks++[x]from List.mem_append_right _ List.mem_cons_self)
 have e1:(h.sB k (h.fr k) (setF (h.w k) x H.length)).w k x=H.length:=(congrFun (if_pos rfl) x).trans qAF
 rw[e1]at w1
 refine⟨w1.1.trans (by show some (AObj.list (nsAV (setF _ x _ x)))=_;rw[qAF]),fun m=>?_⟩
 have:=w1.2 m
 rw[sB_sB]at this
 have e2:setF (setF B.wt x []) x m=setF B.wt x m:=funext fun y=>by
  by_cases q:y=x
  .subst q;rw[qAF,qAF]
  .rw [qAG q,qAG q,qAG q]
 rw[show({ B with ks:=B.ks++[x],wt:=setF B.wt x m }:Bk)={ B with ks:=B.ks++[x],wt:=setF (setF B.wt x []) x m }by rw[e2]]
 exact this
theorem Rep.bk1(R:Rep st H):Rep ({ st with bb:=H.length,bk:=fun j=>if j=true then some ⟨[],fun _=>0,[],[],[],fun _=>[]⟩else st.bk j }) (H++[.ns (bkF H.length (H.length+3)),.list [],.list [],.list [],.dictI []]):=R.elim fun h r =>
 ⟨⟨h.ml,h.nw,fun j=>if j=true then H.length+3 else h.fr j,h.w⟩,r.app [.ns (bkF H.length (H.length+3)),.list [],.list [],.list [],.dictI []] (fun i=>.bk true (match i with | 0=>.ns | 1=>.cl | 2=>.un | 3=>.fr|_=>.wt)) (s0:=.keg) rfl rfl rfl fun s=>by
  cases s with
  |bk k i=>cases k with
   |false=>exact .same rfl
   |true=>cases i with
    |ns=>exact .new 0 rfl rfl
    |cl=>exact .new 1 rfl rfl
    |un=>exact .new 2 rfl rfl
    |fr=>exact .new 3 rfl rfl
    |wt=>exact .new 4 rfl rfl
    |_=>exact .dead rfl
  |_=>exact .same rfl⟩
end
end
end Internal.L
end
local macro_rules
 | `(tactic|exists $ts,*)=>do
  let g:=fun(s:String) (k:Lean.Ident->Lean.MacroM (Lean.TSyntax `tactic))=>(s.splitOn " ").toArray.mapM fun s=>k (Lean.mkIdent s.toName)
  let a <-g "S_nil K_ret qPq Sx_t Sx_f qQG S_asg S_ife S_ret qQ7 qQ6 S_for S_whl qIw qM4 qOt qPo qB9 qHX qGf E_lit E_var E_sub qQD qQ3 qQ2 qPz qQA E_bi E_cmp E_bin E_neg E_not E_tup E_lst qNq E_dct E_ite Ei_t Ei_f qPt E_bor qPs Ea_no qM7 qQ9 qQ8 qPy qDX Et_no qB5 qQB qQ1 qQ0 qPv qPx qPw qQH A_sub A_tup qQF qQ4 qQ5 qQE qQC E_new" fun i=>`(tactic|apply $i)
  let b <-g "Rep.g57 Rep.g58 Rep.g27" fun i=>`(tactic|exact $i (by assumption))
  let c <-g "Rep.g30 Rep.g31 Rep.g33" fun i=>`(tactic|exact $i (by assumption) (by assumption) (by rfl))
  `(tactic|repeat' first|(first $[|exact $ts]*)|assumption|(first $[| $a:tactic]*)|(first $[| $b:tactic]*)|exact Rep.na (by assumption) fun _ _ _ _=>rfl|(first $[| $c:tactic]*)|exact Rep.nb (by assumption) (by assumption) (by rfl) fun _ _=>rfl|exact qNN|rfl|exact qAX|refine(qAA (by rfl)).trans ?_)
section
namespace Internal.L
section
noncomputable def hold(D:Fin 3->Dm)(l:Lit):Int:=said l (D l.1)
noncomputable def insL{α:Type} [DecidableEq α](m:List α)(x:α):List α:=if x∈m then m else m++[x]
noncomputable def St.enter(st:St)(l:Lit)(why:Option (List Lit)):St:=((st.sTr (st.tr++[Ent.mk (st.D l.1) l why])).sD (setF st.D l.1 (cut l (st.D l.1)))).sNw (insL st.nw l.1)
noncomputable def St.failed(st:St)(c:List Lit):St:=(st.sFa true).sCl c
section
variable{st:St}{H:AHeap}{l:Lit}{x:Fin 3}{v:AV}{r n:Nat}{S T:Dm}
theorem c_eqt(h:S=T):cmpAV .eq (dom S) (dom T) H=some true:=qNi.trans (congrArg some (decide_eq_true h))
theorem c_eqf(h:¬S=T):cmpAV .eq (dom S) (dom T) H=some false:=qNi.trans (congrArg some (decide_eq_false h))
theorem c_0f(h:¬S=0):cmpAV .eq (dom S) (.tup []) H=some false:=qLV.trans (congrArg some (decide_eq_false h))
theorem c_0t(h:S=0):cmpAV .eq (dom S) (.tup []) H=some true:=qLV.trans (congrArg some (decide_eq_true h))
theorem qEU(d:Nat)(l:Lit)(S:Dm):Cl (d+5) H 6 [lav l,dom S] (.int (said l S)) H:=by
 have k:Cl (d+4) [] 5 [lav l,dom S] (dom (cut l S)) []:=Cl_of (qBi d l S)
 unfold said
 by_cases h:cut l S=S
 .rw [if_pos h];exact qHY (fn:=fn6) rfl rfl (qCd rfl (qCA S)) rfl (by exists k,c_eqt h) rfl
 .rw [if_neg h]
  by_cases h0:cut l S=0
  .rw [if_pos h0];exact qHY (fn:=fn6) rfl rfl (qCd rfl (qCA S)) rfl (by exists k,c_eqf h,c_0t h0) rfl
  .rw [if_neg h0];exact qHY (fn:=fn6) rfl rfl (qCd rfl (qCA S)) rfl (by exists k,c_eqf h,c_0f h0) rfl
theorem qGj{f:Fin 3->AV}(h:H[r]?=some (.list (l3 f)))(x:Fin 3):subAV (.ref r) (.int (x.val:Int)) H=some (f x):=by
 rw[qBh h]
 show(idx 3 _).bind _=_
 rw[idx_at rfl (show x.val<3 from x.isLt)];exact l3_at f x
theorem qLu{f:Fin 3->AV}(h:H[r]?=some (.list (l3 f)))(x:Fin 3):qAu (.ref r) (.int (x.val:Int)) v H=some (H.set r (.list ((l3 f).set x.val v))):=qGb h (Int.natCast_nonneg _) (Int.ofNat_lt.mpr (show x.val<3 from x.isLt))
theorem qBr(d:Nat)(R:Rep st H)(l:Lit):Cl (d+6) H 22 [.inst 1 1,lav l] (.int (hold st.D l)) H :=
 qCH (fn:=fn22) rfl rfl rfl rfl (by exists qEU d l (st.D l.1),qGj R.l2 l.1) rfl
theorem qJM(d:Nat)(R:Rep st H)(x:Fin 3):Cl (d+1) H 21 [.inst 1 1,.int (x.val:Int)] (dom (FC x)) H :=
 qCH (fn:=fn21) rfl rfl rfl rfl (by exists qGj R.l3_ x) (by show(if(dom (FC x)).plain then some (dom (FC x))else none)=_;rw[qCA];rfl)
theorem qO2(d:Nat)(R:Rep st H):Cl (d+1) H 20 [.inst 1 1] (.int 3) H :=
 qCH (fn:=fn20) rfl rfl rfl rfl (by exists qBo R.l2) rfl
theorem qBJ(ns:List Nat):(nsAV ns).length=ns.length:=List.length_map _
theorem qGR(d:Nat)(R:Rep st H):Cl (d+1) H 29 [.inst 1 1] (.int st.lv.length) H:=by
 obtain⟨a,g,e,_⟩:=R.lv
 have hl:biAV .len false [.ref a] H=some (.int st.lv.length,H):=by rw[qBo e,qBJ]
 exact qCH (fn:=fn29) rfl rfl rfl rfl (by exists g,hl) rfl
theorem qBD(R:Rep st H):biAV .len false [.ref 4] H=some (.int st.tr.length,H):=by rw[qBo R.l4,List.length_map]
theorem qKP(d:Nat)(R:Rep st H)(hl:st.lv.length<900000):∃H',Cl (d+1) H 27 [.inst 1 1] .none H'/\Rep (st.sLv (st.lv++[st.tr.length])) H':=by
 obtain⟨a,g,e,w⟩:=R.lv
 have ap:qAg a 0 [.int st.tr.length] H=some (.none,H.set a (.list (nsAV (st.lv++[st.tr.length])))):=by rw[qAs e (by rw[qBJ];exact hl)];unfold nsAV;rw[List.map_append];rfl
 exact⟨_,C_imp (fn:=fn27) rfl rfl rfl (by exists g,qBD R,qDW e,ap) rfl,w _⟩
theorem qLL(d:Nat)(R:Rep st H)(c:List Lit):∃H',Cl (d+1) H 26 [.inst 1 1,clAV c] (.bool false) H'/\Rep (st.failed c) H':=by
 obtain⟨H1,e1,R1⟩:=R.fa true
 obtain⟨H2,e2,R2⟩:=R1.cl c
 exact⟨H2,C_imp (fn:=fn26) rfl rfl rfl (by exists e1,e2) rfl,R2⟩
theorem qMk(nw:List (Fin 3))(x:Fin 3):upd (x.val:Int) (.bool true) (newsI nw)=newsI (insL nw x):=by
 unfold insL
 induction nw with
 |nil=>rfl
 |cons y m ih =>
  show(if(y.val:Int)=x.val then _ else _)=_
  by_cases q:x=y
  .subst q;rw[if_pos rfl,if_pos List.mem_cons_self];rfl
  .rw [if_neg (show ¬(y.val:Int)=x.val from fun e=>q (Fin.eq_of_val_eq (Int.ofNat_inj.mp e.symm)))]
   show _::upd _ _ (newsI m)=_
   rw[ih]
   by_cases z:x∈m
   .rw [if_pos z,if_pos (List.mem_cons_of_mem _ z)];rfl
   .rw [if_neg z,if_neg (fun w=>z ((List.mem_cons.mp w).resolve_left q))];rfl
theorem qGA{α:Type} [DecidableEq α]{l m:List α}(h:l.Nodup)(hm:m.Nodup)(k:∀a∈l,a∈m):l.length<=m.length:=by
 have:l.Perm (m.filter fun a=>decide (a∈l)):=(List.perm_ext_iff_of_nodup h (hm.filter _)).mpr fun a=>by
  rw[List.mem_filter,decide_eq_true_eq];exact⟨fun q=>⟨k a q,q⟩,fun q=>q.2⟩
 rw[this.length_eq];exact List.length_filter_le ..
theorem qNg{m:List (Fin 3)}(h:m.Nodup):m.length<=3:=qGA h (List.nodup_finRange 3) fun a _=>List.mem_finRange a
theorem qIl(d:Nat)(R:Rep st H)(why:Option (List Lit))(h0:cut l (st.D l.1)≠0)(h1:cut l (st.D l.1)≠st.D l.1)(ht:st.tr.length<900000)(hn:st.nw.Nodup) :
  ∃H',Cl (d+5) H 23 [.inst 1 1,lav l,whyAV why,.int (-1)] (.bool true) H'/\Rep (st.enter l why) H':=by
 have R1:=R.trl (st.tr++[Ent.mk (st.D l.1) l why])
 have ap:qAg 4 0 [entAV (Ent.mk (st.D l.1) l why)] H=some (.none,H.set 4 (.list ((st.tr++[Ent.mk (st.D l.1) l why]).map entAV))):=by rw[qAs R.l4 (by rw[List.length_map];exact ht),List.map_append];rfl
 generalize H.set 4 _=H1 at R1 ap
 have R2:=R1.dms (setF st.D l.1 (cut l (st.D l.1)))
 have as:qAu (.ref 2) (.int (l.1.val:Int)) (dom (cut l (st.D l.1))) H1=some (H1.set 2 (.list (l3 fun x=>dom (setF st.D l.1 (cut l (st.D l.1)) x)))):=by rw[qLu R1.l2];exact congrArg (fun z=>some (H1.set 2 (.list z))) (qL1 dom st.D _ l.1)
 generalize H1.set 2 _=H2 at R2 as
 obtain⟨a,g,e,w⟩:=R2.nw
 have an:qAu (.ref a) (.int (l.1.val:Int)) (.bool true) H2=some (H2.set a (.dictI (newsI (insL st.nw l.1)))):=by rw[qLw e (by unfold newsI;rw[List.length_map];exact Nat.lt_of_le_of_lt (qNg hn) (by decide)),<-qMk];rfl
 exact⟨_,C_imp (fn:=fn23) rfl rfl rfl (by exists qGj R.l2 l.1,Cl_of (qBi d l (st.D l.1)),c_eqf h1,c_0f h0,qDW R.l4,ap,as,g,an) rfl,w _⟩
theorem qGk(d:Nat)(R:Rep st H)(why:List Lit)(h0:cut l (st.D l.1)≠0)(h1:cut l (st.D l.1)≠st.D l.1)(ht:st.tr.length<900000)(hn:st.nw.Nodup) :
  ∃H',Cl (d+6) H 24 [.inst 1 1,lav l,clAV why] (.bool true) H'/\Rep (st.enter l (some why)) H':=by
 obtain⟨H',c,R'⟩:=qIl d R (some why) h0 h1 ht hn
 exact⟨H',C_imp (fn:=fn24) rfl rfl rfl (by exists R.g61,c) rfl,R'⟩
theorem qLX(d:Nat)(R:Rep st H)(h0:cut l (st.D l.1)≠0)(h1:cut l (st.D l.1)≠st.D l.1)(ht:st.tr.length<900000)(hn:st.nw.Nodup) :
  ∃H',Cl (d+6) H 25 [.inst 1 1,lav l] (.bool true) H'/\Rep (st.enter l none) H':=by
 obtain⟨H',c,R'⟩:=qIl d R none h0 h1 ht hn
 exact⟨H',C_imp (fn:=fn25) rfl rfl rfl (by exists c) rfl,R'⟩
theorem qFq(d:Nat)(R:Rep st H){vs:List AV}(hs:qAY (st.nw.map fun x=>.int (x.val:Int))=some vs):∃H',Cl (d+1) H 30 [.inst 1 1] (.lst vs) H'/\Rep (st.sNw []) H':=by
 obtain⟨a,g,e,_⟩:=R.nw
 obtain⟨H1,e1,R1⟩:=R.nw0
 have so:biAV .sorted false [.ref a] H=some (.lst vs,H):=qAi (qMI e) (by unfold newsI;rw[List.map_map];exact hs)
 exact⟨H1,C_imp (fn:=fn30) rfl rfl rfl (by exists g,so,e1) rfl,R1⟩
end
end
section
section
variable{st:St}{H:AHeap}{l:Lit}{x:Fin 3}{v:AV}{r n m:Nat}
theorem qHA{i:Int}(h:0<=i):AV.int i=AV.int ((i.toNat:Nat):Int):=by rw[Int.toNat_of_nonneg h]
theorem qC2(t:Nat)(h:0<m):tapV t m<m:=by
 have hm:(0:Int)<m:=Int.ofNat_lt.mpr h
 delta tapV
 exact(Int.toNat_lt (Int.emod_nonneg _ (Int.ne_of_gt hm))).mpr (Int.emod_lt_of_pos _ hm)
theorem qME{t:Nat}{i:Int}(e:rowC[t]?=some i)(h:0<m):AV.int (i % (m:Int))=.int (tapV t m):=by
 delta tapV
 rw[e];exact qHA (Int.emod_nonneg _ (Int.ne_of_gt (Int.ofNat_lt.mpr h)))
theorem qMF{t:Nat}(e:rowC[t]?=none)(h:0<m):AV.int ((((t:Int)+1)*((t:Int)+1)*3+((t:Int)+1)*7+allC) / 2 % (m:Int))=.int (tapV t m):=by
 delta tapV
 rw[e];exact qHA (Int.emod_nonneg _ (Int.ne_of_gt (Int.ofNat_lt.mpr h)))
theorem qMN{t:Nat}(h:t<600):(((t:Int)+1)*((t:Int)+1)).natAbs<400000/\((t:Int)+1).natAbs<400000:=by
 have e:(((t:Int)+1)*((t:Int)+1))=(((t+1)*(t+1):Nat):Int):=by push_cast;rfl
 have q:(t+1)*(t+1)<=600*600:=Nat.mul_le_mul h h
 rw[e]
 exact⟨Nat.lt_of_le_of_lt q (by decide),Nat.lt_of_le_of_lt (show t+1<=600 from h) (by decide)⟩
theorem qJs(d:Nat){t:Nat}(h:H[0]?=some (kegC t))(m:Nat)(ht:t<600)(hm:0<m):Cl (d+1) H 31 [.ref 0,.int m] (.int (tapV t m)) (H.set 0 (kegC (t+1))):=by
 have s1:subAV (.ref 0) (.str 71) H=some (.int (t:Int)):=qCt h
 have a1:qAu (.ref 0) (.str 71) (.int ((t:Int)+1)) H=some (H.set 0 (kegC (t+1))):=qLv h (show(3:Nat)<900000 by decide)
 have h1:(H.set 0 (kegC (t+1)))[0]?=some (kegC (t+1)):=qMR h
 generalize H.set 0 _=H1 at a1 h1
 have s2:subAV (.ref 0) (.str 71) H1=some (.int ((t:Int)+1)):=qCt h1
 have s3:subAV (.ref 0) (.str 72) H1=some (.lst (rowC.map .int)):=qCt h1
 have s4:subAV (.ref 0) (.str 73) H1=some (.int allC):=qCt h1
 have hl:biAV .len false [.lst (rowC.map .int)] H1=some (.int rowC.length,H1):=by rw[qDh,List.length_map]
 have hm':(0:Int)<m:=Int.ofNat_lt.mpr hm
 cases e:rowC[t]? with
 |some i =>
  have hlt:=(List.getElem?_eq_some_iff.mp e).1
  have c1:cmpAV .le (.int ((t:Int)+1)) (.int rowC.length) H1=some true:=congrArg some (decide_eq_true (Int.ofNat_le.mpr hlt))
  have s5:subAV (.lst (rowC.map .int)) (.int ((t:Int)+1-1)) H1=some (.int i):=by
   rw[Int.add_sub_cancel,qNu,idx_at rfl (by rw[List.length_map];exact hlt),Option.bind_some,List.getElem?_map,e];rfl
  have b1:binAV .mod (.int i) (.int m)=some (.int (tapV t m)):=by rw[qGZ hm',qME e hm]
  exact C_imp (fn:=fn31) rfl rfl rfl (by exists s1,a1,s2,s3,hl,c1,s5,b1) rfl
 |none =>
  have hlt:=List.getElem?_eq_none_iff.mp e
  have c1:cmpAV .le (.int ((t:Int)+1)) (.int rowC.length) H1=some false:=congrArg some (decide_eq_false (Int.not_le.mpr (Int.lt_add_one_of_le (Int.ofNat_le.mpr hlt))))
  have q:=qMN ht
  have b1:binAV .mod (.int ((((t:Int)+1)*((t:Int)+1)*3+((t:Int)+1)*7+allC) / 2)) (.int m)=some (.int (tapV t m)):=by rw[qGZ hm',qMF e hm]
  exact C_imp (fn:=fn31) rfl rfl rfl (by exists s1,a1,s2,s4,hl,c1,qI9 q.2 q.2,qI9 q.1 (by decide),qI9 q.2 (by decide),qOo (by decide) (by decide),b1) rfl
theorem qEP(d:Nat)(R:Rep st H)(m:Nat)(ht:st.t<600)(hm:0<m):∃H',Cl (d+1) H 31 [.ref 0,.int m] (.int (tapV st.t m)) H'/\Rep (st.sT (st.t+1)) H':=⟨_,qJs d R.l0 m ht hm,R.tap _⟩
noncomputable def mid(l:Lit):Prop:=midB l.2.2=true
theorem qNY(d:Nat)(R:Rep st H)(ht:st.t+3<=600):∃l H',mid l/\Cl (d+2) H 32 [.ref 0] (lav l) H'/\Rep (st.sT (st.t+3)) H':=by
 obtain⟨H1,c1,R1⟩:=qEP d R 3 (Nat.lt_of_succ_lt (Nat.lt_of_succ_lt ht)) (by decide)
 obtain⟨H2,c2,R2⟩:=qEP d R1 4 (Nat.lt_of_succ_lt ht) (by decide)
 obtain⟨H3,c3,R3⟩:=qEP d R2 5 ht (by decide)
 obtain⟨s,hs⟩:∃s:Fin 4,subAV (.tup [.str 8,.str 10,.str 9,.str 7]) (.int (tapV (st.sT (st.t+1)).t 4)) H2=some (.str (7+s.val)):=by
  have h:=qC2 (m:=4) (st.sT (st.t+1)).t (by decide)
  generalize tapV (st.sT (st.t+1)).t 4=n at h
  match n,h with
  | 0,_=>exact⟨1,rfl⟩
  | 1,_=>exact⟨3,rfl⟩
  | 2,_=>exact⟨2,rfl⟩
  | 3,_=>exact⟨0,rfl⟩
 have h3:=qC2 (m:=3) st.t (by decide)
 have h5:=qC2 (m:=5) (st.t+1+1) (by decide)
 refine⟨(⟨tapV st.t 3,h3⟩,s,⟨tapV (st.t+1+1) 5+1,Nat.lt_succ_of_lt (Nat.succ_lt_succ h5)⟩),H3,?_,?_,R3⟩
 .exact Bool.and_eq_true_iff.mpr ⟨decide_eq_true (Nat.succ_le_succ (Nat.zero_le _)),decide_eq_true (show tapV (st.t+1+1) 5+1<=5 from h5)⟩
 .have e:AV.int (tapV (st.t+1+1) 5)=.int (((tapV (st.t+1+1) 5+1:Nat):Int)-1):=by rw[Int.natCast_add];exact congrArg AV.int (Int.add_sub_cancel _ _).symm
  refine C_imp (fn:=fn32) rfl rfl rfl (by exists c1,c2,hs,c3) ?_
  show AV.tup [_,_,AV.int (tapV (st.t+1+1) 5)]=_
  rw[e];rfl
end
end
section
section
variable{st:St}{H H0:AHeap}{l:Lit}{x:Fin 3}{v:AV}{r n m:Nat}{L L':List AV}{c:List Lit}{ρ:Rho}
theorem qAA{α:Type}{k j:Nat}{v:α}(n:(j==k)=false):∀{ρ:List (Nat×α)},(upd k v ρ).lookup j=ρ.lookup j
 |[]=>by show(match j==k with|true=>some v|false=>none)=_;rw[n];rfl
 |p::r=>by
  unfold upd
  by_cases h:p.1=k
  .rw [if_pos h]
   show(match j==k with|true=>some v|false=>r.lookup j)=(match j==p.1 with|true=>some p.2|false=>r.lookup j)
   rw[h,n]
  .rw [if_neg h]
   show(match j==p.1 with|true=>some p.2|false=>(upd k v r).lookup j)=(match j==p.1 with|true=>some p.2|false=>r.lookup j)
   rw[qAA n]
theorem qAX{α:Type}{k:Nat}{v:α}:∀{ρ:List (Nat×α)},(upd k v ρ).lookup k=some v
 |[]=>by show(match k==k with|true=>some v|false=>none)=_;rw[beq_self_eq_true]
 |p::r=>by
  unfold upd
  by_cases h:p.1=k
  .rw [if_pos h,List.lookup_cons,beq_self_eq_true]
  .rw [if_neg h,List.lookup_cons,beq_eq_false_iff_ne.mpr (Ne.symm h)];exact qAX
theorem qEQ(hs:qAn L=true)(hn:L.length<7)(nd:L.Nodup):qAY L=some (qAD L):=by
 unfold qAY
 exact if_pos (Bool.and_eq_true_iff.mpr ⟨Bool.and_eq_true_iff.mpr ⟨hs,decide_eq_true hn⟩,qBB.mpr nd⟩)
theorem qK1(p:L.Perm L')(hs:qAn L=true)(hs':qAn L'=true)(nd:L.Nodup):qAD L=qAD L' :=
 qBj (qAx (qG2 hs) nd) (qAx (qG2 hs') (p.nodup_iff.mp nd)) ((qAP L).trans (p.trans (qAP L').symm))
theorem qGJ{a b:Lit}(e:lav a=lav b):a=b:=by
 have e:=AV.tup.inj e
 have e0:=Int.ofNat_inj.mp (AV.int.inj (List.cons.inj e).1)
 have e1:=Nat.add_left_cancel (AV.str.inj (List.cons.inj (List.cons.inj e).2).1)
 have e2:=Int.ofNat_inj.mp (by have q:=AV.int.inj (List.cons.inj (List.cons.inj (List.cons.inj e).2).2).1;rwa [Int.sub_left_inj]at q:(a.2.2.val:Int)=b.2.2.val)
 exact Prod.ext (Fin.eq_of_val_eq e0) (Prod.ext (Fin.eq_of_val_eq e1) (Fin.eq_of_val_eq e2))
theorem qEj(c:List Lit):(c.map lav).all isK2=true:=List.all_eq_true.mpr fun a ha=>(List.mem_map.mp ha).elim fun l h=>h.2▸Bool.and_eq_true_iff.mpr ⟨decide_eq_true (Nat.le_add_right 7 _),decide_eq_true (Nat.add_le_add_left (Nat.le_of_lt_succ l.2.1.isLt) 7)⟩
theorem qBp(h:L.all isK2=true):qAn L=true:=by unfold qAn;rw[h,Bool.or_true];rfl
theorem qFb(h:c.Nodup):(c.map lav).Nodup:=List.pairwise_map.mpr (h.imp fun q e=>q (qGJ e))
theorem qKv:∀{L:List AV},(∀a∈L,∃m:Lit,a=lav m/\mid m)->∃ms:List Lit,L=ms.map lav/\∀m∈ms,mid m
 |[],_=>⟨[],rfl,fun _ h=>qA5 h⟩
 |a::r,h=>by
  obtain⟨m,rfl,hm⟩:=h a (.head _)
  obtain⟨ms,rfl,k⟩:=qKv fun b hb=>h b (.tail _ hb)
  exact⟨m::ms,rfl,fun x hx=>(List.mem_cons.mp hx).elim (fun q=>q▸hm) (k x)⟩
theorem qHK:∀l:List AV,(dedup l).length<=l.length
 |[]=>Nat.le_refl _
 |x::r=>Nat.succ_le_succ (Nat.le_trans (List.length_filter_le ..) (qHK r))
structure Okc (f:Nat) (c:List Lit):Prop where
 low:f<=c.length
 hi:c.length<=3
 nd:c.Nodup
 md:∀l∈c,mid l
theorem qCu(t c m:Nat):t+c*(m+1)=t+c+c*m:=by rw[Nat.mul_succ,Nat.add_comm (c*m),Nat.add_assoc]
theorem qIn(d n:Nat):∀(xs:List AV) {st:St}{H:AHeap} (ρ:Rho),Rep st H->ρ.lookup 69=some (.ref 0)->st.t+3*xs.length<=600 ->
  ∃(ls:List Lit) (H':AHeap),ls.length=xs.length/\(∀l∈ls,mid l)/\Lc (d+2) (n+2) (.callF 32 [.var 69]) (.name 75) [] H0 none ρ H xs (ls.map lav) H'/\Rep (st.sT (st.t+3*xs.length)) H'
 |[],st,H,ρ,R,_,_=>⟨[],H,rfl,fun _ h=>qA5 h,qM6 rfl,R⟩
 |x::xs,st,H,ρ,R,hρ,ht=>by
  rw[List.length_cons]at ht
  obtain⟨l,H1,hl,c1,R1⟩:=qNY d R (Nat.le_trans (Nat.add_le_add_left (Nat.le_add_left 3 (3*xs.length)) st.t) ht)
  have hρ':(upd 75 x ρ).lookup 69=some (.ref 0):=by rw[qAA (by decide)];exact hρ
  obtain⟨ls,H2,h1,h2,h3,R2⟩:=qIn d n xs (upd 75 x ρ) R1 hρ' (Nat.le_trans (Nat.le_of_eq (qCu st.t 3 xs.length).symm) ht)
  refine⟨l::ls,H2,congrArg Nat.succ h1,fun m hm=>(List.mem_cons.mp hm).elim (fun q=>q▸hl) (h2 m),qM5 rfl rfl qDX (by exists c1) h3,?_⟩
  rw[List.length_cons,qCu];exact R2
theorem qKN(n:Nat):(qAJ 0 (n:Int)).length=n:=by
 unfold qAJ;rw[List.length_map,List.length_range,Int.sub_zero,Int.toNat_natCast]
theorem qHN(d:Nat)(R:Rep st H)(f:Nat)(hf:f=1\/f=2)(ht:st.t+10<=600):∃(c:List Lit) (t':Nat) (H':AHeap),Okc f c/\t'<=st.t+10/\Cl (d+3) H 33 [.ref 0,.int f] (clAV c) H'/\Rep (st.sT t') H':=by
 have f4:0<4-f:=hf.elim (fun e=>by rw[e];decide) fun e=>by rw[e];decide
 obtain⟨H1,c1,R1⟩:=qEP (d+1) R (4-f) (Nat.lt_of_lt_of_le (Nat.lt_add_of_pos_right (by decide)) ht) f4
 have hn:=qC2 (m:=4-f) st.t f4
 generalize tapV st.t (4-f)=n at c1 hn
 have hl:=qKN (f+n)
 have fn:f+n<4:=by rw[Nat.add_comm];exact Nat.add_lt_of_lt_sub hn
 have b9:st.t+1+3*(f+n)<=st.t+10:=Nat.add_le_add_left (Nat.mul_le_mul_left 3 (Nat.le_of_lt_succ fn)) (st.t+1)
 have b1:binAV .sub (.int 4) (.int f)=some (.int ((4-f:Nat):Int)):=by rw[Int.ofNat_sub (Nat.le_of_lt (Nat.lt_of_sub_pos f4))];rfl
 have b2:biAV .range false [.int ((f:Int)+n)] H1=some (.rng 0 ((f+n:Nat):Int),H1):=qEY (show f+n<400000 from Nat.lt_trans fn (by decide))
 obtain⟨ls,H2,h1,h2,h3,R2⟩:=qIn (H0:=H1) d 36 (qAJ 0 ((f+n:Nat):Int)) [(69,.ref 0),(74,.int f)] R1 rfl (show st.t+1+_<=600 by rw[hl];exact Nat.le_trans b9 ht)
 rw[hl]at h1
 have R2':Rep (st.sT (st.t+1+3*(f+n))) H2:=by rw[hl]at R2;exact R2
 have p:=qAP (dedup (ls.map lav))
 obtain⟨c,e,hm⟩:=qKv (L:=qAD (dedup (ls.map lav))) fun a ha=>by
  obtain⟨l,hl,rfl⟩:=List.mem_map.mp ((qD5 _ _).mp (p.mem_iff.mp ha));exact⟨l,rfl,h2 l hl⟩
 have hdl:(dedup (ls.map lav)).length=c.length:=by rw[<-p.length_eq,e,List.length_map]
 have hcl:c.length<=f+n:=by rw[<-hdl,<-h1];exact Nat.le_trans (qHK _) (Nat.le_of_eq (List.length_map _))
 have bset:biAV .set false [.lst (ls.map lav)] H2=some (.sset (dedup (ls.map lav)),H2):=if_pos (Bool.and_eq_true_iff.mpr ⟨qEj ls,decide_eq_true (by rw[List.length_map,h1];exact Nat.lt_trans fn (by decide))⟩)
 have blen:biAV .len false [.sset (dedup (ls.map lav))] H2=some (.int c.length,H2):=by rw[<-hdl];rfl
 have nd:=qCe (ls.map lav)
 have k2:(dedup (ls.map lav)).all isK2=true:=List.all_eq_true.mpr fun a ha=>List.all_eq_true.mp (qEj ls) a ((qD5 _ _).mp ha)
 have bso:biAV .sorted false [.sset (dedup (ls.map lav))] H2=some (.lst (c.map lav),H2):=qAi rfl (by rw[qEQ (qBp k2) (by rw[hdl];exact Nat.lt_trans (Nat.lt_of_le_of_lt hcl fn) (by decide)) nd,e])
 by_cases hc:f<=c.length
 .have c2:cmpAV .ge (.int c.length) (.int f) H2=some true:=congrArg some (decide_eq_true (Int.ofNat_le.mpr hc))
  exact⟨c,_,H2,⟨hc,Nat.le_of_lt_succ (Nat.lt_of_le_of_lt hcl fn),List.Pairwise.imp (fun q z=>q (congrArg lav z)) (List.pairwise_map.mp (e▸p.nodup_iff.mpr nd)),hm⟩,b9,C_imp (fn:=fn33) rfl rfl rfl (by exists b1,c1,b2,h3,bset,blen,c2,bso) rfl,R2'⟩
 .have c2:cmpAV .ge (.int c.length) (.int f) H2=some false:=congrArg some (decide_eq_false fun q=>hc (Int.ofNat_le.mp q))
  exact⟨[(0,1,2),(1,3,3)],_,H2,⟨by rcases hf with rfl|rfl<;>decide,by decide,by decide,fun l h=>(List.mem_cons.mp h).elim (fun q=>q▸rfl) fun h=>(List.mem_singleton.mp h)▸rfl⟩,b9,C_imp (fn:=fn33) rfl rfl rfl (by exists b1,c1,b2,h3,bset,blen,c2) rfl,R2'⟩
end
end
section
noncomputable def Bk.wat(B:Bk)(x:Fin 3)(n:Nat):Bk:={ B with ks:=insL B.ks x,wt:=setF B.wt x (insL (B.wt x) n) }
structure Wb (B:Bk) (P:Nat->Prop):Prop where
 only:∀x,∀n∈B.wt x,P n
 zero:∀x,x ∉ B.ks->B.wt x=[]
 nd:∀x,(B.wt x).Nodup
 kn:B.ks.Nodup
 lt:∀n,P n->n<900
section
variable{st:St}{H H0:AHeap}{k:Bool}{B:Bk}{P:Nat->Prop}{x y:Fin 3}{n m a i spot:Nat}{ns:List Nat}{r:List Lit}{p q c l:Lit}{α:Type}
theorem qG7(n:Nat):∀ns:List Nat,hasAV (.int n) (nsAV ns)=decide (n∈ns)
 |[]=>rfl
 |a::r=>by
  show((AV.int a).beq (.int n) || hasAV (.int n) (nsAV r))=_
  rw[qG7 n r,int_beq,<-Bool.decide_or,decide_eq_decide,List.mem_cons,Int.ofNat_inj]
  exact or_congr eq_comm Iff.rfl
theorem qG8:nsAV ns++[.int (n:Int)]=nsAV (ns++[n]):=by unfold nsAV;rw[List.map_append];rfl
theorem qF5(h:H[i]?=some (.list (nsAV ns))):cmpAV .notIn (.int n) (.ref i) H=some (!decide (n∈ns)):=by
 show(((qAj H i).bind fun l=>memAV (.int n) l).map fun x=>!x)=_
 rw[qD9 h]
 have hc:qE7 (nsAV ns)=true:=List.all_eq_true.mpr fun x hx=>(List.mem_map.mp hx).elim fun k h=>h.2▸rfl
 show(if(AV.int n).clean&&qE7 (nsAV ns)then some (hasAV (.int n) (nsAV ns))else none).map _=_
 rw[hc,qG7];rfl
theorem qLB{α:Type} [DecidableEq α]{m:List α}(h:m.Nodup)(x:α):(insL m x).Nodup:=by
 unfold insL
 by_cases q:x∈m
 .rw [if_pos q];exact h
 .rw [if_neg q];exact List.nodup_append.mpr ⟨h,List.nodup_cons.mpr ⟨List.not_mem_nil,.nil⟩,fun a ha b hb e=>q ((List.mem_singleton.mp hb)▸e▸ha)⟩
theorem qDl{α:Type} [DecidableEq α]{m:List α}{x y:α}:y∈insL m x↔y∈m\/y=x:=by
 unfold insL
 by_cases q:x∈m
 .rw [if_pos q];exact⟨.inl,fun h=>h.elim id fun e=>e▸q⟩
 .rw [if_neg q,List.mem_append,List.mem_singleton]
theorem Wb.len(W:Wb B P)(x:Fin 3):(B.wt x).length<900000:=by
 have:=qGA (W.nd x) (List.nodup_range (n:=900)) fun n h=>List.mem_range.mpr (W.lt n (W.only x n h))
 rw[List.length_range]at this
 exact Nat.lt_of_le_of_lt this (by decide)
theorem Wb.wat(W:Wb B P)(h:P n)(x:Fin 3):Wb (B.wat x n) P:=by
 refine⟨fun y m hm=>?_,fun y hy=>?_,fun y=>?_,qLB W.kn x,W.lt⟩
 .by_cases q:y=x
  .have hm:m∈setF B.wt x (insL (B.wt x) n) y:=hm
   rw[q,qAF]at hm
   exact(qDl.mp hm).elim (W.only x m) fun e=>e▸h
  .have hm:m∈setF B.wt x (insL (B.wt x) n) y:=hm
   rw[qAG q]at hm
   exact W.only y m hm
 .have hy:=fun z=>hy (qDl.mpr z)
  show setF B.wt x (insL (B.wt x) n) y=[]
  rw[qAG fun e=>hy (.inr e)]
  exact W.zero y fun z=>hy (.inl z)
 .show (setF B.wt x (insL (B.wt x) n) y).Nodup
  by_cases q:y=x
  .rw [q,qAF];exact qLB (W.nd x) n
  .rw [qAG q];exact W.nd y
theorem qHk(hb:st.bk k=some B):st.sB k B=st:=by
 unfold St.sB
 refine Eq.trans (congrArg (fun f=>{ st with bk:=f }) (funext fun j=>?_)) rfl
 by_cases q:j=k
 .rw [if_pos q,q,hb]
 .exact if_neg q
theorem qO6{f:Fin 3->α}:setF f x (f x)=f:=funext fun y=>by
 by_cases q:y=x
 .rw [q,qAF]
 .exact qAG q
theorem qFt(d:Nat)(R:Rep st H)(hb:st.bk k=some B)(W:Wb B P)(x:Fin 3)(n:Nat):∃H',Cl (d+1) H 11 [.inst 0 (bs st.bb k),.int (x.val:Int),.int n] .none H'/\Rep (st.sB k (B.wat x n)) H':=by
 have wl:=W.len x
 by_cases hx:x∈B.ks
 .have R1:Rep st (H++[.list []]):=R.elim fun h r=>⟨h,r.junk _⟩
  obtain⟨w,h1,h2⟩:=R1.wt hb
  obtain⟨_,h0,_⟩:=R.wt hb
  obtain⟨e,h3⟩:=h2 x hx
  have s1:=qMP (v:=.ref H.length) h1 ((qBe x).trans (if_pos hx))
  have ek:insL B.ks x=B.ks:=if_pos hx
  by_cases hn:n∈B.wt x
  .have c1:cmpAV .notIn (.int n) (.ref (w x)) (H++[.list []])=some false:=by rw[qF5 e,decide_eq_true hn];rfl
   have eB:B.wat x n=B:=by unfold Bk.wat;rw[ek,show insL (B.wt x) n=B.wt x from if_pos hn,qO6]
   exact⟨_,C_imp (fn:=fn11) rfl rfl rfl (by exists qHj h0,s1,c1) rfl,by rw[eB,qHk hb];exact R1⟩
  .have c1:cmpAV .notIn (.int n) (.ref (w x)) (H++[.list []])=some true:=by rw[qF5 e,decide_eq_false hn];rfl
   have a1:=qAs (v:=.int n) e (by rw[qBJ];exact wl)
   have R2:=h3 (insL (B.wt x) n)
   rw[show insL (B.wt x) n=B.wt x++[n]from if_neg hn]at R2
   rw[qG8]at a1
   have eB:B.wat x n={ B with wt:=setF B.wt x (B.wt x++[n]) }:=by unfold Bk.wat;rw[ek,show insL (B.wt x) n=B.wt x++[n]from if_neg hn]
   exact⟨_,C_imp (fn:=fn11) rfl rfl rfl (by exists qHj h0,s1,c1,qDW e,a1) rfl,by rw[eB];exact R2⟩
 .obtain ⟨_,h0,_⟩:=R.wt hb
  obtain⟨H1,s1,e,h3⟩:=R.wnew hb hx (Nat.lt_of_le_of_lt (qNg W.kn) (by decide))
  have c1:cmpAV .notIn (.int n) (.ref H.length) H1=some true:=by rw[qF5 e];rfl
  have a1:=qAs (v:=.int n) e (by decide)
  have eB:B.wat x n={ B with ks:=B.ks++[x],wt:=setF B.wt x [n] }:=by unfold Bk.wat;rw[W.zero x hx,show insL B.ks x=B.ks++[x]from if_neg hx];rfl
  exact⟨_,C_imp (fn:=fn11) rfl rfl rfl (by exists qHj h0,s1,c1,qDW e,a1) rfl,by rw[eB];exact h3 [n]⟩
end
end
section
instance:Nonempty St:=⟨⟨0,fun _=>0,[],[],[],false,[],[],fun _=>none,0,none⟩⟩
instance:Nonempty Bk:=⟨⟨[],fun _=>0,[],[],[],fun _=>[]⟩⟩
section
variable{d n v:Nat}{st:St}{H H0:AHeap}{k:Bool}{B:Bk}{P:Nat->Prop}{x y:Fin 3}{m a i spot:Nat}{ns:List Nat}{r:List Lit}{p q c l:Lit}{α:Type}{elt:CE}{ifs:List CE}{src:Option Nat}{ρ:Rho}
theorem qDx{e f:α->AV}{g:α->Bool}:∀(xs:List α) {ρ:Rho},(∀a∈xs,∀ρ':Rho,ρ'.lookup v=some (e a)->(∀j,(j==v)=false->ρ'.lookup j=ρ.lookup j)->Et d ρ' H n ifs (g a) true H/\(g a=true->Ev d ρ' H n elt (f a) H)) ->
  Lc d n elt (.name v) ifs H src ρ H (xs.map e) ((xs.filter g).map f) H
 |[],ρ,_=>qM6 qB9
 |a::xs,ρ,h=>by
  obtain⟨h1,h2⟩:=h a (.head _) (upd v (e a) ρ) qAX fun j q=>qAA q
  have ih:=qDx xs (ρ:=upd v (e a) ρ) fun b hb ρ' q1 q2=>h b (.tail _ hb) ρ' q1 fun j q=>(q2 j q).trans (qAA q)
  rw[List.map_cons,List.filter_cons]
  cases hg:g a with
  |true=>rw[hg]at h1;rw[if_pos rfl];exact qM5 qB9 rfl h1 (h2 hg) ih
  |false=>rw[hg]at h1;rw[if_neg Bool.false_ne_true];exact qOu qB9 rfl h1 ih
theorem qBy{e f:α->AV}(xs:List α)(h:∀a∈xs,∀ρ':Rho,ρ'.lookup v=some (e a)->(∀j,(j==v)=false->ρ'.lookup j=ρ.lookup j)->Ev d ρ' H n elt (f a) H) :
  Lc d n elt (.name v) [] H src ρ H (xs.map e) (xs.map f) H:=by
 have:=qDx (g:=fun _=>true) (f:=f) (ifs:=[]) (src:=src) xs fun a ha ρ' h1 h2=>⟨qDX,fun _=>h a ha ρ' h1 h2⟩
 rwa [List.filter_eq_self.mpr fun _ _=>rfl]at this
theorem qKk(d n:Nat){v:Nat}(ls:List Lit)(h:∀l∈ls,mid l):Lc (d+1) (n+2) (.callF 4 [.var v]) (.name v) [] H src ρ H (ls.map lav) ((ls.map negL).map lav) H:=by
 rw[List.map_map]
 exact qBy ls fun l hl ρ' h1 _=>by exists Cl_of (qGD d (h l hl))
theorem qAd(hc:H[a]?=some (.list (r.map lav)))(h:r[m]?=some l):subAV (.ref a) (.int (m:Int)) H=some (lav l):=by
 rw[qBh hc,idx_at rfl (by rw[List.length_map];exact(List.getElem?_eq_some_iff.mp h).1),Option.bind_some,List.getElem?_map,h];rfl
theorem qIN(hc:H[a]?=some (.list (r.map lav)))(hm:m<r.length)(l:Lit):qAu (.ref a) (.int (m:Int)) (lav l) H=some (H.set a (.list ((r.set m l).map lav))):=by
 rw[qGb hc (Int.natCast_nonneg _) (by rw[List.length_map];exact Int.ofNat_lt.mpr hm),Int.toNat_natCast,List.map_set]
theorem s_cl(R:Rep st H)(hb:st.bk k=some B)(hr:B.rows[m]?=some r):subAV (.ref (bs st.bb k+1)) (.int (m:Int)) H=some (.ref (B.ca m)):=by
 have hm:=(List.getElem?_eq_some_iff.mp hr).1
 rw[qBh (R.lcl hb),idx_at rfl (by rw[qBk];exact hm),Option.bind_some,qHm hm]
theorem qKz(R:Rep st H)(hb:st.bk k=some B)(hr:B.rows[m]?=some r):biAV .len false [.ref (B.ca m)] H=some (.int r.length,H):=by rw[qBo (R.lrow hb hr),List.length_map]
noncomputable def sp(D:Fin 3->Dm)(spot:Nat)(r:List Lit):List Lit:=match r[spot]?,r[2]? with
 |some p,some c=>if hold D c = -1 then r else(r.set spot c).set 2 p
 |_,_=>r
theorem qL9{a b:Nat}(h:a≠b):cmpAV .ne (.int (a:Int)) (.int (b:Int)) H=some true:=congrArg (fun z=>some !z) (decide_eq_false fun e=>h (Int.ofNat_inj.mp e))
theorem qNe{a b:Nat}(h:a=b):cmpAV .ne (.int (a:Int)) (.int (b:Int)) H=some false:=congrArg (fun z=>some !z) (decide_eq_true (congrArg Int.ofNat h))
theorem ne_m{i:Int}(h:i ≠ -1):cmpAV .ne (.int i) (.int (-1)) H=some true:=congrArg (fun z=>some !z) (decide_eq_false h)
theorem eq_m{i:Int}(h:i = -1):cmpAV .ne (.int i) (.int (-1)) H=some false:=congrArg (fun z=>some !z) (decide_eq_true h)
theorem qEW{rows:List (List Lit)}{r' r2:List Lit}:(rows.set n r').set n r2=rows.set n r2:=List.set_set ..
theorem Wb.erase(W:Wb B P)(y:Fin 3)(n:Nat):Wb { B with wt:=setF B.wt y ((B.wt y).erase n) } P:=by
 refine⟨fun z m hm=>?_,fun z hz=>?_,fun z=>?_,W.kn,W.lt⟩
 .have hm:m∈setF B.wt y ((B.wt y).erase n) z:=hm
  by_cases e:z=y
  .rw [e,qAF]at hm;exact W.only y m (List.mem_of_mem_erase hm)
  .rw [qAG e]at hm;exact W.only z m hm
 .show setF B.wt y ((B.wt y).erase n) z=[]
  by_cases e:z=y
  .rw [e,qAF,W.zero y (e▸hz)];rfl
  .rw [qAG e];exact W.zero z hz
 .show (setF B.wt y ((B.wt y).erase n) z).Nodup
  by_cases e:z=y
  .rw [e,qAF];exact(W.nd y).erase n
  .rw [qAG e];exact W.nd z
theorem qFT(n:Nat):∀ns:List Nat,qBQ (.int n) (nsAV ns)=nsAV (ns.erase n)
 |[]=>rfl
 |a::r=>by
  show(if(AV.int a).beq (.int n)then nsAV r else .int a::qBQ (.int n) (nsAV r))=_
  rw[qFT n r,int_beq]
  by_cases h:a=n
  .subst h;rw[decide_eq_true rfl,if_pos rfl,List.erase_cons_head]
  .rw [decide_eq_false fun e=>h (Int.ofNat_inj.mp e),if_neg Bool.false_ne_true,List.erase_cons_tail (by simpa using h)];rfl
theorem qKI(h:H[a]?=some (.list (nsAV ns)))(hn:n∈ns):qAg a 2 [.int (n:Int)] H=some (.none,H.set a (.list (nsAV (ns.erase n)))):=by
 rw[qMV h (List.all_eq_true.mpr fun x hx=>(List.mem_map.mp hx).elim fun k h=>h.2▸rfl) (by rw[qG7];exact decide_eq_true hn),qFT]
structure Rw (B B':Bk) (P:Nat->Prop) (n:Nat) (r':List Lit):Prop where
 rows:B'.rows=B.rows.set n r'
 ca:B'.ca=B.ca
 un:B'.un=B.un
 fr:B'.fr=B.fr
 W:Wb B' P
 keep:∀m z,m≠n->m∈B.wt z->m∈B'.wt z
 hw:∀l∈r'.take 2,n∈B'.wt l.1
theorem qP6{l:List α}{x:α}(h:l[n]?=some x):l.set n x=l:=by
 obtain⟨hl,e⟩:=List.getElem?_eq_some_iff.mp h
 rw[<-e,List.set_getElem_self]
theorem Rw.refl(hr:B.rows[n]?=some r)(W:Wb B P)(hw:∀l∈r.take 2,n∈B.wt l.1):Rw B B P n r:=⟨(qP6 hr).symm,rfl,rfl,rfl,W,fun _ _ _ h=>h,hw⟩
theorem Rw.trans{B1 B2:Bk}{r1 r2:List Lit}(a:Rw B B1 P n r1)(b:Rw B1 B2 P n r2):Rw B B2 P n r2 :=
 ⟨by rw[b.rows,a.rows,qEW],b.ca.trans a.ca,b.un.trans a.un,b.fr.trans a.fr,b.W,fun m z q h=>b.keep m z q (a.keep m z q h),b.hw⟩
theorem qCy(h2:2<=r.length)(h3:r.length<=3):(∃a b,r=[a,b])\/∃a b c,r=[a,b,c]:=by
 cases r with
 |nil=>exact absurd h2 (by decide)
 |cons a r=>cases r with
  |nil=>exact absurd h2 (show ¬2<=1 by decide)
  |cons b r=>cases r with
   |nil=>exact .inl ⟨a,b,rfl⟩
   |cons c r=>cases r with
    |nil=>exact .inr ⟨a,b,c,rfl⟩
    |cons e r=>exact absurd h3 (Nat.not_le_of_lt (Nat.le_add_left 4 _))
theorem qMU(d:Nat)(R:Rep st H)(hb:st.bk k=some B)(hr:B.rows[n]?=some r)(h2:2<=r.length)(h3:r.length<=3)(hs:spot=0\/spot=1)(W:Wb B P)(hn:P n)(hw:∀l∈r.take 2,n∈B.wt l.1) :
  ∃B' H',Cl (d+7) H 13 [.inst 0 (bs st.bb k),.inst 1 1,.int n,.int spot] .none H'/\Rep (st.sB k B') H'/\Rw B B' P n (sp st.D spot r):=by
 delta n st H k B P spot r d at R hb hr h2 h3 hs W hn hw
 have hln:=qKz R hb hr
 have hrg:biAV .range false [.int 2,.int (r.length:Int)] H=some (.rng 2 r.length,H):=qKO (by decide) (Nat.lt_of_le_of_lt h3 (by decide))
 have scl:=s_cl R hb hr
 have hrow:=R.lrow hb hr
 have idle:Cl (d+7) H 13 [.inst 0 (bs st.bb k),.inst 1 1,.int n,.int spot] .none H->sp st.D spot r=r->∃B' H',Cl (d+7) H 13 [.inst 0 (bs st.bb k),.inst 1 1,.int n,.int spot] .none H'/\Rep (st.sB k B') H'/\Rw B B' P n (sp st.D spot r) :=
  fun c e=>⟨B,H,c,(qHk hb).symm▸R,e.symm▸Rw.refl hr W hw⟩
 rcases qCy h2 h3 with E_|E_
 .injection E_ with a b;rintro rfl
  have it:iterE false H (.rng 2 (([a,b]:List Lit).length:Int))=some ([],none):=rfl
  refine idle (C_imp (fn:=fn13) rfl rfl rfl (by exists scl,hln,hrg,it) rfl) ?_
  rcases hs with rfl|rfl<;>rfl
 injection E_ with a b c;rintro rfl
 have hl:=qBr d R c
 have s2:subAV (.ref (B.ca n)) (.int 2) H=some (lav c):=qAd (m:=2) hrow rfl
 have it:iterE false H (.rng 2 (([a,b,c]:List Lit).length:Int))=some ([.int 2],none):=rfl
 by_cases hc:hold st.D c = -1
 .refine idle (C_imp (fn:=fn13) rfl rfl rfl (by exists scl,hln,hrg,it,s2,hl,eq_m hc) rfl) ?_
  rcases hs with rfl|rfl<;>exact if_pos hc
 injection (by
  rcases hs with rfl|rfl
  .exact ⟨a,b,c,b,_,_,rfl,if_neg hc,rfl,rfl,rfl,rfl,rfl,fun _ h e=>h e.symm,fun l h=>(List.mem_cons.mp h).imp id List.mem_singleton.mp,.tail _ (.head _),.head _⟩
  .exact ⟨b,a,a,c,_,_,rfl,if_neg hc,rfl,rfl,rfl,rfl,rfl,fun h _ e=>h e.symm,fun l h=>((List.mem_cons.mp h).imp id List.mem_singleton.mp).symm,.head _,.tail _ (.head _)⟩:∃(p q x0 x1:Lit) (r1 r2:List Lit),[a,b,c][spot]?=some p/\sp st.D spot [a,b,c]=r2/\r1=[a,b,c].set spot c/\r2=r1.set 2 p/\r2[0]?=some x0/\r2[1]?=some x1/\r2[spot]?=some c/\(p.1≠x0.1->p.1≠x1.1->q.1≠p.1)/\(∀l∈r2.take 2,l=c\/l=q)/\q∈[a,b,c].take 2/\p∈[a,b,c].take 2)with p q x0 x1 r1 r2;rintro⟨hp,e1,e2,e3,e4,e5,e6,e7,e8⟩
 rw[e1]
 have lt2:spot<2:=by rcases hs with rfl|rfl<;>decide
 have R1:=R.row hb hr r1
 have a1:qAu (.ref (B.ca n)) (.int spot) (lav c) H=some (H.set (B.ca n) (.list (r1.map lav))):=by rw[qIN hrow (Nat.lt_succ_of_lt lt2),e2]
 generalize H.set (B.ca n) _=H1 at R1 a1
 have hn1:=(List.getElem?_eq_some_iff.mp hr).1
 have hr1:(B.rows.set n r1)[n]?=some r1:=List.getElem?_set_self hn1
 have R2:=R1.row sB_at hr1 r2
 have a2:qAu (.ref (B.ca n)) (.int 2) (lav p) H1=some (H1.set (B.ca n) (.list (r2.map lav))):=by rw[e3];exact qIN (m:=2) (R1.lrow sB_at hr1) (by rw[e2,List.length_set];exact Nat.lt_succ_self 2) p
 generalize H1.set _ _=H2 at R2 a2
 rw[sB_sB]at R2
 have e9:((B.rows.set n r1).set n r2)=B.rows.set n r2:=qEW
 have R2:Rep (st.sB k { B with rows:=B.rows.set n r2 }) H2:=e9▸R2
 have hb2:(st.sB k { B with rows:=B.rows.set n r2 }).bk k=some { B with rows:=B.rows.set n r2 }:=sB_at
 have hr2:(B.rows.set n r2)[n]?=some r2:=List.getElem?_set_self hn1
 have row2:=R2.lrow hb2 hr2
 have t0:subAV (.ref (B.ca n)) (.int 0) H2=some (lav x0):=qAd (m:=0) row2 e4
 have t1:subAV (.ref (B.ca n)) (.int 1) H2=some (lav x1):=qAd (m:=1) row2 e5
 have tp:subAV (.ref (B.ca n)) (.int spot) H=some (lav p):=qAd hrow hp
 have hpw:=hw p e8.2.2
 have E_:∃g wt3 H3,Ev (d+6) [(29,.inst 0 (bs st.bb k)),(24,.inst 1 1),(35,.int n),(25,.int spot),(41,.ref (B.ca n)),(12,.int 2),(42,.int p.1.val)] H2 40 (.band [(.cmp .ne (.var 42) (.sub (.sub (.var 41) (.lit (.int 0))) (.lit (.int 0)))),(.cmp .ne (.var 42) (.sub (.sub (.var 41) (.lit (.int 1))) (.lit (.int 0))))]) (.bool g) H2 /\
   Sx (d+6) 17 [(29,.inst 0 (bs st.bb k)),(24,.inst 1 1),(35,.int n),(25,.int spot),(41,.ref (B.ca n)),(12,.int 2),(42,.int p.1.val)] H2 g [(.expr (.callM (.sub (.attr (.var 29) 33) (.var 42)) 2 [(.var 35)]))] [] .next [(29,.inst 0 (bs st.bb k)),(24,.inst 1 1),(35,.int n),(25,.int spot),(41,.ref (B.ca n)),(12,.int 2),(42,.int p.1.val)] H3 /\
   Rep (st.sB k { B with rows:=B.rows.set n r2,wt:=wt3 }) H3/\Wb { B with rows:=B.rows.set n r2,wt:=wt3 } P/\(∀m z,m≠n->m∈B.wt z->m∈wt3 z)/\n∈wt3 q.1:=by
  have W2:Wb { B with rows:=B.rows.set n r2 } P:=⟨W.only,W.zero,W.nd,W.kn,W.lt⟩
  by_cases d0:p.1=x0.1
  .exact ⟨false,B.wt,H2,(by exists t0,t1,qNe (congrArg Fin.val d0)),Sx_f S_nil,R2,W2,fun _ _ _ h=>h,hw q e8.2.1⟩
  by_cases d1:p.1=x1.1
  .exact ⟨false,B.wt,H2,(by exists t0,t1,qL9 (fun e=>d0 (Fin.eq_of_val_eq e)),qNe (congrArg Fin.val d1)),Sx_f S_nil,R2,W2,fun _ _ _ h=>h,hw q e8.2.1⟩
  injection R2.wt hb2 with w;rintro⟨wd,wl⟩
  have hks:p.1∈B.ks:=Classical.byContradiction fun z=>qA5 (W.zero _ z▸hpw)
  obtain⟨ew,Rw⟩:=wl p.1 hks
  have sw:subAV (.ref (bs st.bb k+4)) (.int (p.1.val:Int)) H2=some (.ref (w p.1)):=(qJv wd).trans ((qBe p.1).trans (if_pos hks))
  have rm:=qKI ew hpw
  have R3:=Rw ((B.wt p.1).erase n)
  rw[sB_sB]at R3
  refine⟨true,setF B.wt p.1 ((B.wt p.1).erase n),_,?_,Sx_t ?_,R3,?_,fun m z hm h=>?_,?_⟩
  .exists t0,t1,qL9 (fun e=>d0 (Fin.eq_of_val_eq e)),qL9 (fun e=>d1 (Fin.eq_of_val_eq e))
  .exists sw,qKH ew,rm
  .exact W2.erase p.1 n
  .by_cases e:z=p.1
   .rw [e,qAF];exact(List.mem_erase_of_ne hm).mpr (e▸h)
   .rw [qAG e];exact h
  .rw [qAG (e7 d0 d1)];exact hw q e8.2.1
 injection E_ with g wt3 H3;rintro⟨hg,hif,R3,W3,k3,q3⟩
 have hb3:(st.sB k { B with rows:=B.rows.set n r2,wt:=wt3 }).bk k=some { B with rows:=B.rows.set n r2,wt:=wt3 }:=sB_at
 have row3:=R3.lrow hb3 hr2
 have tc:subAV (.ref (B.ca n)) (.int spot) H3=some (lav c):=qAd row3 e6
 injection qFt (d+5) R3 hb3 W3 c.1 n with H4;rintro⟨cw,R4⟩
 rw[sB_sB]at R4
 refine⟨_,H4,C_imp (fn:=fn13) rfl rfl rfl (by exists scl,hln,hrg,it,s2,hl,ne_m hc,tp,a1,a2,hg,hif,tc,cw) rfl,R4,⟨rfl,rfl,rfl,rfl,W3.wat hn c.1,fun m z hm h=>?_,fun l hl=>?_⟩⟩
 .show m∈setF wt3 c.1 (insL (wt3 c.1) n) z
  by_cases e:z=c.1
  .rw [e,qAF];exact qDl.mpr (.inl (e▸k3 m z hm h))
  .rw [qAG e];exact k3 m z hm h
 .show n∈setF wt3 c.1 (insL (wt3 c.1) n) l.1
  by_cases e:l.1=c.1
  .rw [e,qAF];exact qDl.mpr (.inr rfl)
  .rw [qAG e];exact(e8.1 l hl).elim (fun z=>absurd (congrArg Prod.fst z) e) fun z=>z▸q3
end
end
section
noncomputable def stp(D:Fin 3->Dm)(spot:Nat)(r:List Lit):List Lit:=if(r[spot]?).any (fun p=>decide (hold D p = -1))then sp D spot r else r
noncomputable def Jr(D:Fin 3->Dm)(r:List Lit):Prop:=∃a b t,r=a::b::t/\(hold D a=1\/hold D b=1\/hold D a=0/\hold D b=0)
inductive Vo (D:Fin 3->Dm) (s:St) (r:List Lit):Bool->St->Prop
 |stand:Jr D r->Vo D s r true s
 |force (l:Lit) (rest:List Lit):hold D l=0->(l::rest).Perm r->(∀m∈rest,hold D m = -1)->l∈r.take 2->Vo D s r true (s.enter l (some (rest.map negL)))
 |fail:(∀m∈r,hold D m = -1)->Vo D s r false (s.failed (r.map negL))
section
variable{n:Nat}{st:St}{H:AHeap}{k:Bool}{B:Bk}{P:Nat->Prop}{spot:Nat}{r:List Lit}{l:Lit}{D:Fin 3->Dm}
theorem qIP(n:Nat):qAJ 0 (n:Int)=(List.range n).map fun(k:Nat)=>AV.int (k:Int):=by
 unfold qAJ
 rw[Int.sub_zero,Int.toNat_natCast]
 exact List.map_congr_left fun i _=>by rw[Int.zero_add]
theorem qIi(d:Nat)(R:Rep st H)(hb:st.bk k=some B)(hr:B.rows[n]?=some r)(h2:2<=r.length)(h3:r.length<=3)(hs:spot=0\/spot=1)(hl:r[spot]?=some l)(hm:∀l∈r,mid l)
 (h0:cut l (st.D l.1)≠0)(h1:cut l (st.D l.1)≠st.D l.1)(ht:st.tr.length<900000)(hn:st.nw.Nodup) :
  ∃H',Cl (d+7) H 14 [.inst 0 (bs st.bb k),.inst 1 1,.int n,.int spot] (.bool true) H'/\Rep (st.enter l (some ((r.eraseIdx spot).map negL))) H':=by
 delta n st H k B spot r l d at R hb hr h2 h3 hs hl hm h0 h1 ht hn
 injection qGk d R ((r.eraseIdx spot).map negL) h0 h1 ht hn with H';rintro⟨c,R'⟩
 have row:=R.lrow hb hr
 have hlc:Lc (d+6) 37 (.callF 4 [.sub (.var 41) (.var 12)]) (.name 12) [.cmp .ne (.var 12) (.var 25)] H none [(29,.inst 0 (bs st.bb k)),(24,.inst 1 1),(35,.int n),(25,.int spot),(41,.ref (B.ca n))] H (qAJ 0 (r.length:Int)) (((r.eraseIdx spot).map negL).map lav) H:=by
  have:=qDx (d:=d+6) (n:=37) (v:=12) (elt:=.callF 4 [.sub (.var 41) (.var 12)]) (ifs:=[.cmp .ne (.var 12) (.var 25)]) (src:=none) (H:=H) (e:=fun k:Nat=>.int (k:Int)) (f:=fun k=>match r[k]? with|some l=>lav (negL l)|none=>.none) (g:=fun k=>!decide (k=spot)) (List.range r.length) (ρ:=[(29,.inst 0 (bs st.bb k)),(24,.inst 1 1),(35,.int n),(25,.int spot),(41,.ref (B.ca n))]) (fun k hk ρ' q1 q2=>by
   have l25:=q2 25 rfl
   have l41:=q2 41 rfl
   have hk:=List.getElem?_eq_getElem (List.mem_range.mp hk)
   have s1:subAV (.ref (B.ca n)) (.int (k:Int)) H=some (lav _):=qAd row hk
   rw[hk]
   refine⟨?_,fun _=>?_⟩
   .have c1:cmpAV .ne (.int (k:Int)) (.int (spot:Int)) H=some (!decide (k=spot)):=congrArg (fun z=>some !z) (decide_eq_decide.mpr Int.ofNat_inj)
    generalize (!decide (k=spot))=g at c1 ⊢
    have ev:Ev (d+6) ρ' H 37 (.cmp .ne (.var 12) (.var 25)) (.bool g) H:=by exists q1,l25,c1
    cases g
    .exact qB5 ev Et_no
    .exact qB5 ev qDX
   .exists q1,l41,s1,Cl_of (qGD (d+5) (hm _ (List.mem_of_getElem? hk))))
  rw[<-qIP]at this
  rcases qCy h2 h3 with⟨a,b,rfl⟩|⟨a,b,c,rfl⟩<;>rcases hs with rfl|rfl<;>exact this
 have hrg:biAV .range false [.int (r.length:Int)] H=some (.rng 0 r.length,H):=qEY (Nat.lt_of_le_of_lt h3 (by decide))
 exact⟨H',C_imp (fn:=fn14) rfl rfl rfl (by exists s_cl R hb hr,qAd row hl,qKz R hb hr,hrg,hlc,qEO,c) rfl,R'⟩
theorem qNy(h2:2<=r.length)(h3:r.length<=3)(hs:spot=0\/spot=1):(sp D spot r).Perm r:=by
 rcases qCy h2 h3 with⟨a,b,rfl⟩|⟨a,b,c,rfl⟩
 .rcases hs with rfl|rfl<;>exact .refl _
 .by_cases hc:hold D c = -1
  .rcases hs with rfl|rfl<;>(show(if hold D c = -1 then[a,b,c]else _).Perm _;rw[if_pos hc])
  .rcases hs with rfl|rfl
   .show (if hold D c = -1 then[a,b,c]else[c,b,a]).Perm _;rw[if_neg hc];exact List.reverse_perm [a,b,c]
   .show (if hold D c = -1 then[a,b,c]else[a,c,b]).Perm _;rw[if_neg hc];exact .cons a (.swap b c [])
theorem qIJ(h2:2<=r.length)(h3:r.length<=3)(hs:spot=0\/spot=1):(stp D spot r).Perm r:=by
 unfold stp
 split
 .exact qNy h2 h3 hs
 .exact .refl _
theorem qNv(h2:2<=r.length)(h3:r.length<=3):∃a b t,stp D 1 (stp D 0 r)=a::b::t/\(hold D a = -1\/hold D b = -1->∀m∈t,hold D m = -1):=by
 rcases qCy h2 h3 with⟨a,b,rfl⟩|⟨a,b,c,rfl⟩
 .refine ⟨a,b,[],?_,fun _ m h=>qA5 h⟩
  unfold stp;rw[show sp D 0 [a,b]=[a,b]from rfl,ite_self,show sp D 1 [a,b]=[a,b]from rfl,ite_self]
 have s0:∀x y z,stp D 0 [x,y,z]=if hold D x = -1 then(if hold D z = -1 then[x,y,z]else[z,y,x])else[x,y,z]:=fun x y z=>ite_congr (propext decide_eq_true_iff) (fun _=>rfl) fun _=>rfl
 have s1:∀x y z,stp D 1 [x,y,z]=if hold D y = -1 then(if hold D z = -1 then[x,y,z]else[x,z,y])else[x,y,z]:=fun x y z=>ite_congr (propext decide_eq_true_iff) (fun _=>rfl) fun _=>rfl
 by_cases hc:hold D c = -1
 .exact ⟨a,b,[c],by rw[s0,if_pos hc,ite_self,s1,if_pos hc,ite_self],fun _ m h=>List.mem_singleton.mp h▸hc⟩
 by_cases ha:hold D a = -1
 .exact ⟨c,b,[a],by rw[s0,if_pos ha,if_neg hc,s1,if_pos ha,ite_self],fun _ m h=>List.mem_singleton.mp h▸ha⟩
 by_cases hb:hold D b = -1
 .exact ⟨a,c,[b],by rw[s0,if_neg ha,s1,if_pos hb,if_neg hc],fun _ m h=>List.mem_singleton.mp h▸hb⟩
 .exact ⟨a,b,[c],by rw[s0,if_neg ha,s1,if_neg hb],fun h=>h.elim (absurd · ha) (absurd · hb)⟩
noncomputable def rhoV(b:Nat)(n spot:Nat)(c:Nat):Rho:=[(29,.inst 0 b),(24,.inst 1 1),(35,.int n),(41,.ref c),(25,.int spot)]
theorem qJy(d:Nat)(R:Rep st H)(hb:st.bk k=some B)(hr:B.rows[n]?=some r)(h2:2<=r.length)(h3:r.length<=3)(hs:spot=0\/spot=1)(W:Wb B P)(hn:P n)(hw:∀l∈r.take 2,n∈B.wt l.1) :
  ∃B' H',Ss (d+7) 19 (rhoV (bs st.bb k) n spot (B.ca n)) H [(.ife (.cmp .eq (.callM (.var 24) 36 [(.sub (.var 41) (.var 25))]) (.neg (.lit (.int 1)))) [(.expr (.callM (.var 29) 48 [(.var 24),(.var 35),(.var 25)]))] [])] .next (rhoV (bs st.bb k) n spot (B.ca n)) H'/\Rep (st.sB k B') H'/\Rw B B' P n (stp st.D spot r):=by
 delta n st H k B P spot r d at R hb hr h2 h3 hs W hn hw
 have lt:spot<r.length:=Nat.lt_of_lt_of_le (by rcases hs with rfl|rfl<;>decide) h2
 have e:=List.getElem?_eq_getElem lt
 have hh:=qBr (d+1) R r[spot]
 have ss:=qAd (R.lrow hb hr) e
 unfold rhoV stp
 rw[e]
 show ∃B' H',_/\_/\Rw B B' P n (if decide (hold st.D r[spot] = -1)=true then sp st.D spot r else r)
 by_cases h:hold st.D r[spot] = -1
 .rw [if_pos (decide_eq_true h)]
  rw[h]at hh
  injection qMU d R hb hr h2 h3 hs W hn hw with B' H';rintro⟨c,R',w⟩
  exact⟨B',H',(by exists ss,hh,c),R',w⟩
 .rw [if_neg (show ¬decide (hold st.D r[spot] = -1)=true from fun z=>h (of_decide_eq_true z))]
  have c1:cmpAV .eq (.int (hold st.D r[spot])) (.int (-1)) H=some false:=congrArg some (decide_eq_false h)
  exact⟨B,H,(by exists ss,hh,c1),(qHk hb).symm▸R,Rw.refl hr W hw⟩
theorem qDm(D:Fin 3->Dm)(l:Lit):hold D l=1\/hold D l = -1\/hold D l=0:=by
 unfold hold said
 split
 .exact .inl rfl
 .split
  .exact .inr (.inl rfl)
  .exact .inr (.inr rfl)
theorem qDy(h:hold D l=0):cut l (D l.1)≠D l.1/\cut l (D l.1)≠0:=by
 unfold hold said at h
 by_cases h1:cut l (D l.1)=D l.1
 .rw [if_pos h1]at h;cases h
 .rw [if_neg h1]at h
  exact⟨h1,fun h0=>by rw[if_pos h0]at h;cases h⟩
theorem qIE(d:Nat)(R:Rep st H)(hb:st.bk k=some B)(hr:B.rows[n]?=some r)(h2:2<=r.length)(h3:r.length<=3)(W:Wb B P)(hn:P n)(hw:∀l∈r.take 2,n∈B.wt l.1)(hm:∀l∈r,mid l)(ht:st.tr.length<900000)(hnw:st.nw.Nodup) :
  ∃B' r' res st' H',Cl (d+8) H 15 [.inst 0 (bs st.bb k),.inst 1 1,.int n] (.bool res) H'/\Rep st' H'/\Rw B B' P n r'/\r'.Perm r/\Vo st.D (st.sB k B') r' res st':=by
 delta n st H k B P r d at R hb hr h2 h3 W hn hw hm ht hnw
 have hn0:=(List.getElem?_eq_some_iff.mp hr).1
 injection qJy d R hb hr h2 h3 (.inl rfl) W hn hw with B1 H1;rintro⟨s0,R1,w1⟩
 have p1:=qIJ (D:=st.D) h2 h3 (.inl rfl:(0:Nat)=0\/_)
 have hr1:B1.rows[n]?=some (stp st.D 0 r):=by rw[w1.rows];exact List.getElem?_set_self hn0
 injection qJy d R1 sB_at hr1 (by rw[p1.length_eq];exact h2) (by rw[p1.length_eq];exact h3) (.inr rfl) w1.W hn w1.hw with B2 H2;rintro⟨s1,R2,w2⟩
 rw[sB_sB]at R2
 have p2:=(qIJ (D:=st.D) (spot:=1) (by rw[p1.length_eq];exact h2) (by rw[p1.length_eq];exact h3) (.inr rfl)).trans p1
 have w:=w1.trans w2
 have hr2:B2.rows[n]?=some (stp st.D 1 (stp st.D 0 r)):=by rw[w.rows];exact List.getElem?_set_self hn0
 have e1:B1.ca n=B.ca n:=congrFun w1.ca n
 have e2:B2.ca n=B.ca n:=congrFun w.ca n
 have s1:Ss (d+7) 19 (rhoV (bs st.bb k) n 1 (B.ca n)) H1 _ .next (rhoV (bs st.bb k) n 1 (B.ca n)) H2:=e1▸s1
 have R2:Rep (st.sB k B2) H2:=R2
 have w:Rw B B2 P n (stp st.D 1 (stp st.D 0 r)):=w
 injection qNv (D:=st.D) h2 h3 with a b t;rintro⟨e,hq⟩
 rw[e]at hr2 p2 w
 have hb2:(st.sB k B2).bk k=some B2:=sB_at
 have row:=R2.lrow hb2 hr2
 rw[e2]at row
 have ta:subAV (.ref (B.ca n)) (.int 0) H2=some (lav a):=qAd (m:=0) row rfl
 have tb:subAV (.ref (B.ca n)) (.int 1) H2=some (lav b):=qAd (m:=1) row rfl
 have ha:Cl (d+7) H2 22 [.inst 1 1,lav a] (.int (hold st.D a)) H2:=qBr (d+1) R2 a
 have hb':Cl (d+7) H2 22 [.inst 1 1,lav b] (.int (hold st.D b)) H2:=qBr (d+1) R2 b
 have scl:=s_cl R hb hr
 have hor:∃g,Ev (d+7) (upd 45 (.int (hold st.D b)) (upd 44 (.int (hold st.D a)) (rhoV (bs st.bb k) n 1 (B.ca n)))) H2 40 (.bor [(.cmp .eq (.var 44) (.lit (.int 1))),(.cmp .eq (.var 45) (.lit (.int 1))),(.band [(.cmp .eq (.var 44) (.lit (.int 0))),(.cmp .eq (.var 45) (.lit (.int 0)))])]) (.bool g) H2 /\
   (g=true->hold st.D a=1\/hold st.D b=1\/hold st.D a=0/\hold st.D b=0)/\(g=false->hold st.D a = -1/\hold st.D b = -1\/hold st.D a = -1/\hold st.D b=0\/hold st.D a=0/\hold st.D b = -1):=by
  have qa:=qDm st.D a
  have qb:=qDm st.D b
  clear ha hb' hq
  generalize hold st.D a=x at qa ⊢
  generalize hold st.D b=y at qb ⊢
  rcases qa with rfl|rfl|rfl<;>rcases qb with rfl|rfl|rfl
  .exact ⟨true,(by exists E_lit),fun _=>.inl rfl,nofun⟩
  .exact ⟨true,(by exists E_lit),fun _=>.inl rfl,nofun⟩
  .exact ⟨true,(by exists E_lit),fun _=>.inl rfl,nofun⟩
  .exact ⟨true,(by exists E_lit),fun _=>.inr (.inl rfl),nofun⟩
  .exact ⟨false,(by exists E_lit),nofun,fun _=>.inl ⟨rfl,rfl⟩⟩
  .exact ⟨false,(by exists E_lit),nofun,fun _=>.inr (.inl ⟨rfl,rfl⟩)⟩
  .exact ⟨true,(by exists E_lit),fun _=>.inr (.inl rfl),nofun⟩
  .exact ⟨false,(by exists E_lit),nofun,fun _=>.inr (.inr ⟨rfl,rfl⟩)⟩
  .exact ⟨true,(by exists E_lit),fun _=>.inr (.inr ⟨rfl,rfl⟩),nofun⟩
 injection hor with g;rintro⟨hor,g1,g2⟩
 cases g with
 |true=>exact⟨B2,_,true,_,H2,C_imp (fn:=fn15) rfl rfl rfl (by exists scl,s0,s1,ta,tb,ha,hb',hor) rfl,R2,w,p2,.stand ⟨a,b,t,rfl,g1 rfl⟩⟩
 |false =>
  have l2:2<=(a::b::t).length:=by rw[p2.length_eq];exact h2
  have l3:(a::b::t).length<=3:=by rw[p2.length_eq];exact h3
  have hm2:∀l∈a::b::t,mid l:=fun l h=>hm l (p2.mem_iff.mp h)
  rcases g2 rfl with⟨x,y⟩|⟨x,y⟩|⟨x,y⟩
  .injection qLL (d+6) R2 ((a::b::t).map negL)with H3;rintro⟨c,R3⟩
   rw[x]at ha hor;rw[y]at hb' hor
   exact⟨B2,_,false,_,H3,C_imp (fn:=fn15) rfl rfl rfl (by exists scl,s0,s1,ta,tb,ha,hb',hor,qCW row,qKk (d+6) 35 _ hm2,qEO,c) rfl,R3,w,p2,.fail fun m h=>(List.mem_cons.mp h).elim (fun z=>z▸x) fun h=>(List.mem_cons.mp h).elim (fun z=>z▸y) (hq (.inl x) m)⟩
  .have z:=qDy y
   injection qIi d R2 sB_at hr2 l2 l3 (.inr rfl) (l:=b) rfl hm2 z.2 z.1 ht hnw with H3;rintro⟨c,R3⟩
   rw[x]at ha hor;rw[y]at hb' hor
   exact⟨B2,_,true,_,H3,C_imp (fn:=fn15) rfl rfl rfl (by exists scl,s0,s1,ta,tb,ha,hb',hor,c) rfl,R3,w,p2,.force b (a::t) y (.swap a b t) (fun m h=>(List.mem_cons.mp h).elim (fun z=>z▸x) (hq (.inl x) m)) (.tail _ (.head _))⟩
  .have z:=qDy x
   injection qIi d R2 sB_at hr2 l2 l3 (.inl rfl) (l:=a) rfl hm2 z.2 z.1 ht hnw with H3;rintro⟨c,R3⟩
   rw[x]at ha hor;rw[y]at hb' hor
   exact⟨B2,_,true,_,H3,C_imp (fn:=fn15) rfl rfl rfl (by exists scl,s0,s1,ta,tb,ha,hb',hor,c) rfl,R3,w,p2,.force a (b::t) x (.refl _) (fun m h=>(List.mem_cons.mp h).elim (fun z=>z▸y) (hq (.inr y) m)) (.head _)⟩
end
end
section
noncomputable def upE(D:Fin 3->Dm)(e:Ent):Fin 3->Dm:=setF D e.lit.1 (cut e.lit (D e.lit.1))
noncomputable def run(D:Fin 3->Dm)(tr:List Ent):Fin 3->Dm:=tr.foldl upE D
noncomputable def Val:(Fin 3->Dm)->List Ent->Prop
 |_,[]=>True
 |D,e::r=>(e.old=D e.lit.1/\cut e.lit e.old≠0/\cut e.lit e.old≠e.old/\mid e.lit)/\Val (upE D e) r
section
variable{st:St}{H:AHeap}{l m:Lit}{D D':Fin 3->Dm}{tr es:List Ent}{e:Ent}{v:AV}{n i:Nat}{src:Option Nat}
theorem qDc(D:Fin 3->Dm)(tr es:List Ent):run D (tr++es)=run (run D tr) es:=List.foldl_append
theorem qBv:∀{tr:List Ent}{D:Fin 3->Dm},Val D (tr++es)↔Val D tr/\Val (run D tr) es
 |[],D=>⟨fun h=>⟨trivial,h⟩,fun h=>h.2⟩
 |e::tr,D=>⟨fun h=>⟨⟨h.1,(qBv.mp h.2).1⟩,(qBv.mp h.2).2⟩,fun h=>⟨h.1.1,qBv.mpr ⟨h.1.2,h.2⟩⟩⟩
theorem up_nz(h:∀x,D x≠0)(q:cut e.lit (D e.lit.1)≠0):∀x,upE D e x≠0:=fun x=>by
 unfold upE
 by_cases z:x=e.lit.1
 .rw [z,qAF];exact q
 .rw [qAG z];exact h x
theorem qKB:∀{tr:List Ent}{D:Fin 3->Dm},(∀x,D x≠0)->Val D tr->∀x,run D tr x≠0
 |[],_,h,_=>h
 |e::_,D,h,v=>qKB (D:=upE D e) (up_nz h (v.1.1▸v.1.2.1)) v.2
theorem qOz(h:cut l (D l.1)=0)(e:Ent):cut l (upE D e l.1)=0:=by
 unfold upE
 by_cases z:l.1=e.lit.1
 .rw [z,qAF,qLb,<-z,h,qN8]
 .rw [qAG z];exact h
theorem qKD:∀{tr:List Ent}{D:Fin 3->Dm},cut l (D l.1)=0->cut l (run D tr l.1)=0
 |[],_,h=>h
 |e::_,D,h=>qKD (D:=upE D e) (qOz h e)
theorem up_so(h:cut l (D l.1)=D l.1)(e:Ent):cut l (upE D e l.1)=upE D e l.1:=by
 unfold upE
 by_cases z:l.1=e.lit.1
 .rw [z,qAF,qLb,<-z,h]
 .rw [qAG z];exact h
theorem qNO:∀{tr:List Ent}{D:Fin 3->Dm},cut l (D l.1)=D l.1->cut l (run D tr l.1)=run D tr l.1
 |[],_,h=>h
 |e::_,D,h=>qNO (D:=upE D e) (up_so h e)
noncomputable def isF(D:Fin 3->Dm)(l:Lit):Bool:=decide (cut l (D l.1)=0)
noncomputable def qAl(D:Fin 3->Dm):AV:=.lst (l3 fun x=>lot (D x))
theorem qH3{f:Fin 3->AV}(h:∀x,(f x).plain=true):qAk (l3 f)=true:=by
 show((f 0).plain&&((f 1).plain&&((f 2).plain&&true)))=true
 rw[h,h,h];rfl
theorem qFZ(D:Fin 3->Dm):(qAl D).plain=true:=qH3 fun x=>qEh (D x)
theorem qIH(D:Fin 3->Dm)(x:Fin 3):subAV (qAl D) (.int (x.val:Int)) H=some (lot (D x)):=by
 show(idx 3 _).bind _=_
 rw[idx_at rfl (show x.val<3 from x.isLt)];exact l3_at _ x
theorem qIq(d:Nat)(h:mid l)(D:Fin 3->Dm):Cl (d+2) H 36 [lav l,qAl D] (.bool (!isF D l)) H :=
 qHY (fn:=fn36) rfl rfl (qCd rfl (qFZ D)) rfl (by exists qIH D l.1,Cl_of (qEm d h (D l.1)),qOM) rfl
theorem so_cl(d:Nat)(h:mid l)(D:Fin 3->Dm):Cl (d+2) H 37 [lav l,qAl D] (.bool (decide (cut l (D l.1)=D l.1))) H :=
 qHY (fn:=fn37) rfl rfl (qCd rfl (qFZ D)) rfl (by exists qIH D l.1,Cl_of (qEm d h (D l.1)),qPL) rfl
theorem qPu{d f:Nat}{vs:List AV}{ρ ρ':Rho}{F:Fl}{fn:FnC}{L:AHeap}(hl:PP.fns.lookup f=some fn)(hp:fn.pure=true)(ha:qAk vs=false)(hb:bindP fn.params fn.dflt vs=some ρ)(h:Ss d 20 ρ H fn.body F ρ' (H++L))(hf:qBM H (H++L) (flVal F)=some v):Cl (d+1) H f vs v H:=by
 delta Cl Ss at *
 rw[qEL hl hb,hp,ha,h]
 show(if qDn ((H++L).take H.length) H then(qBM H (H++L) (flVal F)).map fun v=>(v,H)else none)=_
 rw[List.take_left,qDz,hf];rfl
theorem qO5{a b:AObj}:(H++[a]).set H.length b=H++[b]:=by rw[List.set_append_right _ _ (Nat.le_refl _),Nat.sub_self];rfl
theorem qKs(d n:Nat)(hs:∀x y,qAa (H++[x]) (H++[y]) src=true){o:AObj}:∀(tr:List Ent) (D:Fin 3->Dm) (ρ:Rho),(∀e∈tr,mid e.lit)->ρ.lookup 77=some (.ref H.length) ->
  ∃ρ',Lf (d+1) (n+1) (.name 26) [(.asg (.sub (.var 77) (.sub (.var 26) (.lit (.int 0)))) (.callF 34 [(.sub (.var 26) (.lit (.int 2))),(.sub (.var 77) (.sub (.var 26) (.lit (.int 0))))]))] (H++[o]) src ρ (H++[.list (l3 fun x=>lot (D x))]) (tr.map entAV) .next ρ' (H++[.list (l3 fun x=>lot (run D tr x))])/\ρ'.lookup 77=some (.ref H.length)
 |[],D,ρ,_,h=>⟨ρ,qIw (hs _ _),h⟩
 |e::tr,D,ρ,hm,h=>by
  have h':(upd 26 (entAV e) ρ).lookup 77=some (.ref H.length):=(qAA rfl).trans h
  obtain⟨ρ',w,q⟩:=qKs d n hs tr (upE D e) (upd 26 (entAV e) ρ) (fun x hx=>hm x (.tail _ hx)) h'
  have s1:=qGj (qIB (H:=H) (o:=.list (l3 fun x=>lot (D x)))) e.lit.1
  have a1:=qLu (v:=lot (cut e.lit (D e.lit.1))) (qIB (H:=H) (o:=.list (l3 fun x=>lot (D x)))) e.lit.1
  rw[qO5,qL1 lot D]at a1
  have c1:Cl (d+1) (H++[.list (l3 fun x=>lot (D x))]) 34 [lav e.lit,lot (D e.lit.1)] _ _:=Cl_of (qEm d (hm e (.head _)) (D e.lit.1))
  exact⟨ρ',qCG (hs _ _) rfl (by exists s1,c1,a1) w,q⟩
theorem qHw(d:Nat)(R:Rep st H)(hm:∀e∈tr,mid e.lit)(hs:∀x y,qAa (H++[x]) (H++[y]) src=true)(hv:∀x,iterE false (H++[x]) v=some (tr.map entAV,src)):Cl (d+2) H 38 [.ref 12,v] (qAl (run FC tr)) H:=by
 have ρ0:Rho:=[]
 have lc:Lc (d+1) 39 (.bi .list false [.var 76]) (.name 76) [] H (some 12) [(58,.ref 12),(27,v)] H (l3 fun x=>lot (FC x)) (l3 fun x=>lot (FC x)) H :=
  qBy (e:=fun x=>lot (FC x)) (f:=fun x=>lot (FC x)) [0,1,2] fun x _ ρ' h _=>by exists qIZ
 obtain⟨ρ',w,q⟩:=qKs (d:=d) (n:=18) hs (o:=.list (l3 fun x=>lot (FC x))) tr FC (upd 77 (.ref H.length) [(58,.ref 12),(27,v)]) hm rfl
 exact qPu (fn:=fn38) (L:=[_]) rfl rfl rfl rfl (by exists qCW R.l12,lc,hv _,w) (qJP qIB (Nat.le_refl _) (qH3 fun x=>qEh _))
end
end
section
noncomputable def fallT(tr:List Ent)(l:Lit):Int:=match(List.range (tr.length+1)).find? fun s=>isF (run FC (tr.take s)) l with
 |some s=>(s:Int)-1
 |none=>tr.length
noncomputable def spotB(tr:List Ent)(l:Lit)(k:Nat):Bool:=(tr[k]?).any fun e=>decide (e.lit.1=l.1)&&decide (cut l (cut e.lit e.old)=0)
section
variable{d n:Nat}{st:St}{H:AHeap}{l m:Lit}{D D':Fin 3->Dm}{tr es:List Ent}{e:Ent}{ρ:Rho}{body:List CS}
theorem qGH{K:Rho->Prop}{p:Nat->Bool}{v:Nat->AV}:∀(ks:List Nat) {ρ:Rho},(∀k∈ks,∀ρ',K ρ'->(p k=true->∃ρ'',Ss d n (upd 25 (.int k) ρ') H body (.ret (v k)) ρ'' H)/\(p k=false->∃ρ'',K ρ''/\Ss d n (upd 25 (.int k) ρ') H body .next ρ'' H))->K ρ ->
  (∀k,ks.find? p=some k->∃ρ',Lf d n (.name 25) body H none ρ H (ks.map fun(k:Nat)=>AV.int (k:Int)) (.ret (v k)) ρ' H)/\(ks.find? p=none->∃ρ',K ρ'/\Lf d n (.name 25) body H none ρ H (ks.map fun(k:Nat)=>AV.int (k:Int)) .next ρ' H)
 |[],ρ,_,q=>⟨fun _ h=>(nomatch h),fun _=>⟨ρ,q,qIw qB9⟩⟩
 |j::ks,ρ,h,q=>by
  obtain⟨h1,h2⟩:=h j (.head _) ρ q
  rw[List.find?_cons]
  cases hp:p j with
  |true =>
   obtain⟨ρ',s⟩:=h1 hp
   exact⟨fun k e=>⟨ρ',Option.some.inj e▸qNp qB9 rfl s⟩,fun e=>(nomatch e)⟩
  |false =>
   obtain⟨ρ',q',s⟩:=h2 hp
   have ih:=qGH ks (fun k hk=>h k (.tail _ hk)) q'
   exact⟨fun k e=>(ih.1 k e).elim fun ρ2 w=>⟨ρ2,qCG qB9 rfl s w⟩,fun e=>(ih.2 e).elim fun ρ2 w=>⟨ρ2,w.1,qCG qB9 rfl s w.2⟩⟩
theorem qFk{p q:Nat->Bool}(h0:q 0=false):∀n:Nat,(∀j<n,q j=false->p j=q (j+1))->(List.range (n+1)).find? q=((List.range n).find? p).map (·+1)
 | 0,_=>by show(match q 0 with|true=>some 0|false=>none)=_;rw[h0];rfl
 |n+1,h=>by
  have ih:=qFk h0 n fun j hj=>h j (Nat.lt_succ_of_lt hj)
  rw[List.range_succ,List.find?_append,ih,List.range_succ (n:=n),List.find?_append]
  cases e:(List.range n).find? p with
  |some k=>rfl
  |none =>
   rw[e]at ih
   have hq:q n=false:=Bool.eq_false_iff.mpr fun z=>List.find?_eq_none.mp ih n (List.mem_range.mpr (Nat.lt_succ_self n)) z
   show(match q (n+1)with|true=>some (n+1)|false=>none)=(match p n with|true=>some n|false=>none).map (·+1)
   rw[h n (Nat.lt_succ_self n) hq]
   cases q (n+1)<;>rfl
theorem qOS{s:Nat}(h:isF (run FC (tr.take s)) l=true):isF (run FC tr) l=true:=by
 have:=qKD (tr:=tr.drop s) (of_decide_eq_true h)
 rw[<-qDc,List.take_append_drop]at this
 exact decide_eq_true this
theorem qJn{tr:List Ent}(V:Val FC tr){k:Nat}(h:tr[k]?=some e):e.old=run FC (tr.take k) e.lit.1/\mid e.lit/\run FC (tr.take (k+1))=upE (run FC (tr.take k)) e:=by
 have hk:=(List.getElem?_eq_some_iff.mp h).1
 have e1:tr.take (k+1)=tr.take k++[e]:=by rw[List.take_add_one,h];rfl
 have e2:tr=tr.take (k+1)++tr.drop (k+1):=(List.take_append_drop ..).symm
 rw[e2,e1,List.append_assoc]at V
 have V:=(qBv.mp V).2
 refine⟨V.1.1,V.1.2.2.2,?_⟩
 rw[e1,qDc];rfl
theorem qLK(V:Val FC tr)(h0:isF FC l=false):(List.range (tr.length+1)).find? (fun s=>isF (run FC (tr.take s)) l)=((List.range tr.length).find? (spotB tr l)).map (·+1):=by
 refine qFk (show isF (run FC (tr.take 0)) l=false from h0) _ fun j hj hq=>?_
 obtain⟨z1,_,z3⟩:=qJn V (List.getElem?_eq_getElem hj)
 have e:tr[j]?=some tr[j]:=List.getElem?_eq_getElem hj
 generalize tr[j]=e' at e z1 z3
 unfold spotB
 rw[e]
 show(decide (e'.lit.1=l.1)&&decide (cut l (cut e'.lit e'.old)=0))=isF (run FC (tr.take (j+1))) l
 unfold isF at hq ⊢
 rw[z3,z1]
 unfold upE
 by_cases q:l.1=e'.lit.1
 .rw [decide_eq_true q.symm,q,qAF];rfl
 .rw [decide_eq_false (Ne.symm q),qAG q,hq];rfl
theorem qNM(R:Rep st H){k:Nat}(h:st.tr[k]?=some e):subAV (.ref 4) (.int (k:Int)) H=some (entAV e):=by
 rw[qBh R.l4,idx_at rfl (by rw[List.length_map];exact(List.getElem?_eq_some_iff.mp h).1),Option.bind_some,List.getElem?_map,h];rfl
theorem qCN(hD:∀x,D x≠0)(l:Lit):hold D l = -1↔isF D l=true:=(qP7 (hD l.1)).trans decide_eq_true_iff.symm
noncomputable def qP4:List CS:=[(.asg (.name 26) (.sub (.attr (.var 24) 27) (.var 25))),(.ife (.band [(.cmp .eq (.sub (.var 26) (.lit (.int 0))) (.var 21)),(.cmp .eq (.callF 6 [(.var 20),(.callF 5 [(.sub (.var 26) (.lit (.int 2))),(.sub (.var 26) (.lit (.int 1)))])]) (.lit (.int 1)))]) [(.ret (some (.var 25)))] [])]
theorem qNx(d:Nat)(R:Rep st H)(h:mid l):(∀k,(List.range st.tr.length).find? (spotB st.tr l)=some k->∃ρ',Lf (d+5) 19 (.name 25) qP4 H none [(24,.inst 1 1),(20,lav (negL l)),(21,.int (l.1.val:Int))] H (qAJ 0 (st.tr.length:Int)) (.ret (.int k)) ρ' H):=by
 delta st H l d at R h
 rw[qIP]
 refine(qGH (K:=fun ρ=>ρ.lookup 24=some (.inst 1 1)/\ρ.lookup 20=some (lav (negL l))/\ρ.lookup 21=some (.int (l.1.val:Int))) (v:=fun k=>.int k) (List.range st.tr.length) (fun k hk ρ' q=>?_) ⟨rfl,rfl,rfl⟩).1
 revert hk q
 revert k ρ'
 intros k ρ'
 rintro hk ⟨l24,l20,l21⟩
 have e:=List.getElem?_eq_getElem (List.mem_range.mp hk)
 generalize st.tr[k]'(List.mem_range.mp hk)=e' at e
 delta e' at e
 have s1:=qNM R e
 have hp:spotB st.tr l k=(decide (e'.lit.1=l.1)&&decide (cut l (cut e'.lit e'.old)=0)):=by unfold spotB;rw[e];rfl
 have c1:cmpAV .eq (.int (e'.lit.1.val:Int)) (.int (l.1.val:Int)) H=some (decide (e'.lit.1=l.1)):=congrArg some (decide_eq_decide.mpr (Int.ofNat_inj.trans ⟨Fin.eq_of_val_eq,congrArg Fin.val⟩))
 have c2:cmpAV .eq (.int (said (negL l) (cut e'.lit e'.old))) (.int 1) H=some (decide (cut l (cut e'.lit e'.old)=0)):=congrArg some (decide_eq_decide.mpr (deny h _))
 rw[hp]
 generalize decide (e'.lit.1=l.1)=b1 at c1
 generalize decide (cut l (cut e'.lit e'.old)=0)=b2 at c2
 have c3:=qEU (H:=H) d (negL l) (cut e'.lit e'.old)
 have c4:=Cl_of (qBi (H:=H) (d+1) e'.lit e'.old)
 refine⟨fun hb=>?_,fun hb=>⟨upd 26 (entAV e') (upd 25 (.int k) ρ'),⟨?_,?_,?_⟩,?_⟩⟩
 .obtain ⟨rfl,rfl⟩:=Bool.and_eq_true_iff.mp hb
  exact⟨_,by exists s1,c1,c4,c3,c2⟩
 .exists l24
 .exists l20
 .exists l21
 .cases b1
  .exists s1,c1
  .obtain rfl:b2=false:=hb
   exists s1,c1,c4,c3,c2
theorem qOI(l:Lit):(negL l).1=l.1:=by unfold negL;split<;>rfl
theorem qLD(d:Nat)(R:Rep st H){b:Nat}(V:Val FC st.tr)(hD:st.D=run FC st.tr)(hF:∀x,FC x≠0)(ht:st.tr.length<400000)(h:mid l):Cl (d+7) H 10 [.inst 0 b,.inst 1 1,lav l] (.int (fallT st.tr l)) H:=by
 delta st H l d b at R V hD hF ht h
 have hz:=qKB hF V
 have hh:=qBr d R l
 by_cases q:isF st.D l=true
 .rw [(qCN (by rw[hD];exact hz) l).mpr q]at hh
  have sp:Cl (d+6) H 7 [.inst 1 1,lav (negL l)] (.int (fallT st.tr l)) H:=by
   have c0:=qJM (d+4) R l.1
   have c1:=qEU (H:=H) d (negL l) (FC l.1)
   have l0:subAV (lav (negL l)) (.int 0) H=some (.int (l.1.val:Int)):=by rw[<-qOI l];rfl
   cases h0:isF FC l with
   |true =>
    have e:fallT st.tr l = -1:=by
     unfold fallT
     rw[List.range_succ_eq_map,List.find?_cons]
     show(match(match isF FC l with|true=>some 0|false=>_)with|some s=>(s:Int)-1|none=>_)=_
     rw[h0];rfl
    rw[e]
    rw[(deny h (FC l.1)).mpr (of_decide_eq_true h0)]at c1
    exact qCH (fn:=fn7) rfl rfl rfl rfl (by exists l0,c0,c1) rfl
   |false =>
    have fs:=qLK V h0
    have c2:cmpAV .eq (.int (said (negL l) (FC l.1))) (.int 1) H=some false:=congrArg some (decide_eq_false fun z=>Bool.noConfusion (h0.symm.trans (decide_eq_true ((deny h _).mp z))))
    cases e:(List.range st.tr.length).find? (spotB st.tr l)with
    |none =>
     rw[e]at fs
     have:=List.find?_eq_none.mp fs st.tr.length (List.mem_range.mpr (Nat.lt_succ_self _))
     rw[List.take_length,<-hD]at this
     exact absurd q this
    |some k =>
     obtain⟨ρ',w⟩:=qNx d R h k e
     have hf:fallT st.tr l=k:=by unfold fallT;rw[fs,e];show((k+1:Nat):Int)-1=k;rw[Int.natCast_succ,Int.add_sub_cancel]
     rw[hf]
     have hrg:biAV .range false [.int (st.tr.length:Int)] H=some (.rng 0 st.tr.length,H):=qEY ht
     exact qCH (fn:=fn7) rfl rfl rfl rfl (by exists l0,c0,c1,c2,qBD R,hrg,w) rfl
  exact qCH (fn:=fn10) rfl rfl rfl rfl (by exists hh,Cl_of (qGD (d+5) h),sp) rfl
 .have e:fallT st.tr l=st.tr.length:=by
   unfold fallT
   rw[List.find?_eq_none.mpr fun s _ z=>q (hD▸qOS z)]
  have c1:cmpAV .eq (.int (hold st.D l)) (.int (-1)) H=some false:=congrArg some (decide_eq_false fun z=>q ((qCN (by rw[hD];exact hz) l).mp z))
  rw[e]
  exact qCH (fn:=fn10) rfl rfl rfl rfl (by exists hh,c1,qBD R) rfl
end
end
section
noncomputable def rk(tr:List Ent)(l:Lit):AV:=.tup [.int (-fallT tr l),lav l]
noncomputable def litOf(a:AV):Lit:=@Classical.epsilon Lit ⟨(0,0,0)⟩ fun l=>∃tr,a=rk tr l
noncomputable def qAm(tr:List Ent)(c:List Lit):List Lit:=(qAD (c.map (rk tr))).map litOf
section
variable{d n:Nat}{st:St}{H H0:AHeap}{l m:Lit}{tr:List Ent}{ρ:Rho}{c r:List Lit}{k:Bool}{B:Bk}{P:Nat->Prop}{src:Option Nat}
theorem qEG(tr:List Ent)(l:Lit):litOf (rk tr l)=l:=by
 have:=@Classical.epsilon_spec Lit (fun m=>∃tr',rk tr l=rk tr' m) ⟨l,tr,rfl⟩
 obtain⟨tr',e⟩:=this
 exact(qGJ (List.cons.inj (List.cons.inj (AV.tup.inj e)).2).1).symm
theorem qCp(tr:List Ent)(c:List Lit):(qAm tr c).Perm c:=by
 have e:(c.map (rk tr)).map litOf=c:=by rw[List.map_map];exact(List.map_congr_left fun l _=>qEG tr l).trans (List.map_id' c)
 have:=(qAP (c.map (rk tr))).map litOf
 rwa [e]at this
theorem qJc(tr:List Ent)(c:List Lit):qAD (c.map (rk tr))=(qAm tr c).map (rk tr):=by
 unfold qAm
 rw[List.map_map]
 refine(List.map_id' _).symm.trans (List.map_congr_left fun a ha=>?_)
 obtain⟨l,_,rfl⟩:=List.mem_map.mp ((qAP _).mem_iff.mp ha)
 exact(congrArg (rk tr) (qEG tr l)).symm
theorem qGn(hn:c.length<=3)(nd:c.Nodup):qAY (c.map (rk tr))=some ((qAm tr c).map (rk tr)):=by
 rw[<-qJc]
 refine qEQ ?_ (by rw[List.length_map];exact Nat.lt_of_le_of_lt hn (by decide)) (List.pairwise_map.mpr (nd.imp fun{a b} q e=>q (by rw[<-qEG tr a,e,qEG])))
 have:(c.map (rk tr)).all isK3=true:=List.all_eq_true.mpr fun a ha=>(List.mem_map.mp ha).elim fun l h=>h.2▸Bool.and_eq_true_iff.mpr ⟨decide_eq_true (Nat.le_add_right 7 _),decide_eq_true (Nat.add_le_add_left (Nat.le_of_lt_succ l.2.1.isLt) 7)⟩
 unfold qAn
 rw[this,Bool.or_true]
theorem two_of{r:List Lit}(h:2<=r.length):∃a b t,r=a::b::t:=by
 cases r with
 |nil=>exact absurd h (by decide)
 |cons a r=>cases r with
  |nil=>exact absurd h (show ¬2<=1 by decide)
  |cons b t=>exact⟨a,b,t,rfl⟩
theorem qIF(d n:Nat)(tr:List Ent):∀(ls:List Lit) (ρ:Rho),Lc d (n+1) (.var 20) (.tup [.name 40,.name 20]) [] H src ρ H (ls.map (rk tr)) (ls.map lav) H
 |[],ρ=>qM6 qB9
 |l::ls,ρ=>by
  have ih:=qIF d n tr ls (upd 20 (lav l) (upd 40 (.int (-fallT tr l)) ρ))
  exact qM5 qB9 rfl qDX (E_var qAX) ih
theorem qIT(d:Nat)(R:Rep st H)(hb:st.bk k=some B)(hr:B.rows[n]?=some r)(h2:2<=r.length)(h3:r.length<=3)(hnd:r.Nodup)(hm:∀l∈r,mid l)(W:Wb B P)(hn:P n)
 (V:Val FC st.tr)(hD:st.D=run FC st.tr)(hF:∀x,FC x≠0)(ht:st.tr.length<400000) :
  ∃B' H',Cl (d+8) H 12 [.inst 0 (bs st.bb k),.inst 1 1,.int n] .none H'/\Rep (st.sB k B') H'/\B'.rows=B.rows.set n (qAm st.tr r)/\B'.un=B.un/\B'.fr=B.fr/\Wb B' P/\(∀m z,m∈B.wt z->m∈B'.wt z)/\∀l∈(qAm st.tr r).take 2,n∈B'.wt l.1:=by
 delta n st H r k B P d at R hb hr h2 h3 hnd hm W hn V hD hF ht
 have scl:=s_cl R hb hr
 have row:=R.lrow hb hr
 have lc1:Lc (d+7) 39 (.tup [(.neg (.callM (.var 29) 40 [(.var 24),(.var 20)])),(.var 20)]) (.name 20) [] H (some (B.ca n)) [(29,.inst 0 (bs st.bb k)),(24,.inst 1 1),(35,.int n)] H (r.map lav) (r.map (rk st.tr)) H :=
  qBy r fun l hl ρ' q1 q2=>by
   have l29:=q2 29 rfl
   have l24:=q2 24 rfl
   have hc:=qLD d R (b:=bs st.bb k) V hD hF ht (hm l hl)
   exact(by exists l29,l24,q1,hc)
 have so:biAV .sorted false [.lst (r.map (rk st.tr))] H=some (.lst ((qAm st.tr r).map (rk st.tr)),H):=qAi rfl (qGn h3 hnd)
 have p:=qCp st.tr r
 have tk:=fun src ρ=>qIF (H:=H) (src:=src) (d+7) 38 st.tr (qAm st.tr r) ρ
 generalize qAm st.tr r=r' at so p tk ⊢
 have Rj:Rep st (H++[.list (r'.map lav)]):=R.elim fun h z=>⟨h,z.junk _⟩
 injection R.plc hb hr r' with H1;rintro⟨a1,R1⟩
 injection two_of (show 2<=r'.length by rw[p.length_eq];exact h2)with a b t;rintro rfl
 have hb1:(st.sB k { B with rows:=B.rows.set n (a::b::t),ca:=setN B.ca n H.length }).bk k=some { B with rows:=B.rows.set n (a::b::t),ca:=setN B.ca n H.length }:=sB_at
 have hr1:(B.rows.set n (a::b::t))[n]?=some (a::b::t):=List.getElem?_set_self (List.getElem?_eq_some_iff.mp hr).1
 have s1:=s_cl R1 hb1 hr1
 have row1:=R1.lrow hb1 hr1
 have e0:setN B.ca n H.length n=H.length:=qCx
 have s1:subAV (.ref (bs st.bb k+1)) (.int (n:Int)) H1=some (.ref H.length):=by rw[<-e0];exact s1
 have row1:H1[H.length]?=some (.list ((a::b::t).map lav)):=by rw[<-e0];exact row1
 have W1:Wb { B with rows:=B.rows.set n (a::b::t),ca:=setN B.ca n H.length } P:=⟨W.only,W.zero,W.nd,W.kn,W.lt⟩
 injection qFt (d+6) R1 hb1 W1 a.1 n with H2;rintro⟨c2,R2⟩
 rw[sB_sB]at R2
 have hb2:=(sB_at:(st.sB k (Bk.wat { B with rows:=B.rows.set n (a::b::t),ca:=setN B.ca n H.length } a.1 n)).bk k=some _)
 have s2:=s_cl R2 hb2 hr1
 have row2:=R2.lrow hb2 hr1
 have s2:subAV (.ref (bs st.bb k+1)) (.int (n:Int)) H2=some (.ref H.length):=by rw[<-e0];exact s2
 have row2:H2[H.length]?=some (.list ((a::b::t).map lav)):=by rw[<-e0];exact row2
 injection qFt (d+6) R2 hb2 (W1.wat hn a.1) b.1 n with H3;rintro⟨c3,R3⟩
 rw[sB_sB]at R3
 have t0:subAV (.ref H.length) (.int 0) H1=some (lav a):=qAd (m:=0) row1 rfl
 have t1:subAV (.ref H.length) (.int 1) H2=some (lav b):=qAd (m:=1) row2 rfl
 have up:∀(B:Bk) (x:Fin 3) m z,m∈B.wt z->m∈(B.wat x n).wt z:=fun B x m z h=>by
  show m∈setF B.wt x (insL (B.wt x) n) z
  by_cases q:z=x
  .rw [q,qAF];exact qDl.mpr (.inl (q▸h))
  .rw [qAG q];exact h
 have at':∀(B:Bk) (x:Fin 3),n∈(B.wat x n).wt x:=fun B x=>by
  show n∈setF B.wt x (insL (B.wt x) n) x
  rw[qAF];exact qDl.mpr (.inr rfl)
 refine⟨_,H3,C_imp (fn:=fn12) rfl rfl rfl (by exists scl,qCW row,lc1,so,tk _ _,a1,s1,t0,c2,s2,t1,c3) rfl,R3,rfl,rfl,rfl,(W1.wat hn a.1).wat hn b.1,fun m z h=>up _ _ m z (up _ _ m z h),fun l hl=>?_⟩
 rcases List.mem_cons.mp hl with rfl|hl
 .exact up _ _ _ _ (at' _ _)
 .rw [List.mem_singleton.mp hl];exact at' _ _
end
end
section
noncomputable def Says(cs:List (List Lit))(D:Fin 3->Dm)(o:Option Lit)(r:List Lit):Prop :=
 ∃c∈cs,(∀l,o=some l->l∈c)/\r.Perm ((c.filter fun m=>!decide (o=some m)).map negL)/\∀m∈c,o≠some m->isF D m=true
noncomputable def Ext(cs:List (List Lit))(t0 tr:List Ent):Prop:=(∃es,tr=t0++es)/\∀k e,t0.length<=k->tr[k]?=some e->∃r,e.why=some r/\Says cs (run FC (tr.take k)) (some e.lit) r
noncomputable def Pl(cs:List (List Lit))(pd:List Nat)(n:Nat):Prop:=n ∉ pd/\∃c,cs[n]?=some c/\2<=c.length
structure Inv (st:St) (B:Bk) (pd:List Nat):Prop where
 hb:st.bk false=some B
 len:B.rows.length=st.cs.length
 l9:st.cs.length<100
 perm:∀(n:Nat) (r:List Lit),B.rows[n]?=some r->∃c,st.cs[n]?=some c/\r.Perm c
 okc:∀c∈st.cs,Okc 1 c
 un:∀(n:Nat) (c:List Lit),st.cs[n]?=some c->(n∈B.un↔c.length=1)
 unl:(∀n∈B.un,n<st.cs.length)/\B.un.length<=st.cs.length
 pdl:pd.Pairwise (·<·)/\∀n∈pd,∃c,st.cs[n]?=some c/\2<=c.length
 W:Wb B (Pl st.cs pd)
 hw:∀(n:Nat) (r:List Lit),Pl st.cs pd n->B.rows[n]?=some r->∀l∈r.take 2,n∈B.wt l.1
 V:Val FC st.tr
 D:st.D=run FC st.tr
 nw:st.nw.Nodup
noncomputable def JJ(st:St)(B:Bk)(pd:List Nat)(Q:Fin 3->Prop)(S:Nat->Prop):Prop:=∀n r,Pl st.cs pd n->B.rows[n]?=some r->Jr st.D r\/S n\/∃l∈r.take 2,Q l.1
noncomputable def Uu(st:St):Prop:=∀c∈st.cs,c.length=1->∀l∈c,cut l (st.D l.1)=st.D l.1
section
variable{st:St}{B B':Bk}{pd:List Nat}{l:Lit}{D:Fin 3->Dm}{tr t0 es:List Ent}{e:Ent}{cs:List (List Lit)}{n:Nat}{r r' c:List Lit}{Q Q':Fin 3->Prop}{S S':Nat->Prop}{w:List Lit}
theorem FC_nz(x:Fin 3):FC x≠0:=by
 delta FC
 generalize tapV x.val 4=n
 unfold qB4
 split<;>decide
noncomputable def sumD(D:Fin 3->Dm):Nat:=(D 0).val+(D 1).val+(D 2).val
theorem qOy(D:Fin 3->Dm){e:Ent}(h:cut e.lit (D e.lit.1)≠D e.lit.1):sumD (upE D e)<sumD D:=by
 have q:=qPZ h
 unfold upE sumD
 generalize cut e.lit (D e.lit.1)=S at q
 generalize e.lit.1=x at q
 revert q
 revert x
 refine fin3 ?_ ?_ ?_<;>intro q
 .exact Nat.add_lt_add_right (Nat.add_lt_add_right q _) _
 .exact Nat.add_lt_add_right (Nat.add_lt_add_left q _) _
 .exact Nat.add_lt_add_left q _
theorem qJm:∀{tr:List Ent}{D:Fin 3->Dm},Val D tr->tr.length<=sumD D
 |[],_,_=>Nat.zero_le _
 |e::tr,D,h=>Nat.lt_of_le_of_lt (qJm h.2) (qOy D (h.1.1▸h.1.2.2.1))
theorem qGg(h:Val FC tr):tr.length<=93:=Nat.le_trans (qJm h) (by
 exact Nat.add_le_add (Nat.add_le_add (Nat.le_of_lt_succ (FC 0).isLt) (Nat.le_of_lt_succ (FC 1).isLt)) (Nat.le_of_lt_succ (FC 2).isLt))
theorem Ext.refl:Ext cs tr tr:=⟨⟨[],(List.append_nil _).symm⟩,fun k e h q=>absurd (List.getElem?_eq_some_iff.mp q).1 (Nat.not_lt_of_le h)⟩
theorem Ext.snoc(h:Ext cs t0 tr)(s:∃r,e.why=some r/\Says cs (run FC tr) (some e.lit) r):Ext cs t0 (tr++[e]):=by
 obtain⟨⟨es,h1⟩,h2⟩:=h
 refine⟨⟨es++[e],by rw[h1,List.append_assoc]⟩,fun k e' hk q=>?_⟩
 by_cases z:k<tr.length
 .rw [List.getElem?_append_left z]at q
  rw[List.take_append_of_le_length (Nat.le_of_lt z)]
  exact h2 k e' hk q
 .have z2:=(List.getElem?_eq_some_iff.mp q).1
  rw[List.length_append]at z2
  have z3:k=tr.length:=Nat.le_antisymm (Nat.le_of_lt_succ z2) (Nat.le_of_not_lt z)
  rw[z3,List.getElem?_concat_length]at q
  rw[z3,List.take_left,<-Option.some.inj q]
  exact s
theorem Inv.bd(I:Inv st B pd):st.tr.length<=93:=qGg I.V
theorem Inv.nz(I:Inv st B pd):∀x,st.D x≠0:=I.D▸qKB FC_nz I.V
theorem Inv.row(I:Inv st B pd)(h:Pl st.cs pd n):∃r,B.rows[n]?=some r/\2<=r.length/\r.length<=3/\r.Nodup/\(∀l∈r,mid l)/\∃c∈st.cs,r.Perm c:=by
 obtain⟨c,hc,h2⟩:=h.2
 have hn:n<B.rows.length:=I.len▸(List.getElem?_eq_some_iff.mp hc).1
 obtain⟨c',hc',p⟩:=I.perm n _ (List.getElem?_eq_getElem hn)
 obtain rfl:=Option.some.inj (hc.symm.trans hc')
 have hm:=List.mem_of_getElem? hc
 have k:=I.okc c hm
 exact⟨_,List.getElem?_eq_getElem hn,p.length_eq▸h2,p.length_eq▸k.hi,p.nodup_iff.mpr k.nd,fun l hl=>k.md l (p.mem_iff.mp hl),c,hm,p⟩
theorem Inv.rw(I:Inv st B pd)(hr:B.rows[n]?=some r)(w:Rw B B' (Pl st.cs pd) n r')(p:r'.Perm r):Inv (st.sB false B') B' pd:=by
 refine⟨sB_at,by rw[w.rows,List.length_set];exact I.len,I.l9,fun m r2 h=>?_,I.okc,w.un▸I.un,w.un▸I.unl,I.pdl,w.W,fun m r2 hp h l hl=>?_,I.V,I.D,I.nw⟩
 .rw [w.rows]at h
  by_cases q:n=m
  .subst q
   rw[List.getElem?_set_self (List.getElem?_eq_some_iff.mp hr).1]at h
   obtain⟨c,hc,p2⟩:=I.perm n r hr
   exact⟨c,hc,Option.some.inj h▸p.trans p2⟩
  .rw [List.getElem?_set_ne q]at h;exact I.perm m r2 h
 .rw [w.rows]at h
  by_cases q:n=m
  .subst q
   rw[List.getElem?_set_self (List.getElem?_eq_some_iff.mp hr).1]at h
   exact w.hw l (Option.some.inj h▸hl)
  .rw [List.getElem?_set_ne q]at h;exact w.keep m _ (Ne.symm q) (I.hw m r2 hp h l hl)
theorem Inv.enter(I:Inv st B pd)(h:hold st.D l=0)(hm:mid l){w:Option (List Lit)}:Inv (st.enter l w) B pd:=by
 have z:=qDy h
 have e:run FC (st.tr++[Ent.mk (st.D l.1) l w])=setF st.D l.1 (cut l (st.D l.1)):=by rw[qDc,<-I.D];rfl
 exact⟨I.hb,I.len,I.l9,I.perm,I.okc,I.un,I.unl,I.pdl,I.W,I.hw,qBv.mpr ⟨I.V,⟨I.D▸rfl,z.2,z.1,hm⟩,trivial⟩,e.symm,qLB I.nw l.1⟩
theorem Inv.fail(I:Inv st B pd):Inv (st.failed w) B pd:=⟨I.hb,I.len,I.l9,I.perm,I.okc,I.un,I.unl,I.pdl,I.W,I.hw,I.V,I.D,I.nw⟩
theorem qLC{m:Lit}(h:m.1≠l.1):hold (setF D l.1 (cut l (D l.1))) m=hold D m:=by unfold hold;rw[qAG h]
theorem qEq(l:Lit):hold (setF D l.1 (cut l (D l.1))) l=1:=by unfold hold;rw[qAF];exact qFP.mpr (qN9 l _)
theorem Jr_up(h:Jr D r)(q:∀m∈r.take 2,m.1≠l.1):Jr (setF D l.1 (cut l (D l.1))) r:=by
 obtain⟨a,b,t,rfl,h⟩:=h
 refine⟨a,b,t,rfl,?_⟩
 rw[qLC (q a (.head _)),qLC (q b (.tail _ (.head _)))];exact h
theorem qOv(h2:2<=r.length)(h:l∈r.take 2):Jr (setF D l.1 (cut l (D l.1))) r:=by
 obtain⟨a,b,t,rfl⟩:=two_of h2
 refine⟨a,b,t,rfl,?_⟩
 rcases List.mem_cons.mp h with rfl|h
 .exact .inl (qEq _)
 .rw [<-List.mem_singleton.mp h];exact .inr (.inl (qEq _))
theorem JJ.mono(h:JJ st B pd Q S)(q:∀x,Q x->Q' x)(s:∀n,S n->S' n):JJ st B pd Q' S':=fun n r p hr=>(h n r p hr).imp id fun z=>z.imp (s n) fun⟨l,hl,z⟩=>⟨l,hl,q _ z⟩
theorem Uu.enter(u:Uu st):Uu (st.enter l (some w)):=fun c hc h1 m hm=>up_so (e:=Ent.mk (st.D l.1) l none) (u c hc h1 m hm)
noncomputable def core(st:St):List (List Lit)×List Nat×Nat×Nat×Option Bk:=(st.cs,st.lv,st.t,st.bb,st.bk true)
structure Left (st st':St) (B B':Bk) (pd pd':List Nat) (t0:List Ent) (N:Nat->Prop):Prop where
 I:Inv st' B' pd'
 ex:Ext st.cs t0 st'.tr
 fa:st'.fa=false
 co:core st'=core st
 jj:∀Q S,JJ st B pd Q (fun m=>N m\/S m)->JJ st' B' pd' (fun x=>Q x\/∃e∈st'.tr.drop st.tr.length,e.lit.1=x) S
 un:Uu st->Uu st'
 pre:∃es,st'.tr=st.tr++es
structure Bad (st st':St) (B':Bk) (pd':List Nat) (t0:List Ent):Prop where
 I:Inv st' B' pd'
 ex:Ext st.cs t0 st'.tr
 fa:st'.fa=true
 co:core st'=core st
 says:Says st.cs st'.D none st'.cl
theorem Left.cs_{st':St}{pd':List Nat}{N:Nat->Prop}(h:Left st st' B B' pd pd' t0 N):st'.cs=st.cs:=congrArg Prod.fst h.co
theorem Left.trans{st1 st2:St}{B1 B2:Bk}{p1 p2:List Nat}{N M:Nat->Prop}(a:Left st st1 B B1 pd p1 t0 N)(b:Left st1 st2 B1 B2 p1 p2 t0 M):Left st st2 B B2 pd p2 t0 fun m=>N m\/M m:=by
 obtain⟨e1,h1⟩:=a.pre
 obtain⟨e2,h2⟩:=b.pre
 refine⟨b.I,a.cs_▸b.ex,b.fa,b.co.trans a.co,fun Q S h=>?_,fun u=>b.un (a.un u),e1++e2,by rw[h2,h1,List.append_assoc]⟩
 refine(b.jj _ S (a.jj Q (fun m=>M m\/S m) (h.mono (fun _ z=>z) fun _ z=>or_assoc.mp z))).mono (fun x z=>?_) fun _ z=>z
 rw[h2,h1,List.append_assoc,List.drop_left]
 rcases z with(z|⟨e,h,z⟩)|⟨e,h,z⟩
 .exact .inl z
 .rw [h1,List.drop_left]at h;exact .inr ⟨e,List.mem_append_left _ h,z⟩
 .rw [h2,List.drop_left]at h;exact .inr ⟨e,List.mem_append_right _ h,z⟩
theorem Left.refl(I:Inv st B pd)(ex:Ext st.cs t0 st.tr)(fa:st.fa=false):Left st st B B pd pd t0 fun _=>False :=
 ⟨I,ex,fa,rfl,fun _ _ h=>h.mono (fun _ z=>.inl z) fun _ z=>z.elim False.elim id,fun u=>u,[],(List.append_nil _).symm⟩
theorem qK8(hc:c∈cs)(p:r.Perm c)(h:∀m∈r,hold D m = -1)(hD:∀x,D x≠0):Says cs D none (r.map negL):=by
 refine⟨c,hc,fun _ q=>(nomatch q),?_,fun m hm _=>(qCN hD m).mp (h m (p.mem_iff.mpr hm))⟩
 rw[List.filter_eq_self.mpr fun m _=>by rw[decide_eq_false (show ¬none=some m from nofun)];rfl]
 exact p.map _
theorem qIM(hc:c∈cs)(nd:c.Nodup)(p:(l::w).Perm c)(h:∀m∈w,hold D m = -1)(hD:∀x,D x≠0):Says cs D (some l) (w.map negL):=by
 have nd':=List.nodup_cons.mp (p.nodup_iff.mpr nd)
 refine⟨c,hc,fun m q=>Option.some.inj q▸p.mem_iff.mp (.head _),?_,fun m hm q=>(qCN hD m).mp (h m ((List.mem_cons.mp (p.mem_iff.mpr hm)).resolve_left fun z=>q (z▸rfl)))⟩
 refine List.Perm.map _ (List.Perm.trans ?_ (p.filter _))
 rw[List.filter_cons,if_neg (by rw[decide_eq_true rfl];exact Bool.false_ne_true),List.filter_eq_self.mpr fun m hm=>by rw[decide_eq_false fun z:some l=some m=>nd'.1 ((Option.some.inj z).symm▸hm)];rfl]
theorem left_of(I:Inv st B pd)(h:Pl st.cs pd n)(hr:B.rows[n]?=some r)(w:Rw B B' (Pl st.cs pd) n r')(p:r'.Perm r)(fa:st.fa=false)(ex:Ext st.cs t0 st.tr){res:Bool}{st':St}(v:Vo st.D (st.sB false B') r' res st') :
  (res=true->Left st st' B B' pd pd t0 (· = n))/\(res=false->Bad st st' B' pd t0):=by
 delta st B B' pd t0 n r r' res st' at I h hr w p fa ex v
 injection (I.row h)with r0;rintro⟨hr0,h2,h3,nd,hm,h⟩
 injection h with c;rintro⟨hc,pc⟩
 obtain rfl:=Option.some.inj (hr.symm.trans hr0)
 have I1:=I.rw hr w p
 have hn:=(List.getElem?_eq_some_iff.mp hr).1
 have row:∀m r2,B'.rows[m]?=some r2->(m=n/\r2=r')\/(m≠n/\B.rows[m]?=some r2):=fun m r2 q=>by
  rw[w.rows]at q
  by_cases z:n=m
  .subst z;rw[List.getElem?_set_self hn]at q;exact .inl ⟨rfl,(Option.some.inj q).symm⟩
  .rw [List.getElem?_set_ne z]at q;exact .inr ⟨Ne.symm z,q⟩
 cases v with
 |stand hj=>exact⟨fun _=>⟨I1,ex,fa,rfl,fun Q S q m r2 hp z=>(row m r2 z).elim (fun y=>.inl (y.2▸hj)) fun y=>(q m r2 hp y.2).imp id fun u=>u.imp (fun u=>u.resolve_left y.1) fun⟨l,hl,u⟩=>⟨l,hl,.inl u⟩,fun u=>u,[],(List.append_nil _).symm⟩,fun z=>(nomatch z)⟩
 |fail hj=>exact⟨fun z=>(nomatch z),fun _=>⟨I1.fail,ex,rfl,rfl,qK8 hc (p.trans pc) hj I.nz⟩⟩
 |force l rest h0 pl hf hl =>
  refine⟨fun _=>⟨I1.enter h0 (hm l (p.mem_iff.mp (pl.mem_iff.mp (.head _)))),ex.snoc ⟨_,rfl,I.D▸qIM hc ((I.okc c hc).nd) (pl.trans (p.trans pc)) hf I.nz⟩,fa,rfl,fun Q S q m r2 hp z=>?_,fun u=>Uu.enter (st:=st.sB false B') u,[_],rfl⟩,fun z=>(nomatch z)⟩
  rcases row m r2 z with⟨rfl,rfl⟩|⟨y,z⟩
  .exact .inl (qOv (by rw[p.length_eq];exact h2) hl)
  .by_cases u:∀m∈r2.take 2,m.1≠l.1
   .exact (q m r2 hp z).imp (fun v=>Jr_up v u) fun v=>v.imp (fun v=>v.resolve_left y) fun⟨l,hl,v⟩=>⟨l,hl,.inl v⟩
   .obtain ⟨m',u⟩:=Classical.not_forall.mp u
    obtain⟨u1,u2⟩:=Classical.not_imp.mp u
    refine .inr (.inr ⟨m',u1,.inr ⟨Ent.mk (st.D l.1) l (some (rest.map negL)),?_,(Classical.not_not.mp u2).symm⟩⟩)
    show _∈(st.tr++[Ent.mk (st.D l.1) l (some (rest.map negL))]).drop st.tr.length
    rw[List.drop_left]
    exact .head _
end
end
section
section
variable{d n v:Nat}{st:St}{H H0:AHeap}{B B':Bk}{pd:List Nat}{l:Lit}{t0:List Ent}{r c w:List Lit}{α:Type}{body:List CS}{src:Option Nat}
theorem qD7{e:α->AV}{I:List α->Rho->AHeap->Prop}{Q:AV->AHeap->Prop}(hs:∀xs ρ H,I xs ρ H->qAa H0 H src=true)
 (step:∀x xs ρ H,I (x::xs) ρ H->(∃ρ' H',Ss d n (upd v (e x) ρ) H body .next ρ' H'/\I xs ρ' H')\/∃u ρ' H',Ss d n (upd v (e x) ρ) H body (.ret u) ρ' H'/\Q u H') :
  ∀(xs:List α) (ρ:Rho) (H:AHeap),I xs ρ H->(∃ρ' H',Lf d n (.name v) body H0 src ρ H (xs.map e) .next ρ' H'/\I [] ρ' H')\/∃u ρ' H',Lf d n (.name v) body H0 src ρ H (xs.map e) (.ret u) ρ' H'/\Q u H'
 |[],ρ,H,i=>.inl ⟨ρ,H,qIw (hs _ _ _ i),i⟩
 |x::xs,ρ,H,i=>by
  rcases step x xs ρ H i with⟨ρ1,H1,s,i1⟩|⟨u,ρ1,H1,s,q⟩
  .rcases qD7 hs step xs ρ1 H1 i1 with⟨ρ2,H2,w,i2⟩|⟨u,ρ2,H2,w,q⟩
   .exact .inl ⟨ρ2,H2,qCG (hs _ _ _ i) rfl s w,i2⟩
   .exact .inr ⟨u,ρ2,H2,qCG (hs _ _ _ i) rfl s w,q⟩
  .exact .inr ⟨u,ρ1,H1,qNp (hs _ _ _ i) rfl s,q⟩
theorem qJw(d:Nat)(R:Rep st H)(w:List Lit)(h:cut l (st.D l.1)=st.D l.1)(hz:st.D l.1≠0):Cl (d+6) H 24 [.inst 1 1,lav l,clAV w] (.bool true) H:=by
 have h0:cmpAV .eq (dom (cut l (st.D l.1))) (.tup []) H=some false:=c_0f (by rw[h];exact hz)
 have h1:cmpAV .eq (dom (cut l (st.D l.1))) (dom (st.D l.1)) H=some true:=c_eqt h
 have c:Cl (d+5) H 23 [.inst 1 1,lav l,clAV w,.int (-1)] (.bool true) H:=C_imp (fn:=fn23) rfl rfl rfl (by exists qGj R.l2 l.1,Cl_of (qBi d l (st.D l.1)),h0,h1) rfl
 exact C_imp (fn:=fn24) rfl rfl rfl (by exists R.g61,c) rfl
theorem qJJ(I:Inv st B pd)(ex:Ext st.cs t0 st.tr)(fa:st.fa=false)(h0:hold st.D l=0)(hm:mid l)(s:Says st.cs st.D (some l) w):Left st (st.enter l (some w)) B B pd pd t0 fun _=>False:=by
 refine⟨I.enter h0 hm,ex.snoc ⟨_,rfl,I.D▸s⟩,fa,rfl,fun Q S q m r2 hp z=>?_,Uu.enter,[_],rfl⟩
 by_cases u:∀m∈r2.take 2,m.1≠l.1
 .exact (q m r2 hp z).imp (fun v=>Jr_up v u) fun v=>v.imp (fun v=>v.elim False.elim id) fun⟨l,hl,v⟩=>⟨l,hl,.inl v⟩
 .obtain ⟨m',u⟩:=Classical.not_forall.mp u
  obtain⟨u1,u2⟩:=Classical.not_imp.mp u
  refine .inr (.inr ⟨m',u1,.inr ⟨Ent.mk (st.D l.1) l (some w),?_,(Classical.not_not.mp u2).symm⟩⟩)
  show _∈(st.tr++[Ent.mk (st.D l.1) l (some w)]).drop st.tr.length
  rw[List.drop_left]
  exact .head _
theorem qFL(d:Nat)(R:Rep st H)(I:Inv st B pd)(h:Pl st.cs pd n)(fa:st.fa=false)(ex:Ext st.cs t0 st.tr) :
  ∃B' res st' H',Cl (d+8) H 15 [.inst 0 7,.inst 1 1,.int n] (.bool res) H'/\Rep st' H'/\st'.tm=st.tm/\B'.fr=B.fr/\B'.un=B.un/\(res=true->Left st st' B B' pd pd t0 (· = n))/\(res=false->Bad st st' B' pd t0):=by
 delta n st H B pd t0 d at R I h fa ex
 injection I.row h with r;rintro⟨hr,h2,h3,nd,hm,_⟩
 injection qIE d R I.hb hr h2 h3 I.W h (I.hw n r h hr) hm (Nat.lt_of_le_of_lt I.bd (by decide)) I.nw with B' r' res st' H';rintro⟨c,R',w,p,v⟩
 have z:=left_of I h hr w p fa ex v
 refine⟨B',res,st',H',c,R',?_,w.fr,w.un,z⟩
 cases v<;>rfl
noncomputable def qCS:List CS:=[(.asg (.name 41) (.sub (.attr (.var 29) 30) (.var 35))),
  (.ife (.bor [(.cmp .eq (.var 41) (.lst false [])),(.cmp .eq (.callM (.var 24) 36 [(.sub (.var 41) (.lit (.int 0)))]) (.neg (.lit (.int 1))))]) [(.ret (some (.callM (.var 24) 47 [(.bi .tuple false [(.comp false false (.callF 4 [(.var 20)]) (.name 20) (.var 41) [])])])))] []),
  (.expr (.callM (.var 24) 43 [(.sub (.var 41) (.lit (.int 0))),(.tup [])]))]
theorem qJp(d:Nat){ρ:Rho}(R:Rep st H)(I:Inv st B pd)(hn:n∈B.un)(fa:st.fa=false)(ex:Ext st.cs t0 st.tr)(l29:ρ.lookup 29=some (.inst 0 7))(l24:ρ.lookup 24=some (.inst 1 1)) :
  (∃c l H' st',Ss (d+8) 19 (upd 35 (.int n) ρ) H qCS .next (upd 41 (.ref c) (upd 35 (.int n) ρ)) H'/\Rep st' H'/\st'.tm=st.tm/\Left st st' B B pd pd t0 (fun _=>False)/\st.cs[n]?=some [l]/\cut l (st'.D l.1)=st'.D l.1) \/
   ∃ρ' H' st',Ss (d+8) 19 (upd 35 (.int n) ρ) H qCS (.ret (.bool false)) ρ' H'/\Rep st' H'/\st'.tm=st.tm/\Bad st st' B pd t0:=by
 delta n st H B pd t0 d ρ at R I hn fa ex l29 l24
 have hlt:=I.unl.1 n hn
 injection (⟨_,List.getElem?_eq_getElem (by rw[I.len];exact hlt)⟩:∃r,B.rows[n]?=some r)with r;intro hr
 injection I.perm n r hr with c;rintro⟨hc,p⟩
 have h1:=(I.un n c hc).mp hn
 injection List.length_eq_one_iff.mp h1 with l;rintro rfl
 obtain rfl:=List.perm_singleton.mp p
 have hcm:=List.mem_of_getElem? hc
 have hm:mid l:=(I.okc _ hcm).md l (.head _)
 have hb:=I.hb
 have row:=R.lrow hb hr
 have scl:subAV (.ref 8) (.int (n:Int)) H=some (.ref (B.ca n)):=s_cl R hb hr
 have t0':subAV (.ref (B.ca n)) (.int 0) H=some (lav l):=qAd (m:=0) row rfl
 have ce:cmpAV .eq (.ref (B.ca n)) (.lst []) H=some false:=qBc (qPX row rfl) (qF4 rfl) rfl rfl rfl rfl
 have g30:qAB PP (.inst 0 7) 30 H=some (.ref 8):=R.g30 hb rfl
 have hh:=qBr (d+2) R l
 rcases qDm st.D l with q|q|q
 .have z:cut l (st.D l.1)=st.D l.1:=qFP.mp q
  rw[q]at hh
  have cs:=qJw (d+2) R [] z (I.nz _)
  exact .inl ⟨B.ca n,l,H,st,(by unfold qCS;exists l29,l24,g30,scl,ce,t0',hh,cs),R,rfl,Left.refl I ex fa,hc,z⟩
 .rw [q]at hh
  injection qLL (d+7) R ([l].map negL)with H';rintro⟨cf,R'⟩
  exact .inr ⟨_,H',_,(by unfold qCS;exists l29,l24,g30,scl,ce,t0',hh,qCW row,qKk (d+7) 35 [l] (fun m hm'=>List.mem_singleton.mp hm'▸hm),qEO,cf),R',rfl,I.fail,ex,rfl,rfl,qK8 hcm (.refl _) (fun m hm'=>List.mem_singleton.mp hm'▸q) I.nz⟩
 .rw [q]at hh
  have z:=qDy q
  injection qGk (d+2) R [] z.2 z.1 (Nat.lt_of_le_of_lt I.bd (by decide)) I.nw with H';rintro⟨cs,R'⟩
  exact .inl ⟨B.ca n,l,H',_,(by unfold qCS;exists l29,l24,g30,scl,ce,t0',hh,cs),R',rfl,qJJ I ex fa q hm (qIM hcm (I.okc _ hcm).nd (.refl _) (fun _ h=>qA5 h) I.nz),hc,qFP.mp (qEq l)⟩
end
end
section
section
variable{d n v a:Nat}{st st1 st2:St}{H H0:AHeap}{B B1 B2:Bk}{pd us p1 p2:List Nat}{l:Lit}{t0:List Ent}{r c w:List Lit}{N N':Nat->Prop}
theorem Left.weak(h:Left st st1 B B1 pd p1 t0 N)(q:∀m,N' m->N m):Left st st1 B B1 pd p1 t0 N':=⟨h.I,h.ex,h.fa,h.co,fun Q S j=>h.jj Q S (j.mono (fun _ z=>z) fun m z=>z.imp (q m) id),h.un,h.pre⟩
theorem Left.so(h:Left st st1 B B1 pd p1 t0 N)(I:Inv st B2 p2)(q:cut l (st.D l.1)=st.D l.1):cut l (st1.D l.1)=st1.D l.1:=by
 obtain⟨es,e⟩:=h.pre
 rw[h.I.D,e,qDc,<-I.D];exact qNO q
theorem Left.bad{st2:St}(h:Left st st1 B B1 pd p1 t0 N)(b:Bad st1 st2 B2 p2 t0):Bad st st2 B2 p2 t0:=⟨b.I,h.cs_▸b.ex,b.fa,b.co.trans h.co,h.cs_▸b.says⟩
theorem Pl.lt(I:Inv st B pd)(h:Pl st.cs us n):n<900:=by
 obtain⟨_,c,hc,_⟩:=h
 exact Nat.lt_trans (Nat.lt_trans (List.getElem?_eq_some_iff.mp hc).1 I.l9) (by decide)
theorem Inv.fr(I:Inv st B pd)(m:List Nat):Inv (st.sB false { B with fr:=m }) { B with fr:=m } pd :=
 ⟨sB_at,I.len,I.l9,I.perm,I.okc,I.un,I.unl,I.pdl,⟨I.W.only,I.W.zero,I.W.nd,I.W.kn,I.W.lt⟩,I.hw,I.V,I.D,I.nw⟩
theorem Inv.tm(I:Inv st B pd)(x:Option (Nat×List AV)):Inv (st.sTm x) B pd:=⟨I.hb,I.len,I.l9,I.perm,I.okc,I.un,I.unl,I.pdl,I.W,I.hw,I.V,I.D,I.nw⟩
theorem qJ9(d:Nat)(R:Rep st H)(I:Inv st B (n::us)) :
  ∃B' H',Cl (d+8) H 12 [.inst 0 7,.inst 1 1,.int n] .none H'/\Rep (st.sB false B') H'/\B'.fr=B.fr/\Inv (st.sB false B') B' us/\(∀Q S,JJ st B (n::us) Q S->JJ (st.sB false B') B' us Q (fun m=>m=n\/S m))/\Pl st.cs us n:=by
 delta n st H B us d at R I
 have hpd:=List.pairwise_cons.mp I.pdl.1
 have hp:Pl st.cs us n:=⟨fun z=>Nat.lt_irrefl _ (hpd.1 n z),I.pdl.2 n (.head _)⟩
 have hPl:∀m,Pl st.cs (n::us) m->Pl st.cs us m:=fun m h=>⟨fun z=>h.1 (.tail _ z),h.2⟩
 have hPr:∀m,m≠n->Pl st.cs us m->Pl st.cs (n::us) m:=fun m q h=>⟨fun z=>(List.mem_cons.mp z).elim q h.1,h.2⟩
 have W:Wb B (Pl st.cs us):=⟨fun x m h=>hPl m (I.W.only x m h),I.W.zero,I.W.nd,I.W.kn,fun m h=>h.lt I⟩
 injection (hp.2)with c;rintro⟨hc,h2⟩
 have hn:n<B.rows.length:=I.len▸(List.getElem?_eq_some_iff.mp hc).1
 have hr:=List.getElem?_eq_getElem hn
 generalize B.rows[n]=r at hr
 delta r at hr
 obtain⟨c',hc',p⟩:=I.perm n _ hr
 obtain rfl:=Option.some.inj (hc.symm.trans hc')
 have k:=I.okc c (List.mem_of_getElem? hc)
 injection (qIT d R I.hb hr (p.length_eq▸h2) (p.length_eq▸k.hi) (p.nodup_iff.mpr k.nd) (fun l hl=>k.md l (p.mem_iff.mp hl)) W hp I.V I.D FC_nz (Nat.lt_of_le_of_lt I.bd (by decide)))with B' H';rintro⟨cl,R',e1,e2,e3,W',kp,hw'⟩
 have row:∀m r2,B'.rows[m]?=some r2->(m=n/\r2=qAm st.tr r)\/(m≠n/\B.rows[m]?=some r2):=fun m r2 q=>by
  rw[e1]at q
  by_cases z:n=m
  .subst z;rw[List.getElem?_set_self hn]at q;exact .inl ⟨rfl,(Option.some.inj q).symm⟩
  .rw [List.getElem?_set_ne z]at q;exact .inr ⟨Ne.symm z,q⟩
 refine⟨B',H',cl,R',e3,⟨sB_at,by rw[e1,List.length_set];exact I.len,I.l9,fun m r2 q=>?_,I.okc,e2▸I.un,e2▸I.unl,⟨hpd.2,fun m h=>I.pdl.2 m (.tail _ h)⟩,W',fun m r2 h q l hl=>?_,I.V,I.D,I.nw⟩,fun Q S j m r2 h q=>?_,hp⟩
 .rcases row m r2 q with⟨rfl,rfl⟩|⟨z,q⟩
  .exact ⟨c,hc,(qCp _ _).trans p⟩
  .exact I.perm m r2 q
 .rcases row m r2 q with⟨rfl,rfl⟩|⟨z,q⟩
  .exact hw' l hl
  .exact kp m _ (I.hw m r2 (hPr m z h) q l hl)
 .rcases row m r2 q with⟨rfl,rfl⟩|⟨z,q⟩
  .exact .inr (.inl (.inl rfl))
  .exact (j m r2 (hPr m z h) q).imp id fun u=>u.imp .inr id
theorem later{dn us:List Nat}{n:Nat}(h:(dn++n::us).Pairwise (·<·)):(dn++n::us).filter (fun m=>decide (m>n))=us:=by
 obtain⟨_,h2,h3⟩:=List.pairwise_append.mp h
 have h2:=List.pairwise_cons.mp h2
 rw[List.filter_append,List.filter_cons,if_neg (show ¬decide (n>n)=true from fun z=>Nat.lt_irrefl _ (of_decide_eq_true z)),List.filter_eq_nil_iff.mpr fun m hm z=>Nat.lt_asymm (h3 m hm n (.head _)) (of_decide_eq_true z),List.filter_eq_self.mpr fun m hm=>decide_eq_true (h2.1 m hm)];rfl
noncomputable def qDF:List CS:=[(.expr (.callM (.var 29) 49 [(.var 24),(.var 35)])),
  (.ife (.not (.callM (.var 29) 50 [(.var 24),(.var 35)])) [(.asg (.attr (.var 29) 32) (.comp true false (.var 51) (.name 51) (.var 37) [(.cmp .gt (.var 51) (.var 35))])),
   (.ret (some (.lit (.bool false))))] [])]
theorem qJO(d:Nat){ρ:Rho}{ns dn:List Nat}(R:Rep st H)(I:Inv st B (n::us))(fa:st.fa=false)(ex:Ext st.cs t0 st.tr)(tm:st.tm=some (a,nsAV ns))(hp:ns.Pairwise (·<·))(hn:ns=dn++n::us)(l29:ρ.lookup 29=some (.inst 0 7))(l24:ρ.lookup 24=some (.inst 1 1))(l37:ρ.lookup 37=some (.ref a)) :
  (∃B' H' st',Ss (d+8) 19 (upd 35 (.int n) ρ) H qDF .next (upd 35 (.int n) ρ) H'/\Rep st' H'/\st'.tm=st.tm/\B'.fr=B.fr/\Left st st' B B' (n::us) us t0 (fun _=>False)) \/
   ∃B' H' st',Ss (d+8) 19 (upd 35 (.int n) ρ) H qDF (.ret (.bool false)) (upd 35 (.int n) ρ) H'/\Rep st' H'/\B'.fr=us/\Bad st st' B' us t0:=by
 delta n a st H B us t0 d ρ ns dn at R I fa ex tm hp hn l29 l24 l37
 injection qJ9 d R I with B1 H1;rintro⟨c1,R1,f1,I1,j1,p1⟩
 injection qFL d R1 I1 p1 fa ex with B2 res st2 H2;rintro⟨c2,R2,tm2,f2,u2,g2,b2⟩
 have hb:=I.hb
 have hb1:=I1.hb
 have nb1:qAo 7 49 H=true:=R.nb hb rfl fun _ _=>rfl
 have nb2:qAo 7 50 H1=true:=R1.nb hb1 rfl fun _ _=>rfl
 cases res with
 |true =>
  have g:=g2 rfl
  refine .inl ⟨B2,H2,st2,(by unfold qDF;exists l29,l24,nb1,nb2,c1,c2),R2,tm2,f2.trans f1,g.I,g.ex,g.fa,g.co,fun Q S j=>?_,g.un,g.pre⟩
  exact g.jj Q S ((j1 Q _ j).mono (fun _ z=>z) fun m z=>z.imp id fun z=>z.elim False.elim id)
 |false =>
  have g:=b2 rfl
  injection R2.frx g.I.hb us with H3;rintro⟨a3,R3⟩
  have e2:=(R2.tm (tm2.trans tm)).1
  have lc:Lc (d+8) 39 (.var 51) (.name 51) [(.cmp .gt (.var 51) (.var 35))] H2 (some a) (upd 35 (.int n) ρ) H2 (nsAV ns) (nsAV us) H2:=by
   have:=qDx (d:=d+8) (n:=39) (v:=51) (elt:=.var 51) (ifs:=[(.cmp .gt (.var 51) (.var 35))]) (src:=some a) (H:=H2) (e:=fun m:Nat=>.int (m:Int)) (f:=fun m:Nat=>.int (m:Int)) (g:=fun m=>decide (m>n)) ns (ρ:=upd 35 (.int n) ρ) (fun m _ ρ' q1 q2=>by
    have l35:ρ'.lookup 35=some (.int n):=(q2 35 rfl).trans qAX
    refine⟨?_,fun _=>E_var q1⟩
    have c1:cmpAV .gt (.int (m:Int)) (.int (n:Int)) H2=some (decide (m>n)):=congrArg some (decide_eq_decide.mpr Int.ofNat_lt)
    generalize decide (m>n)=g at c1 ⊢
    have ev:Ev (d+8) ρ' H2 39 (.cmp .gt (.var 51) (.var 35)) (.bool g) H2:=by exists q1,l35,c1
    cases g
    .exact qB5 ev Et_no
    .exact qB5 ev qDX)
   rw[hn,later (hn▸hp),<-hn]at this
   exact this
  exact .inr ⟨_,H3,_,(by unfold qDF;exists l29,l24,l37,nb1,nb2,c1,c2,qCW e2,lc,a3),R3,rfl,g.I.fr us,g.ex,g.fa,g.co,g.says⟩
end
end
section
section
variable{st:St}{H:AHeap}{B:Bk}{t0:List Ent}
theorem qMA(d:Nat)(R:Rep st H)(I:Inv st B B.fr)(fa:st.fa=false)(ex:Ext st.cs t0 st.tr)(ht:st.tm=none) :
  (∃ρ' H' st',Lf (d+8) 19 (.name 35) qCS H (some 9) [(29,.inst 0 7),(24,.inst 1 1)] H (nsAV B.un) .next ρ' H'/\ρ'.lookup 29=some (.inst 0 7)/\ρ'.lookup 24=some (.inst 1 1)/\Rep st' H'/\st'.tm=none/\Left st st' B B B.fr B.fr t0 (fun _=>False)/\Uu st') \/
   ∃ρ' H' st',Lf (d+8) 19 (.name 35) qCS H (some 9) [(29,.inst 0 7),(24,.inst 1 1)] H (nsAV B.un) (.ret (.bool false)) ρ' H'/\Rep st' H'/\st'.tm=none/\Bad st st' B B.fr t0:=by
 delta st H B t0 d at R I fa ex ht
 rcases qD7 (d:=d+8) (n:=19) (v:=35) (body:=qCS) (H0:=H) (src:=some 9) (e:=fun n:Nat=>.int (n:Int))
  (I:=fun us ρ H'=>ρ.lookup 29=some (.inst 0 7)/\ρ.lookup 24=some (.inst 1 1)/\∃st',Rep st' H'/\st'.tm=none/\Left st st' B B B.fr B.fr t0 (fun _=>False)/\(∀n∈us,n∈B.un)/\∀n∈B.un,n∈us\/∃l,st.cs[n]?=some [l]/\cut l (st'.D l.1)=st'.D l.1)
  (Q:=fun u H'=>u=.bool false/\∃st',Rep st' H'/\st'.tm=none/\Bad st st' B B.fr t0)
  (fun us ρ H' h=>by
   obtain⟨_,_,st',R',_,g,_⟩:=h
   exact st_of ((R'.lun g.I.hb).trans (R.lun I.hb).symm))
  (fun n us ρ H' h=>by
   revert h
   revert n us ρ H'
   intros n us ρ H'
   rintro⟨l29,l24,h⟩
   injection h with st';rintro⟨R',tm,g,hu,hd⟩
   rcases qJp d R' g.I (hu n (.head _)) g.fa (g.cs_.symm▸g.ex) l29 l24 with E_|E_
   .injection (E_)with c l H2 st2;rintro⟨s,R2,tm2,g2,hc,hl⟩
    refine .inl ⟨_,H2,s,(qAA rfl).trans ((qAA rfl).trans l29),(qAA rfl).trans ((qAA rfl).trans l24),st2,R2,tm2.trans tm,(g.trans g2).weak fun _ z=>.inl z,fun m hm=>hu m (.tail _ hm),fun m hm=>?_⟩
    rcases hd m hm with z|⟨l',z,q⟩
    .rcases List.mem_cons.mp z with z|z
     .exact .inr ⟨l,z▸g.cs_▸hc,hl⟩
     .exact .inl z
    .exact .inr ⟨l',z,g2.so g.I q⟩
   .injection (E_)with ρ2 H2 st2;rintro⟨s,R2,tm2,b⟩
    exact .inr ⟨_,ρ2,H2,s,rfl,st2,R2,tm2.trans tm,g.bad b⟩)
  B.un [(29,.inst 0 7),(24,.inst 1 1)] H ⟨rfl,rfl,st,R,ht,Left.refl I ex fa,fun _ z=>z,fun _ z=>.inl z⟩with⟨ρ',H',w,l29,l24,st',R',tm,g,_,hd⟩|⟨u,ρ',H',w,rfl,st',R',tm,b⟩
 .refine .inl ⟨ρ',H',st',w,l29,l24,R',tm,g,fun c hc h1 l hl=>?_⟩
  obtain⟨n,hn⟩:=List.getElem?_of_mem hc
  rw[g.cs_]at hn
  rcases hd n ((I.un n c hn).mpr h1)with z|⟨l',z,q⟩
  .exact qA5 z
  .rw [hn]at z
   obtain rfl:=Option.some.inj z
   exact List.mem_singleton.mp hl▸q
 .exact .inr ⟨ρ',H',st',w,R',tm,b⟩
theorem qMz(d a:Nat){ns:List Nat}{ρ0:Rho}(R:Rep st H)(I:Inv st B ns)(fa:st.fa=false)(ex:Ext st.cs t0 st.tr)(tm:st.tm=some (a,nsAV ns))(hf:B.fr=[])(l29:ρ0.lookup 29=some (.inst 0 7))(l24:ρ0.lookup 24=some (.inst 1 1))(l37:ρ0.lookup 37=some (.ref a)) :
  (∃ρ' H' st' B',Lf (d+8) 19 (.name 35) qDF H (some a) ρ0 H (nsAV ns) .next ρ' H'/\Rep st' H'/\B'.fr=[]/\Left st st' B B' ns [] t0 (fun _=>False)) \/
   ∃ρ' H' st' B',Lf (d+8) 19 (.name 35) qDF H (some a) ρ0 H (nsAV ns) (.ret (.bool false)) ρ' H'/\Rep st' H'/\Bad st st' B' B'.fr t0:=by
 delta st H B t0 d a ns ρ0 at R I fa ex tm hf l29 l24 l37
 rcases qD7 (d:=d+8) (n:=19) (v:=35) (body:=qDF) (H0:=H) (src:=some a) (e:=fun n:Nat=>.int (n:Int))
  (I:=fun us ρ H'=>ρ.lookup 29=some (.inst 0 7)/\ρ.lookup 24=some (.inst 1 1)/\ρ.lookup 37=some (.ref a)/\∃st' B',Rep st' H'/\st'.tm=some (a,nsAV ns)/\B'.fr=[]/\Left st st' B B' ns us t0 (fun _=>False)/\∃dn,ns=dn++us)
  (Q:=fun u H'=>u=.bool false/\∃st' B',Rep st' H'/\Bad st st' B' B'.fr t0)
  (fun us ρ H' h=>by
   obtain⟨_,_,_,st',B',R',tm',_⟩:=h
   exact st_of ((R'.tm tm').1.trans (R.tm tm).1.symm))
  (fun n us ρ H' h=>by
   revert h
   revert n us ρ H'
   intros n us ρ H'
   rintro⟨l29,l24,l37,h⟩
   injection h with st' B';rintro⟨R',tm',f',g,h⟩
   injection h with dn;intro e
   rcases qJO d R' g.I g.fa (g.cs_.symm▸g.ex) tm' I.pdl.1 e l29 l24 l37 with E_|E_
   .injection (E_)with B2 H2 st2;rintro⟨s,R2,tm2,f2,g2⟩
    exact .inl ⟨_,H2,s,(qAA rfl).trans l29,(qAA rfl).trans l24,(qAA rfl).trans l37,st2,B2,R2,tm2.trans tm',f2.trans f',(g.trans g2).weak fun _ z=>.inl z,dn++[n],by rw[List.append_assoc];exact e⟩
   .injection (E_)with B2 H2 st2;rintro⟨s,R2,f2,b⟩
    exact .inr ⟨_,_,H2,s,rfl,st2,B2,R2,f2.symm▸g.bad b⟩)
  ns ρ0 H ⟨l29,l24,l37,st,B,R,tm,hf,Left.refl I ex fa,[],rfl⟩with⟨ρ',H',w,_,_,_,st',B',R',_,f',g,_⟩|⟨u,ρ',H',w,rfl,st',B',R',b⟩
 .exact .inl ⟨ρ',H',st',B',w,R',f',g⟩
 .exact .inr ⟨ρ',H',st',B',w,R',b⟩
theorem qND(d:Nat)(R:Rep st H)(I:Inv st B B.fr)(fa:st.fa=false)(ex:Ext st.cs t0 st.tr)(ht:st.tm=none) :
  ∃B' res st' H',Cl (d+9) H 16 [.inst 0 7,.inst 1 1] (.bool res) H'/\Rep st' H'/\st'.tm=none/\(res=true->Left st st' B B' B.fr [] t0 (fun _=>False)/\B'.fr=[]/\Uu st')/\(res=false->Bad st st' B' B'.fr t0):=by
 delta st H B t0 d at R I fa ex ht
 have g31:qAB PP (.inst 0 7) 31 H=some (.ref 9):=R.g31 I.hb rfl
 have it:=qCW (R.lun I.hb)
 rcases qMA d R I fa ex ht with E_|E_
 .injection E_ with ρ1 H1 st1;rintro⟨w1,l29,l24,R1,tm1,g1,u1⟩
  unfold qCS at w1
  injection R1.fr0 g1.I.hb tm1 []with a H2;rintro⟨g32,a2,R2⟩
  have l29':(upd 37 (.ref a) ρ1).lookup 29=some (.inst 0 7):=(qAA rfl).trans l29
  have l24':(upd 37 (.ref a) ρ1).lookup 24=some (.inst 1 1):=(qAA rfl).trans l24
  have it2:=qCW (R2.tm rfl).1
  rcases qMz d a R2 ((g1.I.fr []).tm _) g1.fa (t0:=t0) (g1.cs_.symm▸g1.ex) rfl rfl l29' l24' qAX with E_|E_
  .injection E_ with ρ3 H3 st3 B3;rintro⟨w3,R3,f3,g3⟩
   unfold qDF at w3
   refine⟨B3,true,st3.sTm none,H3,C_imp (fn:=fn16) rfl rfl rfl (by exists g31,it,w1,g32,a2,qAX,it2,w3) rfl,R3.tmd,rfl,fun _=>⟨?_,f3,fun c hc=>g3.un u1 c hc⟩,fun z=>(nomatch z)⟩
   have g:Left st1 (st3.sTm none) B B3 B.fr [] t0 fun _=>False:=⟨g3.I.tm none,g3.ex,g3.fa,g3.co,g3.jj,g3.un,g3.pre⟩
   exact(g1.trans g).weak fun _ z=>.inl z
  .injection E_ with ρ3 H3 st3 B3;rintro⟨w3,R3,b3⟩
   unfold qDF at w3
   have b:Bad st1 (st3.sTm none) B3 B3.fr t0:=⟨b3.I.tm none,b3.ex,b3.fa,b3.co,b3.says⟩
   exact⟨B3,false,st3.sTm none,H3,C_imp (fn:=fn16) rfl rfl rfl (by exists g31,it,w1,g32,a2,qAX,it2,w3) rfl,R3.tmd,rfl,fun z=>(nomatch z),fun _=>g1.bad b⟩
 .injection E_ with ρ1 H1 st1;rintro⟨w1,R1,tm1,b1⟩
  unfold qCS at w1
  exact⟨B,false,st1,H1,C_imp (fn:=fn16) rfl rfl rfl (by exists g31,it,w1) rfl,R1,tm1,fun z=>(nomatch z),fun _=>b1⟩
end
end
section
noncomputable def qAV(q:List (Fin 3)):List AV:=q.map fun x=>.int (x.val:Int)
noncomputable def newV(tr:List Ent)(k:Nat):List (Fin 3):=(tr.drop k).map fun e=>e.lit.1
noncomputable def newE:CE:=.comp false false (.sub (.var 26) (.lit (.int 0))) (.name 26) (.slice false (.attr (.var 24) 27) (some (.var 53)) none) []
noncomputable def qCR:List CS:=[(.asg (.name 53) (.bi .len false [(.attr (.var 24) 27)])),
   (.ife (.not (.callM (.var 29) 50 [(.var 24),(.var 35)])) [(.ret (some (.lit (.bool false))))] []),
   (.expr (.callM (.var 54) 3 [newE]))]
noncomputable def qDw:List CS:=[(.for false (.name 35) (.bi .list false [(.callM (.attr (.var 29) 33) 4 [(.sub (.var 54) (.var 25)),(.lst false [])])]) qCR),(.asg (.name 25) (.bin .add false (.var 25) (.lit (.int 1))))]
section
variable{st st1:St}{H:AHeap}{B:Bk}{t0:List Ent}{n a k m:Nat}{ρ:Rho}{q:List (Fin 3)}{x:Fin 3}{l:List AV}
theorem qKj(d n:Nat)(R:Rep st H)(hm:m<=st.tr.length)(hl:st.tr.length<400000)(l53:ρ.lookup 53=some (.int m))(l24:ρ.lookup 24=some (.inst 1 1)):Ev d ρ H (n+5) newE (.lst (qAV (newV st.tr m))) H:=by
 have sl:qAW (st.tr.map entAV) (some (m:Int)) none=(st.tr.drop m).map entAV:=by
  unfold qAW
  dsimp only
  rw[List.length_map,qGU rfl hm,<-List.length_map (f:=entAV) (as:=st.tr),List.take_length,List.map_drop]
 have lc:Lc d (n+4) (.sub (.var 26) (.lit (.int 0))) (.name 26) [] H none ρ H ((st.tr.drop m).map entAV) (qAV (newV st.tr m)) H:=by
  unfold qAV newV
  rw[List.map_map]
  exact qBy _ fun e _ ρ' q1 _=>by exists q1
 have sm:small (m:Int)=true:=qAc (Nat.lt_of_le_of_lt hm hl)
 unfold newE
 exists l53,l24,qD6 R.l4,sl,lc,sm
theorem qN3{l':List AV}(h:H[a]?=some (.list l))(h2:l.length+l'.length<1000000):qAg a 3 [.lst l'] H=some (.none,H.set a (.list (l++l'))):=m_of h (if_pos h2)
theorem qDg(h:H[a]?=some (.list l))(m:Nat)(hm:m<4):qBZ H a m=true:=(qEu h).trans (decide_eq_true hm)
theorem qIz(d:Nat)(R:Rep st H)(I:Inv st B [])(hp:Pl st.cs [] n)(fa:st.fa=false)(ex:Ext st.cs t0 st.tr)(tm:st.tm=some (a,qAV q))(hq:q.length<400000)(l29:ρ.lookup 29=some (.inst 0 7))(l24:ρ.lookup 24=some (.inst 1 1))(l54:ρ.lookup 54=some (.ref a)) :
  (∃B' H' st',Ss (d+9) 18 (upd 35 (.int n) ρ) H qCR .next (upd 53 (.int st.tr.length) (upd 35 (.int n) ρ)) H'/\Rep st' H'/\st'.tm=some (a,qAV (q++newV st'.tr st.tr.length))/\B'.fr=B.fr/\Left st st' B B' [] [] t0 (· = n)) \/
   ∃B' H' st',Ss (d+9) 18 (upd 35 (.int n) ρ) H qCR (.ret (.bool false)) (upd 53 (.int st.tr.length) (upd 35 (.int n) ρ)) H'/\Rep st' H'/\B'.fr=B.fr/\Bad st st' B' [] t0:=by
 delta st H B t0 n a ρ q d at R I hp fa ex tm hq l29 l24 l54
 injection qFL (d+1) R I hp fa ex with B' res st' H';rintro⟨c,R',tm',f',u',g,b⟩
 have nb:qAo 7 50 H=true:=R.nb I.hb rfl fun _ _=>rfl
 have ln:=qBD R
 cases res with
 |false=>exact .inr ⟨B',H',st',(by unfold qCR;exists l29,l24,nb,ln,c),R',f',b rfl⟩
 |true =>
  have g:=g rfl
  have e:=tm'.trans tm
  have hb:=g.I.bd
  injection g.pre with es;intro he
  have hle:st.tr.length<=st'.tr.length:=by rw[he,List.length_append];exact Nat.le_add_right _ _
  have ev:=qKj (d+9) 34 (ρ:=upd 53 (.int st.tr.length) (upd 35 (.int n) ρ)) R' hle (Nat.lt_of_le_of_lt hb (by decide)) qAX ((qAA rfl).trans ((qAA rfl).trans l24))
  have t:=R'.tm e
  have xm:=qN3 (l':=qAV (newV st'.tr st.tr.length)) t.1 (by
   unfold qAV newV
   rw[List.length_map,List.length_map,List.length_map,List.length_drop]
   exact Nat.lt_of_lt_of_le (Nat.add_lt_add_of_lt_of_le hq (Nat.le_trans (Nat.sub_le _ _) hb)) (by decide))
  refine .inl ⟨B',_,_,(by unfold qCR;exists l29,l24,l54,nb,ln,c,qDg t.1 3 (by decide),ev,xm),t.2 _,?_,f',g.I.tm _,g.ex,g.fa,g.co,g.jj,g.un,g.pre⟩
  show some (a,qAV q++qAV (newV st'.tr st.tr.length))=some (a,qAV (q++newV st'.tr st.tr.length))
  unfold qAV
  rw[List.map_append]
end
end
section
section
variable{st st1:St}{H:AHeap}{B:Bk}{t0:List Ent}{n a k m spot:Nat}{ρ:Rho}{q:List (Fin 3)}{x:Fin 3}{l:List AV}
theorem Inv.watch(I:Inv st B [])(h:n∈B.wt x):Pl st.cs [] n:=I.W.only x n h
theorem qO1(d:Nat)(R:Rep st H)(I:Inv st B [])(x:Fin 3)(fa:st.fa=false)(ex:Ext st.cs t0 st.tr)(tm:st.tm=some (a,qAV q))(hq:q.length<=3+st.tr.length)(l29:ρ.lookup 29=some (.inst 0 7))(l24:ρ.lookup 24=some (.inst 1 1))(l54:ρ.lookup 54=some (.ref a))(l25:ρ.lookup 25=some (.int k)) :
  (∃B' ρ' H' st' q',Lf (d+9) 18 (.name 35) qCR H none ρ H (nsAV (B.wt x)) .next ρ' H'/\(ρ'.lookup 29=some (.inst 0 7)/\ρ'.lookup 24=some (.inst 1 1)/\ρ'.lookup 54=some (.ref a)/\ρ'.lookup 25=some (.int k))/\Rep st' H'/\st'.tm=some (a,qAV q')/\B'.fr=B.fr/\Left st st' B B' [] [] t0 (·∈B.wt x)/\q'=q++newV st'.tr st.tr.length) \/
   ∃B' ρ' H' st',Lf (d+9) 18 (.name 35) qCR H none ρ H (nsAV (B.wt x)) (.ret (.bool false)) ρ' H'/\Rep st' H'/\B'.fr=B.fr/\Bad st st' B' [] t0:=by
 delta st H B t0 a k ρ q d x at R I fa ex tm hq l29 l24 l54 l25
 rcases qD7 (d:=d+9) (n:=18) (v:=35) (body:=qCR) (H0:=H) (src:=none) (e:=fun n:Nat=>.int (n:Int))
  (I:=fun ns ρ H'=>(ρ.lookup 29=some (.inst 0 7)/\ρ.lookup 24=some (.inst 1 1)/\ρ.lookup 54=some (.ref a)/\ρ.lookup 25=some (.int k))/\∃B' st' q',Rep st' H'/\st'.tm=some (a,qAV q')/\B'.fr=B.fr/\Left st st' B B' [] [] t0 (fun m=>m∈B.wt x/\m ∉ ns)/\q'=q++newV st'.tr st.tr.length/\∀m∈ns,m∈B.wt x)
  (Q:=fun u H'=>u=.bool false/\∃B' st',Rep st' H'/\B'.fr=B.fr/\Bad st st' B' [] t0)
  (fun _ _ _ _=>rfl)
  (fun n ns ρ H' h=>by
   revert h
   revert n ns ρ H'
   intros n ns ρ H'
   rintro⟨⟨l29,l24,l54,l25⟩,h⟩
   injection h with B' st' q';rintro⟨R',tm',f',g,e,hs⟩
   have hb:=g.I.bd
   have hlen:q'.length<400000:=by
    rw[e,List.length_append];unfold newV
    rw[List.length_map,List.length_drop]
    exact Nat.lt_of_le_of_lt (Nat.add_le_add (Nat.le_trans hq (Nat.add_le_add_left I.bd 3)) (Nat.le_trans (Nat.sub_le _ _) hb)) (by decide)
   have hp:Pl st'.cs [] n:=by rw[g.cs_];exact I.watch (hs n (.head _))
   obtain⟨e1,h1⟩:=g.pre
   rcases qIz d R' g.I hp g.fa (g.cs_.symm▸g.ex) tm' hlen l29 l24 l54 with E_|E_
   .injection (E_)with B2 H2 st2;rintro⟨s,R2,tm2,f2,g2⟩
    obtain⟨e2,h2⟩:=g2.pre
    refine .inl ⟨_,H2,s,⟨(qAA rfl).trans ((qAA rfl).trans l29),(qAA rfl).trans ((qAA rfl).trans l24),(qAA rfl).trans ((qAA rfl).trans l54),(qAA rfl).trans ((qAA rfl).trans l25)⟩,B2,st2,_,R2,tm2,f2.trans f',(g.trans g2).weak fun m z=>?_,?_,fun m hm=>hs m (.tail _ hm)⟩
    .by_cases u:m=n
     .exact .inr u
     .exact .inl ⟨z.1,fun w=>(List.mem_cons.mp w).elim u z.2⟩
    .unfold newV at e ⊢
     rw[e,h2,h1,List.append_assoc,List.append_assoc,List.drop_left,List.drop_left,<-List.append_assoc st.tr,List.drop_left,List.map_append]
   .injection (E_)with B2 H2 st2;rintro⟨s,R2,f2,b⟩
    exact .inr ⟨_,_,H2,s,rfl,B2,st2,R2,f2.trans f',g.bad b⟩)
  (B.wt x) ρ H ⟨⟨l29,l24,l54,l25⟩,B,st,q,R,tm,rfl,(Left.refl I ex fa).weak fun m z=>z.2 z.1,by unfold newV;rw[List.drop_length];exact(List.append_nil _).symm,fun _ h=>h⟩with⟨ρ',H',w,ls,B',st',q',R',tm',f',g,e,_⟩|⟨u,ρ',H',w,rfl,B',st',R',f',b⟩
 .exact .inl ⟨B',ρ',H',st',q',w,ls,R',tm',f',g.weak fun m z=>⟨z,List.not_mem_nil⟩,e⟩
 .exact .inr ⟨B',ρ',H',st',w,R',f',b⟩
theorem qMZ(d:Nat):∀(k:Nat) {st:St}{H:AHeap}{B:Bk}{ρ:Rho}{q:List (Fin 3)}{spot:Nat},Rep st H->Inv st B []->st.fa=false->Ext st.cs t0 st.tr->st.tm=some (a,qAV q)->q.length<=3+st.tr.length->spot<=q.length->97<=k+spot->Uu st->JJ st B [] (·∈q.drop spot) (fun _=>False) ->
  ρ.lookup 29=some (.inst 0 7)->ρ.lookup 24=some (.inst 1 1)->ρ.lookup 54=some (.ref a)->ρ.lookup 25=some (.int spot) ->
  (∃B' ρ' H' st',Lw (d+9) 19 (.cmp .lt (.var 25) (.bi .len false [(.var 54)])) qDw k ρ H .next ρ' H'/\Rep st' H'/\B'.fr=B.fr/\Inv st' B' []/\st'.fa=false/\Ext st.cs t0 st'.tr/\core st'=core st/\Uu st'/\JJ st' B' [] (fun _=>False) (fun _=>False)) \/
   ∃B' ρ' H' st',Lw (d+9) 19 (.cmp .lt (.var 25) (.bi .len false [(.var 54)])) qDw k ρ H (.ret (.bool false)) ρ' H'/\Rep st' H'/\B'.fr=B.fr/\Bad st st' B' [] t0:=by
 intro k
 induction k with
 |zero =>
  intro st H B ρ q spot R I fa ex tm hq hs hk uu jj l29 l24 l54 l25
  exact absurd (Nat.le_trans hk (Nat.le_trans (Nat.le_of_eq (Nat.zero_add spot)) (Nat.le_trans hs (Nat.le_trans hq (Nat.add_le_add_left I.bd 3))))) (by decide)
 |succ k ih =>
  intro st H B ρ q spot R I fa ex tm hq hs hk uu jj l29 l24 l54 l25
  delta t0 a d k st H B ρ q spot at ih R I fa ex tm hq hs hk uu jj l29 l24 l54 l25
  have hb:=I.hb
  have t:=R.tm tm
  have ln:biAV .len false [.ref a] H=some (.int q.length,H):=by rw[qBo t.1];unfold qAV;rw[List.length_map]
  by_cases hlt:spot<q.length
  .have c1:cmpAV .lt (.int (spot:Int)) (.int (q.length:Int)) H=some true:=congrArg some (decide_eq_true (Int.ofNat_lt.mpr hlt))
   have hx:=List.getElem?_eq_getElem hlt
   have hd:q.drop spot=q[spot]::q.drop (spot+1):=List.drop_eq_getElem_cons hlt
   generalize q[spot]=x at hx hd
   delta x at hx hd
   injection (R.wt hb)with w;rintro⟨wd,wl⟩
   have sx:subAV (.ref a) (.int (spot:Int)) H=some (.int (x.val:Int)):=by
    rw[qBh t.1,idx_at rfl (by unfold qAV;rw[List.length_map];exact hlt),Option.bind_some]
    unfold qAV
    rw[List.getElem?_map,hx];rfl
   have hv:∃v,qAg 11 4 [.int (x.val:Int),.lst []] H=some (v,H)/\biAV .list false [v] H=some (.lst (nsAV (B.wt x)),H):=by
    refine⟨_,get_m wd,?_⟩
    rw[qBe]
    by_cases z:x∈B.ks
    .rw [if_pos z];exact qMr (wl x z).1
    .rw [if_neg z,I.W.zero x z];rfl
   injection (hv)with v;rintro⟨gm,lv⟩
   have gk:qBZ H 11 4=true:=qPS wd
   rcases qO1 d R I x fa ex tm hq l29 l24 l54 l25 with E_|E_
   .injection (E_)with B' ρ1 H1 st' q';rintro⟨w1,⟨k29,k24,k54,k25⟩,R1,tm1,f1,g,e⟩
    have jj':JJ st' B' [] (·∈q'.drop (spot+1)) (fun _=>False):=by
     refine(g.jj (·∈q.drop (spot+1)) (fun _=>False) fun m r hp hr=>?_).mono (fun y z=>?_) fun _ z=>z
     .rcases jj m r hp hr with z|z|⟨l,hl,z⟩
      .exact .inl z
      .exact z.elim
      .rw [hd]at z
       rcases List.mem_cons.mp z with z|z
       .exact .inr (.inl (.inl (z▸I.hw m r hp hr l hl)))
       .exact .inr (.inr ⟨l,hl,z⟩)
     .rw [e,List.drop_append_of_le_length hlt]
      rcases z with z|⟨en,h,z⟩
      .exact List.mem_append_left _ z
      .exact List.mem_append_right _ (z▸List.mem_map_of_mem (f:=fun e:Ent=>e.lit.1) h)
    obtain⟨es,hes⟩:=g.pre
    have hq':q'.length<=3+st'.tr.length:=by
     rw[e,List.length_append];unfold newV
     rw[List.length_map,List.length_drop,hes,List.length_append,Nat.add_sub_cancel_left,<-Nat.add_assoc]
     exact Nat.add_le_add_right hq _
    have hs':spot+1<=q'.length:=by rw[e,List.length_append];exact Nat.le_trans hlt (Nat.le_add_right _ _)
    have s1:Ss (d+9) 19 ρ H qDw .next (upd 25 (.int ((spot:Int)+1)) ρ1) H1:=by unfold qDw;exists l29,l54,l25,gk,sx,gm,lv,w1,k25
    rcases ih (ρ:=upd 25 (.int ((spot:Int)+1)) ρ1) R1 g.I g.fa (g.cs_.symm▸g.ex) tm1 hq' hs' (Nat.le_trans hk (Nat.le_of_eq (Nat.succ_add_eq_add_succ k spot))) (g.un uu) jj' ((qAA rfl).trans k29) ((qAA rfl).trans k24) ((qAA rfl).trans k54) qAX with E_|E_
    .injection (E_)with B2 ρ2 H2 st2;rintro⟨w2,R2,f2,I2,fa2,ex2,co2,u2,j2⟩
     exact .inl ⟨B2,ρ2,H2,st2,qGe (by exists l25,l54,ln,c1) s1 w2,R2,f2.trans f1,I2,fa2,g.cs_▸ex2,co2.trans g.co,u2,j2⟩
    .injection (E_)with B2 ρ2 H2 st2;rintro⟨w2,R2,f2,b2⟩
     exact .inr ⟨B2,ρ2,H2,st2,qGe (by exists l25,l54,ln,c1) s1 w2,R2,f2.trans f1,g.bad b2⟩
   .injection (E_)with B' ρ1 H1 st';rintro⟨w1,R1,f1,b⟩
    have s1:Ss (d+9) 19 ρ H qDw (.ret (.bool false)) ρ1 H1:=by unfold qDw;exists l29,l54,l25,gk,sx,gm,lv,w1
    exact .inr ⟨B',ρ1,H1,st',qPp (by exists l25,l54,ln,c1) s1,R1,f1,b⟩
  .have c1:cmpAV .lt (.int (spot:Int)) (.int (q.length:Int)) H=some false:=congrArg some (decide_eq_false fun z=>hlt (Int.ofNat_lt.mp z))
   have e:q.drop spot=[]:=List.drop_eq_nil_of_le (Nat.le_of_not_lt hlt)
   exact .inl ⟨B,ρ,H,st,qIv (by exists l25,l54,ln,c1),R,rfl,I,fa,ex,rfl,uu,jj.mono (fun y z=>by rw[e]at z;exact qA5 z) fun _ z=>z⟩
end
end
section
section
variable{st st1:St}{H:AHeap}{B:Bk}{t0:List Ent}{n a k m spot:Nat}{ρ:Rho}{q:List (Fin 3)}{v:AV}
structure Done (st st':St) (B':Bk) (t0:List Ent):Prop where
 I:Inv st' B' []
 ex:Ext st.cs t0 st'.tr
 fa:st'.fa=false
 co:core st'=core st
 un:Uu st'
 jj:JJ st' B' [] (fun _=>False) (fun _=>False)
theorem qKQ(d:Nat)(R:Rep st H)(I:Inv st B B.fr)(fa:st.fa=false)(ex:Ext st.cs t0 st.tr)(ht:st.tm=none)(hq:q.length<=3)(jj:JJ st B B.fr (·∈q) (fun _=>False))
 (hv:∀(ρ:Rho) (st1:St) (H1:AHeap),Rep st1 H1->ρ.lookup 24=some (.inst 1 1)->ρ.lookup 52=some v->Ev (d+9) ρ H1 39 (.bi .list false [.ite (.cmp .isNone (.var 52) (.lit .none)) (.bi .range false [.callM (.var 24) 56 []]) (.var 52)]) (.lst (qAV q)) H1) :
  ∃B' res st' H' ρ',Ss (d+9) 20 [(29,.inst 0 7),(24,.inst 1 1),(52,v)] H fn17.body (.ret (.bool res)) ρ' H'/\Rep st' H'/\st'.tm=none/\(res=true->B'.fr=[]/\Done st st' B' t0)/\(res=false->Bad st st' B' B'.fr t0):=by
 delta st H B t0 q v d at R I fa ex ht hq jj hv
 have hb:=I.hb
 have ln:=qBD R
 have nb:qAo 7 55 H=true:=R.nb I.hb rfl fun _ _=>rfl
 injection qND d R I fa ex ht with B1 res st1 H1;rintro⟨c1,R1,tm1,g,b⟩
 cases res with
 |false=>exact⟨B1,false,st1,H1,_,(by exists ln,nb,c1),R1,tm1,fun z=>(nomatch z),fun _=>b rfl⟩
 |true =>
  obtain⟨g,f1,u1⟩:=g rfl
  have bd:=g.I.bd
  injection g.pre with es;intro he
  have hle:st.tr.length<=st1.tr.length:=by rw[he,List.length_append];exact Nat.le_add_right _ _
  have ev:=qKj (d+9) 34 (ρ:=[(29,.inst 0 7),(24,.inst 1 1),(52,v),(53,.int st.tr.length)]) R1 hle (Nat.lt_of_le_of_lt bd (by decide)) rfl rfl
  have es':=hv [(29,.inst 0 7),(24,.inst 1 1),(52,v),(53,.int st.tr.length)] st1 H1 R1 rfl rfl
  have ql:(q++newV st1.tr st.tr.length).length<=3+st1.tr.length:=by
   rw[List.length_append];unfold newV
   rw[List.length_map,List.length_drop]
   exact Nat.add_le_add hq (Nat.sub_le _ _)
  have cat:binAV .add (.lst (qAV q)) (.lst (qAV (newV st1.tr st.tr.length)))=some (.lst (qAV (q++newV st1.tr st.tr.length))):=by
   unfold qAV
   rw[qOp (by rw[List.length_map,List.length_map,<-List.length_append];exact Nat.lt_of_le_of_lt ql (Nat.lt_of_le_of_lt (Nat.add_le_add_left bd 3) (by decide))),List.map_append]
  have R2:=R1.tm0 (qAV (q++newV st1.tr st.tr.length))
  have j1:JJ st1 B1 [] (·∈(q++newV st1.tr st.tr.length).drop 0) (fun _=>False):=(g.jj (·∈q) (fun _=>False) (jj.mono (fun _ z=>z) fun _ z=>z.elim)).mono (fun y z=>by
   rcases z with z|⟨en,h,z⟩
   .exact List.mem_append_left _ z
   .exact List.mem_append_right _ (z▸List.mem_map_of_mem (f:=fun e:Ent=>e.lit.1) h)) fun _ z=>z
  unfold newE at ev
  rcases qMZ d 1000 (spot:=0) (ρ:=[(29,.inst 0 7),(24,.inst 1 1),(52,v),(53,.int st.tr.length),(54,.ref H1.length),(25,.int 0)]) R2 (g.I.tm _) g.fa (g.cs_.symm▸g.ex) rfl ql (Nat.zero_le _) (by decide) u1 j1 rfl rfl rfl rfl with E_|E_
  .injection E_ with B3 ρ3 H3 st3;rintro⟨w,R3,f3,I3,fa3,ex3,co3,u3,j3⟩
   unfold qDw qCR newE at w
   exact⟨B3,true,st3.sTm none,H3,_,(by exists ln,nb,c1,es',ev,cat,w),R3.tmd,rfl,fun _=>⟨f3.trans f1,I3.tm none,g.cs_▸ex3,fa3,co3.trans g.co,u3,j3⟩,fun z=>(nomatch z)⟩
  .injection E_ with B3 ρ3 H3 st3;rintro⟨w,R3,f3,b3⟩
   unfold qDw qCR newE at w
   refine⟨B3,false,st3.sTm none,H3,_,(by exists ln,nb,c1,es',ev,cat,w),R3.tmd,rfl,fun z=>(nomatch z),fun _=>?_⟩
   rw[f3.trans f1]
   have b:Bad st1 (st3.sTm none) B3 [] t0:=⟨b3.I.tm none,b3.ex,b3.fa,b3.co,b3.says⟩
   exact g.bad b
theorem qIQ(d:Nat)(R:Rep st H)(I:Inv st B B.fr)(fa:st.fa=false)(ex:Ext st.cs t0 st.tr)(ht:st.tm=none) :
  ∃B' res st' H',Cl (d+10) H 17 [.inst 0 7,.inst 1 1] (.bool res) H'/\Cl (d+10) H 17 [.inst 0 7,.inst 1 1,.none] (.bool res) H'/\Rep st' H'/\st'.tm=none/\(res=true->B'.fr=[]/\Done st st' B' t0)/\(res=false->Bad st st' B' B'.fr t0):=by
 obtain⟨B',res,st',H',ρ',s,z⟩:=qKQ (q:=[0,1,2]) (v:=.none) d R I fa ex ht (Nat.le_refl 3) (fun n r hp hr=>by
  obtain⟨r',hr',h2,_⟩:=I.row hp
  obtain rfl:=Option.some.inj (hr.symm.trans hr')
  obtain⟨a,b,t,rfl⟩:=two_of h2
  exact .inr (.inr ⟨a,.head _,fin3 (P:=(·∈[0,1,2])) (.head _) (.tail _ (.head _)) (.tail _ (.tail _ (.head _))) a.1⟩)) fun ρ st1 H1 R1 l24 l52=>by
   have sz:=qO2 (d+8) R1
   have rg:biAV .range false [.int 3] H1=some (.rng 0 3,H1):=rfl
   have ls:biAV .list false [.rng 0 3] H1=some (.lst (qAV [0,1,2]),H1):=rfl
   exists l24,l52,sz,rg,ls
 exact⟨B',res,st',H',C_imp (fn:=fn17) rfl rfl rfl s rfl,C_imp (fn:=fn17) rfl rfl rfl s rfl,z⟩
theorem qKR(d:Nat)(R:Rep st H)(I:Inv st B B.fr)(fa:st.fa=false)(ex:Ext st.cs t0 st.tr)(ht:st.tm=none)(hq:q.length<=3)(jj:JJ st B B.fr (·∈q) (fun _=>False)) :
  ∃B' res st' H',Cl (d+10) H 17 [.inst 0 7,.inst 1 1,.lst (qAV q)] (.bool res) H'/\Rep st' H'/\st'.tm=none/\(res=true->B'.fr=[]/\Done st st' B' t0)/\(res=false->Bad st st' B' B'.fr t0):=by
 obtain⟨B',res,st',H',ρ',s,z⟩:=qKQ (v:=.lst (qAV q)) d R I fa ex ht hq jj fun ρ st1 H1 R1 l24 l52=>by exists l24,l52,qIZ
 exact⟨B',res,st',H',C_imp (fn:=fn17) rfl rfl rfl s rfl,z⟩
end
end
section
noncomputable def oAV:Option Lit->AV
 |none=>.none
 |some l=>lav l
noncomputable def othr(o:Option Lit)(m:Lit):Bool:=!decide (o=some m)
section
variable{d n:Nat}{st:St}{H:AHeap}{D:Fin 3->Dm}{r c:List Lit}{l:Lit}{o:Option Lit}{ρ:Rho}{L L':List AV}{bl:List Bool}{α:Type}
theorem qJH(c:List Lit):qE7 (c.map lav)=true:=List.all_eq_true.mpr fun a ha=>(List.mem_map.mp ha).elim fun l h=>h.2▸rfl
theorem qFc(c:List Lit):(c.map lav).all noRef=true:=List.all_eq_true.mpr fun a ha=>(List.mem_map.mp ha).elim fun l h=>h.2▸rfl
theorem qPN(l:Lit)(c:List Lit):cmpAV .inn (lav l) (clAV c) H=some (hasAV (lav l) (c.map lav)):=by
 show(if(lav l).clean&&qE7 (c.map lav)then some (hasAV (lav l) (c.map lav))else none)=_
 rw[qJH];rfl
theorem qOU:hasAV (lav l) (c.map lav)=decide (l∈c):=by
 exact Bool.eq_iff_iff.mpr ((qDE.trans ⟨fun h=>(List.mem_map.mp h).elim fun m z=>qGJ z.2▸z.1,List.mem_map_of_mem⟩).trans decide_eq_true_iff.symm)
theorem ne_o(m:Lit)(o:Option Lit):cmpAV .ne (lav m) (oAV o) H=some (othr o m):=by
 cases o with
 |none=>exact qDK rfl rfl rfl rfl rfl rfl
 |some l =>
  refine qDK rfl rfl rfl rfl rfl ?_
  exact Bool.eq_iff_iff.mpr (((AV.beq_iff _ _).trans ⟨fun e=>congrArg some (qGJ e).symm,fun e=>congrArg lav (Option.some.inj e).symm⟩).trans decide_eq_true_iff.symm)
theorem qEg(c c':List Lit):cmpAV .eq (.lst (c.map lav)) (.lst (c'.map lav)) H=some ((AV.lst (c.map lav)).beq (.lst (c'.map lav))):=by
 have k:∀c:List Lit,(AV.lst (c.map lav)).clean=true:=fun c=>List.all_eq_true.mpr fun a ha=>(List.mem_map.mp ha).elim fun l h=>h.2▸rfl
 exact qBc (qF4 (qFc c)) (qF4 (qFc c')) (k c) (k c') rfl rfl
theorem qFA(f:α->Bool)(xs:List α):cmpAV .notIn (.bool true) (.lst (xs.map fun x=>.bool (f x))) H=some (!xs.any f):=by
 have k:(xs.map fun x=>AV.bool (f x)).all (fun v=>(qAN v).isSome)=true:=List.all_eq_true.mpr fun a ha=>(List.mem_map.mp ha).elim fun l h=>h.2▸rfl
 have e:hasAV (.bool true) (xs.map fun x=>AV.bool (f x))=xs.any f:=by
  exact Bool.eq_iff_iff.mpr ((qDE.trans ⟨fun h=>(List.mem_map.mp h).elim fun x z=>⟨x,z.1,AV.bool.inj z.2⟩,fun⟨x,h,z⟩=>List.mem_map.mpr ⟨x,h,congrArg AV.bool z⟩⟩).trans List.any_eq_true.symm)
 show(if(xs.map fun x=>AV.bool (f x)).all (fun v=>(qAN v).isSome)then some (hasAV (.bool true) (xs.map fun x=>AV.bool (f x)))else none).map (fun x=>!x)=_
 rw[k,e];rfl
theorem qOH{a b:Lit}(ha:mid a)(hb:mid b)(e:negL a=negL b):a=b:=by rw[<-qKl ha,e,qKl hb]
theorem qCL(nd:c.Nodup)(h:∀m∈c,mid m):(c.map negL).Nodup:=List.pairwise_map.mpr (nd.imp_of_mem fun ha hb q e=>q (qOH (h _ ha) (h _ hb) e))
theorem qAw(nd:r.Nodup)(h:r.length<=3):qAY (r.map lav)=some (qAD (r.map lav)):=qEQ (qBp (qEj r)) (by rw[List.length_map];exact Nat.lt_of_le_of_lt h (by decide)) (qFb nd)
theorem qCv(r:List Lit):∃s:List Lit,qAD (r.map lav)=s.map lav:=by
 refine⟨(qAD (r.map lav)).map fun a=>@Classical.epsilon Lit ⟨(0,0,0)⟩ fun l=>a=lav l,?_⟩
 rw[List.map_map]
 refine(List.map_id' _).symm.trans (List.map_congr_left fun a ha=>?_)
 obtain⟨l,_,rfl⟩:=List.mem_map.mp ((qAP _).mem_iff.mp ha)
 exact @Classical.epsilon_spec Lit (fun m=>lav l=lav m) ⟨l,rfl⟩
theorem qEZ{r r':List Lit}(p:r.Perm r')(nd:r.Nodup):qAD (r.map lav)=qAD (r'.map lav):=qK1 (p.map _) (qBp (qEj r)) (qBp (qEj r')) (qFb nd)
noncomputable def qEV:List CS:=[(.ife (.bor [(.cmp .isNone (.var 20) (.lit .none)),(.cmp .inn (.var 20) (.var 34))]) [(.asg (.name 78) (.comp false false (.var 44) (.name 44) (.var 34) [(.cmp .ne (.var 44) (.var 20))])),
   (.ife (.band [(.cmp .eq (.bi .sorted false [(.var 65)]) (.bi .sorted false [(.comp false false (.callF 35 [(.var 44)]) (.name 44) (.var 78) [])])),(.cmp .notIn (.lit (.bool true)) (.comp false false (.callF 36 [(.var 44),(.var 77)]) (.name 44) (.var 78) []))]) [(.ret (some (.lit (.bool true))))] [])] [])]
noncomputable def saI(o:Option Lit)(r:List Lit)(D:Fin 3->Dm)(ρ:Rho):Prop:=ρ.lookup 20=some (oAV o)/\ρ.lookup 65=some (clAV r)/\ρ.lookup 77=some (qAl D)
theorem qM0{e:CE}{es:List CE}{b c:Bool}(h1:Ev d ρ H n e (.bool b) H)(h2:Ea d ρ H n es c true H):Ea d ρ H n (e::es) (b&&c) true H:=by
 cases b
 .exact qM7 h1 Ea_no
 .exact qM7 h1 h2
theorem qO7(d:Nat)(hr:r.Nodup)(hr3:r.length<=3)(k:Okc 1 c)(q:saI o r D ρ):∃ρ',saI o r D ρ' /\
  (Ss (d+2) 19 (upd 34 (clAV c) ρ) H qEV (.ret (.bool true)) ρ' H\/Ss (d+2) 19 (upd 34 (clAV c) ρ) H qEV .next ρ' H/\¬((∀l,o=some l->l∈c)/\r.Perm ((c.filter (othr o)).map negL)/\∀m∈c,o≠some m->isF D m=true)):=by
 delta H D r c o ρ d at hr hr3 k q
 obtain⟨l20,l65,l77⟩:=q
 have q1:saI o r D (upd 34 (clAV c) ρ):=⟨(qAA rfl).trans l20,(qAA rfl).trans l65,(qAA rfl).trans l77⟩
 have q2:saI o r D (upd 78 (.lst ((c.filter (othr o)).map lav)) (upd 34 (clAV c) ρ)):=⟨(qAA rfl).trans q1.1,(qAA rfl).trans q1.2.1,(qAA rfl).trans q1.2.2⟩
 have fm:∀m∈c.filter (othr o),m∈c:=fun m h=>(List.mem_filter.mp h).1
 have hor:∃g,Ev (d+2) (upd 34 (clAV c) ρ) H 40 (.bor [(.cmp .isNone (.var 20) (.lit .none)),(.cmp .inn (.var 20) (.var 34))]) (.bool g) H/\(g=false->¬∀l,o=some l->l∈c):=by
  cases o with
  |none =>
   have h20:(upd 34 (clAV c) ρ).lookup 20=some .none:=q1.1
   exact⟨true,(by exists h20),fun z=>(nomatch z)⟩
  |some l =>
   have h20:(upd 34 (clAV c) ρ).lookup 20=some (lav l):=q1.1
   have ci:=qPN (H:=H) l c
   rw[qOU]at ci
   by_cases z:l∈c
   .rw [decide_eq_true z]at ci
    have c0:cmpAV .isNone (lav l) .none H=some false:=rfl
    exact⟨true,(by exists h20,ci,c0,qAX),fun z=>(nomatch z)⟩
   .rw [decide_eq_false z]at ci
    have c0:cmpAV .isNone (lav l) .none H=some false:=rfl
    exact⟨false,(by exists h20,ci,c0,qAX),fun _ w=>z (w l rfl)⟩
 injection hor with g;rintro⟨hg,g0⟩
 cases g with
 |false=>exact⟨_,q1,.inr ⟨(by unfold qEV;exists hg),fun z=>g0 rfl z.1⟩⟩
 |true =>
  have lc1:Lc (d+2) 39 (.var 44) (.name 44) [(.cmp .ne (.var 44) (.var 20))] H none (upd 34 (clAV c) ρ) H (c.map lav) ((c.filter (othr o)).map lav) H :=
   qDx c fun m hm ρ' h1 h2=>by
    have l20:=(h2 20 rfl).trans q1.1
    have cn:=ne_o (H:=H) m o
    refine⟨?_,fun _=>E_var h1⟩
    generalize othr o m=b at cn ⊢
    have ev:Ev (d+2) ρ' H 39 (.cmp .ne (.var 44) (.var 20)) (.bool b) H:=by exists h1,l20,cn
    cases b
    .exact qB5 ev Et_no
    .exact qB5 ev qDX
  have it1:iterE false H (clAV c)=some (c.map lav,none):=rfl
  have ndf:(c.filter (othr o)).Nodup:=k.nd.filter _
  have lenf:(c.filter (othr o)).length<=3:=Nat.le_trans (List.length_filter_le ..) k.hi
  have lc2:Lc (d+2) 36 (.callF 35 [(.var 44)]) (.name 44) [] H none (upd 78 (.lst ((c.filter (othr o)).map lav)) (upd 34 (clAV c) ρ)) H ((c.filter (othr o)).map lav) (((c.filter (othr o)).map negL).map lav) H:=by
   rw[List.map_map]
   exact qBy _ fun m hm ρ' h1 h2=>by exists h1,Cl_of (qDq (d+1) (k.md m (fm m hm)))
  have lc3:Lc (d+2) 37 (.callF 36 [(.var 44),(.var 77)]) (.name 44) [] H none (upd 78 (.lst ((c.filter (othr o)).map lav)) (upd 34 (clAV c) ρ)) H ((c.filter (othr o)).map lav) ((c.filter (othr o)).map fun m=>.bool (!isF D m)) H :=
   qBy _ fun m hm ρ' h1 h2=>by
    have l77:=(h2 77 rfl).trans q2.2.2
    exists h1,l77,qIq d (k.md m (fm m hm)) D
  have so1:biAV .sorted false [clAV r] H=some (.lst (qAD (r.map lav)),H):=qAi rfl (qAw hr hr3)
  have so2:biAV .sorted false [.lst (((c.filter (othr o)).map negL).map lav)] H=some (.lst (qAD (((c.filter (othr o)).map negL).map lav)),H):=qAi rfl (qAw (qCL ndf fun m hm=>k.md m (fm m hm)) (by rw[List.length_map];exact lenf))
  have ce:cmpAV .eq (.lst (qAD (r.map lav))) (.lst (qAD (((c.filter (othr o)).map negL).map lav))) H=some ((AV.lst (qAD (r.map lav))).beq (.lst (qAD (((c.filter (othr o)).map negL).map lav)))):=by
   obtain⟨s1,e1⟩:=qCv r
   obtain⟨s2,e2⟩:=qCv ((c.filter (othr o)).map negL)
   rw[e1,e2];exact qEg s1 s2
  have cn:=qFA (H:=H) (fun m=>!isF D m) (c.filter (othr o))
  obtain⟨h20,h65,h77⟩:=q2
  have l78:(upd 78 (.lst ((c.filter (othr o)).map lav)) (upd 34 (clAV c) ρ)).lookup 78=some (.lst ((c.filter (othr o)).map lav)):=qAX
  have no:((AV.lst (qAD (r.map lav))).beq (.lst (qAD (((c.filter (othr o)).map negL).map lav)))&&!(c.filter (othr o)).any (fun m=>!isF D m))=false->¬((∀l,o=some l->l∈c)/\r.Perm ((c.filter (othr o)).map negL)/\∀m∈c,o≠some m->isF D m=true):=fun z ⟨_,p,h⟩=>by
   rw[(AV.beq_iff _ _).mpr (congrArg AV.lst (qEZ p hr)),Bool.true_and,Bool.not_eq_false',List.any_eq_true]at z
   obtain⟨m,hm,z⟩:=z
   obtain⟨h1,h2⟩:=List.mem_filter.mp hm
   rw[h m h1 (of_decide_eq_false ((Bool.not_eq_true' _).mp h2))]at z
   cases z
  generalize (AV.lst (qAD (r.map lav))).beq (.lst (qAD (((c.filter (othr o)).map negL).map lav)))=b1 at ce no
  generalize (!(c.filter (othr o)).any (fun m=>!isF D m))=b2 at cn no
  have hb:Ev (d+2) (upd 78 (.lst ((c.filter (othr o)).map lav)) (upd 34 (clAV c) ρ)) H 40 (.band [(.cmp .eq (.bi .sorted false [(.var 65)]) (.bi .sorted false [(.comp false false (.callF 35 [(.var 44)]) (.name 44) (.var 78) [])])),(.cmp .notIn (.lit (.bool true)) (.comp false false (.callF 36 [(.var 44),(.var 77)]) (.name 44) (.var 78) []))]) (.bool (b1&&b2)) H:=by
   refine qPt (qM0 ?_ ?_)
   .exists h65,so1,l78,qL6,lc2,so2,ce
   .rw [<-Bool.and_true b2]
    refine qM0 ?_ qPs
    exists l78,qL6,lc3,cn
  cases hc:(b1&&b2)with
  |true=>rw[hc]at hb;exact⟨_,⟨h20,h65,h77⟩,.inl (by unfold qEV;exists hg,qAX,it1,lc1,hb)⟩
  |false=>rw[hc]at hb;exact⟨_,⟨h20,h65,h77⟩,.inr ⟨(by unfold qEV;exists hg,qAX,it1,lc1,hb),no hc⟩⟩
end
end
section
instance:Nonempty Ent:=⟨⟨0,(0,0,0),none⟩⟩
section
variable{n:Nat}{st:St}{H:AHeap}{D:Fin 3->Dm}{r c:List Lit}{l:Lit}{o:Option Lit}{ρ:Rho}{t0:List Ent}{B:Bk}
theorem qK9(d:Nat)(R:Rep st H)(k:∀c∈st.cs,Okc 1 c)(s:Says st.cs D o r):Cl (d+3) H 39 [oAV o,clAV r,.ref 13,qAl D] (.bool true) H:=by
 delta st H D r o d at R k s
 injection s with c0;rintro⟨h0,h1,p,h2⟩
 have k0:=k c0 h0
 have fm:∀m∈c0.filter (othr o),m∈c0:=fun m h=>(List.mem_filter.mp h).1
 have hr:r.Nodup:=p.nodup_iff.mpr (qCL (k0.nd.filter _) fun m hm=>k0.md m (fm m hm))
 have hr3:r.length<=3:=by rw[p.length_eq,List.length_map];exact Nat.le_trans (List.length_filter_le ..) k0.hi
 rcases qD7 (d:=d+2) (n:=19) (v:=34) (body:=qEV) (H0:=H) (src:=some 13) (e:=clAV) (I:=fun us ρ H'=>H'=H/\saI o r D ρ/\c0∈us/\∀c∈us,Okc 1 c) (Q:=fun u H'=>u=.bool true/\H'=H)
  (fun us ρ H' h=>h.1▸qB9) (fun c us ρ H' h=>by
   obtain⟨rfl,q,hc,ks⟩:=h
   obtain⟨ρ',q',s|⟨s,z⟩⟩:=qO7 (H:=H') d hr hr3 (ks c (.head _)) q
   .exact .inr ⟨_,ρ',H',s,rfl,rfl⟩
   .exact .inl ⟨ρ',H',s,rfl,q',(List.mem_cons.mp hc).resolve_left fun e=>z (e▸⟨h1,p,h2⟩),fun c hc=>ks c (.tail _ hc)⟩)
  st.cs [(20,oAV o),(65,clAV r),(30,.ref 13),(77,qAl D)] H ⟨rfl,⟨rfl,rfl,rfl⟩,h0,k⟩with⟨ρ',H',w,e,q,hc,_⟩|⟨u,ρ',H',w,rfl,rfl⟩
 .exact qA5 hc
 .unfold qEV at w
  exact qCH (fn:=fn39) rfl rfl (by cases o<;>exact(Bool.and_eq_false_iff.mpr (.inr (Bool.and_eq_false_iff.mpr (.inr rfl))))) rfl (by exists qCW R.l13,w) rfl
theorem qFY(d:Nat)(R:Rep st H)(hm:∀e∈st.tr,mid e.lit):Cl (d+2) H 38 [.ref 12,.ref 4] (qAl (run FC st.tr)) H:=by
 have e4:∀x:AObj,(H++[x])[4]?=some (.list (st.tr.map entAV)):=fun x=>qBU R.l4
 exact qHw d R hm (fun x y=>st_of ((e4 y).trans (e4 x).symm)) fun x=>qCW (e4 x)
theorem qFu{tr:List Ent}(V:Val FC tr):∀e∈tr,mid e.lit:=fun e he=>by
 obtain⟨k,hk⟩:=List.getElem?_of_mem he
 exact(qJn V hk).2.1
theorem qNt{tr:List Ent}{e:Ent}(V:Val FC tr){k:Nat}(h:tr[k]?=some e):cut e.lit (run FC (tr.take k) e.lit.1)≠run FC (tr.take k) e.lit.1:=by
 have hk:=(List.getElem?_eq_some_iff.mp h).1
 have e1:tr.take (k+1)=tr.take k++[e]:=by rw[List.take_add_one,h];rfl
 have e2:tr=tr.take (k+1)++tr.drop (k+1):=(List.take_append_drop ..).symm
 rw[e2,e1,List.append_assoc]at V
 have V:=(qBv.mp V).2
 exact V.1.1▸V.1.2.2.1
noncomputable def qIm:List CS:=[(.asg (.tup [(.name 26),(.name 77)]) (.tup [(.sub (.attr (.var 79) 27) (.var 25)),(.callF 38 [(.var 58),(.slice false (.attr (.var 79) 27) none (some (.var 25)))])])),
  (.ife (.bor [(.cmp .isNone (.sub (.var 26) (.lit (.int 3))) (.lit .none)),(.not (.callF 39 [(.sub (.var 26) (.lit (.int 2))),(.sub (.var 26) (.lit (.int 3))),(.var 30),(.var 77)])),(.callF 37 [(.sub (.var 26) (.lit (.int 2))),(.var 77)])]) [(.ret (some (.lit (.bool false))))] [])]
noncomputable def enI(ρ:Rho):Prop:=ρ.lookup 79=some (.inst 1 1)/\ρ.lookup 58=some (.ref 12)/\ρ.lookup 30=some (.ref 13)
theorem enI.up(h:enI ρ)(k:Nat)(v:AV)(h1:(79==k)=false)(h2:(58==k)=false)(h3:(30==k)=false):enI (upd k v ρ):=⟨(qAA h1).trans h.1,(qAA h2).trans h.2.1,(qAA h3).trans h.2.2⟩
theorem qIK{k:Nat}(tr:List Ent):qAW (tr.map entAV) none (some (k:Int))=(tr.take k).map entAV:=by
 unfold qAW
 dsimp only
 rw[List.drop_zero,qGT (Int.natCast_nonneg k),Int.toNat_natCast,<-List.map_take,List.length_map,<-List.take_eq_take_min]
theorem qOe(d:Nat)(R:Rep st H)(k:∀c∈st.cs,Okc 1 c)(V:Val FC st.tr)(ex:Ext st.cs t0 st.tr)(hn:t0.length<=n)(hn2:n<st.tr.length)(q:enI ρ):∃ρ',enI ρ'/\Ss (d+3) 19 (upd 25 (.int n) ρ) H qIm .next ρ' H/\ρ'.lookup 80=ρ.lookup 80:=by
 delta n st H ρ t0 d at R k V ex hn hn2 q
 have bd:=qGg V
 injection (⟨_,List.getElem?_eq_getElem hn2⟩:∃e,st.tr[n]?=some e)with e;intro he
 injection ex.2 n e hn he with r;rintro⟨hw,s⟩
 have hm:=(qJn V he).2.1
 have hc:=qNt V he
 have q1:=q.up 25 (.int n) rfl rfl rfl
 have sl:=qIK (k:=n) st.tr
 have sm:small (n:Int)=true:=qAc (Nat.lt_of_lt_of_le hn2 (Nat.le_trans bd (by decide)))
 have c38:=qHw (d+1) R (v:=.lst ((st.tr.take n).map entAV)) (src:=none) (tr:=st.tr.take n) (fun e he=>qFu V e (List.mem_of_mem_take he)) (fun _ _=>rfl) fun _=>rfl
 have c39:=qK9 d R k s
 have c37:=so_cl (H:=H) (d+1) hm (run FC (st.tr.take n))
 rw[decide_eq_false hc]at c37
 have at_:=qNM R he
 have e2:subAV (entAV e) (.int 2) H=some (lav e.lit):=rfl
 have e3:subAV (entAV e) (.int 3) H=some (clAV r):=by
  show some (whyAV e.why)=_
  rw[hw];rfl
 obtain⟨h79,h58,h30⟩:=q1
 refine⟨_,((q.up 25 (.int n) rfl rfl rfl).up 26 (entAV e) rfl rfl rfl).up 77 (qAl (run FC (st.tr.take n))) rfl rfl rfl,?_,(qAA rfl).trans ((qAA rfl).trans (qAA rfl))⟩
 unfold qIm
 exists h79,h58,h30,at_,sl,sm,qD6 R.l4,c38,c39,c37,e2,e3
end
end
section
noncomputable def soB(D:Fin 3->Dm)(m:Lit):Bool:=decide (cut m (D m.1)=D m.1)
noncomputable def Good(D:Fin 3->Dm)(c:List Lit):Prop:=c.any (soB D)=true\/2<=(c.filter fun m=>!isF D m).length
section
variable{n:Nat}{st st':St}{H:AHeap}{D:Fin 3->Dm}{r c:List Lit}{l:Lit}{o:Option Lit}{ρ:Rho}{t0:List Ent}{B:Bk}
theorem qLF(h:Jr D r)(p:r.Perm c)(hD:∀x,D x≠0):Good D c:=by
 obtain⟨a,b,t,rfl,h⟩:=h
 have ma:=p.mem_iff.mp (.head _:a∈a::b::t)
 have mb:=p.mem_iff.mp (.tail _ (.head _):b∈a::b::t)
 rcases h with h|h|h
 .exact .inl (List.any_eq_true.mpr ⟨a,ma,decide_eq_true (qFP.mp h)⟩)
 .exact .inl (List.any_eq_true.mpr ⟨b,mb,decide_eq_true (qFP.mp h)⟩)
 .refine .inr ?_
  have k:∀m,hold D m=0->(!isF D m)=true:=fun m h=>by unfold isF;rw[decide_eq_false (qDy h).2];rfl
  rw[<-(p.filter _).length_eq,List.filter_cons,if_pos (k a h.1),List.filter_cons,if_pos (k b h.2)]
  exact Nat.succ_le_succ (Nat.succ_le_succ (Nat.zero_le _))
theorem Done.good(h:Done st st' B t0):∀c∈st'.cs,Good st'.D c:=fun c hc=>by
 have k:=h.I.okc c hc
 by_cases h1:c.length=1
 .obtain ⟨l,rfl⟩:=List.length_eq_one_iff.mp h1
  exact .inl (List.any_eq_true.mpr ⟨l,.head _,decide_eq_true (h.un _ hc h1 l (.head _))⟩)
 .obtain ⟨n,hn⟩:=List.getElem?_of_mem hc
  have hp:Pl st'.cs [] n:=⟨List.not_mem_nil,c,hn,Nat.lt_of_le_of_ne k.low (Ne.symm h1)⟩
  obtain⟨r,hr,_⟩:=h.I.row hp
  obtain⟨c',hc',p⟩:=h.I.perm n r hr
  obtain rfl:=Option.some.inj (hn.symm.trans hc')
  rcases h.jj n r hp hr with z|z|⟨_,_,z⟩
  .exact qLF z p h.I.nz
  .exact z.elim
  .exact z.elim
theorem qJ5{a n:Nat}:qAJ (a:Int) (n:Int)=(List.range' a (n-a)).map fun(k:Nat)=>AV.int (k:Int):=by
 unfold qAJ
 rw[List.range'_eq_map_range,List.map_map,show((n:Int)-a).toNat=n-a from Int.toNat_sub n a]
 rfl
noncomputable def qHC:List CS:=[(.ife (.band [(.cmp .notIn (.lit (.bool true)) (.comp false false (.callF 37 [(.var 44),(.var 77)]) (.name 44) (.var 34) [])),(.cmp .lt (.bi .len false [(.comp false false (.var 44) (.name 44) (.var 34) [(.callF 36 [(.var 44),(.var 77)])])]) (.lit (.int 2)))]) [(.ret (some (.lit (.bool false))))] [])]
theorem qOW(d:Nat)(k:Okc 1 c)(g:Good D c)(l77:ρ.lookup 77=some (qAl D)):Ss (d+3) 19 (upd 34 (clAV c) ρ) H qHC .next (upd 34 (clAV c) ρ) H:=by
 have h77:(upd 34 (clAV c) ρ).lookup 77=some (qAl D):=(qAA rfl).trans l77
 have it1:iterE false H (clAV c)=some (c.map lav,none):=rfl
 have lc1:Lc (d+3) 37 (.callF 37 [(.var 44),(.var 77)]) (.name 44) [] H none (upd 34 (clAV c) ρ) H (c.map lav) (c.map fun m=>.bool (soB D m)) H :=
  qBy _ fun m hm ρ' h1 h2=>by
   have l77:=(h2 77 rfl).trans h77
   exists h1,l77,so_cl (d+1) (k.md m hm) D
 have cn:=qFA (H:=H) (soB D) c
 rcases g with g|g
 .rw [g]at cn
  unfold qHC
  exists qAX,it1,lc1,cn
 .have lc2:Lc (d+3) 36 (.var 44) (.name 44) [(.callF 36 [(.var 44),(.var 77)])] H none (upd 34 (clAV c) ρ) H (c.map lav) ((c.filter fun m=>!isF D m).map lav) H :=
   qDx _ fun m hm ρ' h1 h2=>by
    have l77:=(h2 77 rfl).trans h77
    have cc:=qIq (H:=H) (d+1) (k.md m hm) D
    refine⟨?_,fun _=>E_var h1⟩
    generalize (!isF D m)=b at cc ⊢
    have ev:Ev (d+3) ρ' H 36 (.callF 36 [(.var 44),(.var 77)]) (.bool b) H:=by exists h1,l77,cc
    cases b
    .exact qB5 ev Et_no
    .exact qB5 ev qDX
  have ln:biAV .len false [.lst ((c.filter fun m=>!isF D m).map lav)] H=some (.int (c.filter fun m=>!isF D m).length,H):=by rw[qDh,List.length_map]
  have cl:cmpAV .lt (.int (c.filter fun m=>!isF D m).length) (.int 2) H=some false:=congrArg some (decide_eq_false (Int.not_lt.mpr (Int.ofNat_le.mpr g)))
  generalize (!c.any (soB D))=b at cn
  have c1:Ev (d+3) (upd 34 (clAV c) ρ) H 39 (.cmp .notIn (.lit (.bool true)) (.comp false false (.callF 37 [(.var 44),(.var 77)]) (.name 44) (.var 34) [])) (.bool b) H:=by exists qAX,it1,lc1,cn
  unfold qHC
  cases b
  .exists c1
  .exists c1,qAX,it1,lc2,ln,cl
theorem qJT(d:Nat)(R:Rep st H)(k:∀c∈st.cs,Okc 1 c)(V:Val FC st.tr)(hD:st.D=run FC st.tr)(ex:Ext st.cs t0 st.tr)(b:Bool)(h1:b=true->st.fa=false/\∀c∈st.cs,Good st.D c)(h2:b=false->st.fa=true/\Says st.cs st.D none st.cl) :
  Cl (d+4) H 40 [.inst 1 1,.ref 12,.ref 13,.int t0.length,.bool b] (.bool true) H:=by
 delta st H t0 d b at R k V hD ex h1 h2
 have bd:=qGg V
 have ln:=qBD R
 have hle:t0.length<=st.tr.length:=by
  obtain⟨es,e⟩:=ex.1
  rw[e,List.length_append];exact Nat.le_add_right _ _
 have rg:biAV .range false [.int t0.length,.int st.tr.length] H=some (.rng t0.length st.tr.length,H):=qKO (Nat.lt_of_le_of_lt hle (Nat.lt_of_le_of_lt bd (by decide))) (Nat.lt_of_le_of_lt bd (by decide))
 have it:iterE false H (.rng t0.length st.tr.length)=some ((List.range' t0.length (st.tr.length-t0.length)).map fun(k:Nat)=>AV.int (k:Int),none):=congrArg (fun z=>some (z,none)) qJ5
 rcases qD7 (d:=d+3) (n:=19) (v:=25) (body:=qIm) (H0:=H) (src:=none) (e:=fun n:Nat=>.int (n:Int)) (I:=fun us ρ H'=>H'=H/\enI ρ/\ρ.lookup 80=some (.bool b)/\∀n∈us,t0.length<=n/\n<st.tr.length) (Q:=fun u H'=>False)
  (fun _ _ _ _=>rfl) (fun n us ρ H' h=>by
   obtain⟨rfl,q,l80,hu⟩:=h
   obtain⟨ρ',q',s,k'⟩:=qOe (ρ:=ρ) d R k V ex (hu n (.head _)).1 (hu n (.head _)).2 q
   exact .inl ⟨ρ',H',s,rfl,q',k'▸l80,fun n h=>hu n (.tail _ h)⟩)
  (List.range' t0.length (st.tr.length-t0.length)) [(79,.inst 1 1),(58,.ref 12),(30,.ref 13),(53,.int t0.length),(80,.bool b)] H ⟨rfl,⟨rfl,rfl,rfl⟩,rfl,fun n h=>by
   have:=List.mem_range'_1.mp h
   exact⟨this.1,Nat.lt_of_lt_of_eq this.2 (Nat.add_sub_of_le hle)⟩⟩with E_|E_
 case inr=>exact E_.elim fun _ h=>h.elim fun _ h=>h.elim fun _ h=>h.2.elim
 injection E_ with ρ1 H1;rintro⟨w,rfl,⟨l79,l58,l30⟩,l80,_⟩
 unfold qIm at w
 have lt:=qFY (d+1) R (qFu V)
 rw[<-hD]at lt
 have g62:=R.g62
 have g63:=R.g63
 cases b with
 |false =>
  obtain⟨f,s⟩:=h2 rfl
  rw[f]at g62
  have c39:=qK9 d R k s
  exact C_imp (fn:=fn40) rfl rfl rfl (by exists ln,rg,it,w,l79,l58,l30,l80,lt,g62,g63,c39) rfl
 |true =>
  obtain⟨f,g⟩:=h1 rfl
  rw[f]at g62
  rcases qD7 (d:=d+3) (n:=19) (v:=34) (body:=qHC) (H0:=H1) (src:=some 13) (e:=clAV) (I:=fun us ρ H'=>H'=H1/\ρ.lookup 77=some (qAl st.D)/\∀c∈us,c∈st.cs) (Q:=fun u H'=>False)
   (fun us ρ H' h=>h.1▸qB9) (fun c us ρ H' h=>by
    obtain⟨rfl,q,hu⟩:=h
    have hc:=hu c (.head _)
    exact .inl ⟨_,H',qOW d (k c hc) (g c hc) q,rfl,(qAA rfl).trans q,fun c h=>hu c (.tail _ h)⟩)
   st.cs (upd 77 (qAl st.D) ρ1) H1 ⟨rfl,qAX,fun _ h=>h⟩with E_|E_
  case inr=>exact E_.elim fun _ h=>h.elim fun _ h=>h.elim fun _ h=>h.2.elim
  injection E_ with ρ2 H2;rintro⟨w2,rfl,_⟩
  unfold qHC at w2
  exact C_imp (fn:=fn40) rfl rfl rfl (by exists ln,rg,it,w,l79,l58,l30,l80,lt,g62,qCW R.l13,w2) rfl
end
end
section
section
variable{n:Nat}{st st':St}{H:AHeap}{D:Fin 3->Dm}{r c:List Lit}{l:Lit}{ρ:Rho}{t0:List Ent}{B:Bk}{k:Bool}
theorem qOZ(d:Nat)(R:Rep st H)(V:Val FC st.tr)(h:mid l):Cl (d+3) H 41 [lav l,.ref 12,.ref 4] (.int (fallT st.tr l)) H:=by
 have bd:=qGg V
 have ln:=qBD R
 have rg:biAV .range false [.int ((st.tr.length:Int)+1)] H=some (.rng 0 ((st.tr.length:Int)+1),H):=qEY (show(((st.tr.length+1:Nat):Int)).natAbs<400000 from Nat.lt_of_le_of_lt (Nat.succ_le_succ bd) (by decide))
 have it:iterE false H (.rng 0 ((st.tr.length:Int)+1))=some ((List.range (st.tr.length+1)).map fun(k:Nat)=>AV.int (k:Int),none):=congrArg (fun z=>some (z,none)) (qIP (st.tr.length+1))
 have lf:=qGH (d:=d+2) (n:=19) (H:=H) (body:=[(.ife (.not (.callF 36 [(.var 20),(.callF 38 [(.var 58),(.slice false (.var 27) none (some (.var 25)))])])) [(.ret (some (.bin .sub false (.var 25) (.lit (.int 1)))))] [])])
  (K:=fun ρ=>ρ.lookup 20=some (lav l)/\ρ.lookup 58=some (.ref 12)/\ρ.lookup 27=some (.ref 4)) (p:=fun s=>isF (run FC (st.tr.take s)) l) (v:=fun k=>.int ((k:Int)-1)) (List.range (st.tr.length+1)) (ρ:=[(20,lav l),(58,.ref 12),(27,.ref 4)]) (fun k hk ρ' q=>by
   obtain⟨l20,l58,l27⟩:=q
   have sl:=qIK (k:=k) st.tr
   have sm:small (k:Int)=true:=qAc (Nat.lt_of_lt_of_le (List.mem_range.mp hk) (Nat.le_trans (Nat.succ_le_succ bd) (by decide)))
   have c38:=qHw d R (v:=.lst ((st.tr.take k).map entAV)) (src:=none) (tr:=st.tr.take k) (fun e he=>qFu V e (List.mem_of_mem_take he)) (fun _ _=>rfl) fun _=>rfl
   have cc:=qIq (H:=H) d h (run FC (st.tr.take k))
   generalize isF (run FC (st.tr.take k)) l=b at cc ⊢
   refine⟨fun hb=>?_,fun hb=>⟨upd 25 (.int k) ρ',⟨(qAA rfl).trans l20,(qAA rfl).trans l58,(qAA rfl).trans l27⟩,?_⟩⟩
   .subst hb;exact⟨_,by exists l20,l58,l27,sl,sm,qD6 R.l4,c38,cc⟩
   .subst hb;exists l20,l58,l27,sl,sm,qD6 R.l4,c38,cc) ⟨rfl,rfl,rfl⟩
 unfold fallT
 cases e:(List.range (st.tr.length+1)).find? (fun s=>isF (run FC (st.tr.take s)) l)with
 |some s=>exact(lf.1 s e).elim fun ρ' w=>qCH (fn:=fn41) rfl rfl rfl rfl (by exists ln,rg,it,w) rfl
 |none=>exact(lf.2 e).elim fun ρ' w=>qCH (fn:=fn41) rfl rfl rfl rfl (by exists ln,rg,it,w.2,w.1.2.2) rfl
theorem qNn(d:Nat)(R:Rep st H)(hb:st.bk k=some B)(c:List Lit)(hl:B.rows.length<900000)(hu:B.un.length<900000)(hf:B.fr.length<900000) :
  ∃H',Cl (d+1) H 9 [.inst 0 (bs st.bb k),clAV c] (.int B.rows.length) H'/\Rep (st.sB k { B with rows:=B.rows++[c],ca:=setN B.ca B.rows.length H.length,un:=if c.length<2 then B.un++[B.rows.length]else B.un,fr:=if c.length<2 then B.fr else B.fr++[B.rows.length] }) H':=by
 delta st H B k d c at R hb hl hu hf
 injection R.add hb c hl with H1;rintro⟨m1,R1⟩
 have hb1:(st.sB k { B with rows:=B.rows++[c],ca:=setN B.ca B.rows.length H.length }).bk k=some { B with rows:=B.rows++[c],ca:=setN B.ca B.rows.length H.length }:=sB_at
 have lc:biAV .len false [.ref (bs st.bb k+1)] H=some (.int B.rows.length,H):=by rw[qBo (R.lcl hb),qBk]
 have ls:biAV .list true [clAV c] H=some (.ref H.length,H++[.list (c.map lav)]):=rfl
 have ok:=qDg (R.lcl hb) 0 (by decide)
 have lnc:biAV .len false [clAV c] H1=some (.int c.length,H1):=by
  show some (AV.int ((c.map lav).length:Int),H1)=_
  rw[List.length_map]
 by_cases h:c.length<2
 .have c1:cmpAV .lt (.int c.length) (.int 2) H1=some true:=congrArg some (decide_eq_true (Int.ofNat_lt.mpr h))
  have g31:qAB PP (.inst 0 (bs st.bb k)) 31 H1=some (.ref (bs st.bb k+2)):=R1.g31 hb1 rfl
  have lu:=R1.lun hb1
  have lu:H1[bs st.bb k+2]?=some (.list (nsAV B.un)):=lu
  have ap:=qAs (v:=.int (B.rows.length:Int)) lu (by rw[qBJ];exact hu)
  have R2:=R1.un hb1 (B.un++[B.rows.length])
  rw[sB_sB]at R2
  rw[qG8]at ap
  rw[if_pos h,if_pos h]
  exact⟨_,C_imp (fn:=fn9) rfl rfl rfl (by exists lc,ls,ok,m1,lnc,c1,g31,qDg lu 0 (by decide),ap) rfl,R2⟩
 .have c1:cmpAV .lt (.int c.length) (.int 2) H1=some false:=congrArg some (decide_eq_false fun z=>h (Int.ofNat_lt.mp z))
  injection R1.bfr hb1 with a;rintro⟨g32,lu,w⟩
  have g32:qAB PP (.inst 0 (bs st.bb k)) 32 H1=some (.ref a):=g32
  have ap:=qAs (v:=.int (B.rows.length:Int)) lu (by rw[qBJ];exact hf)
  have R2:=w (B.fr++[B.rows.length])
  rw[sB_sB]at R2
  rw[qG8]at ap
  rw[if_neg h,if_neg h]
  exact⟨_,C_imp (fn:=fn9) rfl rfl rfl (by exists lc,ls,ok,m1,lnc,c1,g32,qDg lu 0 (by decide),ap) rfl,R2⟩
noncomputable def poE:CE:=.cmp .gt (.bi .len false [(.attr (.var 29) 27)]) (.var 53)
noncomputable def poB:List CS:=[(.asg (.name 26) (.callM (.attr (.var 29) 27) 1 [])),(.asg (.sub (.attr (.var 29) 57) (.sub (.var 26) (.lit (.int 0)))) (.sub (.var 26) (.lit (.int 1))))]
theorem qK7{D:Fin 3->Dm}{x:Fin 3}{S:Dm}:setF (setF D x S) x (D x)=D:=funext fun y=>by
 by_cases q:y=x
 .rw [q,qAF]
 .rw [qAG q,qAG q]
theorem qPG(d m:Nat):∀(k:Nat) {st:St}{H:AHeap}{ρ:Rho},Rep st H->Val FC st.tr->st.D=run FC st.tr->st.tr.length<k->ρ.lookup 29=some (.inst 1 1)->ρ.lookup 53=some (.int m) ->
  ∃ρ' H',Lw d 19 poE poB k ρ H .next ρ' H'/\Rep ((st.sTr (st.tr.take m)).sD (run FC (st.tr.take m))) H'/\ρ'.lookup 29=some (.inst 1 1):=by
 intro k
 induction k with
 |zero=>intro st H ρ _ _ _ h;exact absurd h (Nat.not_lt_zero _)
 |succ k ih =>
  intro st H ρ R V hD hk l29 l53
  delta d m k st H ρ at ih R V hD hk l29 l53
  have ln:=qBD R
  by_cases h:m<st.tr.length
  .have hx:∃tr e,st.tr=tr++[e]:=by
    rcases List.eq_nil_or_concat st.tr with z|⟨tr,e,z⟩
    .rw [z]at h;exact absurd h (Nat.not_lt_zero _)
    .exact ⟨tr,e,by rw[z,List.concat_eq_append]⟩
   injection (hx)with tr e;intro he
   have c1:cmpAV .gt (.int st.tr.length) (.int m) H=some true:=congrArg some (decide_eq_true (Int.ofNat_lt.mpr h))
   have pm:qAg 4 1 [] H=some (entAV e,H.set 4 (.list (tr.map entAV))):=by
    rw[pop_m (v:=entAV e) R.l4 (by rw[he,List.map_append];exact List.getLast?_concat),he,List.map_append]
    exact congrArg (fun z=>some (entAV e,H.set 4 (.list z))) List.dropLast_concat
   have R1:=R.trl tr
   generalize H.set 4 _=H1 at pm R1
   rw[he]at V hD
   have V:=qBv.mp V
   have eD:setF st.D e.lit.1 e.old=run FC tr:=by
    rw[hD,qDc,V.2.1.1];exact qK7
   have as:qAu (.ref 2) (.int (e.lit.1.val:Int)) (dom e.old) H1=some (H1.set 2 (.list (l3 fun x=>dom (run FC tr x)))):=by
    rw[qLu R1.l2,<-eD];exact congrArg (fun z=>some (H1.set 2 (.list z))) (qL1 dom st.D _ e.lit.1)
   have R2:=R1.dms (run FC tr)
   have ok:=qDg R.l4 1 (by decide)
   have hm:m<=tr.length:=by rw[he,List.length_append]at h;exact Nat.le_of_lt_succ h
   injection (ih (ρ:=upd 26 (entAV e) ρ) R2 V.1 rfl (by rw[he,List.length_append]at hk;exact Nat.lt_of_succ_lt_succ hk) ((qAA rfl).trans l29) ((qAA rfl).trans l53))with ρ' H';rintro⟨w,R',l'⟩
   refine⟨ρ',H',qGe (H1:=H) ?_ ?_ w,?_,l'⟩
   .unfold poE;exists l29,l53,ln,c1
   .unfold poB;exists l29,ok,pm,as
   .have e2:st.tr.take m=tr.take m:=by rw[he,List.take_append_of_le_length hm]
    rw[e2];exact R'
  .have c1:cmpAV .gt (.int st.tr.length) (.int m) H=some false:=congrArg some (decide_eq_false fun z=>h (Int.ofNat_lt.mp z))
   refine⟨ρ,H,qIv ?_,?_,l29⟩
   .unfold poE;exists l29,l53,ln,c1
   .rw [List.take_of_length_le (Nat.le_of_not_lt h),<-hD];exact R
end
end
section
noncomputable def St.mark(st:St)(n:Nat):Nat:=(st.lv[st.lv.length-n]?).getD 0
noncomputable def St.pop(st:St)(n:Nat):St:=(((((st.sLv (st.lv.take (st.lv.length-n))).sTr (st.tr.take (st.mark n))).sD (run FC (st.tr.take (st.mark n)))).sNw []).sFa false).sCl []
section
variable{n:Nat}{st:St}{H:AHeap}{B:Bk}{k:Bool}
theorem qMj(R:Rep st H):cmpAV .inn (.tup []) (.ref 3) H=some false:=by
 have k:qE7 (l3 fun x=>dom (FC x))=true:=by
  have z:∀S:Dm,qAM 7 (dom S)=true:=qEc (f:=fun S=>qAM 7 (dom S)) (by kernel_rfl)
  show(qAM 7 (dom (FC 0))&&(qAM 7 (dom (FC 1))&&(qAM 7 (dom (FC 2))&&true)))=true
  rw[z,z,z];rfl
 have h:hasAV (.tup []) (l3 fun x=>dom (FC x))=false:=by
  have z:∀x,(dom (FC x)).beq (.tup [])=false:=fun x=>(qLU _).trans (decide_eq_false (FC_nz x))
  show((dom (FC 0)).beq (.tup []) || ((dom (FC 1)).beq (.tup []) || ((dom (FC 2)).beq (.tup []) || false)))=false
  rw[z,z,z];rfl
 show((qAj H 3).bind fun l=>memAV (.tup []) l)=_
 rw[qD9 R.l3_]
 show(if(AV.tup []).clean&&qE7 (l3 fun x=>dom (FC x))then some (hasAV (.tup []) (l3 fun x=>dom (FC x)))else none)=_
 rw[k,h];rfl
theorem qKT(d:Nat)(R:Rep st H)(V:Val FC st.tr)(hD:st.D=run FC st.tr)(h1:1<=n)(h2:n<=st.lv.length)(hl:st.lv.length<400000):∃H',Cl (d+1) H 28 [.inst 1 1,.int n] .none H'/\Rep (st.pop n) H':=by
 delta n st H d at R V hD h1 h2 hl
 have bd:=qGg V
 have c0:cmpAV .lt (.int (n:Int)) (.int 1) H=some false:=congrArg some (decide_eq_false (Int.not_lt.mpr (Int.ofNat_le.mpr h1)))
 injection R.lv with a;rintro⟨g,e,_⟩
 have ln:biAV .len false [.ref a] H=some (.int st.lv.length,H):=by rw[qBo e,qBJ]
 have es:(st.lv.length:Int)-n=((st.lv.length-n:Nat):Int):=(Int.ofNat_sub h2).symm
 have lt:st.lv.length-n<st.lv.length:=Nat.sub_lt (Nat.lt_of_lt_of_le h1 h2) h1
 have sm:small ((st.lv.length:Int)-n)=true:=by rw[es];exact qAc (Nat.lt_trans lt hl)
 have sb:subAV (.ref a) (.int ((st.lv.length:Int)-n)) H=some (.int (st.mark n)):=by
  rw[qBh e,idx_at es (by rw[qBJ];exact lt),Option.bind_some]
  unfold nsAV St.mark
  rw[List.getElem?_map,List.getElem?_eq_getElem lt];rfl
 have sl:qAW (nsAV st.lv) none (some ((st.lv.length:Int)-n))=nsAV (st.lv.take (st.lv.length-n)):=by
  unfold qAW
  dsimp only
  rw[qBJ,qGU es (Nat.sub_le _ _),List.drop_zero]
  unfold nsAV
  rw[List.map_take]
 injection R.lv0 (st.lv.take (st.lv.length-n))with H1;rintro⟨a1,R1⟩
 injection qPG d (st.mark n) 1000 (ρ:=[(29,.inst 1 1),(68,.int n),(53,.int (st.mark n))]) R1 V hD (Nat.lt_of_le_of_lt bd (by decide)) rfl rfl with ρ2 H2;rintro⟨w,R2,l29⟩
 injection R2.nw0 with H3;rintro⟨a3,R3⟩
 injection R3.fa false with H4;rintro⟨a4,R4⟩
 injection R4.cl []with H5;rintro⟨a5,R5⟩
 have g58:=R3.g58
 have ni:=qMj R3
 unfold poE poB at w
 exact⟨H5,C_imp (fn:=fn28) rfl rfl rfl (by exists c0,g,ln,sb,sm,qD6 e,sl,a1,w,l29,a3,g58,ni,a4,a5) rfl,R5⟩
theorem qO4{L:AHeap}{o o':AObj}:(H++o::L).set H.length o'=H++o'::L:=by rw[List.set_append_right _ _ (Nat.le_refl _),Nat.sub_self];rfl
theorem qDN{L:AHeap}{fs:List (Nat×AV)}{m:Nat}{o:AObj}(h:qDQ PP 0 m=true)(hf:fs.length<900):qB0 PP (.inst 0 H.length) m (.ref (H++.ns fs::L).length) (H++.ns fs::L++[o])=some (H++.ns (upd m (.ref (H.length+(L.length+1))) fs)::(L++[o])):=by
 have e:(H++.ns fs::L++[o])[H.length]?=some (.ns fs):=by rw[List.append_assoc,List.getElem?_append_right (Nat.le_refl _),Nat.sub_self];rfl
 rw[qBu e h hf,List.append_assoc]
 show some ((H++.ns fs::(L++[o])).set H.length _)=_
 rw[qO4,List.length_append];rfl
theorem qLm(d:Nat)(H:AHeap):Cl (d+1) (H++[.ns []]) 8 [.inst 0 H.length] .none (H++[.ns (bkF H.length (H.length+3)),.list [],.list [],.list [],.dictI []]):=by
 have a1:=qDN (H:=H) (L:=[]) (fs:=[]) (m:=30) (o:=.list []) rfl (by decide)
 have a2:=qDN (H:=H) (L:=[.list []]) (fs:=[(30,.ref (H.length+1))]) (m:=31) (o:=.list []) rfl (show 1<900 by decide)
 have a3:=qDN (H:=H) (L:=[.list [],.list []]) (fs:=[(30,.ref (H.length+1)),(31,.ref (H.length+2))]) (m:=32) (o:=.list []) rfl (show 2<900 by decide)
 have a4:=qDN (H:=H) (L:=[.list [],.list [],.list []]) (fs:=[(30,.ref (H.length+1)),(31,.ref (H.length+2)),(32,.ref (H.length+3))]) (m:=33) (o:=.dictI []) rfl (show 3<900 by decide)
 exact C_imp (fn:=fn8) rfl rfl rfl (by exists a1,a2,a3,a4) rfl
end
end
section
noncomputable def canL(D:Fin 3->Dm)(c:List Lit):List Lit:=c.filter fun m=>!isF D m
section
variable{n:Nat}{st st':St}{H:AHeap}{D:Fin 3->Dm}{r c w:List Lit}{l:Lit}{ρ:Rho}{B:Bk}
theorem qLj(h:∀m∈r,hold D m = -1)(p:r.Perm c)(hD:∀x,D x≠0):canL D c=[] :=
 List.filter_eq_nil_iff.mpr fun m hm z=>by rw[(qCN hD m).mp (h m (p.mem_iff.mpr hm))]at z;cases z
theorem qOl(h0:hold D l=0)(p:(l::w).Perm c)(h:∀m∈w,hold D m = -1)(hD:∀x,D x≠0):canL D c=[l]:=by
 refine List.perm_singleton.mp ?_
 have q:=(p.filter fun m=>!isF D m).symm
 rw[List.filter_cons,if_pos (by unfold isF;rw[decide_eq_false (qDy h0).2];rfl),show w.filter (fun m=>!isF D m)=[]from qLj h (.refl _) hD]at q
 exact q
theorem qPc(h:Jr D r)(p:r.Perm c)(hD:∀x,D x≠0):(∃x,canL D c=[x]/\cut x (D x.1)=D x.1)\/∃x y t,canL D c=x::y::t:=by
 have mem:∀m,m∈r->hold D m ≠ -1->m∈canL D c:=fun m hm q=>List.mem_filter.mpr ⟨p.mem_iff.mp hm,by rw[Bool.eq_false_iff.mpr fun z=>q ((qCN hD m).mpr z)];rfl⟩
 rcases qLF h p hD with g|g
 .obtain ⟨m,hm,s⟩:=List.any_eq_true.mp g
  have s:=of_decide_eq_true s
  have hm:=mem m (p.mem_iff.mpr hm) fun z=>absurd ((qFP.mpr s).symm.trans z) (by decide)
  cases e:canL D c with
  |nil=>rw[e]at hm;exact qA5 hm
  |cons x t=>cases t with
   |nil=>rw[e]at hm;exact .inl ⟨x,rfl,List.mem_singleton.mp hm▸s⟩
   |cons y t=>exact .inr ⟨x,y,t,rfl⟩
 .obtain ⟨x,y,t,e⟩:=two_of g
  exact .inr ⟨x,y,t,e⟩
end
end
section
noncomputable def rhoP(b:Nat)(c r:List Lit)(D:Fin 3->Dm)(m:Nat):Rho:=[(69,.ref 0),(79,.inst 1 1),(58,.ref 12),(83,.inst 0 b),(34,clAV c),(77,qAl D),(81,.lst (r.map lav)),(85,.lst ((canL D c).map lav)),(53,.int m)]
noncomputable def rest(st:St):List (List Lit)×List Ent×(Fin 3->Dm)×Option Bk×List (Fin 3)×Bool×Option (Nat×List AV):=(st.cs,st.tr,st.D,st.bk false,st.nw,st.fa,st.tm)
section
variable{n:Nat}{st st':St}{H:AHeap}{D:Fin 3->Dm}{r c w:List Lit}{l:Lit}{ρ:Rho}{B:Bk}
theorem qIk{es:CS->Rho->AHeap->StRes}{l2:List CS}:∀{l1:List CS}{ρ:Rho}{H:AHeap},evSs es (l1++l2) ρ H=bnd3 (evSs es l1 ρ H) fun f ρ H=>qD2 f ρ H fun ρ H=>evSs es l2 ρ H
 |[],_,_=>rfl
 |s::l1,ρ,H=>by
  rw[List.cons_append,qC4,qC4]
  cases es s ρ H with
  |none=>rfl
  |some q =>
   obtain⟨f,ρ2,H2⟩:=q
   cases f with
   |ret v=>rfl
   |next=>exact qIk (l1:=l1)
theorem qPn{d n:Nat}{ρ ρ1 ρ':Rho}{H H1 H':AHeap}{l1 l2:List CS}{F:Fl}(a:Ss d n ρ H l1 .next ρ1 H1)(b:Ss d n ρ1 H1 l2 F ρ' H'):Ss d n ρ H (l1++l2) F ρ' H':=by
 delta Ss at *
 rw[qIk,a];exact b
theorem qBw{d n:Nat}{ρ ρ1 ρ':Rho}{H H1 H':AHeap}{l:List CS}{F:Fl}(m:Nat)(a:Ss d n ρ H (l.take m) .next ρ1 H1)(b:Ss d n ρ1 H1 (l.drop m) F ρ' H'):Ss d n ρ H l F ρ' H':=by
 rw[<-List.take_append_drop m l];exact qPn a b
theorem qPb(d n:Nat){src:Option Nat}(k:∀m∈c,mid m)(l77:ρ.lookup 77=some (qAl D)):Lc (d+2) (n+2) (.var 44) (.name 44) [(.callF 36 [(.var 44),(.var 77)])] H src ρ H (c.map lav) ((canL D c).map lav) H :=
 qDx _ fun m hm ρ' h1 h2=>by
  have l77:=(h2 77 rfl).trans l77
  have cc:=qIq (H:=H) d (k m hm) D
  refine⟨?_,fun _=>E_var h1⟩
  generalize (!isF D m)=b at cc ⊢
  have ev:Ev (d+2) ρ' H (n+2) (.callF 36 [(.var 44),(.var 77)]) (.bool b) H:=by exists h1,l77,cc
  cases b
  .exact qB5 ev Et_no
  .exact qB5 ev qDX
theorem qHo(d:Nat)(R:Rep st H)(I:Inv st B [])(ht:st.t+10<=600)(hl:st.lv.length<1000) :
  ∃(c r:List Lit) (B3:Bk) (H5:AHeap) (st5:St),Ss (d+8) 20 [(69,.ref 0),(79,.inst 1 1),(58,.ref 12)] H (fn42.body.take 6) .next (rhoP (bs st5.bb true) c r st.D st.tr.length) H5/\Rep st5 H5/\Okc 2 c/\r.Perm c/\st5.bk true=some B3/\B3.rows[0]?=some r/\Wb B3 (· = 0)/\(∀l∈r.take 2,0∈B3.wt l.1) /\
   rest st5=rest st/\st5.lv=st.lv++[st.tr.length]/\st5.t<=st.t+10:=by
 delta st H B d at R I ht hl
 have bd:=I.bd
 have R1:=R.bk1
 have cb:=qLm (d+7) H
 injection qHN (d+5) R1 2 (.inr rfl) ht with c t' H2;rintro⟨k,t2,c2,R2⟩
 have c2:Cl (d+8) _ 33 [.ref 0,.int 2] (clAV c) H2:=c2
 have lt:=qFY (d+6) R2 (qFu I.V)
 have eD:run FC st.tr=st.D:=I.D.symm
 have lt:Cl (d+8) H2 38 [.ref 12,.ref 4] (qAl st.D) H2:=eD▸lt
 injection qNn (d+7) R2 (k:=true) rfl c (by decide) (by decide) (by decide)with H3;rintro⟨c3,R3⟩
 injection qIT d (k:=true) R3 sB_at (n:=0) (r:=c) (P:=(· = 0)) rfl k.low k.hi k.nd k.md ⟨fun _ _ h=>qA5 h,fun _ _=>rfl,fun _=>.nil,.nil,fun _ h=>h▸by decide⟩ rfl I.V I.D FC_nz (Nat.lt_of_le_of_lt bd (by decide))with B3 H4;rintro⟨c4,R4,e1,_,_,W4,_,hw4⟩
 rw[sB_sB]at R4
 have er:B3.rows=[qAm st.tr c]:=e1
 have p:=qCp st.tr c
 have so:biAV .sorted false [.lst (c.map (rk st.tr))] H4=some (.lst ((qAm st.tr c).map (rk st.tr)),H4):=qAi rfl (qGn k.hi k.nd)
 have lcd:Lc (d+8) 37 (.tup [(.neg (.callF 41 [(.var 44),(.var 58),(.attr (.var 79) 27)])),(.var 44)]) (.name 44) [] H4 none [(69,.ref 0),(79,.inst 1 1),(58,.ref 12),(83,.inst 0 H.length),(34,clAV c),(77,qAl st.D)] H4 (c.map lav) (c.map (rk st.tr)) H4 :=
  qBy _ fun m hm ρ' h1 h2=>by
   have l58:=h2 58 rfl
   have l79:=h2 79 rfl
   have fc:=qOZ (d+5) R4 I.V (k.md m hm)
   have fc:Cl (d+8) H4 41 [lav m,.ref 12,.ref 4] (.int (fallT st.tr m)) H4:=fc
   have g27:=R4.g27
   exists h1,l58,l79,g27,fc
 have lco:Lc (d+8) 39 (.sub (.var 87) (.lit (.int 1))) (.name 87) [] H4 none [(69,.ref 0),(79,.inst 1 1),(58,.ref 12),(83,.inst 0 H.length),(34,clAV c),(77,qAl st.D)] H4 ((qAm st.tr c).map (rk st.tr)) ((qAm st.tr c).map lav) H4 :=
  qBy _ fun m hm ρ' h1 h2=>by exists h1
 have nb2:=R2.nb (k:=true) (b:=H.length) (a:=86) rfl rfl fun _ _=>rfl
 have nb3:=R2.nb (k:=true) (b:=H.length) (a:=49) rfl rfl fun _ _=>rfl
 have cl4:=R4.lcl (k:=true) sB_at
 have row4:=R4.lrow (k:=true) (n:=0) sB_at (show B3.rows[0]?=some (qAm st.tr c)by rw[er];rfl)
 rw[er]at cl4
 have g30:=R4.g30 (k:=true) (b:=H.length) sB_at rfl
 have cne:cmpAV .ne (.ref (H.length+1)) (.lst [.lst ((qAm st.tr c).map lav)]) H4=some false:=by
  have kc:(AV.lst [.lst ((qAm st.tr c).map lav)]).clean=true:=by
   show(((qAm st.tr c).map lav).all (qAM 6)&&true)=true
   rw[List.all_eq_true.mpr fun a ha=>(List.mem_map.mp ha).elim fun l h=>h.2▸rfl];rfl
  refine qDK (qOj cl4 ?_) (qF4 rfl) kc kc rfl ((AV.beq_iff _ _).mpr rfl)
  .show [AV.ref (B3.ca 0)].mapM (qDI H4)=_
   rw[List.mapM_cons,qPY row4];rfl
 injection qKP (d+7) R4 (show st.lv.length<900000 from Nat.lt_trans hl (by decide))with H5;rintro⟨c5,R5⟩
 have lc5:=qPb (c:=c) (D:=st.D) (H:=H5) (src:=none) (ρ:=[(69,.ref 0),(79,.inst 1 1),(58,.ref 12),(83,.inst 0 H.length),(34,clAV c),(77,qAl st.D),(81,.lst ((qAm st.tr c).map lav))]) (d+6) 36 k.md rfl
 have ln5:=qBD R5
 have it1:∀H,iterE false H (clAV c)=some (c.map lav,none):=fun _=>rfl
 refine⟨c,qAm st.tr c,B3,H5,_,?_,R5,k,p,rfl,by rw[er];rfl,W4,hw4,rfl,rfl,t2⟩
 exists cb,c2,lt,nb2,nb3,c3,c4,it1 H4,lcd,so,lco,g30,cne,c5,it1 H5,lc5,ln5
end
end
section
section
variable{n m:Nat}{st st5 st6:St}{H:AHeap}{D:Fin 3->Dm}{r c w:List Lit}{l:Lit}{ρ:Rho}{B:Bk}{tr:List Ent}
theorem qDa{tr:List Ent}{m:Nat}(hm:m<=tr.length):qAW (tr.map entAV) (some (m:Int)) none=(tr.drop m).map entAV:=by
 unfold qAW
 dsimp only
 rw[List.length_map,qGU rfl hm,<-List.length_map (f:=entAV) (as:=tr),List.take_length,List.map_drop]
theorem qMa{es:List Ent}(e1:rest st5=rest st)(e2:st5.lv=st.lv++[st.tr.length])(h1:st6.cs=st5.cs)(h2:st6.tr=st5.tr++es)(h3:st6.bk false=st5.bk false)(h4:st6.tm=st5.tm)(h5:st6.lv=st5.lv)(hD:st.D=run FC st.tr) :
  (st6.pop 1).lv=st.lv/\rest (st6.pop 1)=(st.cs,st.tr,st.D,st.bk false,[],false,st.tm):=by
 have e:=Prod.mk.inj e1
 have e':=Prod.mk.inj e.2
 have e'':=Prod.mk.inj (Prod.mk.inj e'.2).2
 have lv:st6.lv=st.lv++[st.tr.length]:=h5.trans e2
 have mk:st6.mark 1=st.tr.length:=by
  unfold St.mark
  rw[lv,List.length_append,List.length_singleton,Nat.add_sub_cancel,List.getElem?_concat_length];rfl
 have tk:st6.tr.take (st6.mark 1)=st.tr:=by rw[mk,h2,e'.1,List.take_left]
 constructor
 .show st6.lv.take (st6.lv.length-1)=st.lv
  rw[lv,List.length_append,List.length_singleton,Nat.add_sub_cancel,List.take_left]
 .show (st6.cs,st6.tr.take (st6.mark 1),run FC (st6.tr.take (st6.mark 1)),st6.bk false,[],false,st6.tm)=_
  rw[tk,h1,h3,h4,e.1,e''.1,(Prod.mk.inj (Prod.mk.inj e''.2).2).2,<-hD]
theorem qJ8(d:Nat)(R:Rep st H)(V:Val FC st.tr)(hD:st.D=run FC st.tr)(h1:1<=st.lv.length)(hl:st.lv.length<400000)(l79:ρ.lookup 79=some (.inst 1 1))(l82:ρ.lookup 82=some (.bool true)) :
  ∃H',Ss (d+1) 20 ρ H (fn42.body.drop 10) (.ret (.bool true)) ρ H'/\Rep (st.pop 1) H':=by
 obtain⟨H',c,R'⟩:=qKT d R V hD (Nat.le_refl 1) h1 hl
 have c:Cl (d+1) H 28 [.inst 1 1,.int 1] .none H':=c
 have g62:qAB PP (.inst 1 1) 62 H'=some (.bool false):=R'.g62
 exact⟨H',(by exists l79,l82,c,g62),R'⟩
end
end
section
section
variable{n m b:Nat}{st st5 st6:St}{H H5 H6:AHeap}{D:Fin 3->Dm}{r c w:List Lit}{l x y:Lit}{t:List Lit}{ρ:Rho}{B:Bk}{tr:List Ent}
theorem nil_eq(ls:List Lit):cmpAV .eq (.lst (ls.map lav)) (.lst []) H=some ((AV.lst (ls.map lav)).beq (.lst [])):=qEg ls []
theorem qGw(ls:List Lit):cmpAV .ne (.lst (ls.map lav)) (.lst []) H=some !(AV.lst (ls.map lav)).beq (.lst []):=congrArg (Option.map fun x=>!x) (nil_eq ls)
theorem qGY(a b:Bool):cmpAV .eq (.bool a) (.bool b) H=some (a==b):=rfl
theorem qIU(ls:List Lit):cmpAV .eq (.int ((ls.map lav).length:Int)) (.int 1) H=some (decide (ls.length=1)):=by
 rw[List.length_map];exact congrArg some (decide_eq_decide.mpr Int.ofNat_inj)
theorem qKp(d:Nat)(R6:Rep st6 H6)(nb:qAo b 50 H5=true)(c6:Cl (d+8) H5 15 [.inst 0 b,.inst 1 1,.int 0] (.bool true) H6)(k:Okc 2 c)(hm:st6.tr.length=m)(h4:m<400000)(q:(∃x,canL D c=[x]/\cut x (D x.1)=D x.1)\/∃x y t,canL D c=x::y::t) :
  ∃ρ',Ss (d+8) 20 (rhoP b c r D m) H5 ((fn42.body.drop 6).take 4) .next ρ' H6/\ρ'.lookup 79=some (.inst 1 1)/\ρ'.lookup 82=some (.bool true):=by
 have sm:small (m:Int)=true:=qAc h4
 have sl:qAW (st6.tr.map entAV) (some (m:Int)) none=[]:=by rw[qDa (Nat.le_of_eq hm.symm),<-hm,List.drop_length];rfl
 have n0:cmpAV .ne (.lst []) (.lst []) H6=some false:=qGw []
 rcases q with⟨x,e,s⟩|⟨x,y,t,e⟩
 .have hx:mid x:=k.md x (List.mem_filter.mp (show x∈canL D c from e▸.head _)).1
  have cs:=so_cl (H:=H6) (d+6) hx D
  rw[decide_eq_true s]at cs
  have n1:cmpAV .ne (.lst ([x].map lav)) (.lst []) H6=some true:=qGw [x]
  have n2:cmpAV .eq (.lst ([x].map lav)) (.lst []) H6=some false:=nil_eq [x]
  have n3:cmpAV .eq (.int (([x].map lav).length:Int)) (.int 1) H6=some true:=qIU [x]
  have s0:subAV (.lst ([x].map lav)) (.int 0) H6=some (lav x):=rfl
  unfold rhoP
  rw[e]
  exact⟨_,(by exists nb,c6,sl,sm,qD6 R6.l4,n1,n2,n3,qDh,s0,cs,n0,qGY true true),rfl,rfl⟩
 .have n1:cmpAV .ne (.lst ((x::y::t).map lav)) (.lst []) H6=some true:=qGw (x::y::t)
  have n2:cmpAV .eq (.lst ((x::y::t).map lav)) (.lst []) H6=some false:=nil_eq (x::y::t)
  have n3:cmpAV .eq (.int (((x::y::t).map lav).length:Int)) (.int 1) H6=some false:=(qIU (x::y::t)).trans (congrArg some (decide_eq_false fun z=>absurd (Nat.succ.inj z) (Nat.succ_ne_zero _)))
  unfold rhoP
  rw[e]
  exact⟨_,(by exists nb,c6,sl,sm,qD6 R6.l4,n1,n2,n3,qDh,n0,qGY true true),rfl,rfl⟩
theorem qMo(d:Nat)(R6:Rep st6 H6)(nb:qAo b 50 H5=true)(c6:Cl (d+8) H5 15 [.inst 0 b,.inst 1 1,.int 0] (.bool false) H6)(k:Okc 2 c)(hm:st6.tr.length=m)(h4:m<400000)(e:canL D c=[])(hc:st6.cl=w)(p:w.Perm (c.map negL)) :
  ∃ρ',Ss (d+8) 20 (rhoP b c r D m) H5 ((fn42.body.drop 6).take 4) .next ρ' H6/\ρ'.lookup 79=some (.inst 1 1)/\ρ'.lookup 82=some (.bool true):=by
 have sm:small (m:Int)=true:=qAc h4
 have sl:qAW (st6.tr.map entAV) (some (m:Int)) none=[]:=by rw[qDa (Nat.le_of_eq hm.symm),<-hm,List.drop_length];rfl
 have n0:cmpAV .ne (.lst []) (.lst []) H6=some false:=qGw []
 have n2:cmpAV .eq (.lst []) (.lst []) H6=some true:=nil_eq []
 have n3:cmpAV .eq (.int (([]:List AV).length:Int)) (.int 1) H6=some false:=qIU []
 have g63:qAB PP (.inst 1 1) 63 H6=some (clAV w):=hc▸R6.g63
 have nd:=qCL k.nd k.md
 have nw:=p.nodup_iff.mpr nd
 have l3:(c.map negL).length<=3:=by rw[List.length_map];exact k.hi
 have so1:biAV .sorted false [clAV w] H6=some (.lst (qAD (w.map lav)),H6):=qAi rfl (qAw nw (by rw[p.length_eq];exact l3))
 have so2:biAV .sorted false [.lst ((c.map negL).map lav)] H6=some (.lst (qAD ((c.map negL).map lav)),H6):=qAi rfl (qAw nd l3)
 have ce:cmpAV .eq (.lst (qAD (w.map lav))) (.lst (qAD ((c.map negL).map lav))) H6=some true:=by
  rw[qEZ p nw]
  obtain⟨s,e⟩:=qCv (c.map negL)
  rw[e,qEg,(AV.beq_iff _ _).mpr rfl]
 have it1:iterE false H6 (clAV c)=some (c.map lav,none):=rfl
 have lc:∀(ρ:Rho),Lc (d+8) 36 (.callF 35 [(.var 44)]) (.name 44) [] H6 none ρ H6 (c.map lav) ((c.map negL).map lav) H6:=fun ρ=>by
  rw[List.map_map]
  exact qBy _ fun m hm ρ' h1 h2=>by exists h1,Cl_of (qDq (d+7) (k.md m hm))
 unfold rhoP
 rw[e]
 exact⟨_,(by exists nb,c6,sl,sm,qD6 R6.l4,n0,n2,n3,qDh,g63,so1,so2,ce,it1,lc _,qGY false false),rfl,rfl⟩
theorem qKq(d:Nat)(R6:Rep st6 H6)(nb:qAo b 50 H5=true)(c6:Cl (d+8) H5 15 [.inst 0 b,.inst 1 1,.int 0] (.bool true) H6)(k:Okc 2 c)(h4:tr.length<400000){S:Dm}(ht:st6.tr=tr++[Ent.mk S l (some (w.map negL))])(e:canL D c=[l])(h0:cut l (D l.1)≠D l.1)(p:(l::w).Perm c) :
  ∃ρ',Ss (d+8) 20 (rhoP b c r D tr.length) H5 ((fn42.body.drop 6).take 4) .next ρ' H6/\ρ'.lookup 79=some (.inst 1 1)/\ρ'.lookup 82=some (.bool true):=by
 have sm:small (tr.length:Int)=true:=qAc h4
 have sl:qAW (st6.tr.map entAV) (some (tr.length:Int)) none=[entAV (Ent.mk S l (some (w.map negL)))]:=by rw[qDa (by rw[ht,List.length_append];exact Nat.le_add_right _ _),ht,List.drop_left];rfl
 have hx:mid l:=k.md l (p.mem_iff.mp (.head _))
 have cs:=so_cl (H:=H6) (d+6) hx D
 rw[decide_eq_false h0]at cs
 have n1:cmpAV .ne (.lst ([l].map lav)) (.lst []) H6=some true:=qGw [l]
 have n2:cmpAV .eq (.lst ([l].map lav)) (.lst []) H6=some false:=nil_eq [l]
 have n3:cmpAV .eq (.int (([l].map lav).length:Int)) (.int 1) H6=some true:=qIU [l]
 have s0:∀H,subAV (.lst ([l].map lav)) (.int 0) H=some (lav l):=fun _=>rfl
 have nd':=List.nodup_cons.mp (p.nodup_iff.mpr k.nd)
 have pf:w.Perm (c.filter (othr (some l))):=by
  refine List.Perm.trans ?_ (p.filter _)
  unfold othr
  rw[List.filter_cons,if_neg (by rw[decide_eq_true rfl];exact Bool.false_ne_true),List.filter_eq_self.mpr fun m hm=>by rw[decide_eq_false fun z:some l=some m=>nd'.1 ((Option.some.inj z).symm▸hm)];rfl]
 have fm:∀m∈c.filter (othr (some l)),m∈c:=fun m h=>(List.mem_filter.mp h).1
 have nd:=qCL (k.nd.filter (othr (some l))) fun m hm=>k.md m (fm m hm)
 have pn:(w.map negL).Perm ((c.filter (othr (some l))).map negL):=pf.map _
 have nw:=pn.nodup_iff.mpr nd
 have l3:((c.filter (othr (some l))).map negL).length<=3:=by rw[List.length_map];exact Nat.le_trans (List.length_filter_le ..) k.hi
 have so1:biAV .sorted false [whyAV (some (w.map negL))] H6=some (.lst (qAD ((w.map negL).map lav)),H6):=qAi rfl (qAw nw (by rw[pn.length_eq];exact l3))
 have so2:biAV .sorted false [.lst (((c.filter (othr (some l))).map negL).map lav)] H6=some (.lst (qAD (((c.filter (othr (some l))).map negL).map lav)),H6):=qAi rfl (qAw nd l3)
 have ce:cmpAV .eq (.lst (qAD ((w.map negL).map lav))) (.lst (qAD (((c.filter (othr (some l))).map negL).map lav))) H6=some true:=by
  rw[qEZ pn nw]
  obtain⟨s,e⟩:=qCv ((c.filter (othr (some l))).map negL)
  rw[e,qEg,(AV.beq_iff _ _).mpr rfl]
 have it1:iterE false H6 (clAV c)=some (c.map lav,none):=rfl
 have lc:∀(ρ:Rho),ρ.lookup 85=some (.lst ([l].map lav))->Lc (d+8) 39 (.callF 35 [(.var 44)]) (.name 44) [(.cmp .ne (.var 44) (.sub (.var 85) (.lit (.int 0))))] H6 none ρ H6 (c.map lav) (((c.filter (othr (some l))).map negL).map lav) H6:=fun ρ l85=>by
  rw[List.map_map]
  exact qDx c fun m hm ρ' h1 h2=>by
   have l85:=(h2 85 rfl).trans l85
   have cn:cmpAV .ne (lav m) (lav l) H6=some (othr (some l) m):=ne_o m (some l)
   refine⟨?_,fun _=>by exists h1,Cl_of (qDq (d+7) (k.md m hm))⟩
   generalize othr (some l) m=b at cn ⊢
   have ev:Ev (d+8) ρ' H6 39 (.cmp .ne (.var 44) (.sub (.var 85) (.lit (.int 0)))) (.bool b) H6:=by exists h1,l85,s0 H6,cn
   cases b
   .exact qB5 ev Et_no
   .exact qB5 ev qDX
 have lc2:∀(ρ:Rho),Lc (d+8) 37 (.sub (.var 26) (.lit (.int 2))) (.name 26) [] H6 none ρ H6 [entAV (Ent.mk S l (some (w.map negL)))] ([l].map lav) H6:=fun ρ=>qBy (e:=entAV) (f:=fun e=>lav e.lit) [Ent.mk S l (some (w.map negL))] fun e _ ρ' h1 _=>by exists h1
 have c2:cmpAV .eq (.lst ([l].map lav)) (.lst ([l].map lav)) H6=some true:=by rw[qEg,(AV.beq_iff _ _).mpr rfl]
 have s1:subAV (.lst [entAV (Ent.mk S l (some (w.map negL)))]) (.int 0) H6=some (entAV (Ent.mk S l (some (w.map negL)))):=rfl
 have s2:subAV (entAV (Ent.mk S l (some (w.map negL)))) (.int 3) H6=some (whyAV (some (w.map negL))):=rfl
 unfold rhoP
 rw[e]
 exact⟨_,(by exists nb,c6,sl,sm,qD6 R6.l4,n1,n2,n3,qDh,s0 H6,cs,qGY true true,lc _ rfl,it1,lc2 _,qL6,c2,s1,s2,so1,so2,ce),rfl,rfl⟩
end
end
section
section
variable{st:St}{H:AHeap}{B:Bk}{pd:List Nat}
theorem qKU(d:Nat)(R:Rep st H)(I:Inv st B [])(ht:st.t+10<=600)(hl:st.lv.length<1000) :
  ∃H' st',Cl (d+9) H 42 [.ref 0,.inst 1 1,.ref 12] (.bool true) H'/\Rep st' H'/\st'.t<=st.t+10/\st'.lv=st.lv/\rest st'=(st.cs,st.tr,st.D,st.bk false,[],false,st.tm):=by
 delta st H B d at R I ht hl
 have bd:=I.bd
 injection qHo d R I ht hl with c r B3 H5 st5;rintro⟨s1,R5,k,p,hb5,hr5,W5,hw5,e1,e2,t5⟩
 have e:=Prod.mk.inj e1
 have e':=Prod.mk.inj e.2
 have e'':=Prod.mk.inj e'.2
 have etr:st5.tr=st.tr:=e'.1
 have eD:st5.D=st.D:=e''.1
 have enw:st5.nw=st.nw:=(Prod.mk.inj (Prod.mk.inj e''.2).2).1
 injection qIE d R5 hb5 hr5 (p.length_eq▸k.low) (p.length_eq▸k.hi) W5 rfl hw5 (fun l hl=>k.md l (p.mem_iff.mp hl)) (by rw[etr];exact Nat.lt_of_le_of_lt bd (by decide)) (enw.symm▸I.nw)with B4 r2 res st6 H6;rintro⟨c6,R6,w,p6,vo⟩
 have c6:Cl (d+8) H5 15 [.inst 0 (bs st5.bb true),.inst 1 1,.int 0] (.bool res) H6:=c6
 have nb:=R5.nb (a:=50) hb5 rfl fun _ _=>rfl
 have p2:=p6.trans p
 have h4:st.tr.length<400000:=Nat.lt_of_le_of_lt bd (by decide)
 rw[eD]at vo
 have fin:∀ρ' es,Ss (d+8) 20 (rhoP (bs st5.bb true) c r st.D st.tr.length) H5 ((fn42.body.drop 6).take 4) .next ρ' H6/\ρ'.lookup 79=some (.inst 1 1)/\ρ'.lookup 82=some (.bool true)->st6.cs=st5.cs->st6.tr=st5.tr++es->st6.bk false=st5.bk false->st6.tm=st5.tm->st6.lv=st5.lv->st6.t=st5.t->Val FC st6.tr->st6.D=run FC st6.tr ->
   ∃H' st',Cl (d+9) H 42 [.ref 0,.inst 1 1,.ref 12] (.bool true) H'/\Rep st' H'/\st'.t<=st.t+10/\st'.lv=st.lv/\rest st'=(st.cs,st.tr,st.D,st.bk false,[],false,st.tm):=by
  intro ρ' es s2 q1 q2 q3 q4 q5 q6 V6 D6
  obtain⟨s2,l79,l82⟩:=s2
  have lv:st6.lv.length=st.lv.length+1:=by rw[q5,e2,List.length_append];rfl
  obtain⟨H7,s3,R7⟩:=qJ8 (d+7) R6 V6 D6 (by rw[lv];exact Nat.le_add_left 1 _) (by rw[lv];exact Nat.lt_of_le_of_lt hl (by decide)) l79 l82
  have pb:=qMa e1 e2 q1 q2 q3 q4 q5 I.D
  exact⟨H7,st6.pop 1,C_imp (fn:=fn42) rfl rfl rfl (qBw 6 s1 (qBw 4 s2 s3)) rfl,R7,(show st6.t<=_ from q6▸t5),pb.1,pb.2⟩
 cases vo with
 |stand hj =>
  injection qKp d R6 nb c6 k (show _=st.tr.length from congrArg List.length etr) h4 (qPc hj p2 I.nz)with ρ';intro s2
  exact fin ρ' [] s2 rfl (List.append_nil _).symm rfl rfl rfl rfl (etr.symm▸I.V:Val FC st5.tr) (eD.trans (I.D.trans (by rw[<-etr];rfl)))
 |fail hj =>
  injection qMo d R6 nb c6 k (show _=st.tr.length from congrArg List.length etr) h4 (qLj hj p2 I.nz) rfl (p2.map _)with ρ';intro s2
  exact fin ρ' [] s2 rfl (List.append_nil _).symm rfl rfl rfl rfl (etr.symm▸I.V:Val FC st5.tr) (eD.trans (I.D.trans (by rw[<-etr];rfl)))
 |force l rs h0 pl hf hl' =>
  have z:=qDy h0
  have pp:=pl.trans p2
  have V6:Val FC (st5.tr++[Ent.mk (st5.D l.1) l (some (rs.map negL))]):=by
   rw[etr,eD];exact qBv.mpr ⟨I.V,⟨I.D▸rfl,z.2,z.1,k.md l (pp.mem_iff.mp (.head _))⟩,trivial⟩
  have D6:setF st5.D l.1 (cut l (st5.D l.1))=run FC (st5.tr++[Ent.mk (st5.D l.1) l (some (rs.map negL))]):=by
   rw[qDc,etr,<-I.D,eD];rfl
  injection qKq (tr:=st.tr) d R6 nb c6 k h4 (S:=st5.D l.1) (show _=st.tr++_ from etr▸rfl) (qOl h0 pp hf I.nz) z.1 pp with ρ';intro s2
  exact fin ρ' _ s2 rfl rfl rfl rfl rfl rfl V6 D6
end
end
section
structure After (st st':St) (B':Bk) (b:Bool):Prop where
 I:Inv st' B' B'.fr
 ex:Ext st'.cs st.tr st'.tr
 co:core st'=core st
 tm:st'.tm=none
 yes:b=true->B'.fr=[]/\st'.fa=false/\Uu st'/\JJ st' B' [] (fun _=>False) (fun _=>False)
 no:b=false->st'.fa=true/\Says st'.cs st'.D none st'.cl
section
variable{n m:Nat}{st st':St}{H H0:AHeap}{B B':Bk}{pd:List Nat}{c:List Lit}{l:Lit}{b:Bool}{ρ:Rho}
theorem qGd(tm:st'.tm=none)(y:b=true->B'.fr=[]/\Done st st' B' st.tr)(z:b=false->Bad st st' B' B'.fr st.tr):After st st' B' b:=by
 cases b with
 |true =>
  obtain⟨f,D⟩:=y rfl
  have e:st'.cs=st.cs:=congrArg Prod.fst D.co
  exact⟨f.symm▸D.I,e.symm▸D.ex,D.co,tm,fun _=>⟨f,D.fa,D.un,D.jj⟩,fun q=>(nomatch q)⟩
 |false =>
  have D:=z rfl
  have e:st'.cs=st.cs:=congrArg Prod.fst D.co
  exact⟨D.I,e.symm▸D.ex,D.co,tm,fun q=>(nomatch q),fun _=>⟨D.fa,e.symm▸D.says⟩⟩
theorem After.entries(d:Nat)(A:After st st' B' b)(R:Rep st' H):Cl (d+4) H 40 [.inst 1 1,.ref 12,.ref 13,.int st.tr.length,.bool b] (.bool true) H :=
 qJT d R A.I.okc A.I.V A.I.D A.ex b (fun q=>by
  obtain⟨f,fa,u,j⟩:=A.yes q
  have D:Done st' st' B' st.tr:=⟨f▸A.I,A.ex,fa,rfl,u,j⟩
  exact⟨fa,D.good⟩) A.no
theorem Inv.pop(I:Inv st B pd)(n:Nat):Inv (st.pop n) B pd:=by
 have V:=I.V
 rw[<-List.take_append_drop (st.mark n) st.tr]at V
 exact⟨I.hb,I.len,I.l9,I.perm,I.okc,I.un,I.unl,I.pdl,I.W,I.hw,(qBv.mp V).1,rfl,.nil⟩
noncomputable def agE:CE:=.band [(.not (.var 80)),(.cmp .gt (.callM (.var 79) 96 []) (.lit (.int 0)))]
noncomputable def agB:List CS:=[(.expr (.callM (.var 79) 1 [(.lit (.int 1))])),
   (.asg (.name 53) (.bi .len false [(.attr (.var 79) 27)])),
   (.asg (.name 80) (.callM (.var 83) 93 [(.var 79)])),
   (.ife (.not (.callF 40 [(.var 79),(.var 58),(.var 30),(.var 53),(.var 80)])) [(.ret (some (.lit (.bool false))))] [])]
structure Nm (ρ:Rho):Prop where
 k:ρ.lookup 69=some (.ref 0)
 s:ρ.lookup 79=some (.inst 1 1)
 b:ρ.lookup 83=some (.inst 0 7)
 f:ρ.lookup 58=some (.ref 12)
 c:ρ.lookup 30=some (.ref 13)
theorem Nm.up(h:Nm ρ)(k:Nat)(v:AV)(h1:(69==k)=false)(h2:(79==k)=false)(h3:(83==k)=false)(h4:(58==k)=false)(h5:(30==k)=false):Nm (upd k v ρ):=⟨(qAA h1).trans h.k,(qAA h2).trans h.s,(qAA h3).trans h.b,(qAA h4).trans h.f,(qAA h5).trans h.c⟩
theorem qNF(d:Nat):∀(k:Nat) {st:St}{H:AHeap}{B:Bk}{b:Bool}{ρ:Rho},Rep st H->Inv st B B.fr->st.tm=none->(b=true->B.fr=[]/\st.fa=false/\Uu st/\JJ st B [] (fun _=>False) (fun _=>False))->st.lv.length<k->k<=1000->Nm ρ->ρ.lookup 80=some (.bool b) ->
  ∃ρ' H' st' B' b',Lw (d+10) 18 agE agB k ρ H .next ρ' H'/\Nm ρ'/\ρ'.lookup 80=some (.bool b')/\Rep st' H'/\Inv st' B' B'.fr/\st'.tm=none/\st'.cs=st.cs/\st'.t=st.t/\st'.lv.length<=st.lv.length/\(b'=true->B'.fr=[]/\st'.fa=false/\Uu st'/\JJ st' B' [] (fun _=>False) (fun _=>False)):=by
 intro k
 induction k with
 |zero=>intro st H B b ρ _ _ _ _ h;exact absurd h (Nat.not_lt_zero _)
 |succ k ih =>
  intro st H B b ρ R I tm y hk h1 N l80
  delta d k st H B b ρ at ih R I tm y hk h1 N l80
  have ls:=N.s
  have lb:=N.b
  have lf:=N.f
  have lc:=N.c
  cases b with
  |true=>exact⟨ρ,H,st,B,true,qIv (by unfold agE;exists l80,ls),N,l80,R,I,tm,rfl,rfl,Nat.le_refl _,y⟩
  |false =>
   have dp:=qGR (d+9) R
   by_cases h0:st.lv.length=0
   .have c0:cmpAV .gt (.int st.lv.length) (.int 0) H=some false:=by rw[h0];rfl
    exact⟨ρ,H,st,B,false,qIv (by unfold agE;exists l80,ls,dp,c0),N,l80,R,I,tm,rfl,rfl,Nat.le_refl _,y⟩
   .have c0:cmpAV .gt (.int st.lv.length) (.int 0) H=some true:=congrArg some (decide_eq_true (Int.ofNat_lt.mpr (Nat.pos_of_ne_zero h0)))
    injection (qKT (n:=1) (d+9) R I.V I.D (Nat.le_refl 1) (Nat.pos_of_ne_zero h0) (Nat.lt_trans (Nat.lt_of_lt_of_le hk h1) (by decide)))with H1;rintro⟨c1,R1⟩
    have c1:Cl (d+10) H 28 [.inst 1 1,.int 1] .none H1:=c1
    have I1:=I.pop 1
    injection (qIQ (t0:=(st.pop 1).tr) d R1 I1 rfl Ext.refl tm)with B2 b2 st2 H2;rintro⟨c2,_,R2,tm2,y2,z2⟩
    have A:=qGd tm2 y2 z2
    have en:=A.entries (d+6) R2
    have ln:=qBD R1
    have na:=R.na (a:=1) fun _ _ _ _=>rfl
    have nb:qAo 7 93 H1=true:=R1.nb I1.hb rfl fun _ _=>rfl
    have lv:st2.lv=st.lv.take (st.lv.length-1):=(Prod.mk.inj (Prod.mk.inj A.co).2).1
    have tt:st2.t=st.t:=(Prod.mk.inj (Prod.mk.inj (Prod.mk.inj A.co).2).2).1
    have lvl:st2.lv.length<st.lv.length:=by rw[lv,List.length_take];exact Nat.lt_of_le_of_lt (Nat.min_le_left _ _) (Nat.sub_lt (Nat.pos_of_ne_zero h0) Nat.one_pos)
    injection (ih (ρ:=upd 80 (.bool b2) (upd 53 (.int (st.pop 1).tr.length) ρ)) R2 A.I tm2 A.yes (Nat.lt_of_lt_of_le lvl (Nat.le_of_lt_succ hk)) (Nat.le_of_succ_le h1) ((N.up 53 _ rfl rfl rfl rfl rfl).up 80 _ rfl rfl rfl rfl rfl) qAX)with ρ3 H3 st3 B3 b3;rintro⟨w,N3,l3,R3,I3,tm3,cs3,t3,lv3,y3⟩
    refine⟨ρ3,H3,st3,B3,b3,qGe (H1:=H) ?_ ?_ w,N3,l3,R3,I3,tm3,cs3.trans (congrArg Prod.fst A.co),t3.trans tt,Nat.le_trans lv3 (Nat.le_of_lt lvl),y3⟩
    .unfold agE;exists l80,ls,dp,c0
    .unfold agB;exists ls,lb,lf,lc,c1,na,nb,ln,c2,en
end
end
section
section
variable{n m f:Nat}{st st':St}{H H0:AHeap}{B B':Bk}{pd:List Nat}{c:List Lit}{l:Lit}{b:Bool}{ρ:Rho}
noncomputable def St.dec(st:St)(l:Lit):St:=(((st.sLv (st.lv++[st.tr.length])).sNw []).enter l none).sNw []
theorem qPW(d:Nat)(R:Rep st H)(hm:mid l)(h0:hold st.D l=0)(nw:st.nw=[])(ht:st.tr.length<900000)(hl:st.lv.length<900000)(ls:ρ.lookup 79=some (.inst 1 1))(ll:ρ.lookup 20=some (lav l)) :
  ∃H',Ss (d+10) (f+1) ρ H [(.expr (.callM (.var 79) 84 [])),(.expr (.callM (.var 79) 52 [])),(.expr (.callM (.var 79) 94 [(.var 20)])),(.asg (.name 89) (.callM (.var 79) 52 []))] .next (upd 89 (.lst (qAV [l.1])) ρ) H'/\Rep (st.dec l) H':=by
 delta f st H l ρ d at R hm h0 nw ht hl ls ll
 have z:=qDy h0
 injection qKP (d+9) R hl with H1;rintro⟨c1,R1⟩
 injection qFq (d+9) R1 (vs:=[]) (by show qAY (st.nw.map _)=_;rw[nw];rfl)with H2;rintro⟨c2,R2⟩
 injection qLX (d+4) R2 (l:=l) z.2 z.1 ht .nil with H3;rintro⟨c3,R3⟩
 injection qFq (d+9) R3 (vs:=qAV [l.1]) rfl with H4;rintro⟨c4,R4⟩
 exact⟨H4,(by exists ls,ll,c1,c2,c3,c4),R4⟩
theorem Inv.dec(I:Inv st B pd)(hm:mid l)(h0:hold st.D l=0):Inv (st.dec l) B pd:=by
 have I1:Inv ((st.sLv (st.lv++[st.tr.length])).sNw []) B pd:=⟨I.hb,I.len,I.l9,I.perm,I.okc,I.un,I.unl,I.pdl,I.W,I.hw,I.V,I.D,.nil⟩
 have I2:=I1.enter (w:=none) (l:=l) h0 hm
 exact⟨I2.hb,I2.len,I2.l9,I2.perm,I2.okc,I2.un,I2.unl,I2.pdl,I2.W,I2.hw,I2.V,I2.D,.nil⟩
theorem JJ.dec(j:JJ st B pd (fun _=>False) (fun _=>False)):JJ (st.dec l) B pd (·∈[l.1]) (fun _=>False):=fun n r hp hr=>by
 rcases j n r hp hr with j|j|⟨_,_,j⟩
 .by_cases u:∀m∈r.take 2,m.1≠l.1
  .exact .inl (Jr_up j u)
  .obtain ⟨m',u⟩:=Classical.not_forall.mp u
   obtain⟨u1,u2⟩:=Classical.not_imp.mp u
   exact .inr (.inr ⟨m',u1,List.mem_singleton.mpr (Classical.not_not.mp u2)⟩)
 .exact j.elim
 .exact j.elim
theorem qPF(d:Nat)(R:Rep st H)(I:Inv st B pd)(h0:0<st.lv.length)(hl:st.lv.length<400000)(ht:st.t<600)(ls:ρ.lookup 79=some (.inst 1 1))(lk:ρ.lookup 69=some (.ref 0)) :
  ∃n H',Ss (d+10) (f+1) ρ H [(.expr (.callM (.var 79) 1 [(.bin .add false (.lit (.int 1)) (.callF 31 [(.var 69),(.callM (.var 79) 96 [])]))]))] .next ρ H'/\Rep ((st.sT (st.t+1)).pop n) H':=by
 obtain⟨H1,c1,R1⟩:=qEP (d+9) R st.lv.length ht h0
 have hv:=qC2 (m:=st.lv.length) st.t h0
 generalize tapV st.t st.lv.length=v at c1 hv
 obtain⟨H2,c2,R2⟩:=qKT (n:=1+v) (d+9) R1 I.V I.D (Nat.le_add_right 1 v) (by rw[Nat.add_comm];exact hv) hl
 have c2:Cl (d+10) H1 28 [.inst 1 1,.int (1+(v:Int))] .none H2:=by rw[show(1:Int)+v=((1+v:Nat):Int)from(Int.natCast_add 1 v).symm];exact c2
 have na:=R.na (a:=1) fun _ _ _ _=>rfl
 have na2:=R.na (a:=96) fun _ _ _ _=>rfl
 have dp:=qGR (d+9) R
 exact⟨1+v,H2,(by exists ls,lk,na,na2,dp,c1,c2),R2⟩
theorem Inv.sT(I:Inv st B pd)(t:Nat):Inv (st.sT t) B pd:=⟨I.hb,I.len,I.l9,I.perm,I.okc,I.un,I.unl,I.pdl,I.W,I.hw,I.V,I.D,I.nw⟩
theorem Inv.add(I:Inv st B B.fr)(k:Okc 1 c)(h9:st.cs.length+1<100)(e:B'.rows=B.rows++[c])(eu:B'.un=if c.length<2 then B.un++[B.rows.length]else B.un)(ef:B'.fr=if c.length<2 then B.fr else B.fr++[B.rows.length])(ek:B'.ks=B.ks)(ew:B'.wt=B.wt) :
  Inv ((st.sCs (st.cs++[c])).sB false B') B' B'.fr:=by
 delta st B B' c at I k h9 e eu ef ek ew
 have at_:∀{α:Type}{l:List α}{x y:α}{n:Nat},(l++[x])[n]?=some y->(n<l.length/\l[n]?=some y)\/(n=l.length/\y=x):=fun{α l x y n} h=>by
  by_cases q:n<l.length
  .rw [List.getElem?_append_left q]at h;exact .inl ⟨q,h⟩
  .have z:=(List.getElem?_eq_some_iff.mp h).1
   rw[List.length_append]at z
   have z3:n=l.length:=Nat.le_antisymm (Nat.le_of_lt_succ z) (Nat.le_of_not_lt q)
   rw[z3,List.getElem?_concat_length]at h
   exact .inr ⟨z3,(Option.some.inj h).symm⟩
 have lt:∀{n:Nat}{x:List Lit},st.cs[n]?=some x->n<st.cs.length:=fun h=>(List.getElem?_eq_some_iff.mp h).1
 have up:∀{n:Nat}{x:List Lit},st.cs[n]?=some x->(st.cs++[c])[n]?=some x:=fun h=>(List.getElem?_append_left (lt h)).trans h
 have old:∀n,n<st.cs.length->(Pl (st.cs++[c]) B'.fr n↔Pl st.cs B.fr n):=fun n hn=>by
  have hf:n∈B'.fr↔n∈B.fr:=by
   rw[ef]
   split
   .exact Iff.rfl
   .rw [List.mem_append,List.mem_singleton,I.len];exact or_iff_left (Nat.ne_of_lt hn)
  unfold Pl
  rw[hf,List.getElem?_append_left hn]
 have new:∀n,Pl (st.cs++[c]) B'.fr n->n<st.cs.length:=fun n h=>by
  obtain⟨c',hc,h2⟩:=h.2
  rcases at_ hc with z|⟨z,rfl⟩
  .exact z.1
  .refine absurd ?_ h.1
   rw[ef,if_neg (Nat.not_lt_of_le h2),z,I.len]
   exact List.mem_append_right _ (.head _)
 refine⟨sB_at,by rw[e,List.length_append,I.len];exact(List.length_append ..).symm,by show(st.cs++[c]).length<100;rw[List.length_append];exact h9,fun n r h=>?_,fun x hx=>?_,fun n x h=>?_,⟨fun n h=>?_,?_⟩,⟨?_,fun n h=>?_⟩,⟨fun x n h=>?_,ek▸ew▸I.W.zero,ew▸I.W.nd,ek▸I.W.kn,fun n h=>Nat.lt_trans (new n h) (Nat.lt_trans I.l9 (by decide))⟩,fun n r hp h l hl=>?_,I.V,I.D,I.nw⟩
 .rw [e]at h
  rcases at_ h with z|⟨z,rfl⟩
  .obtain ⟨x,hx,p⟩:=I.perm n r z.2;exact⟨x,up hx,p⟩
  .exact ⟨r,by show(st.cs++[r])[n]?=_;rw[z,I.len,List.getElem?_concat_length],.refl _⟩
 .rcases List.mem_append.mp hx with z|z
  .exact I.okc x z
  .exact List.mem_singleton.mp z▸k
 .rw [eu]
  rcases at_ h with z|⟨z,rfl⟩
  .rw [<-I.un n x z.2]
   split
   .rw [List.mem_append,List.mem_singleton,I.len];exact or_iff_left (Nat.ne_of_lt z.1)
   .exact Iff.rfl
  .have lo:=k.low
   split
   .rename_i q
    rw[List.mem_append,List.mem_singleton,I.len]
    exact⟨fun _=>Nat.le_antisymm (Nat.le_of_lt_succ q) lo,fun _=>.inr z⟩
   .rename_i q
    exact⟨fun w=>absurd (I.unl.1 n w) (z▸Nat.lt_irrefl _),fun w=>absurd (w▸Nat.lt_succ_self 1) q⟩
 .show n<(st.cs++[c]).length
  rw[List.length_append]
  rw[eu]at h
  split at h
  .rcases List.mem_append.mp h with z|z
   .exact Nat.lt_succ_of_lt (I.unl.1 n z)
   .rw [List.mem_singleton.mp z,I.len];exact Nat.lt_succ_self _
  .exact Nat.lt_succ_of_lt (I.unl.1 n h)
 .show B'.un.length<=(st.cs++[c]).length
  rw[eu,List.length_append]
  split
  .rw [List.length_append];exact Nat.succ_le_succ I.unl.2
  .exact Nat.le_succ_of_le I.unl.2
 .rw [ef]
  split
  .exact I.pdl.1
  .refine List.pairwise_append.mpr ⟨I.pdl.1,List.pairwise_singleton ..,fun a ha b hb=>?_⟩
   rw[List.mem_singleton.mp hb,I.len]
   obtain⟨x,hx,_⟩:=I.pdl.2 a ha
   exact lt hx
 .rw [ef]at h
  split at h
  .obtain ⟨x,hx,h2⟩:=I.pdl.2 n h;exact⟨x,up hx,h2⟩
  .rename_i q
   rcases List.mem_append.mp h with z|z
   .obtain ⟨x,hx,h2⟩:=I.pdl.2 n z;exact⟨x,up hx,h2⟩
   .exact ⟨c,by show(st.cs++[c])[n]?=_;rw[List.mem_singleton.mp z,I.len,List.getElem?_concat_length],Nat.le_of_not_lt q⟩
 .rw [ew]at h
  have p:=I.W.only x n h
  obtain⟨x,hx,_⟩:=p.2
  exact(old n (lt hx)).mpr p
 .have hn:=new n hp
  rw[e,List.getElem?_append_left (I.len▸hn)]at h
  rw[ew];exact I.hw n r ((old n hn).mp hp) h l hl
end
end
section
section
variable{n m f:Nat}{st st':St}{H H0:AHeap}{B B':Bk}{pd:List Nat}{c:List Lit}{l:Lit}{b:Bool}{ρ:Rho}{v:AV}
noncomputable def adB:List CS:=[(.expr (.callM (.var 30) 0 [(.callF 33 [(.var 69),(.lit (.int 1))])])),
     (.ife (.cmp .ne (.callM (.var 83) 86 [(.sub (.var 30) (.neg (.lit (.int 1))))]) (.bin .sub false (.bi .len false [(.var 30)]) (.lit (.int 1)))) [(.ret (some (.lit (.bool false))))] [])]
structure Kp (st:St) (B:Bk) (t n v:Nat):Prop where
 I:Inv st B B.fr
 fa:st.fa=false
 tm:st.tm=none
 nw:st.nw=[]
 t:st.t<=t
 n:st.cs.length<=n
 v:st.lv.length<=v
theorem qNH(d:Nat){t n v:Nat}{x:AV}(R:Rep st H)(K:Kp st B t n v)(ht:t+10<=600)(hn:n+1<100)(N:Nm ρ) :
  ∃H' st' B',Ss (d+10) (f+1) (upd 95 x ρ) H adB .next (upd 95 x ρ) H'/\Rep st' H'/\Kp st' B' (t+10) (n+1) v:=by
 delta f st H B ρ d t n v x at R K ht hn N
 have N:=N.up 95 x rfl rfl rfl rfl rfl
 have I:=K.I
 have bl:B.rows.length<900000:=I.len▸Nat.lt_trans I.l9 (by decide)
 have bu:B.un.length<900000:=Nat.lt_of_le_of_lt I.unl.2 (Nat.lt_trans I.l9 (by decide))
 have bf:B.fr.length<900000:=by
  have:=qGA (I.pdl.1.imp fun q=>Nat.ne_of_lt q) (List.nodup_range (n:=st.cs.length)) fun n h=>(I.pdl.2 n h).elim fun x z=>List.mem_range.mpr (List.getElem?_eq_some_iff.mp z.1).1
  rw[List.length_range]at this
  exact Nat.lt_of_le_of_lt this (Nat.lt_trans I.l9 (by decide))
 injection qHN (d+7) R 1 (.inl rfl) (Nat.le_trans (Nat.add_le_add_right K.t 10) ht)with c t' H1;rintro⟨k,t2,c1,R1⟩
 have c1:Cl (d+10) H 33 [.ref 0,.int 1] (clAV c) H1:=c1
 have ap:=qAs (v:=clAV c) R1.l13 (by rw[List.length_map];exact Nat.lt_trans I.l9 (by decide))
 have R2:=R1.cls (st.cs++[c])
 have ap:qAg 13 0 [clAV c] H1=some (.none,H1.set 13 (.list ((st.cs++[c]).map clAV))):=by rw[ap,List.map_append];rfl
 generalize H1.set 13 _=H2 at ap R2
 have ok:=qDg R.l13 0 (by decide)
 have l13:H2[13]?=some (.list ((st.cs++[c]).map clAV)):=R2.l13
 have sb:subAV (.ref 13) (.int (-1)) H2=some (clAV c):=by
  rw[qBh l13,qMx (k:=st.cs.length) (by rw[List.length_map,List.length_append];show(-1:Int)=(st.cs.length:Int)-((st.cs.length+1:Nat):Int);rw[Int.natCast_succ,<-Int.sub_sub,Int.sub_self];rfl) (by rw[List.length_map,List.length_append];exact Nat.lt_succ_self _),Option.bind_some,List.getElem?_map,List.getElem?_concat_length];rfl
 have hb2:((st.sT t').sCs (st.cs++[c])).bk false=some B:=I.hb
 injection qNn (d+9) R2 hb2 c bl bu bf with H3;rintro⟨c3,R3⟩
 have c3:Cl (d+10) H2 9 [.inst 0 7,clAV c] (.int B.rows.length) H3:=c3
 have nb:qAo 7 86 H2=true:=R2.nb hb2 rfl fun _ _=>rfl
 have l13':H3[13]?=some (.list ((st.cs++[c]).map clAV)):=R3.l13
 have ln:biAV .len false [.ref 13] H3=some (.int (st.cs.length+1:Nat),H3):=by rw[qBo l13',List.length_map,List.length_append];rfl
 have cn:cmpAV .ne (.int B.rows.length) (.int (((st.cs.length+1:Nat):Int)-1)) H3=some false:=congrArg (fun z=>some !z) (decide_eq_true (by rw[I.len,Int.natCast_succ,Int.add_sub_cancel]))
 obtain⟨l69,_,l83,_,l30⟩:=N
 refine⟨H3,_,{ B with rows:=B.rows++[c],ca:=setN B.ca B.rows.length H2.length,un:=if c.length<2 then B.un++[B.rows.length]else B.un,fr:=if c.length<2 then B.fr else B.fr++[B.rows.length] },(by unfold adB;exists l69,l83,l30,ok,c1,ap,sb,nb,c3,ln,cn),R3,?_⟩
 have I3:=(I.sT t').add k (Nat.lt_of_le_of_lt (Nat.succ_le_succ K.n) hn) (B':={ B with rows:=B.rows++[c],ca:=setN B.ca B.rows.length H2.length,un:=if c.length<2 then B.un++[B.rows.length]else B.un,fr:=if c.length<2 then B.fr else B.fr++[B.rows.length] }) rfl rfl rfl rfl rfl
 exact⟨I3,K.fa,K.tm,K.nw,Nat.le_trans t2 (Nat.add_le_add_right K.t 10),(by show(st.cs++[c]).length<=n+1;rw[List.length_append];exact Nat.succ_le_succ K.n),K.v⟩
end
end
section
noncomputable def Ask(st:St)(B:Bk)(v:AV):Prop:=v=.none\/∃q,v=.lst (qAV q)/\q.length<=3/\JJ st B B.fr (·∈q) (fun _=>False)
section
variable{n m f:Nat}{st st':St}{H H0:AHeap}{B B':Bk}{pd:List Nat}{c:List Lit}{l:Lit}{b:Bool}{ρ:Rho}{v:AV}
theorem Kp.le{t n v t' n' v':Nat}(K:Kp st B t n v)(h1:t<=t')(h2:n<=n')(h3:v<=v'):Kp st B t' n' v':=⟨K.I,K.fa,K.tm,K.nw,Nat.le_trans K.t h1,Nat.le_trans K.n h2,Nat.le_trans K.v h3⟩
theorem qPl(d:Nat){t n v:Nat}(R:Rep st H)(K:Kp st B t n v)(ht:t+21<=600)(hn:n+2<100)(N:Nm ρ)(l89:ρ.lookup 89=some .none) :
  ∃ρ' H' st' B',Ss (d+10) 17 ρ H [(.for false (.name 95) (.bi .range false [(.bin .add false (.lit (.int 1)) (.callF 31 [(.var 69),(.lit (.int 2))]))]) adB)] .next ρ' H'/\Nm ρ'/\ρ'.lookup 89=some .none/\Rep st' H'/\Kp st' B' (t+21) (n+2) v:=by
 delta st H B ρ d t n v at R K ht hn N l89
 injection qEP (d+9) R 2 (Nat.lt_of_le_of_lt K.t (Nat.lt_of_lt_of_le (Nat.lt_add_of_pos_right (by decide)) ht)) (by decide)with H1;rintro⟨c1,R1⟩
 have hw:=qC2 (m:=2) st.t (by decide)
 generalize tapV st.t 2=w at c1 hw
 have rg:biAV .range false [.int (1+(w:Int))] H1=some (.rng 0 (1+(w:Int)),H1):=qEY (show 1+w<400000 from Nat.lt_trans (Nat.add_lt_add_left hw 1) (by decide))
 have it:iterE false H1 (.rng 0 (1+(w:Int)))=some ((List.range (1+w)).map fun(k:Nat)=>AV.int (k:Int),none):=by
  rw[show(1:Int)+w=((1+w:Nat):Int)from(Int.natCast_add 1 w).symm]
  exact congrArg (fun z=>some (z,none)) (qIP (1+w))
 have K1:Kp (st.sT (st.t+1)) B (t+1) n v:=⟨K.I.sT _,K.fa,K.tm,K.nw,Nat.succ_le_succ K.t,K.n,K.v⟩
 rcases qD7 (d:=d+10) (n:=16) (v:=95) (body:=adB) (H0:=H1) (src:=none) (e:=fun k:Nat=>.int (k:Int)) (I:=fun us ρ H'=>Nm ρ/\ρ.lookup 89=some .none/\∃t' n' st' B',Rep st' H'/\Kp st' B' t' n' v/\t'+10*us.length<=t+21/\n'+us.length<=n+2) (Q:=fun u H'=>False)
  (fun _ _ _ _=>rfl) (fun k us ρ H' h=>by
   obtain⟨N,l89,t',n',st',B',R',K',h1,h2⟩:=h
   rw[List.length_cons]at h1 h2
   obtain⟨H2,st2,B2,s,R2,K2⟩:=qNH (f:=15) (x:=.int (k:Int)) d R' K' (Nat.le_trans (Nat.le_trans (Nat.add_le_add_left (Nat.le_add_left 10 (10*us.length)) t') h1) ht) (Nat.lt_of_le_of_lt (Nat.le_trans (Nat.add_le_add_left (Nat.le_add_left 1 us.length) n') h2) hn) N
   exact .inl ⟨_,H2,s,N.up 95 _ rfl rfl rfl rfl rfl,(qAA rfl).trans l89,t'+10,n'+1,st2,B2,R2,K2,Nat.le_trans (Nat.le_of_eq (qCu t' 10 us.length).symm) h1,Nat.le_trans (Nat.le_of_eq (Nat.add_right_comm n' 1 us.length)) h2⟩)
  (List.range (1+w)) ρ H1 ⟨N,l89,t+1,n,_,B,R1,K1,by rw[List.length_range];exact Nat.add_le_add_left (Nat.mul_le_mul_left 10 (Nat.le_of_lt_succ (Nat.add_lt_add_left hw 1):1+w<=2)) (t+1),by rw[List.length_range];exact Nat.add_le_add_left (Nat.le_of_lt_succ (Nat.add_lt_add_left hw 1)) n⟩with E_|E_
 case inr=>exact E_.elim fun _ h=>h.elim fun _ h=>h.elim fun _ h=>h.2.elim
 injection E_ with ρ2 H2;rintro⟨s2,N2,k89,t',n',st',B',R',K',h1,h2⟩
 have lk:=N.k
 exact⟨ρ2,H2,st',B',(by exists lk,c1,rg,it,s2),N2,k89,R',K'.le h1 h2 (Nat.le_refl v)⟩
noncomputable def waS:CS:=.ife (.band [(.cmp .eq (.var 90) (.lit (.int 1))),(.cmp .eq (.callM (.var 79) 36 [(.var 20)]) (.lit (.int 0)))]) [(.expr (.callM (.var 79) 84 [])),
   (.expr (.callM (.var 79) 52 [])),
   (.expr (.callM (.var 79) 94 [(.var 20)])),
   (.asg (.name 89) (.callM (.var 79) 52 []))] [(.ife (.band [(.cmp .eq (.var 90) (.lit (.int 2))),(.cmp .gt (.callM (.var 79) 96 []) (.lit (.int 0)))]) [(.expr (.callM (.var 79) 1 [(.bin .add false (.lit (.int 1)) (.callF 31 [(.var 69),(.callM (.var 79) 96 [])]))]))] [(.for false (.name 95) (.bi .range false [(.bin .add false (.lit (.int 1)) (.callF 31 [(.var 69),(.lit (.int 2))]))]) adB)])]
theorem qOw(d:Nat){t n v way:Nat}(R:Rep st H)(K:Kp st B t n v)(f0:B.fr=[])(j:JJ st B [] (fun _=>False) (fun _=>False))(ht:t+21<=600)(hn:n+2<100)(hv:v<100)(hw:way<3)(hm:mid l)(N:Nm ρ)(l89:ρ.lookup 89=some .none)(l90:ρ.lookup 90=some (.int way))(l20:ρ.lookup 20=some (lav l)) :
  ∃ρ' H' st' B' a,Ss (d+10) 19 ρ H [waS] .next ρ' H'/\Nm ρ'/\ρ'.lookup 89=some a/\Rep st' H'/\Kp st' B' (t+21) (n+2) (v+1)/\Ask st' B' a:=by
 delta st H B l ρ d t n v way at R K f0 j ht hn hv hw hm N l89 l90 l20
 have ls:=N.s
 have lk:=N.k
 have bd:=K.I.bd
 have dp:=qGR (d+9) R
 have hh:=qBr (d+4) R l
 have c1:∀k:Nat,cmpAV .eq (.int (way:Int)) (.int (k:Int)) H=some (decide (way=k)):=fun k=>congrArg some (decide_eq_decide.mpr Int.ofNat_inj)
 have c11:cmpAV .eq (.int (way:Int)) (.int 1) H=some (decide (way=1)):=c1 1
 have c12:cmpAV .eq (.int (way:Int)) (.int 2) H=some (decide (way=2)):=c1 2
 have c2:cmpAV .eq (.int (hold st.D l)) (.int 0) H=some (decide (hold st.D l=0)):=rfl
 have c3:cmpAV .gt (.int st.lv.length) (.int 0) H=some (decide (0<st.lv.length)):=congrArg some (decide_eq_decide.mpr Int.ofNat_lt)
 by_cases h1:way=1/\hold st.D l=0
 .rw [decide_eq_true h1.1]at c11
  rw[decide_eq_true h1.2]at c2
  injection qPW (f:=17) d R hm h1.2 K.nw (Nat.lt_of_le_of_lt bd (by decide)) (Nat.lt_of_le_of_lt K.v (Nat.lt_trans hv (by decide))) ls l20 with H';rintro⟨s,R'⟩
  refine⟨_,H',st.dec l,B,_,(by unfold waS;exists l90,ls,l20,c11,hh,c2,s),N.up 89 _ rfl rfl rfl rfl rfl,qAX,R',⟨K.I.dec hm h1.2,K.fa,K.tm,rfl,Nat.le_trans K.t (Nat.le_add_right _ _),Nat.le_trans K.n (Nat.le_add_right _ _),?_⟩,.inr ⟨[l.1],rfl,(show 1<=3 by decide),f0.symm▸j.dec⟩⟩
  show(st.lv++[st.tr.length]).length<=v+1
  rw[List.length_append];exact Nat.succ_le_succ K.v
 have e1:Ev (d+10) ρ H 40 (.band [(.cmp .eq (.var 90) (.lit (.int 1))),(.cmp .eq (.callM (.var 79) 36 [(.var 20)]) (.lit (.int 0)))]) (.bool false) H:=by
  by_cases q:way=1
  .rw [decide_eq_true q]at c11
   rw[decide_eq_false fun z=>h1 ⟨q,z⟩]at c2
   exists l90,ls,l20,c11,hh,c2
  .rw [decide_eq_false q]at c11
   exists l90,c11
 by_cases h2:way=2/\0<st.lv.length
 .rw [decide_eq_true h2.1]at c12
  rw[decide_eq_true h2.2]at c3
  injection qPF (f:=16) d R K.I h2.2 (Nat.lt_of_le_of_lt K.v (Nat.lt_trans hv (by decide))) (Nat.lt_of_le_of_lt K.t (Nat.lt_of_lt_of_le (Nat.lt_add_of_pos_right (by decide)) ht)) ls lk with k H';rintro⟨s,R'⟩
  refine⟨_,H',_,B,.none,(by unfold waS;exists e1,l90,ls,c12,dp,c3,s),N,l89,R',⟨(K.I.sT _).pop k,rfl,K.tm,rfl,Nat.le_trans (Nat.succ_le_succ K.t) (Nat.add_le_add_left (show 1<=21 by decide) t),Nat.le_trans K.n (Nat.le_add_right _ _),?_⟩,.inl rfl⟩
  show(st.lv.take _).length<=v+1
  rw[List.length_take];exact Nat.le_trans (Nat.min_le_right _ _) (Nat.le_succ_of_le K.v)
 have e2:Ev (d+10) ρ H 40 (.band [(.cmp .eq (.var 90) (.lit (.int 2))),(.cmp .gt (.callM (.var 79) 96 []) (.lit (.int 0)))]) (.bool false) H:=by
  by_cases q:way=2
  .rw [decide_eq_true q]at c12
   rw[decide_eq_false fun z=>h2 ⟨q,z⟩]at c3
   exists l90,ls,c12,dp,c3
  .rw [decide_eq_false q]at c12
   exists l90,c12
 injection qPl d R K ht hn N l89 with ρ' H' st' B';rintro⟨s,N',k89,R',K'⟩
 exact⟨ρ',H',st',B',.none,(by unfold waS;exists e1,e2,s),N',k89,R',K'.le (Nat.le_refl _) (Nat.le_refl _) (Nat.le_succ v),.inl rfl⟩
end
end
section
section
variable{n m f:Nat}{st st':St}{H H0:AHeap}{B B':Bk}{pd:List Nat}{c:List Lit}{l:Lit}{b:Bool}{ρ:Rho}{v a:AV}
theorem qPk(d:Nat)(R:Rep st H)(I:Inv st B B.fr)(fa:st.fa=false)(tm:st.tm=none)(q:Ask st B a):∃B' b st' H',Cl (d+10) H 17 [.inst 0 7,.inst 1 1,a] (.bool b) H'/\Rep st' H'/\After st st' B' b:=by
 rcases q with rfl|⟨q,rfl,h3,j⟩
 .obtain ⟨B2,b2,st2,H2,_,c2,R2,tm2,y2,z2⟩:=qIQ (t0:=st.tr) d R I fa Ext.refl tm
  exact⟨B2,b2,st2,H2,c2,R2,qGd tm2 y2 z2⟩
 .obtain ⟨B2,b2,st2,H2,c2,R2,tm2,y2,z2⟩:=qKR (t0:=st.tr) d R I fa Ext.refl tm h3 j
  exact⟨B2,b2,st2,H2,c2,R2,qGd tm2 y2 z2⟩
theorem qMT(I:Inv st B pd)(j:JJ st B pd (fun _=>False) (fun _=>False))(e:rest st'=(st.cs,st.tr,st.D,st.bk false,[],false,st.tm)):Inv st' B pd/\JJ st' B pd (fun _=>False) (fun _=>False)/\st'.fa=false/\st'.tm=st.tm/\st'.nw=[]/\st'.cs=st.cs:=by
 obtain⟨t,D,tr,lv,nw,fa,cl,cs,bk,bb,tm⟩:=st'
 obtain⟨rfl,e⟩:=Prod.mk.inj e
 obtain⟨rfl,e⟩:=Prod.mk.inj e
 obtain⟨rfl,e⟩:=Prod.mk.inj e
 obtain⟨e1,e⟩:=Prod.mk.inj e
 obtain⟨rfl,e⟩:=Prod.mk.inj e
 obtain⟨rfl,rfl⟩:=Prod.mk.inj e
 exact⟨⟨e1.trans I.hb,I.len,I.l9,I.perm,I.okc,I.un,I.unl,I.pdl,I.W,I.hw,I.V,I.D,.nil⟩,j,rfl,rfl,rfl,rfl⟩
noncomputable def laB:List CS:=[(.asg (.name 90) (.ite (.cmp .eq (.var 75) (.lit (.int 0))) (.lit (.int 0)) (.callF 31 [(.var 69),(.lit (.int 3))]))),
  (.asg (.name 20) (.ite (.cmp .eq (.var 90) (.lit (.int 1))) (.callF 32 [(.var 69)]) (.tup [(.lit (.int 0)),(.lit (.str 8)),(.lit (.int 4))]))),
  waS,
  (.asg (.name 53) (.bi .len false [(.attr (.var 79) 27)])),
  (.asg (.name 80) (.callM (.var 83) 93 [(.var 79),(.var 89)])),
  (.ife (.not (.callF 40 [(.var 79),(.var 58),(.var 30),(.var 53),(.var 80)])) [(.ret (some (.lit (.bool false))))] []),
  (.whl agE agB),
  (.ife (.bor [(.not (.var 80)),(.not (.callF 42 [(.var 69),(.var 79),(.var 58)]))]) [(.ret (some (.not (.var 80))))] []),
  (.asg (.name 89) (.lit .none))]
theorem Kp.sT{t n v t':Nat}(K:Kp st B t n v)(h:t'<=t):Kp (st.sT t') B t n v:=⟨K.I.sT _,K.fa,K.tm,K.nw,h,K.n,K.v⟩
theorem qPP(d:Nat){t n v k:Nat}(R:Rep st H)(K:Kp st B t n v)(f0:B.fr=[])(j:JJ st B [] (fun _=>False) (fun _=>False))(ht:t+35<=600)(hn:n+2<100)(hv:v<90)(N:Nm ρ)(l89:ρ.lookup 89=some .none) :
  (∃ρ' H' st' B',Ss (d+10) 19 (upd 75 (.int k) ρ) H laB .next ρ' H'/\Nm ρ'/\ρ'.lookup 89=some .none/\Rep st' H'/\Kp st' B' (t+35) (n+2) (v+1)/\B'.fr=[]/\JJ st' B' [] (fun _=>False) (fun _=>False)) \/
   ∃ρ' H',Ss (d+10) 19 (upd 75 (.int k) ρ) H laB (.ret (.bool true)) ρ' H':=by
 delta st H B ρ d t n v k at R K f0 j ht hn hv N l89
 have N:=N.up 75 (.int k) rfl rfl rfl rfl rfl
 have l89:(upd 75 (.int (k:Int)) ρ).lookup 89=some .none:=(qAA rfl).trans l89
 have l75:(upd 75 (.int (k:Int)) ρ).lookup 75=some (.int k):=qAX
 generalize upd 75 (.int (k:Int)) ρ=ρ at N l89 l75 ⊢
 have K:Kp (st.sT st.t) B t n v:=K
 have e1:∃way t1 H1,Ev (d+10) ρ H 40 (.ite (.cmp .eq (.var 75) (.lit (.int 0))) (.lit (.int 0)) (.callF 31 [(.var 69),(.lit (.int 3))])) (.int (way:Nat)) H1/\way<3/\Rep (st.sT t1) H1/\t1<=t+1:=by
  have lk:=N.k
  have c:cmpAV .eq (.int (k:Int)) (.int 0) H=some (decide (k=0)):=congrArg some (decide_eq_decide.mpr Int.ofNat_inj)
  by_cases q:k=0
  .rw [decide_eq_true q]at c
   exact⟨0,st.t,H,(by exists l75,c),by decide,R,Nat.le_succ_of_le K.t⟩
  .rw [decide_eq_false q]at c
   obtain⟨H1,c1,R1⟩:=qEP (d+9) R 3 (Nat.lt_of_le_of_lt K.t (Nat.lt_of_lt_of_le (Nat.lt_add_of_pos_right (by decide)) ht)) (by decide)
   exact⟨_,_,H1,(by exists l75,c,lk,c1),qC2 (m:=3) st.t (by decide),R1,Nat.succ_le_succ K.t⟩
 injection e1 with way t1 H1;rintro⟨e1,hw,R1,h1⟩
 have N1:=N.up 90 (.int (way:Int)) rfl rfl rfl rfl rfl
 have k89:(upd 90 (.int (way:Int)) ρ).lookup 89=some .none:=(qAA rfl).trans l89
 have l90:(upd 90 (.int (way:Int)) ρ).lookup 90=some (.int way):=qAX
 have e2:∃l t2 H2,Ev (d+10) (upd 90 (.int (way:Int)) ρ) H1 40 (.ite (.cmp .eq (.var 90) (.lit (.int 1))) (.callF 32 [(.var 69)]) (.tup [(.lit (.int 0)),(.lit (.str 8)),(.lit (.int 4))])) (lav l) H2/\mid l/\Rep (st.sT t2) H2/\t2<=t+4:=by
  have lk:=N1.k
  have c:cmpAV .eq (.int (way:Int)) (.int 1) H1=some (decide (way=1)):=congrArg some (decide_eq_decide.mpr Int.ofNat_inj)
  by_cases q:way=1
  .rw [decide_eq_true q]at c
   obtain⟨l,H2,hm,c1,R2⟩:=qNY (d+8) R1 (Nat.le_trans (Nat.add_le_add_right h1 3) (Nat.le_trans (Nat.add_le_add_left (show 4<=35 by decide) t) ht))
   exact⟨l,_,H2,(by exists l90,c,lk,c1),hm,R2,Nat.add_le_add_right h1 3⟩
  .rw [decide_eq_false q]at c
   have e:lav (0,1,5)=.tup [.int 0,.str 8,.int 4]:=rfl
   exact⟨(0,1,5),t1,H1,(by rw[e];exists l90,c),rfl,R1,Nat.le_trans h1 (Nat.add_le_add_left (by decide) t)⟩
 injection e2 with l t2 H2;rintro⟨e2,hm,R2,h2⟩
 have K2:Kp (st.sT t2) B (t+4) n v:=⟨K.I.sT _,K.fa,K.tm,K.nw,h2,K.n,K.v⟩
 injection qOw (ρ:=upd 20 (lav l) (upd 90 (.int (way:Int)) ρ)) d R2 K2 f0 j (Nat.le_trans (Nat.add_le_add_left (show 25<=35 by decide) t) ht) hn (Nat.lt_trans hv (by decide)) hw hm (N1.up 20 _ rfl rfl rfl rfl rfl) ((qAA rfl).trans k89) ((qAA rfl).trans l90) qAX with ρ3 H3 st3 B3 a;rintro⟨s3,N3,a3,R3,K3,q3⟩
 injection qPk d R3 K3.I K3.fa K3.tm q3 with B4 b4 st4 H4;rintro⟨c4,R4,A4⟩
 have en:=A4.entries (d+6) R4
 have ln:=qBD R3
 have nb:qAo 7 93 H3=true:=R3.nb K3.I.hb rfl fun _ _=>rfl
 have lv4:st4.lv=st3.lv:=(Prod.mk.inj (Prod.mk.inj A4.co).2).1
 have tt4:st4.t=st3.t:=(Prod.mk.inj (Prod.mk.inj (Prod.mk.inj A4.co).2).2).1
 have cs4:st4.cs=st3.cs:=congrArg Prod.fst A4.co
 injection qNF (ρ:=upd 80 (.bool b4) (upd 53 (.int st3.tr.length) ρ3)) d 1000 R4 A4.I A4.tm A4.yes (by rw[lv4];exact Nat.lt_of_le_of_lt K3.v (Nat.lt_trans (Nat.succ_lt_succ hv) (by decide))) (Nat.le_refl _) ((N3.up 53 _ rfl rfl rfl rfl rfl).up 80 _ rfl rfl rfl rfl rfl) qAX with ρ5 H5 st5 B5 b5;rintro⟨w5,N5,l80,R5,I5,tm5,cs5,t5,lv5,y5⟩
 obtain⟨lk,ls,lb,lf,lc⟩:=N3
 have s12:Ss (d+10) 19 ρ H (laB.take 2) .next (upd 20 (lav l) (upd 90 (.int (way:Int)) ρ)) H2:=by exists e1,e2
 have ks:=N5.s
 have kf:=N5.f
 have kk:=N5.k
 cases b5 with
 |false=>exact .inr ⟨_,H5,qBw 2 s12 (qBw 1 s3 (by exists ls,lb,lf,lc,a3,ln,nb,c4,en,w5,l80))⟩
 |true =>
  obtain⟨f5,fa5,u5,j5⟩:=y5 rfl
  have I5:Inv st5 B5 []:=f5▸I5
  have tb:st5.t+10<=600:=by rw[t5,tt4];exact Nat.le_trans (Nat.add_le_add_right K3.t 10) ht
  injection qKU (d+1) R5 I5 tb (Nat.lt_of_le_of_lt (Nat.le_trans lv5 (lv4▸K3.v)) (Nat.lt_trans (Nat.succ_lt_succ hv) (by decide)))with H6 st6;rintro⟨c6,R6,t6,lv6,e6⟩
  have S:=qMT I5 j5 e6
  refine .inl ⟨_,H6,st6,B5,qBw 2 s12 (qBw 1 s3 (by exists ls,lb,lf,lc,a3,ln,nb,c4,en,w5,l80,kk,ks,kf,c6)),N5.up 89 _ rfl rfl rfl rfl rfl,qAX,R6,⟨f5.symm▸S.1,S.2.2.1,S.2.2.2.1.trans tm5,S.2.2.2.2.1,?_,?_,?_⟩,f5,S.2.1⟩
  .rw [t5,tt4]at t6;exact Nat.le_trans t6 (Nat.add_le_add_right K3.t 10)
  .rw [S.2.2.2.2.2,cs5,cs4];exact K3.n
  .rw [lv6];exact Nat.le_trans lv5 (lv4▸K3.v)
end
end
section
noncomputable def hp(t:Nat)(L:List Dm):AHeap:=[kegC t,.ns (stF 5 6 false []),.list (L.map dom),.list (L.map dom),.list [],.list [],.dictI [],.ns (bkF 7 10),.list [],.list [],.list [],.dictI [],.list (L.map lot),.list []]
noncomputable def B0:Bk:=⟨[],fun _=>0,[],[],[],fun _=>[]⟩
noncomputable def st0:St:=⟨3,FC,[],[],[],false,[],[],fun k=>bif k then none else some B0,0,none⟩
section
variable{ρ:Rho}{H:AHeap}
theorem qNw:Rep st0 (hp 3 (l3 FC)):=by
 refine⟨⟨5,6,fun _=>10,fun _ _=>0⟩,fun s ob e=>?_,fun s s' i j q=>?_⟩
 .cases s with
  |bk k i=>cases k<;>cases i<;>first|(cases e;rfl)|cases e
  |_=>first|(cases e;rfl)|cases e
 .have inv:∀s,(obj st0 ⟨5,6,fun _=>10,fun _ _=>0⟩ s).isSome->(match adr st0 ⟨5,6,fun _=>10,fun _ _=>0⟩ s with | 0=>Sl.keg | 1=>.sns | 2=>.dms | 3=>.fst | 4=>.trl | 5=>.mks | 6=>.nws | 7=>.bk false .ns | 8=>.bk false .cl | 9=>.bk false .un | 10=>.bk false .fr | 11=>.bk false .wt | 12=>.flo|_=>.cls)=s:=fun s i=>by
   cases s with
   |bk k b=>cases k<;>cases b<;>first|rfl|cases i
   |_=>first|rfl|cases i
  rw[<-inv s i,<-inv s' j,q]
theorem qP2:Kp st0 B0 3 0 0:=by
 refine⟨⟨rfl,rfl,by decide,fun n r h=>?_,fun c h=>qA5 h,fun n c h=>?_,⟨fun n h=>qA5 h,Nat.le_refl _⟩,⟨.nil,fun n h=>qA5 h⟩,⟨fun x n h=>qA5 h,fun _ _=>rfl,fun _=>.nil,.nil,fun n h=>?_⟩,fun n r _ h=>?_,trivial,rfl,.nil⟩,rfl,rfl,rfl,Nat.le_refl _,Nat.le_refl _,Nat.le_refl _⟩
 .cases h
 .cases h
 .obtain ⟨_,c,h,_⟩:=h;cases h
 .cases h
theorem qP3:JJ st0 B0 [] (fun _=>False) (fun _=>False):=fun n r _ h=>by cases h
noncomputable def inB:List CS:=[(.asg (.name 90) (.callF 31 [(.var 69),(.lit (.int 4))])),
  (.expr (.callM (.var 58) 0 [(.sub (.tup [(.lst false [(.lit (.int 0)),(.lit (.int 1)),(.lit (.int 2)),(.lit (.int 3))]),(.lst false [(.lit (.int 0)),(.lit (.int 1)),(.lit (.int 3))]),(.lst false [(.lit (.int 1)),(.lit (.int 2)),(.lit (.int 3))]),(.lst false [(.lit (.int 0)),(.lit (.int 2)),(.lit (.int 3)),(.lit (.int 4))])]) (.var 90))])),
  (.expr (.callM (.var 79) 92 [(.sub (.tup [(.tup [(.tup [(.lit (.int 0)),(.lit (.int 3))])]),(.tup [(.tup [(.lit (.int 0)),(.lit (.int 1))]),(.tup [(.lit (.int 3)),(.lit (.int 3))])]),(.tup [(.tup [(.lit (.int 1)),(.lit (.int 3))])]),(.tup [(.tup [(.lit (.int 0)),(.lit (.int 0))]),(.tup [(.lit (.int 2)),(.lit (.int 4))])])]) (.var 90))]))]
theorem qN2{n:Nat}:qB4 n≠0:=by unfold qB4;split<;>decide
theorem qJl(d:Nat){t:Nat}{L:List Dm}{x:AV}(ht:t<600)(hL:L.length<3)(l69:ρ.lookup 69=some (.ref 0))(l58:ρ.lookup 58=some (.ref 12))(l79:ρ.lookup 79=some (.inst 1 1)) :
  Ss (d+10) 19 (upd 21 x ρ) (hp t L) inB .next (upd 90 (.int (tapV t 4)) (upd 21 x ρ)) (hp (t+1) (L++[qB4 (tapV t 4)])):=by
 have c1:Cl (d+10) (hp t L) 31 [.ref 0,.int 4] (.int (tapV t 4)) (hp (t+1) L):=qJs (d+9) (H:=hp t L) (t:=t) rfl 4 ht (by decide)
 have hv:=qC2 (m:=4) t (by decide)
 generalize tapV t 4=w at c1 hv
 have lt9:∀{α:Type} (f:Dm->α),(L.map f).length<900000:=fun f=>by rw[List.length_map];exact Nat.lt_trans hL (by decide)
 have s1:subAV (.tup [.lst [.int 0,.int 1,.int 2,.int 3],.lst [.int 0,.int 1,.int 3],.lst [.int 1,.int 2,.int 3],.lst [.int 0,.int 2,.int 3,.int 4]]) (.int w) (hp (t+1) L)=some (lot (qB4 w)):=by
  match w,hv with
  | 0,_=>rfl
  | 1,_=>rfl
  | 2,_=>rfl
  | 3,_=>rfl
 have s2:∀H,subAV (.tup [.tup [.tup [.int 0,.int 3]],.tup [.tup [.int 0,.int 1],.tup [.int 3,.int 3]],.tup [.tup [.int 1,.int 3]],.tup [.tup [.int 0,.int 0],.tup [.int 2,.int 4]]]) (.int w) H=some (dom (qB4 w)):=fun H=>by
  match w,hv with
  | 0,_=>rfl
  | 1,_=>rfl
  | 2,_=>rfl
  | 3,_=>rfl
 have z:=qN2 (n:=w)
 generalize qB4 w=S at s1 s2 z ⊢
 have e:∀{α:Type} (f:Dm->α),L.map f++[f S]=(L++[S]).map f:=fun f=>by rw[List.map_append];rfl
 have a1:=qAs (H:=hp (t+1) L) (i:=12) (v:=lot S) rfl (lt9 lot)
 rw[e]at a1
 generalize hH1:(hp (t+1) L).set 12 (.list ((L++[S]).map lot))=H1 at a1
 have a2:=qAs (H:=H1) (i:=2) (l:=L.map dom) (v:=dom S) (by rw[<-hH1];rfl) (lt9 dom)
 rw[e]at a2
 generalize hH2:H1.set 2 (.list ((L++[S]).map dom))=H2 at a2
 have a3:=qAs (H:=H2) (i:=3) (l:=L.map dom) (v:=dom S) (by rw[<-hH2,<-hH1];rfl) (lt9 dom)
 rw[e]at a3
 have eH:H2.set 3 (.list ((L++[S]).map dom))=hp (t+1) (L++[S]):=by rw[<-hH2,<-hH1];rfl
 rw[eH]at a3
 have k1:qBZ (hp (t+1) L) 12 0=true:=rfl
 have n1:qAo 1 92 H1=true:=by rw[<-hH1];rfl
 have g57:qAB PP (.inst 1 1) 57 H1=some (.ref 2):=by rw[<-hH1];rfl
 have k2:qBZ H1 2 0=true:=by rw[<-hH1];rfl
 have g58:qAB PP (.inst 1 1) 58 H2=some (.ref 3):=by rw[<-hH2,<-hH1];rfl
 have k3:qBZ H2 3 0=true:=by rw[<-hH2,<-hH1];rfl
 have g57':qAB PP (.inst 1 1) 57 (hp (t+1) (L++[S]))=some (.ref 2):=rfl
 have ln:biAV .len false [.ref 2] (hp (t+1) (L++[S]))=some (.int ((L++[S]).map dom).length,hp (t+1) (L++[S])):=qBo rfl
 have nv:Cl (d+10) H1 19 [.inst 1 1,dom S] (.int ((((L++[S]).map dom).length:Int)-1)) (hp (t+1) (L++[S])):=C_imp (fn:=fn19) rfl rfl rfl (by exists g57,k2,a2,g58,k3,a3,c_0f z,g57',ln) rfl
 unfold inB
 exists l69,l58,l79,c1,s1,k1,a1,n1,s2 H1,nv
end
end
section
section
variable{ρ:Rho}{H:AHeap}
theorem qIG:∀is:List Int,∃s,qC3 (is.map .int)=some s
 |[]=>⟨0,rfl⟩
 |i::is=>(qIG is).elim fun s h=>⟨i+s,by show(qC3 (is.map .int)).map _=_;rw[h];rfl⟩
theorem qKG(is:List Int):qAW (is.map AV.int) none (some 60)=(is.take 60).map .int:=by
 unfold qAW
 dsimp only
 rw[List.drop_zero,qGT (by decide),<-List.map_take,List.length_map]
 exact congrArg (List.map AV.int) List.take_eq_take_min.symm
theorem qEa{d n:Nat}{k e:CE}{ks es:List CE}{u v:AV}{H1 H2 H3:AHeap}{vs:List (AV×AV)}(h1:Ev d ρ H n k u H1)(h2:Ev d ρ H1 n e v H2)(h3:qAz (evE PP (callF PP d) n) ks es ρ H2=some (vs,H3)):qAz (evE PP (callF PP d) n) (k::ks) (e::es) ρ H=some ((u,v)::vs,H3):=by
 delta Ev at *
 rw[qOc,h1,qA8,h2,qA8,h3];rfl
theorem hd_ev(d:Nat)(H0:AHeap)(h0:H0=[]):Ev (d+1) [(88,.lst (isC.map .int)),(72,.lst (rowC.map .int))] H0 39 (.dct [(.lit (.str 71)),(.lit (.str 72)),(.lit (.str 73))] [(.lit (.int 0)),(.var 72),(.bin .mod false (.bi .sum false [(.var 72)]) (.lit (.int 997)))]) (.ref 0) [kegC 0]:=by
 subst h0
 obtain⟨s,hs⟩:=qIG rowC
 have sm:biAV .sum false [.lst (rowC.map .int)] []=some (.int s,[]):=by
  show(qC3 (rowC.map .int)).map _=_
  rw[hs];rfl
 have md:binAV .mod (.int s) (.int 997)=some (.int allC):=by
  delta allC
  rw[qGZ (by decide),hs];rfl
 have ev:Ev (d+1) [(88,.lst (isC.map .int)),(72,.lst (rowC.map .int))] [] 38 (.bin .mod false (.bi .sum false [(.var 72)]) (.lit (.int 997))) (.int allC) []:=by exists sm,md
 have p3:=qEa (k:=.lit (.str 73)) (E_lit (n:=37)) ev (es:=[]) (ks:=[]) rfl
 have p2:=qEa (k:=.lit (.str 72)) (e:=.var 72) (v:=.lst (rowC.map .int)) (E_lit (n:=37)) (E_var rfl) p3
 have p1:=qEa (k:=.lit (.str 71)) (e:=.lit (.int 0)) (E_lit (n:=37)) (E_lit (n:=37)) p2
 delta Ev
 rw[e_dct,p1];rfl
theorem qMG(d:Nat)(k:AObj):Cl (d+1) [k,.ns []] 18 [.inst 1 1] .none [k,.ns (stF 5 6 false []),.list [],.list [],.list [],.list [],.dictI []]:=Cl_of (by kernel_rfl)
theorem qNs:[qB4 (tapV 0 4),qB4 (tapV 1 4),qB4 (tapV 2 4)]=l3 FC:=by
 show _=[FC 0,FC 1,FC 2]
 delta FC;rfl
theorem qOP:LawAt isC:=by
 intro _
 have lc:Lc 13 39 (.bin .mod false (.bi .int false [(.var 91)]) (.lit (.int 1000003))) (.name 91) [] [] none [(88,.lst (isC.map .int))] [] ((isC.take 60).map .int) (rowC.map .int) []:=by
  unfold rowC rowOf
  rw[List.map_map]
  exact qBy _ fun i _ ρ' h1 _=>by
   have b1:∀H,biAV .int false [.int i] H=some (.int i,H):=fun _=>rfl
   have b2:binAV .mod (.int i) (.int 1000003)=some (.int (i % 1000003)):=qGZ (by decide)
   exists h1,b1 [],b2
 have sl:=qKG isC
 have e2:=hd_ev 12 [] rfl
 have en1:Ev 13 [(88,.lst (isC.map .int)),(72,.lst (rowC.map .int))] [kegC 0] 39 (.new 1) (.inst 1 1) [kegC 0,.ns (stF 5 6 false []),.list [],.list [],.list [],.list [],.dictI []]:=E_new (H:=[kegC 0]) rfl (qMG 12 (kegC 0))
 have en0:Ev 13 [(88,.lst (isC.map .int)),(72,.lst (rowC.map .int))] [kegC 0,.ns (stF 5 6 false []),.list [],.list [],.list [],.list [],.dictI []] 39 (.new 0) (.inst 0 7) [kegC 0,.ns (stF 5 6 false []),.list [],.list [],.list [],.list [],.dictI [],.ns (bkF 7 10),.list [],.list [],.list [],.dictI []]:=E_new (H:=[kegC 0,.ns (stF 5 6 false []),.list [],.list [],.list [],.list [],.dictI []]) rfl (qLm 12 [kegC 0,.ns (stF 5 6 false []),.list [],.list [],.list [],.list [],.dictI []])
 have e3:Ev 13 [(88,.lst (isC.map .int)),(72,.lst (rowC.map .int)),(69,.ref 0),(79,.inst 1 1),(83,.inst 0 7)] [kegC 0,.ns (stF 5 6 false []),.list [],.list [],.list [],.list [],.dictI [],.ns (bkF 7 10),.list [],.list [],.list [],.dictI []] 40 (.tup [(.lst true []),(.lst true [])]) (.tup [.ref 12,.ref 13]) (hp 0 []):=E_tup (qGf (qNq qHX) (qGf (qNq qHX) qHX))
 have v0:=qJl (ρ:=[(88,.lst (isC.map .int)),(72,.lst (rowC.map .int)),(69,.ref 0),(79,.inst 1 1),(83,.inst 0 7),(58,.ref 12),(30,.ref 13)]) 3 (t:=0) (L:=[]) (x:=.int 0) (by decide) (by decide) rfl rfl rfl
 have v1:=qJl (ρ:=[(88,.lst (isC.map .int)),(72,.lst (rowC.map .int)),(69,.ref 0),(79,.inst 1 1),(83,.inst 0 7),(58,.ref 12),(30,.ref 13),(21,.int 0),(90,.int (tapV 0 4))]) 3 (t:=1) (L:=[qB4 (tapV 0 4)]) (x:=.int 1) (by decide) (show 1<3 by decide) rfl rfl rfl
 have v2:=qJl (ρ:=[(88,.lst (isC.map .int)),(72,.lst (rowC.map .int)),(69,.ref 0),(79,.inst 1 1),(83,.inst 0 7),(58,.ref 12),(30,.ref 13),(21,.int 1),(90,.int (tapV 1 4))]) 3 (t:=2) (L:=[qB4 (tapV 0 4),qB4 (tapV 1 4)]) (x:=.int 2) (by decide) (show 2<3 by decide) rfl rfl rfl
 have w4:Lf 13 19 (.name 21) inB (hp 0 []) none [(88,.lst (isC.map .int)),(72,.lst (rowC.map .int)),(69,.ref 0),(79,.inst 1 1),(83,.inst 0 7),(58,.ref 12),(30,.ref 13)] (hp 0 []) [.int 0,.int 1,.int 2] .next _ (hp 3 [qB4 (tapV 0 4),qB4 (tapV 1 4),qB4 (tapV 2 4)]):=qCG rfl rfl v0 (qCG rfl rfl v1 (qCG rfl rfl v2 (qIw rfl)))
 rw[qNs]at w4
 have r3:biAV .range false [.int 3] (hp 0 [])=some (.rng 0 3,hp 0 []):=rfl
 have i3:iterE false (hp 0 []) (.rng 0 3)=some ([.int 0,.int 1,.int 2],none):=rfl
 have r5:biAV .range false [.int 5] (hp 3 (l3 FC))=some (.rng 0 5,hp 3 (l3 FC)):=rfl
 have i5:iterE false (hp 3 (l3 FC)) (.rng 0 5)=some ((List.range 5).map fun(k:Nat)=>AV.int (k:Int),none):=rfl
 have fin:∃ρ' H',Ss 13 20 [(88,.lst (isC.map .int)),(72,.lst (rowC.map .int)),(69,.ref 0),(79,.inst 1 1),(83,.inst 0 7),(58,.ref 12),(30,.ref 13),(21,.int 2),(90,.int (tapV 2 4)),(89,.none)] (hp 3 (l3 FC)) (fn43.body.drop 5) (.ret (.bool true)) ρ' H':=by
  rcases qD7 (d:=13) (n:=19) (v:=75) (body:=laB) (H0:=hp 3 (l3 FC)) (src:=none) (e:=fun k:Nat=>.int (k:Int)) (I:=fun us ρ H'=>Nm ρ/\ρ.lookup 89=some .none/\∃st B t n v,Rep st H'/\Kp st B t n v/\B.fr=[]/\JJ st B [] (fun _=>False) (fun _=>False)/\t+35*us.length<=178/\n+2*us.length<=10/\v+us.length<=5) (Q:=fun u H'=>u=.bool true)
   (fun _ _ _ _=>rfl) (fun k us ρ H' h=>by
    obtain⟨N,l89,st,B,t,n,v,R,K,f0,j,h1,h2,h3⟩:=h
    rw[List.length_cons]at h1 h2 h3
    rcases qPP (k:=k) 3 R K f0 j (Nat.le_trans (Nat.le_trans (Nat.add_le_add_left (Nat.le_add_left 35 (35*us.length)) t) h1) (by decide)) (Nat.lt_of_le_of_lt (Nat.le_trans (Nat.add_le_add_left (Nat.le_add_left 2 (2*us.length)) n) h2) (by decide)) (Nat.lt_of_le_of_lt (Nat.le_trans (Nat.le_add_right v _) h3) (by decide)) N l89 with⟨ρ',H2,st2,B2,s,N2,k89,R2,K2,f2,j2⟩|⟨ρ',H2,s⟩
    .exact .inl ⟨ρ',H2,s,N2,k89,st2,B2,_,_,_,R2,K2,f2,j2,Nat.le_trans (Nat.le_of_eq (qCu t 35 us.length).symm) h1,Nat.le_trans (Nat.le_of_eq (qCu n 2 us.length).symm) h2,Nat.le_trans (Nat.le_of_eq (Nat.add_right_comm v 1 us.length)) h3⟩
    .exact .inr ⟨_,ρ',H2,s,rfl⟩)
   (List.range 5) [(88,.lst (isC.map .int)),(72,.lst (rowC.map .int)),(69,.ref 0),(79,.inst 1 1),(83,.inst 0 7),(58,.ref 12),(30,.ref 13),(21,.int 2),(90,.int (tapV 2 4)),(89,.none)] (hp 3 (l3 FC)) ⟨⟨rfl,rfl,rfl,rfl,rfl⟩,rfl,st0,B0,3,0,0,qNw,qP2,rfl,qP3,by decide,by decide,by decide⟩with⟨ρ',H',w,_⟩|⟨u,ρ',H',w,rfl⟩
  .exact ⟨ρ',H',S_for (E_bi (qGf E_lit qHX) r5) i5 w (qPq (S_ret E_lit))⟩
  .exact ⟨ρ',H',S_for (E_bi (qGf E_lit qHX) r5) i5 w K_ret⟩
 obtain⟨ρ',H',s⟩:=fin
 have hd:Ss 13 20 [(88,.lst (isC.map .int))] [] (fn43.body.take 5) .next [(88,.lst (isC.map .int)),(72,.lst (rowC.map .int)),(69,.ref 0),(79,.inst 1 1),(83,.inst 0 7),(58,.ref 12),(30,.ref 13),(21,.int 2),(90,.int (tapV 2 4)),(89,.none)] (hp 3 (l3 FC)):=by
  unfold inB at w4
  exists sl,lc,e2,en1,en0,e3,r3,i3,w4
 exact⟨H',(C_imp (fn:=fn43) rfl rfl rfl (qBw 5 hd s) rfl:Cl 14 [] 43 [.lst (isC.map .int)] (.bool true) H').out⟩
theorem qPR:isC=EE ⟨[]⟩ LawAt:=by delta isC;rfl
theorem qPO(is:List Int):LawAt is:=epsT (n:=⟨[]⟩) (Q:=LawAt) (qPR▸qOP) is
end
end
end Internal.L
end
theorem PySem.Challenge.cw_pc0041_01_holds : PySem.Challenge.rw_pc0041_01.Holds :=
  Internal.seal1 fun is h => Internal.L.qPO is h
