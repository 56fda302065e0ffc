import PyProof.Rows.All
import Wide.All
import OpenK.AllK
import Wide.FinOn
import PySem.Challenge.RW_pc0041_02
set_option Elab.async false
set_option maxHeartbeats 8000000
set_option linter.all false
set_option tactic.hygienic false
set_option hygiene false
set_option maxRecDepth 100000
section
open PySem PySem.W PyProof.Rows
namespace Mine.Internal
theorem qA3 {α:Type _}{a:α}{C:Prop} (h:none=some a):C:=by cases h
theorem qFV {α:Type _}{a:α}{C:Prop} (h:some a=none):C:=by cases h
theorem qA9 {α:Type _}{a:α}{C:Prop} (h:a ∈ ([]:List α)):C:=absurd h List.not_mem_nil
set_option genSizeOf false
inductive AV where
 | none
 | bool (b:Bool)
 | int (i:Int)
 | str (n:Nat)
 | tup (l:List AV)
 | lst (l:List AV)
 | ref (i:Nat)
 | inst (c:Nat) (i:Nat)
 | rng (a b:Int)
 | sset (l:List AV)
noncomputable def eqC {α:Type} (a b:α):Bool:=@decide (a=b) (Classical.propDecidable _)
theorem qDY {α:Type} (a b:α):eqC a b=true↔a=b:=@decide_eq_true_iff _ (Classical.propDecidable _)
noncomputable def bnd {α β γ:Type} (o:Option (α × β)) (f:α→β→Option γ):Option γ:=match o with
 | some (a,b)=>f a b
 | none=>none
theorem qA6 {α β γ:Type}{o:Option (α × β)}{f:α→β→Option γ}{c:γ} (h:bnd o f=some c):∃ a b,o=some (a,b)∧f a b=some c:=by
 cases o with
 | none=>exact qA3 h
 | some r=>exact ⟨r.1,r.2,rfl,h⟩
theorem qA0 {α β:Type}{x:Option α}{f:α→Option β}{y:β} (e:x.bind f=some y):∃ a,x=some a∧f a=some y:=by
 cases x with
 | none=>exact qA3 e
 | some a=>exact ⟨a,rfl,e⟩
theorem qA4 {α β:Type}{x:Option α}{f:α→β}{y:β} (e:x.map f=some y):∃ a,x=some a∧f a=y:=by
 cases x with
 | none=>exact qA3 e
 | some a=>exact ⟨a,rfl,Option.some.inj e⟩
theorem qAA {c:Prop} [Decidable c] {α:Type}{x:Option α}{y:α} (e:(if c then x else none)=some y):c∧x=some y:=by
 by_cases h:c
 ·exact ⟨h,(if_pos h).symm.trans e⟩
 ·exact nomatch (if_neg h).symm.trans e
theorem qA7 {α β:Type}{a a':α}{b b':β} (e:some (a,b)=some (a',b')):a=a'∧b=b':=⟨congrArg Prod.fst (Option.some.inj e),congrArg Prod.snd (Option.some.inj e)⟩
noncomputable def intOf:AV→Option Int | .int i=>some i | _=>none
noncomputable def qAY:AV→Option Bool | .bool b=>some b | _=>none
noncomputable def strOf:AV→Option Nat | .str b=>some b | _=>none
noncomputable def tupOf:AV→Option (List AV) | .tup l=>some l | _=>none
noncomputable def lstOf:AV→Option (List AV) | .lst l=>some l | _=>none
noncomputable def one {α:Type}:List α→Option α | a :: r=>(match r with | []=>some a | _=>none) | []=>none
noncomputable def two {α:Type}:List α→Option (α × α) | a :: r=>(one r).map fun b=>(a,b) | []=>none
noncomputable def three {α:Type}:List α→Option (α × α × α) | a :: r=>(two r).map fun b=>(a,b) | []=>none
theorem qAZ {a:AV}{i:Int} (e:intOf a=some i):a=.int i:=by
 cases a with
 | int=>exact congrArg _ (Option.some.inj e)
 | _=>exact qA3 e
theorem qAW {a:AV}{i:Bool} (e:qAY a=some i):a=.bool i:=by
 cases a with
 | bool=>exact congrArg _ (Option.some.inj e)
 | _=>exact qA3 e
theorem qBY {a:AV}{i:Nat} (e:strOf a=some i):a=.str i:=by
 cases a with
 | str=>exact congrArg _ (Option.some.inj e)
 | _=>exact qA3 e
theorem qAt {a:AV}{i:List AV} (e:tupOf a=some i):a=.tup i:=by
 cases a with
 | tup=>exact congrArg _ (Option.some.inj e)
 | _=>exact qA3 e
theorem qBc {a:AV}{i:List AV} (e:lstOf a=some i):a=.lst i:=by
 cases a with
 | lst=>exact congrArg _ (Option.some.inj e)
 | _=>exact qA3 e
theorem qBM {α:Type}{l:List α}{a:α} (e:one l=some a):l=[a]:=by
 cases l with
 | nil=>exact qA3 e
 | cons b r=>cases r with
  | nil=>exact congrArg (fun x=>[x]) (Option.some.inj e)
  | cons=>exact qA3 e
theorem qFR {α:Type}{l:List α}{p:α × α} (e:two l=some p):l=[p.1,p.2]:=by
 cases l with
 | nil=>exact qA3 e
 | cons b r =>
  obtain ⟨c,h,q⟩:=qA4 e
  rw [qBM h,← q]
theorem qII {α:Type}{l:List α}{p:α × α × α} (e:three l=some p):l=[p.1,p.2.1,p.2.2]:=by
 cases l with
 | nil=>exact qA3 e
 | cons b r =>
  obtain ⟨c,h,q⟩:=qA4 e
  rw [qFR h,← q]
theorem qCK {α:Type}{o:Option α}{p:α→Bool} (h:o.any p=true):∃ a,o=some a∧p a=true:=by
 cases o with
 | none=>exact nomatch h
 | some a=>exact ⟨a,rfl,h⟩
noncomputable def eqL (f:AV→AV→Bool):List AV→List AV→Bool
 | [],m=>m.isEmpty
 | a :: l,m=>(match m with | b :: m=>f a b && eqL f l m | []=>false)
noncomputable def eqB:Nat→AV→AV→Bool
 | 0,a,b=>eqC a b
 | n + 1,a,b=>match a with
  | .int x=>(intOf b).any fun y=>decide (x=y)
  | .str x=>(strOf b).any fun y=>decide (x=y)
  | .tup l=>(tupOf b).any (eqL (eqB n) l)
  | .lst l=>(lstOf b).any (eqL (eqB n) l)
  | a=>eqC a b
theorem qFt {f:AV→AV→Bool} (hf:∀ a b,f a b=true↔a=b):∀ l m:List AV,eqL f l m=true↔l=m
 | [],[]=>⟨fun _=>rfl,fun _=>rfl⟩
 | [],_ :: _=>⟨fun h=>(nomatch h),fun h=>(nomatch h)⟩
 | _ :: _,[]=>⟨fun h=>(nomatch h),fun h=>(nomatch h)⟩
 | a :: l,b :: m=>Bool.and_eq_true_iff.trans ⟨fun h=>congr (congrArg List.cons ((hf a b).mp h.1)) ((qFt hf l m).mp h.2),fun h=>⟨(hf a b).mpr (List.cons.inj h).1,(qFt hf l m).mpr (List.cons.inj h).2⟩⟩
theorem qFu {α:Type}{g:AV→Option α}{c:α→AV}{f:α→α→Bool} (h1:∀ {b y},g b=some y→b=c y) (h2:∀ y,g (c y)=some y) (hf:∀ x y,f x y=true↔x=y) (x:α) (b:AV):(g b).any (f x)=true↔c x=b:=by
 refine ⟨fun h=>?_,fun h=>?_⟩
 ·obtain ⟨y,e,h⟩:=qCK h
  rw [h1 e,(hf x y).mp h]
 ·rw [← h,h2]; exact (hf x x).mpr rfl
theorem qHT:∀ (n:Nat) (a b:AV),eqB n a b=true↔a=b
 | 0,a,b=>qDY a b
 | n + 1,a,b=>by
  cases a with
  | int x=>exact qFu qAZ (fun _=>rfl) (fun _ _=>decide_eq_true_iff) x b
  | str x=>exact qFu qBY (fun _=>rfl) (fun _ _=>decide_eq_true_iff) x b
  | tup l=>exact qFu qAt (fun _=>rfl) (qFt (qHT n)) l b
  | lst l=>exact qFu qBc (fun _=>rfl) (qFt (qHT n)) l b
  | _=>exact qDY _ b
noncomputable def AV.beq (a b:AV):Bool:=eqB 8 a b
theorem AV.beq_iff (a b:AV):a.beq b=true↔a=b:=qHT 8 a b
noncomputable def hasAV (x:AV):List AV→Bool
 | []=>false
 | y :: r=>y.beq x || hasAV x r
noncomputable def qBT (x:AV):List AV→List AV
 | []=>[]
 | y :: r=>if y.beq x then r else y :: qBT x r
inductive AObj where
 | list (l:List AV)
 | dictI (kvs:List (Int × AV))
 | dictS (kvs:List (Nat × AV))
 | ns (fs:List (Nat × AV))
noncomputable def qEM (a b:List AObj):Bool:=eqC a b
theorem qEL (a b):qEM a b=true↔a=b:=qDY a b
noncomputable def qLy (a b:Option AObj):Bool:=eqC a b
theorem qEz (a b):qLy a b=true↔a=b:=qDY a b
abbrev AHeap:=List AObj
abbrev Rho:=List (Nat × AV)
inductive BOp where | add | sub | mul | div | mod
inductive COp where | eq | ne | lt | le | gt | ge | isNone | notNone | inn | notIn
inductive BI where | len | tuple | list | range | sorted | set | int | sum | max | min
mutual
inductive CE where
 | lit (v:AV)
 | var (x:Nat)
 | bin (op:BOp) (trk:Bool) (a b:CE)
 | neg (a:CE)
 | not (a:CE)
 | cmp (op:COp) (a b:CE)
 | band (es:List CE)
 | bor (es:List CE)
 | ite (t a b:CE)
 | tup (es:List CE)
 | lst (trk:Bool) (es:List CE)
 | dct (ks vs:List CE)
 | comp (trk en:Bool) (elt:CE) (tgt:CT) (iter:CE) (ifs:List CE)
 | callF (f:Nat) (es:List CE)
 | callM (o:CE) (m:Nat) (es:List CE)
 | bi (b:BI) (trk:Bool) (es:List CE)
 | new (c:Nat)
 | attr (o:CE) (a:Nat)
 | sub (o i:CE)
 | slice (trk:Bool) (o:CE) (lo hi:Option CE)
inductive CT where
 | name (x:Nat)
 | tup (ts:List CT)
 | attr (o:CE) (a:Nat)
 | sub (o i:CE)
end
inductive CS where
 | ret (e:Option CE)
 | expr (e:CE)
 | asg (t:CT) (e:CE)
 | ife (t:CE) (a b:List CS)
 | for (en:Bool) (t:CT) (it:CE) (body:List CS)
 | whl (t:CE) (body:List CS)
 | bad
structure FnC where
 params:List Nat
 dflt:Bool:=false      -- the last parameter has the default None
 pure:Bool
 body:List CS
structure Prog where
 fns:List (Nat × FnC)
 mts:List ((Nat × Nat) × Nat)
 attrs:List (Nat × Nat)
noncomputable def upd {κ α:Type} [DecidableEq κ] (k:κ) (v:α):List (κ × α)→List (κ × α)
 | []=>[(k,v)]
 | p :: r=>if p.1=k then (k,v) :: r else p :: upd k v r
mutual
noncomputable def AV.plain:AV→Bool
 | .none | .bool _ | .int _ | .str _=>true
 | .tup l=>qAO l
 | .lst l=>qAO l
 | _=>false
noncomputable def qAO:List AV→Bool
 | []=>true
 | v :: r=>v.plain && qAO r
end
noncomputable def qAM:Nat→AV→Bool
 | 0,a=>(match a with | .none | .int _ | .str _=>true | _=>false)
 | n + 1,a=>(match a with | .none | .int _ | .str _=>true | .tup l=>l.all (qAM n) | .lst l=>l.all (qAM n) | _=>false)
noncomputable def AV.clean (a:AV):Bool:=qAM 8 a
noncomputable def qGr (l:List AV):Bool:=l.all (qAM 7)
noncomputable def qAg (H:AHeap) (i:Nat):Option (List AV):=H[i]?.bind fun o=>match o with
 | .list l=>some l
 | _=>none
noncomputable def qCQ (H:AHeap):AV→Option AV
 | .ref i=>(qAg H i).map .lst
 | v=>some v
noncomputable def qKN (H:AHeap) (l:List AV):Option AV:=(l.mapM (qCQ H)).map .lst
noncomputable def qB4 (H:AHeap):AV→Option AV
 | .ref i=>(qAg H i).bind (qKN H)
 | .lst l=>qKN H l
 | v=>some v
noncomputable def eqAV (a b:AV):Option Bool:=match qAY a with
 | some x=>(qAY b).map fun y=>x == y
 | none=>if a.clean && b.clean then some (a.beq b) else none
noncomputable def lit3 (v:AV):Option (Int × Nat × Int):=((tupOf v).bind three).bind fun p=>(intOf p.1).bind fun i=>(strOf p.2.1).bind fun n=>(intOf p.2.2).map fun k=>(i,n,k)
noncomputable def rank (v:AV):Option (Int × Int × Nat × Int):=((tupOf v).bind two).bind fun p=>(intOf p.1).bind fun h=>(lit3 p.2).map fun q=>(h,q)
noncomputable def LtL (p q:Int × Nat × Int):Prop:=p.1 < q.1∨p.1=q.1∧(p.2.1 < q.2.1∨p.2.1=q.2.1∧p.2.2 < q.2.2)
instance (p q:Int × Nat × Int):Decidable (LtL p q):=inferInstanceAs (Decidable (_∨_))
noncomputable def ltKey (a b:AV):Bool:=match intOf a with
 | some x=>(intOf b).any fun y=>decide (x < y)
 | none=>match lit3 a with
  | some p=>(lit3 b).any fun q=>decide (LtL p q)
  | none=>(rank a).any fun p=>(rank b).any fun q=>decide (p.1 < q.1∨p.1=q.1∧LtL p.2 q.2)
noncomputable def isK1 (v:AV):Bool:=(intOf v).isSome
noncomputable def qJb (p:Int × Nat × Int):Bool:=decide (7 ≤ p.2.1) && decide (p.2.1 ≤ 10)
noncomputable def isK2 (v:AV):Bool:=(lit3 v).any qJb
noncomputable def isK3 (v:AV):Bool:=(rank v).any fun p=>qJb p.2
noncomputable def qAy (l:List AV):Bool:=l.all isK1 || l.all isK2 || l.all isK3
noncomputable def qBo (x:AV):List AV→List AV
 | []=>[x]
 | y :: r=>if ltKey y x then y :: qBo x r else x :: y :: r
noncomputable def qAf:List AV→List AV
 | []=>[]
 | x :: r=>qBo x (qAf r)
noncomputable def qEF:List AV→Bool
 | []=>true
 | x :: r=>!hasAV x r && qEF r
noncomputable def qAa (l:List AV):Option (List AV):=if qAy l && decide (l.length < 7) && qEF l then some (qAf l) else none
noncomputable def dedup:List AV→List AV
 | []=>[]
 | x :: r=>x :: (dedup r).filter (fun y=>!y.beq x)
noncomputable def alloc (H:AHeap) (o:AObj):AV × AHeap:=(.ref H.length,H ++ [o])
noncomputable def qAC (trk:Bool) (l:List AV) (H:AHeap):AV × AHeap:=if trk then alloc H (.list l) else (.lst l,H)
noncomputable def qAI (H:AHeap):AV→Option (List AV)
 | .lst l=>some l
 | .ref i=>qAg H i
 | _=>none
noncomputable def qAF (a b:Int):List AV:=(List.range (b - a).toNat).map fun (i:Nat)=>AV.int (a + (i:Int))
noncomputable def qBx:Nat→List AV→List AV
 | _,[]=>[]
 | n,x :: r=>.tup [.int n,x] :: qBx (n + 1) r
noncomputable def qGZ (H:AHeap):AV→Option (List AV × Option Nat)
 | .tup l=>some (l,none)
 | .lst l=>some (l,none)
 | .ref i=>(qAg H i).map fun l=>(l,some i)
 | .rng a b=>some (qAF a b,none)
 | _=>none
noncomputable def iterE (en:Bool) (H:AHeap) (v:AV):Option (List AV × Option Nat) :=
 if en then (qAI H v).bind fun _=>bnd (qGZ H v) fun l src=>some (qBx 0 l,src)
 else qGZ H v
noncomputable def qB9 (H0 H:AHeap):Option Nat→Bool
 | none=>true
 | some i=>qLy H[i]? H0[i]?
noncomputable def small (i:Int):Bool:=decide (i.natAbs < 400000)
noncomputable def twoI (a b:AV) (f:Int→Int→Option AV):Option AV:=(intOf a).bind fun x=>(intOf b).bind fun y=>f x y
noncomputable def binAV (op:BOp) (a b:AV):Option AV:=match op with
 | .add=>(match a with
  | .int x=>(intOf b).map fun y=>.int (x + y)
  | .tup l=>(tupOf b).bind fun m=>if l.length + m.length < 1000000 then some (.tup (l ++ m)) else none
  | .lst l=>(lstOf b).bind fun m=>if l.length + m.length < 1000000 then some (.lst (l ++ m)) else none
  | _=>none)
 | .sub=>twoI a b fun x y=>some (.int (x - y))
 | .mul=>twoI a b fun x y=>if small x && small y then some (.int (x * y)) else none
 | .div=>twoI a b fun x y=>if decide (0 < y) && small y then some (.int (x / y)) else none
 | .mod=>twoI a b fun x y=>if decide (0 < y) then some (.int (x % y)) else none
noncomputable def trkAV (trk:Bool) (v:AV) (H:AHeap):AV × AHeap:=match v with
 | .lst l=>qAC trk l H
 | v=>(v,H)
noncomputable def memAV (x:AV) (l:List AV):Option Bool:=match qAY x with
 | some b=>if l.all (fun v=>(qAY v).isSome) then some (hasAV (.bool b) l) else none
 | none=>if x.clean && qGr l then some (hasAV x l) else none
noncomputable def qBp (H:AHeap):AV→Option (List AV)
 | .tup l=>some l
 | v=>qAI H v
noncomputable def qGO:AV→Option Bool
 | .ref _ | .inst .. | .lst _ | .tup _=>some false
 | .none=>some true
 | _=>none
noncomputable def eqs (a b:AV) (H:AHeap):Option Bool:=(qB4 H a).bind fun x=>(qB4 H b).bind fun y=>eqAV x y
noncomputable def intB (a b:AV) (f:Int→Int→Bool):Option Bool:=(intOf a).bind fun x=>(intOf b).map fun y=>f x y
noncomputable def cmpAV (op:COp) (a b:AV) (H:AHeap):Option Bool:=match op with
 | .eq=>eqs a b H
 | .ne=>(eqs a b H).map fun x=>!x
 | .lt=>intB a b fun x y=>decide (x < y)
 | .le=>intB a b fun x y=>decide (x ≤ y)
 | .gt=>intB a b fun x y=>decide (x > y)
 | .ge=>intB a b fun x y=>decide (x ≥ y)
 | .isNone=>qGO a
 | .notNone=>(qGO a).map fun x=>!x
 | .inn=>(qBp H b).bind fun l=>memAV a l
 | .notIn=>((qBp H b).bind fun l=>memAV a l).map fun x=>!x
noncomputable def idx (n:Nat) (i:Int):Option Nat :=
 if 0 ≤ i∧i < n then some i.toNat else if i < 0∧-(n:Int) ≤ i then some (i + n).toNat else none
noncomputable def atL (l:List AV) (i:AV):Option AV:=(intOf i).bind fun i=>(idx l.length i).bind fun k=>l[k]?
noncomputable def subO (o:AObj) (i:AV):Option AV:=match o with
 | .list l=>atL l i
 | .dictI kvs=>(intOf i).bind fun k=>kvs.lookup k
 | .dictS kvs=>(strOf i).bind fun k=>kvs.lookup k
 | .ns _=>none
noncomputable def subAV (o i:AV) (H:AHeap):Option AV:=match o with
 | .tup l=>atL l i
 | .lst l=>atL l i
 | .ref r=>H[r]?.bind fun o=>subO o i
 | _=>none
noncomputable def clamp (n:Nat) (i:Int):Nat:=(max 0 (min (if i < 0 then i + n else i) n)).toNat
theorem qI9 {n:Nat}{i:Int} (h:0 ≤ i):clamp n i=min i.toNat n:=by
 obtain ⟨k,rfl⟩:=Int.eq_ofNat_of_zero_le h
 unfold clamp
 rw [if_neg (Int.not_lt.mpr h),Int.max_eq_right (Int.le_min.mpr ⟨h,Int.natCast_nonneg n⟩)]
 show (min (k:Int) n).toNat=min k n
 rcases Nat.le_total k n with q | q
 ·rw [Int.min_eq_left (Int.ofNat_le.mpr q),Nat.min_eq_left q]; rfl
 ·rw [Int.min_eq_right (Int.ofNat_le.mpr q),Nat.min_eq_right q]; rfl
noncomputable def qAb (l:List α) (lo hi:Option Int):List α :=
 let a:=match lo with | some i=>clamp l.length i | none=>0
 let b:=match hi with | some i=>clamp l.length i | none=>l.length
 (l.take b).drop a
noncomputable def qCU:List AV→Option Int
 | []=>some 0
 | x :: r=>(intOf x).bind fun i=>(qCU r).map fun k=>i + k
noncomputable def lenOf (H:AHeap):AV→Option Nat
 | .tup l=>some l.length
 | .sset l=>some l.length
 | v=>(qAI H v).map List.length
noncomputable def qM2 (H:AHeap):AV→Option (List AV)
 | .tup l=>some l
 | .rng a b=>some (qAF a b)
 | v=>qAI H v
noncomputable def qDK (H:AHeap):AV→Option (List AV)
 | .sset l=>some l
 | .tup l=>some l
 | .lst l=>some l
 | .ref i=>H[i]?.bind fun o=>(match o with
  | .dictI kvs=>some (kvs.map fun p=>.int p.1)
  | .list l=>some l
  | _=>none)
 | _=>none
noncomputable def qLw (as:List AV):Option (Int × Int):=match as with
 | a :: r=>(intOf a).bind fun x=>if small x then (match r with
  | []=>some (0,x)
  | b :: t=>(match t with
   | []=>(intOf b).bind fun y=>if small y then some (x,y) else none
   | _=>none)) else none
 | []=>none
noncomputable def intP (as:List AV) (f:Int→Int→Int):Option AV:=(two as).bind fun p=>twoI p.1 p.2 fun x y=>some (.int (f x y))
noncomputable def biAV (b:BI) (trk:Bool) (args:List AV) (H:AHeap):Option (AV × AHeap):=match b with
 | .len=>(one args).bind fun v=>(lenOf H v).map fun (n:Nat)=>(AV.int (n:Int),H)
 | .tuple=>(one args).bind fun v=>(qBp H v).map fun l=>(.tup l,H)
 | .list=>(one args).bind fun v=>(qM2 H v).map fun l=>qAC trk l H
 | .range=>(qLw args).map fun p=>(.rng p.1 p.2,H)
 | .sorted=>(one args).bind fun v=>(qDK H v).bind fun l=>(qAa l).map fun m=>qAC trk m H
 | .set=>(one args).bind fun v=>(lstOf v).bind fun l=>if l.all isK2 && decide (l.length < 7) then some (.sset (dedup l),H) else none
 | .int=>(one args).bind fun v=>(intOf v).map fun i=>(.int i,H)
 | .sum=>(one args).bind fun v=>(lstOf v).bind fun l=>(qCU l).map fun n=>(.int n,H)
 | .max=>(intP args fun a b=>if a < b then b else a).map fun v=>(v,H)
 | .min=>(intP args fun a b=>if b < a then b else a).map fun v=>(v,H)
noncomputable def methL (i:Nat) (l:List AV) (args:List AV) (H:AHeap):Nat→Option (AV × AHeap)
 | 0=>(one args).bind fun v=>if l.length < 900000 then some (.none,H.set i (.list (l ++ [v]))) else none
 | 1=>if args.isEmpty then l.getLast?.map fun v=>(v,H.set i (.list l.dropLast)) else none
 | 2=>((one args).bind intOf).bind fun k=>if l.all isK1 && hasAV (.int k) l then some (.none,H.set i (.list (qBT (.int k) l))) else none
 | 3=>((one args).bind lstOf).bind fun l'=>if l.length + l'.length < 1000000 then some (.none,H.set i (.list (l ++ l'))) else none
 | _=>none
noncomputable def methD (i:Nat) (kvs:List (Int × AV)) (args:List AV) (H:AHeap):Nat→Option (AV × AHeap)
 | 4=>(two args).bind fun p=>(intOf p.1).map fun k=>((kvs.lookup k).getD p.2,H)
 | 5=>(two args).bind fun p=>(intOf p.1).bind fun k=>match kvs.lookup k with
  | some v=>some (v,H)
  | none=>if kvs.length < 900000 then some (p.2,H.set i (.dictI (kvs ++ [(k,p.2)]))) else none
 | _=>none
noncomputable def qAr (i:Nat) (m:Nat) (args:List AV) (H:AHeap):Option (AV × AHeap):=H[i]?.bind fun o=>match o with
 | .list l=>methL i l args H m
 | .dictI kvs=>methD i kvs args H m
 | _=>none
noncomputable def qDh (H:AHeap) (i m:Nat):Bool:=H[i]?.any fun o=>match o with
 | .list _=>decide (m < 4)
 | .dictI _=>decide (m=4∨m=5)
 | _=>false
abbrev qAQ:=Nat→List AV→AHeap→Option (AV × AHeap)
noncomputable def evEs (ev:CE→Rho→AHeap→Option (AV × AHeap)):List CE→Rho→AHeap→Option (List AV × AHeap)
 | [],_,H=>some ([],H)
 | e :: r,ρ,H=>bnd (ev e ρ H) fun v H=>bnd (evEs ev r ρ H) fun vs H=>some (v :: vs,H)
noncomputable def qB6 (ev:CE→Rho→AHeap→Option (AV × AHeap)):List CE→List CE→Rho→AHeap→Option (List (AV × AV) × AHeap)
 | [],es,_,H=>(match es with | []=>some ([],H) | _=>none)
 | k :: ks,es,ρ,H=>(match es with
  | e :: r=>bnd (ev k ρ H) fun kv H=>bnd (ev e ρ H) fun v H=>bnd (qB6 ev ks r ρ H) fun vs H=>some ((kv,v) :: vs,H)
  | []=>none)
theorem qDk {ev:CE→Rho→AHeap→Option (AV × AHeap)}{k ks e r}{ρ:Rho}{H:AHeap}:qB6 ev (k :: ks) (e :: r) ρ H=bnd (ev k ρ H) fun kv H=>bnd (ev e ρ H) fun v H=>bnd (qB6 ev ks r ρ H) fun vs H=>some ((kv,v) :: vs,H):=rfl
noncomputable def evAnd (ev:CE→Rho→AHeap→Option (AV × AHeap)):List CE→Rho→AHeap→Option (AV × AHeap)
 | [],_,H=>some (.bool true,H)
 | e :: r,ρ,H=>bnd (ev e ρ H) fun v H=>(qAY v).bind fun b=>if b then evAnd ev r ρ H else some (.bool false,H)
noncomputable def qCf (ev:CE→Rho→AHeap→Option (AV × AHeap)):List CE→Rho→AHeap→Option (Bool × AHeap)
 | [],_,H=>some (true,H)
 | e :: r,ρ,H=>bnd (ev e ρ H) fun v H=>(qAY v).bind fun b=>if b then qCf ev r ρ H else some (false,H)
noncomputable def qBI:List (AV × AV)→Option (List (Nat × AV))
 | []=>some []
 | p :: r=>(strOf p.1).bind fun n=>(qBI r).bind fun r=>if r.any (·.1 == n) then none else some ((n,p.2) :: r)
noncomputable def qNK:CT→Option Nat
 | .name x=>some x
 | _=>none
noncomputable def qG4 (t:CT) (v:AV) (ρ:Rho):Option Rho:=(qNK t).map fun x=>upd x v ρ
noncomputable def qB2:List CT→List AV→Rho→Option Rho
 | [],vs,ρ=>(match vs with | []=>some ρ | _=>none)
 | t :: ts,vs,ρ=>(match vs with | v :: vs=>(qG4 t v ρ).bind fun ρ=>qB2 ts vs ρ | []=>none)
theorem qDB {t ts v vs}{ρ:Rho}:qB2 (t :: ts) (v :: vs) ρ=(qG4 t v ρ).bind fun ρ=>qB2 ts vs ρ:=rfl
noncomputable def qC9 (t:CT) (v:AV) (ρ:Rho):Option Rho:=match t with
 | .name x=>some (upd x v ρ)
 | .tup ts=>(tupOf v).bind fun vs=>qB2 ts vs ρ
 | _=>none
noncomputable def compLoop (ev:CE→Rho→AHeap→Option (AV × AHeap)) (elt:CE) (t:CT) (ifs:List CE) (H0:AHeap) (src:Option Nat):List AV→Rho→AHeap→Option (List AV × AHeap)
 | [],_,H=>if qB9 H0 H src then some ([],H) else none
 | x :: xs,ρ,H=>if qB9 H0 H src then (qC9 t x ρ).bind fun ρ=>bnd (qCf ev ifs ρ H) fun ok H =>
   if ok then bnd (ev elt ρ H) fun v H=>bnd (compLoop ev elt t ifs H0 src xs ρ H) fun vs H=>some (v :: vs,H) else compLoop ev elt t ifs H0 src xs ρ H
  else none
noncomputable def evOpt (ev:CE→Rho→AHeap→Option (AV × AHeap)):Option CE→Rho→AHeap→Option (Option Int × AHeap)
 | none,_,H=>some (none,H)
 | some e,ρ,H=>bnd (ev e ρ H) fun v H=>(intOf v).bind fun i=>if small i then some (some i,H) else none
noncomputable def mtOf (P:Prog) (c m:Nat):Option Nat:=P.mts.lookup (c,m)
noncomputable def qDp (P:Prog) (c a:Nat):Bool:=P.attrs.any fun p=>p.1 == c && p.2 == a
noncomputable def nsAt (H:AHeap) (i:Nat):Option (List (Nat × AV)):=H[i]?.bind fun o=>match o with
 | .ns fs=>some fs
 | _=>none
noncomputable def qAD (P:Prog) (v:AV) (a:Nat) (H:AHeap):Option AV:=match v with
 | .inst c i=>(nsAt H i).bind fun fs=>if qDp P c a then fs.lookup a else none
 | _=>none
noncomputable def qAj (i m:Nat) (H:AHeap):Bool:=(nsAt H i).any fun fs=>(fs.lookup m).isNone
noncomputable def qHw (P:Prog) (cf:qAQ) (ev:CE→Rho→AHeap→Option (AV × AHeap)) (m:Nat) (es:List CE) (ρ:Rho) (v:AV) (H:AHeap):Option (AV × AHeap):=match v with
 | .inst c i=>(mtOf P c m).bind fun f=>if qAj i m H then bnd (evEs ev es ρ H) fun vs H=>cf f (.inst c i :: vs) H else none
 | .ref i=>if qDh H i m then bnd (evEs ev es ρ H) fun vs H=>qAr i m vs H else none
 | _=>none
noncomputable def qFn:AV→Bool
 | .none=>true
 | _=>false
noncomputable def evE (P:Prog) (cf:qAQ):Nat→CE→Rho→AHeap→Option (AV × AHeap)
 | 0,_,_,_=>none
 | n + 1,e,ρ,H=>match e with
  | .lit v=>some (v,H)
  | .var x=>(ρ.lookup x).map fun v=>(v,H)
  | .bin op trk a b=>bnd (evE P cf n a ρ H) fun x H=>bnd (evE P cf n b ρ H) fun y H=>(binAV op x y).map fun z=>trkAV trk z H
  | .neg a=>bnd (evE P cf n a ρ H) fun x H=>(intOf x).map fun i=>(.int (-i),H)
  | .not a=>bnd (evE P cf n a ρ H) fun x H=>(qAY x).map fun b=>(.bool !b,H)
  | .cmp op a b=>bnd (evE P cf n a ρ H) fun x H=>bnd (evE P cf n b ρ H) fun y H=>(cmpAV op x y H).map fun b=>(.bool b,H)
  | .band es=>evAnd (evE P cf n) es ρ H
  | .bor _=>none
  | .ite t a b=>bnd (evE P cf n t ρ H) fun x H=>(qAY x).bind fun c=>if c then evE P cf n a ρ H else evE P cf n b ρ H
  | .tup es=>bnd (evEs (evE P cf n) es ρ H) fun vs H=>some (.tup vs,H)
  | .lst trk es=>bnd (evEs (evE P cf n) es ρ H) fun vs H=>some (qAC trk vs H)
  | .dct ks vs=>(match ks with
   | []=>some (alloc H (.dictI []))
   | k :: ks=>bnd (qB6 (evE P cf n) (k :: ks) vs ρ H) fun kvs H=>(qBI kvs).map fun d=>alloc H (.dictS d))
  | .comp trk en elt t it ifs=>bnd (evE P cf n it ρ H) fun x H=>bnd (iterE en H x) fun xs src=>bnd (compLoop (evE P cf n) elt t ifs H src xs ρ H) fun vs H=>some (qAC trk vs H)
  | .callF f es=>bnd (evEs (evE P cf n) es ρ H) fun vs H=>cf f vs H
  | .callM o m es=>bnd (evE P cf n o ρ H) fun v H=>qHw P cf (evE P cf n) m es ρ v H
  | .bi b trk es=>bnd (evEs (evE P cf n) es ρ H) fun vs H=>biAV b trk vs H
  | .new c=>(mtOf P c 6).bind fun f=>bnd (cf f [.inst c H.length] (H ++ [.ns []])) fun r H'=>if qFn r then some (.inst c H.length,H') else none
  | .attr o a=>bnd (evE P cf n o ρ H) fun v H=>(qAD P v a H).map fun x=>(x,H)
  | .sub o i=>bnd (evE P cf n o ρ H) fun x H=>bnd (evE P cf n i ρ H) fun y H=>(subAV x y H).map fun z=>(z,H)
  | .slice trk o lo hi=>bnd (evE P cf n o ρ H) fun x H=>bnd (evOpt (evE P cf n) lo ρ H) fun a H=>bnd (evOpt (evE P cf n) hi ρ H) fun b H=>(qAI H x).map fun l=>qAC trk (qAb l a b) H
noncomputable def qBu (P:Prog) (v:AV) (a:Nat) (x:AV) (H:AHeap):Option AHeap:=match v with
 | .inst c i=>(nsAt H i).bind fun fs=>if qDp P c a && decide (fs.length < 900) then some (H.set i (.ns (upd a x fs))) else none
 | _=>none
noncomputable def asgO (o:AObj) (i x:AV):Option AObj:=match o with
 | .list l=>(intOf i).bind fun i=>if 0 ≤ i∧i < l.length then some (.list (l.set i.toNat x)) else none
 | .dictI kvs=>(intOf i).bind fun k=>if kvs.length < 900000 then some (.dictI (upd k x kvs)) else none
 | .dictS kvs=>(strOf i).bind fun k=>if kvs.length < 900000 then some (.dictS (upd k x kvs)) else none
 | .ns _=>none
noncomputable def qBA (o i x:AV) (H:AHeap):Option AHeap:=match o with
 | .ref r=>(H[r]?.bind fun o=>asgO o i x).map fun o=>H.set r o
 | _=>none
noncomputable def qCS (P:Prog) (ev:CE→Rho→AHeap→Option (AV × AHeap)) (t:CT) (v:AV) (ρ:Rho) (H:AHeap):Option (Rho × AHeap):=match t with
 | .name x=>some (upd x v ρ,H)
 | .attr o a=>bnd (ev o ρ H) fun ov H=>(qBu P ov a v H).map fun H=>(ρ,H)
 | .sub o i=>bnd (ev o ρ H) fun ov H=>bnd (ev i ρ H) fun iv H=>(qBA ov iv v H).map fun H=>(ρ,H)
 | .tup _=>none
noncomputable def qBJ (P:Prog) (ev:CE→Rho→AHeap→Option (AV × AHeap)):List CT→List AV→Rho→AHeap→Option (Rho × AHeap)
 | [],vs,ρ,H=>(match vs with | []=>some (ρ,H) | _=>none)
 | t :: ts,vs,ρ,H=>(match vs with
  | v :: vs=>bnd (qCS P ev t v ρ H) fun ρ H=>qBJ P ev ts vs ρ H
  | []=>none)
theorem qCA {P:Prog}{ev:CE→Rho→AHeap→Option (AV × AHeap)}{t ts v vs}{ρ:Rho}{H:AHeap}:qBJ P ev (t :: ts) (v :: vs) ρ H=bnd (qCS P ev t v ρ H) fun ρ H=>qBJ P ev ts vs ρ H:=rfl
noncomputable def qDA (P:Prog) (ev:CE→Rho→AHeap→Option (AV × AHeap)) (t:CT) (v:AV) (ρ:Rho) (H:AHeap):Option (Rho × AHeap):=match t with
 | .tup ts=>(tupOf v).bind fun vs=>qBJ P ev ts vs ρ H
 | t=>qCS P ev t v ρ H
inductive Fl where
 | next
 | ret (v:AV)
abbrev StRes:=Option (Fl × Rho × AHeap)
noncomputable def bnd3 {γ:Type} (o:StRes) (f:Fl→Rho→AHeap→Option γ):Option γ:=match o with
 | some (a,b,c)=>f a b c
 | none=>none
theorem qBt {γ:Type}{o:StRes}{f:Fl→Rho→AHeap→Option γ}{c:γ} (h:bnd3 o f=some c):∃ a b d,o=some (a,b,d)∧f a b d=some c:=by
 cases o with
 | none=>exact qA3 h
 | some r=>exact ⟨r.1,r.2.1,r.2.2,rfl,h⟩
noncomputable def qDf (f:Fl) (ρ:Rho) (H:AHeap) (k:Rho→AHeap→StRes):StRes:=match f with
 | .next=>k ρ H
 | .ret v=>some (.ret v,ρ,H)
noncomputable def evSs (es:CS→Rho→AHeap→StRes):List CS→Rho→AHeap→StRes
 | [],ρ,H=>some (.next,ρ,H)
 | c :: r,ρ,H=>bnd3 (es c ρ H) fun f ρ H=>qDf f ρ H fun ρ H=>evSs es r ρ H
noncomputable def forLoop (body:Rho→AHeap→StRes) (t:CT) (H0:AHeap) (src:Option Nat):List AV→Rho→AHeap→StRes
 | [],ρ,H=>if qB9 H0 H src then some (.next,ρ,H) else none
 | x :: xs,ρ,H=>if qB9 H0 H src then (qC9 t x ρ).bind fun ρ=>bnd3 (body ρ H) fun f ρ H=>qDf f ρ H fun ρ H=>forLoop body t H0 src xs ρ H else none
noncomputable def whileLoop (test:Rho→AHeap→Option (AV × AHeap)) (body:Rho→AHeap→StRes):Nat→Rho→AHeap→StRes
 | 0,_,_=>none
 | k + 1,ρ,H=>bnd (test ρ H) fun v H=>(qAY v).bind fun b=>if b then bnd3 (body ρ H) fun f ρ H=>qDf f ρ H fun ρ H=>whileLoop test body k ρ H else some (.next,ρ,H)
noncomputable def evS (P:Prog) (cf:qAQ):Nat→CS→Rho→AHeap→StRes
 | 0,_,_,_=>none
 | n + 1,c,ρ,H=>match c with
  | .ret e=>(match e with
   | none=>some (.ret .none,ρ,H)
   | some e=>bnd (evE P cf 40 e ρ H) fun v H=>some (.ret v,ρ,H))
  | .expr e=>bnd (evE P cf 40 e ρ H) fun _ H=>some (.next,ρ,H)
  | .asg t e=>bnd (evE P cf 40 e ρ H) fun v H=>bnd (qDA P (evE P cf 40) t v ρ H) fun ρ H=>some (.next,ρ,H)
  | .ife t a b=>bnd (evE P cf 40 t ρ H) fun v H=>(qAY v).bind fun c=>if c then evSs (evS P cf n) a ρ H else evSs (evS P cf n) b ρ H
  | .for en t it body=>bnd (evE P cf 40 it ρ H) fun v H=>bnd (iterE en H v) fun xs src=>forLoop (evSs (evS P cf n) body) t H src xs ρ H
  | .whl t body=>whileLoop (evE P cf 40 t) (evSs (evS P cf n) body) 1000 ρ H
  | .bad=>none
noncomputable def bindP:List Nat→Bool→List AV→Option Rho
 | [],_,vs=>(match vs with | []=>some [] | _=>none)
 | x :: xs,d,vs=>(match vs with
  | v :: vs=>(bindP xs d vs).map fun r=>(x,v) :: r
  | []=>if d && xs.isEmpty then some [(x,.none)] else none)
theorem qIx {x xs d v vs}:bindP (x :: xs) d (v :: vs)=(bindP xs d vs).map fun r=>(x,v) :: r:=rfl
noncomputable def qBG (H H':AHeap) (v:AV):Option AV:=match v with
 | .ref i=>(qAg H' i).bind fun l=>if H.length ≤ i && qAO l then some (.lst l) else none
 | v=>if v.plain then some v else none
noncomputable def flVal:Fl→AV | .ret v=>v | .next=>.none
noncomputable def runFn (P:Prog) (cf:qAQ) (d:FnC) (args:List AV) (H:AHeap):Option (AV × AHeap):=(bindP d.params d.dflt args).bind fun ρ =>
 if d.pure && qAO args then
  bnd3 (evSs (evS P cf 20) d.body ρ []) fun f _ H'=>(qBG [] H' (flVal f)).map fun v=>(v,H)
 else bnd3 (evSs (evS P cf 20) d.body ρ H) fun f _ H' =>
  if d.pure then if qEM (H'.take H.length) H then (qBG H H' (flVal f)).map fun v=>(v,H) else none
  else some (flVal f,H')
noncomputable def callF (P:Prog):Nat→qAQ
 | 0,_,_,_=>none
 | d + 1,f,args,H=>(P.fns.lookup f).bind fun fn=>runFn P (callF P d) fn args H
end Mine.Internal
end
section
namespace Mine.Internal
theorem big13 {n k:Nat} (h:13 ≤ n) (hk:k < 13):¬ n=k:=fun e=>absurd (Nat.lt_of_lt_of_le hk h) (e ▸ Nat.lt_irrefl _)
theorem qE0 {n a:Nat}{i:Int} (e:i=a) (h:a ≤ n):clamp n i=a:=by
 subst e
 rw [qI9 (Int.natCast_nonneg a)]
 exact Nat.min_eq_left h
theorem qEQ {k0 k k1 fuel:Nat} (h:k0 - k < fuel + 1) (h1:k ≤ k1) (h2:k1 < k0):k0 - (k1 + 1) < fuel :=
 Nat.lt_of_lt_of_le (Nat.sub_lt_sub_left (Nat.lt_of_le_of_lt h1 h2) (Nat.lt_succ_of_le h1)) (Nat.le_of_lt_succ h)
theorem qM0 {lo hi:Nat} (h:lo < hi):lo ≤ (lo + hi) / 2∧(lo + hi) / 2 < hi:=by omega
theorem qCX (a b:Int):(b - a).toNat ≤ b.natAbs + a.natAbs:=by omega
theorem qIE {a:Int}{n:Nat} (h:a.natAbs < n):-(n:Int) ≤ a∧a < n:=by omega
theorem qNx {p n:Nat} (h:p ≤ n):min p n + (n - p + 1)=n + 1:=by rw [Nat.min_eq_left h]; omega
theorem qNV {k n:Nat} (h:2 ≤ k∧k < 2 + (n - 2)):k < n:=by omega
theorem qJg {n i k:Nat} (h:n - i=k + 1):i < n∧n - (i + 1)=k:=by omega
theorem qEs {i:Int}{n:Nat} (h:i.toNat=n + 1):0 < i∧(i - 1).toNat=n:=by omega
theorem qN5 {n:Nat} (h:n < 400000):((n:Int)).natAbs < 400000:=h
end Mine.Internal
end
section
open PySem PySem.W PyProof.Rows
namespace Mine.Internal
noncomputable def nid (names:List Str) (x:Str):Option Nat:=names.idxOf? x
structure CX where
 names:List Str
 K:Frag
 fns:List Nat        -- the addresses of the functions,by their numbers
 clss:List Nat
 trk:List (Nat × Nat × Nat)
 byText:Bool:=false
noncomputable def CX.isTrk (X:CX) (p:Pos):Bool:=X.trk.any fun q=>p.line == q.1 && p.col == q.2.1 && p.endCol == q.2.2
noncomputable def qAE (sc:Scope) (x:Str):Option NameKind:=sc.names.lookup x
noncomputable def isV (k:Option NameKind):Bool:=k.any fun k=>match k with
 | .local | .cell | .free=>true
 | _=>false
noncomputable def isVar (sc:Scope) (x:Str):Bool:=isV (qAE sc x)
noncomputable def bOp:Operator→Option BOp
 | .Add=>some .add | .Sub=>some .sub | .Mult=>some .mul | .FloorDiv=>some .div | .Mod=>some .mod
 | _=>none
noncomputable def cOp:CmpOp→Option COp
 | .Eq=>some .eq | .NotEq=>some .ne | .Lt=>some .lt | .LtE=>some .le | .Gt=>some .gt | .GtE=>some .ge
 | .In=>some .inn | .NotIn=>some .notIn
 | _=>none
inductive Callee where
 | fn (a:Nat) | cls (a:Nat) | bi (b:BI)
noncomputable def biTab:List (Str × BI):=[(Str.ofString "len",.len),(Str.ofString "tuple",.tuple),(Str.ofString "list",.list),(Str.ofString "range",.range),(Str.ofString "sorted",.sorted),
 (Str.ofString "set",.set),(Str.ofString "int",.int),(Str.ofString "sum",.sum),(Str.ofString "max",.max),(Str.ofString "min",.min)]
noncomputable def biVal:BI→Value
 | .len=>.builtin "len" | .tuple=>.type "tuple" | .list=>.type "list" | .range=>.type "range" | .sorted=>.builtin "sorted"
 | .set=>.type "set" | .int=>.type "int" | .sum=>.builtin "sum" | .max=>.builtin "max" | .min=>.builtin "min"
noncomputable def qIA (X:CX) (a:Nat):Option Callee:=(X.K.lookup a).bind fun o=>match o.data with
 | .func _=>(X.fns.idxOf? a).map .fn
 | .cls _=>(X.clss.idxOf? a).map .cls
 | _=>none
noncomputable def qFz (X:CX) (sc:Scope) (x:Str):Option Callee :=
 if qAE sc x == some .globalImplicit then (nsIn X.K mainGlobals x).bind fun v=>match v with
  | none=>(biTab.lookup x).map .bi
  | some v=>(match v with
   | .ref a=>qIA X a
   | _=>none)
 else none
noncomputable def qAs:Expr→Bool
 | .Starred ..=>true
 | _=>false
noncomputable def listM (f:α→Option β):List α→Option (List β)
 | []=>some []
 | x :: r=>(f x).bind fun y=>(listM f r).map fun t=>y :: t
noncomputable def optM (f:α→Option β):Option α→Option (Option β)
 | none=>some none
 | some x=>(f x).map some
noncomputable def qC1:Expr→Option Str
 | .Name x _=>some x
 | _=>none
noncomputable def qBN:Expr→Bool
 | .Call f as ks _=>!((qC1 f).isSome && as.isEmpty && ks.isEmpty)
 | _=>true
noncomputable def qCn:Expr→List Str
 | .Name x _=>[x]
 | .Tuple es _ _=>es.filterMap qC1
 | _=>[]
noncomputable def qCi (X:CX) (sc inner:Scope) (t:Expr):Bool :=
 inner.kind == .function && inner.names.all (fun x=>x.2 != .cell && (x.2 != .local || (inner.names.lookup x.1 == some .local && ((qCn t).contains x.1 || (nid X.names x.1).isNone))) && (x.2 != .free || ((sc.names.lookup x.1 == some .cell || sc.names.lookup x.1 == some .free) && inner.names.lookup x.1 == some .free)))
noncomputable def isTup:CT→Bool
 | .tup _=>true
 | _=>false
noncomputable def qB7 (X:CX) (sc:Scope):Expr→Option CT
 | .Name x _=>if qAE sc x == some .local || qAE sc x == some .cell then (nid X.names x).map .name else none
 | _=>none
noncomputable def qAl (X:CX) (sc:Scope):Expr→Option CT
 | .Tuple es _ _=>(listM (qB7 X sc) es).map .tup
 | e=>qB7 X sc e
noncomputable def qCg (X:CX) (sc:Scope):Expr→Option Expr
 | .Call f as ks _=>(qC1 f).bind fun x=>(one as).bind fun e=>if x == ("enumerate":Str) && qAE sc x == some .globalImplicit && nsIn X.K mainGlobals x == some none && !qAs e && ks.isEmpty then some e else none
 | _=>none
noncomputable def qBU (X:CX) (sc:Scope) (it:Expr):Bool × Expr:=match qCg X sc it with
 | some e=>(true,e)
 | none=>(false,it)
noncomputable def qKS (X:CX):Const→Option AV
 | .int i=>some (.int i)
 | .bool b=>some (.bool b)
 | .none=>some .none
 | .str s=>(nid X.names s).map .str
 | _=>none
noncomputable def isOp:CmpOp→Option COp
 | .Is=>some .isNone
 | .IsNot=>some .notNone
 | _=>none
noncomputable def noneC:Expr→Bool
 | .Constant c _ _=>(match c with | .none=>true | _=>false)
 | _=>false
noncomputable def qMC (lm:Option (List CE)) (args:List Expr) (trk:Bool):Callee→Option CE
 | .fn a=>lm.map (.callF a)
 | .cls a=>if args.isEmpty then some (.new a) else none
 | .bi b=>lm.map (.bi b trk)
noncomputable def cmpE (X:CX):Nat→Scope→Expr→Option CE
 | 0,_,_=>none
 | n + 1,sc,e=>match e with
  | .Constant c _ _=>(qKS X c).map .lit
  | .Name x _=>if isVar sc x && x != ("__debug__":Str) && x != ("__classdict__":Str) then (nid X.names x).map .var else none
  | .BinOp l op r pos=>(bOp op).bind fun o=>(cmpE X n sc l).bind fun a=>(cmpE X n sc r).map fun b=>.bin o (X.isTrk pos) a b
  | .UnaryOp op a _=>(cmpE X n sc a).bind fun c=>(match op with | .USub=>some (.neg c) | .Not=>some (.not c) | _=>none)
  | .Compare l ops rs _=>(one ops).bind fun op=>(one rs).bind fun r=>(cmpE X n sc l).bind fun a=>(match isOp op with
   | some o=>if noneC r then some (.cmp o a (.lit .none)) else none
   | none=>(cOp op).bind fun o=>(cmpE X n sc r).map fun b=>.cmp o a b)
  | .BoolOp op es _=>if 2 ≤ es.length then (listM (cmpE X n sc) es).map (match op with | .And=>.band | .Or=>.bor) else none
  | .IfExp t a b _=>(cmpE X n sc t).bind fun t=>(cmpE X n sc a).bind fun a=>(cmpE X n sc b).map fun b=>.ite t a b
  | .Tuple es _ _=>if !es.any qAs && decide (es.length ≤ 1000) then (listM (cmpE X n sc) es).map .tup else none
  | .List es pos=>if !es.any qAs && decide (es.length ≤ 1000) then (listM (cmpE X n sc) es).map (.lst (X.isTrk pos)) else none
  | .Dict ks vs _=>if ks.length == vs.length && decide (ks.length < 9) then (listM (fun k=>k.bind (cmpE X n sc)) ks).bind fun a=>(listM (cmpE X n sc) vs).map fun b=>.dct a b else none
  | .ListComp elt gens inner pos=>(one gens).bind fun g=>if qCi X sc inner g.target && decide (g.is_async=0) then (qAl X inner g.target).bind fun ct =>
    if !(qBU X sc g.iter).1 || isTup ct then (cmpE X n inner elt).bind fun ce=>(cmpE X n sc (qBU X sc g.iter).2).bind fun ci=>(listM (cmpE X n inner) g.ifs).map fun cf=>.comp (X.isTrk pos) (qBU X sc g.iter).1 ce ct ci cf
    else none
   else none
  | .Call f args kws pos=>if !args.any qAs && kws.isEmpty then (match f with
   | .Name x _=>if x != ("__debug__":Str) then (qFz X sc x).bind fun c=>qMC (listM (cmpE X n sc) args) args (X.isTrk pos) c else none
   | .Attribute o m apos=>if qBN o && decide (args.length ≤ 20) && apos.endLine == pos.line then (cmpE X n sc o).bind fun co=>(nid X.names m).bind fun m=>(listM (cmpE X n sc) args).map (.callM co m) else none
   | _=>none) else none
  | .Attribute o a _=>if qBN o then (cmpE X n sc o).bind fun co=>(nid X.names a).map (.attr co) else none
  | .Subscript o i pos=>(cmpE X n sc o).bind fun co=>(match i with
   | .Slice lo hi st _=>if st.isNone then (optM (cmpE X n sc) lo).bind fun a=>(optM (cmpE X n sc) hi).map fun b=>.slice (X.isTrk pos) co a b else none
   | i=>(cmpE X n sc i).map (.sub co))
  | _=>none
noncomputable def cmpT1 (X:CX) (sc:Scope):Expr→Option CT
 | .Attribute o a _=>(cmpE X 40 sc o).bind fun c=>(nid X.names a).map (.attr c)
 | .Subscript o i _=>(cmpE X 40 sc o).bind fun c=>(cmpE X 40 sc i).map (.sub c)
 | e=>qB7 X sc e
noncomputable def cmpT (X:CX) (sc:Scope):Expr→Option CT
 | .Tuple es _ _=>(listM (cmpT1 X sc) es).map .tup
 | e=>cmpT1 X sc e
noncomputable def qFA:Expr→Bool
 | .ListComp .. | .SetComp .. | .DictComp ..=>true
 | _=>false
noncomputable def qCr (t e:Expr):Bool:=match e with
 | .Tuple vs _ _=>(match t with
  | .Tuple ..=>!vs.all (constantsAlone 8)
  | .List ..=>false
  | _=>true)
 | _=>true
noncomputable def cmpS (X:CX):Nat→Scope→Stmt→Option CS
 | 0,_,_=>none
 | n + 1,sc,c=>match c with
  | .Return e _=>(match e with
   | none=>some (.ret none)
   | some e=>(cmpE X 40 sc e).map fun e=>.ret (some e))
  | .Expr e _=>if !qFA e then (cmpE X 40 sc e).map .expr else none
  | .Assign ts e _=>(one ts).bind fun t=>if qCr t e then (cmpT X sc t).bind fun ct=>(cmpE X 40 sc e).map (.asg ct) else none
  | .If t a b _=>(cmpE X 40 sc t).bind fun t=>(listM (cmpS X n sc) a).bind fun a=>(listM (cmpS X n sc) b).map (.ife t a)
  | .For t it body orelse _=>if orelse.isEmpty then (qAl X sc t).bind fun t=>(cmpE X 40 sc it).bind fun i=>(listM (cmpS X n sc) body).map (.for false t i) else none
  | .While t body orelse _=>if orelse.isEmpty then (cmpE X 40 sc t).bind fun t=>(listM (cmpS X n sc) body).map (.whl t) else none
  | .Raise ..=>some .bad
  | _=>none
end Mine.Internal
end
section
open PySem PySem.W PyProof.Rows
namespace Mine.Internal.Hd
noncomputable def runG (ok:Thread→Bool) (st:SharedT→Thread→Option (SharedT × Thread)):Nat→SharedT→Thread→Option SharedT
 | 0,_,_=>none
 | n + 1,s,t=>match through t with
  | true=>some s
  | false=>match ok t with
   | false=>none
   | true=>match st s t with
    | some r=>runG ok st n r.1 r.2
    | none=>none
theorem qJM {tb:String→Option Builtin}{p:Program}{w:World}{n₀:Nat}{ann:Option Value}:∀ {n:Nat}{s s':SharedT}{t:Thread},runG (stepOk n₀ ann) (stepT (denote tb) p w) n s t=some s' →
  topRun tb p w n₀ ann n s.abs t=some s'.abs
 | 0,_,_,_,h=>nomatch h
 | n + 1,s,s',t,h=>by
  unfold runG at h
  unfold topRun
  cases ht:through t with
  | true=>rw [ht] at h; cases h; rfl
  | false =>
   rw [ht] at h
   cases hk:stepOk n₀ ann t with
   | false=>rw [hk] at h; cases h
   | true =>
    rw [hk] at h
    cases hs:stepT (denote tb) p w s t with
    | none=>rw [hs] at h; cases h
    | some r=>rw [hs] at h; rw [stepT_spec (s':=r.1) (t':=r.2) hs]; exact qJM h
theorem qMb {p q:Program}{loose:List Str}{Xt:Shared→Bool}{α:Type}{Yf:Shared→α}{Ya:World→α}{N:Nat}{g0:Bool}{T₀:Params→BT}{n₀ k₀:Nat}{H₀:Params→Heap}{gs₀:Array GenState}{d₀:Drawn}{life:Life}{ann:Option Value}{M:Nat}
  (open_:∀ w:World,(fencedOpening treeTable p w N).map (fun s=>(s.heap,s.gens,s.drawn,s.toks))=some (H₀ w.params,gs₀,d₀,k₀))
  (size:∀ w:World,((H₀ w.params).isNs mainGlobals && gs₀.size == 0,(H₀ w.params).objs.size,(H₀ w.params).nsMap mainGlobals "__annotations__")=(true,n₀,ann))
  (tree:∀ P,H₀ P=absHeap (T₀ P) n₀ life) (le:Nat.ble M N=true)
  (look:∀ w:World,(fun os=>(runG (stepOk n₀ ann) (stepT (denote treeTable) p w) M ⟨T₀ w.params,n₀,life,gs₀,d₀,k₀,os⟩ (topStub p)).map fun s =>
    (staticsOk (importedModules p.main.body) (H₀ w.params) s.abs.heap && namesBound p s.abs.heap && gensDone s.abs && laidKept (H₀ w.params) s.abs.heap,
     openSeen q loose (importedModules p.main.body) Xt g0 s.abs,Yf s.abs))=fun _=>some (true,openGood q loose,Ya w)):LeftO p q loose Xt Yf Ya N g0:=fun w=>by
 obtain ⟨⟨h,gs,d,k,os⟩,e,e'⟩:=Option.map_eq_some_iff.mp (open_ w)
 obtain ⟨s,r,l⟩:=Option.map_eq_some_iff.mp (congrFun (look w) os)
 have r':=topRun_mono (N - M) _ _ _ _ (qJM r)
 rw [show M + (N - M)=N by have:=Nat.le_of_ble_eq_true le; omega] at r'
 have e1:h=H₀ w.params:=congrArg (·.1) e'
 have e2:gs=gs₀:=congrArg (·.2.1) e'
 have e3:d=d₀:=congrArg (·.2.2.1) e'
 have e4:k=k₀:=congrArg (·.2.2.2) e'
 subst e1 e2 e3 e4
 have z1:=congrArg (·.1) (size w)
 have z2:=congrArg (·.2.1) (size w)
 have z3:=congrArg (·.2.2) (size w)
 dsimp only at z1 z2 z3
 have l1:=congrArg (·.1) l
 dsimp only at l1
 have hs:(SharedT.abs ⟨T₀ w.params,n₀,life,gs,d,k,os⟩)=⟨H₀ w.params,gs,d,k,os⟩:=by rw [tree]; rfl
 rw [hs] at r'
 have t:topFrom treeTable p w N ⟨H₀ w.params,gs,d,k,os⟩=some s.abs:=by
  unfold topFrom
  dsimp only
  rw [z1,z2,z3,r']
  show (match staticsOk (importedModules p.main.body) (H₀ w.params) s.abs.heap && namesBound p s.abs.heap && gensDone s.abs && laidKept (H₀ w.params) s.abs.heap with | true=>some s.abs | false=>none)=_
  rw [l1]
 unfold openEnds
 rw [e]
 show (topFrom treeTable p w N _).map _=_
 rw [t]
 exact congrArg some (congrArg (·.2) l)
noncomputable def fragL:Nat→List Obj→Frag
 | _,[]=>[]
 | i,o :: r=>match alive o with
  | some o'=>(i,o') :: fragL (i + 1) r
  | none=>fragL (i + 1) r
theorem qI4:∀ {l:List Obj}{i a:Nat}{o:Obj},(fragL i l).lookup a=some o→∃ k x,a=i + k∧l[k]?=some x∧alive x=some o
 | [],i,a,o,e=>nomatch e
 | x :: r,i,a,o,e=>by
  have up:(fragL (i + 1) r).lookup a=some o→∃ k y,a=i + k∧(x :: r)[k]?=some y∧alive y=some o:=fun e=>by
   obtain ⟨k,y,h1,h2,h3⟩:=qI4 e
   exact ⟨k + 1,y,by omega,h2,h3⟩
  unfold fragL at e
  cases h:alive x with
  | none=>rw [h] at e; exact up e
  | some x' =>
   rw [h] at e
   dsimp only at e
   rw [List.lookup_cons] at e
   split at e
   ·rename_i q
    cases e
    exact ⟨0,x,beq_iff_eq.mp q,rfl,h⟩
   ·exact up e
noncomputable def qKB (h:Heap):Frag:=fragL 0 h.objs.toList
set_option tactic.hygienic true in
set_option hygiene true in
theorem qIj (h:Heap):(qKB h).In h:=fun a o e=>by
 obtain ⟨k,x,h1,h2,h3⟩:=qI4 e
 rw [Nat.zero_add] at h1
 subst h1
 have h2':h.objs[a]?=some x:=by rw [← Array.getElem?_toList]; exact h2
 unfold Heap.get?
 rw [h2']
 unfold alive at h3
 split at h3
 ·cases h3
 ·rename_i o' n
  cases h3
  split
  ·rename_i h4
   cases h4
   exact (n _ _ _ rfl).elim
  ·rfl
noncomputable def qLN {β:Type} (f:Frag→β) (v:β):Hook :=
 ⟨β,fun s=>f (qKB s.heap),fun _=>v,fun _ h=>∃ K:Frag,K.In h∧f K=v,fun _ s e=>⟨_,qIj s.heap,e⟩,fun _ _ _ ⟨K,k,e⟩ g=>⟨K,Frag.In.keeps k g,e⟩⟩
noncomputable def bootT (P:Params):BT :=
 .node (boot_o_0 P) (.node (boot_o_1 P) (.node (boot_o_3 P) (.node (boot_o_7 P) .nil .nil) .nil) (.node (boot_o_5 P) (.node (boot_o_9 P) .nil .nil) .nil))
  (.node (boot_o_2 P) (.node (boot_o_4 P) (.node (boot_o_8 P) .nil .nil) .nil) (.node (boot_o_6 P) (.node (boot_o_10 P) .nil .nil) .nil))
theorem qKZ (w:World):((boot_heap w.params).isNs mainGlobals && (Array.mk []:Array GenState).size == 0,(boot_heap w.params).objs.size,(boot_heap w.params).nsMap mainGlobals "__annotations__")=(true,11,some (.ref 6)):=by kernel_rfl
theorem qMn (P:Params):boot_heap P=absHeap (bootT P) 11 {}:=by kernel_rfl
noncomputable def qKM (gone:List Nat):Nat→List Stmt→List Stmt
 | _,[]=>[]
 | i,s :: r=>if gone.contains i then qKM gone (i + 1) r else s :: qKM gone (i + 1) r
noncomputable def qMz (p:Program) (gone:List Nat):Program:={ p with main:={ p.main with body:=qKM gone 0 p.main.body } }
end Mine.Internal.Hd
end
section
namespace Mine.Internal
noncomputable def fn0:FnC:={ params:=[11,12],dflt:=false,pure:=true,body:=[
 (.ret (some (.bi .tuple false [(.comp false false (.tup [(.var 13),(.bi .min false [(.var 14),(.var 12)])]) (.tup [(.name 13),(.name 14)]) (.var 11) [(.cmp .le (.var 13) (.var 12))])])))] }
noncomputable def fn1:FnC:={ params:=[11,12],dflt:=false,pure:=true,body:=[
 (.ret (some (.bi .tuple false [(.comp false false (.tup [(.bi .max false [(.var 13),(.var 12)]),(.var 14)]) (.tup [(.name 13),(.name 14)]) (.var 11) [(.cmp .ge (.var 14) (.var 12))])])))] }
noncomputable def fn2:FnC:={ params:=[11,15],dflt:=false,pure:=true,body:=[
 (.ret (some (.bin .add false (.callF 0 [(.var 11),(.bin .sub false (.var 15) (.lit (.int 1)))]) (.callF 1 [(.var 11),(.bin .add false (.var 15) (.lit (.int 1)))]))))] }
noncomputable def fn3:FnC:={ params:=[11,16],dflt:=false,pure:=true,body:=[
 (.asg (.tup [(.name 17),(.name 18),(.name 19)]) (.tup [(.lst true []),(.lit (.int 0)),(.lit (.int 0))])),
 (.whl (.band [(.cmp .lt (.var 18) (.bi .len false [(.var 11)])),(.cmp .lt (.var 19) (.bi .len false [(.var 16)]))]) [(.asg (.tup [(.name 13),(.name 14)]) (.tup [(.bi .max false [(.sub (.sub (.var 11) (.var 18)) (.lit (.int 0))),(.sub (.sub (.var 16) (.var 19)) (.lit (.int 0)))]),(.bi .min false [(.sub (.sub (.var 11) (.var 18)) (.lit (.int 1))),(.sub (.sub (.var 16) (.var 19)) (.lit (.int 1)))])])),
  (.ife (.cmp .le (.var 13) (.var 14)) [(.expr (.callM (.var 17) 0 [(.tup [(.var 13),(.var 14)])]))] []),
  (.ife (.cmp .lt (.sub (.sub (.var 11) (.var 18)) (.lit (.int 1))) (.sub (.sub (.var 16) (.var 19)) (.lit (.int 1)))) [(.asg (.name 18) (.bin .add false (.var 18) (.lit (.int 1))))] [(.asg (.name 19) (.bin .add false (.var 19) (.lit (.int 1))))])]),
 (.ret (some (.bi .tuple false [(.var 17)])))] }
noncomputable def fn4:FnC:={ params:=[20],dflt:=false,pure:=true,body:=[
 (.asg (.tup [(.name 21),(.name 22),(.name 12)]) (.var 20)),
 (.ife (.cmp .eq (.var 22) (.lit (.str 8))) [(.ret (some (.tup [(.var 21),(.lit (.str 10)),(.bin .add false (.var 12) (.lit (.int 1)))])))] []),
 (.ife (.cmp .eq (.var 22) (.lit (.str 10))) [(.ret (some (.tup [(.var 21),(.lit (.str 8)),(.bin .sub false (.var 12) (.lit (.int 1)))])))] []),
 (.ret (some (.ite (.cmp .eq (.var 22) (.lit (.str 9))) (.tup [(.var 21),(.lit (.str 7)),(.var 12)]) (.tup [(.var 21),(.lit (.str 9)),(.var 12)]))))] }
noncomputable def fn5:FnC:={ params:=[20,11],dflt:=false,pure:=true,body:=[
 (.asg (.tup [(.name 22),(.name 12)]) (.tup [(.sub (.var 20) (.lit (.int 1))),(.sub (.var 20) (.lit (.int 2)))])),
 (.ife (.cmp .eq (.var 22) (.lit (.str 8))) [(.ret (some (.callF 0 [(.var 11),(.var 12)])))] []),
 (.ife (.cmp .eq (.var 22) (.lit (.str 10))) [(.ret (some (.callF 1 [(.var 11),(.var 12)])))] []),
 (.ret (some (.ite (.cmp .eq (.var 22) (.lit (.str 9))) (.callF 3 [(.var 11),(.tup [(.tup [(.var 12),(.var 12)])])]) (.callF 2 [(.var 11),(.var 12)]))))] }
noncomputable def fn6:FnC:={ params:=[20,11],dflt:=false,pure:=true,body:=[
 (.asg (.name 23) (.callF 5 [(.var 20),(.var 11)])),
 (.ife (.cmp .eq (.var 23) (.var 11)) [(.ret (some (.lit (.int 1))))] []),
 (.ret (some (.ite (.cmp .eq (.var 23) (.tup [])) (.neg (.lit (.int 1))) (.lit (.int 0)))))] }
noncomputable def fn7:FnC:={ params:=[24,20],dflt:=false,pure:=true,body:=[
 (.asg (.name 21) (.sub (.var 20) (.lit (.int 0)))),
 (.ife (.cmp .eq (.callF 6 [(.var 20),(.callM (.var 24) 28 [(.var 21)])]) (.lit (.int 1))) [(.ret (some (.neg (.lit (.int 1)))))] []),
 (.for false (.name 25) (.bi .range false [(.bi .len false [(.attr (.var 24) 27)])]) [(.asg (.name 26) (.sub (.attr (.var 24) 27) (.var 25))),
  (.ife (.band [(.cmp .eq (.sub (.var 26) (.lit (.int 0))) (.var 21)),(.cmp .eq (.callF 6 [(.var 20),(.callF 5 [(.sub (.var 26) (.lit (.int 2))),(.sub (.var 26) (.lit (.int 1)))])]) (.lit (.int 1)))]) [(.ret (some (.var 25)))] [])]),
 .bad] }
noncomputable def fn8:FnC:={ params:=[29],dflt:=false,pure:=false,body:=[
 (.asg (.attr (.var 29) 30) (.lst true [])),
 (.asg (.attr (.var 29) 31) (.lst true [])),
 (.asg (.attr (.var 29) 32) (.lst true [])),
 (.asg (.attr (.var 29) 33) (.dct [] []))] }
noncomputable def fn9:FnC:={ params:=[29,34],dflt:=false,pure:=false,body:=[
 (.asg (.name 35) (.bi .len false [(.attr (.var 29) 30)])),
 (.expr (.callM (.attr (.var 29) 30) 0 [(.bi .list true [(.var 34)])])),
 (.ife (.cmp .lt (.bi .len false [(.var 34)]) (.lit (.int 2))) [(.expr (.callM (.attr (.var 29) 31) 0 [(.var 35)]))] [(.expr (.callM (.attr (.var 29) 32) 0 [(.var 35)]))]),
 (.ret (some (.var 35)))] }
noncomputable def fn10:FnC:={ params:=[29,24,20],dflt:=false,pure:=true,body:=[
 (.ret (some (.ite (.cmp .eq (.callM (.var 24) 36 [(.var 20)]) (.neg (.lit (.int 1)))) (.callF 7 [(.var 24),(.callF 4 [(.var 20)])]) (.bi .len false [(.attr (.var 24) 27)]))))] }
noncomputable def fn11:FnC:={ params:=[29,21,35],dflt:=false,pure:=false,body:=[
 (.asg (.name 37) (.callM (.attr (.var 29) 33) 5 [(.var 21),(.lst true [])])),
 (.ife (.cmp .notIn (.var 35) (.var 37)) [(.expr (.callM (.var 37) 0 [(.var 35)]))] [])] }
noncomputable def fn12:FnC:={ params:=[29,24,35],dflt:=false,pure:=false,body:=[
 (.asg (.name 38) (.comp false false (.tup [(.neg (.callM (.var 29) 40 [(.var 24),(.var 20)])),(.var 20)]) (.name 20) (.sub (.attr (.var 29) 30) (.var 35)) [])),
 (.asg (.sub (.attr (.var 29) 30) (.var 35)) (.comp true false (.var 20) (.tup [(.name 40),(.name 20)]) (.bi .sorted false [(.var 38)]) [])),
 (.expr (.callM (.var 29) 39 [(.sub (.sub (.sub (.attr (.var 29) 30) (.var 35)) (.lit (.int 0))) (.lit (.int 0))),(.var 35)])),
 (.expr (.callM (.var 29) 39 [(.sub (.sub (.sub (.attr (.var 29) 30) (.var 35)) (.lit (.int 1))) (.lit (.int 0))),(.var 35)]))] }
noncomputable def fn13:FnC:={ params:=[29,24,35,25],dflt:=false,pure:=false,body:=[
 (.asg (.name 41) (.sub (.attr (.var 29) 30) (.var 35))),
 (.for false (.name 12) (.bi .range false [(.lit (.int 2)),(.bi .len false [(.var 41)])]) [(.ife (.cmp .ne (.callM (.var 24) 36 [(.sub (.var 41) (.var 12))]) (.neg (.lit (.int 1)))) [(.asg (.name 42) (.sub (.sub (.var 41) (.var 25)) (.lit (.int 0)))),
   (.asg (.tup [(.sub (.var 41) (.var 25)),(.sub (.var 41) (.var 12))]) (.tup [(.sub (.var 41) (.var 12)),(.sub (.var 41) (.var 25))])),
   (.ife (.band [(.cmp .ne (.var 42) (.sub (.sub (.var 41) (.lit (.int 0))) (.lit (.int 0)))),(.cmp .ne (.var 42) (.sub (.sub (.var 41) (.lit (.int 1))) (.lit (.int 0))))]) [(.expr (.callM (.sub (.attr (.var 29) 33) (.var 42)) 2 [(.var 35)]))] []),
   (.expr (.callM (.var 29) 39 [(.sub (.sub (.var 41) (.var 25)) (.lit (.int 0))),(.var 35)])),
   (.ret none)] [])])] }
noncomputable def fn14:FnC:={ params:=[29,24,35,25],dflt:=false,pure:=false,body:=[
 (.asg (.name 41) (.sub (.attr (.var 29) 30) (.var 35))),
 (.ret (some (.callM (.var 24) 43 [(.sub (.var 41) (.var 25)),(.bi .tuple false [(.comp false false (.callF 4 [(.sub (.var 41) (.var 12))]) (.name 12) (.bi .range false [(.bi .len false [(.var 41)])]) [(.cmp .ne (.var 12) (.var 25))])])])))] }
noncomputable def fn15:FnC:={ params:=[29,24,35],dflt:=false,pure:=false,body:=[
 (.asg (.name 41) (.sub (.attr (.var 29) 30) (.var 35))),
 (.for false (.name 25) (.tup [(.lit (.int 0)),(.lit (.int 1))]) [(.ife (.cmp .eq (.callM (.var 24) 36 [(.sub (.var 41) (.var 25))]) (.neg (.lit (.int 1)))) [(.expr (.callM (.var 29) 48 [(.var 24),(.var 35),(.var 25)]))] [])]),
 (.asg (.tup [(.name 44),(.name 45)]) (.tup [(.callM (.var 24) 36 [(.sub (.var 41) (.lit (.int 0)))]),(.callM (.var 24) 36 [(.sub (.var 41) (.lit (.int 1)))])])),
 (.ife (.bor [(.cmp .eq (.var 44) (.lit (.int 1))),(.cmp .eq (.var 45) (.lit (.int 1))),(.band [(.cmp .eq (.var 44) (.lit (.int 0))),(.cmp .eq (.var 45) (.lit (.int 0)))])]) [(.ret (some (.lit (.bool true))))] []),
 (.ife (.band [(.cmp .eq (.var 44) (.neg (.lit (.int 1)))),(.cmp .eq (.var 45) (.neg (.lit (.int 1))))]) [(.ret (some (.callM (.var 24) 47 [(.bi .tuple false [(.comp false false (.callF 4 [(.var 20)]) (.name 20) (.var 41) [])])])))] []),
 (.ret (some (.callM (.var 29) 46 [(.var 24),(.var 35),(.ite (.cmp .eq (.var 45) (.neg (.lit (.int 1)))) (.lit (.int 0)) (.lit (.int 1)))])))] }
noncomputable def fn16:FnC:={ params:=[29,24],dflt:=false,pure:=false,body:=[
 (.for false (.name 35) (.attr (.var 29) 31) [(.asg (.name 41) (.sub (.attr (.var 29) 30) (.var 35))),
  (.ife (.bor [(.cmp .eq (.var 41) (.lst false [])),(.cmp .eq (.callM (.var 24) 36 [(.sub (.var 41) (.lit (.int 0)))]) (.neg (.lit (.int 1))))]) [(.ret (some (.callM (.var 24) 47 [(.bi .tuple false [(.comp false false (.callF 4 [(.var 20)]) (.name 20) (.var 41) [])])])))] []),
  (.expr (.callM (.var 24) 43 [(.sub (.var 41) (.lit (.int 0))),(.tup [])]))]),
 (.asg (.tup [(.name 37),(.attr (.var 29) 32)]) (.tup [(.attr (.var 29) 32),(.lst true [])])),
 (.for false (.name 35) (.var 37) [(.expr (.callM (.var 29) 49 [(.var 24),(.var 35)])),
  (.ife (.not (.callM (.var 29) 50 [(.var 24),(.var 35)])) [(.asg (.attr (.var 29) 32) (.comp true false (.var 51) (.name 51) (.var 37) [(.cmp .gt (.var 51) (.var 35))])),
   (.ret (some (.lit (.bool false))))] [])]),
 (.ret (some (.lit (.bool true))))] }
noncomputable def fn17:FnC:={ params:=[29,24,52],dflt:=true,pure:=false,body:=[
 (.asg (.name 53) (.bi .len false [(.attr (.var 24) 27)])),
 (.ife (.not (.callM (.var 29) 55 [(.var 24)])) [(.ret (some (.lit (.bool false))))] []),
 (.asg (.name 54) (.bin .add true (.bi .list false [(.ite (.cmp .isNone (.var 52) (.lit .none)) (.bi .range false [(.callM (.var 24) 56 [])]) (.var 52))]) (.comp false false (.sub (.var 26) (.lit (.int 0))) (.name 26) (.slice false (.attr (.var 24) 27) (some (.var 53)) none) []))),
 (.asg (.name 25) (.lit (.int 0))),
 (.whl (.cmp .lt (.var 25) (.bi .len false [(.var 54)])) [(.for false (.name 35) (.bi .list false [(.callM (.attr (.var 29) 33) 4 [(.sub (.var 54) (.var 25)),(.lst false [])])]) [(.asg (.name 53) (.bi .len false [(.attr (.var 24) 27)])),
   (.ife (.not (.callM (.var 29) 50 [(.var 24),(.var 35)])) [(.ret (some (.lit (.bool false))))] []),
   (.expr (.callM (.var 54) 3 [(.comp false false (.sub (.var 26) (.lit (.int 0))) (.name 26) (.slice false (.attr (.var 24) 27) (some (.var 53)) none) [])]))]),
  (.asg (.name 25) (.bin .add false (.var 25) (.lit (.int 1))))]),
 (.ret (some (.lit (.bool true))))] }
noncomputable def fn18:FnC:={ params:=[29],dflt:=false,pure:=false,body:=[
 (.asg (.attr (.var 29) 57) (.lst true [])),
 (.asg (.attr (.var 29) 58) (.lst true [])),
 (.asg (.attr (.var 29) 27) (.lst true [])),
 (.asg (.attr (.var 29) 59) (.lst true [])),
 (.asg (.attr (.var 29) 60) (.dct [] [])),
 (.asg (.attr (.var 29) 61) (.neg (.lit (.int 1)))),
 (.asg (.attr (.var 29) 62) (.lit (.bool false))),
 (.asg (.attr (.var 29) 63) (.tup []))] }
noncomputable def fn19:FnC:={ params:=[29,64],dflt:=false,pure:=false,body:=[
 (.expr (.callM (.attr (.var 29) 57) 0 [(.var 64)])),
 (.expr (.callM (.attr (.var 29) 58) 0 [(.var 64)])),
 (.ife (.cmp .eq (.var 64) (.tup [])) [(.expr (.callM (.var 29) 47 [(.tup [])]))] []),
 (.ret (some (.bin .sub false (.bi .len false [(.attr (.var 29) 57)]) (.lit (.int 1)))))] }
noncomputable def fn20:FnC:={ params:=[29],dflt:=false,pure:=true,body:=[
 (.ret (some (.bi .len false [(.attr (.var 29) 57)])))] }
noncomputable def fn21:FnC:={ params:=[29,21],dflt:=false,pure:=true,body:=[
 (.ret (some (.sub (.attr (.var 29) 58) (.var 21))))] }
noncomputable def fn22:FnC:={ params:=[29,20],dflt:=false,pure:=true,body:=[
 (.ret (some (.callF 6 [(.var 20),(.sub (.attr (.var 29) 57) (.sub (.var 20) (.lit (.int 0))))])))] }
noncomputable def fn23:FnC:={ params:=[29,20,65,61],dflt:=false,pure:=false,body:=[
 (.asg (.name 21) (.sub (.var 20) (.lit (.int 0)))),
 (.asg (.name 66) (.sub (.attr (.var 29) 57) (.var 21))),
 (.asg (.name 32) (.callF 5 [(.var 20),(.var 66)])),
 (.ife (.cmp .eq (.var 32) (.tup [])) [(.ret (some (.callM (.var 29) 47 [(.bin .add false (.ite (.cmp .isNone (.var 65) (.lit .none)) (.tup []) (.var 65)) (.tup [(.callF 4 [(.var 20)])]))])))] []),
 (.ife (.cmp .eq (.var 32) (.var 66)) [(.ret (some (.lit (.bool true))))] []),
 (.expr (.callM (.attr (.var 29) 27) 0 [(.tup [(.var 21),(.var 66),(.var 20),(.var 65),(.var 61)])])),
 (.asg (.sub (.attr (.var 29) 57) (.var 21)) (.var 32)),
 (.asg (.sub (.attr (.var 29) 60) (.var 21)) (.lit (.bool true))),
 (.ret (some (.lit (.bool true))))] }
noncomputable def fn24:FnC:={ params:=[29,20,65],dflt:=false,pure:=false,body:=[
 (.ret (some (.callM (.var 29) 67 [(.var 20),(.bi .tuple false [(.var 65)]),(.attr (.var 29) 61)])))] }
noncomputable def fn25:FnC:={ params:=[29,20],dflt:=false,pure:=false,body:=[
 (.ret (some (.callM (.var 29) 67 [(.var 20),(.lit .none),(.neg (.lit (.int 1)))])))] }
noncomputable def fn26:FnC:={ params:=[29,65],dflt:=false,pure:=false,body:=[
 (.asg (.attr (.var 29) 62) (.lit (.bool true))),
 (.asg (.attr (.var 29) 63) (.bi .tuple false [(.var 65)])),
 (.ret (some (.lit (.bool false))))] }
noncomputable def fn27:FnC:={ params:=[29],dflt:=false,pure:=false,body:=[
 (.expr (.callM (.attr (.var 29) 59) 0 [(.bi .len false [(.attr (.var 29) 27)])]))] }
noncomputable def fn28:FnC:={ params:=[29,68],dflt:=false,pure:=false,body:=[
 (.ife (.cmp .lt (.var 68) (.lit (.int 1))) [(.ret none)] []),
 (.asg (.name 53) (.sub (.attr (.var 29) 59) (.bin .sub false (.bi .len false [(.attr (.var 29) 59)]) (.var 68)))),
 (.asg (.attr (.var 29) 59) (.slice true (.attr (.var 29) 59) none (some (.bin .sub false (.bi .len false [(.attr (.var 29) 59)]) (.var 68))))),
 (.whl (.cmp .gt (.bi .len false [(.attr (.var 29) 27)]) (.var 53)) [(.asg (.name 26) (.callM (.attr (.var 29) 27) 1 [])),
  (.asg (.sub (.attr (.var 29) 57) (.sub (.var 26) (.lit (.int 0)))) (.sub (.var 26) (.lit (.int 1))))]),
 (.asg (.attr (.var 29) 60) (.dct [] [])),
 (.asg (.attr (.var 29) 62) (.cmp .inn (.tup []) (.attr (.var 29) 58))),
 (.asg (.attr (.var 29) 63) (.tup []))] }
noncomputable def fn30:FnC:={ params:=[29],dflt:=false,pure:=false,body:=[
 (.asg (.name 17) (.bi .sorted false [(.attr (.var 29) 60)])),
 (.asg (.attr (.var 29) 60) (.dct [] [])),
 (.ret (some (.var 17)))] }
noncomputable def fn31:FnC:={ params:=[97,70],dflt:=false,pure:=false,body:=[
 (.asg (.sub (.var 97) (.lit (.str 71))) (.bin .add false (.sub (.var 97) (.lit (.str 71))) (.lit (.int 1)))),
 (.ife (.cmp .le (.sub (.var 97) (.lit (.str 71))) (.bi .len false [(.sub (.var 97) (.lit (.str 72)))])) [(.ret (some (.bin .mod false (.sub (.sub (.var 97) (.lit (.str 72))) (.bin .sub false (.sub (.var 97) (.lit (.str 71))) (.lit (.int 1)))) (.var 70))))] []),
 (.ret (some (.bin .mod false (.bin .div false (.bin .add false (.bin .add false (.bin .mul false (.bin .mul false (.sub (.var 97) (.lit (.str 71))) (.sub (.var 97) (.lit (.str 71)))) (.lit (.int 3))) (.bin .mul false (.sub (.var 97) (.lit (.str 71))) (.lit (.int 5)))) (.sub (.var 97) (.lit (.str 73)))) (.lit (.int 2))) (.var 70))))] }
noncomputable def fn32:FnC:={ params:=[97],dflt:=false,pure:=false,body:=[
 (.ret (some (.tup [(.callF 31 [(.var 97),(.lit (.int 4))]),(.sub (.tup [(.lit (.str 8)),(.lit (.str 10)),(.lit (.str 9)),(.lit (.str 7))]) (.callF 31 [(.var 97),(.lit (.int 4))])),(.callF 31 [(.var 97),(.lit (.int 5))])])))] }
noncomputable def fn33:FnC:={ params:=[20,76],dflt:=false,pure:=true,body:=[
 (.asg (.tup [(.name 22),(.name 12)]) (.tup [(.sub (.var 20) (.lit (.int 1))),(.sub (.var 20) (.lit (.int 2)))])),
 (.ret (some (.comp false false (.var 15) (.name 15) (.var 76) [(.sub (.dct [(.lit (.str 8)),(.lit (.str 10)),(.lit (.str 9)),(.lit (.str 7))] [(.cmp .le (.var 15) (.var 12)),(.cmp .ge (.var 15) (.var 12)),(.cmp .eq (.var 15) (.var 12)),(.cmp .ne (.var 15) (.var 12))]) (.var 22))])))] }
noncomputable def fn34:FnC:={ params:=[20],dflt:=false,pure:=true,body:=[
 (.asg (.tup [(.name 21),(.name 22),(.name 12)]) (.var 20)),
 (.ret (some (.sub (.dct [(.lit (.str 8)),(.lit (.str 10)),(.lit (.str 9)),(.lit (.str 7))] [(.tup [(.var 21),(.lit (.str 10)),(.bin .add false (.var 12) (.lit (.int 1)))]),(.tup [(.var 21),(.lit (.str 8)),(.bin .sub false (.var 12) (.lit (.int 1)))]),(.tup [(.var 21),(.lit (.str 7)),(.var 12)]),(.tup [(.var 21),(.lit (.str 9)),(.var 12)])]) (.var 22))))] }
noncomputable def fn35:FnC:={ params:=[20,77],dflt:=false,pure:=true,body:=[
 (.ret (some (.cmp .eq (.callF 33 [(.var 20),(.sub (.var 77) (.sub (.var 20) (.lit (.int 0))))]) (.lst false []))))] }
noncomputable def fn36:FnC:={ params:=[72,25,77],dflt:=false,pure:=true,body:=[
 (.for false (.name 12) (.bi .range false [(.lit (.int 2)),(.bi .len false [(.var 72)])]) [(.ife (.not (.callF 35 [(.sub (.var 72) (.var 12)),(.var 77)])) [(.asg (.name 72) (.slice true (.var 72) none none)),
   (.asg (.tup [(.sub (.var 72) (.var 25)),(.sub (.var 72) (.var 12))]) (.tup [(.sub (.var 72) (.var 12)),(.sub (.var 72) (.var 25))])),
   (.ret (some (.var 72)))] [])]),
 (.ret (some (.var 72)))] }
noncomputable def fn37:FnC:={ params:=[83,98],dflt:=false,pure:=true,body:=[
 (.for false (.name 21) (.bi .range false [(.lit (.int 4))]) [(.ife (.cmp .ne (.bi .sorted false [(.callM (.attr (.var 83) 33) 4 [(.var 21),(.lst false [])])]) (.comp false true (.var 68) (.tup [(.name 68),(.name 72)]) (.var 98) [(.cmp .inn (.var 21) (.tup [(.sub (.sub (.var 72) (.lit (.int 0))) (.lit (.int 0))),(.sub (.sub (.var 72) (.lit (.int 1))) (.lit (.int 0)))]))])) [(.ret (some (.lit (.bool false))))] [])]),
 (.ret (some (.cmp .eq (.attr (.var 83) 30) (.var 98))))] }
noncomputable def fn38:FnC:={ params:=[97,79,83,98,77],dflt:=false,pure:=false,body:=[
 (.asg (.tup [(.name 95),(.name 99),(.name 27)]) (.tup [(.callF 31 [(.var 97),(.lit (.int 3))]),(.cmp .eq (.callF 31 [(.var 97),(.lit (.int 2))]) (.lit (.int 1))),(.bi .list false [(.attr (.var 79) 27)])])),
 (.for false (.name 75) (.bi .range false [(.bi .len false [(.var 98)])]) [(.asg (.name 35) (.bin .mod false (.bin .add false (.var 75) (.var 95)) (.bi .len false [(.var 98)]))),
  (.for false (.name 25) (.ite (.var 99) (.tup [(.lit (.int 1)),(.lit (.int 0))]) (.tup [(.lit (.int 0)),(.lit (.int 1))])) [(.ife (.callF 35 [(.sub (.sub (.var 98) (.var 35)) (.var 25)),(.var 77)]) [(.asg (.sub (.var 98) (.var 35)) (.callF 36 [(.sub (.var 98) (.var 35)),(.var 25),(.var 77)])),
    (.expr (.callM (.var 83) 48 [(.var 79),(.var 35),(.var 25)]))] []),
   (.ife (.not (.callF 37 [(.var 83),(.var 98)])) [(.ret (some (.lit (.bool false))))] [])])]),
 (.ret (some (.band [(.cmp .eq (.attr (.var 79) 27) (.var 27)),(.not (.attr (.var 79) 62))])))] }
noncomputable def fn39:FnC:={ params:=[88],dflt:=false,pure:=false,body:=[
 (.asg (.name 72) (.comp false false (.bin .mod false (.bi .int false [(.var 91)]) (.lit (.int 1000003))) (.name 91) (.slice false (.var 88) none (some (.lit (.int 60)))) [])),
 (.asg (.tup [(.name 97),(.name 79),(.name 83)]) (.tup [(.dct [(.lit (.str 71)),(.lit (.str 72)),(.lit (.str 73))] [(.lit (.int 0)),(.var 72),(.bin .mod false (.bi .sum false [(.var 72)]) (.lit (.int 997)))]),(.new 1),(.new 0)])),
 (.asg (.tup [(.name 100),(.name 98)]) (.tup [(.lst false [(.comp false false (.lst false [(.lit (.int 0)),(.lit (.int 1)),(.lit (.int 2)),(.lit (.int 3))]) (.name 21) (.bi .range false [(.lit (.int 4))]) [])]),(.lst true [])])),
 (.for false (.name 21) (.bi .range false [(.lit (.int 4))]) [(.expr (.callM (.var 79) 92 [(.tup [(.tup [(.lit (.int 0)),(.lit (.int 3))])])]))]),
 (.for false (.name 35) (.bi .range false [(.bin .add false (.lit (.int 1)) (.callF 31 [(.var 97),(.lit (.int 3))]))]) [(.asg (.name 41) (.bi .sorted false [(.bi .set false [(.comp false false (.callF 32 [(.var 97)]) (.name 75) (.bi .range false [(.bin .add false (.lit (.int 3)) (.callF 31 [(.var 97),(.lit (.int 4))]))]) [])])])),
  (.asg (.name 41) (.ite (.cmp .gt (.bi .len false [(.var 41)]) (.lit (.int 2))) (.var 41) (.lst false [(.tup [(.lit (.int 0)),(.lit (.str 8)),(.lit (.int 1))]),(.tup [(.lit (.int 1)),(.lit (.str 10)),(.lit (.int 2))]),(.tup [(.lit (.int 2)),(.lit (.str 7)),(.lit (.int 3))])]))),
  (.expr (.callM (.var 98) 0 [(.bin .add false (.comp false false (.var 44) (.name 44) (.var 41) [(.not (.callF 35 [(.var 44),(.sub (.var 100) (.lit (.int 0)))]))]) (.comp false false (.var 44) (.name 44) (.var 41) [(.callF 35 [(.var 44),(.sub (.var 100) (.lit (.int 0)))])]))])),
  (.expr (.callM (.var 83) 49 [(.var 79),(.callM (.var 83) 86 [(.var 41)])]))]),
 (.ife (.not (.callF 37 [(.var 83),(.var 98)])) [(.ret (some (.lit (.bool false))))] []),
 (.for false (.name 75) (.bi .range false [(.bin .add false (.lit (.int 5)) (.callF 31 [(.var 97),(.lit (.int 4))]))]) [(.asg (.name 90) (.callF 31 [(.var 97),(.lit (.int 4))])),
  (.ife (.cmp .eq (.var 90) (.lit (.int 3))) [(.asg (.name 70) (.callF 31 [(.var 97),(.bi .len false [(.var 100)])])),
   (.asg (.name 100) (.slice false (.var 100) none (some (.bin .sub false (.bi .len false [(.var 100)]) (.var 70))))),
   (.expr (.callM (.var 79) 1 [(.var 70)]))] [(.asg (.name 77) (.sub (.var 100) (.neg (.lit (.int 1))))),
   (.asg (.name 20) (.ite (.cmp .eq (.var 90) (.lit (.int 0))) (.callF 32 [(.var 97)]) (.callF 34 [(.sub (.sub (.var 98) (.callF 31 [(.var 97),(.bi .len false [(.var 98)])])) (.callF 31 [(.var 97),(.lit (.int 2))]))]))),
   (.asg (.name 101) (.callF 33 [(.var 20),(.sub (.var 77) (.sub (.var 20) (.lit (.int 0))))])),
   (.ife (.band [(.cmp .ne (.var 101) (.lst false [])),(.cmp .ne (.var 101) (.sub (.var 77) (.sub (.var 20) (.lit (.int 0)))))]) [(.expr (.callM (.var 79) 84 [])),
    (.expr (.callM (.var 79) 94 [(.var 20)])),
    (.asg (.name 100) (.bin .add false (.var 100) (.lst false [(.bin .add false (.bin .add false (.slice false (.var 77) none (some (.sub (.var 20) (.lit (.int 0))))) (.lst false [(.var 101)])) (.slice false (.var 77) (some (.bin .add false (.sub (.var 20) (.lit (.int 0))) (.lit (.int 1)))) none))])))] [])]),
  (.ife (.not (.callF 38 [(.var 97),(.var 79),(.var 83),(.var 98),(.sub (.var 100) (.neg (.lit (.int 1))))])) [(.ret (some (.lit (.bool false))))] [])]),
 (.ret (some (.lit (.bool true))))] }
noncomputable def PP:Prog:={ fns:=[(0,fn0),(1,fn1),(2,fn2),(3,fn3),(4,fn4),(5,fn5),(6,fn6),(7,fn7),(8,fn8),(9,fn9),(10,fn10),(11,fn11),(12,fn12),(13,fn13),(14,fn14),(15,fn15),(16,fn16),(17,fn17),(18,fn18),(19,fn19),(20,fn20),(21,fn21),(22,fn22),(23,fn23),(24,fn24),(25,fn25),(26,fn26),(27,fn27),(28,fn28),(30,fn30),(31,fn31),(32,fn32),(33,fn33),(34,fn34),(35,fn35),(36,fn36),(37,fn37),(38,fn38),(39,fn39)],mts:=[((0,6),8),((0,86),9),((0,40),10),((0,39),11),((0,49),12),((0,48),13),((0,46),14),((0,50),15),((0,55),16),((0,93),17),((1,6),18),((1,92),19),((1,56),20),((1,28),21),((1,36),22),((1,67),23),((1,43),24),((1,94),25),((1,47),26),((1,84),27),((1,1),28),((1,96),29),((1,52),30)],attrs:=[(0,30),(0,31),(0,32),(0,33),(1,57),(1,58),(1,27),(1,59),(1,60),(1,61),(1,62),(1,63)] }
end Mine.Internal
end
section
open PySem PySem.W PyProof.Rows
namespace Mine.Internal
theorem qCC {α:Type}{o:Option α}{p:α→Bool} (h:o.any p=true):∃ a,o=some a∧p a=true:=by
 cases o with
 | none=>cases h
 | some a=>exact ⟨a,rfl,h⟩
noncomputable def fnOf (d:Data):Option FuncData:=match d with
 | .func fd=>some fd
 | _=>none
theorem qLb {d:Data}{fd:FuncData} (h:fnOf d=some fd):d=.func fd:=by
 cases d with
 | func=>cases h; rfl
 | _=>cases h
noncomputable def stOf (b:FuncBody):Option (List Stmt):=match b with
 | .stmts b=>some b
 | _=>none
theorem qKx {b:FuncBody}{l:List Stmt} (h:stOf b=some l):b=.stmts l:=by
 cases b with
 | stmts=>cases h; rfl
 | _=>cases h
noncomputable def refOf (v:Value):Option Addr:=match v with
 | .ref a=>some a
 | _=>none
theorem qJP {v:Value}{a:Addr} (h:refOf v=some a):v=.ref a:=by
 cases v with
 | ref=>cases h; rfl
 | _=>cases h
noncomputable def qJZ (d:Data):Bool:=match d with
 | .seq xs _=>decide (xs.toList=[Value.none])
 | _=>false
theorem qHI {d:Data} (h:qJZ d=true):∃ n,d=.seq #[.none] n:=by
 cases d with
 | seq xs n=>exact ⟨n,congrArg (Data.seq · n) (Array.toList_inj.mp (of_decide_eq_true h))⟩
 | _=>cases h
noncomputable def qKa (X:CX) (a:Nat):Option (List CS):=(X.K.lookup a).bind fun o=>(fnOf o.data).bind fun fd=>(stOf fd.body).bind (listM (cmpS X 20 fd.scope))
noncomputable def restF (X:CX) (fd:FuncData) (params:List Nat) (dflt:Bool):Bool :=
  fd.params.posonlyargs.isEmpty && fd.params.kwonlyargs.isEmpty && fd.params.vararg.isNone && fd.params.kwarg.isNone && decide (fd.params.args.map (·.arg)).Nodup &&
  decide ((fd.params.args.map (·.arg)).map (nid X.names)=params.map some) && fd.closure.isEmpty && decide (fd.globals=mainGlobals) && decide (fd.builtins=builtinsNs) && !fd.scope.isCoroutine && !fd.scope.isGenerator && decide (fd.scope.kind=.function) &&
  codeIn X.K fd.code fd.qualname && (fd.params.args.map (·.arg)).all (fun n=>decide (qAE fd.scope n=some .local) || decide (qAE fd.scope n=some .cell)) && fd.scope.names.all (fun x=>decide (x.2 ≠ .free)) &&
  (if dflt then (refOf fd.defaults).any fun T=>(X.K.lookup T).any fun o=>qJZ o.data && !fd.params.args.isEmpty else decide (fd.defaults=.none))
noncomputable def qLv (X:CX) (a:Nat) (params:List Nat) (dflt:Bool):Bool:=(X.K.lookup a).any fun o=>(fnOf o.data).any fun fd=>restF X fd params dflt
noncomputable def mtChk (X:CX) (c m f:Nat):Bool:=(X.clss[c]?).any fun C=>(X.fns[f]?).any fun a=>(X.names[m]?).any fun x =>
 plainGet X.K C x && decide (findIn X.K (.ref C) x=some (some (.ref a))) && decide (typeIn X.K (.ref a)=some (.type "function")) && keepIn X.K (.ref a)
noncomputable def qNZ (X:CX) (c a:Nat):Bool:=(X.clss[c]?).any fun C=>(X.names[a]?).any fun x =>
 plainGet X.K C x && hasDictIn X.K C && decide (findIn X.K (.ref C) x=some none) && decide (findIn X.K (.ref C) "__setattr__" = some (some (.builtin "object.__setattr__"))) && plainOver X.K C
noncomputable def qNJ (X:CX) (c:Nat):Bool:=(X.clss[c]?).any fun C=>makesIn X.K C && keepIn X.K (.ref C)
noncomputable def qE7 (X:CX) (P:Prog):List (Option (List CS)) × Bool :=
 (P.fns.map fun f=>(X.fns[f.1]?).bind (qKa X),
  (P.fns.all fun f=>match X.fns[f.1]? with | some a=>qLv X a f.2.params f.2.dflt | none=>true) && (P.mts.all fun q=>mtChk X q.1.1 q.1.2 q.2) && (P.attrs.all fun q=>qNZ X q.1 q.2) &&
   P.mts.all fun q=>q.1.2 != 6 || qNJ X q.1.1)
noncomputable def qEO (P:Prog):List (Option (List CS)) × Bool:=(P.fns.map fun f=>some f.2.body,true)
noncomputable def qCt:List Str:=(["append","pop","remove","extend","get","setdefault","__init__","!=","<=","=",">=","d","k","low","high","v","e","found","i","j","literal","x","sign","kept","store","spot","entry","trail","initial","self","clauses","units","fresh","watches","clause","number","holds","numbers","ranked","watch","height","some","gone","strike","one","other","force","fail","renew","place","visit","late","changed","mark","queue","begin","size","domains","firsts","marks","news","speaker","is_failed","clash","domain","reasons","old","enter","n","tape","many","at","row","all","fewest","lap","lot","lots","rest","store_now","stands","due","is_right","book","push","able","add","pair","script","asked","way","cell","new_var","propagate","decide","turn","depth","keg","rows","is_back","history","left"]:List String).map PySem.Str.ofString
noncomputable def trk2:List (Nat × Nat × Nat):=[(24,19,21),(83,23,25),(84,21,23),(85,21,23),(93,28,40),(104,45,47),(110,31,78),(147,43,45),(151,29,72),(159,16,118),(173,23,25),(174,22,24),(175,21,23),(176,21,23),(250,21,53),(284,18,24),(307,57,59)]
noncomputable def qME:List Nat:=[54,59,66,73,80,87,94,158,172,186,193,200,205,212,217,222,227,233,254,261,268,282,331,338,345,352,359,366,373,380,387,401,408,413,420,427,434,439,446,451]
noncomputable def mkX (K:Frag) (b:Bool):CX:={ names:=qCt,K:=K,fns:=qME,clss:=[236,390],trk:=trk2,byText:=b }
def LE (K:Frag) (prog:Program) (w:World) (s:Shared):Prop:=∀ {loose:List Str}{mean:ExcName→Option Value}{prog':Program}{fa l:Addr}{vs:List Value}{is:List Int}{mg mb:Str→Option Value}{E:Value→Shared→Prop}{Q:Value→Shared→Prop}
  (KX:K.In s.heap) (hL:nsIn K mainGlobals (PySem.Str.ofString "law")=some (some (.ref 451))) (hK:(fun b=>qE7 (mkX K b) PP)=fun _=>qEO PP) (T:Top prog' loose mean mg mb s.heap) (hmg:mg (PySem.Str.ofString "law")=some (.ref fa)) (hl:s.heap.get? l=some (seqObj "list" vs.toArray 0)) (hi:IntsAre vs is) (hn:is.length ≤ 63)
  (plain:∃ H',callF PP 12 39 [.lst (is.map .int)] []=some (.bool true,H'))
  (hQ:∀ s':Shared,(∀ b o,s.heap.get? b=some o→s'.heap.get? b=some o)→s'.os=s.os→s'.gens=s.gens→Q (.bool true) s'),
  wpAny (model prog w) callerA (call (.ref fa) [.ref l]) Q E s
theorem qNl:Nonempty Drawn:=⟨{}⟩
theorem qJk:Nonempty Shared:=⟨{}⟩
theorem qLK:Nonempty World:=⟨⟨fun _ _=>0,⟨fun _=>0,fun _=>0,fun x=>x,fun _=>0,fun _ _=>0,fun _=>true,fun _=>0,.refcount,.text,fun _=>0,fun _=>none,fun _=>false,fun _ _ _=>true,fun _ _ _=>true,true,fun _=>false,fun _=>none,fun _=>none,fun _ _ _=>0,fun _ _=>none,fun _=>none,fun _=>(0,false,Str.empty),fun _=>none,fun d=>d,fun _=>false⟩⟩⟩
theorem ne_t0:Nonempty (Frag × Program × World × Shared):=qLK.elim fun w=>qJk.elim fun s=>⟨(default,PySem.Challenge.pw_pc0041_02,w,s)⟩
noncomputable def t0:Frag × Program × World × Shared:=@Classical.epsilon _ ne_t0 fun t=>¬ LE t.1 t.2.1 t.2.2.1 t.2.2.2
theorem qN3 (h:LE t0.1 t0.2.1 t0.2.2.1 t0.2.2.2) (K:Frag) (prog:Program) (w:World) (s:Shared):LE K prog w s:=by
 apply Classical.byContradiction
 intro q
 exact @Classical.epsilon_spec (Frag × Program × World × Shared) (fun t=>¬ LE t.1 t.2.1 t.2.2.1 t.2.2.2) ⟨(K,prog,w,s),q⟩ h
@[irreducible] noncomputable def prog:Program:=t0.2.1
@[irreducible] noncomputable def w:World:=t0.2.2.1
@[irreducible] noncomputable def base:Heap:=t0.2.2.2.heap
@[irreducible] noncomputable def X:CX:=mkX t0.1 (w.params.followText "set-order")
@[irreducible] noncomputable def P:Prog:=PP
end Mine.Internal
end
section
open PySem PySem.W
namespace Mine.Internal
theorem nP {α β:Type} (a:Nonempty α) (b:Nonempty β):Nonempty (α × β):=a.elim fun x=>b.elim fun y=>⟨(x,y)⟩
noncomputable def EE {α:Type} (n:Nonempty α) (Q:α→Prop):α:=@Classical.epsilon α n fun p=>¬ Q p
noncomputable def WW {α:Type} (n:Nonempty α) (Q:α→Prop):α:=@Classical.epsilon α n Q
theorem epsT {α:Type}{n:Nonempty α}{Q:α→Prop} (h:Q (EE n Q)) (p:α):Q p:=Classical.byContradiction fun q=>Classical.epsilon_spec (p:=fun p=>¬ Q p) ⟨p,q⟩ h
instance:Nonempty Drawn:=⟨{}⟩
instance:Nonempty Shared:=⟨{}⟩
instance:Nonempty Around:=⟨{}⟩
instance:Nonempty AV:=⟨.none⟩
instance:Nonempty AObj:=⟨.ns []⟩
instance:Nonempty CE:=⟨.lit .none⟩
instance:Nonempty CT:=⟨.name 0⟩
instance:Nonempty CS:=⟨.bad⟩
instance:Nonempty Fl:=⟨.next⟩
instance:Nonempty COp:=⟨.eq⟩
instance:Nonempty BOp:=⟨.add⟩
instance:Nonempty BI:=⟨.len⟩
instance:Nonempty FnC:=⟨⟨[],false,false,[]⟩⟩
instance:Nonempty Prog:=⟨⟨[],[],[]⟩⟩
instance:Nonempty CX:=⟨⟨[],[],[],[],[],false⟩⟩
instance:Nonempty Mine.Internal.Callee:=⟨.fn 0⟩
theorem epA1 {α:Type} [n:Nonempty α] {P:α→Prop} (h:P (EE n P)):∀ x,P x:=fun x=>epsT h x
theorem epX1 {α:Type} [n:Nonempty α] {P:α→Prop} (h:∃ x,P x):P (WW n P):=Classical.epsilon_spec h
abbrev epH2 {α0 α1:Type} (P:α0→α1→Prop) (t:α0×α1):Prop:=P t.1 t.2
theorem epA2 {α0 α1:Type} [n0:Nonempty α0] [n1:Nonempty α1] {P:α0→α1→Prop} (h:P (EE (nP n0 n1) (epH2 P)).1 (EE (nP n0 n1) (epH2 P)).2):∀ x0 x1,P x0 x1:=fun x0 x1=>epsT (Q:=epH2 P) h (x0,x1)
theorem epX2 {α0 α1:Type} [n0:Nonempty α0] [n1:Nonempty α1] {P:α0→α1→Prop} (h:∃ x0 x1,P x0 x1):P (WW (nP n0 n1) (epH2 P)).1 (WW (nP n0 n1) (epH2 P)).2:=Classical.epsilon_spec (p:=epH2 P) (h.elim fun x0 h=>h.elim fun x1 h=>⟨(x0,x1),h⟩)
abbrev epH3 {α0 α1 α2:Type} (P:α0→α1→α2→Prop) (t:α0×α1×α2):Prop:=P t.1 t.2.1 t.2.2
theorem epA3 {α0 α1 α2:Type} [n0:Nonempty α0] [n1:Nonempty α1] [n2:Nonempty α2] {P:α0→α1→α2→Prop} (h:P (EE (nP n0 (nP n1 n2)) (epH3 P)).1 (EE (nP n0 (nP n1 n2)) (epH3 P)).2.1 (EE (nP n0 (nP n1 n2)) (epH3 P)).2.2):∀ x0 x1 x2,P x0 x1 x2:=fun x0 x1 x2=>epsT (Q:=epH3 P) h (x0,x1,x2)
theorem epX3 {α0 α1 α2:Type} [n0:Nonempty α0] [n1:Nonempty α1] [n2:Nonempty α2] {P:α0→α1→α2→Prop} (h:∃ x0 x1 x2,P x0 x1 x2):P (WW (nP n0 (nP n1 n2)) (epH3 P)).1 (WW (nP n0 (nP n1 n2)) (epH3 P)).2.1 (WW (nP n0 (nP n1 n2)) (epH3 P)).2.2:=Classical.epsilon_spec (p:=epH3 P) (h.elim fun x0 h=>h.elim fun x1 h=>h.elim fun x2 h=>⟨(x0,x1,x2),h⟩)
abbrev epH4 {α0 α1 α2 α3:Type} (P:α0→α1→α2→α3→Prop) (t:α0×α1×α2×α3):Prop:=P t.1 t.2.1 t.2.2.1 t.2.2.2
theorem epA4 {α0 α1 α2 α3:Type} [n0:Nonempty α0] [n1:Nonempty α1] [n2:Nonempty α2] [n3:Nonempty α3] {P:α0→α1→α2→α3→Prop} (h:P (EE (nP n0 (nP n1 (nP n2 n3))) (epH4 P)).1 (EE (nP n0 (nP n1 (nP n2 n3))) (epH4 P)).2.1 (EE (nP n0 (nP n1 (nP n2 n3))) (epH4 P)).2.2.1 (EE (nP n0 (nP n1 (nP n2 n3))) (epH4 P)).2.2.2):∀ x0 x1 x2 x3,P x0 x1 x2 x3:=fun x0 x1 x2 x3=>epsT (Q:=epH4 P) h (x0,x1,x2,x3)
theorem epX4 {α0 α1 α2 α3:Type} [n0:Nonempty α0] [n1:Nonempty α1] [n2:Nonempty α2] [n3:Nonempty α3] {P:α0→α1→α2→α3→Prop} (h:∃ x0 x1 x2 x3,P x0 x1 x2 x3):P (WW (nP n0 (nP n1 (nP n2 n3))) (epH4 P)).1 (WW (nP n0 (nP n1 (nP n2 n3))) (epH4 P)).2.1 (WW (nP n0 (nP n1 (nP n2 n3))) (epH4 P)).2.2.1 (WW (nP n0 (nP n1 (nP n2 n3))) (epH4 P)).2.2.2:=Classical.epsilon_spec (p:=epH4 P) (h.elim fun x0 h=>h.elim fun x1 h=>h.elim fun x2 h=>h.elim fun x3 h=>⟨(x0,x1,x2,x3),h⟩)
abbrev epH5 {α0 α1 α2 α3 α4:Type} (P:α0→α1→α2→α3→α4→Prop) (t:α0×α1×α2×α3×α4):Prop:=P t.1 t.2.1 t.2.2.1 t.2.2.2.1 t.2.2.2.2
theorem epA5 {α0 α1 α2 α3 α4:Type} [n0:Nonempty α0] [n1:Nonempty α1] [n2:Nonempty α2] [n3:Nonempty α3] [n4:Nonempty α4] {P:α0→α1→α2→α3→α4→Prop} (h:P (EE (nP n0 (nP n1 (nP n2 (nP n3 n4)))) (epH5 P)).1 (EE (nP n0 (nP n1 (nP n2 (nP n3 n4)))) (epH5 P)).2.1 (EE (nP n0 (nP n1 (nP n2 (nP n3 n4)))) (epH5 P)).2.2.1 (EE (nP n0 (nP n1 (nP n2 (nP n3 n4)))) (epH5 P)).2.2.2.1 (EE (nP n0 (nP n1 (nP n2 (nP n3 n4)))) (epH5 P)).2.2.2.2):∀ x0 x1 x2 x3 x4,P x0 x1 x2 x3 x4:=fun x0 x1 x2 x3 x4=>epsT (Q:=epH5 P) h (x0,x1,x2,x3,x4)
theorem epX5 {α0 α1 α2 α3 α4:Type} [n0:Nonempty α0] [n1:Nonempty α1] [n2:Nonempty α2] [n3:Nonempty α3] [n4:Nonempty α4] {P:α0→α1→α2→α3→α4→Prop} (h:∃ x0 x1 x2 x3 x4,P x0 x1 x2 x3 x4):P (WW (nP n0 (nP n1 (nP n2 (nP n3 n4)))) (epH5 P)).1 (WW (nP n0 (nP n1 (nP n2 (nP n3 n4)))) (epH5 P)).2.1 (WW (nP n0 (nP n1 (nP n2 (nP n3 n4)))) (epH5 P)).2.2.1 (WW (nP n0 (nP n1 (nP n2 (nP n3 n4)))) (epH5 P)).2.2.2.1 (WW (nP n0 (nP n1 (nP n2 (nP n3 n4)))) (epH5 P)).2.2.2.2:=Classical.epsilon_spec (p:=epH5 P) (h.elim fun x0 h=>h.elim fun x1 h=>h.elim fun x2 h=>h.elim fun x3 h=>h.elim fun x4 h=>⟨(x0,x1,x2,x3,x4),h⟩)
abbrev epH6 {α0 α1 α2 α3 α4 α5:Type} (P:α0→α1→α2→α3→α4→α5→Prop) (t:α0×α1×α2×α3×α4×α5):Prop:=P t.1 t.2.1 t.2.2.1 t.2.2.2.1 t.2.2.2.2.1 t.2.2.2.2.2
theorem epA6 {α0 α1 α2 α3 α4 α5:Type} [n0:Nonempty α0] [n1:Nonempty α1] [n2:Nonempty α2] [n3:Nonempty α3] [n4:Nonempty α4] [n5:Nonempty α5] {P:α0→α1→α2→α3→α4→α5→Prop} (h:P (EE (nP n0 (nP n1 (nP n2 (nP n3 (nP n4 n5))))) (epH6 P)).1 (EE (nP n0 (nP n1 (nP n2 (nP n3 (nP n4 n5))))) (epH6 P)).2.1 (EE (nP n0 (nP n1 (nP n2 (nP n3 (nP n4 n5))))) (epH6 P)).2.2.1 (EE (nP n0 (nP n1 (nP n2 (nP n3 (nP n4 n5))))) (epH6 P)).2.2.2.1 (EE (nP n0 (nP n1 (nP n2 (nP n3 (nP n4 n5))))) (epH6 P)).2.2.2.2.1 (EE (nP n0 (nP n1 (nP n2 (nP n3 (nP n4 n5))))) (epH6 P)).2.2.2.2.2):∀ x0 x1 x2 x3 x4 x5,P x0 x1 x2 x3 x4 x5:=fun x0 x1 x2 x3 x4 x5=>epsT (Q:=epH6 P) h (x0,x1,x2,x3,x4,x5)
theorem epX6 {α0 α1 α2 α3 α4 α5:Type} [n0:Nonempty α0] [n1:Nonempty α1] [n2:Nonempty α2] [n3:Nonempty α3] [n4:Nonempty α4] [n5:Nonempty α5] {P:α0→α1→α2→α3→α4→α5→Prop} (h:∃ x0 x1 x2 x3 x4 x5,P x0 x1 x2 x3 x4 x5):P (WW (nP n0 (nP n1 (nP n2 (nP n3 (nP n4 n5))))) (epH6 P)).1 (WW (nP n0 (nP n1 (nP n2 (nP n3 (nP n4 n5))))) (epH6 P)).2.1 (WW (nP n0 (nP n1 (nP n2 (nP n3 (nP n4 n5))))) (epH6 P)).2.2.1 (WW (nP n0 (nP n1 (nP n2 (nP n3 (nP n4 n5))))) (epH6 P)).2.2.2.1 (WW (nP n0 (nP n1 (nP n2 (nP n3 (nP n4 n5))))) (epH6 P)).2.2.2.2.1 (WW (nP n0 (nP n1 (nP n2 (nP n3 (nP n4 n5))))) (epH6 P)).2.2.2.2.2:=Classical.epsilon_spec (p:=epH6 P) (h.elim fun x0 h=>h.elim fun x1 h=>h.elim fun x2 h=>h.elim fun x3 h=>h.elim fun x4 h=>h.elim fun x5 h=>⟨(x0,x1,x2,x3,x4,x5),h⟩)
abbrev epH7 {α0 α1 α2 α3 α4 α5 α6:Type} (P:α0→α1→α2→α3→α4→α5→α6→Prop) (t:α0×α1×α2×α3×α4×α5×α6):Prop:=P t.1 t.2.1 t.2.2.1 t.2.2.2.1 t.2.2.2.2.1 t.2.2.2.2.2.1 t.2.2.2.2.2.2
theorem epA7 {α0 α1 α2 α3 α4 α5 α6:Type} [n0:Nonempty α0] [n1:Nonempty α1] [n2:Nonempty α2] [n3:Nonempty α3] [n4:Nonempty α4] [n5:Nonempty α5] [n6:Nonempty α6] {P:α0→α1→α2→α3→α4→α5→α6→Prop} (h:P (EE (nP n0 (nP n1 (nP n2 (nP n3 (nP n4 (nP n5 n6)))))) (epH7 P)).1 (EE (nP n0 (nP n1 (nP n2 (nP n3 (nP n4 (nP n5 n6)))))) (epH7 P)).2.1 (EE (nP n0 (nP n1 (nP n2 (nP n3 (nP n4 (nP n5 n6)))))) (epH7 P)).2.2.1 (EE (nP n0 (nP n1 (nP n2 (nP n3 (nP n4 (nP n5 n6)))))) (epH7 P)).2.2.2.1 (EE (nP n0 (nP n1 (nP n2 (nP n3 (nP n4 (nP n5 n6)))))) (epH7 P)).2.2.2.2.1 (EE (nP n0 (nP n1 (nP n2 (nP n3 (nP n4 (nP n5 n6)))))) (epH7 P)).2.2.2.2.2.1 (EE (nP n0 (nP n1 (nP n2 (nP n3 (nP n4 (nP n5 n6)))))) (epH7 P)).2.2.2.2.2.2):∀ x0 x1 x2 x3 x4 x5 x6,P x0 x1 x2 x3 x4 x5 x6:=fun x0 x1 x2 x3 x4 x5 x6=>epsT (Q:=epH7 P) h (x0,x1,x2,x3,x4,x5,x6)
abbrev epH8 {α0 α1 α2 α3 α4 α5 α6 α7:Type} (P:α0→α1→α2→α3→α4→α5→α6→α7→Prop) (t:α0×α1×α2×α3×α4×α5×α6×α7):Prop:=P t.1 t.2.1 t.2.2.1 t.2.2.2.1 t.2.2.2.2.1 t.2.2.2.2.2.1 t.2.2.2.2.2.2.1 t.2.2.2.2.2.2.2
theorem epA8 {α0 α1 α2 α3 α4 α5 α6 α7:Type} [n0:Nonempty α0] [n1:Nonempty α1] [n2:Nonempty α2] [n3:Nonempty α3] [n4:Nonempty α4] [n5:Nonempty α5] [n6:Nonempty α6] [n7:Nonempty α7] {P:α0→α1→α2→α3→α4→α5→α6→α7→Prop} (h:P (EE (nP n0 (nP n1 (nP n2 (nP n3 (nP n4 (nP n5 (nP n6 n7))))))) (epH8 P)).1 (EE (nP n0 (nP n1 (nP n2 (nP n3 (nP n4 (nP n5 (nP n6 n7))))))) (epH8 P)).2.1 (EE (nP n0 (nP n1 (nP n2 (nP n3 (nP n4 (nP n5 (nP n6 n7))))))) (epH8 P)).2.2.1 (EE (nP n0 (nP n1 (nP n2 (nP n3 (nP n4 (nP n5 (nP n6 n7))))))) (epH8 P)).2.2.2.1 (EE (nP n0 (nP n1 (nP n2 (nP n3 (nP n4 (nP n5 (nP n6 n7))))))) (epH8 P)).2.2.2.2.1 (EE (nP n0 (nP n1 (nP n2 (nP n3 (nP n4 (nP n5 (nP n6 n7))))))) (epH8 P)).2.2.2.2.2.1 (EE (nP n0 (nP n1 (nP n2 (nP n3 (nP n4 (nP n5 (nP n6 n7))))))) (epH8 P)).2.2.2.2.2.2.1 (EE (nP n0 (nP n1 (nP n2 (nP n3 (nP n4 (nP n5 (nP n6 n7))))))) (epH8 P)).2.2.2.2.2.2.2):∀ x0 x1 x2 x3 x4 x5 x6 x7,P x0 x1 x2 x3 x4 x5 x6 x7:=fun x0 x1 x2 x3 x4 x5 x6 x7=>epsT (Q:=epH8 P) h (x0,x1,x2,x3,x4,x5,x6,x7)
theorem epX8 {α0 α1 α2 α3 α4 α5 α6 α7:Type} [n0:Nonempty α0] [n1:Nonempty α1] [n2:Nonempty α2] [n3:Nonempty α3] [n4:Nonempty α4] [n5:Nonempty α5] [n6:Nonempty α6] [n7:Nonempty α7] {P:α0→α1→α2→α3→α4→α5→α6→α7→Prop} (h:∃ x0 x1 x2 x3 x4 x5 x6 x7,P x0 x1 x2 x3 x4 x5 x6 x7):P (WW (nP n0 (nP n1 (nP n2 (nP n3 (nP n4 (nP n5 (nP n6 n7))))))) (epH8 P)).1 (WW (nP n0 (nP n1 (nP n2 (nP n3 (nP n4 (nP n5 (nP n6 n7))))))) (epH8 P)).2.1 (WW (nP n0 (nP n1 (nP n2 (nP n3 (nP n4 (nP n5 (nP n6 n7))))))) (epH8 P)).2.2.1 (WW (nP n0 (nP n1 (nP n2 (nP n3 (nP n4 (nP n5 (nP n6 n7))))))) (epH8 P)).2.2.2.1 (WW (nP n0 (nP n1 (nP n2 (nP n3 (nP n4 (nP n5 (nP n6 n7))))))) (epH8 P)).2.2.2.2.1 (WW (nP n0 (nP n1 (nP n2 (nP n3 (nP n4 (nP n5 (nP n6 n7))))))) (epH8 P)).2.2.2.2.2.1 (WW (nP n0 (nP n1 (nP n2 (nP n3 (nP n4 (nP n5 (nP n6 n7))))))) (epH8 P)).2.2.2.2.2.2.1 (WW (nP n0 (nP n1 (nP n2 (nP n3 (nP n4 (nP n5 (nP n6 n7))))))) (epH8 P)).2.2.2.2.2.2.2:=Classical.epsilon_spec (p:=epH8 P) (h.elim fun x0 h=>h.elim fun x1 h=>h.elim fun x2 h=>h.elim fun x3 h=>h.elim fun x4 h=>h.elim fun x5 h=>h.elim fun x6 h=>h.elim fun x7 h=>⟨(x0,x1,x2,x3,x4,x5,x6,x7),h⟩)
abbrev epH9 {α0 α1 α2 α3 α4 α5 α6 α7 α8:Type} (P:α0→α1→α2→α3→α4→α5→α6→α7→α8→Prop) (t:α0×α1×α2×α3×α4×α5×α6×α7×α8):Prop:=P t.1 t.2.1 t.2.2.1 t.2.2.2.1 t.2.2.2.2.1 t.2.2.2.2.2.1 t.2.2.2.2.2.2.1 t.2.2.2.2.2.2.2.1 t.2.2.2.2.2.2.2.2
theorem epA9 {α0 α1 α2 α3 α4 α5 α6 α7 α8:Type} [n0:Nonempty α0] [n1:Nonempty α1] [n2:Nonempty α2] [n3:Nonempty α3] [n4:Nonempty α4] [n5:Nonempty α5] [n6:Nonempty α6] [n7:Nonempty α7] [n8:Nonempty α8] {P:α0→α1→α2→α3→α4→α5→α6→α7→α8→Prop} (h:P (EE (nP n0 (nP n1 (nP n2 (nP n3 (nP n4 (nP n5 (nP n6 (nP n7 n8)))))))) (epH9 P)).1 (EE (nP n0 (nP n1 (nP n2 (nP n3 (nP n4 (nP n5 (nP n6 (nP n7 n8)))))))) (epH9 P)).2.1 (EE (nP n0 (nP n1 (nP n2 (nP n3 (nP n4 (nP n5 (nP n6 (nP n7 n8)))))))) (epH9 P)).2.2.1 (EE (nP n0 (nP n1 (nP n2 (nP n3 (nP n4 (nP n5 (nP n6 (nP n7 n8)))))))) (epH9 P)).2.2.2.1 (EE (nP n0 (nP n1 (nP n2 (nP n3 (nP n4 (nP n5 (nP n6 (nP n7 n8)))))))) (epH9 P)).2.2.2.2.1 (EE (nP n0 (nP n1 (nP n2 (nP n3 (nP n4 (nP n5 (nP n6 (nP n7 n8)))))))) (epH9 P)).2.2.2.2.2.1 (EE (nP n0 (nP n1 (nP n2 (nP n3 (nP n4 (nP n5 (nP n6 (nP n7 n8)))))))) (epH9 P)).2.2.2.2.2.2.1 (EE (nP n0 (nP n1 (nP n2 (nP n3 (nP n4 (nP n5 (nP n6 (nP n7 n8)))))))) (epH9 P)).2.2.2.2.2.2.2.1 (EE (nP n0 (nP n1 (nP n2 (nP n3 (nP n4 (nP n5 (nP n6 (nP n7 n8)))))))) (epH9 P)).2.2.2.2.2.2.2.2):∀ x0 x1 x2 x3 x4 x5 x6 x7 x8,P x0 x1 x2 x3 x4 x5 x6 x7 x8:=fun x0 x1 x2 x3 x4 x5 x6 x7 x8=>epsT (Q:=epH9 P) h (x0,x1,x2,x3,x4,x5,x6,x7,x8)
abbrev epH10 {α0 α1 α2 α3 α4 α5 α6 α7 α8 α9:Type} (P:α0→α1→α2→α3→α4→α5→α6→α7→α8→α9→Prop) (t:α0×α1×α2×α3×α4×α5×α6×α7×α8×α9):Prop:=P t.1 t.2.1 t.2.2.1 t.2.2.2.1 t.2.2.2.2.1 t.2.2.2.2.2.1 t.2.2.2.2.2.2.1 t.2.2.2.2.2.2.2.1 t.2.2.2.2.2.2.2.2.1 t.2.2.2.2.2.2.2.2.2
theorem epA10 {α0 α1 α2 α3 α4 α5 α6 α7 α8 α9:Type} [n0:Nonempty α0] [n1:Nonempty α1] [n2:Nonempty α2] [n3:Nonempty α3] [n4:Nonempty α4] [n5:Nonempty α5] [n6:Nonempty α6] [n7:Nonempty α7] [n8:Nonempty α8] [n9:Nonempty α9] {P:α0→α1→α2→α3→α4→α5→α6→α7→α8→α9→Prop} (h:P (EE (nP n0 (nP n1 (nP n2 (nP n3 (nP n4 (nP n5 (nP n6 (nP n7 (nP n8 n9))))))))) (epH10 P)).1 (EE (nP n0 (nP n1 (nP n2 (nP n3 (nP n4 (nP n5 (nP n6 (nP n7 (nP n8 n9))))))))) (epH10 P)).2.1 (EE (nP n0 (nP n1 (nP n2 (nP n3 (nP n4 (nP n5 (nP n6 (nP n7 (nP n8 n9))))))))) (epH10 P)).2.2.1 (EE (nP n0 (nP n1 (nP n2 (nP n3 (nP n4 (nP n5 (nP n6 (nP n7 (nP n8 n9))))))))) (epH10 P)).2.2.2.1 (EE (nP n0 (nP n1 (nP n2 (nP n3 (nP n4 (nP n5 (nP n6 (nP n7 (nP n8 n9))))))))) (epH10 P)).2.2.2.2.1 (EE (nP n0 (nP n1 (nP n2 (nP n3 (nP n4 (nP n5 (nP n6 (nP n7 (nP n8 n9))))))))) (epH10 P)).2.2.2.2.2.1 (EE (nP n0 (nP n1 (nP n2 (nP n3 (nP n4 (nP n5 (nP n6 (nP n7 (nP n8 n9))))))))) (epH10 P)).2.2.2.2.2.2.1 (EE (nP n0 (nP n1 (nP n2 (nP n3 (nP n4 (nP n5 (nP n6 (nP n7 (nP n8 n9))))))))) (epH10 P)).2.2.2.2.2.2.2.1 (EE (nP n0 (nP n1 (nP n2 (nP n3 (nP n4 (nP n5 (nP n6 (nP n7 (nP n8 n9))))))))) (epH10 P)).2.2.2.2.2.2.2.2.1 (EE (nP n0 (nP n1 (nP n2 (nP n3 (nP n4 (nP n5 (nP n6 (nP n7 (nP n8 n9))))))))) (epH10 P)).2.2.2.2.2.2.2.2.2):∀ x0 x1 x2 x3 x4 x5 x6 x7 x8 x9,P x0 x1 x2 x3 x4 x5 x6 x7 x8 x9:=fun x0 x1 x2 x3 x4 x5 x6 x7 x8 x9=>epsT (Q:=epH10 P) h (x0,x1,x2,x3,x4,x5,x6,x7,x8,x9)
abbrev epH11 {α0 α1 α2 α3 α4 α5 α6 α7 α8 α9 α10:Type} (P:α0→α1→α2→α3→α4→α5→α6→α7→α8→α9→α10→Prop) (t:α0×α1×α2×α3×α4×α5×α6×α7×α8×α9×α10):Prop:=P t.1 t.2.1 t.2.2.1 t.2.2.2.1 t.2.2.2.2.1 t.2.2.2.2.2.1 t.2.2.2.2.2.2.1 t.2.2.2.2.2.2.2.1 t.2.2.2.2.2.2.2.2.1 t.2.2.2.2.2.2.2.2.2.1 t.2.2.2.2.2.2.2.2.2.2
theorem epA11 {α0 α1 α2 α3 α4 α5 α6 α7 α8 α9 α10:Type} [n0:Nonempty α0] [n1:Nonempty α1] [n2:Nonempty α2] [n3:Nonempty α3] [n4:Nonempty α4] [n5:Nonempty α5] [n6:Nonempty α6] [n7:Nonempty α7] [n8:Nonempty α8] [n9:Nonempty α9] [n10:Nonempty α10] {P:α0→α1→α2→α3→α4→α5→α6→α7→α8→α9→α10→Prop} (h:P (EE (nP n0 (nP n1 (nP n2 (nP n3 (nP n4 (nP n5 (nP n6 (nP n7 (nP n8 (nP n9 n10)))))))))) (epH11 P)).1 (EE (nP n0 (nP n1 (nP n2 (nP n3 (nP n4 (nP n5 (nP n6 (nP n7 (nP n8 (nP n9 n10)))))))))) (epH11 P)).2.1 (EE (nP n0 (nP n1 (nP n2 (nP n3 (nP n4 (nP n5 (nP n6 (nP n7 (nP n8 (nP n9 n10)))))))))) (epH11 P)).2.2.1 (EE (nP n0 (nP n1 (nP n2 (nP n3 (nP n4 (nP n5 (nP n6 (nP n7 (nP n8 (nP n9 n10)))))))))) (epH11 P)).2.2.2.1 (EE (nP n0 (nP n1 (nP n2 (nP n3 (nP n4 (nP n5 (nP n6 (nP n7 (nP n8 (nP n9 n10)))))))))) (epH11 P)).2.2.2.2.1 (EE (nP n0 (nP n1 (nP n2 (nP n3 (nP n4 (nP n5 (nP n6 (nP n7 (nP n8 (nP n9 n10)))))))))) (epH11 P)).2.2.2.2.2.1 (EE (nP n0 (nP n1 (nP n2 (nP n3 (nP n4 (nP n5 (nP n6 (nP n7 (nP n8 (nP n9 n10)))))))))) (epH11 P)).2.2.2.2.2.2.1 (EE (nP n0 (nP n1 (nP n2 (nP n3 (nP n4 (nP n5 (nP n6 (nP n7 (nP n8 (nP n9 n10)))))))))) (epH11 P)).2.2.2.2.2.2.2.1 (EE (nP n0 (nP n1 (nP n2 (nP n3 (nP n4 (nP n5 (nP n6 (nP n7 (nP n8 (nP n9 n10)))))))))) (epH11 P)).2.2.2.2.2.2.2.2.1 (EE (nP n0 (nP n1 (nP n2 (nP n3 (nP n4 (nP n5 (nP n6 (nP n7 (nP n8 (nP n9 n10)))))))))) (epH11 P)).2.2.2.2.2.2.2.2.2.1 (EE (nP n0 (nP n1 (nP n2 (nP n3 (nP n4 (nP n5 (nP n6 (nP n7 (nP n8 (nP n9 n10)))))))))) (epH11 P)).2.2.2.2.2.2.2.2.2.2):∀ x0 x1 x2 x3 x4 x5 x6 x7 x8 x9 x10,P x0 x1 x2 x3 x4 x5 x6 x7 x8 x9 x10:=fun x0 x1 x2 x3 x4 x5 x6 x7 x8 x9 x10=>epsT (Q:=epH11 P) h (x0,x1,x2,x3,x4,x5,x6,x7,x8,x9,x10)
abbrev epH12 {α0 α1 α2 α3 α4 α5 α6 α7 α8 α9 α10 α11:Type} (P:α0→α1→α2→α3→α4→α5→α6→α7→α8→α9→α10→α11→Prop) (t:α0×α1×α2×α3×α4×α5×α6×α7×α8×α9×α10×α11):Prop:=P t.1 t.2.1 t.2.2.1 t.2.2.2.1 t.2.2.2.2.1 t.2.2.2.2.2.1 t.2.2.2.2.2.2.1 t.2.2.2.2.2.2.2.1 t.2.2.2.2.2.2.2.2.1 t.2.2.2.2.2.2.2.2.2.1 t.2.2.2.2.2.2.2.2.2.2.1 t.2.2.2.2.2.2.2.2.2.2.2
theorem epA12 {α0 α1 α2 α3 α4 α5 α6 α7 α8 α9 α10 α11:Type} [n0:Nonempty α0] [n1:Nonempty α1] [n2:Nonempty α2] [n3:Nonempty α3] [n4:Nonempty α4] [n5:Nonempty α5] [n6:Nonempty α6] [n7:Nonempty α7] [n8:Nonempty α8] [n9:Nonempty α9] [n10:Nonempty α10] [n11:Nonempty α11] {P:α0→α1→α2→α3→α4→α5→α6→α7→α8→α9→α10→α11→Prop} (h:P (EE (nP n0 (nP n1 (nP n2 (nP n3 (nP n4 (nP n5 (nP n6 (nP n7 (nP n8 (nP n9 (nP n10 n11))))))))))) (epH12 P)).1 (EE (nP n0 (nP n1 (nP n2 (nP n3 (nP n4 (nP n5 (nP n6 (nP n7 (nP n8 (nP n9 (nP n10 n11))))))))))) (epH12 P)).2.1 (EE (nP n0 (nP n1 (nP n2 (nP n3 (nP n4 (nP n5 (nP n6 (nP n7 (nP n8 (nP n9 (nP n10 n11))))))))))) (epH12 P)).2.2.1 (EE (nP n0 (nP n1 (nP n2 (nP n3 (nP n4 (nP n5 (nP n6 (nP n7 (nP n8 (nP n9 (nP n10 n11))))))))))) (epH12 P)).2.2.2.1 (EE (nP n0 (nP n1 (nP n2 (nP n3 (nP n4 (nP n5 (nP n6 (nP n7 (nP n8 (nP n9 (nP n10 n11))))))))))) (epH12 P)).2.2.2.2.1 (EE (nP n0 (nP n1 (nP n2 (nP n3 (nP n4 (nP n5 (nP n6 (nP n7 (nP n8 (nP n9 (nP n10 n11))))))))))) (epH12 P)).2.2.2.2.2.1 (EE (nP n0 (nP n1 (nP n2 (nP n3 (nP n4 (nP n5 (nP n6 (nP n7 (nP n8 (nP n9 (nP n10 n11))))))))))) (epH12 P)).2.2.2.2.2.2.1 (EE (nP n0 (nP n1 (nP n2 (nP n3 (nP n4 (nP n5 (nP n6 (nP n7 (nP n8 (nP n9 (nP n10 n11))))))))))) (epH12 P)).2.2.2.2.2.2.2.1 (EE (nP n0 (nP n1 (nP n2 (nP n3 (nP n4 (nP n5 (nP n6 (nP n7 (nP n8 (nP n9 (nP n10 n11))))))))))) (epH12 P)).2.2.2.2.2.2.2.2.1 (EE (nP n0 (nP n1 (nP n2 (nP n3 (nP n4 (nP n5 (nP n6 (nP n7 (nP n8 (nP n9 (nP n10 n11))))))))))) (epH12 P)).2.2.2.2.2.2.2.2.2.1 (EE (nP n0 (nP n1 (nP n2 (nP n3 (nP n4 (nP n5 (nP n6 (nP n7 (nP n8 (nP n9 (nP n10 n11))))))))))) (epH12 P)).2.2.2.2.2.2.2.2.2.2.1 (EE (nP n0 (nP n1 (nP n2 (nP n3 (nP n4 (nP n5 (nP n6 (nP n7 (nP n8 (nP n9 (nP n10 n11))))))))))) (epH12 P)).2.2.2.2.2.2.2.2.2.2.2):∀ x0 x1 x2 x3 x4 x5 x6 x7 x8 x9 x10 x11,P x0 x1 x2 x3 x4 x5 x6 x7 x8 x9 x10 x11:=fun x0 x1 x2 x3 x4 x5 x6 x7 x8 x9 x10 x11=>epsT (Q:=epH12 P) h (x0,x1,x2,x3,x4,x5,x6,x7,x8,x9,x10,x11)
abbrev epH13 {α0 α1 α2 α3 α4 α5 α6 α7 α8 α9 α10 α11 α12:Type} (P:α0→α1→α2→α3→α4→α5→α6→α7→α8→α9→α10→α11→α12→Prop) (t:α0×α1×α2×α3×α4×α5×α6×α7×α8×α9×α10×α11×α12):Prop:=P t.1 t.2.1 t.2.2.1 t.2.2.2.1 t.2.2.2.2.1 t.2.2.2.2.2.1 t.2.2.2.2.2.2.1 t.2.2.2.2.2.2.2.1 t.2.2.2.2.2.2.2.2.1 t.2.2.2.2.2.2.2.2.2.1 t.2.2.2.2.2.2.2.2.2.2.1 t.2.2.2.2.2.2.2.2.2.2.2.1 t.2.2.2.2.2.2.2.2.2.2.2.2
theorem epA13 {α0 α1 α2 α3 α4 α5 α6 α7 α8 α9 α10 α11 α12:Type} [n0:Nonempty α0] [n1:Nonempty α1] [n2:Nonempty α2] [n3:Nonempty α3] [n4:Nonempty α4] [n5:Nonempty α5] [n6:Nonempty α6] [n7:Nonempty α7] [n8:Nonempty α8] [n9:Nonempty α9] [n10:Nonempty α10] [n11:Nonempty α11] [n12:Nonempty α12] {P:α0→α1→α2→α3→α4→α5→α6→α7→α8→α9→α10→α11→α12→Prop} (h:P (EE (nP n0 (nP n1 (nP n2 (nP n3 (nP n4 (nP n5 (nP n6 (nP n7 (nP n8 (nP n9 (nP n10 (nP n11 n12)))))))))))) (epH13 P)).1 (EE (nP n0 (nP n1 (nP n2 (nP n3 (nP n4 (nP n5 (nP n6 (nP n7 (nP n8 (nP n9 (nP n10 (nP n11 n12)))))))))))) (epH13 P)).2.1 (EE (nP n0 (nP n1 (nP n2 (nP n3 (nP n4 (nP n5 (nP n6 (nP n7 (nP n8 (nP n9 (nP n10 (nP n11 n12)))))))))))) (epH13 P)).2.2.1 (EE (nP n0 (nP n1 (nP n2 (nP n3 (nP n4 (nP n5 (nP n6 (nP n7 (nP n8 (nP n9 (nP n10 (nP n11 n12)))))))))))) (epH13 P)).2.2.2.1 (EE (nP n0 (nP n1 (nP n2 (nP n3 (nP n4 (nP n5 (nP n6 (nP n7 (nP n8 (nP n9 (nP n10 (nP n11 n12)))))))))))) (epH13 P)).2.2.2.2.1 (EE (nP n0 (nP n1 (nP n2 (nP n3 (nP n4 (nP n5 (nP n6 (nP n7 (nP n8 (nP n9 (nP n10 (nP n11 n12)))))))))))) (epH13 P)).2.2.2.2.2.1 (EE (nP n0 (nP n1 (nP n2 (nP n3 (nP n4 (nP n5 (nP n6 (nP n7 (nP n8 (nP n9 (nP n10 (nP n11 n12)))))))))))) (epH13 P)).2.2.2.2.2.2.1 (EE (nP n0 (nP n1 (nP n2 (nP n3 (nP n4 (nP n5 (nP n6 (nP n7 (nP n8 (nP n9 (nP n10 (nP n11 n12)))))))))))) (epH13 P)).2.2.2.2.2.2.2.1 (EE (nP n0 (nP n1 (nP n2 (nP n3 (nP n4 (nP n5 (nP n6 (nP n7 (nP n8 (nP n9 (nP n10 (nP n11 n12)))))))))))) (epH13 P)).2.2.2.2.2.2.2.2.1 (EE (nP n0 (nP n1 (nP n2 (nP n3 (nP n4 (nP n5 (nP n6 (nP n7 (nP n8 (nP n9 (nP n10 (nP n11 n12)))))))))))) (epH13 P)).2.2.2.2.2.2.2.2.2.1 (EE (nP n0 (nP n1 (nP n2 (nP n3 (nP n4 (nP n5 (nP n6 (nP n7 (nP n8 (nP n9 (nP n10 (nP n11 n12)))))))))))) (epH13 P)).2.2.2.2.2.2.2.2.2.2.1 (EE (nP n0 (nP n1 (nP n2 (nP n3 (nP n4 (nP n5 (nP n6 (nP n7 (nP n8 (nP n9 (nP n10 (nP n11 n12)))))))))))) (epH13 P)).2.2.2.2.2.2.2.2.2.2.2.1 (EE (nP n0 (nP n1 (nP n2 (nP n3 (nP n4 (nP n5 (nP n6 (nP n7 (nP n8 (nP n9 (nP n10 (nP n11 n12)))))))))))) (epH13 P)).2.2.2.2.2.2.2.2.2.2.2.2):∀ x0 x1 x2 x3 x4 x5 x6 x7 x8 x9 x10 x11 x12,P x0 x1 x2 x3 x4 x5 x6 x7 x8 x9 x10 x11 x12:=fun x0 x1 x2 x3 x4 x5 x6 x7 x8 x9 x10 x11 x12=>epsT (Q:=epH13 P) h (x0,x1,x2,x3,x4,x5,x6,x7,x8,x9,x10,x11,x12)
abbrev epH14 {α0 α1 α2 α3 α4 α5 α6 α7 α8 α9 α10 α11 α12 α13:Type} (P:α0→α1→α2→α3→α4→α5→α6→α7→α8→α9→α10→α11→α12→α13→Prop) (t:α0×α1×α2×α3×α4×α5×α6×α7×α8×α9×α10×α11×α12×α13):Prop:=P t.1 t.2.1 t.2.2.1 t.2.2.2.1 t.2.2.2.2.1 t.2.2.2.2.2.1 t.2.2.2.2.2.2.1 t.2.2.2.2.2.2.2.1 t.2.2.2.2.2.2.2.2.1 t.2.2.2.2.2.2.2.2.2.1 t.2.2.2.2.2.2.2.2.2.2.1 t.2.2.2.2.2.2.2.2.2.2.2.1 t.2.2.2.2.2.2.2.2.2.2.2.2.1 t.2.2.2.2.2.2.2.2.2.2.2.2.2
theorem epA14 {α0 α1 α2 α3 α4 α5 α6 α7 α8 α9 α10 α11 α12 α13:Type} [n0:Nonempty α0] [n1:Nonempty α1] [n2:Nonempty α2] [n3:Nonempty α3] [n4:Nonempty α4] [n5:Nonempty α5] [n6:Nonempty α6] [n7:Nonempty α7] [n8:Nonempty α8] [n9:Nonempty α9] [n10:Nonempty α10] [n11:Nonempty α11] [n12:Nonempty α12] [n13:Nonempty α13] {P:α0→α1→α2→α3→α4→α5→α6→α7→α8→α9→α10→α11→α12→α13→Prop} (h:P (EE (nP n0 (nP n1 (nP n2 (nP n3 (nP n4 (nP n5 (nP n6 (nP n7 (nP n8 (nP n9 (nP n10 (nP n11 (nP n12 n13))))))))))))) (epH14 P)).1 (EE (nP n0 (nP n1 (nP n2 (nP n3 (nP n4 (nP n5 (nP n6 (nP n7 (nP n8 (nP n9 (nP n10 (nP n11 (nP n12 n13))))))))))))) (epH14 P)).2.1 (EE (nP n0 (nP n1 (nP n2 (nP n3 (nP n4 (nP n5 (nP n6 (nP n7 (nP n8 (nP n9 (nP n10 (nP n11 (nP n12 n13))))))))))))) (epH14 P)).2.2.1 (EE (nP n0 (nP n1 (nP n2 (nP n3 (nP n4 (nP n5 (nP n6 (nP n7 (nP n8 (nP n9 (nP n10 (nP n11 (nP n12 n13))))))))))))) (epH14 P)).2.2.2.1 (EE (nP n0 (nP n1 (nP n2 (nP n3 (nP n4 (nP n5 (nP n6 (nP n7 (nP n8 (nP n9 (nP n10 (nP n11 (nP n12 n13))))))))))))) (epH14 P)).2.2.2.2.1 (EE (nP n0 (nP n1 (nP n2 (nP n3 (nP n4 (nP n5 (nP n6 (nP n7 (nP n8 (nP n9 (nP n10 (nP n11 (nP n12 n13))))))))))))) (epH14 P)).2.2.2.2.2.1 (EE (nP n0 (nP n1 (nP n2 (nP n3 (nP n4 (nP n5 (nP n6 (nP n7 (nP n8 (nP n9 (nP n10 (nP n11 (nP n12 n13))))))))))))) (epH14 P)).2.2.2.2.2.2.1 (EE (nP n0 (nP n1 (nP n2 (nP n3 (nP n4 (nP n5 (nP n6 (nP n7 (nP n8 (nP n9 (nP n10 (nP n11 (nP n12 n13))))))))))))) (epH14 P)).2.2.2.2.2.2.2.1 (EE (nP n0 (nP n1 (nP n2 (nP n3 (nP n4 (nP n5 (nP n6 (nP n7 (nP n8 (nP n9 (nP n10 (nP n11 (nP n12 n13))))))))))))) (epH14 P)).2.2.2.2.2.2.2.2.1 (EE (nP n0 (nP n1 (nP n2 (nP n3 (nP n4 (nP n5 (nP n6 (nP n7 (nP n8 (nP n9 (nP n10 (nP n11 (nP n12 n13))))))))))))) (epH14 P)).2.2.2.2.2.2.2.2.2.1 (EE (nP n0 (nP n1 (nP n2 (nP n3 (nP n4 (nP n5 (nP n6 (nP n7 (nP n8 (nP n9 (nP n10 (nP n11 (nP n12 n13))))))))))))) (epH14 P)).2.2.2.2.2.2.2.2.2.2.1 (EE (nP n0 (nP n1 (nP n2 (nP n3 (nP n4 (nP n5 (nP n6 (nP n7 (nP n8 (nP n9 (nP n10 (nP n11 (nP n12 n13))))))))))))) (epH14 P)).2.2.2.2.2.2.2.2.2.2.2.1 (EE (nP n0 (nP n1 (nP n2 (nP n3 (nP n4 (nP n5 (nP n6 (nP n7 (nP n8 (nP n9 (nP n10 (nP n11 (nP n12 n13))))))))))))) (epH14 P)).2.2.2.2.2.2.2.2.2.2.2.2.1 (EE (nP n0 (nP n1 (nP n2 (nP n3 (nP n4 (nP n5 (nP n6 (nP n7 (nP n8 (nP n9 (nP n10 (nP n11 (nP n12 n13))))))))))))) (epH14 P)).2.2.2.2.2.2.2.2.2.2.2.2.2):∀ x0 x1 x2 x3 x4 x5 x6 x7 x8 x9 x10 x11 x12 x13,P x0 x1 x2 x3 x4 x5 x6 x7 x8 x9 x10 x11 x12 x13:=fun x0 x1 x2 x3 x4 x5 x6 x7 x8 x9 x10 x11 x12 x13=>epsT (Q:=epH14 P) h (x0,x1,x2,x3,x4,x5,x6,x7,x8,x9,x10,x11,x12,x13)
abbrev epH15 {α0 α1 α2 α3 α4 α5 α6 α7 α8 α9 α10 α11 α12 α13 α14:Type} (P:α0→α1→α2→α3→α4→α5→α6→α7→α8→α9→α10→α11→α12→α13→α14→Prop) (t:α0×α1×α2×α3×α4×α5×α6×α7×α8×α9×α10×α11×α12×α13×α14):Prop:=P t.1 t.2.1 t.2.2.1 t.2.2.2.1 t.2.2.2.2.1 t.2.2.2.2.2.1 t.2.2.2.2.2.2.1 t.2.2.2.2.2.2.2.1 t.2.2.2.2.2.2.2.2.1 t.2.2.2.2.2.2.2.2.2.1 t.2.2.2.2.2.2.2.2.2.2.1 t.2.2.2.2.2.2.2.2.2.2.2.1 t.2.2.2.2.2.2.2.2.2.2.2.2.1 t.2.2.2.2.2.2.2.2.2.2.2.2.2.1 t.2.2.2.2.2.2.2.2.2.2.2.2.2.2
theorem epA15 {α0 α1 α2 α3 α4 α5 α6 α7 α8 α9 α10 α11 α12 α13 α14:Type} [n0:Nonempty α0] [n1:Nonempty α1] [n2:Nonempty α2] [n3:Nonempty α3] [n4:Nonempty α4] [n5:Nonempty α5] [n6:Nonempty α6] [n7:Nonempty α7] [n8:Nonempty α8] [n9:Nonempty α9] [n10:Nonempty α10] [n11:Nonempty α11] [n12:Nonempty α12] [n13:Nonempty α13] [n14:Nonempty α14] {P:α0→α1→α2→α3→α4→α5→α6→α7→α8→α9→α10→α11→α12→α13→α14→Prop} (h:P (EE (nP n0 (nP n1 (nP n2 (nP n3 (nP n4 (nP n5 (nP n6 (nP n7 (nP n8 (nP n9 (nP n10 (nP n11 (nP n12 (nP n13 n14)))))))))))))) (epH15 P)).1 (EE (nP n0 (nP n1 (nP n2 (nP n3 (nP n4 (nP n5 (nP n6 (nP n7 (nP n8 (nP n9 (nP n10 (nP n11 (nP n12 (nP n13 n14)))))))))))))) (epH15 P)).2.1 (EE (nP n0 (nP n1 (nP n2 (nP n3 (nP n4 (nP n5 (nP n6 (nP n7 (nP n8 (nP n9 (nP n10 (nP n11 (nP n12 (nP n13 n14)))))))))))))) (epH15 P)).2.2.1 (EE (nP n0 (nP n1 (nP n2 (nP n3 (nP n4 (nP n5 (nP n6 (nP n7 (nP n8 (nP n9 (nP n10 (nP n11 (nP n12 (nP n13 n14)))))))))))))) (epH15 P)).2.2.2.1 (EE (nP n0 (nP n1 (nP n2 (nP n3 (nP n4 (nP n5 (nP n6 (nP n7 (nP n8 (nP n9 (nP n10 (nP n11 (nP n12 (nP n13 n14)))))))))))))) (epH15 P)).2.2.2.2.1 (EE (nP n0 (nP n1 (nP n2 (nP n3 (nP n4 (nP n5 (nP n6 (nP n7 (nP n8 (nP n9 (nP n10 (nP n11 (nP n12 (nP n13 n14)))))))))))))) (epH15 P)).2.2.2.2.2.1 (EE (nP n0 (nP n1 (nP n2 (nP n3 (nP n4 (nP n5 (nP n6 (nP n7 (nP n8 (nP n9 (nP n10 (nP n11 (nP n12 (nP n13 n14)))))))))))))) (epH15 P)).2.2.2.2.2.2.1 (EE (nP n0 (nP n1 (nP n2 (nP n3 (nP n4 (nP n5 (nP n6 (nP n7 (nP n8 (nP n9 (nP n10 (nP n11 (nP n12 (nP n13 n14)))))))))))))) (epH15 P)).2.2.2.2.2.2.2.1 (EE (nP n0 (nP n1 (nP n2 (nP n3 (nP n4 (nP n5 (nP n6 (nP n7 (nP n8 (nP n9 (nP n10 (nP n11 (nP n12 (nP n13 n14)))))))))))))) (epH15 P)).2.2.2.2.2.2.2.2.1 (EE (nP n0 (nP n1 (nP n2 (nP n3 (nP n4 (nP n5 (nP n6 (nP n7 (nP n8 (nP n9 (nP n10 (nP n11 (nP n12 (nP n13 n14)))))))))))))) (epH15 P)).2.2.2.2.2.2.2.2.2.1 (EE (nP n0 (nP n1 (nP n2 (nP n3 (nP n4 (nP n5 (nP n6 (nP n7 (nP n8 (nP n9 (nP n10 (nP n11 (nP n12 (nP n13 n14)))))))))))))) (epH15 P)).2.2.2.2.2.2.2.2.2.2.1 (EE (nP n0 (nP n1 (nP n2 (nP n3 (nP n4 (nP n5 (nP n6 (nP n7 (nP n8 (nP n9 (nP n10 (nP n11 (nP n12 (nP n13 n14)))))))))))))) (epH15 P)).2.2.2.2.2.2.2.2.2.2.2.1 (EE (nP n0 (nP n1 (nP n2 (nP n3 (nP n4 (nP n5 (nP n6 (nP n7 (nP n8 (nP n9 (nP n10 (nP n11 (nP n12 (nP n13 n14)))))))))))))) (epH15 P)).2.2.2.2.2.2.2.2.2.2.2.2.1 (EE (nP n0 (nP n1 (nP n2 (nP n3 (nP n4 (nP n5 (nP n6 (nP n7 (nP n8 (nP n9 (nP n10 (nP n11 (nP n12 (nP n13 n14)))))))))))))) (epH15 P)).2.2.2.2.2.2.2.2.2.2.2.2.2.1 (EE (nP n0 (nP n1 (nP n2 (nP n3 (nP n4 (nP n5 (nP n6 (nP n7 (nP n8 (nP n9 (nP n10 (nP n11 (nP n12 (nP n13 n14)))))))))))))) (epH15 P)).2.2.2.2.2.2.2.2.2.2.2.2.2.2):∀ x0 x1 x2 x3 x4 x5 x6 x7 x8 x9 x10 x11 x12 x13 x14,P x0 x1 x2 x3 x4 x5 x6 x7 x8 x9 x10 x11 x12 x13 x14:=fun x0 x1 x2 x3 x4 x5 x6 x7 x8 x9 x10 x11 x12 x13 x14=>epsT (Q:=epH15 P) h (x0,x1,x2,x3,x4,x5,x6,x7,x8,x9,x10,x11,x12,x13,x14)
abbrev epH16 {α0 α1 α2 α3 α4 α5 α6 α7 α8 α9 α10 α11 α12 α13 α14 α15:Type} (P:α0→α1→α2→α3→α4→α5→α6→α7→α8→α9→α10→α11→α12→α13→α14→α15→Prop) (t:α0×α1×α2×α3×α4×α5×α6×α7×α8×α9×α10×α11×α12×α13×α14×α15):Prop:=P t.1 t.2.1 t.2.2.1 t.2.2.2.1 t.2.2.2.2.1 t.2.2.2.2.2.1 t.2.2.2.2.2.2.1 t.2.2.2.2.2.2.2.1 t.2.2.2.2.2.2.2.2.1 t.2.2.2.2.2.2.2.2.2.1 t.2.2.2.2.2.2.2.2.2.2.1 t.2.2.2.2.2.2.2.2.2.2.2.1 t.2.2.2.2.2.2.2.2.2.2.2.2.1 t.2.2.2.2.2.2.2.2.2.2.2.2.2.1 t.2.2.2.2.2.2.2.2.2.2.2.2.2.2.1 t.2.2.2.2.2.2.2.2.2.2.2.2.2.2.2
theorem epA16 {α0 α1 α2 α3 α4 α5 α6 α7 α8 α9 α10 α11 α12 α13 α14 α15:Type} [n0:Nonempty α0] [n1:Nonempty α1] [n2:Nonempty α2] [n3:Nonempty α3] [n4:Nonempty α4] [n5:Nonempty α5] [n6:Nonempty α6] [n7:Nonempty α7] [n8:Nonempty α8] [n9:Nonempty α9] [n10:Nonempty α10] [n11:Nonempty α11] [n12:Nonempty α12] [n13:Nonempty α13] [n14:Nonempty α14] [n15:Nonempty α15] {P:α0→α1→α2→α3→α4→α5→α6→α7→α8→α9→α10→α11→α12→α13→α14→α15→Prop} (h:P (EE (nP n0 (nP n1 (nP n2 (nP n3 (nP n4 (nP n5 (nP n6 (nP n7 (nP n8 (nP n9 (nP n10 (nP n11 (nP n12 (nP n13 (nP n14 n15))))))))))))))) (epH16 P)).1 (EE (nP n0 (nP n1 (nP n2 (nP n3 (nP n4 (nP n5 (nP n6 (nP n7 (nP n8 (nP n9 (nP n10 (nP n11 (nP n12 (nP n13 (nP n14 n15))))))))))))))) (epH16 P)).2.1 (EE (nP n0 (nP n1 (nP n2 (nP n3 (nP n4 (nP n5 (nP n6 (nP n7 (nP n8 (nP n9 (nP n10 (nP n11 (nP n12 (nP n13 (nP n14 n15))))))))))))))) (epH16 P)).2.2.1 (EE (nP n0 (nP n1 (nP n2 (nP n3 (nP n4 (nP n5 (nP n6 (nP n7 (nP n8 (nP n9 (nP n10 (nP n11 (nP n12 (nP n13 (nP n14 n15))))))))))))))) (epH16 P)).2.2.2.1 (EE (nP n0 (nP n1 (nP n2 (nP n3 (nP n4 (nP n5 (nP n6 (nP n7 (nP n8 (nP n9 (nP n10 (nP n11 (nP n12 (nP n13 (nP n14 n15))))))))))))))) (epH16 P)).2.2.2.2.1 (EE (nP n0 (nP n1 (nP n2 (nP n3 (nP n4 (nP n5 (nP n6 (nP n7 (nP n8 (nP n9 (nP n10 (nP n11 (nP n12 (nP n13 (nP n14 n15))))))))))))))) (epH16 P)).2.2.2.2.2.1 (EE (nP n0 (nP n1 (nP n2 (nP n3 (nP n4 (nP n5 (nP n6 (nP n7 (nP n8 (nP n9 (nP n10 (nP n11 (nP n12 (nP n13 (nP n14 n15))))))))))))))) (epH16 P)).2.2.2.2.2.2.1 (EE (nP n0 (nP n1 (nP n2 (nP n3 (nP n4 (nP n5 (nP n6 (nP n7 (nP n8 (nP n9 (nP n10 (nP n11 (nP n12 (nP n13 (nP n14 n15))))))))))))))) (epH16 P)).2.2.2.2.2.2.2.1 (EE (nP n0 (nP n1 (nP n2 (nP n3 (nP n4 (nP n5 (nP n6 (nP n7 (nP n8 (nP n9 (nP n10 (nP n11 (nP n12 (nP n13 (nP n14 n15))))))))))))))) (epH16 P)).2.2.2.2.2.2.2.2.1 (EE (nP n0 (nP n1 (nP n2 (nP n3 (nP n4 (nP n5 (nP n6 (nP n7 (nP n8 (nP n9 (nP n10 (nP n11 (nP n12 (nP n13 (nP n14 n15))))))))))))))) (epH16 P)).2.2.2.2.2.2.2.2.2.1 (EE (nP n0 (nP n1 (nP n2 (nP n3 (nP n4 (nP n5 (nP n6 (nP n7 (nP n8 (nP n9 (nP n10 (nP n11 (nP n12 (nP n13 (nP n14 n15))))))))))))))) (epH16 P)).2.2.2.2.2.2.2.2.2.2.1 (EE (nP n0 (nP n1 (nP n2 (nP n3 (nP n4 (nP n5 (nP n6 (nP n7 (nP n8 (nP n9 (nP n10 (nP n11 (nP n12 (nP n13 (nP n14 n15))))))))))))))) (epH16 P)).2.2.2.2.2.2.2.2.2.2.2.1 (EE (nP n0 (nP n1 (nP n2 (nP n3 (nP n4 (nP n5 (nP n6 (nP n7 (nP n8 (nP n9 (nP n10 (nP n11 (nP n12 (nP n13 (nP n14 n15))))))))))))))) (epH16 P)).2.2.2.2.2.2.2.2.2.2.2.2.1 (EE (nP n0 (nP n1 (nP n2 (nP n3 (nP n4 (nP n5 (nP n6 (nP n7 (nP n8 (nP n9 (nP n10 (nP n11 (nP n12 (nP n13 (nP n14 n15))))))))))))))) (epH16 P)).2.2.2.2.2.2.2.2.2.2.2.2.2.1 (EE (nP n0 (nP n1 (nP n2 (nP n3 (nP n4 (nP n5 (nP n6 (nP n7 (nP n8 (nP n9 (nP n10 (nP n11 (nP n12 (nP n13 (nP n14 n15))))))))))))))) (epH16 P)).2.2.2.2.2.2.2.2.2.2.2.2.2.2.1 (EE (nP n0 (nP n1 (nP n2 (nP n3 (nP n4 (nP n5 (nP n6 (nP n7 (nP n8 (nP n9 (nP n10 (nP n11 (nP n12 (nP n13 (nP n14 n15))))))))))))))) (epH16 P)).2.2.2.2.2.2.2.2.2.2.2.2.2.2.2):∀ x0 x1 x2 x3 x4 x5 x6 x7 x8 x9 x10 x11 x12 x13 x14 x15,P x0 x1 x2 x3 x4 x5 x6 x7 x8 x9 x10 x11 x12 x13 x14 x15:=fun x0 x1 x2 x3 x4 x5 x6 x7 x8 x9 x10 x11 x12 x13 x14 x15=>epsT (Q:=epH16 P) h (x0,x1,x2,x3,x4,x5,x6,x7,x8,x9,x10,x11,x12,x13,x14,x15)
abbrev epH17 {α0 α1 α2 α3 α4 α5 α6 α7 α8 α9 α10 α11 α12 α13 α14 α15 α16:Type} (P:α0→α1→α2→α3→α4→α5→α6→α7→α8→α9→α10→α11→α12→α13→α14→α15→α16→Prop) (t:α0×α1×α2×α3×α4×α5×α6×α7×α8×α9×α10×α11×α12×α13×α14×α15×α16):Prop:=P t.1 t.2.1 t.2.2.1 t.2.2.2.1 t.2.2.2.2.1 t.2.2.2.2.2.1 t.2.2.2.2.2.2.1 t.2.2.2.2.2.2.2.1 t.2.2.2.2.2.2.2.2.1 t.2.2.2.2.2.2.2.2.2.1 t.2.2.2.2.2.2.2.2.2.2.1 t.2.2.2.2.2.2.2.2.2.2.2.1 t.2.2.2.2.2.2.2.2.2.2.2.2.1 t.2.2.2.2.2.2.2.2.2.2.2.2.2.1 t.2.2.2.2.2.2.2.2.2.2.2.2.2.2.1 t.2.2.2.2.2.2.2.2.2.2.2.2.2.2.2.1 t.2.2.2.2.2.2.2.2.2.2.2.2.2.2.2.2
theorem epA17 {α0 α1 α2 α3 α4 α5 α6 α7 α8 α9 α10 α11 α12 α13 α14 α15 α16:Type} [n0:Nonempty α0] [n1:Nonempty α1] [n2:Nonempty α2] [n3:Nonempty α3] [n4:Nonempty α4] [n5:Nonempty α5] [n6:Nonempty α6] [n7:Nonempty α7] [n8:Nonempty α8] [n9:Nonempty α9] [n10:Nonempty α10] [n11:Nonempty α11] [n12:Nonempty α12] [n13:Nonempty α13] [n14:Nonempty α14] [n15:Nonempty α15] [n16:Nonempty α16] {P:α0→α1→α2→α3→α4→α5→α6→α7→α8→α9→α10→α11→α12→α13→α14→α15→α16→Prop} (h:P (EE (nP n0 (nP n1 (nP n2 (nP n3 (nP n4 (nP n5 (nP n6 (nP n7 (nP n8 (nP n9 (nP n10 (nP n11 (nP n12 (nP n13 (nP n14 (nP n15 n16)))))))))))))))) (epH17 P)).1 (EE (nP n0 (nP n1 (nP n2 (nP n3 (nP n4 (nP n5 (nP n6 (nP n7 (nP n8 (nP n9 (nP n10 (nP n11 (nP n12 (nP n13 (nP n14 (nP n15 n16)))))))))))))))) (epH17 P)).2.1 (EE (nP n0 (nP n1 (nP n2 (nP n3 (nP n4 (nP n5 (nP n6 (nP n7 (nP n8 (nP n9 (nP n10 (nP n11 (nP n12 (nP n13 (nP n14 (nP n15 n16)))))))))))))))) (epH17 P)).2.2.1 (EE (nP n0 (nP n1 (nP n2 (nP n3 (nP n4 (nP n5 (nP n6 (nP n7 (nP n8 (nP n9 (nP n10 (nP n11 (nP n12 (nP n13 (nP n14 (nP n15 n16)))))))))))))))) (epH17 P)).2.2.2.1 (EE (nP n0 (nP n1 (nP n2 (nP n3 (nP n4 (nP n5 (nP n6 (nP n7 (nP n8 (nP n9 (nP n10 (nP n11 (nP n12 (nP n13 (nP n14 (nP n15 n16)))))))))))))))) (epH17 P)).2.2.2.2.1 (EE (nP n0 (nP n1 (nP n2 (nP n3 (nP n4 (nP n5 (nP n6 (nP n7 (nP n8 (nP n9 (nP n10 (nP n11 (nP n12 (nP n13 (nP n14 (nP n15 n16)))))))))))))))) (epH17 P)).2.2.2.2.2.1 (EE (nP n0 (nP n1 (nP n2 (nP n3 (nP n4 (nP n5 (nP n6 (nP n7 (nP n8 (nP n9 (nP n10 (nP n11 (nP n12 (nP n13 (nP n14 (nP n15 n16)))))))))))))))) (epH17 P)).2.2.2.2.2.2.1 (EE (nP n0 (nP n1 (nP n2 (nP n3 (nP n4 (nP n5 (nP n6 (nP n7 (nP n8 (nP n9 (nP n10 (nP n11 (nP n12 (nP n13 (nP n14 (nP n15 n16)))))))))))))))) (epH17 P)).2.2.2.2.2.2.2.1 (EE (nP n0 (nP n1 (nP n2 (nP n3 (nP n4 (nP n5 (nP n6 (nP n7 (nP n8 (nP n9 (nP n10 (nP n11 (nP n12 (nP n13 (nP n14 (nP n15 n16)))))))))))))))) (epH17 P)).2.2.2.2.2.2.2.2.1 (EE (nP n0 (nP n1 (nP n2 (nP n3 (nP n4 (nP n5 (nP n6 (nP n7 (nP n8 (nP n9 (nP n10 (nP n11 (nP n12 (nP n13 (nP n14 (nP n15 n16)))))))))))))))) (epH17 P)).2.2.2.2.2.2.2.2.2.1 (EE (nP n0 (nP n1 (nP n2 (nP n3 (nP n4 (nP n5 (nP n6 (nP n7 (nP n8 (nP n9 (nP n10 (nP n11 (nP n12 (nP n13 (nP n14 (nP n15 n16)))))))))))))))) (epH17 P)).2.2.2.2.2.2.2.2.2.2.1 (EE (nP n0 (nP n1 (nP n2 (nP n3 (nP n4 (nP n5 (nP n6 (nP n7 (nP n8 (nP n9 (nP n10 (nP n11 (nP n12 (nP n13 (nP n14 (nP n15 n16)))))))))))))))) (epH17 P)).2.2.2.2.2.2.2.2.2.2.2.1 (EE (nP n0 (nP n1 (nP n2 (nP n3 (nP n4 (nP n5 (nP n6 (nP n7 (nP n8 (nP n9 (nP n10 (nP n11 (nP n12 (nP n13 (nP n14 (nP n15 n16)))))))))))))))) (epH17 P)).2.2.2.2.2.2.2.2.2.2.2.2.1 (EE (nP n0 (nP n1 (nP n2 (nP n3 (nP n4 (nP n5 (nP n6 (nP n7 (nP n8 (nP n9 (nP n10 (nP n11 (nP n12 (nP n13 (nP n14 (nP n15 n16)))))))))))))))) (epH17 P)).2.2.2.2.2.2.2.2.2.2.2.2.2.1 (EE (nP n0 (nP n1 (nP n2 (nP n3 (nP n4 (nP n5 (nP n6 (nP n7 (nP n8 (nP n9 (nP n10 (nP n11 (nP n12 (nP n13 (nP n14 (nP n15 n16)))))))))))))))) (epH17 P)).2.2.2.2.2.2.2.2.2.2.2.2.2.2.1 (EE (nP n0 (nP n1 (nP n2 (nP n3 (nP n4 (nP n5 (nP n6 (nP n7 (nP n8 (nP n9 (nP n10 (nP n11 (nP n12 (nP n13 (nP n14 (nP n15 n16)))))))))))))))) (epH17 P)).2.2.2.2.2.2.2.2.2.2.2.2.2.2.2.1 (EE (nP n0 (nP n1 (nP n2 (nP n3 (nP n4 (nP n5 (nP n6 (nP n7 (nP n8 (nP n9 (nP n10 (nP n11 (nP n12 (nP n13 (nP n14 (nP n15 n16)))))))))))))))) (epH17 P)).2.2.2.2.2.2.2.2.2.2.2.2.2.2.2.2):∀ x0 x1 x2 x3 x4 x5 x6 x7 x8 x9 x10 x11 x12 x13 x14 x15 x16,P x0 x1 x2 x3 x4 x5 x6 x7 x8 x9 x10 x11 x12 x13 x14 x15 x16:=fun x0 x1 x2 x3 x4 x5 x6 x7 x8 x9 x10 x11 x12 x13 x14 x15 x16=>epsT (Q:=epH17 P) h (x0,x1,x2,x3,x4,x5,x6,x7,x8,x9,x10,x11,x12,x13,x14,x15,x16)
abbrev epH18 {α0 α1 α2 α3 α4 α5 α6 α7 α8 α9 α10 α11 α12 α13 α14 α15 α16 α17:Type} (P:α0→α1→α2→α3→α4→α5→α6→α7→α8→α9→α10→α11→α12→α13→α14→α15→α16→α17→Prop) (t:α0×α1×α2×α3×α4×α5×α6×α7×α8×α9×α10×α11×α12×α13×α14×α15×α16×α17):Prop:=P t.1 t.2.1 t.2.2.1 t.2.2.2.1 t.2.2.2.2.1 t.2.2.2.2.2.1 t.2.2.2.2.2.2.1 t.2.2.2.2.2.2.2.1 t.2.2.2.2.2.2.2.2.1 t.2.2.2.2.2.2.2.2.2.1 t.2.2.2.2.2.2.2.2.2.2.1 t.2.2.2.2.2.2.2.2.2.2.2.1 t.2.2.2.2.2.2.2.2.2.2.2.2.1 t.2.2.2.2.2.2.2.2.2.2.2.2.2.1 t.2.2.2.2.2.2.2.2.2.2.2.2.2.2.1 t.2.2.2.2.2.2.2.2.2.2.2.2.2.2.2.1 t.2.2.2.2.2.2.2.2.2.2.2.2.2.2.2.2.1 t.2.2.2.2.2.2.2.2.2.2.2.2.2.2.2.2.2
theorem epA18 {α0 α1 α2 α3 α4 α5 α6 α7 α8 α9 α10 α11 α12 α13 α14 α15 α16 α17:Type} [n0:Nonempty α0] [n1:Nonempty α1] [n2:Nonempty α2] [n3:Nonempty α3] [n4:Nonempty α4] [n5:Nonempty α5] [n6:Nonempty α6] [n7:Nonempty α7] [n8:Nonempty α8] [n9:Nonempty α9] [n10:Nonempty α10] [n11:Nonempty α11] [n12:Nonempty α12] [n13:Nonempty α13] [n14:Nonempty α14] [n15:Nonempty α15] [n16:Nonempty α16] [n17:Nonempty α17] {P:α0→α1→α2→α3→α4→α5→α6→α7→α8→α9→α10→α11→α12→α13→α14→α15→α16→α17→Prop} (h:P (EE (nP n0 (nP n1 (nP n2 (nP n3 (nP n4 (nP n5 (nP n6 (nP n7 (nP n8 (nP n9 (nP n10 (nP n11 (nP n12 (nP n13 (nP n14 (nP n15 (nP n16 n17))))))))))))))))) (epH18 P)).1 (EE (nP n0 (nP n1 (nP n2 (nP n3 (nP n4 (nP n5 (nP n6 (nP n7 (nP n8 (nP n9 (nP n10 (nP n11 (nP n12 (nP n13 (nP n14 (nP n15 (nP n16 n17))))))))))))))))) (epH18 P)).2.1 (EE (nP n0 (nP n1 (nP n2 (nP n3 (nP n4 (nP n5 (nP n6 (nP n7 (nP n8 (nP n9 (nP n10 (nP n11 (nP n12 (nP n13 (nP n14 (nP n15 (nP n16 n17))))))))))))))))) (epH18 P)).2.2.1 (EE (nP n0 (nP n1 (nP n2 (nP n3 (nP n4 (nP n5 (nP n6 (nP n7 (nP n8 (nP n9 (nP n10 (nP n11 (nP n12 (nP n13 (nP n14 (nP n15 (nP n16 n17))))))))))))))))) (epH18 P)).2.2.2.1 (EE (nP n0 (nP n1 (nP n2 (nP n3 (nP n4 (nP n5 (nP n6 (nP n7 (nP n8 (nP n9 (nP n10 (nP n11 (nP n12 (nP n13 (nP n14 (nP n15 (nP n16 n17))))))))))))))))) (epH18 P)).2.2.2.2.1 (EE (nP n0 (nP n1 (nP n2 (nP n3 (nP n4 (nP n5 (nP n6 (nP n7 (nP n8 (nP n9 (nP n10 (nP n11 (nP n12 (nP n13 (nP n14 (nP n15 (nP n16 n17))))))))))))))))) (epH18 P)).2.2.2.2.2.1 (EE (nP n0 (nP n1 (nP n2 (nP n3 (nP n4 (nP n5 (nP n6 (nP n7 (nP n8 (nP n9 (nP n10 (nP n11 (nP n12 (nP n13 (nP n14 (nP n15 (nP n16 n17))))))))))))))))) (epH18 P)).2.2.2.2.2.2.1 (EE (nP n0 (nP n1 (nP n2 (nP n3 (nP n4 (nP n5 (nP n6 (nP n7 (nP n8 (nP n9 (nP n10 (nP n11 (nP n12 (nP n13 (nP n14 (nP n15 (nP n16 n17))))))))))))))))) (epH18 P)).2.2.2.2.2.2.2.1 (EE (nP n0 (nP n1 (nP n2 (nP n3 (nP n4 (nP n5 (nP n6 (nP n7 (nP n8 (nP n9 (nP n10 (nP n11 (nP n12 (nP n13 (nP n14 (nP n15 (nP n16 n17))))))))))))))))) (epH18 P)).2.2.2.2.2.2.2.2.1 (EE (nP n0 (nP n1 (nP n2 (nP n3 (nP n4 (nP n5 (nP n6 (nP n7 (nP n8 (nP n9 (nP n10 (nP n11 (nP n12 (nP n13 (nP n14 (nP n15 (nP n16 n17))))))))))))))))) (epH18 P)).2.2.2.2.2.2.2.2.2.1 (EE (nP n0 (nP n1 (nP n2 (nP n3 (nP n4 (nP n5 (nP n6 (nP n7 (nP n8 (nP n9 (nP n10 (nP n11 (nP n12 (nP n13 (nP n14 (nP n15 (nP n16 n17))))))))))))))))) (epH18 P)).2.2.2.2.2.2.2.2.2.2.1 (EE (nP n0 (nP n1 (nP n2 (nP n3 (nP n4 (nP n5 (nP n6 (nP n7 (nP n8 (nP n9 (nP n10 (nP n11 (nP n12 (nP n13 (nP n14 (nP n15 (nP n16 n17))))))))))))))))) (epH18 P)).2.2.2.2.2.2.2.2.2.2.2.1 (EE (nP n0 (nP n1 (nP n2 (nP n3 (nP n4 (nP n5 (nP n6 (nP n7 (nP n8 (nP n9 (nP n10 (nP n11 (nP n12 (nP n13 (nP n14 (nP n15 (nP n16 n17))))))))))))))))) (epH18 P)).2.2.2.2.2.2.2.2.2.2.2.2.1 (EE (nP n0 (nP n1 (nP n2 (nP n3 (nP n4 (nP n5 (nP n6 (nP n7 (nP n8 (nP n9 (nP n10 (nP n11 (nP n12 (nP n13 (nP n14 (nP n15 (nP n16 n17))))))))))))))))) (epH18 P)).2.2.2.2.2.2.2.2.2.2.2.2.2.1 (EE (nP n0 (nP n1 (nP n2 (nP n3 (nP n4 (nP n5 (nP n6 (nP n7 (nP n8 (nP n9 (nP n10 (nP n11 (nP n12 (nP n13 (nP n14 (nP n15 (nP n16 n17))))))))))))))))) (epH18 P)).2.2.2.2.2.2.2.2.2.2.2.2.2.2.1 (EE (nP n0 (nP n1 (nP n2 (nP n3 (nP n4 (nP n5 (nP n6 (nP n7 (nP n8 (nP n9 (nP n10 (nP n11 (nP n12 (nP n13 (nP n14 (nP n15 (nP n16 n17))))))))))))))))) (epH18 P)).2.2.2.2.2.2.2.2.2.2.2.2.2.2.2.1 (EE (nP n0 (nP n1 (nP n2 (nP n3 (nP n4 (nP n5 (nP n6 (nP n7 (nP n8 (nP n9 (nP n10 (nP n11 (nP n12 (nP n13 (nP n14 (nP n15 (nP n16 n17))))))))))))))))) (epH18 P)).2.2.2.2.2.2.2.2.2.2.2.2.2.2.2.2.1 (EE (nP n0 (nP n1 (nP n2 (nP n3 (nP n4 (nP n5 (nP n6 (nP n7 (nP n8 (nP n9 (nP n10 (nP n11 (nP n12 (nP n13 (nP n14 (nP n15 (nP n16 n17))))))))))))))))) (epH18 P)).2.2.2.2.2.2.2.2.2.2.2.2.2.2.2.2.2):∀ x0 x1 x2 x3 x4 x5 x6 x7 x8 x9 x10 x11 x12 x13 x14 x15 x16 x17,P x0 x1 x2 x3 x4 x5 x6 x7 x8 x9 x10 x11 x12 x13 x14 x15 x16 x17:=fun x0 x1 x2 x3 x4 x5 x6 x7 x8 x9 x10 x11 x12 x13 x14 x15 x16 x17=>epsT (Q:=epH18 P) h (x0,x1,x2,x3,x4,x5,x6,x7,x8,x9,x10,x11,x12,x13,x14,x15,x16,x17)
end Mine.Internal
end
set_option compiler.extract_closed false
set_option hygiene true
local macro_rules
 | `(tactic| injections $z:ident $x:ident)=>`(tactic| (generalize $z:ident = $x; clear $z))
 | `(tactic| injections $z:ident $x:ident $xs*)=>`(tactic| (generalize Prod.fst $z = $x,Prod.snd $z=ζ; clear $z; injections ζ $xs*))
 | `(tactic| intros $xs*)=>`(tactic| (apply $(Lean.mkIdent (.mkSimple s!"epA{xs.size}")); generalize Mine.Internal.EE _ _=ζ; injections ζ $xs*))
 | `(tactic| injection $e with $xs*)=>`(tactic| (generalize $(Lean.mkIdent (.mkSimple s!"epX{xs.size}")) $e=ζ; revert ζ; generalize Mine.Internal.WW _ _=ζ; injections ζ $xs*))
set_option hygiene false
section
open PySem PySem.W PyProof.Rows
namespace Mine.Internal
inductive SeqV (c:String) (ψ φ:List Addr) (h:Heap) (len:Nat) (R:List Value→Prop) (x:Value):Prop
 | mk (a:Addr) (vs:Array Value) (n:Nat) (z:x=.ref a) (e:h.get? a=some (seqObj c vs n)) (p:a ∉ φ) (q:a ∉ ψ) (k:len < 1000001) (r:R vs.toList)
inductive InstV (X:CX) (ψ φ:List Addr) (h:Heap) (c i:Nat) (x:Value):Prop
 | mk (a C dx:Addr) (z:x=.ref a) (e:h.get? a=some (instObj C dx)) (p:a ∉ φ) (q:a ∉ ψ) (k:X.clss[c]?=some C) (d:φ[i]?=some dx)
inductive RngV (ψ φ:List Addr) (h:Heap) (a b:Int) (x:Value):Prop
 | mk (r:Addr) (t u v:Tok) (z:x=.ref r) (e:h.get? r=some { cls:=.type "range",dict:=Option.none,data:=.fields #[.int a t,.int b u,.int 1 v],slots:=#[] }) (p:r ∉ φ) (q:r ∉ ψ) (k:a.natAbs < 400001) (m:b.natAbs < 400001)
inductive SetV (X:CX) (ψ φ:List Addr) (h:Heap) (len:Nat) (R:List Value→Prop) (x:Value):Prop
 | mk (a:Addr) (o:Obj) (es:Array (Int × Value)) (ep:Nat) (t:SetTable) (vs:List Value) (z:x=.ref a) (e:h.get? a=some o) (p:a ∉ φ) (q:a ∉ ψ) (ex:o.ExactSet) (d:o.data=.set es ep t) (f:t.fits es.size=true)
  (pl:t.plain=false∨es.size ≤ 1) (led:X.byText=true∨t.led=true) (pm:(es.toList.map (·.2)).Perm vs) (k:len < 1000) (r:R vs)
inductive ConsV (R:Value→Prop) (S:List Value→Prop) (vs:List Value):Prop
 | mk (v:Value) (ws:List Value) (z:vs=v :: ws) (r:R v) (q:S ws)
mutual
noncomputable def VR (X:CX) (ψ φ:List Addr) (h:Heap):Value→AV→Prop
 | x,.none=>x=.none
 | x,.bool b=>x=.bool b
 | x,.int i=>∃ t,x=.int i t
 | x,.str n=>∃ y t,x=.str y t∧X.names[n]?=some y
 | x,.tup l=>SeqV "tuple" ψ φ h l.length (fun vs=>VRs X ψ φ h vs l) x
 | x,.lst l=>SeqV "list" ψ φ h l.length (fun vs=>VRs X ψ φ h vs l) x
 | x,.ref i=>∃ a:Addr,x=.ref a∧φ[i]?=some a
 | x,.inst c i=>InstV X ψ φ h c i x
 | x,.rng a b=>RngV ψ φ h a b x
 | x,.sset l=>SetV X ψ φ h l.length (fun vs=>VRs X ψ φ h vs l) x
noncomputable def VRs (X:CX) (ψ φ:List Addr) (h:Heap):List Value→List AV→Prop
 | vs,[]=>vs=[]
 | vs,a :: l=>ConsV (fun v=>VR X ψ φ h v a) (fun ws=>VRs X ψ φ h ws l) vs
end
section
variable {ψ φ:List Addr}{h:Heap}
theorem VR.none:VR X ψ φ h .none .none:=rfl
theorem VR.bool (b:Bool):VR X ψ φ h (.bool b) (.bool b):=rfl
theorem VR.int (i:Int) (t:Tok):VR X ψ φ h (.int i t) (.int i):=⟨t,rfl⟩
theorem VR.str {n:Nat}{x:Str} (t:Tok) (e:X.names[n]?=some x):VR X ψ φ h (.str x t) (.str n):=⟨x,t,rfl,e⟩
theorem VR.tup {a:Addr}{vs:Array Value}{n:Nat}{l:List AV} (e:h.get? a=some (seqObj "tuple" vs n)) (p:a ∉ φ) (q:a ∉ ψ) (k:l.length < 1000001) (r:VRs X ψ φ h vs.toList l):VR X ψ φ h (.ref a) (.tup l):=⟨a,vs,n,rfl,e,p,q,k,r⟩
theorem VR.lst {a:Addr}{vs:Array Value}{n:Nat}{l:List AV} (e:h.get? a=some (seqObj "list" vs n)) (p:a ∉ φ) (q:a ∉ ψ) (k:l.length < 1000001) (r:VRs X ψ φ h vs.toList l):VR X ψ φ h (.ref a) (.lst l):=⟨a,vs,n,rfl,e,p,q,k,r⟩
theorem VR.ref {a:Addr}{i:Nat} (e:φ[i]?=some a):VR X ψ φ h (.ref a) (.ref i):=⟨a,rfl,e⟩
theorem VR.inst {x C dx:Addr}{c i:Nat} (e:h.get? x=some (instObj C dx)) (p:x ∉ φ) (q:x ∉ ψ) (r:X.clss[c]?=some C) (d:φ[i]?=some dx):VR X ψ φ h (.ref x) (.inst c i):=⟨x,C,dx,rfl,e,p,q,r,d⟩
theorem VR.rng {r:Addr}{a b:Int}{t u v:Tok} (e:h.get? r=some { cls:=.type "range",dict:=Option.none,data:=.fields #[.int a t,.int b u,.int 1 v],slots:=#[] }) (p:r ∉ φ) (q:r ∉ ψ) (k:a.natAbs < 400001) (m:b.natAbs < 400001) :
  VR X ψ φ h (.ref r) (.rng a b):=⟨r,t,u,v,rfl,e,p,q,k,m⟩
theorem VRs.nil:VRs X ψ φ h [] []:=rfl
theorem VRs.cons {v:Value}{vs:List Value}{a:AV}{l:List AV} (r:VR X ψ φ h v a) (rs:VRs X ψ φ h vs l):VRs X ψ φ h (v :: vs) (a :: l):=⟨v,vs,rfl,r,rs⟩
end
theorem VRs.length {ψ φ h}:∀ {vs:List Value}{l:List AV},VRs X ψ φ h vs l→vs.length=l.length
 | _,[],r=>congrArg List.length r
 | _,a :: l,r=>by
  obtain ⟨v,ws,rfl,_,q⟩:=r
  exact congrArg (· + 1) q.length
structure Grow (fr φ φ':List Addr) (h h':Heap):Prop where
 pre:φ <+: φ'
 new:∀ a ∈ φ',a ∈ φ∨h.get? a=Option.none
 kept:∀ b o,h.get? b=some o→b ∉ φ→b ∉ fr→h'.get? b=some o
theorem Grow.refl (φ:List Addr) (h:Heap):Grow [] φ φ h h:=⟨List.prefix_refl _,fun _ q=>.inl q,fun _ _ e _ _=>e⟩
theorem Grow.more {fr fr' φ φ' h h'} (x:Grow fr φ φ' h h') (k:∀ a ∈ fr,a ∈ fr'∨h.get? a=Option.none):Grow fr' φ φ' h h' :=
 ⟨x.pre,x.new,fun b o e n n'=>x.kept b o e n fun q=>(k b q).elim n' fun z=>by rw [e] at z; cases z⟩
theorem Grow.trans {fr φ φ' φ'':List Addr}{h h' h'':Heap} (x:Grow fr φ φ' h h') (y:Grow fr φ' φ'' h' h'') (hf:∀ a ∈ fr,a ∈ φ''→a ∈ φ∨h.get? a=Option.none):Grow fr φ φ'' h h'':=by
 refine ⟨x.pre.trans y.pre,fun a ha=>?_,fun b o e hb hr=>?_⟩
 ·rcases y.new a ha with q | q
  ·exact x.new a q
  ·by_cases hr:a ∈ fr
   ·exact hf a hr ha
   ·by_cases hm:a ∈ φ
    ·exact .inl hm
    ·right
     cases e:h.get? a with
     | none=>rfl
     | some o=>rw [x.kept a o e hm hr] at q; cases q
 ·have hb':b ∉ φ':=fun q=>by
   rcases x.new b q with z | z
   ·exact hb z
   ·rw [e] at z; cases z
  exact y.kept b o (x.kept b o e hb hr) hb' hr
theorem Grow.trans0 {φ φ' φ'':List Addr}{h h' h'':Heap} (x:Grow [] φ φ' h h') (y:Grow [] φ' φ'' h' h''):Grow [] φ φ'' h h'':=x.trans y fun _ q=>qA9 q
theorem Grow.out {fr φ φ':List Addr}{h h':Heap} (x:Grow fr φ φ' h h') {a:Addr}{o:Obj} (e:h.get? a=some o) (n:a ∉ φ):a ∉ φ':=fun q=>by
 rcases x.new a q with z | z
 ·exact n z
 ·rw [e] at z; cases z
theorem qBw {φ φ':List Addr} (x:φ <+: φ') {i:Nat}{a:Addr} (e:φ[i]?=some a):φ'[i]?=some a:=by
 obtain ⟨t,rfl⟩:=x
 rw [List.getElem?_append_left (List.getElem?_eq_some_iff.mp e).1]; exact e
mutual
theorem VR.move {ψ ψ' φ φ':List Addr}{h h':Heap} (hp:∀ (i:Nat) (a:Addr),φ[i]?=some a→φ'[i]?=some a)
 (hk:∀ b o,h.get? b=some o→b ∉ φ→b ∉ ψ→h'.get? b=some o∧b ∉ φ'∧b ∉ ψ'):∀ {a:AV}{v:Value},VR X ψ φ h v a→VR X ψ' φ' h' v a
 | .none,_,r=>r
 | .bool _,_,r=>r
 | .int _,_,r=>r
 | .str _,_,r=>r
 | .tup l,_,r=>by obtain ⟨a,vs,n,z,e,p,q,k,r⟩:=r; have y:=hk _ _ e p q; exact ⟨a,vs,n,z,y.1,y.2.1,y.2.2,k,VRs.move hp hk r⟩
 | .lst l,_,r=>by obtain ⟨a,vs,n,z,e,p,q,k,r⟩:=r; have y:=hk _ _ e p q; exact ⟨a,vs,n,z,y.1,y.2.1,y.2.2,k,VRs.move hp hk r⟩
 | .ref i,_,r=>by obtain ⟨a,z,e⟩:=r; exact ⟨a,z,hp _ _ e⟩
 | .inst c i,_,r=>by obtain ⟨a,C,dx,z,e,p,q,k,r⟩:=r; have y:=hk _ _ e p q; exact ⟨a,C,dx,z,y.1,y.2.1,y.2.2,k,hp _ _ r⟩
 | .rng _ _,_,r=>by obtain ⟨a,t,u,v,z,e,p,q,k,m⟩:=r; have y:=hk _ _ e p q; exact ⟨a,t,u,v,z,y.1,y.2.1,y.2.2,k,m⟩
 | .sset l,_,r=>by obtain ⟨a,o,es,ep,t,vs,z,e,p,q,a1,a2,a3,a4,a5,a6,a7,r⟩:=r; have y:=hk _ _ e p q; exact ⟨a,o,es,ep,t,vs,z,y.1,y.2.1,y.2.2,a1,a2,a3,a4,a5,a6,a7,VRs.move hp hk r⟩
theorem VRs.move {ψ ψ' φ φ':List Addr}{h h':Heap} (hp:∀ (i:Nat) (a:Addr),φ[i]?=some a→φ'[i]?=some a)
 (hk:∀ b o,h.get? b=some o→b ∉ φ→b ∉ ψ→h'.get? b=some o∧b ∉ φ'∧b ∉ ψ'):∀ {l:List AV}{vs:List Value},VRs X ψ φ h vs l→VRs X ψ' φ' h' vs l
 | [],_,r=>r
 | a :: l,_,r=>by obtain ⟨v,ws,z,r,q⟩:=r; exact ⟨v,ws,z,VR.move hp hk r,VRs.move hp hk q⟩
end
theorem VR.grow {fr ψ φ φ':List Addr}{h h':Heap} (g:Grow fr φ φ' h h') (hf:∀ a ∈ fr,a ∈ ψ) {v:Value}{a:AV} (r:VR X ψ φ h v a):VR X ψ φ' h' v a :=
 VR.move (fun _ _ e=>qBw g.pre e) (fun b o e n m=>⟨g.kept b o e n fun q=>m (hf b q),g.out e n,m⟩) r
theorem VRs.grow {fr ψ φ φ':List Addr}{h h':Heap} (g:Grow fr φ φ' h h') (hf:∀ a ∈ fr,a ∈ ψ) {v:List Value}{a:List AV} (r:VRs X ψ φ h v a):VRs X ψ φ' h' v a :=
 VRs.move (fun _ _ e=>qBw g.pre e) (fun b o e n m=>⟨g.kept b o e n fun q=>m (hf b q),g.out e n,m⟩) r
theorem VR.grow0 {ψ φ φ':List Addr}{h h':Heap} (g:Grow [] φ φ' h h') {v:Value}{a:AV} (r:VR X ψ φ h v a):VR X ψ φ' h' v a:=r.grow g fun _ q=>qA9 q
theorem VRs.grow0 {ψ φ φ':List Addr}{h h':Heap} (g:Grow [] φ φ' h h') {v:List Value}{a:List AV} (r:VRs X ψ φ h v a):VRs X ψ φ' h' v a:=r.grow g fun _ q=>qA9 q
theorem VR.priv {ψ ψ' φ:List Addr}{h:Heap} (k:∀ a ∈ ψ',a ∈ ψ∨h.get? a=Option.none) {v:Value}{a:AV} (r:VR X ψ φ h v a):VR X ψ' φ h v a :=
 VR.move (fun _ _ e=>e) (fun b o e n m=>⟨e,n,fun q=>(k b q).elim m fun z=>by rw [e] at z; cases z⟩) r
theorem VRs.priv {ψ ψ' φ:List Addr}{h:Heap} (k:∀ a ∈ ψ',a ∈ ψ∨h.get? a=Option.none) {v:List Value}{a:List AV} (r:VRs X ψ φ h v a):VRs X ψ' φ h v a :=
 VRs.move (fun _ _ e=>e) (fun b o e n m=>⟨e,n,fun q=>(k b q).elim m fun z=>by rw [e] at z; cases z⟩) r
inductive ListO (X:CX) (ψ φ:List Addr) (h:Heap) (a:Addr) (l:List AV):Prop
 | mk (vs:Array Value) (n:Nat) (e:h.get? a=some (seqObj "list" vs n)) (k:l.length < 1000001) (r:VRs X ψ φ h vs.toList l)
inductive DictIO (X:CX) (prog:Program) (w:World) (ψ φ:List Addr) (h:Heap) (a:Addr) (kvs:List (Int × AV)):Prop
 | mk (ks:List Int) (vs:List Value) (l:List AV) (z:kvs=ks.zip l) (e:h.DictOf (intKind prog w) a (ks.zip vs)) (p:ks.length=vs.length) (k:ks.length < 1000001) (r:VRs X ψ φ h vs l)
inductive DictSO (X:CX) (prog:Program) (w:World) (ψ φ:List Addr) (h:Heap) (a:Addr) (kvs:List (Nat × AV)):Prop
 | mk (ks:List Nat) (ss:List Str) (vs:List Value) (l:List AV) (z:kvs=ks.zip l) (e:h.DictOf (PySem.strKind prog w) a (ss.zip vs)) (q:ks.map (X.names[·]?)=ss.map some) (p:ss.length=vs.length) (k:ks.length < 1000001) (r:VRs X ψ φ h vs l)
inductive NsO (X:CX) (ψ φ:List Addr) (h:Heap) (a:Addr) (fs:List (Nat × AV)):Prop
 | mk (es:List DictEntry) (n:Nat) (e:h.get? a=some (dictOf es n)) (p:es.length ≤ fs.length) (q:es.any (·.refKey)=false) (r:∀ k x,X.names[k]?=some x→match fs.lookup k with
   | some v=>∃ y,getL x es=some (some y)∧VR X ψ φ h y v
   | none=>getL x es=some none)
noncomputable def ObjR (X:CX) (prog:Program) (w:World) (ψ φ:List Addr) (h:Heap) (a:Addr):AObj→Prop
 | .list l=>ListO X ψ φ h a l
 | .dictI kvs=>DictIO X prog w ψ φ h a kvs
 | .dictS kvs=>DictSO X prog w ψ φ h a kvs
 | .ns fs=>NsO X ψ φ h a fs
section
variable {ψ φ:List Addr}{h:Heap}{a:Addr}
theorem ObjR.list {vs:Array Value}{n:Nat}{l:List AV} (e:h.get? a=some (seqObj "list" vs n)) (k:l.length < 1000001) (r:VRs X ψ φ h vs.toList l):ObjR X prog w ψ φ h a (.list l):=⟨vs,n,e,k,r⟩
theorem ObjR.dictI {ks:List Int}{vs:List Value}{l:List AV} (e:h.DictOf (intKind prog w) a (ks.zip vs)) (p:ks.length=vs.length) (k:ks.length < 1000001) (r:VRs X ψ φ h vs l):ObjR X prog w ψ φ h a (.dictI (ks.zip l)):=⟨ks,vs,l,rfl,e,p,k,r⟩
theorem ObjR.dictS {ks:List Nat}{ss:List Str}{vs:List Value}{l:List AV} (e:h.DictOf (PySem.strKind prog w) a (ss.zip vs)) (q:ks.map (X.names[·]?)=ss.map some) (p:ss.length=vs.length) (k:ks.length < 1000001) (r:VRs X ψ φ h vs l) :
  ObjR X prog w ψ φ h a (.dictS (ks.zip l)):=⟨ks,ss,vs,l,rfl,e,q,p,k,r⟩
theorem ObjR.ns {es:List DictEntry}{n:Nat}{fs:List (Nat × AV)} (e:h.get? a=some (dictOf es n)) (p:es.length ≤ fs.length) (q:es.any (·.refKey)=false) (r:∀ k x,X.names[k]?=some x→match fs.lookup k with
   | some v=>∃ y,getL x es=some (some y)∧VR X ψ φ h y v
   | none=>getL x es=some none):ObjR X prog w ψ φ h a (.ns fs):=⟨es,n,e,p,q,r⟩
end
structure SR (X:CX) (prog:Program) (w:World) (base:Heap) (ψ φ:List Addr) (H:AHeap) (h:Heap):Prop where
 keep:∀ b o,base.get? b=some o→h.get? b=some o
 len:φ.length=H.length
 nodup:φ.Nodup
 fresh:∀ a ∈ φ,base.get? a=Option.none∧3 < a∧a ∉ ψ
 priv:∀ a ∈ ψ,base.get? a=Option.none
 stand:∀ a ∈ ψ,∃ o,h.get? a=some o
 obj:∀ (i:Nat) (a:Addr) (o:AObj),φ[i]?=some a→H[i]?=some o→ObjR X prog w ψ φ h a o
theorem ObjR.there {ψ φ h a}:∀ {o:AObj},ObjR X prog w ψ φ h a o→∃ ob,h.get? a=some ob
 | .list _,x=>by obtain ⟨_,_,e,_⟩:=x; exact ⟨_,e⟩
 | .dictI _,x=>by obtain ⟨_,_,_,_,⟨o,_,_,e,_⟩,_⟩:=x; exact ⟨_,e⟩
 | .dictS _,x=>by obtain ⟨_,_,_,_,_,⟨o,_,_,e,_⟩,_⟩:=x; exact ⟨_,e⟩
 | .ns _,x=>by obtain ⟨_,_,e,_⟩:=x; exact ⟨_,e⟩
theorem SR.there {ψ φ H h} (x:SR X prog w base ψ φ H h) {a:Addr} (m:a ∈ φ):∃ o,h.get? a=some o:=by
 obtain ⟨i,hi,e⟩:=List.getElem_of_mem m
 have hi':i < H.length:=by rw [← x.len]; exact hi
 exact (x.obj i a H[i] (by rw [List.getElem?_eq_getElem hi,e]) (List.getElem?_eq_getElem hi')).there
theorem ObjR.move {ψ ψ' φ φ':List Addr}{h h':Heap}{a:Addr}{o:AObj} (x:ObjR X prog w ψ φ h a o) (hp:∀ (i:Nat) (a:Addr),φ[i]?=some a→φ'[i]?=some a)
  (hk:∀ b o,h.get? b=some o→b ∉ φ→b ∉ ψ→h'.get? b=some o∧b ∉ φ'∧b ∉ ψ') (e:∀ ob,h.get? a=some ob→h'.get? a=some ob):ObjR X prog w ψ' φ' h' a o:=by
 cases o with
 | list=>obtain ⟨vs,n,p,q,r⟩:=x; exact ⟨vs,n,e _ p,q,VRs.move hp hk r⟩
 | dictI=>obtain ⟨ks,vs,l,z,p,q,r,s⟩:=x; exact ⟨ks,vs,l,z,p.at e,q,r,VRs.move hp hk s⟩
 | dictS=>obtain ⟨ks,ss,vs,l,z,p,q,r,s,t⟩:=x; exact ⟨ks,ss,vs,l,z,p.at e,q,r,s,VRs.move hp hk t⟩
 | ns fs =>
  obtain ⟨es,n,p,q,z,r⟩:=x
  refine ⟨es,n,e _ p,q,z,fun k x hk'=>?_⟩
  have:=r k x hk'
  cases y:fs.lookup k with
  | none=>rw [y] at this; exact this
  | some v=>rw [y] at this; obtain ⟨y,a,b⟩:=this; exact ⟨y,a,VR.move hp hk b⟩
theorem ObjR.grow {fr ψ φ φ' h h' a o} (x:ObjR X prog w ψ φ h a o) (g:Grow fr φ φ' h h') (hf:∀ a ∈ fr,a ∈ ψ) (e:∀ ob,h.get? a=some ob→h'.get? a=some ob):ObjR X prog w ψ φ' h' a o :=
 x.move (fun _ _ e=>qBw g.pre e) (fun b o e n m=>⟨g.kept b o e n fun q=>m (hf b q),g.out e n,m⟩) e
theorem SR.fewer {ψ ψ' φ H h} (x:SR X prog w base ψ φ H h) (k:∀ a ∈ ψ',a ∈ ψ):SR X prog w base ψ' φ H h :=
 ⟨x.keep,x.len,x.nodup,fun a m=>⟨(x.fresh a m).1,(x.fresh a m).2.1,fun q=>(x.fresh a m).2.2 (k a q)⟩,fun a q=>x.priv a (k a q),fun a q=>x.stand a (k a q),fun i a o e e' =>
  (x.obj i a o e e').move (fun _ _ e=>e) (fun b o e n m=>⟨e,n,fun q=>m (k b q)⟩) fun _ e=>e⟩
theorem SR.more {ψ ψ' φ H h₀ h} (x:SR X prog w base ψ φ H h₀) (g:∀ b o,h₀.get? b=some o→h.get? b=some o) (k:∀ a ∈ ψ',a ∈ ψ∨(h₀.get? a=Option.none∧∃ o,h.get? a=some o)):SR X prog w base ψ' φ H h:=by
 have out:∀ b o,h₀.get? b=some o→b ∉ ψ→b ∉ ψ':=fun b o e n q=>(k b q).elim n fun z=>by rw [e] at z; cases z.1
 refine ⟨fun b o e=>g b o (x.keep b o e),x.len,x.nodup,fun a m=>⟨(x.fresh a m).1,(x.fresh a m).2.1,?_⟩,fun a q=>?_,fun a q=>?_,fun i a o e e' =>
  (x.obj i a o e e').move (fun _ _ e=>e) (fun b o e n m=>⟨g _ _ e,n,out b o e m⟩) fun ob e=>g _ _ e⟩
 ·obtain ⟨o,e⟩:=x.there m
  exact out a o e (x.fresh a m).2.2
 ·rcases k a q with z | z
  ·exact x.priv a z
  ·cases e:base.get? a with
   | none=>rfl
   | some o=>rw [x.keep a o e] at z; cases z.1
 ·rcases k a q with z | z
  ·obtain ⟨o,e⟩:=x.stand a z; exact ⟨o,g _ _ e⟩
  ·exact z.2
structure Post (X:CX) (prog:Program) (w:World) (base:Heap) (fr ψ φ φ':List Addr) (H':AHeap) (s s':Shared):Prop where
 same:s'={ s with heap:=s'.heap,toks:=s'.toks,drawn:=s'.drawn }
 grow:Grow fr φ φ' s.heap s'.heap
 sr:SR X prog w base ψ φ' H' s'.heap
theorem Post.refl {ψ φ H}{s:Shared} (x:SR X prog w base ψ φ H s.heap):Post X prog w base [] ψ φ φ H s s:=⟨rfl,Grow.refl _ _,x⟩
theorem Post.trans {ψ φ φ' φ'' H' H''}{s s' s'':Shared} (x:Post X prog w base [] ψ φ φ' H' s s') (y:Post X prog w base [] ψ φ' φ'' H'' s' s''):Post X prog w base [] ψ φ φ'' H'' s s'':=by
 refine ⟨?_,x.grow.trans0 y.grow,y.sr⟩
 rw [y.same,x.same]
theorem Post.transF {fr ψ φ φ' φ'' H' H''}{s s' s'':Shared} (x:Post X prog w base fr ψ φ φ' H' s s') (y:Post X prog w base fr ψ φ' φ'' H'' s' s'') (hf:∀ a ∈ fr,a ∈ ψ):Post X prog w base fr ψ φ φ'' H'' s s'':=by
 refine ⟨?_,x.grow.trans y.grow fun a q m=>absurd (hf a q) (y.sr.fresh a m).2.2,y.sr⟩
 rw [y.same,x.same]
theorem Grow.of_keep {φ:List Addr}{h h':Heap} (k:∀ b o,h.get? b=some o→h'.get? b=some o):Grow [] φ φ h h':=⟨List.prefix_refl _,fun _ q=>.inl q,fun b o e _ _=>k b o e⟩
theorem SR.grown {ψ φ H h h'} (x:SR X prog w base ψ φ H h) (k:∀ b o,h.get? b=some o→h'.get? b=some o):SR X prog w base ψ φ H h' :=
 ⟨fun b o e=>k _ _ (x.keep b o e),x.len,x.nodup,x.fresh,x.priv,fun a q=>let ⟨o,e⟩:=x.stand a q; ⟨o,k _ _ e⟩,fun i a o e e'=>(x.obj i a o e e').grow (Grow.of_keep k) (fun _ q=>qA9 q) fun ob q=>k _ _ q⟩
theorem Post.grown {ψ φ H}{s:Shared}{h':Heap}{tk:Nat} (x:SR X prog w base ψ φ H s.heap) (k:∀ b o,s.heap.get? b=some o→h'.get? b=some o) :
  Post X prog w base [] ψ φ φ H s { s with heap:=h',toks:=tk }:=⟨rfl,Grow.of_keep k,x.grown k⟩
theorem Post.tok {ψ φ H}{s:Shared} (x:SR X prog w base ψ φ H s.heap) (t:Nat):Post X prog w base [] ψ φ φ H s { s with toks:=t }:=⟨rfl,Grow.refl _ _,x⟩
theorem SR.privately {ψ φ H}{h h':Heap} (x:SR X prog w base ψ φ H h) (k:∀ b o,b ∉ ψ→h.get? b=some o→h'.get? b=some o) (ks:∀ a ∈ ψ,∃ o,h'.get? a=some o):SR X prog w base ψ φ H h' :=
 ⟨fun b o e=>k b o (fun q=>by rw [x.priv b q] at e; cases e) (x.keep b o e),x.len,x.nodup,x.fresh,x.priv,ks,fun i a o e e' =>
  (x.obj i a o e e').move (fun _ _ e=>e) (fun b o e n m=>⟨k b o m e,n,m⟩) fun ob q=>k _ _ (x.fresh a (List.mem_of_getElem? e)).2.2 q⟩
theorem qAo (h:Heap) (o:Obj):∀ b x,h.get? b=some x→(h.push o).get? b=some x:=fun _ _ e=>Heap.get?_push_of_some _ e
theorem SR.turned {ψ φ H}{h h':Heap}{i:Nat}{a:Addr}{o:AObj} (x:SR X prog w base ψ φ H h) (hi:φ[i]?=some a) (k:∀ b ob,b ≠ a→h.get? b=some ob→h'.get? b=some ob)
  (ho:ObjR X prog w ψ φ h' a o):SR X prog w base ψ φ (H.set i o) h'∧Grow [] φ φ h h':=by
 revert x hi k ho
 revert ψ φ H h h' i a o
 intros ψ φ H h h' i a o
 intro x hi k ho
 have hm:a ∈ φ:=List.mem_of_getElem? hi
 have hil:i < φ.length:=(List.getElem?_eq_some_iff.mp hi).1
 have g:Grow [] φ φ h h':=⟨List.prefix_refl _,fun _ q=>.inl q,fun b ob e n _=>k b ob (fun z=>n (z ▸ hm)) e⟩
 refine ⟨⟨fun b ob e=>k b ob (fun z=>?_) (x.keep b ob e),by rw [List.length_set]; exact x.len,x.nodup,x.fresh,x.priv,(by intros p; intro q; exact let ⟨o,e⟩:=x.stand p q; ⟨o,k p o (fun z=>(x.fresh a hm).2.2 (z ▸ q)) e⟩),?_⟩,g⟩
 ·rw [z,(x.fresh a hm).1] at e; cases e
 ·intros j b ob; intro e e'
  rw [List.getElem?_set] at e'
  by_cases q:i=j
  ·subst q
   rw [if_pos rfl,if_pos (by rw [← x.len]; exact hil)] at e'
   cases e'
   rw [hi] at e; cases e; exact ho
  ·rw [if_neg q] at e'
   have hb:b ≠ a:=fun z=>by
    subst z
    exact q ((List.getElem?_inj hil x.nodup).mp (hi.trans e.symm))
   exact (x.obj j b ob e e').grow g (fun _ q=>qA9 q) fun ob'=>k b ob' hb
theorem Post.turned {ψ φ H}{s:Shared}{h':Heap}{tk:Nat}{i:Nat}{a:Addr}{o:AObj} (x:SR X prog w base ψ φ H s.heap) (hi:φ[i]?=some a)
  (k:∀ b ob,b ≠ a→s.heap.get? b=some ob→h'.get? b=some ob) (ho:ObjR X prog w ψ φ h' a o):Post X prog w base [] ψ φ φ (H.set i o) s { s with heap:=h',toks:=tk } :=
 let ⟨p,q⟩:=x.turned hi k ho; ⟨rfl,q,p⟩
theorem SR.tracked {ψ φ H}{h h₀:Heap}{a:Addr}{o:AObj} (x:SR X prog w base ψ φ H h₀) (hb:base.get? a=Option.none) (h3:3 < a)
  (h0:h₀.get? a=Option.none) (k:∀ b ob,h₀.get? b=some ob→h.get? b=some ob) (ho:ObjR X prog w ψ (φ ++ [a]) h a o) :
  SR X prog w base ψ (φ ++ [a]) (H ++ [o]) h∧Grow [] φ (φ ++ [a]) h₀ h:=by
 revert x hb h3 h0 k ho
 revert ψ φ H h h₀ a o
 intros ψ φ H h h₀ a o
 intro x hb h3 h0 k ho
 have hp:a ∉ ψ:=fun m=>by (injection (x.stand a m) with o; intro e); rw [h0] at e; cases e
 have hn:a ∉ φ:=fun m=>by (injection (x.there m) with o; intro e); rw [h0] at e; cases e
 have g:Grow [] φ (φ ++ [a]) h₀ h:=⟨List.prefix_append _ _,by
   intros b; intro q
   rcases List.mem_append.mp q with q | q
   ·exact .inl q
   ·rw [List.mem_singleton.mp q]; exact .inr h0,fun b ob e _ _=>k b ob e⟩
 refine ⟨⟨fun b ob e=>k b ob (x.keep b ob e),by simp [x.len],?_,?_,x.priv,fun p q=>let ⟨o,e⟩:=x.stand p q; ⟨o,k p o e⟩,?_⟩,g⟩
 ·rw [List.nodup_append]; exact ⟨x.nodup,by simp,by intros b; intro hb; intros c; intro hc; rw [List.mem_singleton] at hc; rw [hc]; exact fun z=>hn (z ▸ hb)⟩
 ·intros b; intro q
  rcases List.mem_append.mp q with q | q
  ·exact x.fresh b q
  ·rw [List.mem_singleton.mp q]; exact ⟨hb,h3,hp⟩
 ·intros i b ob; intro e e'
  by_cases hi:i < φ.length
  ·rw [List.getElem?_append_left hi] at e
   rw [List.getElem?_append_left (by rw [← x.len]; exact hi)] at e'
   exact (x.obj i b ob e e').grow g (fun _ q=>qA9 q) fun ob' q=>k _ _ q
  ·rw [List.getElem?_append_right (Nat.le_of_not_lt hi)] at e
   rw [List.getElem?_append_right (by rw [← x.len]; exact Nat.le_of_not_lt hi),← x.len] at e'
   (injection (⟨_,rfl⟩:∃ j,i - φ.length=j) with j; intro hj)
   rw [hj] at e e'
   cases j with
   | zero=>cases e; cases e'; exact ho
   | succ j=>cases e
end Mine.Internal
end
section
open PySem PySem.W PyProof.Rows
namespace Mine.Internal
structure GW (X:CX) (base:Heap):Prop where
 K:X.K.In base
 nolim:base.NoLimit
 g:∃ mg,base.Ns mainGlobals mg
 b:∃ mb,base.Ns builtinsNs mb∧∀ x:Str,x ≠ "__name__"→mb x=bootBuiltins x
 nd:X.names.Nodup
 ok:X.names.all PyData.strOk=true
structure Room (d:Nat) (A:Around):Prop where
 handled:A.handled=none
 depth:A.depth + 2 * d + 2 < recursionLimit
 units:A.units + 8 * d + 200 < cLine
theorem Room.u {d A} (r:Room d A) (k:Nat) (h:k ≤ 200):A.units + k < cLine:=by have:=r.units; lia
theorem Room.u0 {d A} (r:Room d A):A.units < cLine:=by have:=r.units; lia
theorem qA1 {α:Type}{M:Model}{A:Around}{t:Sem α}{Q Q':α→Shared→Prop}{E:Value→Shared→Prop}{s:Shared} (h:wpAny M A t Q E s) (k:∀ a s,Q a s→Q' a s):wpAny M A t Q' E s:=wpAny_mono h k fun _ _ e=>e
mutual
noncomputable def toDat (N:List Str):AV→Dat
 | .none=>.none
 | .bool b=>.bool b
 | .int i=>.int i
 | .str n=>.str (N.getD n (PySem.Str.ofString ""))
 | .tup l=>.tuple (qBX N l)
 | .lst l=>.list (qBX N l)
 | _=>.none
noncomputable def qBX (N:List Str):List AV→List Dat
 | []=>[]
 | a :: r=>toDat N a :: qBX N r
end
theorem qEt (N:List Str):∀ l,qBX N l=l.map (toDat N)
 | []=>by rw [qBX]; rfl
 | a :: r=>by rw [qBX,qEt N r]; rfl
noncomputable def okIds (N:List Str):Nat→AV→Prop
 | 0,a=>(match a with | .str n=>n < N.length | _=>True)
 | k + 1,a=>(match a with | .str n=>n < N.length | .tup l=>∀ a ∈ l,okIds N k a | .lst l=>∀ a ∈ l,okIds N k a | _=>True)
theorem qKA {N:List Str}{n:Nat}{x d:Str} (h:N[n]?=some x):N.getD n d=x:=by
 rw [List.getD_eq_getElem?_getD,h]; rfl
theorem qHR {N:List Str}{n:Nat} (d:Str) (h:n < N.length):N.getD n d=N[n]:=qKA (List.getElem?_eq_getElem h)
mutual
noncomputable def ofDat (N:List Str):Dat→AV
 | .int i=>.int i
 | .str x=>.str (N.idxOf x)
 | .tuple l=>.tup (qHs N l)
 | .list l=>.lst (qHs N l)
 | _=>.none
noncomputable def qHs (N:List Str):List Dat→List AV
 | []=>[]
 | d :: r=>ofDat N d :: qHs N r
end
theorem qEC {N:List Str}{k:Nat} (ih:∀ a,qAM k a=true→okIds N k a→ofDat N (toDat N a)=a):∀ l:List AV,(∀ a ∈ l,qAM k a=true)→(∀ a ∈ l,okIds N k a)→qHs N (qBX N l)=l
 | [],_,_=>rfl
 | a :: r,h1,h2=>congr (congrArg List.cons (ih a (h1 a (.head _)) (h2 a (.head _)))) (qEC ih r (fun x q=>h1 x (.tail _ q)) fun x q=>h2 x (.tail _ q))
theorem qHj {N:List Str} (nd:N.Nodup) {n:Nat} (h:n < N.length):N.idxOf (N.getD n (PySem.Str.ofString ""))=n:=by
 rw [qHR _ h]
 have m:=List.idxOf_lt_length_of_mem (List.getElem_mem h)
 exact (List.getElem_inj nd).mp (List.getElem_idxOf m)
theorem qDu {N:List Str} (nd:N.Nodup):∀ (k:Nat) (a:AV),qAM k a=true→okIds N k a→ofDat N (toDat N a)=a
 | 0,a,h,o=>by
  cases a with
  | none | int=>rfl
  | str n=>exact congrArg AV.str (qHj nd o)
  | _=>exact nomatch h
 | k + 1,a,h,o=>by
  cases a with
  | none | int=>rfl
  | str n=>exact congrArg AV.str (qHj nd o)
  | tup l=>exact congrArg AV.tup (qEC (qDu nd k) l (List.all_eq_true.mp h) o)
  | lst l=>exact congrArg AV.lst (qEC (qDu nd k) l (List.all_eq_true.mp h) o)
  | _=>exact nomatch h
theorem qG7 {N:List Str} (nd:N.Nodup) (n k:Nat) (a b:AV) (ha:qAM n a=true) (hb:qAM k b=true) (oa:okIds N n a) (ob:okIds N k b):toDat N a=toDat N b↔a=b :=
 ⟨fun e=>by rw [← qDu nd n a ha oa,e,qDu nd k b hb ob],fun e=>congrArg _ e⟩
theorem qJa {N:List Str}{k:Nat} (ih:∀ a,qAM k a=true→okIds N k a→kqdOk k (toDat N a)=true):∀ l:List AV,(∀ a ∈ l,qAM k a=true)→(∀ a ∈ l,okIds N k a)→(qBX N l).all (kqdOk k)=true
 | [],_,_=>rfl
 | a :: r,h1,h2=>Bool.and_eq_true_iff.mpr ⟨ih a (h1 a (.head _)) (h2 a (.head _)),qJa ih r (fun x q=>h1 x (.tail _ q)) fun x q=>h2 x (.tail _ q)⟩
theorem qBL {N:List Str} (ok:N.all PyData.strOk=true):∀ (n:Nat) (a:AV),qAM n a=true→okIds N n a→kqdOk n (toDat N a)=true
 | 0,a,h,o=>by
  cases a with
  | none | int=>rfl
  | str n=>exact (congrArg PyData.strOk (qHR _ o)).trans (List.all_eq_true.mp ok _ (List.getElem_mem o))
  | _=>exact nomatch h
 | k + 1,a,h,o=>by
  cases a with
  | none | int=>rfl
  | str n=>exact (congrArg PyData.strOk (qHR _ o)).trans (List.all_eq_true.mp ok _ (List.getElem_mem o))
  | tup l=>exact qJa (qBL ok k) l (List.all_eq_true.mp h) o
  | lst l=>exact qJa (qBL ok k) l (List.all_eq_true.mp h) o
  | _=>exact nomatch h
theorem VRs.mem {ψ φ h}{a:AV}:∀ {l:List AV}{vs:List Value},VRs X ψ φ h vs l→a ∈ l→∃ v,v ∈ vs∧VR X ψ φ h v a
 | b :: l,_,r,m=>by
  obtain ⟨v,ws,rfl,r,q⟩:=r
  cases m with
  | head=>exact ⟨v,.head _,r⟩
  | tail _ m=>obtain ⟨u,p,r⟩:=q.mem m; exact ⟨u,.tail _ p,r⟩
theorem VR.okIds {ψ φ h}:∀ (n:Nat) {a:AV}{v:Value},VR X ψ φ h v a→Mine.Internal.okIds X.names n a
 | 0,a,v,r=>by
  cases a with
  | str n=>obtain ⟨_,_,_,e⟩:=r; exact (List.getElem?_eq_some_iff.mp e).1
  | _=>trivial
 | k + 1,a,v,r=>by
  cases a with
  | str n=>obtain ⟨_,_,_,e⟩:=r; exact (List.getElem?_eq_some_iff.mp e).1
  | tup l=>obtain ⟨_,_,_,_,_,_,_,_,r⟩:=r; exact fun a m=>(r.mem m).elim fun _ q=>VR.okIds k q.2
  | lst l=>obtain ⟨_,_,_,_,_,_,_,_,r⟩:=r; exact fun a m=>(r.mem m).elim fun _ q=>VR.okIds k q.2
  | _=>trivial
theorem VRs.okIds {ψ φ h} (n:Nat) {vs:List Value}{l:List AV} (r:VRs X ψ φ h vs l):∀ a ∈ l,Mine.Internal.okIds X.names n a:=fun _ m=>(r.mem m).elim fun _ q=>VR.okIds n q.2
theorem qCq {ψ φ h}{n:Nat} (ih:∀ {a:AV}{v:Value},VR X ψ φ h v a→qAM n a=true→∃ as,Reads h v (kqdP (toDat X.names a)) as):∀ {l:List AV}{vs:List Value},VRs X ψ φ h vs l→(∀ a ∈ l,qAM n a=true)→∃ as,ReadsAll h vs (kqdPs (qBX X.names l)) as
 | [],_,r,_=>by cases r; exact ⟨_,.nil⟩
 | a :: l,_,r,c=>by
  obtain ⟨v,ws,rfl,r,q⟩:=r
  obtain ⟨as,p⟩:=ih r (c _ (.head _))
  obtain ⟨bs,q⟩:=qCq ih q fun x m=>c x (.tail _ m)
  exact ⟨_,.cons p q⟩
theorem qGG {ψ φ h}{n:Nat}{v:Value} (r:VR X ψ φ h v (.str n)):∃ as,Reads h v (kqdP (toDat X.names (.str n))) as:=by
 obtain ⟨y,t,rfl,e⟩:=r
 exact ⟨_,by show Reads h _ (.str (X.names.getD n _)) _; rw [qKA e]; exact .str y t⟩
theorem VR.reads {ψ φ h}:∀ (n:Nat) {a:AV}{v:Value},VR X ψ φ h v a→qAM n a=true→∃ as,Reads h v (kqdP (toDat X.names a)) as
 | 0,a,v,r,c=>by
  cases a with
  | none=>cases r; exact ⟨_,.none⟩
  | int i=>obtain ⟨t,rfl⟩:=r; exact ⟨_,.int i t⟩
  | str n=>exact qGG r
  | _=>exact nomatch c
 | k + 1,a,v,r,c=>by
  cases a with
  | none=>cases r; exact ⟨_,.none⟩
  | int i=>obtain ⟨t,rfl⟩:=r; exact ⟨_,.int i t⟩
  | str n=>exact qGG r
  | tup l =>
   obtain ⟨a,vs,n,rfl,e,_,_,_,r⟩:=r
   obtain ⟨as,q⟩:=qCq (VR.reads k) r (List.all_eq_true.mp c)
   exact ⟨_,.tuple e rfl rfl q⟩
  | lst l =>
   obtain ⟨a,vs,n,rfl,e,_,_,_,r⟩:=r
   obtain ⟨as,q⟩:=qCq (VR.reads k) r (List.all_eq_true.mp c)
   exact ⟨_,.list e rfl rfl q⟩
  | _=>exact nomatch c
theorem VRs.reads {ψ φ h} (n:Nat) {vs:List Value}{l:List AV} (r:VRs X ψ φ h vs l) (c:∀ a ∈ l,qAM n a=true):∃ as,ReadsAll h vs (kqdPs (qBX X.names l)) as:=qCq (VR.reads n) r c
structure Is (X:CX) (h:Heap) (v:Value) (a:AV):Prop where
 reads:∃ as,Reads h v (kqdP (toDat X.names a)) as
 ok:okIds X.names 8 a
theorem qK1 (G:GW X base) {h:Heap}{x y:Value}{a b:AV} (ia:Is X h x a) (ib:Is X h y b) (ca:a.clean=true) (cb:b.clean=true) :
  PyData.eqv (kqdP (toDat X.names a)) (kqdP (toDat X.names b))=a.beq b∧SeqAt.shaped (kqdP (toDat X.names a))=true∧SeqAt.shaped (kqdP (toDat X.names b))=true:=by
 have oka:=qBL G.ok 8 a ca ia.ok
 have okb:=qBL G.ok 8 b cb ib.ok
 have la:=kqd_lay 8 _ oka
 have lb:=kqd_lay 8 _ okb
 have q:=kqd_eqv 8 _ _ 8 oka okb
 rw [qG7 G.nd 8 8 a b ca cb ia.ok ib.ok,← AV.beq_iff] at q
 refine ⟨Bool.eq_iff_iff.mpr q,?_,?_⟩
 ·unfold SeqAt.shaped; rw [la.1,Bool.true_and]; exact decide_eq_true (Nat.le_trans la.2 (by decide))
 ·unfold SeqAt.shaped; rw [lb.1,Bool.true_and]; exact decide_eq_true (Nat.le_trans lb.2 (by decide))
theorem qLd (G:GW X base) {A:Around}{E:Value→Shared→Prop}{s:Shared}{x y:Value}{a b:AV}{d:Nat}{Q:Value→Shared→Prop} (R:Room d A)
  (ia:Is X s.heap x a) (ib:Is X s.heap y b) (ca:a.clean=true) (cb:b.clean=true) (h:Q (.bool (a.beq b)) s):wpAny (model prog w) A (compareOp .Eq x y) Q E s:=by
 obtain ⟨as,ra⟩:=ia.reads
 obtain ⟨bs,rb⟩:=ib.reads
 have z:=qK1 G ia ib ca cb
 exact eq_dataH ra rb z.2.1 z.2.2 (R.u 64 (by decide)) (by rw [z.1]; exact h)
theorem qLJ (G:GW X base) {A:Around}{E:Value→Shared→Prop}{s:Shared}{x y:Value}{a b:AV}{d:Nat}{Q:Value→Shared→Prop} (R:Room d A)
  (ia:Is X s.heap x a) (ib:Is X s.heap y b) (ca:a.clean=true) (cb:b.clean=true) (h:Q (.bool (!a.beq b)) s):wpAny (model prog w) A (compareOp .NotEq x y) Q E s:=by
 obtain ⟨as,ra⟩:=ia.reads
 obtain ⟨bs,rb⟩:=ib.reads
 have z:=qK1 G ia ib ca cb
 exact ne_dataH ra rb z.2.1 z.2.2 (R.u 64 (by decide)) (by rw [z.1]; exact h)
theorem qMD (G:GW X base):∀ (l:List AV) (a:AV),(∀ b ∈ l,qAM 7 b=true)→(∀ b ∈ l,okIds X.names 7 b)→a.clean=true→okIds X.names 8 a →
  ((kqdPs (qBX X.names l)).any fun y=>PyData.eqv y (kqdP (toDat X.names a)))=hasAV a l
 | [],_,_,_,_,_=>rfl
 | b :: l,a,hc,ho,ca,oa=>by
  have q:=kqd_eqv 7 _ _ 8 (qBL G.ok 7 b (hc b (.head _)) (ho b (.head _))) (qBL G.ok 8 a ca oa)
  rw [qG7 G.nd 7 8 b a (hc b (.head _)) ca (ho b (.head _)) oa,← AV.beq_iff] at q
  exact congr (congrArg or (Bool.eq_iff_iff.mpr q)) (qMD G l a (fun x q=>hc x (.tail _ q)) (fun x q=>ho x (.tail _ q)) ca oa)
theorem qIQ {ψ φ h}{a:Addr}{vs:Array Value}{n k:Nat}{l:List AV} (e:h.get? a=some (seqObj "list" vs n)) (r:VRs X ψ φ h vs.toList l) (c:qAM k (.lst l)=true) :
  ∃ as,Reads h (.ref a) (kqdP (toDat X.names (.lst l))) as:=by
 cases k with
 | zero=>exact nomatch c
 | succ k =>
  obtain ⟨as,q⟩:=r.reads k (List.all_eq_true.mp c)
  exact ⟨_,.list e rfl rfl q⟩
theorem VR.isOf {ψ φ h v a} (r:VR X ψ φ h v a) (c:a.clean=true):Is X h v a:=⟨r.reads 8 c,r.okIds 8⟩
theorem qCb {H:AHeap}{i:Nat}{l:List AV} (e:qAg H i=some l):H[i]?=some (.list l):=by
 obtain ⟨o,h,e⟩:=qA0 e
 cases o with
 | list=>rw [h]; exact congrArg (fun x=>some (AObj.list x)) (Option.some.inj e)
 | _=>exact qA3 e
theorem SR.list {ψ φ H h} (S:SR X prog w base ψ φ H h) {v:Value}{i:Nat}{l:List AV} (r:VR X ψ φ h v (.ref i)) (e:qAg H i=some l):∃ a,v=.ref a∧φ[i]?=some a∧ListO X ψ φ h a l:=by
 obtain ⟨a,rfl,p⟩:=r
 exact ⟨a,rfl,p,S.obj i a _ p (qCb e)⟩
theorem qGn {ψ φ H h} (S:SR X prog w base ψ φ H h) {v:Value}{a b:AV}{n:Nat} (r:VR X ψ φ h v a) (e:qCQ H a=some b) (c:qAM n b=true) :
  (∃ as,Reads h v (kqdP (toDat X.names b)) as)∧∀ k,okIds X.names k b:=by
 have plain:some a=some b→(∃ as,Reads h v (kqdP (toDat X.names b)) as)∧∀ k,okIds X.names k b:=fun e=>by
  obtain rfl:=Option.some.inj e
  exact ⟨r.reads n c,fun k=>r.okIds k⟩
 cases a with
 | ref i =>
  obtain ⟨l,hl,rfl⟩:=qA4 e
  obtain ⟨a,rfl,_,vs,n,e1,_,r1⟩:=S.list r hl
  exact ⟨qIQ e1 r1 c,fun k=>by cases k with
   | zero=>trivial
   | succ=>exact r1.okIds _⟩
 | _=>exact plain e
theorem qDo {ψ φ H h} (S:SR X prog w base ψ φ H h) {n:Nat}:∀ {l l':List AV}{vs:List Value},VRs X ψ φ h vs l→l.mapM (qCQ H)=some l'→(∀ b ∈ l',qAM n b=true) →
  (∃ as,ReadsAll h vs (kqdPs (qBX X.names l')) as)∧∀ k,∀ b ∈ l',okIds X.names k b
 | [],l',vs,r,e,_=>by
  cases e; cases r
  exact ⟨⟨_,.nil⟩,fun _ _ q=>qA9 q⟩
 | a :: l,l',vs,r,e,c=>by
  obtain ⟨v,ws,rfl,r,rs⟩:=r
  rw [List.mapM_cons] at e
  obtain ⟨b,hb,e⟩:=qA0 e
  obtain ⟨t,ht,e⟩:=qA0 e
  cases e
  obtain ⟨⟨as,q⟩,o⟩:=qGn S r hb (c b (.head _))
  obtain ⟨⟨bs,q'⟩,o'⟩:=qDo S rs ht fun x hx=>c x (.tail _ hx)
  exact ⟨⟨_,.cons q q'⟩,fun k x hx=>by
   cases hx with
   | head=>exact o k
   | tail _ hx=>exact o' k x hx⟩
theorem qGm {ψ φ H h} (S:SR X prog w base ψ φ H h) {v:Value}{a b:AV} (r:VR X ψ φ h v a) (e:qB4 H a=some b) (c:b.clean=true):Is X h v b:=by
 have items:∀ {ad:Addr}{vs:Array Value}{n:Nat}{l l':List AV},h.get? ad=some (seqObj "list" vs n)→VRs X ψ φ h vs.toList l→l.mapM (qCQ H)=some l'→(AV.lst l').clean=true→Is X h (.ref ad) (.lst l'):=by
  intro ad vs n l l' e1 r1 hl' c
  obtain ⟨⟨as,q⟩,o⟩:=qDo (n:=7) S r1 hl' (List.all_eq_true.mp c)
  exact ⟨⟨_,.list e1 rfl rfl q⟩,o 7⟩
 have plain:some a=some b→Is X h v b:=fun e=>by
  obtain rfl:=Option.some.inj e
  exact r.isOf c
 cases a with
 | ref i =>
  obtain ⟨l,hl,e⟩:=qA0 e
  obtain ⟨l',hl',rfl⟩:=qA4 e
  obtain ⟨a,rfl,_,vs,n,e1,_,r1⟩:=S.list r hl
  exact items e1 r1 hl' c
 | lst l =>
  obtain ⟨l',hl',rfl⟩:=qA4 e
  obtain ⟨a,vs,n,rfl,e1,_,_,_,r1⟩:=r
  exact items e1 r1 hl' c
 | _=>exact plain e
end Mine.Internal
end
section
open PySem PySem.W PyProof.Rows
namespace Mine.Internal
section
variable {A:Around}{ψ φ φ₁:List Addr}{H H' H₁:AHeap}{s s₁:Shared}{d:Nat}
def Out (X:CX) (prog:Program) (w:World) (base:Heap) (ψ φ:List Addr) (s:Shared) (v:AV) (H':AHeap) (x:Value) (s':Shared):Prop :=
 ∃ φ',Post X prog w base [] ψ φ φ' H' s s'∧VR X ψ φ' s'.heap x v
abbrev NoE:Value→Shared→Prop:=fun _ _=>False
theorem Out.step {v x s'} (p:Post X prog w base [] ψ φ φ₁ H₁ s s₁) (o:Out X prog w base ψ φ₁ s₁ v H' x s'):Out X prog w base ψ φ s v H' x s' :=
 let ⟨φ',q,r⟩:=o; ⟨φ',p.trans q,r⟩
theorem wp_step {t:Sem Value}{v} (p:Post X prog w base [] ψ φ φ₁ H₁ s s₁) (h:wpAny (model prog w) A t (Out X prog w base ψ φ₁ s₁ v H') NoE s₁) :
  wpAny (model prog w) A t (Out X prog w base ψ φ s v H') NoE s₁:=qA1 h fun _ _ o=>o.step p
theorem qAz {v x} (S:SR X prog w base ψ φ H s.heap) (r:VR X ψ φ s.heap x v):Out X prog w base ψ φ s v H x s:=⟨φ,Post.refl S,r⟩
theorem qBl {v x t} (S:SR X prog w base ψ φ H s.heap) (r:VR X ψ φ s.heap x v):Out X prog w base ψ φ s v H x { s with toks:=t }:=⟨φ,Post.tok S t,r⟩
theorem qBQ {i t k} (S:SR X prog w base ψ φ H s.heap):Out X prog w base ψ φ s (.int i) H (.int i t) { s with toks:=k }:=qBl S (.int i t)
theorem qLA {i t} (S:SR X prog w base ψ φ H s.heap):Out X prog w base ψ φ s (.int i) H (.int i t) s:=qAz S (.int i t)
theorem qAR {b} (S:SR X prog w base ψ φ H s.heap):Out X prog w base ψ φ s (.bool b) H (.bool b) s:=qAz S (.bool b)
theorem qNk {k} (S:SR X prog w base ψ φ H s.heap):Out X prog w base ψ φ s .none H .none { s with toks:=k }:=qBl S .none
theorem qBb {v x h' k} (S:SR X prog w base ψ φ H s.heap) (g:∀ b o,s.heap.get? b=some o→h'.get? b=some o) (r:VR X ψ φ h' x v):Out X prog w base ψ φ s v H x { s with heap:=h',toks:=k } :=
 ⟨φ,Post.grown S g,r⟩
theorem qAc {h h₀:Heap} (g:∀ b o,h.get? b=some o→h₀.get? b=some o):h.get? h₀.objs.size=none:=by
 cases e:h.get? h₀.objs.size with
 | none=>rfl
 | some o=>exact absurd (Heap.lt_size (g _ _ e)) (Nat.lt_irrefl _)
theorem SR.fresh_at (G:GW X base) {h h₀:Heap} (S:SR X prog w base ψ φ H h) (g:∀ b o,h.get? b=some o→h₀.get? b=some o):h₀.objs.size ∉ φ∧base.get? h₀.objs.size=none∧3 < h₀.objs.size:=by
 refine ⟨fun m=>?_,?_,?_⟩
 ·obtain ⟨o,e⟩:=S.there m; exact absurd (Heap.lt_size (g _ _ e)) (Nat.lt_irrefl _)
 ·exact qAc fun b o e=>g _ _ (S.keep _ _ e)
 ·obtain ⟨mg,hm⟩:=G.g
  obtain ⟨o,_,_,e,_⟩:=hm
  exact Heap.lt_size (g _ _ (S.keep _ _ e))
theorem SR.out {h h₀:Heap} (S:SR X prog w base ψ φ H h) (g:∀ b o,h.get? b=some o→h₀.get? b=some o):h₀.objs.size ∉ ψ:=fun m=>by
 obtain ⟨o,e⟩:=S.stand _ m; exact absurd (Heap.lt_size (g _ _ e)) (Nat.lt_irrefl _)
theorem qDP (G:GW X base) {h₀:Heap}{vs:List Value}{l:List AV}{k n:Nat} (S:SR X prog w base ψ φ H s.heap) (g:∀ b o,s.heap.get? b=some o→h₀.get? b=some o) (r:VRs X ψ φ s.heap vs l) (hl:l.length < 1000001) :
  Out X prog w base ψ φ s (.tup l) H (.ref h₀.objs.size) { s with heap:=h₀.push (seqObj "tuple" vs.toArray n),toks:=k }:=by
 have g':∀ b o,s.heap.get? b=some o→(h₀.push (seqObj "tuple" vs.toArray n)).get? b=some o:=fun b o e=>qAo _ _ _ _ (g b o e)
 exact qBb S g' (.tup (Heap.get?_push_size _ rfl) (S.fresh_at G g).1 (S.out g) hl (by simpa using r.grow0 (Grow.of_keep g')))
theorem qGM (G:GW X base) {h₁:Heap}{x:Addr}{o:AObj}{k:Nat} (S:SR X prog w base ψ φ H s.heap) (g:∀ b o,s.heap.get? b=some o→h₁.get? b=some o) (h0:s.heap.get? x=none) (h3:3 < x)
  (ho:ObjR X prog w ψ (φ ++ [x]) h₁ x o):Out X prog w base ψ φ s (.ref H.length) (H ++ [o]) (.ref x) { s with heap:=h₁,toks:=k }:=by
 have hb:base.get? x=none:=by
  cases e:base.get? x with
  | none=>rfl
  | some ob=>rw [S.keep _ _ e] at h0; cases h0
 obtain ⟨S',g'⟩:=S.tracked hb h3 h0 g ho
 refine ⟨φ ++ [x],⟨rfl,g',S'⟩,.ref ?_⟩
 rw [← S.len]; simp
theorem qCH (G:GW X base) {h₁:Heap}{x:Addr}{vs:List Value}{l:List AV}{k n:Nat} (trk:Bool) (S:SR X prog w base ψ φ H s.heap) (g:∀ b o,s.heap.get? b=some o→h₁.get? b=some o)
  (h0:s.heap.get? x=none) (h3:3 < x) (e:h₁.get? x=some (seqObj "list" vs.toArray n)) (r:VRs X ψ φ s.heap vs l) (hl:l.length < 1000001) :
  Out X prog w base ψ φ s (qAC trk l H).1 (qAC trk l H).2 (.ref x) { s with heap:=h₁,toks:=k }:=by
 have hn:x ∉ φ:=fun m=>by obtain ⟨o,e⟩:=S.there m; rw [h0] at e; cases e
 have hp:x ∉ ψ:=fun m=>by obtain ⟨o,e⟩:=S.stand x m; rw [h0] at e; cases e
 cases trk with
 | false=>exact qBb S g (.lst e hn hp hl (by simpa using r.grow0 (Grow.of_keep g)))
 | true =>
  refine qGM G S g h0 h3 (.list e hl ?_)
  refine VRs.move (fun _ _ e=>qBw (List.prefix_append _ _) e) (fun b o e n m=>⟨g _ _ e,fun q=>?_,m⟩) (by simpa using r)
  rcases List.mem_append.mp q with q | q
  ·exact n q
  ·rw [List.mem_singleton.mp q,h0] at e; cases e
theorem qEB (G:GW X base) {h₀:Heap}{vs:List Value}{l:List AV}{k n:Nat} (trk:Bool) (S:SR X prog w base ψ φ H s.heap) (g:∀ b o,s.heap.get? b=some o→h₀.get? b=some o) (r:VRs X ψ φ s.heap vs l) (hl:l.length < 1000001) :
  Out X prog w base ψ φ s (qAC trk l H).1 (qAC trk l H).2 (.ref h₀.objs.size) { s with heap:=h₀.push (seqObj "list" vs.toArray n),toks:=k } :=
 qCH G trk S (fun b o e=>qAo _ _ _ _ (g b o e)) (qAc g) (S.fresh_at G g).2.2 (Heap.get?_push_size _ rfl) r hl
theorem VRs.append {h}:∀ {l m:List AV}{vs ws:List Value},VRs X ψ φ h vs l→VRs X ψ φ h ws m→VRs X ψ φ h (vs ++ ws) (l ++ m)
 | [],_,_,_,r,q=>by cases r; exact q
 | _ :: _,_,_,_,r,q=>by obtain ⟨v,ws,rfl,r,rs⟩:=r; exact .cons r (VRs.append rs q)
theorem VRs.get {h}:∀ {l:List AV}{vs:List Value},VRs X ψ φ h vs l→∀ {k:Nat}{a:AV},l[k]?=some a→∃ v,vs[k]?=some v∧VR X ψ φ h v a
 | _ :: _,_,r,0,b,e=>by obtain ⟨v,ws,rfl,r,rs⟩:=r; cases e; exact ⟨v,rfl,r⟩
 | _ :: _,_,r,k + 1,b,e=>by obtain ⟨v,ws,rfl,r,rs⟩:=r; exact rs.get (k:=k) e
theorem VRs.take {h}:∀ {l:List AV}{vs:List Value} (n:Nat),VRs X ψ φ h vs l→VRs X ψ φ h (vs.take n) (l.take n)
 | _,_,0,_=>.nil
 | [],_,n + 1,r=>by cases r; exact .nil
 | _ :: _,_,n + 1,r=>by obtain ⟨v,ws,rfl,r,rs⟩:=r; exact .cons r (rs.take n)
theorem VRs.drop {h}:∀ {l:List AV}{vs:List Value} (n:Nat),VRs X ψ φ h vs l→VRs X ψ φ h (vs.drop n) (l.drop n)
 | _,_,0,r=>r
 | [],_,n + 1,r=>by cases r; exact .nil
 | _ :: _,_,n + 1,r=>by obtain ⟨v,ws,rfl,r,rs⟩:=r; exact rs.drop n
theorem VRs.set {h}:∀ {l:List AV}{vs:List Value}{v:Value}{a:AV} (n:Nat),VRs X ψ φ h vs l→VR X ψ φ h v a→VRs X ψ φ h (vs.set n v) (l.set n a)
 | [],_,_,_,_,r,_=>by cases r; exact .nil
 | _ :: _,_,_,_,0,r,q=>by obtain ⟨v,ws,rfl,r,rs⟩:=r; exact .cons q rs
 | _ :: _,_,_,_,n + 1,r,q=>by obtain ⟨v,ws,rfl,r,rs⟩:=r; exact .cons r (rs.set n q)
theorem qAS {h}{vs:Array Value}{l:List AV} (r:VRs X ψ φ h vs.toList l):vs.size=l.length:=by rw [← Array.length_toList]; exact r.length
theorem qBR:sizeLine=16777216:=by decide +kernel
theorem qDL {h}{vs:Array Value}{l:List AV} (r:VRs X ψ φ h vs.toList l) (k:l.length < 1000001):vs.size ≤ sizeLine:=by rw [qAS r,qBR]; exact Nat.le_of_lt (Nat.lt_trans k (by decide))
theorem qM4 {h}{vs:List Value}{l:List AV} (r:VRs X ψ φ h vs l) (k:l.length < 1000001):vs.length ≤ sizeLine:=by rw [r.length,qBR]; exact Nat.le_of_lt (Nat.lt_trans k (by decide))
theorem qCp {i:Int} (h:small i=true):i.natAbs < 400000:=of_decide_eq_true h
theorem qKj {vs ws:Array Value}:(vs.toList ++ ws.toList).toArray=vs ++ ws:=by simp
theorem qHZ {l m:List AV} (h:l.length + m.length < 1000000):(l ++ m).length < 1000001:=by rw [List.length_append]; exact Nat.lt_succ_of_lt h
theorem qFy {h}{vs ws:Array Value}{l m:List AV} (r:VRs X ψ φ h vs.toList l) (q:VRs X ψ φ h ws.toList m) (k:l.length + m.length < 1000000):vs.size + ws.size ≤ sizeLine:=by
 rw [qAS r,qAS q,qBR]; exact Nat.le_of_lt (Nat.lt_trans k (by decide))
theorem qLn (G:GW X base) {x y:Value}{l m:List AV} (S:SR X prog w base ψ φ H s.heap) (ra:VR X ψ φ s.heap x (.tup l)) (rb:VR X ψ φ s.heap y (.tup m)) (hl:l.length + m.length < 1000000) :
  wpAny (model prog w) A (binaryOp .Add x y) (Out X prog w base ψ φ s (.tup (l ++ m)) H) NoE s:=by
 obtain ⟨a1,vs1,q1,rfl,e1,n1,m1,k1,r1⟩:=ra
 obtain ⟨a2,vs2,q2,rfl,e2,n2,m2,k2,r2⟩:=rb
 by_cases h1:vs1.isEmpty=true
 ·refine concat_meets ⟨_,e1,rfl⟩ ⟨_,e2,rfl⟩ noFill_tuple_add seq_tuple_add F.slot_tuple_add F.entry_tuple_add (F.args_tuple_add_2 _ _) (AutoSeq1.tuple___add___tuple_tuple_0 a1 vs1 q1 a2 vs2 q2 h1) ⟨e1,e2,?_⟩
  obtain rfl:l=[]:=List.eq_nil_of_length_eq_zero (by rw [← qAS r1]; exact Array.isEmpty_iff_size_eq_zero.mp h1)
  exact qAz S (.tup e2 n2 m2 k2 r2)
 ·by_cases h2:vs2.isEmpty=true
  ·refine concat_meets ⟨_,e1,rfl⟩ ⟨_,e2,rfl⟩ noFill_tuple_add seq_tuple_add F.slot_tuple_add F.entry_tuple_add (F.args_tuple_add_2 _ _) (AutoSeq1.tuple___add___tuple_tuple_1 a1 vs1 q1 a2 vs2 q2 h1 h2) ⟨e1,e2,?_⟩
   obtain rfl:m=[]:=List.eq_nil_of_length_eq_zero (by rw [← qAS r2]; exact Array.isEmpty_iff_size_eq_zero.mp h2)
   rw [List.append_nil]
   exact qAz S (.tup e1 n1 m1 k1 r1)
  ·refine concat_meets ⟨_,e1,rfl⟩ ⟨_,e2,rfl⟩ noFill_tuple_add seq_tuple_add F.slot_tuple_add F.entry_tuple_add (F.args_tuple_add_2 _ _) (AutoSeq1.tuple___add___tuple_tuple_2 a1 vs1 q1 a2 vs2 q2 h1 h2 (qFy r1 r2 hl)) ⟨e1,e2,?_⟩
   exact qKj ▸ qDP (k:=s.toks) (n:=0) G S (h₀:=s.heap) (fun _ _ e=>e) (r1.append r2) (qHZ hl)
theorem qLo (G:GW X base) {x y:Value}{l m:List AV} (trk:Bool) (S:SR X prog w base ψ φ H s.heap) (ra:VR X ψ φ s.heap x (.lst l)) (rb:VR X ψ φ s.heap y (.lst m)) (hl:l.length + m.length < 1000000) :
  wpAny (model prog w) A (binaryOp .Add x y) (Out X prog w base ψ φ s (qAC trk (l ++ m) H).1 (qAC trk (l ++ m) H).2) NoE s:=by
 obtain ⟨a1,vs1,q1,rfl,e1,n1,m1,k1,r1⟩:=ra
 obtain ⟨a2,vs2,q2,rfl,e2,n2,m2,k2,r2⟩:=rb
 refine concat_meets ⟨_,e1,rfl⟩ ⟨_,e2,rfl⟩ noFill_list_add seq_list_add F.slot_list_add F.entry_list_add (F.args_list_add_2 _ _) (list_addW a1 a2 vs1 vs2 q1 q2 none none #[] #[] (qFy r1 r2 hl)) ⟨e1,e2,?_⟩
 exact qKj ▸ qEB (k:=s.toks) (n:=0) G trk S (h₀:=s.heap) (fun _ _ e=>e) (r1.append r2) (qHZ hl)
theorem VR.isInt {h}{x:Value}{a:AV}{i:Int} (r:VR X ψ φ h x a) (e:intOf a=some i):a=.int i∧∃ t,x=.int i t:=by
 have:=qAZ e
 subst this
 exact ⟨rfl,r⟩
theorem qCm {a b:AV}{f:Int→Int→Option AV}{c:AV}{h}{x y:Value} (ra:VR X ψ φ h x a) (rb:VR X ψ φ h y b) (e:twoI a b f=some c):∃ i j t u,x=.int i t∧y=.int j u∧f i j=some c:=by
 revert ra rb e
 revert ψ φ a b f c h x y
 intros ψ φ a b f c h x y
 intro ra rb e
 (injection (qA0 e) with i; rintro ⟨h1,e⟩)
 (injection (qA0 e) with j; rintro ⟨h2,e⟩)
 (injection ((ra.isInt h1).2) with t; intro q)
 (injection ((rb.isInt h2).2) with u; intro p)
 exact ⟨i,j,t,u,q,p,e⟩
theorem qKb (G:GW X base) {o:Operator}{op:BOp}{trk:Bool}{x y:Value}{a b c:AV} (ho:bOp o=some op) (S:SR X prog w base ψ φ H s.heap) (ra:VR X ψ φ s.heap x a) (rb:VR X ψ φ s.heap y b)
  (e:binAV op a b=some c):wpAny (model prog w) A (binaryOp o x y) (Out X prog w base ψ φ s (trkAV trk c H).1 (trkAV trk c H).2) NoE s:=by
 revert G ho S ra rb e
 revert A ψ φ H s o op trk x y a b c
 intros A ψ φ H s o op trk x y a b c
 intro G ho S ra rb e
 cases o with
 | Add =>
  cases Option.some.inj ho
  cases a with
  | int i =>
   revert ra e; revert i; intros i; intro ra e
   (injection (qA4 e) with j; rintro ⟨h2,rfl⟩)
   (injection (ra) with t; try clear ra; rintro rfl)
   (injection ((rb.isInt h2).2) with u; rintro rfl)
   exact _root_.PyProof.Rows.add_int (qBQ S)
  | tup l =>
   revert ra e; revert l; intros l; intro ra e
   (injection (qA0 e) with m; rintro ⟨h2,e⟩)
   obtain ⟨hl,e⟩:=qAA e
   obtain rfl:=Option.some.inj e
   exact qLn G S ra (qAt h2 ▸ rb) hl
  | lst l =>
   revert ra e; revert l; intros l; intro ra e
   (injection (qA0 e) with m; rintro ⟨h2,e⟩)
   obtain ⟨hl,e⟩:=qAA e
   obtain rfl:=Option.some.inj e
   exact qLo G trk S ra (qBc h2 ▸ rb) hl
  | _=>exact qA3 e
 | Sub =>
  cases Option.some.inj ho
  (injection (qCm ra rb e) with i j t u; rintro ⟨rfl,rfl,e⟩)
  obtain rfl:=Option.some.inj e
  exact _root_.PyProof.Rows.sub_int' (qBQ S)
 | Mult =>
  cases Option.some.inj ho
  (injection (qCm ra rb e) with i j t u; rintro ⟨rfl,rfl,e⟩)
  obtain ⟨hs,e⟩:=qAA e
  obtain rfl:=Option.some.inj e
  have hs':=Bool.and_eq_true_iff.mp hs
  have q:=qCp hs'.1
  refine _root_.PyProof.Rows.mul_int (qBQ S) ?_
  mul_fits
 | FloorDiv =>
  cases Option.some.inj ho
  (injection (qCm ra rb e) with i j t u; rintro ⟨rfl,rfl,e⟩)
  obtain ⟨hs,e⟩:=qAA e
  obtain rfl:=Option.some.inj e
  have hs':=Bool.and_eq_true_iff.mp hs
  have hp:=of_decide_eq_true hs'.1
  have q:=qCp hs'.2
  refine _root_.PyProof.Rows.floordiv_int (Int.ne_of_gt hp) ?_ (Or.inl (PyProof.noPylong_small (by omega)))
  rw [Int.fdiv_eq_ediv_of_nonneg _ (Int.le_of_lt hp)]
  exact qBQ S
 | Mod =>
  cases Option.some.inj ho
  (injection (qCm ra rb e) with i j t u; rintro ⟨rfl,rfl,e⟩)
  obtain ⟨hs,e⟩:=qAA e
  obtain rfl:=Option.some.inj e
  have hp:=of_decide_eq_true hs
  refine _root_.PyProof.Rows.mod_int' (Int.ne_of_gt hp) ?_
  rw [Int.fmod_eq_emod_of_nonneg _ (Int.le_of_lt hp)]
  exact qBQ S
 | _=>exact qA3 ho
end
end Mine.Internal
end
section
open PySem PySem.W PyProof.Rows
namespace Mine.Internal
section
variable {A:Around}{ψ φ φ₁:List Addr}{H H' H₁:AHeap}{s s₁:Shared}{d:Nat}
theorem qEY {H:AHeap}{a:AV}{b:Bool} (e:qB4 H a=some (.bool b)):a=.bool b:=by
 have no:∀ {l:List AV},qKN H l=some (.bool b)→False:=fun e=>by
  obtain ⟨_,_,q⟩:=qA4 e
  exact nomatch q
 cases a with
 | ref i=>obtain ⟨l,_,e⟩:=qA0 e; exact (no e).elim
 | lst l=>exact (no e).elim
 | _=>exact Option.some.inj e
theorem qIl {a b:AV}{r:Bool} (e:eqAV a b=some r):(∃ x y,a=.bool x∧b=.bool y∧(x == y)=r)∨(a.clean=true∧b.clean=true∧a.beq b=r):=by
 revert e
 revert a b r
 intros a b r
 intro e
 unfold eqAV at e
 cases h:qAY a with
 | some x =>
  revert h; revert x; intros x; intro h
  rw [h] at e
  (injection (qA4 e) with y; rintro ⟨h2,q⟩)
  exact .inl ⟨x,y,qAW h,qAW h2,q⟩
 | none =>
  rw [h] at e
  obtain ⟨hc,e⟩:=qAA e
  exact .inr ⟨(Bool.and_eq_true_iff.mp hc).1,(Bool.and_eq_true_iff.mp hc).2,Option.some.inj e⟩
inductive ItemsAt (X:CX) (ψ φ:List Addr) (h:Heap) (v:Value) (l:List AV):Prop
 | mk (p:Addr) (vs:Array Value) (n:Nat) (z:v=.ref p) (e:h.get? p=some (seqObj "list" vs n)) (r:VRs X ψ φ h vs.toList l) (k:l.length < 1000001)
theorem qCx {v:Value}{a:AV}{l:List AV} (S:SR X prog w base ψ φ H s.heap) (r:VR X ψ φ s.heap v a) (e:qAI H a=some l):ItemsAt X ψ φ s.heap v l:=by
 revert S r e
 revert ψ φ H s v a l
 intros ψ φ H s v a l
 intro S r e
 cases a with
 | lst m =>
  revert r e; revert m; intros m; intro r e
  cases Option.some.inj e
  obtain ⟨a,vs,n,z,e,_,_,k,r⟩:=r
  exact ⟨a,vs,n,z,e,r,k⟩
 | ref i =>
  revert r e; revert i; intros i; intro r e
  (injection (S.list r e) with a; rintro ⟨z,_,vs,n,e1,k,r1⟩)
  exact ⟨a,vs,n,z,e1,r1,k⟩
 | _=>exact qA3 e
theorem qJw:∀ {n:Nat}{d:Dat},kqdOk n d=true→kqdOk (n + 1) d=true
 | 0,d,h=>by
  cases d with
  | none | int | str=>exact h
  | _=>exact nomatch h
 | n + 1,d,h=>by
  cases d with
  | none | int | str=>exact h
  | tuple ds=>exact List.all_eq_true.mpr fun x hx=>qJw (List.all_eq_true.mp h x hx)
  | list ds=>exact List.all_eq_true.mpr fun x hx=>qJw (List.all_eq_true.mp h x hx)
  | _=>exact nomatch h
theorem qIt {l:List AV} (h:qGr l=true):∀ b ∈ l,qAM 7 b=true:=List.all_eq_true.mp h
theorem qLi {a b:Bool}:(AV.bool a).beq (.bool b)=(a == b):=by
 rw [Bool.eq_iff_iff,AV.beq_iff,beq_iff_eq,AV.bool.injEq]
inductive BoolsAt (h:Heap) (vs:List Value) (l:List AV):Prop
 | mk (ds:List PyData) (as:List Addr) (q:ReadsAll h vs ds as) (c1:PyData.canLayAll0 ds=true) (c2:PyData.depthAll ds ≤ 1) (e:∀ b:Bool,(ds.any fun y=>PyData.eqv y (.bool b))=hasAV (.bool b) l)
theorem qEf {h}:∀ {l:List AV}{vs:List Value},VRs X ψ φ h vs l→(l.all fun v=>(qAY v).isSome)=true→BoolsAt h vs l
 | [],_,r,_=>by cases r; exact ⟨[],_,.nil,rfl,Nat.zero_le _,fun _=>rfl⟩
 | a :: l,_,r,c=>by
  obtain ⟨v,ws,rfl,r,rs⟩:=r
  have c:=Bool.and_eq_true_iff.mp c
  obtain ⟨ds,as,q,c1,c2,e⟩:=qEf rs c.2
  obtain ⟨x,hx⟩:=Option.isSome_iff_exists.mp c.1
  cases qAW hx
  cases r
  exact ⟨.bool x :: ds,_,.cons (.bool x) q,c1,Nat.max_le.mpr ⟨Nat.zero_le _,c2⟩,fun b=>congr (congrArg or qLi.symm) (e b)⟩
theorem qGQ (G:GW X base) (R:Room d A) {op:CmpOp}{neg:Bool} (hop:(op=.In∧neg=false)∨(op=.NotIn∧neg=true)) {x y:Value}{a b:AV}{l:List AV}{r:Bool}{Q:Value→Shared→Prop}{E:Value→Shared→Prop}
  (S:SR X prog w base ψ φ H s.heap) (ra:VR X ψ φ s.heap x a) (rb:VR X ψ φ s.heap y b) (hi:qBp H b=some l) (e:memAV a l=some r) (h:Q (.bool (r != neg)) s):wpAny (model prog w) A (compareOp op x y) Q E s:=by
 revert G R hop S ra rb hi e h
 revert A ψ φ H s d op neg x y a b l r Q E
 intros A ψ φ H s d op neg x y a b l r Q E
 intro G R hop S ra rb hi e h
 have cont:∃ (p:Addr) (vs:Array Value) (n:Nat) (c:String),(c = "list"∨c = "tuple")∧y=.ref p∧s.heap.get? p=some (seqObj c vs n)∧VRs X ψ φ s.heap vs.toList l:=by
  have li:qAI H b=some l→∃ (p:Addr) (vs:Array Value) (n:Nat) (c:String),(c = "list"∨c = "tuple")∧y=.ref p∧s.heap.get? p=some (seqObj c vs n)∧VRs X ψ φ s.heap vs.toList l:=fun hi=>by
   obtain ⟨p,vs,n,e1,e2,r1,_⟩:=qCx S rb hi
   exact ⟨p,vs,n,"list",.inl rfl,e1,e2,r1⟩
  cases b with
  | tup m =>
   revert rb hi li; revert m; intros m; intro rb hi li
   cases Option.some.inj hi
   obtain ⟨a,vs,n,z,e1,_,_,_,r1⟩:=rb
   exact ⟨a,vs,n,"tuple",.inr rfl,z,e1,r1⟩
  | _=>exact li hi
 (injection (cont) with p vs n c; rintro ⟨hc,rfl,eo,rs⟩)
 have fin:∀ (ds:List PyData) (as:List Addr) (dx:PyData) (bs:List Addr),ReadsAll s.heap vs.toList ds as→Reads s.heap x dx bs→PyData.canLayAll0 ds=true→dx.canLay0=true→PyData.depthAll ds ≤ 9 →
   (ds.any fun y=>PyData.eqv y dx)=r→wpAny (model prog w) A (compareOp op x (.ref p)) Q E s:=by
  (intros ds as; intro dx; intros bs; intro q1 q2 k1 k2 k3 k4)
  have hu:A.units + 1 + min (PyData.depthAll ds) dx.depth < cLine:=by
   have:=R.u 20 (by decide)
   have:=Nat.min_le_left (PyData.depthAll ds) dx.depth
   omega
  subst k4
  rcases hop with ⟨rfl,rfl⟩ | ⟨rfl,rfl⟩
  ·have h':Q (.bool (ds.any fun y=>PyData.eqv y dx)) s:=(Bool.bne_false (b:=ds.any fun y=>PyData.eqv y dx)) ▸ h
   rcases hc with rfl | rfl
   ·exact SeqAt.in_list_reads (.list eo rfl rfl q1) q2 k1 k2 hu h'
   ·exact SeqAt.in_tuple_reads (.tuple eo rfl rfl q1) q2 k1 k2 hu h'
  ·have h':Q (.bool (!ds.any fun y=>PyData.eqv y dx)) s:=(Bool.bne_true (b:=ds.any fun y=>PyData.eqv y dx)) ▸ h
   rcases hc with rfl | rfl
   ·exact SeqAt.notIn_list_reads (.list eo rfl rfl q1) q2 k1 k2 hu h'
   ·exact SeqAt.notIn_tuple_reads (.tuple eo rfl rfl q1) q2 k1 k2 hu h'
 unfold memAV at e
 cases hb:qAY a with
 | some bb =>
  revert hb; revert bb; intros bb; intro hb
  rw [hb] at e
  obtain ⟨hl,e3⟩:=qAA e
  obtain rfl:=qAW hb
  cases ra
  obtain ⟨ds,as,q,c1,c2,e2⟩:=qEf rs hl
  exact fin ds as _ _ q (.bool bb) c1 rfl (Nat.le_trans c2 (by decide)) ((e2 bb).trans (Option.some.inj e3))
 | none =>
  rw [hb] at e
  obtain ⟨hc2,e⟩:=qAA e
  have hc2':=Bool.and_eq_true_iff.mp hc2
  have cl:=qIt hc2'.2
  (injection (rs.reads 7 cl) with as; intro q)
  (injection (ra.reads 8 hc2'.1) with bs; intro q2)
  have o1:=rs.okIds 7
  have l1:=kqd_lay 8 _ (qBL G.ok 8 a hc2'.1 (ra.okIds 8))
  have l2:=kqd_layL (ds:=qBX X.names l) (fun e he=>by
   rw [qEt] at he
   obtain ⟨b,hb,rfl⟩:=List.mem_map.mp he
   exact qJw (qBL G.ok 7 b (cl b hb) (o1 b hb)))
  exact fin _ as _ bs q q2 l2.1 l1.1 l2.2 ((qMD G l a cl o1 hc2'.1 (ra.okIds 8)).trans (Option.some.inj e))
theorem qDy {a b:AV}{f:Int→Int→Bool}{c:Bool}{h}{x y:Value} (ra:VR X ψ φ h x a) (rb:VR X ψ φ h y b) (e:intB a b f=some c):∃ i j t u,x=.int i t∧y=.int j u∧f i j=c:=by
 obtain ⟨i,h1,e⟩:=qA0 e
 obtain ⟨j,h2,e⟩:=qA4 e
 obtain ⟨t,q⟩:=(ra.isInt h1).2
 obtain ⟨u,p⟩:=(rb.isInt h2).2
 exact ⟨i,j,t,u,q,p,e⟩
theorem qKG {x y:Value}{a b:AV}{r:Bool} (S:SR X prog w base ψ φ H s.heap) (ra:VR X ψ φ s.heap x a) (rb:VR X ψ φ s.heap y b) (e:eqs a b H=some r) :
  (∃ p q,x=.bool p∧y=.bool q∧(p == q)=r)∨∃ a' b',Is X s.heap x a'∧Is X s.heap y b'∧a'.clean=true∧b'.clean=true∧a'.beq b'=r:=by
 revert S ra rb e
 revert ψ φ H s x y a b r
 intros ψ φ H s x y a b r
 intro S ra rb e
 (injection (qA0 e) with a'; rintro ⟨ha,e⟩)
 (injection (qA0 e) with b'; rintro ⟨hb,e⟩)
 rcases qIl e with ⟨p,q,rfl,rfl,h⟩ | ⟨c1,c2,h⟩
 ·revert ha h hb e; revert p q; intros p q; intro _ ha h hb e
  cases qEY ha; cases qEY hb; cases ra; cases rb
  exact .inl ⟨p,q,rfl,rfl,h⟩
 ·exact .inr ⟨a',b',qGm S ra ha c1,qGm S rb hb c2,c1,c2,h⟩
theorem qKV (G:GW X base) (R:Room d A) {o:CmpOp}{op:COp}{x y:Value}{a b:AV}{r:Bool} (ho:cOp o=some op) (S:SR X prog w base ψ φ H s.heap) (ra:VR X ψ φ s.heap x a) (rb:VR X ψ φ s.heap y b)
  (e:cmpAV op a b H=some r):wpAny (model prog w) A (compareOp o x y) (Out X prog w base ψ φ s (.bool r) H) NoE s:=by
 revert G R ho S ra rb e
 revert A ψ φ H s d o op x y a b r
 intros A ψ φ H s d o op x y a b r
 intro G R ho S ra rb e
 cases o with
 | Eq =>
  cases Option.some.inj ho
  rcases qKG S ra rb e with ⟨p,q,rfl,rfl,rfl⟩ | ⟨a',b',i1,i2,c1,c2,rfl⟩
  ·revert ra rb e; revert p q; intros p q; intro ra rb e
   exact _root_.PyProof.Rows.eq_bool (qAR S)
  ·revert i1 i2 c1 c2 e; revert a' b'; intros a' b'; intro i1 i2 c1 c2 e
   exact qLd G R i1 i2 c1 c2 (qAR S)
 | NotEq =>
  cases Option.some.inj ho
  (injection (qA4 e) with z; rintro ⟨e2,rfl⟩)
  rcases qKG S ra rb e2 with ⟨p,q,rfl,rfl,rfl⟩ | ⟨a',b',i1,i2,c1,c2,rfl⟩
  ·revert ra rb e2 e; revert p q; intros p q; intro ra rb e2 e
   exact _root_.PyProof.Rows.ne_bool (qAR S)
  ·revert i1 i2 c1 c2 e2 e; revert a' b'; intros a' b'; intro i1 i2 c1 c2 e2 e
   exact qLJ G R i1 i2 c1 c2 (qAR S)
 | Lt=>cases Option.some.inj ho; (injection (qDy ra rb e) with i j t u; rintro ⟨rfl,rfl,rfl⟩); exact _root_.PyProof.Rows.lt_int (qAR S)
 | LtE=>cases Option.some.inj ho; (injection (qDy ra rb e) with i j t u; rintro ⟨rfl,rfl,rfl⟩); exact _root_.PyProof.Rows.le_int (qAR S)
 | Gt=>cases Option.some.inj ho; (injection (qDy ra rb e) with i j t u; rintro ⟨rfl,rfl,rfl⟩); exact _root_.PyProof.Rows.gt_int (qAR S)
 | GtE=>cases Option.some.inj ho; (injection (qDy ra rb e) with i j t u; rintro ⟨rfl,rfl,rfl⟩); exact _root_.PyProof.Rows.ge_int (qAR S)
 | In =>
  cases Option.some.inj ho
  (injection (qA0 e) with l; rintro ⟨hl,e⟩)
  exact qGQ G R (.inl ⟨rfl,rfl⟩) S ra rb hl e (by rw [Bool.bne_false]; exact qAR S)
 | NotIn =>
  cases Option.some.inj ho
  (injection (qA4 e) with z; rintro ⟨e2,rfl⟩)
  (injection (qA0 e2) with l; rintro ⟨hl,e3⟩)
  exact qGQ G R (.inr ⟨rfl,rfl⟩) S ra rb hl e3 (by rw [Bool.bne_true]; exact qAR S)
 | _=>exact qA3 ho
theorem qF2 {h}{x:Value}{a:AV}{r:Bool} (ra:VR X ψ φ h x a) (e:qGO a=some r):(x=.none∧true=r)∨((∃ p,x=.ref p)∧false=r):=by
 revert ra e
 revert ψ φ h x a r
 intros ψ φ h x a r
 intro ra e
 cases a with
 | none=>exact .inl ⟨ra,Option.some.inj e⟩
 | ref=>obtain ⟨a,z,_⟩:=ra; exact .inr ⟨⟨_,z⟩,Option.some.inj e⟩
 | inst=>obtain ⟨a,_,_,z⟩:=ra; exact .inr ⟨⟨_,z⟩,Option.some.inj e⟩
 | lst=>obtain ⟨a,_,_,z⟩:=ra; exact .inr ⟨⟨_,z⟩,Option.some.inj e⟩
 | tup=>obtain ⟨a,_,_,z⟩:=ra; exact .inr ⟨⟨_,z⟩,Option.some.inj e⟩
 | _=>exact qA3 e
theorem qGb {x:Value}{a:AV}{r:Bool} (S:SR X prog w base ψ φ H s.heap) (ra:VR X ψ φ s.heap x a) (e:qGO a=some r):wpAny (model prog w) A (compareOp .Is x .none) (Out X prog w base ψ φ s (.bool r) H) NoE s:=by
 rcases qF2 ra e with ⟨rfl,rfl⟩ | ⟨⟨p,rfl⟩,rfl⟩
 ·exact wpAny_is_self rfl (qAR S)
 ·exact wpAny_is_other rfl (fun q=>nomatch q) (qAR S)
theorem qFg {x:Value}{a:AV}{r:Bool} (S:SR X prog w base ψ φ H s.heap) (ra:VR X ψ φ s.heap x a) (e:qGO a=some r):wpAny (model prog w) A (compareOp .IsNot x .none) (Out X prog w base ψ φ s (.bool !r) H) NoE s:=by
 rcases qF2 ra e with ⟨rfl,rfl⟩ | ⟨⟨p,rfl⟩,rfl⟩
 ·exact wpAny_isNot_self rfl (qAR S)
 ·exact wpAny_isNot_other rfl (fun q=>nomatch q) (qAR S)
end
end Mine.Internal
end
section
open PySem PySem.W PyProof.Rows
namespace Mine.Internal
structure EnvOk (env:Env) (sc:Scope):Prop where
 kind:env.scope.kind=.function
 globals:env.globals=mainGlobals
 builtins:env.builtins=builtinsNs
 glob:∀ x,qAE sc x=some .globalImplicit→env.kindOf x=some .globalImplicit
 loc:∀ x,qAE sc x=some .local→env.kindOf x=some .local
 cel:∀ x,qAE sc x=some .cell→env.kindOf x=some .cell
 fre:∀ x,qAE sc x=some .free→env.kindOf x=some .free∨env.kindOf x=some .cell
 cells:∀ x,qAE sc x=some .cell∨qAE sc x=some .free→∃ c,env.cells.lookup x=some c
inductive VarAt (ψ:List Addr) (h:Heap) (env:Env) (x:Str) (y:Value):Prop
 | local {m:Str→Option Value}:env.kindOf x=some .local→env.locals ∈ ψ→h.Ns env.locals m→m x=some y→VarAt ψ h env x y
 | cell {c:Addr}:(env.kindOf x=some .cell∨env.kindOf x=some .free)→env.cells.lookup x=some c→c ∈ ψ→h.IsCell c (some y)→VarAt ψ h env x y
noncomputable def FRs (ok:Str→Prop) (X:CX) (ψ φ:List Addr) (h:Heap) (env:Env) (sc:Scope) (ρ:Rho):Prop :=
 ∀ x k v,ok x→isVar sc x=true→nid X.names x=some k→ρ.lookup k=some v→∃ y,VarAt ψ h env x y∧VR X ψ φ h y v
abbrev FR (X:CX) (ψ φ:List Addr) (h:Heap) (env:Env) (sc:Scope) (ρ:Rho):Prop:=FRs (fun _=>True) X ψ φ h env sc ρ
theorem VarAt.keep {ψ h h' env x y} (v:VarAt ψ h env x y) (k:∀ a ∈ ψ,∀ o,h.get? a=some o→h'.get? a=some o):VarAt ψ h' env x y:=by
 cases v with
 | «local» a b c d =>
  obtain ⟨o,es,ep,e,r⟩:=c
  exact .local a b ⟨o,es,ep,k _ b _ e,r⟩ d
 | cell a b c d =>
  obtain ⟨o,e,r⟩:=d
  exact .cell a b c ⟨o,k _ c _ e,r⟩
section
variable {A:Around}{ψ φ φ₁:List Addr}{H H' H₁:AHeap}{s s₁:Shared}{d:Nat}
theorem FRs.grow {ok:Str→Prop}{φ':List Addr}{h h':Heap}{env:Env}{sc:Scope}{ρ:Rho} (F:FRs ok X ψ φ h env sc ρ) (S:SR X prog w base ψ φ H h) (g:Grow [] φ φ' h h'):FRs ok X ψ φ' h' env sc ρ:=by
 intro x k v o a b c
 obtain ⟨y,p,q⟩:=F x k v o a b c
 exact ⟨y,p.keep fun a ha o e=>g.kept a o e (fun m=>(S.fresh a m).2.2 ha) (fun q=>qA9 q),q.grow0 g⟩
theorem FRs.post {ok:Str→Prop}{φ':List Addr}{env:Env}{sc:Scope}{ρ:Rho} (F:FRs ok X ψ φ s.heap env sc ρ) (S:SR X prog w base ψ φ H s.heap) (p:Post X prog w base [] ψ φ φ' H' s s₁):FRs ok X ψ φ' s₁.heap env sc ρ:=F.grow S p.grow
theorem qIa {env:Env}{x:Str}{y:Value}{Q:Value→Shared→Prop}{E:Value→Shared→Prop}{M:Model} (hk:env.scope.kind=.function) (v:VarAt ψ s.heap env x y) (hd:(x == ("__classdict__":Str))=false) (h:Q y s) :
  wpAny M A (loadName env x) Q E s:=by
 cases v with
 | «local» a b c d=>exact wpAny_loadName_local hk a c d h
 | cell a b c d =>
  rcases a with a | a
  ·exact wpAny_loadName_cell hk a b d h
  ·exact wpAny_loadName_free hk a b d h hd
theorem qBm {N:List Str}{x:Str}{k:Nat} (h:nid N x=some k):N[k]?=some x:=by
 unfold nid at h
 have:=List.findIdx?_eq_some_iff_getElem.mp h
 obtain ⟨hk,q,_⟩:=this
 rw [List.getElem?_eq_getElem hk]
 congr 1
 exact (beq_iff_eq.mp q)
theorem qFh {N:List Str}{x y:Str}{k:Nat} (h:nid N x=some k) (h':nid N y=some k):x=y:=by
 have a:=qBm h
 have b:=qBm h'
 rw [a] at b; cases b; rfl
theorem qI3 {n:Nat}{i:Int}{k:Nat} (h:idx n i=some k):(0 ≤ i∧i < n∧k=i.toNat)∨(i < 0∧-(n:Int) ≤ i∧k=(i + n).toNat):=by
 unfold idx at h
 by_cases q:0 ≤ i∧i < n
 ·rw [if_pos q] at h; exact .inl ⟨q.1,q.2,(Option.some.inj h).symm⟩
 ·rw [if_neg q] at h
  obtain ⟨q,h⟩:=qAA h
  exact .inr ⟨q.1,q.2,(Option.some.inj h).symm⟩
theorem qDv {slice:Expr} (h:∀ a b p,slice ≠ .Slice a b none p) (o i:Value):subscripted slice false o i=operate [o,i] (getItem o i):=by
 revert h
 revert slice o i
 intros slice o i
 intro h
 cases slice with
 | Slice a b st p =>
  revert h; revert a b st p; intros a b st p; intro h
  cases st with
  | none=>exact absurd rfl (h _ _ _)
  | some=>rfl
 | _=>rfl
theorem qE6 {n:Nat}{i:Int}{k:Nat} (h:idx n i=some k):seqIndex? i n=some k∧-(n:Int) ≤ i∧i < n:=by
 revert h
 revert n i k
 intros n i k
 intro h
 unfold seqIndex?
 rcases qI3 h with ⟨h0,h1,rfl⟩ | ⟨h0,h1,rfl⟩
 ·refine ⟨?_,by omega,h1⟩
  simp [show ¬ i < 0 by omega,h0,h1]
 ·refine ⟨?_,h1,by omega⟩
  simp [h0]; omega
theorem qHQ {c:String} (hc:c = "list"∨c = "tuple") {p:Addr}{vs:Array Value}{n:Nat}{l:List AV}{i:Int}{t:Tok}{k:Nat}{a:AV} (e:s.heap.get? p=some (seqObj c vs n)) (r:VRs X ψ φ s.heap vs.toList l) (hl:l.length < 1000001)
  (hi:idx l.length i=some k) (ha:l[k]?=some a) (S:SR X prog w base ψ φ H s.heap) {value slice:Expr} (hs:∀ a b p,slice ≠ .Slice a b none p) :
  wpAny (model prog w) A (subscriptTail value slice (.ref p) (.int i t)) (Out X prog w base ψ φ s a H) NoE s:=by
 have hz:=qAS r
 obtain ⟨v,hv,rv⟩:=r.get ha
 rw [Array.getElem?_toList] at hv
 have sm:i.natAbs < 1000002:=by have:=(qE6 hi).2; omega
 rcases hc with rfl | rfl
 ·have L:s.heap.IsList p vs:=⟨_,e,rfl,_,rfl⟩
  refine tail_any (T:="list") L.typeIs slot_list_getitem.lookup ?_ (qDv hs _ _)
  rcases qI3 hi with ⟨h0,h1,rfl⟩ | ⟨h0,h1,rfl⟩
  ·exact wpAny_getItem_list L h0 (by omega) hv (qAz S rv)
  ·exact wpAny_getItem_list_neg L h0 (by rw [hz]; exact h1) (by omega) (by rw [hz]; exact hv) (qAz S rv)
 ·have L:IsTup s.heap p vs:=⟨_,e,rfl,_,rfl⟩
  refine tail_any (T:="tuple") ⟨_,e,rfl⟩ slot_tuple_getitem.lookup ?_ (qDv hs _ _)
  exact _root_.PyProof.Rows.getItem_tuple L (by omega) (by omega) (hz.symm ▸ (qE6 hi).1) hv (qAz S rv)
theorem qEi {c:String} (hc:c = "list"∨c = "tuple") {p:Addr}{vs:Array Value}{n:Nat}{l:List AV}{y:Value}{b a:AV} (e:s.heap.get? p=some (seqObj c vs n)) (r:VRs X ψ φ s.heap vs.toList l) (hl:l.length < 1000001)
  (rb:VR X ψ φ s.heap y b) (ha:atL l b=some a) (S:SR X prog w base ψ φ H s.heap) {value slice:Expr} (hs:∀ a b p,slice ≠ .Slice a b none p) :
  wpAny (model prog w) A (subscriptTail value slice (.ref p) y) (Out X prog w base ψ φ s a H) NoE s:=by
 obtain ⟨i,h1,ha⟩:=qA0 ha
 obtain ⟨k,h2,ha⟩:=qA0 ha
 obtain ⟨t,rfl⟩:=(rb.isInt h1).2
 exact qHQ hc e r hl h2 ha S hs
theorem qDe {K:Type} [DecidableEq K] {k' k:K}{v:Value}{r:List (K × Value)}:valueAt ((k',v) :: r) k=if k'=k then some v else valueAt r k:=by
 unfold valueAt
 rw [List.find?_cons]
 by_cases q:k'=k
 ·simp [q]
 ·simp [q]
theorem qMH {K:Type} [DecidableEq K] {k:K}:valueAt ([]:List (K × Value)) k=none:=rfl
theorem qAT {κ α:Type} [DecidableEq κ] {k k':κ}{v:α}{r:List (κ × α)}:((k',v) :: r).lookup k=if k'=k then some v else r.lookup k:=by
 rw [List.lookup_cons]
 by_cases q:k'=k
 ·rw [if_pos q,q,beq_self_eq_true]
 ·rw [if_neg q,beq_eq_false_iff_ne.mpr (Ne.symm q)]
noncomputable def LookR (X:CX) (ψ φ:List Addr) (h:Heap):Option AV→Option Value→Prop
 | some a,o=>∃ y,o=some y∧VR X ψ φ h y a
 | none,o=>o=none
theorem LookR.ite {h:Heap}{p q:Prop} [Decidable p] [Decidable q] {v:Value}{a:AV}{o:Option AV}{u:Option Value} (pq:p↔q) (r:VR X ψ φ h v a) (k:LookR X ψ φ h o u):LookR X ψ φ h (if p then some a else o) (if q then some v else u):=by
 by_cases z:p
 ·rw [if_pos z,if_pos (pq.mp z)]; exact ⟨v,rfl,r⟩
 ·rw [if_neg z,if_neg fun y=>z (pq.mpr y)]; exact k
theorem qD2 {h}{k:Int}:∀ {ks:List Int}{l:List AV}{vs:List Value},VRs X ψ φ h vs l→LookR X ψ φ h ((ks.zip l).lookup k) (valueAt (ks.zip vs) k)
 | [],_,_,_=>rfl
 | _ :: _,[],_,r=>by cases r; rfl
 | k' :: ks,_ :: _,_,r=>by
  obtain ⟨v,ws,rfl,r,rs⟩:=r
  rw [List.zip_cons_cons,List.zip_cons_cons,qAT,qDe]
  exact .ite Iff.rfl r (qD2 rs)
theorem qGl (nd:X.names.Nodup) {h}{k:Nat}{x:Str} (hx:X.names[k]?=some x):∀ {ks:List Nat}{ss:List Str}{l:List AV}{vs:List Value},VRs X ψ φ h vs l→ks.map (X.names[·]?)=ss.map some →
  LookR X ψ φ h ((ks.zip l).lookup k) (valueAt (ss.zip vs) x)
 | [],[],_,_,_,_=>rfl
 | [],_ :: _,_,_,_,e=>nomatch e
 | _ :: _,[],_,_,_,e=>nomatch e
 | _ :: _,_ :: _,[],_,r,_=>by cases r; rfl
 | k' :: ks,x' :: ss,_ :: _,_,r,e=>by
  obtain ⟨v,ws,rfl,r,rs⟩:=r
  have e':=List.cons.inj e
  rw [List.zip_cons_cons,List.zip_cons_cons,qAT,qDe]
  refine .ite ⟨?_,?_⟩ r (qGl nd hx rs e'.2)
  ·rintro rfl; exact Option.some.inj (e'.1.symm.trans hx)
  ·rintro rfl; exact ((List.getElem?_inj (List.getElem?_eq_some_iff.mp hx).1 nd).mp (hx.trans e'.1.symm)).symm
theorem qCI (k:Int) (t:Tok):(intKind prog w).is k (.int k t)=true:=by show Value.isInt k (.int k t)=true; simp [Value.isInt]
theorem qDW (k:Str) (t:Tok):(PySem.strKind prog w).is k (.str k t)=true:=by show Value.isStrOf k (.str k t)=true; simp [Value.isStrOf]
theorem qJ8 (G:GW X base) {x y:Value}{a b c:AV} (S:SR X prog w base ψ φ H s.heap) (ra:VR X ψ φ s.heap x a) (rb:VR X ψ φ s.heap y b) (e:subAV a b H=some c)
  {value slice:Expr} (hs:∀ a b p,slice ≠ .Slice a b none p):wpAny (model prog w) A (subscriptTail value slice x y) (Out X prog w base ψ φ s c H) NoE s:=by
 revert G S ra rb e hs
 revert A ψ φ H s x y a b c value slice
 intros A ψ φ H s x y a b c value slice
 intro G S ra rb e hs
 cases a with
 | tup l =>
  revert ra e; revert l; intros l; intro ra e
  obtain ⟨p,vs,n,rfl,e1,_,_,q,r⟩:=ra
  exact qEi (.inr rfl) e1 r q rb e S hs
 | lst l =>
  revert ra e; revert l; intros l; intro ra e
  obtain ⟨p,vs,n,rfl,e1,_,_,q,r⟩:=ra
  exact qEi (.inl rfl) e1 r q rb e S hs
 | ref i =>
  revert ra e; revert i; intros i; intro ra e
  (injection (qA0 e) with o; rintro ⟨ho,e⟩)
  (injection (ra) with p; try clear ra; rintro ⟨rfl,hp⟩)
  have ob:=S.obj _ _ _ hp ho
  cases o with
  | list l =>
   revert ho e ob; revert l; intros l; intro ho e ob
   obtain ⟨vs,n,e1,q,r⟩:=ob
   exact qEi (.inl rfl) e1 r q rb e S hs
  | dictI kvs =>
   revert ho e ob; revert kvs; intros kvs; intro ho e ob
   obtain ⟨ks,vs,l,rfl,e1,_,_,r⟩:=ob
   obtain ⟨k,hk,e⟩:=qA0 e
   obtain ⟨t,rfl⟩:=(rb.isInt hk).2
   have g:=qD2 (k:=k) (ks:=ks) r
   rw [e] at g
   obtain ⟨y,hy,ry⟩:=g
   exact tail_any (T:="dict") e1.typeIs slot_dict_getitem.lookup (wpAny_getItem_of (qCI _ _) e1.mapOf hy (qBl S ry)) (qDv hs _ _)
  | dictS kvs =>
   revert ho e ob; revert kvs; intros kvs; intro ho e ob
   obtain ⟨ks,ss,vs,l,rfl,e1,q,_,_,r⟩:=ob
   obtain ⟨k,hk,e2⟩:=qA0 e
   obtain rfl:=qBY hk
   obtain ⟨y,t,rfl,hx⟩:=rb
   have g:=qGl G.nd hx r q
   rw [e2] at g
   obtain ⟨y,hy,ry⟩:=g
   exact tail_any (T:="dict") e1.typeIs slot_dict_getitem.lookup (wpAny_getItem_of (qDW _ _) e1.mapOf hy (qBl S ry)) (qDv hs _ _)
  | ns=>exact qA3 e
 | _=>exact qA3 e
theorem qNR {v:Value}{o:Option Int}{t:Tok}:IsPart (match o with | some i=>.int i t | none=>.none) o:=by cases o <;> constructor
theorem qIu (n:Nat) (i:Int):clamp n i=clipAt n i:=rfl
theorem qHB (vs:Array Value) (lo hi:Option Int):(slicePick vs lo hi none).toList=qAb vs.toList lo hi:=by
 revert vs lo hi
 intros vs lo hi
 rw [slicePick_plain,List.toList_toArray]
 unfold qAb
 cases lo <;> cases hi <;> simp [qIu,List.drop_take]
theorem VRs.slice {h}{vs:List Value}{l:List AV} (r:VRs X ψ φ h vs l) (lo hi:Option Int):VRs X ψ φ h (qAb vs lo hi) (qAb l lo hi):=by
 unfold qAb
 rw [r.length]
 exact (r.take _).drop _
theorem qJH {α:Type} (l:List α) (lo hi:Option Int):(qAb l lo hi).length ≤ l.length:=by
 unfold qAb
 rw [List.length_drop,List.length_take]; exact Nat.le_trans (Nat.sub_le _ _) (Nat.min_le_right _ _)
theorem qHA (G:GW X base) (trk:Bool) {x:Value}{a:AV}{l:List AV}{vl vu:Value}{lo hi:Option Int} (S:SR X prog w base ψ φ H s.heap) (ra:VR X ψ φ s.heap x a) (e:qAI H a=some l) (pl:IsPart vl lo) (pu:IsPart vu hi)
  {value:Expr}{a' b':Option Expr}{p:Pos} :
  wpAny (model prog w) A (subscriptTail value (.Slice a' b' none p) x (.ref s.heap.objs.size)) (Out X prog w base ψ φ s (qAC trk (qAb l lo hi) H).1 (qAC trk (qAb l lo hi) H).2) NoE
   { s with heap:=s.heap.push { cls:=.type "slice",data:=.fields #[vl,vu,.none] } }:=by
 obtain ⟨ad,vs,n,rfl,e1,r1,k1⟩:=qCx S ra e
 have L:({ s with heap:=s.heap.push { cls:=.type "slice",data:=.fields #[vl,vu,.none] } }:Shared).heap.IsList ad vs:=⟨_,qAo _ _ _ _ e1,rfl,_,rfl⟩
 refine tail_any (T:="list") L.typeIs slot_list_getitem.lookup ?_ (show _=operate [.ref s.heap.objs.size,.ref ad] _ from rfl)
 refine wpAny_getItem_list_slice L (Heap.IsSliceOf.new ..) pl pu .none (by simp) ?_ (qDL r1 k1)
 have:=qEB (k:=s.toks) (n:=0) (h₀:=s.heap.push { cls:=.type "slice",data:=.fields #[vl,vu,.none] }) G trk S (fun _ _ e=>qAo _ _ _ _ e) (r1.slice lo hi) (Nat.lt_of_le_of_lt (qJH _ _ _) k1)
 rw [← qHB,Array.toArray_toList] at this
 exact this
end
end Mine.Internal
end
section
open PySem PySem.W PyProof.Rows
namespace Mine.Internal
theorem qIy:(biTab.all fun p=>bootBuiltins p.1 == some (biVal p.2))=true:=by decide +kernel
theorem qKd {x:Str}{b:BI} (h:biTab.lookup x=some b):bootBuiltins x=some (biVal b):=by
 have q:=List.all_eq_true.mp qIy (x,b) (mem_of_lookup h)
 exact beq_iff_eq.mp q
noncomputable def qFB:Value→Int
 | .int i _=>i
 | _=>0
section
variable {A:Around}{ψ φ φ₁:List Addr}{H H' H₁:AHeap}{s s₁:Shared}{d:Nat}
theorem VRs.one {h}{vs:List Value}{a:AV} (r:VRs X ψ φ h vs [a]):∃ v,vs=[v]∧VR X ψ φ h v a:=by
 obtain ⟨v,ws,rfl,r,q⟩:=r
 cases q
 exact ⟨v,rfl,r⟩
theorem VRs.two {h}{vs:List Value}{a b:AV} (r:VRs X ψ φ h vs [a,b]):∃ v u,vs=[v,u]∧VR X ψ φ h v a∧VR X ψ φ h u b:=by
 obtain ⟨v,ws,rfl,r,q⟩:=r
 obtain ⟨u,rfl,p⟩:=q.one
 exact ⟨v,u,rfl,r,p⟩
theorem VRs.one_of {h}{vs:List Value}{as:List AV}{a:AV} (r:VRs X ψ φ h vs as) (e:Mine.Internal.one as=some a):∃ v,vs=[v]∧VR X ψ φ h v a:=VRs.one (qBM e ▸ r)
theorem VRs.two_of {h}{vs:List Value}{as:List AV}{p:AV × AV} (r:VRs X ψ φ h vs as) (e:Mine.Internal.two as=some p):∃ v u,vs=[v,u]∧VR X ψ φ h v p.1∧VR X ψ φ h u p.2:=VRs.two (qFR e ▸ r)
theorem VRs.ints {h}:∀ {l:List AV}{vs:List Value}{n:Int},VRs X ψ φ h vs l→qCU l=some n→(∀ v ∈ vs,∃ a t,v=.int a t)∧(vs.map qFB).sum=n
 | [],_,n,r,e=>by cases r; exact ⟨fun _ q=>(nomatch q),Option.some.inj e⟩
 | a :: l,_,n,r,e=>by
  obtain ⟨v,ws,rfl,r,rs⟩:=r
  obtain ⟨i,hi,e⟩:=qA0 e
  obtain ⟨k,hk,rfl⟩:=qA4 e
  obtain ⟨t,rfl⟩:=(r.isInt hi).2
  obtain ⟨p,q⟩:=VRs.ints rs hk
  refine ⟨fun v hv=>?_,congrArg (i + ·) q⟩
  cases hv with
  | head=>exact ⟨_,_,rfl⟩
  | tail _ hv=>exact p v hv
theorem qHF:∀ (xs:List (Int × Tok)),preSum (numAt xs.toArray) xs.length=(xs.map (·.1)).sum:=by
 intro xs
 have gen:∀ (n:Nat),n ≤ xs.length→preSum (numAt xs.toArray) n=((xs.take n).map (·.1)).sum:=by
  intro n
  induction n with
  | zero=>intro _; rfl
  | succ n ih =>
   intro h
   have:n < xs.length:=h
   rw [preSum,ih (Nat.le_of_lt this),List.take_succ,List.map_append,List.sum_append]
   congr 1
   simp [numAt,this]
 rw [gen _ (Nat.le_refl _),List.take_length]
theorem qHn {h:Heap}{a:Int}:∀ {n:Nat}{i:Nat}{vs:List Value},vs.length=n→(∀ j v,vs[j]?=some v→∃ t,v=Value.int (a + ((i + j:Nat):Int) * 1) t) →
  VRs X ψ φ h vs ((List.range' i n).map fun (k:Nat)=>AV.int (a + (k:Int)))
 | 0,i,vs,e,_=>List.eq_nil_of_length_eq_zero e
 | n + 1,i,[],e,_=>nomatch e
 | n + 1,i,v :: vs,e,k=>by
  rw [List.range'_succ,List.map_cons]
  obtain ⟨t,ht⟩:=k 0 v rfl
  have ht':v=.int (a + (i:Int)) t:=by rw [ht,Int.mul_one]; rfl
  rw [ht']
  exact .cons (.int _ t) (qHn (Nat.succ.inj e) fun j u hu=>by
   obtain ⟨t,q⟩:=k (j + 1) u hu
   exact ⟨t,by rw [q,show i + 1 + j=i + (j + 1) by omega]⟩)
theorem qL7 {h:Heap}{a:Int}{n:Nat}{vs:Array Value} (e:vs.size=n) (k:∀ (j:Nat) v,vs[j]?=some v→∃ t,v=Value.int (a + (j:Int) * 1) t):VRs X ψ φ h vs.toList ((List.range n).map fun (k:Nat)=>AV.int (a + (k:Int))):=by
 rw [List.range_eq_range']
 refine qHn (by rw [Array.length_toList]; exact e) fun j v hj=>?_
 rw [Array.getElem?_toList] at hj
 rw [Nat.zero_add]
 exact k j v hj
theorem qGH {as:List AV}{p:Int × Int} (e:qLw as=some p):(as=[.int p.2]∧p.1=0∧p.2.natAbs < 400000)∨(as=[.int p.1,.int p.2]∧p.1.natAbs < 400000∧p.2.natAbs < 400000):=by
 revert e
 revert as p
 intros as p
 intro e
 cases as with
 | nil=>exact qA3 e
 | cons a r =>
  revert e; revert a r; intros a r; intro e
  (injection (qA0 e) with x; rintro ⟨hx,e1⟩)
  obtain ⟨hs,e2⟩:=qAA e1
  clear e e1
  obtain rfl:=qAZ hx
  cases r with
  | nil=>obtain rfl:=Option.some.inj e2; exact .inl ⟨rfl,rfl,qCp hs⟩
  | cons b t =>
   revert e2; revert b t; intros b t; intro e2
   cases t with
   | nil =>
    (injection (qA0 e2) with y; rintro ⟨hy,e3⟩)
    obtain ⟨hs2,e4⟩:=qAA e3
    clear e2 e3
    obtain rfl:=qAZ hy
    obtain rfl:=Option.some.inj e4
    exact .inr ⟨rfl,qCp hs,qCp hs2⟩
   | cons=>exact qA3 e2
theorem qJt {x:Value}{a:AV}{n:Nat} (S:SR X prog w base ψ φ H s.heap) (r:VR X ψ φ s.heap x a) (e:lenOf H a=some n):wpAny (model prog w) A (call (.builtin "len") [x]) (Out X prog w base ψ φ s (.int n) H) NoE s:=by
 revert S r e
 revert A ψ φ H s x a n
 intros A ψ φ H s x a n
 intro S r e
 have plain:(qAI H a).map List.length=some n→wpAny (model prog w) A (call (.builtin "len") [x]) (Out X prog w base ψ φ s (.int n) H) NoE s:=fun e=>by
  (injection (qA4 e) with l; rintro ⟨hl,rfl⟩)
  obtain ⟨ad,vs,n,rfl,e1,r1,k1⟩:=qCx S r hl
  have z:=qAS r1
  refine PySem.Calls.call_len_list (items:=vs) ⟨_,e1,rfl,_,rfl⟩ (by rw [z]; omega) ?_
  rw [z]
  exact qBQ S
 cases a with
 | tup l =>
  revert r e plain; revert l; intros l; intro r e plain
  cases Option.some.inj e
  obtain ⟨p,vs,n,rfl,e1,_,_,k,r1⟩:=r
  have z:=qAS r1
  refine _root_.PyProof.Rows.len_tuple (items:=vs) ⟨_,e1,rfl,_,rfl⟩ (by rw [z]; omega) ?_
  rw [z]
  exact qBQ S
 | sset l =>
  revert r e plain; revert l; intros l; intro r e plain
  cases Option.some.inj e
  obtain ⟨ad,o,es,ep,t,vs,rfl,e1,_,_,a1,a2,a3,a4,a5,p,k,r1⟩:=r
  have z:es.size=l.length:=by rw [← r1.length,← p.length_eq,List.length_map,Array.length_toList]
  refine call_len_set e1 a1 a2 a3 (by rw [z]; omega) ?_
  rw [z]
  exact qBQ S
 | _=>exact plain e
theorem qEI (G:GW X base) (trk:Bool) (S:SR X prog w base ψ φ H s.heap) {p:Addr}{c:String}{vs:Array Value}{n:Nat}{l:List AV} (hc:c = "list"∨c = "tuple") (e1:s.heap.get? p=some (seqObj c vs n)) (r1:VRs X ψ φ s.heap vs.toList l) (k1:l.length < 1000001) :
  wpAny (model prog w) A (call (.type "list") [.ref p]) (Out X prog w base ψ φ s (qAC trk l H).1 (qAC trk l H).2) NoE s :=
 call_list_seq p hc e1 rfl rfl (fun h' c' g e2=>qCH (k:=s.toks) (n:=c') (vs:=vs.toList) G trk S g (qAc fun _ _ e=>e) (S.fresh_at G fun _ _ e=>e).2.2 (by rw [Array.toArray_toList]; exact e2) r1 k1) (qDL r1 k1)
theorem qIb (G:GW X base) (R:Room d A) {trk:Bool}{x:Value}{a:AV}{l:List AV} (S:SR X prog w base ψ φ H s.heap) (r:VR X ψ φ s.heap x a) (e:qM2 H a=some l) :
  wpAny (model prog w) A (call (.type "list") [x]) (Out X prog w base ψ φ s (qAC trk l H).1 (qAC trk l H).2) NoE s:=by
 have plain:qAI H a=some l→wpAny (model prog w) A (call (.type "list") [x]) (Out X prog w base ψ φ s (qAC trk l H).1 (qAC trk l H).2) NoE s:=fun hl=>by
  obtain ⟨ad,vs,n,rfl,e1,r1,k1⟩:=qCx S r hl
  exact qEI G trk S (.inl rfl) e1 r1 k1
 cases a with
 | tup m =>
  cases Option.some.inj e
  obtain ⟨p,vs,n,rfl,e1,_,_,k,r1⟩:=r
  exact qEI G trk S (.inr rfl) e1 r1 k
 | rng lo hi =>
  cases Option.some.inj e
  obtain ⟨rr,t,u,v,rfl,e1,_,_,ha,hb⟩:=r
  have hsz:Builtin.Range.rangeSize lo hi 1=((hi - lo).toNat:Int):=by rw [rangeSize_one]; split <;> omega
  refine call_list_range R.handled e1 (small_one (Int.le_trans (by decide) (qIE ha).1) (Int.lt_of_lt_of_le (qIE ha).2 (by decide)) (Int.le_trans (by decide) (qIE hb).1) (Int.lt_of_lt_of_le (qIE hb).2 (by decide))) hsz (Nat.le_trans (qCX lo hi) (Nat.le_trans (Nat.add_le_add (Nat.le_of_lt hb) (Nat.le_of_lt ha)) (by decide))) fun h' tk acc c' g e2 it=>?_
  exact qCH (n:=c') (vs:=acc.toList) G trk S g (qAc fun _ _ e=>e) (S.fresh_at G fun _ _ e=>e).2.2 (by rw [Array.toArray_toList]; exact e2) (qL7 it.1 it.2)
   (by unfold qAF; rw [List.length_map,List.length_range]; exact Nat.lt_of_le_of_lt (qCX lo hi) (Nat.lt_of_le_of_lt (Nat.add_le_add (Nat.le_of_lt hb) (Nat.le_of_lt ha)) (by decide)))
 | _=>exact plain e
theorem qH4 (G:GW X base) {x:Value}{a:AV}{l:List AV} (S:SR X prog w base ψ φ H s.heap) (r:VR X ψ φ s.heap x a) (e:qBp H a=some l) :
  wpAny (model prog w) A (call (.type "tuple") [x]) (Out X prog w base ψ φ s (.tup l) H) NoE s:=by
 revert G S r e
 revert A ψ φ H s x a l
 intros A ψ φ H s x a l
 intro G S r e
 have plain:qAI H a=some l→wpAny (model prog w) A (call (.type "tuple") [x]) (Out X prog w base ψ φ s (.tup l) H) NoE s:=fun hl=>by
  obtain ⟨ad,vs,n,rfl,e1,r1,k1⟩:=qCx S r hl
  refine call_tuple_list (items:=vs) ⟨_,e1,rfl,_,rfl⟩ (fun h' g=>?_) (qDL r1 k1)
  have:=qDP (k:=s.toks) (n:=0) G S g r1 k1
  rw [Array.toArray_toList] at this
  exact this
 cases a with
 | tup m =>
  revert r e plain; revert m; intros m; intro r e plain
  cases Option.some.inj e
  obtain ⟨p,vs,n,rfl,e1,n1,m1,k,r1⟩:=r
  exact call_tuple_same ⟨_,e1,rfl,_,rfl⟩ (qAz S (.tup e1 n1 m1 k r1))
 | _=>exact plain e
theorem qJ7 (R:Room d A) {x:Value}{l:List AV}{n:Int} (S:SR X prog w base ψ φ H s.heap) (r:VR X ψ φ s.heap x (.lst l)) (e:qCU l=some n):wpAny (model prog w) A (call (.builtin "sum") [x]) (Out X prog w base ψ φ s (.int n) H) NoE s:=by
 obtain ⟨ad,vs,q,rfl,e1,n1,m1,k,r1⟩:=r
 obtain ⟨h1,h2⟩:=r1.ints e
 obtain ⟨ys,rfl⟩:=AllInts.items (vs:=vs) fun v hv=>h1 v (by simpa using hv)
 refine sum_intListG R.handled ⟨_,e1,rfl,_,rfl⟩ fun h' tk t' g=>?_
 have e3:preSum (numAt ys) ys.size=n:=by
  have:=qHF ys.toList
  rw [Array.toArray_toList,Array.length_toList] at this
  rw [this,← h2]
  simp only [intItems,Array.toList_map,List.map_map]
  rfl
 rw [e3]
 exact qBb S g (.int _ _)
theorem qI2 {as:List AV}{f:Int→Int→Int}{c:AV}{h:Heap}{xs:List Value} (ra:VRs X ψ φ h xs as) (e:intP as f=some c):∃ a b t u,xs=[.int a t,.int b u]∧.int (f a b)=c:=by
 revert ra e
 revert ψ φ as f c h xs
 intros ψ φ as f c h xs
 intro ra e
 (injection (qA0 e) with p; rintro ⟨hp,e⟩)
 (injection (ra.two_of hp) with v u; rintro ⟨rfl,r1,r2⟩)
 (injection (qCm r1 r2 e) with i j t u; rintro ⟨rfl,rfl,e⟩)
 exact ⟨i,j,t,u,rfl,Option.some.inj e⟩
theorem qJY {p:Prop} [Decidable p] {a b:Int}{t u:Tok}{h':Heap}{k:Nat} (S:SR X prog w base ψ φ H s.heap) (g:∀ b o,s.heap.get? b=some o→h'.get? b=some o) :
  Out X prog w base ψ φ s (.int (if p then a else b)) H (if p then .int a t else .int b u) { s with heap:=h',toks:=k }:=by
 by_cases q:p
 ·rw [if_pos q,if_pos q]; exact qBb S g (.int _ _)
 ·rw [if_neg q,if_neg q]; exact qBb S g (.int _ _)
theorem qKc (G:GW X base) (R:Room d A) {b:BI}{trk:Bool}{xs:List Value}{as:List AV}{r:AV × AHeap} (S:SR X prog w base ψ φ H s.heap) (ra:VRs X ψ φ s.heap xs as) (e:biAV b trk as H=some r) (hb1:b ≠ .sorted) (hb2:b ≠ .set) :
  wpAny (model prog w) A (call (biVal b) xs) (Out X prog w base ψ φ s r.1 r.2) NoE s:=by
 revert G R S ra e hb1 hb2
 revert A ψ φ H s d b trk xs as r
 intros A ψ φ H s d b trk xs as r
 intro G R S ra e hb1 hb2
 cases b with
 | len =>
  (injection (qA0 e) with v; rintro ⟨hv,e⟩)
  (injection (qA4 e) with n; rintro ⟨hn,rfl⟩)
  (injection (ra.one_of hv) with x; rintro ⟨rfl,r⟩)
  exact qJt S r hn
 | tuple =>
  (injection (qA0 e) with v; rintro ⟨hv,e⟩)
  (injection (qA4 e) with n; rintro ⟨hn,rfl⟩)
  (injection (ra.one_of hv) with x; rintro ⟨rfl,r⟩)
  exact qH4 G S r hn
 | list =>
  (injection (qA0 e) with v; rintro ⟨hv,e⟩)
  (injection (qA4 e) with n; rintro ⟨hn,rfl⟩)
  (injection (ra.one_of hv) with x; rintro ⟨rfl,r⟩)
  exact qIb G R S r hn
 | range =>
  (injection (qA4 e) with p; rintro ⟨hp,rfl⟩)
  obtain ⟨a,b⟩:=p
  revert hp e; revert a b; intros a b; intro hp e
  have mk:∀ {t u v:Tok}{k:Nat},a.natAbs < 400001→b.natAbs < 400001→Out X prog w base ψ φ s (.rng a b) H (.ref s.heap.objs.size) { s with heap:=s.heap.push { cls:=.type "range",dict:=none,data:=.fields #[.int a t,.int b u,.int 1 v],slots:=#[] },toks:=k }:=fun ha hb =>
   qBb S (qAo _ _) (.rng (Heap.get?_push_size _ rfl) (S.fresh_at G fun _ _ e=>e).1 (S.out fun _ _ e=>e) ha hb)
  rcases qGH hp with ⟨rfl,h0,h1⟩ | ⟨rfl,h0,h1⟩
  ·(injection (ra.one) with x; rintro ⟨rfl,r⟩)
   (injection (r) with t; try clear r; rintro rfl)
   cases h0
   exact call_range_1 (mk (by decide) (Nat.lt_succ_of_lt h1))
  ·(injection (ra.two) with x y; rintro ⟨rfl,r,r'⟩)
   (injection (r) with t; try clear r; rintro rfl)
   (injection (r') with u; try clear r'; rintro rfl)
   exact call_range_2 (mk (Nat.lt_succ_of_lt h0) (Nat.lt_succ_of_lt h1))
 | sorted=>exact absurd rfl hb1
 | set=>exact absurd rfl hb2
 | int =>
  (injection (qA0 e) with v; rintro ⟨hv,e⟩)
  (injection (qA4 e) with n; rintro ⟨hn,rfl⟩)
  (injection (ra.one_of hv) with x; rintro ⟨rfl,r⟩)
  (injection ((r.isInt hn).2) with t; rintro rfl)
  exact call_int_int (qLA S)
 | sum =>
  (injection (qA0 e) with v; rintro ⟨hv,e⟩)
  (injection (qA0 e) with l; rintro ⟨hl,e⟩)
  (injection (qA4 e) with n; rintro ⟨hn,rfl⟩)
  (injection (ra.one_of hv) with x; rintro ⟨rfl,r⟩)
  exact qJ7 R S (qBc hl ▸ r) hn
 | max =>
  (injection (qA4 e) with v; rintro ⟨hv,rfl⟩)
  (injection (qI2 ra hv) with a b t u; rintro ⟨rfl,rfl⟩)
  exact max_two_ints R.handled fun h' tk g=>qJY S g
 | min =>
  (injection (qA4 e) with v; rintro ⟨hv,rfl⟩)
  (injection (qI2 ra hv) with a b t u; rintro ⟨rfl,rfl⟩)
  exact min_two_ints R.handled fun h' tk g=>qJY S g
end
end Mine.Internal
end
section
open PySem PySem.W PyProof.Rows
namespace Mine.Internal
section
variable {A:Around}{ψ φ φ₁:List Addr}{H H' H₁:AHeap}{s s₁:Shared}{d:Nat}
abbrev EvFn:=CE→Rho→AHeap→Option (AV × AHeap)
noncomputable def SndE (X:CX) (prog:Program) (w:World) (base:Heap) (d:Nat) (ev:EvFn) (e:Expr) (ce:CE) (sc:Scope):Prop :=
 ∀ {A:Around}{env:PySem.Env}{ρ:Rho}{ψ φ:List Addr}{H H':AHeap}{s:Shared}{v:AV},Room d A→EnvOk env sc→FR X ψ φ s.heap env sc ρ→SR X prog w base ψ φ H s.heap→ev ce ρ H=some (v,H') →
  wpAny (model prog w) A (eval e env) (Out X prog w base ψ φ s v H') NoE s
noncomputable def Outs (X:CX) (prog:Program) (w:World) (base:Heap) (ψ φ:List Addr) (s:Shared) (vs:List AV) (H':AHeap) (xs:List Value) (s':Shared):Prop :=
 ∃ φ',Post X prog w base [] ψ φ φ' H' s s'∧VRs X ψ φ' s'.heap xs vs
theorem qCL {env:PySem.Env}:∀ {es:List Expr},es.any qAs=false→starEach es env=es.map fun e=>(false,eval e env)
 | [],_=>rfl
 | e :: r,h=>by
  have h:=Bool.or_eq_false_iff.mp h
  have ih:=qCL (env:=env) h.2
  cases e with
  | Starred=>exact nomatch h.1
  | _=>exact congrArg (List.cons _) ih
theorem qGx {env:PySem.Env}{pos:Pos} (es:List Expr):backTo pos (es.map fun e=>(false,eval e env))=es.map fun e=>(false,eval e env):=by
 unfold backTo
 rw [List.map_map]
 rfl
theorem qJq {α β:Type}{f:α→Option β}:∀ {l:List α}{r:List β},listM f l=some r→l.length=r.length
 | [],r,h=>by cases h; rfl
 | x :: l,r,h=>by
  obtain ⟨a,_,h⟩:=qA0 h
  obtain ⟨b,hb,rfl⟩:=qA4 h
  exact congrArg (· + 1) (qJq hb)
noncomputable def listM₂ {α β:Type} (P:α→β→Prop):List α→List β→Prop
 | [],l=>(match l with | []=>True | _=>False)
 | a :: r,l=>(match l with | b :: t=>P a b∧listM₂ P r t | []=>False)
theorem qBF {α β:Type}{f:α→Option β}{P:α→β→Prop} (k:∀ a b,f a=some b→P a b):∀ {l:List α}{r:List β},listM f l=some r→listM₂ P l r
 | [],r,h=>by cases h; trivial
 | x :: l,r,h=>by
  obtain ⟨a,ha,h⟩:=qA0 h
  obtain ⟨b,hb,rfl⟩:=qA4 h
  exact ⟨k _ _ ha,qBF k hb⟩
theorem qAw {ev:EvFn}{env:PySem.Env}{sc:Scope}{ρ:Rho} (R:Room d A) (O:EnvOk env sc) :
  ∀ {es:List Expr}{ces:List CE}{as:List AV}{H H':AHeap}{φ:List Addr}{s:Shared},listM₂ (fun e ce=>SndE X prog w base d ev e ce sc) es ces→FR X ψ φ s.heap env sc ρ→SR X prog w base ψ φ H s.heap→evEs ev ces ρ H=some (as,H') →
   wpAny (model prog w) A (spliced (es.map fun e=>(false,eval e env))) (Outs X prog w base ψ φ s as H') NoE s
 | [],[],as,H,H',φ,s,_,F,S,e=>by
  cases e
  exact PySem.Calls.spliced_nil ⟨φ,Post.refl S,.nil⟩
 | e :: es,c :: ces,as,H,H',φ,s,hp,F,S,h=>by
  obtain ⟨v,H1,h1,h⟩:=qA6 h
  obtain ⟨vs,H2,h2,h⟩:=qA6 h
  cases h
  refine PySem.Calls.spliced_cons (qA1 (hp.1 R O F S h1) fun x s1 o=>?_)
  obtain ⟨φ1,p1,r1⟩:=o
  refine qA1 (qAw R O hp.2 (FRs.post F S p1) p1.sr h2) fun xs s2 o2=>?_
  obtain ⟨φ2,p2,r2⟩:=o2
  exact ⟨φ2,p1.trans p2,.cons (r1.grow0 p2.grow) r2⟩
 | [],_ :: _,_,_,_,_,_,hp,_,_,_=>hp.elim
 | _ :: _,[],_,_,_,_,_,hp,_,_,_=>hp.elim
end
end Mine.Internal
end
section
open PySem PySem.W PyProof.Rows
namespace Mine.Internal
structure PV (X:CX) (P:Prog):Prop where
 mt:∀ c m f,mtOf P c m=some f→∃ C a x,X.clss[c]?=some C∧X.fns[f]?=some a∧X.names[m]?=some x∧plainGet X.K C x=true∧findIn X.K (.ref C) x=some (some (.ref a)) ∧
  typeIn X.K (.ref a)=some (.type "function")∧keepIn X.K (.ref a)=true
 att:∀ c a,qDp P c a=true→∃ C x,X.clss[c]?=some C∧X.names[a]?=some x∧plainGet X.K C x=true∧hasDictIn X.K C=true∧findIn X.K (.ref C) x=some none ∧
  findIn X.K (.ref C) "__setattr__" = some (some (.builtin "object.__setattr__"))∧plainOver X.K C=true
 new:∀ c f,mtOf P c 6=some f→∃ C,X.clss[c]?=some C∧makesIn X.K C=true∧keepIn X.K (.ref C)=true
 init:X.names[6]?=some (PySem.Str.ofString "__init__")
 mn:X.names[0]?=some (PySem.Str.ofString "append")∧X.names[1]?=some (PySem.Str.ofString "pop")∧X.names[2]?=some (PySem.Str.ofString "remove")∧X.names[3]?=some (PySem.Str.ofString "extend") ∧
  X.names[4]?=some (PySem.Str.ofString "get")∧X.names[5]?=some (PySem.Str.ofString "setdefault")
section
variable {A:Around}{ψ φ φ₁:List Addr}{H H' H₁:AHeap}{s s₁:Shared}{d:Nat}
theorem KS (G:GW X base) {h:Heap} (S:SR X prog w base ψ φ H h):X.K.In h:=G.K.keeps S.keep
theorem VR.handed {h v a} (r:VR X ψ φ h v a):handedIn v=true:=by
 revert r
 revert ψ φ h v a
 intros ψ φ h v a
 intro r
 cases a with
 | none | bool=>cases r; rfl
 | int=>obtain ⟨_,rfl⟩:=r; rfl
 | str=>obtain ⟨_,_,rfl,_⟩:=r; rfl
 | tup | lst=>obtain ⟨_,_,_,rfl,_⟩:=r; rfl
 | ref=>obtain ⟨_,rfl,_⟩:=r; rfl
 | inst=>obtain ⟨_,_,_,rfl,_⟩:=r; rfl
 | rng=>obtain ⟨_,_,_,_,rfl,_⟩:=r; rfl
 | sset=>obtain ⟨_,_,_,_,_,_,rfl,_⟩:=r; rfl
theorem qJc {H:AHeap}{i:Nat}{fs:List (Nat × AV)} (e:nsAt H i=some fs):H[i]?=some (.ns fs):=by
 obtain ⟨o,h,e⟩:=qA0 e
 cases o with
 | ns=>rw [h]; exact congrArg (fun x=>some (AObj.ns x)) (Option.some.inj e)
 | _=>exact qA3 e
inductive InstHere (X:CX) (ψ φ:List Addr) (h:Heap) (x:Value) (c i:Nat) (fs:List (Nat × AV)):Prop
 | mk (xa C dx:Addr) (es:List DictEntry) (n:Nat) (z:x=.ref xa) (hc:X.clss[c]?=some C) (hf:φ[i]?=some dx) (e2:h.get? dx=some (dictOf es n)) (I:InstAt h xa (instObj C dx) C (some (dictOf es n))) (le:es.length ≤ fs.length) (nr:es.any (·.refKey)=false)
  (k:∀ k y,X.names[k]?=some y→match fs.lookup k with
    | some v=>∃ z,getL y es=some (some z)∧VR X ψ φ h z v
    | none=>getL y es=some none)
theorem qHO {h:Heap}{x:Value}{c i:Nat}{fs:List (Nat × AV)} (S:SR X prog w base ψ φ H h) (r:VR X ψ φ h x (.inst c i)) (hi:nsAt H i=some fs):InstHere X ψ φ h x c i fs:=by
 obtain ⟨a,C,dx,z,e1,_,_,hc,hf⟩:=r
 obtain ⟨es,n,p,q,nr,k⟩:=S.obj _ _ _ hf (qJc hi)
 exact ⟨a,C,dx,es,n,z,hc,hf,p,⟨e1,rfl,rfl,p⟩,q,nr,k⟩
theorem PV.att' (V:PV X P) {c a:Nat}{C:Addr}{name:Str} (h:qDp P c a=true) (hc:X.clss[c]?=some C) (hn:X.names[a]?=some name):plainGet X.K C name=true∧hasDictIn X.K C=true∧findIn X.K (.ref C) name=some none ∧
  findIn X.K (.ref C) "__setattr__" = some (some (.builtin "object.__setattr__"))∧plainOver X.K C=true:=by
 revert V h hc hn
 revert c a C name
 intros c a C name
 intro V h hc hn
 (injection (V.att c a h) with C' x'; rintro ⟨hc',hx',g⟩)
 rw [Option.some.inj (hc.symm.trans hc'),Option.some.inj (hn.symm.trans hx')]
 exact g
theorem qFo (G:GW X base) (V:PV X P) {x:Value}{v r:AV}{a:Nat}{name:Str}{ex:Bool} (S:SR X prog w base ψ φ H s.heap) (rv:VR X ψ φ s.heap x v) (hn:X.names[a]?=some name) (e:qAD P v a H=some r) :
  wpAny (model prog w) A (getAttr x name ex) (Out X prog w base ψ φ s r H) NoE s:=by
 cases v with
 | inst c i =>
  obtain ⟨fs,hi,e⟩:=qA0 e
  obtain ⟨ha,e⟩:=qAA e
  obtain ⟨xa,C,dx,es,n,rfl,hc,hf,e2,I,_,_,k⟩:=qHO S rv hi
  obtain ⟨g1,g2,g3,_,_⟩:=V.att' ha hc hn
  have:=k a name hn
  rw [e] at this
  obtain ⟨z,hz,rz⟩:=this
  exact get_value (KS G S) I (plainGet_of g1).1 (findObj_own g2 g3 rfl hz) rz.handed (qBl S rz)
 | _=>exact qA3 e
theorem qK9 {name y:Str}{hsh:Int}{tk:Tok}{v:Value}:∀ {es:List DictEntry},es.any (·.refKey)=false→getL y (putL name hsh (.str name tk) v es)=if y=name then some (some v) else getL y es:=by
 revert name y hsh tk v
 intros name y hsh tk v
 (intros es; intro hr)
 have noref:∀ {l:List DictEntry},l.any (·.refKey)=false→getL y l=match l.find? (·.key.isStr y) with | some e=>some (some e.val) | none=>some none:=by
  (intros l; intro hl)
  unfold getL
  cases l.find? (·.key.isStr y) with
  | some e=>rfl
  | none=>simp [hl]
 have hr2:(putL name hsh (.str name tk) v es).any (·.refKey)=false:=by
  induction es with
  | nil=>rfl
  | cons e r ih =>
   revert ih hr; revert e r; intros e r; intro ih hr
   rw [List.any_cons,Bool.or_eq_false_iff] at hr
   unfold putL
   split
   ·rw [List.any_cons,hr.2,Bool.or_false]; exact hr.1
   ·rw [List.any_cons,ih hr.2,hr.1]; rfl
 rw [noref hr2,noref hr]
 clear hr2 noref
 induction es with
 | nil =>
  by_cases q:y=name
  ·subst q; simp [putL,Value.isStr]
  ·have:(Value.str name tk).isStr y=false:=by simp [Value.isStr]; exact fun z=>q z.symm
   simp [putL,this,q]
 | cons e r ih =>
  revert ih hr; revert e r; intros e r; intro ih hr
  rw [List.any_cons,Bool.or_eq_false_iff] at hr
  unfold putL
  by_cases hk:e.key.isStr name=true
  ·rw [if_pos hk,List.find?_cons,List.find?_cons]
   by_cases q:y=name
   ·subst q; simp [hk]
   ·have:e.key.isStr y=false:=by
     cases z:e.key.isStr y with
     | false=>rfl
     | true=>exact absurd (Value.isStr_inj _ _ _ z hk) q
    simp [this,q]
  ·rw [if_neg hk,List.find?_cons,List.find?_cons]
   by_cases hy:e.key.isStr y=true
   ·have q:y ≠ name:=fun z=>hk (z ▸ hy)
    simp [hy,q]
   ·have hy':e.key.isStr y=false:=by simpa using hy
    simp only [hy']
    exact ih hr.2
theorem qGI {name:Str}{hsh:Int}{tk:Tok}{v:Value}:∀ {es:List DictEntry},es.any (·.refKey)=false→(putL name hsh (.str name tk) v es).any (·.refKey)=false
 | [],_=>rfl
 | e :: r,h=>by
  rw [List.any_cons,Bool.or_eq_false_iff] at h
  unfold putL
  split
  ·rw [List.any_cons,h.2,Bool.or_false]; exact h.1
  ·rw [List.any_cons,qGI h.2,h.1]; rfl
theorem qFd {name:Str}{hsh:Int}{key v:Value}:∀ {es:List DictEntry},(putL name hsh key v es).length=es.length + (if es.any (·.key.isStr name) then 0 else 1)
 | []=>rfl
 | e :: r=>by
  unfold putL
  by_cases h:e.key.isStr name=true
  ·rw [if_pos h,List.any_cons,h]; rfl
  ·rw [if_neg h,List.any_cons,(Bool.not_eq_true _).mp h,List.length_cons,qFd (es:=r),List.length_cons,Bool.false_or,Nat.add_right_comm]
theorem qBW {α:Type}{k k':Nat}{v:α}:∀ {l:List (Nat × α)},(upd k v l).lookup k'=if k'=k then some v else l.lookup k'
 | []=>by
  rw [upd,qAT]
  by_cases q:k'=k
  ·rw [if_pos q,if_pos q.symm]
  ·rw [if_neg q,if_neg (Ne.symm q)]
 | p :: r=>by
  rw [upd]
  by_cases h:p.1=k
  ·rw [if_pos h,qAT,qAT,h]
   by_cases q:k'=k
   ·rw [if_pos q,if_pos q.symm]
   ·rw [if_neg q,if_neg (Ne.symm q),if_neg (Ne.symm q)]
  ·rw [if_neg h,qAT,qAT,qBW (l:=r)]
   by_cases q:p.1=k'
   ·rw [if_pos q,if_pos q,if_neg (q ▸ h)]
   ·rw [if_neg q,if_neg q]
theorem qJ4 {α:Type}{k:Nat}{v:α}:∀ {l:List (Nat × α)},(upd k v l).length=l.length + (if (l.lookup k).isSome then 0 else 1)
 | []=>rfl
 | p :: r=>by
  rw [upd,qAT]
  by_cases h:p.1=k
  ·rw [if_pos h,if_pos h]; rfl
  ·rw [if_neg h,if_neg h,List.length_cons,qJ4 (l:=r),List.length_cons,Nat.add_right_comm]
theorem qLB {K:Frag}{x C dx:Addr}{ox:Obj}{name:Str}{tk:Tok}{v:Value}{es:List DictEntry}{n:Nat}{R:Result→Shared→Prop} (KX:K.In s.heap)
  (I:InstAt s.heap x ox C (some (dictOf es n))) (hd:ox.dict=some dx) (D:s.heap.get? dx=some (dictOf es n)) (hp:plainOver K C=true) (ht:takerIn K C name=some none) (hh:(clsIn K C).any (·.hasDict)=true)
  (hr:es.any (·.refKey)=false) (hz:es.length ≤ 900)
  (h:∀ h',h'.get? dx=some (dictOf (putL name (PyData.keyHash w.params name) (.str name s.toks) v es) (putN name es n))→(∀ b,b ≠ dx→h'.get? b=s.heap.get? b)→R (.ok (.ret .none)) { s with heap:=h',toks:=s.toks + 1 }) :
  codeAny (model prog w) A (.call (.builtin "object.__setattr__") ⟨[.ref x,.str name tk,v],[]⟩) R s:=by
 revert KX I hd D hp ht hh hr hz h
 revert A s K x C dx ox name tk v es n R
 intros A s K x C dx ox name tk v es n R
 intro KX I hd D hp ht hh hr hz h
 refine osa_open KX I hp ht ?_
 intros b
 (injection (qCK hh) with cd; rintro ⟨hc,hd'⟩)
 have e:=putName_dict name (PyData.keyHash w.params name) (.str name s.toks) v es n
 have D':(s.heap.update dx (Obj.putName name (PyData.keyHash w.params name) (.str name s.toks) v)).get? dx=some (dictOf (putL name (PyData.keyHash w.params name) (.str name s.toks) v es) (putN name es n)):=by
  rw [Heap.get?_update_self _ D (by rw [e]; rfl),e]
 obtain ⟨hx,hcl,hn,-⟩:=I
 obtain ⟨oc,odi,oda,osl⟩:=ox
 revert hd hx hcl hn; revert oc odi oda osl; intros oc odi oda osl; intro hd hx hcl hn
 dsimp only at hcl hd
 subst hcl hd
 refine wpAny_bind (wpAny_pure (wpAny_bind (wpAny_bind (wpAny_loadPart hx (wpAny_bind ((looks_clsIn KX hc).here ?_))))))
 rw [hd']
 refine wpAny_pure (a:=some dx) (wpAny_bind (wpAny_pure (wpAny_bind ?_)))
 unfold nsSet
 refine wpAny_bind (wpAny_bind (wpAny_askSetting (wpAny_pure (wpAny_bind (wpAny_mkText (wpAny_bind (wpAny_loadPart D ?_)))))))
 dsimp only
 have c:(!es.toArray.any (·.key.isStr name) && es.toArray.any (·.refKey))=false:=by
  rw [← Array.any_toList,← Array.any_toList]
  simp [hr]
 rw [aRefKeyMayBeTheName_at,c]
 refine wpAny_updatePart D ?_
 refine wpAny_bind (wpAny_lookBehind D' (pastItsLine_dict (by rw [List.size_toArray,sizeLine_eq,qFd]; split <;> lia)) ?_)
 exact wpAny_pure (h _ D' fun b hb=>Heap.get?_update_other _ _ (Ne.symm hb))
theorem qLX {y:Str}{es:List DictEntry}{z:Value} (h:getL y es=some (some z)):es.any (·.key.isStr y)=true:=by
 unfold getL at h
 cases hf:es.find? (·.key.isStr y) with
 | some en=>exact List.any_eq_true.mpr ⟨en,List.mem_of_find?_eq_some hf,List.find?_some (p:=fun e:DictEntry=>e.key.isStr y) hf⟩
 | none =>
  rw [hf] at h
  dsimp only at h
  cases hr:es.any (·.refKey) with
  | true=>rw [hr] at h; exact qA3 h
  | false=>rw [hr] at h; exact nomatch h
theorem qFX (G:GW X base) (V:PV X P) {x y:Value}{v u:AV}{a:Nat}{name:Str} (S:SR X prog w base ψ φ H s.heap) (rv:VR X ψ φ s.heap x v) (ru:VR X ψ φ s.heap y u) (hn:X.names[a]?=some name) (e:qBu P v a u H=some H') :
  wpAny (model prog w) A (setAttr x name y) (fun _ s'=>Post X prog w base [] ψ φ φ H' s s') NoE s:=by
 revert G V S rv ru hn e
 revert A ψ φ H H' s x y v u a name
 intros A ψ φ H H' s x y v u a name
 intro G V S rv ru hn e
 cases v with
 | inst c i =>
  revert rv e; revert c i; intros c i; intro rv e
  (injection (qA0 e) with fs; rintro ⟨hi,e⟩)
  obtain ⟨ha,e⟩:=qAA e
  obtain rfl:=Option.some.inj e
  have ha':=Bool.and_eq_true_iff.mp ha
  have hlen:=of_decide_eq_true ha'.2
  obtain ⟨xa,C,dx,es,n,rfl,hc,hf,e2,I,hle,hr,k⟩:=qHO S rv hi
  revert hc hf e2 I hle hr k rv; revert xa C dx es n; intros xa C dx es n; intro hc hf e2 I hle hr k rv
  obtain ⟨g1,g2,g3,g4,g5⟩:=V.att' ha'.1 hc hn
  refine set_plain (KS G S) I g4 (qLB (s:={ s with toks:=s.toks + 1 }) (KS G S) I rfl e2 g5 (by unfold takerIn; rw [g3]; rfl) g2 hr (Nat.le_of_lt (Nat.lt_of_le_of_lt hle hlen)) ?_)
  intros h'; intro d1 d2
  have keep:∀ b ob,b ≠ dx→s.heap.get? b=some ob→h'.get? b=some ob:=fun b ob hb q=>(d2 b hb).trans q
  have gr:Grow [] φ φ s.heap h':=⟨List.prefix_refl _,fun _ q=>.inl q,fun b ob q nb _=>keep b ob (fun z=>nb (z ▸ List.mem_of_getElem? hf)) q⟩
  refine Post.turned S hf keep ⟨_,_,d1,?_,qGI hr,?_⟩
  ·rw [qFd,qJ4]
   have ka:=k a name hn
   cases hl:fs.lookup a with
   | none=>exact Nat.add_le_add hle (by split <;> decide)
   | some v0 =>
    revert hl; revert v0; intros v0; intro hl
    rw [hl] at ka
    (injection (ka) with z; try clear ka; rintro ⟨hz,_⟩)
    rw [qLX hz]
    exact hle
  ·intros k' y'; intro hk'
   rw [qK9 hr,qBW]
   have kk:y'=name↔k'=a:=⟨fun z=>(List.getElem?_inj (List.getElem?_eq_some_iff.mp hk').1 G.nd).mp (hk'.trans (z ▸ hn.symm)),fun z=>Option.some.inj (hk'.symm.trans (z ▸ hn))⟩
   by_cases q:k'=a
   ·rw [if_pos q,if_pos (kk.mpr q)]
    exact ⟨_,rfl,ru.grow0 gr⟩
   ·rw [if_neg q,if_neg fun z=>q (kk.mp z)]
    have:=k k' y' hk'
    cases hw:fs.lookup k' with
    | none=>rw [hw] at this; exact this
    | some w' =>
     revert hw; revert w'; intros w'; intro hw
     rw [hw] at this
     (injection (this) with z; try clear this; rintro ⟨hz,rz⟩)
     exact ⟨z,hz,rz.grow0 gr⟩
 | _=>exact qA3 e
theorem qGP (G:GW X base) (V:PV X P) {x:Value}{c i m f:Nat}{name:Str}{pl:Sem Bool}{Q:Value × List Value→Shared→Prop}{E:Value→Shared→Prop} (S:SR X prog w base ψ φ H s.heap) (rv:VR X ψ φ s.heap x (.inst c i)) (hn:X.names[m]?=some name)
  (hm:mtOf P c m=some f) (hna:qAj i m H=true) (h:∀ a,X.fns[f]?=some a→keepIn X.K (.ref a)=true→Q (.ref a,[x]) s):wpAny (model prog w) A (getMethod x name pl) Q E s:=by
 revert G V S rv hn hm hna h
 revert A ψ φ H s x c i m f name pl Q E
 intros A ψ φ H s x c i m f name pl Q E
 intro G V S rv hn hm hna h
 (injection (qCK hna) with fs; rintro ⟨hi,hna⟩)
 obtain ⟨xa,C,dx,es,n,rfl,hc,hf,e2,I,hle,hr,k⟩:=qHO S rv hi
 (injection (V.mt c m f hm) with C' a x'; rintro ⟨hc',hfa,hx',g1,g2,g3,g4⟩)
 obtain rfl:=Option.some.inj (hc.symm.trans hc')
 obtain rfl:=Option.some.inj (hn.symm.trans hx')
 have:=k m name hn
 rw [Option.isNone_iff_eq_none.mp hna] at this
 refine method_fn (KS G S) I (plainGet_of g1).1 (plainGet_of g1).2 g2 g3 ?_ (h a hfa g4)
 show (lookIn name (dictOf es n)).map _=_
 rw [lookIn_dict,this]; rfl
end
end Mine.Internal
end
section
open PySem PySem.W PyProof.Rows
namespace Mine.Internal
section
variable {A:Around}{ψ φ φ₁:List Addr}{H H' H₁:AHeap}{s s₁:Shared}{d:Nat}
noncomputable def qF4:Nat→String
 | 0=>"list.append" | 1=>"list.pop" | 2=>"list.remove" | 3=>"list.extend" | 4=>"dict.get" | _=>"dict.setdefault"
noncomputable def qNm:Nat→Str
 | 0=>"append" | 1=>"pop" | 2=>"remove" | 3=>"extend" | 4=>"get" | _=>"setdefault"
theorem VRs.grow1 {φ' h h'}{vs:List Value}{l:List AV} (r:VRs X ψ φ h vs l) (g:Grow [] φ φ' h h'):VRs X ψ φ' h' vs l:=r.grow0 g
theorem qC3 {i:Nat}{p:Addr}{vs:Array Value}{n k:Nat}{f:Array Value→Array Value}{l:List AV} (S:SR X prog w base ψ φ H s.heap) (hi:φ[i]?=some p) (e:s.heap.get? p=some (seqObj "list" vs n)) (hl:l.length < 1000001)
  (r:VRs X ψ φ s.heap (f vs).toList l):Post X prog w base [] ψ φ φ (H.set i (.list l)) s { s with heap:=s.heap.update p (Obj.mapSeq f),toks:=k }∧Grow [] φ φ s.heap (s.heap.update p (Obj.mapSeq f)):=by
 have D:=PySem.IsL.update (h:=s.heap) (l:=p) (items:=vs) (n:=n) e f
 have keep:∀ b ob,b ≠ p→s.heap.get? b=some ob→(s.heap.update p (Obj.mapSeq f)).get? b=some ob:=fun b ob hb q=>(Heap.get?_update_other _ _ (Ne.symm hb)).trans q
 have gr:Grow [] φ φ s.heap (s.heap.update p (Obj.mapSeq f)):=⟨List.prefix_refl _,fun _ q=>.inl q,fun b ob q nb _=>keep b ob (fun z=>nb (z ▸ List.mem_of_getElem? hi)) q⟩
 exact ⟨Post.turned S hi keep (.list D hl (r.grow0 gr)),gr⟩
theorem qGJ {vs:Array Value}{v:Value}:(vs.push v).toList=vs.toList ++ [v]:=by simp
theorem qIk {vs:Array Value}:(vs.eraseIdxIfInBounds (vs.size - 1)).toList=vs.toList.dropLast:=by
 by_cases h:vs.size - 1 < vs.size
 ·rw [Array.eraseIdxIfInBounds,dif_pos h,Array.toList_eraseIdx,← Array.length_toList,List.eraseIdx_length_sub_one]
 ·have:vs=#[]:=Array.eq_empty_of_size_eq_zero (by lia)
  subst this; rfl
theorem VRs.dropLast {h}:∀ {l:List AV}{vs:List Value},VRs X ψ φ h vs l→VRs X ψ φ h vs.dropLast l.dropLast
 | [],_,r=>by cases r; exact .nil
 | [_],_,r=>by obtain ⟨v,rfl,_⟩:=r.one; exact .nil
 | _ :: b :: l,_,r=>by
  obtain ⟨v,ws,rfl,r,q⟩:=r
  obtain ⟨u,us,z,_⟩:=id q
  subst z
  exact .cons r (VRs.dropLast q)
theorem VRs.last {h}{vs:List Value}{l:List AV}{a:AV} (r:VRs X ψ φ h vs l) (e:l.getLast?=some a):∃ v,vs[vs.length - 1]?=some v∧VR X ψ φ h v a:=by
 rw [List.getLast?_eq_getElem?] at e
 rw [r.length]
 exact r.get e
theorem VRs.erase {h}:∀ {l:List AV}{vs:List Value} (j:Nat),VRs X ψ φ h vs l→VRs X ψ φ h (vs.eraseIdx j) (l.eraseIdx j)
 | [],_,_,r=>by cases r; exact .nil
 | _ :: _,_,0,r=>by obtain ⟨v,ws,rfl,_,q⟩:=r; exact q
 | _ :: _,_,j + 1,r=>by obtain ⟨v,ws,rfl,r,q⟩:=r; exact .cons r (q.erase j)
theorem int_beq {a b:Int}:(AV.int a).beq (.int b)=decide (a=b):=by
 rw [Bool.eq_iff_iff,AV.beq_iff,decide_eq_true_iff,AV.int.injEq]
inductive ErasePlace (vs:List Value) (l:List AV) (k:Int):Prop
 | mk (j:Nat) (hj:j < vs.length) (h1:qFB vs[j]=k) (h2:∀ m (hm:m < vs.length),m < j→qFB vs[m] ≠ k) (h3:l.eraseIdx j=qBT (.int k) l)
theorem qET {h}{k:Int}:∀ {l:List AV}{vs:List Value},VRs X ψ φ h vs l→l.all isK1=true→hasAV (.int k) l=true→ErasePlace vs l k
 | [],_,_,_,e=>nomatch e
 | a :: l,_,r,hk,e=>by
  obtain ⟨v,ws,rfl,r,rs⟩:=r
  have hk:=Bool.and_eq_true_iff.mp hk
  obtain ⟨i,hi⟩:=Option.isSome_iff_exists.mp hk.1
  obtain rfl:=qAZ hi
  obtain ⟨t,rfl⟩:=r
  by_cases q:i=k
  ·exact ⟨0,Nat.zero_lt_succ _,q,fun m _ h=>absurd h (Nat.not_lt_zero _),by rw [qBT,if_pos (by rw [int_beq]; exact decide_eq_true q)]; rfl⟩
  ·have nb:(AV.int i).beq (.int k)=false:=by rw [int_beq]; exact decide_eq_false q
   rw [hasAV,nb,Bool.false_or] at e
   obtain ⟨j,hj,h1,h2,h3⟩:=qET rs hk.2 e
   refine ⟨j + 1,Nat.succ_lt_succ hj,h1,fun m hm hlt=>?_,?_⟩
   ·cases m with
    | zero=>exact q
    | succ m=>exact h2 m (Nat.lt_of_succ_lt_succ hm) (Nat.lt_of_succ_lt_succ hlt)
   ·rw [List.eraseIdx_cons_succ,h3,qBT,nb]; rfl
theorem qHg {h}:∀ {l:List AV}{vs:List Value},VRs X ψ φ h vs l→l.all isK1=true→∀ v ∈ vs,∃ t,v=.int (qFB v) t
 | [],_,r,_=>by cases r; exact fun _ q=>nomatch q
 | a :: l,_,r,hk=>by
  obtain ⟨v,ws,rfl,r,rs⟩:=r
  have hk:=Bool.and_eq_true_iff.mp hk
  obtain ⟨i,hi⟩:=Option.isSome_iff_exists.mp hk.1
  obtain ⟨t,rfl⟩:=(r.isInt hi).2
  intro u hu
  cases hu with
  | head=>exact ⟨t,rfl⟩
  | tail _ hu=>exact qHg rs hk.2 u hu
theorem qH7 {K:Type} [DecidableEq K] {kvs:List (K × Value)}{k:K}{v:Value} (h:valueAt kvs k=none):stored kvs k v=kvs ++ [(k,v)]:=by
 unfold stored
 rw [if_neg]
 intro q
 obtain ⟨p,hp,hk⟩:=List.any_eq_true.mp q
 unfold valueAt at h
 cases hf:kvs.find? (fun kv=>kv.1=k) with
 | none=>exact (List.find?_eq_none.mp hf p hp) hk
 | some p'=>rw [hf] at h; cases h
theorem qEX {i:Nat}{p:Addr}{h':Heap}{k:Nat}{o:AObj} (S:SR X prog w base ψ φ H s.heap) (hi:φ[i]?=some p) (hs:Heap.SameBut p s.heap h') (ho:Grow [] φ φ s.heap h'→ObjR X prog w ψ φ h' p o) :
  Post X prog w base [] ψ φ φ (H.set i o) s { s with heap:=h',toks:=k }∧Grow [] φ φ s.heap h':=by
 have keep:∀ b ob,b ≠ p→s.heap.get? b=some ob→h'.get? b=some ob:=fun b ob hb q=>(hs.2 b hb).trans q
 have gr:Grow [] φ φ s.heap h':=⟨List.prefix_refl _,fun _ q=>.inl q,fun b ob q nb _=>keep b ob (fun z=>nb (z ▸ List.mem_of_getElem? hi)) q⟩
 exact ⟨Post.turned S hi keep (ho gr),gr⟩
theorem qJf {a:Addr} (S:SR X prog w base ψ φ H s.heap) {i:Nat} (hi:φ[i]?=some a):(a == sysModules)=false:=by
 have:=(S.fresh a (List.mem_of_getElem? hi)).2.1
 have e:sysModules=1:=rfl
 rw [beq_eq_false_iff_ne,e]
 intro q; rw [q] at this; exact absurd this (by decide)
theorem qBB {α β:Type}:∀ {l:List α}{m:List β}{a:α}{b:β},l.length=m.length→(l ++ [a]).zip (m ++ [b])=l.zip m ++ [(a,b)]
 | [],[],_,_,_=>rfl
 | x :: l,y :: m,a,b,h=>congrArg (List.cons (x,y)) (qBB (l:=l) (m:=m) (Nat.succ.inj h))
theorem qFl {i:Nat}{l:List AV}{p:Addr} (S:SR X prog w base ψ φ H s.heap) (hp:φ[i]?=some p) (ho:H[i]?=some (.list l)):ListO X ψ φ s.heap p l:=S.obj _ _ _ hp ho
theorem qH1 {p:Addr}{i:Nat}{l:List AV}{y:Value}{a:AV} (S:SR X prog w base ψ φ H s.heap) (hp:φ[i]?=some p) (ho:H[i]?=some (.list l)) (ry:VR X ψ φ s.heap y a) (hz:l.length < 900000) :
  wpAny (model prog w) A (call (.builtin "list.append") [.ref p,y]) (Out X prog w base ψ φ s .none (H.set i (.list (l ++ [a])))) NoE s:=by
 obtain ⟨vs,n,e1,q,r⟩:=qFl S hp ho
 refine call_meets F.slot_list_append ⟨_,e1,rfl⟩ F.entry_list_append (F.args_list_append_2 _ _) (PySem.list_append _ _ _ _ (by rw [qAS r,qBR]; omega)) ⟨e1,?_⟩
 exact ⟨φ,(qC3 (k:=s.toks) (f:=fun x=>x.push y) (l:=l ++ [a]) S hp e1 (by rw [List.length_append]; exact Nat.lt_of_lt_of_le (Nat.succ_lt_succ hz) (by decide)) (by rw [qGJ]; exact r.append (.cons ry .nil))).1,.none⟩
theorem qJU {p:Addr}{i:Nat}{l:List AV}{a:AV} (S:SR X prog w base ψ φ H s.heap) (hp:φ[i]?=some p) (ho:H[i]?=some (.list l)) (hz:l.getLast?=some a) :
  wpAny (model prog w) A (call (.builtin "list.pop") [.ref p]) (Out X prog w base ψ φ s a (H.set i (.list l.dropLast))) NoE s:=by
 obtain ⟨vs,n,e1,q,r⟩:=qFl S hp ho
 obtain ⟨y,hy,ry⟩:=r.last hz
 rw [Array.getElem?_toList,Array.length_toList] at hy
 refine call_meets F.slot_list_pop ⟨_,e1,rfl⟩ F.entry_list_pop (F.args_list_pop_1 _) (MeetsSeq.list_pop_last _ _ _ y hy (qDL r q)) ⟨e1,?_⟩
 obtain ⟨p1,g1⟩:=qC3 (k:=s.toks) (f:=fun xs=>xs.eraseIdxIfInBounds (vs.size - 1)) (l:=l.dropLast) S hp e1 (by rw [List.length_dropLast]; exact Nat.lt_of_le_of_lt (Nat.sub_le _ _) q) (by rw [qIk]; exact r.dropLast)
 exact ⟨φ,p1,ry.grow0 g1⟩
theorem qGF {p:Addr}{i:Nat}{l:List AV}{k:Int}{t:Tok} (S:SR X prog w base ψ φ H s.heap) (hp:φ[i]?=some p) (ho:H[i]?=some (.list l)) (hz:(l.all isK1 && hasAV (.int k) l)=true) :
  wpAny (model prog w) A (call (.builtin "list.remove") [.ref p,.int k t]) (Out X prog w base ψ φ s .none (H.set i (.list (qBT (.int k) l)))) NoE s:=by
 obtain ⟨vs,n,e1,q,r⟩:=qFl S hp ho
 have hz':=Bool.and_eq_true_iff.mp hz
 obtain ⟨j,hj,h1,h2,h3⟩:=qET r hz'.1 hz'.2
 have ai:=qHg r hz'.1
 rw [Array.length_toList] at hj
 refine call_meets F.slot_list_remove ⟨_,e1,rfl⟩ F.entry_list_remove (F.args_list_remove_2 _ _) (MeetsSeq.list_remove _ vs n (.int k t) (fun y=>qFB y == k) (fun y hy=>?_) j hj (by simpa using h1) (fun m hm hlt=>by have q9:=h2 m (by rw [Array.length_toList]; exact hm) hlt; rw [Array.getElem_toList] at q9; simpa using q9) (qDL r q)) ⟨e1,?_⟩
 ·obtain ⟨t',ht'⟩:=ai y (by simpa using hy)
  have q9:=MeetsSeq.EqGives.int (qFB y) k t' t
  rw [← ht'] at q9
  exact q9
 ·exact ⟨φ,(qC3 (k:=s.toks) (f:=fun xs=>xs.eraseIdxIfInBounds j) (l:=qBT (.int k) l) S hp e1 (by rw [← h3]; exact Nat.lt_of_le_of_lt (List.length_eraseIdx_le l j) q) (by
   rw [← h3,Array.eraseIdxIfInBounds,dif_pos hj,Array.toList_eraseIdx]; exact r.erase j)).1,.none⟩
theorem qGj {p:Addr}{i:Nat}{l l':List AV}{y:Value} (S:SR X prog w base ψ φ H s.heap) (hp:φ[i]?=some p) (ho:H[i]?=some (.list l)) (ry:VR X ψ φ s.heap y (.lst l')) (hz:l.length + l'.length < 1000000) :
  wpAny (model prog w) A (call (.builtin "list.extend") [.ref p,y]) (Out X prog w base ψ φ s .none (H.set i (.list (l ++ l')))) NoE s:=by
 obtain ⟨vs,n,e1,q,r⟩:=qFl S hp ho
 obtain ⟨a2,vs2,n2,rfl,e2,_,_,k2,r2⟩:=ry
 refine call_meets F.slot_list_extend ⟨_,e1,rfl⟩ F.entry_list_extend (F.args_list_extend_2 _ _) (AutoSeq1.list_extend_list_list_0 _ _ _ _ _ _ ?_ (qDL r q) (Nat.le_succ_of_le (qFy r r2 hz))) ⟨e1,e2,?_⟩
 ·rw [qAS r,qAS r2]
  have:Builtin.List.listTooLong (l.length + l'.length)=false:=by unfold Builtin.List.listTooLong; simp [qBR]; omega
  rw [this,Bool.and_false]; exact Bool.false_ne_true
 ·exact ⟨φ,(qC3 (k:=s.toks) (f:=fun x=>x ++ vs2) (l:=l ++ l') S hp e1 (qHZ hz) (by rw [Array.toList_append]; exact r.append r2)).1,.none⟩
theorem qK8 {p:Addr}{i:Nat}{kvs:List (Int × AV)}{k:Int}{t:Tok}{z:Value}{dv:AV} (S:SR X prog w base ψ φ H s.heap) (hp:φ[i]?=some p) (ho:H[i]?=some (.dictI kvs)) (rz:VR X ψ φ s.heap z dv) :
  wpAny (model prog w) A (call (.builtin "dict.get") [.ref p,.int k t,z]) (Out X prog w base ψ φ s ((kvs.lookup k).getD dv) H) NoE s:=by
 obtain ⟨ks,vs,l,rfl,e1,q,q2,r⟩:=S.obj _ _ _ hp ho
 refine call_meetsIn F.slot_dict_get e1.typeIs F.entry_dict_get (F.args_dict_get_3 _ _ _) (meets_dict_get_default (intKind prog w) _ (qCI k _) (qJf S hp) z) ⟨_,e1.mapOf,?_⟩
 have g:=qD2 (k:=k) (ks:=ks) r
 cases ha:(ks.zip l).lookup k with
 | some a =>
  rw [ha] at g
  obtain ⟨y,hy,ry⟩:=g
  rw [hy]
  exact qBl S ry
 | none =>
  rw [ha] at g
  rw [show valueAt (ks.zip vs) k=none from g]
  exact qBl S rz
theorem qDr {p:Addr}{i:Nat}{kvs:List (Int × AV)}{k:Int}{t:Tok}{z:Value}{dv v:AV} (S:SR X prog w base ψ φ H s.heap) (hp:φ[i]?=some p) (ho:H[i]?=some (.dictI kvs)) (rz:VR X ψ φ s.heap z dv)
  (h1:∀ u,kvs.lookup k=some u→v=u∧H'=H) (h2:kvs.lookup k=none→kvs.length < 900000∧v=dv∧H'=H.set i (.dictI (kvs ++ [(k,dv)]))) :
  wpAny (model prog w) A (call (.builtin "dict.setdefault") [.ref p,.int k t,z]) (Out X prog w base ψ φ s v H') NoE s:=by
 revert S hp ho rz h1 h2
 revert A ψ φ H H' s p i kvs k t z dv v
 intros A ψ φ H H' s p i kvs k t z dv v
 intro S hp ho rz h1 h2
 obtain ⟨ks,vs,l,rfl,e1,q,q2,r⟩:=S.obj _ _ _ hp ho
 revert e1 q q2 r ho h1 h2; revert ks vs l; intros ks vs l; intro e1 q q2 r ho h1 h2
 have g:=qD2 (k:=k) (ks:=ks) r
 have hzl:(ks.zip vs).length ≤ sizeLine:=by rw [List.length_zip,qBR]; exact Nat.le_trans (Nat.min_le_left _ _) (Nat.le_of_lt (Nat.lt_trans q2 (by decide)))
 refine call_meetsIn F.slot_dict_setdefault e1.typeIs F.entry_dict_setdefault (F.args_dict_setdefault_3 _ _ _) (kt_meets_setdefault (intKind prog w) p (qCI k t) (qJf S hp) z) ⟨_,e1,hzl,?_,?_⟩
 ·intros u; intro hu
  rw [hu] at g
  cases ha:(ks.zip l).lookup k with
  | some a =>
   revert ha; revert a; intros a; intro ha
   rw [ha] at g
   (injection (g) with y; try clear g; rintro ⟨hy,ry⟩)
   obtain ⟨rfl,rfl⟩:=h1 a ha
   exact qBl S (Option.some.inj hy ▸ ry)
  | none=>rw [ha] at g; exact qFV (show some u=none from g)
 ·intro hn; intros h'; intro hd hs
  rw [hn] at g
  cases ha:(ks.zip l).lookup k with
  | some a =>
   revert ha; revert a; intros a; intro ha
   rw [ha] at g
   (injection (g) with y; try clear g; rintro ⟨hy,ry⟩)
   exact qA3 hy
  | none =>
   obtain ⟨hz,rfl,rfl⟩:=h2 ha
   have hln:ks.length=l.length:=by rw [q,r.length]
   rw [List.length_zip,← hln,Nat.min_self] at hz
   obtain ⟨p1,g1⟩:=qEX (k:=s.toks + 1) (o:=.dictI (ks.zip l ++ [(k,v)])) S hp hs fun gr=>by
    rw [← qBB hln]
    refine .dictI (vs:=vs ++ [z]) ?_ (by rw [List.length_append,List.length_append,q]; rfl) (by rw [List.length_append]; exact Nat.lt_of_lt_of_le (Nat.succ_lt_succ hz) (by decide)) ((r.append (.cons rz .nil)).grow0 gr)
    rw [qBB q,← qH7 hn]; exact hd
   exact ⟨φ,p1,rz.grow0 g1⟩
theorem qHK {p:Addr}{i:Nat}{l:List AV}{xs:List Value}{as:List AV}{v:AV} (S:SR X prog w base ψ φ H s.heap) (hp:φ[i]?=some p) (ho:H[i]?=some (.list l)) (ra:VRs X ψ φ s.heap xs as):∀ m,methL i l as H m=some (v,H') →
  wpAny (model prog w) A (call (.builtin (qF4 m)) (.ref p :: xs)) (Out X prog w base ψ φ s v H') NoE s
 | 0,e=>by
  obtain ⟨a,h1,e⟩:=qA0 e
  obtain ⟨hz,e⟩:=qAA e
  obtain ⟨rfl,rfl⟩:=qA7 e
  obtain ⟨y,rfl,ry⟩:=ra.one_of h1
  exact qH1 S hp ho ry hz
 | 1,e=>by
  obtain ⟨h1,e⟩:=qAA e
  obtain ⟨a,hz,e⟩:=qA4 e
  cases e
  cases List.isEmpty_iff.mp h1
  cases ra
  exact qJU S hp ho hz
 | 2,e=>by
  obtain ⟨k,h1,e⟩:=qA0 e
  obtain ⟨hz,e⟩:=qAA e
  obtain ⟨rfl,rfl⟩:=qA7 e
  obtain ⟨a,h2,h3⟩:=qA0 h1
  obtain ⟨y,rfl,ry⟩:=ra.one_of h2
  obtain ⟨t,rfl⟩:=(ry.isInt h3).2
  exact qGF S hp ho hz
 | 3,e=>by
  obtain ⟨l',h1,e⟩:=qA0 e
  obtain ⟨hz,e⟩:=qAA e
  obtain ⟨rfl,rfl⟩:=qA7 e
  obtain ⟨a,h2,h3⟩:=qA0 h1
  obtain ⟨y,rfl,ry⟩:=ra.one_of h2
  exact qGj S hp ho (qBc h3 ▸ ry) hz
 | _ + 4,e=>qA3 e
theorem qHL {p:Addr}{i:Nat}{kvs:List (Int × AV)}{xs:List Value}{as:List AV}{v:AV} (S:SR X prog w base ψ φ H s.heap) (hp:φ[i]?=some p) (ho:H[i]?=some (.dictI kvs)) (ra:VRs X ψ φ s.heap xs as):∀ m,methD i kvs as H m=some (v,H') →
  wpAny (model prog w) A (call (.builtin (qF4 m)) (.ref p :: xs)) (Out X prog w base ψ φ s v H') NoE s
 | 0,e | 1,e | 2,e | 3,e=>qA3 e
 | 4,e=>by
  obtain ⟨q,h1,e⟩:=qA0 e
  obtain ⟨k,h2,e⟩:=qA4 e
  cases e
  obtain ⟨y,z,rfl,ry,rz⟩:=ra.two_of h1
  obtain ⟨t,rfl⟩:=(ry.isInt h2).2
  exact qK8 S hp ho rz
 | 5,e=>by
  obtain ⟨q,h1,e⟩:=qA0 e
  obtain ⟨k,h2,e⟩:=qA0 e
  obtain ⟨y,z,rfl,ry,rz⟩:=ra.two_of h1
  obtain ⟨t,rfl⟩:=(ry.isInt h2).2
  refine qDr S hp ho rz (fun u hu=>?_) fun hn=>?_
  ·rw [hu] at e
   obtain ⟨rfl,rfl⟩:=qA7 e
   exact ⟨rfl,rfl⟩
  ·rw [hn] at e
   obtain ⟨hz,e⟩:=qAA e
   obtain ⟨rfl,rfl⟩:=qA7 e
   exact ⟨hz,rfl,rfl⟩
 | _ + 6,e=>qA3 e
theorem qIX {x:Value}{i m:Nat}{xs:List Value}{as:List AV}{v:AV} (S:SR X prog w base ψ φ H s.heap) (rx:VR X ψ φ s.heap x (.ref i)) (ra:VRs X ψ φ s.heap xs as) (e:qAr i m as H=some (v,H')) :
  wpAny (model prog w) A (call (.builtin (qF4 m)) (x :: xs)) (Out X prog w base ψ φ s v H') NoE s:=by
 obtain ⟨p,rfl,hp⟩:=rx
 obtain ⟨o,ho,e⟩:=qA0 e
 cases o with
 | list l=>exact qHK S hp ho ra m e
 | dictI kvs=>exact qHL S hp ho ra m e
 | _=>exact qA3 e
end
end Mine.Internal
end
section
open PySem PySem.W PyProof.Rows
namespace Mine.Internal
section
variable {A:Around}{ψ φ φ₁:List Addr}{H H' H₁:AHeap}{s s₁:Shared}{d:Nat}
theorem qH8 {K:Type} [DecidableEq K] {k k':K}{v u:Value}{r:List (K × Value)} (h:∀ p ∈ r,p.1=k→k' ≠ k):stored ((k',u) :: r) k v=if k'=k then (k,v) :: r else (k',u) :: stored r k v:=by
 unfold stored
 by_cases e:k'=k
 ·rw [if_pos e,if_pos (by rw [List.any_cons,decide_eq_true e,Bool.true_or]),List.map_cons,if_pos e,e]
  congr 1
  refine (List.map_congr_left fun p hp=>?_).trans (List.map_id' r)
  rw [if_neg fun z=>h p hp z e]
 ·rw [if_neg e,List.any_cons,decide_eq_false e,Bool.false_or,List.map_cons,if_neg e]
  cases r.any fun p=>decide (p.1=k) <;> rfl
inductive UpdZip (X:CX) (ψ φ:List Addr) (h:Heap) {κ K:Type} [DecidableEq κ] [DecidableEq K] (k:κ) (x:K) (a:AV) (v:Value) (ks:List κ) (ss:List K) (vs:List Value) (l:List AV):Prop
 | mk (ks':List κ) (ss':List K) (vs':List Value) (l':List AV) (g1:upd k a (ks.zip l)=ks'.zip l') (g2:stored (ss.zip vs) x v=ss'.zip vs') (g3:ks'.length=vs'.length) (g4:ss'.length=vs'.length) (g5:VRs X ψ φ h vs' l') (g6:ks'.length ≤ ks.length + 1)
  (g7:(ks'=ks∧ss'=ss)∨(ks'=ks ++ [k]∧ss'=ss ++ [x]))
theorem qH3 {κ K:Type} [DecidableEq κ] [DecidableEq K] {k:κ}{x:K}{a:AV}{v:Value}{h:Heap} (ra:VR X ψ φ h v a) :
  ∀ {l:List AV}{ks:List κ}{ss:List K}{vs:List Value},VRs X ψ φ h vs l→ks.length=l.length→ss.length=l.length→(∀ (i:Nat) (a:κ) (b:K),ks[i]?=some a→ss[i]?=some b→(a=k↔b=x))→ss.Nodup→UpdZip X ψ φ h k x a v ks ss vs l
 | [],ks,ss,vs,r,h1,h2,_,_=>by
  obtain rfl:=List.eq_nil_of_length_eq_zero h1
  obtain rfl:=List.eq_nil_of_length_eq_zero h2
  cases r
  exact ⟨[k],[x],[v],[a],rfl,rfl,rfl,rfl,.cons ra .nil,Nat.le_refl _,.inr ⟨rfl,rfl⟩⟩
 | a0 :: l,[],_,_,_,h1,_,_,_=>nomatch h1
 | a0 :: l,_ :: _,[],_,_,_,h2,_,_=>nomatch h2
 | a0 :: l,k' :: ks,x' :: ss,_,r,h1,h2,h3,h4=>by
  obtain ⟨v0,vs,rfl,r0,rs⟩:=r
  have kk:=h3 0 k' x' rfl rfl
  have h4:=List.nodup_cons.mp h4
  have hl:ss.length=vs.length:=(Nat.succ.inj h2).trans rs.length.symm
  have st:=qH8 (k:=x) (k':=x') (v:=v) (u:=v0) (r:=ss.zip vs) fun p hp z e=>h4.1 (e.trans z.symm ▸ (List.of_mem_zip hp).1)
  by_cases e:k'=k
  ·refine ⟨k' :: ks,x' :: ss,v :: vs,a :: l,?_,?_,congrArg (· + 1) ((Nat.succ.inj h1).trans rs.length.symm),congrArg (· + 1) hl,.cons ra rs,Nat.le_succ _,.inl ⟨rfl,rfl⟩⟩
   ·rw [List.zip_cons_cons,upd,if_pos e,e]; rfl
   ·rw [List.zip_cons_cons,st,if_pos (kk.mp e),kk.mp e]; rfl
  ·obtain ⟨ks',ss',vs',l',g1,g2,g3,g4,g5,g6,g7⟩:=qH3 ra rs (Nat.succ.inj h1) (Nat.succ.inj h2) (fun i a b q q'=>h3 (i + 1) a b q q') h4.2
   refine ⟨k' :: ks',x' :: ss',v0 :: vs',a0 :: l',?_,?_,congrArg (· + 1) g3,congrArg (· + 1) g4,.cons r0 g5,Nat.succ_le_succ g6,?_⟩
   ·rw [List.zip_cons_cons,upd,if_neg e,g1]; rfl
   ·rw [List.zip_cons_cons,st,if_neg fun z=>e (kk.mpr z),g2]; rfl
   ·rcases g7 with ⟨rfl,rfl⟩ | ⟨rfl,rfl⟩
    ·exact .inl ⟨rfl,rfl⟩
    ·exact .inr ⟨rfl,rfl⟩
theorem qFH {K:Type} [DecidableEq K] {knd:KeyKind prog w K}{h:Heap}{p:Addr}{ss:List K}{vs:List Value} (D:h.DictOf knd p (ss.zip vs)) (hl:ss.length=vs.length):ss.Nodup:=by
 obtain ⟨_,_,_,_,_,_,_,_,n⟩:=D
 rwa [List.map_fst_zip (Nat.le_of_eq hl)] at n
theorem qH0 (G:GW X base) {x y z:Value}{o i u:AV} (S:SR X prog w base ψ φ H s.heap) (rx:VR X ψ φ s.heap x o) (ry:VR X ψ φ s.heap y i) (rz:VR X ψ φ s.heap z u) (e:qBA o i u H=some H') :
  wpAny (model prog w) A (setItem x y z) (fun _ s'=>Post X prog w base [] ψ φ φ H' s s') NoE s:=by
 revert G S rx ry rz e
 revert A ψ φ H H' s x y z o i u
 intros A ψ φ H H' s x y z o i u
 intro G S rx ry rz e
 cases o with
 | ref r =>
  revert rx e; revert r; intros r; intro rx e
  (injection (qA4 e) with o'; rintro ⟨h0,rfl⟩)
  (injection (qA0 h0) with o; rintro ⟨ho,e⟩)
  (injection (rx) with p; try clear rx; rintro ⟨rfl,hp⟩)
  have ob:=S.obj _ _ _ hp ho
  cases o with
  | list l =>
   revert ho e ob; revert l; intros l; intro ho e ob
   (injection (qA0 e) with k; rintro ⟨hk,e⟩)
   obtain ⟨hz,e⟩:=qAA e
   obtain rfl:=Option.some.inj e
   (injection ((ry.isInt hk).2) with t; rintro rfl)
   obtain ⟨vs,n,e1,q,r1⟩:=ob
   have hs:=qAS r1
   refine ki_setAt e1 hz.1 (by omega) (by rw [hs]; exact hz.2) ?_
   exact (qC3 (k:=s.toks) (f:=fun x=>x.setIfInBounds k.toNat z) (l:=l.set k.toNat u) S hp e1 (by rw [List.length_set]; exact q) (by rw [Array.toList_setIfInBounds]; exact r1.set k.toNat rz)).1
  | dictI kvs =>
   revert ho e ob; revert kvs; intros kvs; intro ho e ob
   (injection (qA0 e) with k; rintro ⟨hk,e⟩)
   obtain ⟨hz,e⟩:=qAA e
   obtain rfl:=Option.some.inj e
   (injection ((ry.isInt hk).2) with t; rintro rfl)
   obtain ⟨ks,vs,l,rfl,e1,q,q2,r1⟩:=ob
   obtain ⟨ks',ss',vs',l',g1,g2,g3,g4,g5,g6,g7⟩:=qH3 (k:=k) (x:=k) rz r1 (q.trans r1.length) (q.trans r1.length) (fun i a b h1 h2=>by rw [Option.some.inj (h1.symm.trans h2)]) (qFH e1 q)
   have hks:ks'=ss':=by rcases g7 with ⟨rfl,rfl⟩ | ⟨rfl,rfl⟩ <;> rfl
   rw [List.length_zip,← r1.length,q,Nat.min_self] at hz
   refine wpAny_setItem_pairs (qCI k _) e1 (fun h' hd hs=>?_) (by rw [List.length_zip,qBR]; omega)
   rw [g1]
   exact (qEX (k:=s.toks + 1) (o:=.dictI (ks'.zip l')) S hp hs fun gr=>.dictI (by rw [g2,← hks] at hd; exact hd) g3 (by omega) (g5.grow0 gr)).1
  | dictS kvs =>
   revert ho e ob; revert kvs; intros kvs; intro ho e ob
   (injection (qA0 e) with k; rintro ⟨hk,e⟩)
   obtain ⟨hz,e⟩:=qAA e
   obtain rfl:=Option.some.inj e
   obtain rfl:=qBY hk
   (injection (ry) with xs t; try clear ry; rintro ⟨rfl,hx⟩)
   obtain ⟨ks,ss,vs,l,rfl,e1,q,q2,q3,r1⟩:=ob
   have hkl:ks.length=ss.length:=by have:=congrArg List.length q; rwa [List.length_map,List.length_map] at this
   obtain ⟨ks',ss',vs',l',g1,g2,g3,g4,g5,g6,g7⟩:=qH3 (k:=k) (x:=xs) rz r1 (hkl.trans (q2.trans r1.length)) (q2.trans r1.length) (fun i a b h1 h2=>by
    have h3:X.names[a]?=some b:=by
     have:=congrArg (fun z=>z[i]?) q
     rw [List.getElem?_map,List.getElem?_map,h1,h2] at this
     exact Option.some.inj this
    exact ⟨fun z=>Option.some.inj (h3.symm.trans (z ▸ hx)),fun z=>((List.getElem?_inj (List.getElem?_eq_some_iff.mp hx).1 G.nd).mp (hx.trans (z ▸ h3.symm))).symm⟩) (qFH e1 q2)
   rw [List.length_zip,← r1.length,hkl,q2,Nat.min_self] at hz
   refine wpAny_setItem_pairs (qDW xs _) e1 (fun h' hd hs=>?_) (by rw [List.length_zip,qBR]; omega)
   rw [g1]
   exact (qEX (k:=s.toks + 1) (o:=.dictS (ks'.zip l')) S hp hs fun gr=>.dictS (ss:=ss') (by rw [g2] at hd; exact hd) (by
    rcases g7 with ⟨rfl,rfl⟩ | ⟨rfl,rfl⟩
    ·exact q
    ·rw [List.map_append,List.map_append,q]; exact congrArg (fun y=>_ ++ [y]) hx) g4 (by omega) (g5.grow0 gr)).1
  | ns=>exact qA3 e
 | _=>exact qA3 e
end
end Mine.Internal
end
section
open PySem PySem.W PyProof.Rows
namespace Mine.Internal
section
variable {A:Around}{ψ φ φ₁:List Addr}{H H' H₁:AHeap}{s s₁:Shared}{d:Nat}
structure RoomC (d:Nat) (A:Around):Prop where
 handled:A.handled=none
 depth:A.depth + 2 * d + 1 < recursionLimit
 units:A.units + 8 * d + 196 < cLine
theorem Room.toC {d A} (R:Room d A):RoomC d A:=⟨R.handled,by have:=R.depth; omega,by have:=R.units; omega⟩
theorem qJ6 {args:Args}:(Code.builtin "type.__call__" args).weight=0 + (if (Code.builtin "type.__call__" args).isCreation then 1 else 0):=by kernel_rfl
theorem qKt {args:Args}:(Code.builtin "type.__call__" args).cUnits=1:=by kernel_rfl
theorem qKu {args:Args}:(A.under (.builtin "type.__call__" args)).depth ≤ A.depth + 1∧(A.under (.builtin "type.__call__" args)).units ≤ A.units + 4∧(A.under (.builtin "type.__call__" args)).handled=A.handled :=
 ⟨Nat.add_le_add_left (by rw [qJ6]; split <;> decide) _,Nat.add_le_add_left (by rw [qKt]; decide) _,rfl⟩
theorem Room.under {d A}{args:Args} (R:Room d A):RoomC d (A.under (.builtin "type.__call__" args)):=by
 obtain ⟨h1,h2,h3⟩:=qKu (A:=A) (args:=args)
 exact ⟨h3.trans R.handled,by have:=R.depth; omega,by have:=R.units; omega⟩
noncomputable def SndCF (X:CX) (prog:Program) (w:World) (base:Heap) (d:Nat) (cf:qAQ):Prop :=
 ∀ {A:Around}{f a:Nat}{xs:List Value}{as:List AV}{H H':AHeap}{v:AV}{ψ φ:List Addr}{s:Shared},X.fns[f]?=some a→RoomC d A→SR X prog w base ψ φ H s.heap→VRs X ψ φ s.heap xs as→cf f as H=some (v,H') →
  codeAny (model prog w) A (.call (.ref a) ⟨xs,[]⟩) (fun r s'=>match r with | .ok (.ret x)=>Out X prog w base ψ φ s v H' x s' | _=>False) s
theorem SndCF.call {cf:qAQ} (C:SndCF X prog w base d cf) {f a:Nat}{xs:List Value}{as:List AV}{v:AV} (hf:X.fns[f]?=some a) (R:RoomC d A) (S:SR X prog w base ψ φ H s.heap) (r:VRs X ψ φ s.heap xs as) (e:cf f as H=some (v,H')) :
  wpAny (model prog w) A (call (.ref a) xs) (Out X prog w base ψ φ s v H') NoE s:=by
 refine wpAny_call (codeAny_mono (C hf R S r e) fun r s' q=>?_)
 rcases r with e | (v | _ | _ | _) <;> first | exact q | exact q.elim
theorem qBH {M:Model}{E:Value→Shared→Prop}{f:Value}{env:PySem.Env}{es:List Expr}{Q:Args→Shared→Prop} (h:wpAny M A (spliced (es.map fun e=>(false,eval e env))) (fun vs s'=>Q ⟨vs,[]⟩ s') E s) :
  wpAny M A (evalArgs f true (es.map fun e=>(false,eval e env)) []) Q E s:=by
 unfold evalArgs
 cases es with
 | nil =>
  show wpAny M A (spliced [] >>= _) Q E s
  refine wpAny_bind (wpAny_mono h (fun vs s' h'=>?_) fun _ _ x=>x)
  refine wpAny_holding ?_
  exact wpAny_bind (wpAny_pure (wpAny_bind (wpAny_pure (wpAny_pure h'))))
 | cons e es =>
  show wpAny M A (spliced ((e :: es).map fun e=>(false,eval e env)) >>= _) Q E s
  refine wpAny_bind (wpAny_mono h (fun vs s' h'=>?_) fun _ _ x=>x)
  refine wpAny_holding ?_
  exact wpAny_bind (wpAny_pure (wpAny_bind (wpAny_pure (wpAny_pure h'))))
theorem qBD {env:PySem.Env} (es:List Expr):(es.map fun e=>((false,eval e env):Bool × Sem Value)).any (·.1)=false:=by
 induction es with
 | nil=>rfl
 | cons e r ih=>rw [List.map_cons,List.any_cons,ih]; rfl
theorem qBi {env:PySem.Env}{pos:Pos}{es:List Expr} (h:es.any qAs=false):backTo pos (starEach es env)=es.map fun e=>(false,eval e env):=by
 rw [qCL h,qGx]
theorem qDj (G:GW X base) {env:PySem.Env}{sc:Scope} (O:EnvOk env sc) {x:Str}{p:Pos}{v:Value}{Q:Value→Shared→Prop}{E:Value→Shared→Prop} (S:SR X prog w base ψ φ H s.heap) (hk:qAE sc x=some .globalImplicit)
  (e:nsIn X.K mainGlobals x=some (some v)) (hd:(x == ("__debug__":Str))=false) (h:Q v s):wpAny (model prog w) A (eval (.Name x p) env) Q E s:=by
 obtain ⟨mg,hm⟩:=G.g
 have hm':=hm.keeps (h':=s.heap) (fun b o e=>S.keep b o e)
 refine PySem.Calls.Name_function_global O.kind (O.glob x hk) (PySem.Calls.loadGlobal_global (by rw [O.globals]; exact hm') (mg_of (KS G S) hm' e) h) hd
theorem qLh:bootBuiltins "__name__" = none∨True:=.inr trivial
theorem qD5 (G:GW X base) {env:PySem.Env}{sc:Scope} (O:EnvOk env sc) {x:Str}{p:Pos}{v:Value}{Q:Value→Shared→Prop}{E:Value→Shared→Prop} (S:SR X prog w base ψ φ H s.heap) (hk:qAE sc x=some .globalImplicit)
  (e:nsIn X.K mainGlobals x=some none) (hv:bootBuiltins x=some v) (hn:x ≠ ("__name__":Str)) (hd:(x == ("__debug__":Str))=false) (h:Q v s):wpAny (model prog w) A (eval (.Name x p) env) Q E s:=by
 obtain ⟨mg,hm⟩:=G.g
 obtain ⟨mb,hb,hb2⟩:=G.b
 have hm':=hm.keeps (h':=s.heap) (fun b o e=>S.keep b o e)
 have hb':=hb.keeps (h':=s.heap) (fun b o e=>S.keep b o e)
 refine PySem.Calls.Name_function_global O.kind (O.glob x hk) (PySem.Calls.loadGlobal_builtin (by rw [O.globals]; exact hm') (mg_none_of (KS G S) hm' e) (by rw [O.builtins]; exact hb') ((hb2 x hn).trans hv) h) hd
theorem qGs (G:GW X base) {cf:qAQ} (C:SndCF X prog w base d cf) (R:Room d A) {ev:EvFn}{env:PySem.Env}{sc:Scope}{ρ:Rho} (O:EnvOk env sc) {x:Str}{p pos:Pos}{es:List Expr}{ces:List CE}{f a:Nat}{as:List AV}{v:AV}
  (hk:qAE sc x=some .globalImplicit) (e:nsIn X.K mainGlobals x=some (some (.ref a))) (hd:(x == ("__debug__":Str))=false) (hkeep:keepIn X.K (.ref a)=true) (hf:X.fns[f]?=some a) (hs:es.any qAs=false)
  (hp:listM₂ (fun e ce=>SndE X prog w base d ev e ce sc) es ces) (F:FR X ψ φ s.heap env sc ρ) (S:SR X prog w base ψ φ H s.heap) (h1:evEs ev ces ρ H=some (as,H₁)) (h2:cf f as H₁=some (v,H')) :
  wpAny (model prog w) A (eval (.Call (.Name x p) es [] pos) env) (Out X prog w base ψ φ s v H') NoE s:=by
 refine Call_Name (qBi hs) (qDj G O S hk e hd ?_)
 refine callWith_of (P:=fun h=>X.K.In h) (by rw [qBD]; rfl) (keeps_K hkeep) (qBH (qA1 (qAw R O hp F S h1) fun xs s1 o=>?_))
 obtain ⟨φ1,p1,r1⟩:=o
 exact ⟨KS G p1.sr,wp_step p1 (C.call hf R.toC p1.sr r1 h2)⟩
theorem qGt (G:GW X base) (R:Room d A) {ev:EvFn}{env:PySem.Env}{sc:Scope}{ρ:Rho} (O:EnvOk env sc) {x:Str}{p pos:Pos}{es:List Expr}{ces:List CE}{b:BI}{as:List AV}{v:AV}
  (hk:qAE sc x=some .globalImplicit) (e:nsIn X.K mainGlobals x=some none) (hd:(x == ("__debug__":Str))=false) (hb:biTab.lookup x=some b) (hs:es.any qAs=false)
  (hp:listM₂ (fun e ce=>SndE X prog w base d ev e ce sc) es ces) (F:FR X ψ φ s.heap env sc ρ) (S:SR X prog w base ψ φ H s.heap) (h1:evEs ev ces ρ H=some (as,H₁))
  (h2:∀ {φ1:List Addr}{s1:Shared}{xs:List Value},SR X prog w base ψ φ1 H₁ s1.heap→VRs X ψ φ1 s1.heap xs as→wpAny (model prog w) A (call (biVal b) xs) (Out X prog w base ψ φ1 s1 v H') NoE s1) :
  wpAny (model prog w) A (eval (.Call (.Name x p) es [] pos) env) (Out X prog w base ψ φ s v H') NoE s:=by
 have hx:x ≠ ("__name__":Str):=by
  rintro rfl
  have:biTab.lookup ("__name__":Str)=none:=by decide +kernel
  rw [this] at hb; cases hb
 refine Call_Name (qBi hs) (qD5 G O S hk e (qKd hb) hx hd ?_)
 have key:∀ {g:Value},wpAny (model prog w) A (evalArgs g true (es.map fun e=>(false,eval e env)) []) (fun a s₁=>wpAny (model prog w) A (call (biVal b) ([] ++ a.pos) a.kw) (Out X prog w base ψ φ s v H') NoE s₁) NoE s:=by
  intro g
  refine qBH (qA1 (qAw R O hp F S h1) fun xs s1 o=>?_)
  obtain ⟨φ1,p1,r1⟩:=o
  exact wp_step p1 (h2 p1.sr r1)
 cases b <;> first | exact PySem.Calls.callWith_builtin (qBD es) key | exact PyProof.Rows.callWith_type (qBD es) key | exact PySem.callWith_type (qBD es) key
end
end Mine.Internal
end
section
open PySem PySem.W PyProof.Rows
namespace Mine.Internal
section
variable {A:Around}{ψ φ φ₁:List Addr}{H H' H₁ H₂:AHeap}{s s₁:Shared}{d:Nat}
theorem qFq {M:Model}{E:Value→Shared→Prop}{f:Value}{Q:Args→Shared→Prop} (h:Q ⟨[],[]⟩ s):wpAny M A (evalArgs f true [] []) Q E s:=evalArgs_nil3 h
theorem qJh (G:GW X base) (V:PV X P) {cf:qAQ} (C:SndCF X prog w base d cf) (R:Room d A) {env:PySem.Env}{sc:Scope} (O:EnvOk env sc) {x:Str}{p pos:Pos}{c f Ca:Nat}
  (hk:qAE sc x=some .globalImplicit) (e:nsIn X.K mainGlobals x=some (some (.ref Ca))) (hd:(x == ("__debug__":Str))=false) (hCa:X.clss[c]?=some Ca) (S:SR X prog w base ψ φ H s.heap)
  (hm:mtOf P c 6=some f) (h2:cf f [.inst c H.length] (H ++ [.ns []])=some (.none,H')) :
  wpAny (model prog w) A (eval (.Call (.Name x p) [] [] pos) env) (Out X prog w base ψ φ s (.inst c H.length) H') NoE s:=by
 revert G V C R O hk e hd hCa S hm h2
 revert A ψ φ H H' s d cf env sc x p pos c f Ca
 intros A ψ φ H H' s d cf env sc x p pos c f Ca
 intro G V C R O hk e hd hCa S hm h2
 (injection (V.new c f hm) with C1; rintro ⟨hC1,hmk,hkeep⟩)
 obtain rfl:=Option.some.inj (hCa.symm.trans hC1)
 (injection (V.mt c 6 f hm) with C2 a nm; rintro ⟨hC2,hfa,hnm,_,g2,g3,g4⟩)
 obtain rfl:=Option.some.inj (hCa.symm.trans hC2)
 obtain rfl:=Option.some.inj (V.init.symm.trans hnm)
 refine Call_Name (trees:=[]) rfl (qDj G O S hk e hd ?_)
 refine callWith_of (P:=fun h=>X.K.In h) rfl (keeps_K hkeep) (qFq ⟨KS G S,wpAny_call ?_⟩)
 obtain ⟨hh,g,dr,t,os⟩:=s
 revert S; revert hh g dr t os; intros hh g dr t os; intro S
 refine make_core (makes_of (KS G S) hmk) (looks_findIn (KS G S) g2) (fun self=>bind_fn (KS G S) self g3) (.inl rfl) ?_
 have k:∀ b o,hh.get? b=some o→((hh.push emptyDict).push (instObj Ca hh.objs.size)).get? b=some o:=fun b o e=>Heap.get?_push_of_some _ (Heap.get?_push_of_some _ e)
 have hsz:(hh.push emptyDict).objs.size=hh.objs.size + 1:=Heap.size_push ..
 have hdx:((hh.push emptyDict).push (instObj Ca hh.objs.size)).get? hh.objs.size=some emptyDict:=Heap.get?_push_of_some _ (Heap.get?_push_size _ rfl)
 have hx:((hh.push emptyDict).push (instObj Ca hh.objs.size)).get? (hh.objs.size + 1)=some (instObj Ca hh.objs.size):=by rw [← hsz]; exact Heap.get?_push_size _ rfl
 have f0:=S.fresh_at G (h₀:=hh) fun b o e=>e
 obtain ⟨S1,g1⟩:=S.tracked (h:=(hh.push emptyDict).push (instObj Ca hh.objs.size)) (a:=hh.objs.size) (o:=.ns []) f0.2.1 f0.2.2 (qAc fun _ _ e=>e) k (.ns (es:=[]) (n:=0) hdx (Nat.le_refl _) rfl fun k x _=>rfl)
 have f1:=S.fresh_at G (h₀:=hh.push emptyDict) (qAo _ _)
 have hxp:=S.out (h₀:=hh.push emptyDict) (qAo _ _)
 rw [hsz] at f1 hxp
 have rI:VR X ψ (φ ++ [hh.objs.size]) ((hh.push emptyDict).push (instObj Ca hh.objs.size)) (.ref (hh.objs.size + 1)) (.inst c H.length):=by
  refine .inst hx (fun m=>?_) hxp hCa (by rw [← S.len]; simp)
  rcases List.mem_append.mp m with m | m
  ·exact f1.1 m
  ·exact absurd (List.mem_singleton.mp m) (Nat.succ_ne_self _)
 refine codeAny_mono (C hfa R.under S1 (.cons rI .nil) h2) ?_
 intros r s'; intro q
 rcases r with e | (v | _ | _ | _) <;> first | exact q.elim | skip
 obtain ⟨φ2,p2,r2⟩:=q
 refine ⟨r2,φ2,?_,rI.grow0 p2.grow⟩
 have p1:Post X prog w base [] ψ φ (φ ++ [hh.objs.size]) (H ++ [.ns []]) (⟨hh,g,dr,t,os⟩:Shared) (⟨(hh.push emptyDict).push (instObj Ca hh.objs.size),g,dr,t,os⟩:Shared):=⟨rfl,g1,S1⟩
 exact p1.trans p2
theorem qG3 {o:Expr}{name:Str}{env:PySem.Env}{whole:Sem Value} (h:qBN o=true):attributeBase o name env whole=whole:=by
 cases o with
 | Call f as ks p =>
  cases f with
  | Name x q =>
   cases as with
   | nil =>
    cases ks with
    | nil=>exact nomatch h
    | cons=>rfl
   | cons=>rfl
  | _=>rfl
 | _=>rfl
theorem qCR {pos:Pos}{o:Expr}{name:Str}{apos:Pos}{env:PySem.Env}{ov:Value}{trees:List (Bool × Sem Value)}{n:Nat}{Q:Value→Shared→Prop}{E:Value→Shared→Prop}
  (hform:methodCallForm n trees []=true) (hline:(apos.endLine == pos.line)=true) (h:wpAny (model prog w) A (getMethod ov name (do return (← importBound o env).getD true)) (fun r s₁=>wpAny (model prog w) A (callWith pos r.1 r.2 trees []) Q E s₁) E s) :
  wpAny (model prog w) A (methodCall o name apos pos env ov n trees []) Q E s:=by
 have hpos:methodCallPos true o env apos pos=pure pos:=by unfold methodCallPos; simp [hline]
 unfold methodCall
 rw [hform]
 refine wpAny_bind (wpAny_holding ?_)
 refine wpAny_mono h (fun r s₁ h₁=>?_) fun _ _ x=>x
 exact wpAny_bind (wpAny_of_eq hpos h₁)
theorem qFE {env:PySem.Env} (es:List Expr) (h:es.length ≤ 20):methodCallForm (es.length + ([]:List Keyword).length) (es.map fun e=>((false,eval e env):Bool × Sem Value)) []=true:=by
 unfold methodCallForm
 simp
 omega
theorem qIv (G:GW X base) (V:PV X P) {cf:qAQ} (C:SndCF X prog w base d cf) (R:Room d A) {ev:EvFn}{env:PySem.Env}{sc:Scope}{ρ:Rho} (O:EnvOk env sc) {o:Expr}{m:Str}{apos pos:Pos}{es:List Expr}{ces:List CE}{co:CE}
  {mi c i f:Nat}{as:List AV}{v:AV} (hbase:qBN o=true) (hs:es.any qAs=false) (hlen:es.length ≤ 20) (hline:(apos.endLine == pos.line)=true) (hn:nid X.names m=some mi)
  (ho:SndE X prog w base d ev o co sc) (hp:listM₂ (fun e ce=>SndE X prog w base d ev e ce sc) es ces) (F:FR X ψ φ s.heap env sc ρ) (S:SR X prog w base ψ φ H s.heap)
  (h0:ev co ρ H=some (.inst c i,H₁)) (hm:mtOf P c mi=some f) (hna:qAj i mi H₁=true) (h1:evEs ev ces ρ H₁=some (as,H₂)) (h2:cf f (.inst c i :: as) H₂=some (v,H')) :
  wpAny (model prog w) A (eval (.Call (.Attribute o m apos) es [] pos) env) (Out X prog w base ψ φ s v H') NoE s:=by
 rw [arm_eval_Call,qG3 hbase,qBi hs]
 refine wpAny_bind (qA1 (ho R O F S h0) fun ov s1 q=>wpAny_bind (wpAny_standAt ?_))
 obtain ⟨φ1,p1,r1⟩:=q
 refine qCR (qFE es hlen) hline (qGP G V p1.sr r1 (qBm hn) hm hna fun a hfa hkeep=>?_)
 refine callWith_of (P:=fun h=>X.K.In h) (by rw [qBD]; rfl) (keeps_K hkeep) (qBH (qA1 (qAw R O hp (FRs.post F S p1) p1.sr h1) fun xs s2 q=>?_))
 obtain ⟨φ2,p2,r2⟩:=q
 refine ⟨KS G p2.sr,wp_step (p1.trans p2) ?_⟩
 exact C.call hfa R.toC p2.sr (.cons (r1.grow0 p2.grow) r2) h2
theorem lt4 {m:Nat} (h:m < 4):m=0∨m=1∨m=2∨m=3 :=
 (Nat.lt_succ_iff_lt_or_eq.mp h).elim (fun h=>(Nat.lt_succ_iff_lt_or_eq.mp h).elim (fun h=>(Nat.lt_succ_iff_lt_or_eq.mp h).elim (fun h=>.inl (Nat.lt_one_iff.mp h)) fun e=>.inr (.inl e)) fun e=>.inr (.inr (.inl e))) fun e=>.inr (.inr (.inr e))
theorem qKY (G:GW X base) (V:PV X P) (R:Room d A) {ev:EvFn}{env:PySem.Env}{sc:Scope}{ρ:Rho} (O:EnvOk env sc) {o:Expr}{m:Str}{apos pos:Pos}{es:List Expr}{ces:List CE}{co:CE}
  {mi i:Nat}{as:List AV}{v:AV} (hbase:qBN o=true) (hs:es.any qAs=false) (hlen:es.length ≤ 20) (hline:(apos.endLine == pos.line)=true) (hn:nid X.names m=some mi)
  (ho:SndE X prog w base d ev o co sc) (hp:listM₂ (fun e ce=>SndE X prog w base d ev e ce sc) es ces) (F:FR X ψ φ s.heap env sc ρ) (S:SR X prog w base ψ φ H s.heap)
  (h0:ev co ρ H=some (.ref i,H₁)) (hok:qDh H₁ i mi=true) (h1:evEs ev ces ρ H₁=some (as,H₂)) (h2:qAr i mi as H₂=some (v,H')) :
  wpAny (model prog w) A (eval (.Call (.Attribute o m apos) es [] pos) env) (Out X prog w base ψ φ s v H') NoE s:=by
 revert G V R O hbase hs hlen hline hn ho hp F S h0 hok h1 h2
 revert A ψ φ H H' H₁ H₂ s d ev env sc ρ o m apos pos es ces co mi i as v
 intros A ψ φ H H' H₁ H₂ s d ev env sc
 intros ρ o m apos pos es ces co mi i as v
 intro G V R O hbase hs hlen hline hn ho hp F S h0 hok h1 h2
 rw [arm_eval_Call,qG3 hbase,qBi hs]
 refine wpAny_bind (qA1 (ho R O F S h0) fun ov s1 q=>wpAny_bind (wpAny_standAt ?_))
 obtain ⟨φ1,p1,r1⟩:=q
 refine qCR (qFE es hlen) hline ?_
 have fin:wpAny (model prog w) A (callWith pos (.builtin (qF4 mi)) [ov] (es.map fun e=>(false,eval e env)) []) (Out X prog w base ψ φ s v H') NoE s1:=by
  refine PySem.Calls.callWith_builtin (qBD es) (qBH (qA1 (qAw R O hp (FRs.post F S p1) p1.sr h1) fun xs s2 q=>?_))
  obtain ⟨φ2,p2,r2⟩:=q
  exact wp_step (p1.trans p2) (qIX p2.sr (r1.grow0 p2.grow) r2 h2)
 have hname:=qBm hn
 obtain ⟨n0,n1,n2,n3,n4,n5⟩:=V.mn
 obtain ⟨a,rfl,hi⟩:=r1
 (injection (qCK hok) with ob; rintro ⟨ho,hok⟩)
 have hob:=p1.sr.obj _ _ _ hi ho
 cases ob with
 | list l =>
  obtain ⟨vs,n,e1,_,_⟩:=hob
  have getL:∀ {nm:Str}{id:String},X.names[mi]?=some nm→Slot "list" nm id→typeOf (.builtin id)=pure (.type "method_descriptor")→id=qF4 mi →
    wpAny (model prog w) A (getMethod (.ref a) m (do return (← importBound o env).getD true)) (fun r s₁=>wpAny (model prog w) A (callWith pos r.1 r.2 (es.map fun e=>(false,eval e env)) []) (Out X prog w base ψ φ s v H') NoE s₁) NoE s1:=by
   intro nm id hm slot ty e
   obtain rfl:=Option.some.inj (hname.symm.trans hm)
   exact getMethod_builtin ⟨_,e1,rfl⟩ PySem.F.plainAttrs_list slot ty (fun b hb=>by cases hb; exact ⟨_,e1,rfl⟩) (e ▸ fin)
  rcases lt4 (of_decide_eq_true hok) with h4 | h4 | h4 | h4
  ·exact getL (h4 ▸ n0) PySem.F.slot_list_append PySem.F.type_list_append (h4 ▸ rfl)
  ·exact getL (h4 ▸ n1) PySem.F.slot_list_pop PySem.F.type_list_pop (h4 ▸ rfl)
  ·exact getL (h4 ▸ n2) PySem.F.slot_list_remove PySem.F.type_list_remove (h4 ▸ rfl)
  ·exact getL (h4 ▸ n3) PySem.F.slot_list_extend PySem.F.type_list_extend (h4 ▸ rfl)
 | dictI l =>
  obtain ⟨ks,vs,l,_,e1,_⟩:=hob
  have getD:∀ {nm:Str}{id:String},X.names[mi]?=some nm→Slot "dict" nm id→typeOf (.builtin id)=pure (.type "method_descriptor")→id=qF4 mi →
    wpAny (model prog w) A (getMethod (.ref a) m (do return (← importBound o env).getD true)) (fun r s₁=>wpAny (model prog w) A (callWith pos r.1 r.2 (es.map fun e=>(false,eval e env)) []) (Out X prog w base ψ φ s v H') NoE s₁) NoE s1:=by
   intro nm id hm slot ty e
   obtain rfl:=Option.some.inj (hname.symm.trans hm)
   exact getMethod_builtin e1.typeIs PySem.F.plainAttrs_dict slot ty e1.mapOf.noDict (e ▸ fin)
  rcases of_decide_eq_true hok with h4 | h4
  ·exact getD (h4 ▸ n4) PySem.F.slot_dict_get PySem.F.type_dict_get (h4 ▸ rfl)
  ·exact getD (h4 ▸ n5) PySem.F.slot_dict_setdefault PySem.F.type_dict_setdefault (h4 ▸ rfl)
 | _=>exact nomatch hok
end
end Mine.Internal
end
section
open PySem PySem.W PyProof.Rows
namespace Mine.Internal
structure StoreOk (fr:List Addr) (h:Heap) (env:PySem.Env) (sc:Scope):Prop where
 loc:env.locals ∈ fr
 ns:∃ m,h.Ns env.locals m
 cel:∀ x,qAE sc x=some .cell→∃ c v,env.cells.lookup x=some c∧c ∈ fr∧h.IsCell c v
 inj:∀ x y c,qAE sc x=some .cell→env.cells.lookup x=some c→env.cells.lookup y=some c→x=y
theorem StoreOk.keep {fr h h' env sc} (T:StoreOk fr h env sc) (k:∀ a ∈ fr,∀ o,h.get? a=some o→h'.get? a=some o):StoreOk fr h' env sc:=by
 revert T k
 revert fr h h' env sc
 intros fr h h' env sc
 intro T k
 refine ⟨T.loc,?_,?_,T.inj⟩
 ·(injection (T.ns) with m; (intro H_; injection H_ with o es ep; clear H_; rintro ⟨e,r⟩)); exact ⟨m,o,es,ep,k _ T.loc _ e,r⟩
 ·intros x; intro hx
  (injection (T.cel x hx) with c v; (rintro ⟨a,b,H_⟩; injection H_ with o; clear H_; rintro ⟨e,r⟩)); exact ⟨c,v,a,b,o,k _ b _ e,r⟩
theorem qNI {h:Heap}{a:Addr}{m m':Str→Option Value} (x:h.Ns a m) (y:h.Ns a m'):∀ z,m z=m' z:=by
 revert x y
 revert h a m m'
 intros h a m m'
 intro x y
 (injection (x) with o es ep; try clear x; rintro ⟨e,d,_,f⟩)
 (injection (y) with o' es' ep'; try clear y; rintro ⟨e',d',_,f'⟩)
 rw [e] at e'; cases e'
 rw [d] at d'; cases d'
 exact fun z=>(f z).symm.trans (f' z)
theorem qED {h:Heap}{a:Addr}{m:Str→Option Value}{v:Option Value} (x:h.Ns a m) (y:h.IsCell a v):False:=by
 obtain ⟨o,es,ep,e,d,_,f⟩:=x
 obtain ⟨o',e',d'⟩:=y
 rw [e] at e'; cases e'
 rw [d] at d'; cases d'
section
variable {A:Around}{fr ψ φ φ₁:List Addr}{H H' H₁ H₂:AHeap}{s s₁:Shared}{d:Nat}{env:PySem.Env}{sc:Scope}{ρ ρ':Rho}{ok:Str→Prop}{E:Value→Shared→Prop}
theorem StoreOk.post {φ':List Addr} (T:StoreOk fr s.heap env sc) (S:SR X prog w base ψ φ H s.heap) (hfr:∀ a ∈ fr,a ∈ ψ) (p:Post X prog w base [] ψ φ φ' H' s s₁):StoreOk fr s₁.heap env sc :=
 T.keep fun a ha o e=>p.grow.kept a o e (fun m=>(S.fresh a m).2.2 (hfr a ha)) (fun q=>qA9 q)
structure Stored (X:CX) (prog:Program) (w:World) (base:Heap) (ok:Str→Prop) (fr ψ φ:List Addr) (H:AHeap) (env:PySem.Env) (sc:Scope) (ρ:Rho) (s s':Shared):Prop where
 post:Post X prog w base fr ψ φ φ H s s'
 vars:FRs ok X ψ φ s'.heap env sc ρ
 st:StoreOk fr s'.heap env sc
 kept:∀ b o,b ∉ fr→s.heap.get? b=some o→s'.heap.get? b=some o
theorem qBC (O:EnvOk env sc) (T:StoreOk fr s.heap env sc) (hfr:∀ a ∈ fr,a ∈ ψ) {x:Str}{k:Nat}{y:Value}{v:AV} (hk:qAE sc x=some .local∨qAE sc x=some .cell) (hn:nid X.names x=some k)
  (F:FRs ok X ψ φ s.heap env sc ρ) (S:SR X prog w base ψ φ H s.heap) (ry:VR X ψ φ s.heap y v) :
  wpAny (model prog w) A (storeName env x y) (fun _ s'=>Stored X prog w base (fun z=>ok z∨z=x) fr ψ φ H env sc (upd k v ρ) s s') E s:=by
 revert O T hfr hk hn F S ry
 revert A fr ψ φ H s env sc ρ ok E x k y v
 intros A fr ψ φ H s env sc ρ ok E x k y v
 intro O T hfr hk hn F S ry
 rcases hk with hk | hk
 ·(injection (T.ns) with m; intro hm)
  refine wpAny_storeName_local (O.loc x hk) hm (?_) (by rw [O.kind]; rfl)
  intros h'; intro hn' hs'
  have kp:∀ b o,b ∉ fr→s.heap.get? b=some o→h'.get? b=some o:=fun b o nb e=>(hs'.2 b fun z=>nb (z ▸ T.loc)).trans e
  have g:Grow fr φ φ s.heap h':=⟨List.prefix_refl _,fun _ q=>.inl q,fun b o e _ nb=>kp b o nb e⟩
  have S':SR X prog w base ψ φ H h':=S.privately (fun b o nb e=>kp b o (fun z=>nb (hfr b z)) e) fun a ha=>by
   by_cases q:a=env.locals
   ·subst q; (injection (hn') with o ζ_1 ζ_2; try clear hn'; rintro ⟨e,_⟩); exact ⟨o,e⟩
   ·obtain ⟨o,e⟩:=S.stand a ha; exact ⟨o,(hs'.2 a q).trans e⟩
  refine ⟨⟨rfl,g,S'⟩,?_,?_,kp⟩
  ·(intros z kz u; intro oz hv hz hl)
   rw [qBW] at hl
   by_cases q:kz=k
   ·subst q
    rw [if_pos rfl] at hl; cases hl
    have:z=x:=qFh hz hn
    subst this
    exact ⟨y,.local (O.loc z hk) (hfr _ T.loc) hn' (by simp),ry.grow g hfr⟩
   ·rw [if_neg q] at hl
    have hzx:z ≠ x:=fun e=>by subst e; rw [hn] at hz; cases hz; exact q rfl
    (injection (F z kz u (oz.resolve_right hzx) hv hz hl) with y'; rintro ⟨va,r'⟩)
    refine ⟨y',?_,r'.grow g hfr⟩
    cases va with
    | «local» a b c e=>exact .local a b hn' (by rw [if_neg hzx,qNI hm c z]; exact e)
    | @cell c a b e h4 =>
     revert b e h4; revert c; intros c; intro b e h4
     have hc:c ≠ env.locals:=fun q=>qED hm (q ▸ h4)
     exact .cell a b e (h4.sameBut hs' hc)
  ·refine ⟨T.loc,⟨_,hn'⟩,?_,T.inj⟩
   intros z; intro hz
   (injection (T.cel z hz) with c v0; rintro ⟨a,b,e⟩)
   exact ⟨c,v0,a,b,e.sameBut hs' fun q=>qED hm (q ▸ e)⟩
 ·(injection (T.cel x hk) with c v0; rintro ⟨hc,hcf,hcell⟩)
  (injection (T.ns) with m; intro hm)
  refine wpAny_storeName_cell O.kind (O.cel x hk) hc hcell (?_)
  intros h'; intro hn' hs'
  have kp:∀ b o,b ∉ fr→s.heap.get? b=some o→h'.get? b=some o:=fun b o nb e=>(hs'.2 b fun z=>nb (z ▸ hcf)).trans e
  have g:Grow fr φ φ s.heap h':=⟨List.prefix_refl _,fun _ q=>.inl q,fun b o e _ nb=>kp b o nb e⟩
  have S':SR X prog w base ψ φ H h':=S.privately (fun b o nb e=>kp b o (fun z=>nb (hfr b z)) e) fun a ha=>by
   by_cases q:a=c
   ·subst q; obtain ⟨o,e,_⟩:=hn'; exact ⟨o,e⟩
   ·obtain ⟨o,e⟩:=S.stand a ha; exact ⟨o,(hs'.2 a q).trans e⟩
  refine ⟨⟨rfl,g,S'⟩,?_,?_,kp⟩
  ·(intros z kz u; intro oz hv hz hl)
   rw [qBW] at hl
   by_cases q:kz=k
   ·subst q
    rw [if_pos rfl] at hl; cases hl
    have:z=x:=qFh hz hn
    subst this
    exact ⟨y,.cell (.inl (O.cel z hk)) hc (hfr _ hcf) hn',ry.grow g hfr⟩
   ·rw [if_neg q] at hl
    have hzx:z ≠ x:=fun e=>by subst e; rw [hn] at hz; cases hz; exact q rfl
    (injection (F z kz u (oz.resolve_right hzx) hv hz hl) with y'; rintro ⟨va,r'⟩)
    refine ⟨y',?_,r'.grow g hfr⟩
    cases va with
    | «local» a b c' e=>exact .local a b (c'.sameBut hs' fun q=>qED c' (q ▸ hcell)) e
    | @cell c' a b e h4 =>
     revert b e h4; revert c'; intros c'; intro b e h4
     have hcc:c' ≠ c:=fun q=>hzx (T.inj x z c hk hc (q ▸ b)).symm
     exact .cell a b e (h4.sameBut hs' hcc)
  ·refine ⟨T.loc,⟨m,hm.sameBut hs' fun q=>qED hm (q ▸ hcell)⟩,?_,T.inj⟩
   intros z; intro hz
   (injection (T.cel z hz) with c' v1; rintro ⟨a,b,e⟩)
   by_cases q:c'=c
   ·subst q; exact ⟨c',_,a,b,hn'⟩
   ·exact ⟨c',v1,a,b,e.sameBut hs' q⟩
theorem Stored.trans {ok':Str→Prop}{s₂:Shared} (x:Stored X prog w base ok fr ψ φ H env sc ρ s s₁) (y:Stored X prog w base ok' fr ψ φ H env sc ρ' s₁ s₂) (hfr:∀ a ∈ fr,a ∈ ψ):Stored X prog w base ok' fr ψ φ H env sc ρ' s s₂ :=
 ⟨x.post.transF y.post hfr,y.vars,y.st,fun b o nb e=>y.kept b o nb (x.kept b o nb e)⟩
inductive NameIs (X:CX) (sc:Scope) (t:Expr) (ct:CT):Prop
 | mk (x:Str) (p:Pos) (k:Nat) (z:t=.Name x p) (y:ct=.name k) (hk:qAE sc x=some .local∨qAE sc x=some .cell) (hn:nid X.names x=some k)
theorem qAU {t:Expr}{ct:CT} (h:qB7 X sc t=some ct):NameIs X sc t ct:=by
 cases t with
 | Name x p =>
  obtain ⟨hk,h⟩:=qAA h
  rw [Bool.or_eq_true,beq_iff_eq,beq_iff_eq] at hk
  obtain ⟨k,hn,h⟩:=qA4 h
  exact ⟨x,p,k,rfl,h.symm,hk,hn⟩
 | _=>exact qA3 h
theorem qDq {h:Heap}:∀ {es:List Expr}{cts:List CT}{ys:List Value}{vs:List AV}{ρ ρ':Rho},listM (qB7 X sc) es=some cts→qB2 cts vs ρ=some ρ'→VRs X ψ φ h ys vs →
  (assignEach es env).length=ys.length∧(assignEach es env).findIdx? (·.1)=none
 | [],cts,ys,vs,ρ,ρ',hc,ha,r=>by
  cases hc
  cases vs with
  | nil=>cases r; exact ⟨rfl,rfl⟩
  | cons=>exact qA3 ha
 | e :: es,cts,ys,vs,ρ,ρ',hc,ha,r=>by
  obtain ⟨ct,h1,hc⟩:=qA0 hc
  obtain ⟨cts',h2,rfl⟩:=qA4 hc
  obtain ⟨x,p,k,rfl,rfl,hk,hn⟩:=qAU h1
  cases vs with
  | nil=>exact qA3 ha
  | cons v vs =>
   obtain ⟨y,ys,rfl,ry,rs⟩:=r
   obtain ⟨ρ1,h4,ha⟩:=qA0 (qDB.symm.trans ha)
   obtain ⟨a,b⟩:=qDq h2 ha rs
   refine ⟨congrArg (· + 1) a,?_⟩
   show ((false,assign (.Name x p) env) :: assignEach es env).findIdx? (·.1)=_
   rw [List.findIdx?_cons,b]; rfl
theorem qCT (O:EnvOk env sc) (hfr:∀ a ∈ fr,a ∈ ψ):∀ {es:List Expr}{cts:List CT}{ys:List Value}{vs:List AV}{ρ ρ':Rho}{ok:Str→Prop}{s:Shared},listM (qB7 X sc) es=some cts→qB2 cts vs ρ=some ρ' →
  StoreOk fr s.heap env sc→FRs ok X ψ φ s.heap env sc ρ→SR X prog w base ψ φ H s.heap→VRs X ψ φ s.heap ys vs →
  wpAny (model prog w) A (assignInOrder ((assignEach es env).map (·.2)) ys) (fun _ s'=>Stored X prog w base (fun z=>ok z∨z ∈ es.filterMap qC1) fr ψ φ H env sc ρ' s s') E s
 | [],cts,ys,vs,ρ,ρ',ok,s,hc,ha,T,F,S,r=>by
  cases hc
  cases vs with
  | nil =>
   cases ha
   cases r
   exact wpAny_pure ⟨⟨rfl,(Grow.refl φ s.heap).more (fun _ q=>qA9 q),S⟩,fun z k v o=>F z k v (o.elim id fun q=>qA9 q),T,fun b o _ e=>e⟩
  | cons=>exact qA3 ha
 | e :: es,cts,ys,vs,ρ,ρ',ok,s,hc,ha,T,F,S,r=>by
  obtain ⟨ct,h1,hc⟩:=qA0 hc
  obtain ⟨cts',h2,rfl⟩:=qA4 hc
  obtain ⟨x,p,k,rfl,rfl,hk,hn⟩:=qAU h1
  cases vs with
  | nil=>exact qA3 ha
  | cons v vs =>
   obtain ⟨y,ys,rfl,ry,rs⟩:=r
   obtain ⟨ρ1,h3,ha⟩:=qA0 (qDB.symm.trans ha)
   obtain rfl:=Option.some.inj h3
   show wpAny _ A (do holding ys (assign (.Name x p) env y); assignInOrder ((assignEach es env).map (·.2)) ys) _ _ s
   refine wpAny_bind (wpAny_holding (wpAny_assign_Name (wpAny_mono (qBC (E:=E) O T hfr hk hn F S ry) (fun _ s1 q=>?_) fun _ _ e=>e)))
   refine wpAny_mono (qCT O hfr h2 ha q.st q.vars q.post.sr (rs.grow q.post.grow hfr)) (fun _ s2 q2=>?_) fun _ _ e=>e
   have:=q.trans q2 hfr
   refine ⟨this.post,fun z k v o=>this.vars z k v ?_,this.st,this.kept⟩
   rcases o with o | o
   ·exact .inl (.inl o)
   ·rcases List.mem_cons.mp (show z ∈ x :: es.filterMap qC1 from o) with o | o
    ·exact .inl (.inr o)
    ·exact .inr o
theorem qDC (O:EnvOk env sc) (hfr:∀ a ∈ fr,a ∈ ψ) (hh:A.handled=none) {t:Expr}{ct:CT}{y:Value}{v:AV} (hc:qAl X sc t=some ct) (ha:qC9 ct v ρ=some ρ') (T:StoreOk fr s.heap env sc) (F:FRs ok X ψ φ s.heap env sc ρ)
  (S:SR X prog w base ψ φ H s.heap) (ry:VR X ψ φ s.heap y v) :
  wpAny (model prog w) A (assign t env y) (fun _ s'=>Stored X prog w base (fun z=>ok z∨z ∈ qCn t) fr ψ φ H env sc ρ' s s') E s:=by
 revert O hfr hh hc ha T F S ry
 revert A fr ψ φ H s env sc ρ ρ' ok E t ct y v
 intros A fr ψ φ H s env sc ρ ρ' ok E t ct y v
 intro O hfr hh hc ha T F S ry
 have name:qB7 X sc t=some ct→wpAny (model prog w) A (assign t env y) (fun _ s'=>Stored X prog w base (fun z=>ok z∨z ∈ qCn t) fr ψ φ H env sc ρ' s s') E s:=fun hc=>by
  obtain ⟨x,p,k,rfl,rfl,hk,hn⟩:=qAU hc
  revert hk hn ha hc; revert x p k; intros x p k; intro _ hk hn ha hc
  obtain rfl:=Option.some.inj ha
  refine wpAny_assign_Name (wpAny_mono (qBC (E:=E) O T hfr hk hn F S ry) (?_) fun _ _ e=>e)
  intro _; intros s1; intro q
  exact ⟨q.post,fun z k v o=>q.vars z k v (o.elim .inl fun m=>.inr (List.mem_singleton.mp m)),q.st,q.kept⟩
 cases t with
 | Tuple es kx pos =>
  revert hc name; revert es kx pos; intros es kx pos; intro hc name
  (injection (qA4 hc) with cts; rintro ⟨hl,rfl⟩)
  (injection (qA0 ha) with vs; rintro ⟨hv,ha⟩)
  obtain rfl:=qAt hv
  obtain ⟨a,items,n,rfl,e1,n1,m1,k1,r1⟩:=ry
  revert e1 n1 m1 r1 name; revert a items n; intros a items n; intro e1 n1 m1 r1 name
  have IT:IsTup s.heap a items:=⟨_,e1,rfl,_,rfl⟩
  have pre:=qDq (env:=env) hl ha r1
  refine assign_Tuple_tuple hh IT (by rw [pre.1]; exact Array.length_toList) pre.2 ?_
  intros h'; intro hb
  have kp:∀ b o,s.heap.get? b=some o→h'.get? b=some o:=fun b o e=>hb b o (Nat.ne_of_lt (Heap.lt_size e)) e
  have p1:=Post.grown (s:=s) (tk:=s.toks) S kp
  refine wpAny_mono (qCT (s:={ s with heap:=h' }) O hfr hl ha (T.keep fun a _ o e=>kp a o e) (FRs.post F S p1) p1.sr (r1.grow0 p1.grow)) (?_) fun _ _ e=>e
  intro _; intros s2; intro q
  exact ⟨⟨by rw [q.post.same],(p1.grow.more (fun _ q=>qA9 q)).trans q.post.grow fun a ha m=>.inl m,q.post.sr⟩,q.vars,q.st,fun b o nb e=>q.kept b o nb (kp b o e)⟩
 | _=>exact name hc
end
end Mine.Internal
end
section
open PySem PySem.W PyProof.Rows
namespace Mine.Internal
inductive LSrc (X:CX) (ψ φ:List Addr) (h:Heap) (H0:AHeap) (I:Addr) (k:Nat) (src:Option Nat) (rest:List AV):Prop
 | lst {p:Addr}{n:Nat}{vs:Array Value}{l:List AV} (es:src=none) (er:rest=l.drop k) (it:h.IsListIter I p k) (e:h.get? p=some (seqObj "list" vs n)) (np:p ∉ φ) (nq:p ∉ ψ) (hl:l.length < 1000001) (r:VRs X ψ φ h vs.toList l)
 | trk {p:Addr}{i:Nat}{l:List AV} (es:src=some i) (er:rest=l.drop k) (it:h.IsListIter I p k) (hp:φ[i]?=some p) (hi:H0[i]?=some (.list l))
inductive ItR (X:CX) (ψ φ:List Addr) (h:Heap) (H0:AHeap) (I:Addr) (pv:List Addr) (en:Bool) (src:Option Nat) (rest:List AV):Prop
 | list {k:Nat} (ep:pv=[I]) (ee:en=false) (ls:LSrc X ψ φ h H0 I k src rest)
 | tup {p:Addr}{k n:Nat}{vs:Array Value}{l:List AV} (ep:pv=[I]) (ee:en=false) (es:src=none) (er:rest=l.drop k) (it:h.IsTupleIter I p k) (e:h.get? p=some (seqObj "tuple" vs n)) (np:p ∉ φ) (nq:p ∉ ψ) (hl:l.length < 1000001) (r:VRs X ψ φ h vs.toList l)
 | rng {x left:Int} (ep:pv=[I]) (ee:en=false) (es:src=none) (er:rest=qAF x (x + left)) (it:IsRangeIter h I x left 1)
 | enum {J:Addr}{k:Nat}{old:Value}{rs:List AV} (ep:pv=[I,J]) (ee:en=true) (er:rest=qBx k rs) (it:IsEnum h I J (k:Int) old) (ne:I ≠ J) (ls:LSrc X ψ φ h H0 J k src rs)
theorem qDx {h h':Heap}{I p:Addr}{k:Nat} (x:h.IsListIter I p k) (e:∀ o,h.get? I=some o→h'.get? I=some o):h'.IsListIter I p k:=let ⟨o,a,b⟩:=x; ⟨o,e o a,b⟩
theorem qI1 {h h':Heap}{I p:Addr}{k:Nat} (x:h.IsTupleIter I p k) (e:∀ o,h.get? I=some o→h'.get? I=some o):h'.IsTupleIter I p k:=let ⟨o,a,b⟩:=x; ⟨o,e o a,b⟩
section
variable {A:Around}{fr pv ψ φ φ' φ₁:List Addr}{H H' H₁ H₂ H0:AHeap}{s s₁:Shared}{d:Nat}{I:Addr}{src:Option Nat}{rest:List AV}{en:Bool}{v:AV}{E:Value→Shared→Prop}
theorem LSrc.grow {h h':Heap}{k:Nat} (x:LSrc X ψ φ h H0 I k src rest) (g:Grow fr φ φ' h h') (hf:∀ a ∈ fr,a ∈ ψ) (e:∀ o,h.get? I=some o→h'.get? I=some o):LSrc X ψ φ' h' H0 I k src rest:=by
 cases x with
 | lst es er a b c d l r=>exact .lst es er (qDx a e) (g.kept _ _ b c fun q=>d (hf _ q)) (g.out b c) d l (r.grow g hf)
 | trk es er a b c=>exact .trk es er (qDx a e) (qBw g.pre b) c
theorem ItR.grow {h h':Heap} (x:ItR X ψ φ h H0 I pv en src rest) (g:Grow fr φ φ' h h') (hf:∀ a ∈ fr,a ∈ ψ) (e:∀ a ∈ pv,∀ o,h.get? a=some o→h'.get? a=some o):ItR X ψ φ' h' H0 I pv en src rest:=by
 have eI:pv.head?=some I→∀ o,h.get? I=some o→h'.get? I=some o:=fun q=>e I (List.mem_of_mem_head? q)
 cases x with
 | list ep ee a=>exact .list ep ee (a.grow g hf (eI (ep ▸ rfl)))
 | tup ep ee es er a b c d l r=>exact .tup ep ee es er (qI1 a (eI (ep ▸ rfl))) (g.kept _ _ b c fun q=>d (hf _ q)) (g.out b c) d l (r.grow g hf)
 | rng ep ee es er a=>exact .rng ep ee es er (eI (ep ▸ rfl) _ a)
 | @enum J _ _ _ ep ee er a b c=>exact .enum ep ee er (eI (ep ▸ rfl) _ a) b (c.grow g hf (e J (ep ▸ .tail _ (.head _))))
inductive ListNow (X:CX) (ψ φ:List Addr) (h:Heap) (H0:AHeap) (I:Addr) (k:Nat) (src:Option Nat) (rest:List AV):Prop
 | mk (p:Addr) (n:Nat) (vs:Array Value) (l:List AV) (it:h.IsListIter I p k) (e:h.get? p=some (seqObj "list" vs n)) (r:VRs X ψ φ h vs.toList l) (er:rest=l.drop k)
  (go:∀ {φ':List Addr}{h':Heap}{fr:List Addr},Grow fr φ φ' h h'→(∀ a ∈ fr,a ∈ ψ)→h'.IsListIter I p (k + 1)→LSrc X ψ φ' h' H0 I (k + 1) src (l.drop (k + 1)))
theorem LSrc.now (S:SR X prog w base ψ φ H s.heap) {k:Nat} (x:LSrc X ψ φ s.heap H0 I k src rest) (hst:qB9 H0 H src=true):ListNow X ψ φ s.heap H0 I k src rest:=by
 cases x with
 | lst es er a b c d l r=>exact ⟨_,_,_,_,a,b,r,er,fun g hf it=>.lst es rfl it (g.kept _ _ b c fun q=>d (hf _ q)) (g.out b c) d l (r.grow g hf)⟩
 | @trk p i l es er a b c =>
  have e:=(qEz _ _).mp (show qB9 H0 H (some i)=true from es ▸ hst)
  obtain ⟨vs,n,e1,q,r⟩:=S.obj _ _ (.list l) b (e.trans c)
  exact ⟨_,_,_,_,a,e1,r,er,fun g hf it=>.trk es rfl it (qBw g.pre b) c⟩
theorem qEU {l:List AV}{k:Nat}{v:AV}{rest:List AV} (h:v :: rest=l.drop k):l[k]?=some v∧rest=l.drop (k + 1):=by
 have hk:k < l.length:=by
  apply Decidable.byContradiction
  intro q
  rw [List.drop_eq_nil_of_le (Nat.le_of_not_lt q)] at h; cases h
 rw [List.drop_eq_getElem_cons hk] at h
 obtain ⟨a,b⟩:=List.cons.inj h
 exact ⟨by rw [List.getElem?_eq_getElem hk,a],b⟩
theorem qFv {l:List AV}{k:Nat} (h:[]=l.drop k):l.length ≤ k:=List.drop_eq_nil_iff.mp h.symm
theorem qCc {t:Expr}{x:Value}{o:Obj}{n:String}{Q:Unit→Shared→Prop} (ho:s.heap.get? I=some o) (hc:o.cls=.type n)
  (hn:(["enumerate","zip","dict_itemiterator","dict_reverseitemiterator","odict_iterator","itertools.zip_longest","itertools.pairwise"].contains n)=false) (hQ:Q () s) :
  wpAny (model prog w) A (letOwnedTupleGo t (.ref I) x) Q E s:=by
 revert ho hc hn hQ
 revert A s I E t x o n Q
 intros A s I E t x o n Q
 intro ho hc hn hQ
 have key:wpAny (model prog w) A (letOwnedTupleGo (.Tuple [] 0 default) (.ref I) x) Q E s:=by
  cases x with
  | ref a =>
   revert a; intros a
   refine wpAny_bind (wpAny_load ho ?_)
   obtain ⟨oc,od,oda,osl⟩:=o
   obtain rfl:oc=.type n:=hc
   cases oda with
   | fields vs =>
    show wpAny _ _ (if (_ && _)=true then _ else _) _ _ s
    rw [hn,Bool.false_and,if_neg Bool.false_ne_true]
    exact wpAny_pure hQ
   | _=>exact wpAny_pure hQ
  | _=>exact wpAny_pure hQ
 cases t with
 | Tuple=>exact key
 | List=>exact key
 | _=>exact wpAny_pure hQ
theorem Post.priv {h':Heap}{k:Nat} (S:SR X prog w base ψ φ H s.heap) (hpv:∀ a ∈ pv,a ∈ ψ) (kp:∀ b o,b ∉ pv→s.heap.get? b=some o→h'.get? b=some o) (st:∀ a ∈ pv,∃ o,h'.get? a=some o) :
  Post X prog w base pv ψ φ φ H s { s with heap:=h',toks:=k }:=by
 refine ⟨rfl,⟨List.prefix_refl _,fun _ q=>.inl q,fun b o e _ nb=>kp b o nb e⟩,S.privately (fun b o nb e=>kp b o (fun z=>nb (hpv b z)) e) fun a ha=>?_⟩
 by_cases q:a ∈ pv
 ·exact st a q
 ·obtain ⟨o,e⟩:=S.stand a ha; exact ⟨o,kp a o q e⟩
theorem qIR {x left:Int}{v:AV}{rest:List AV} (h:v :: rest=qAF x (x + left)):0 < left∧v=.int x∧rest=qAF (x + 1) (x + 1 + (left - 1)):=by
 revert h
 revert x left v rest
 intros x left v rest
 intro h
 unfold qAF at h ⊢
 rw [Int.add_comm x left,Int.add_sub_cancel] at h
 rw [Int.add_comm (x + 1),Int.add_sub_cancel]
 cases hl:left.toNat with
 | zero=>rw [hl] at h; exact nomatch h
 | succ n =>
  revert hl; revert n; intros n; intro hl
  rw [hl,List.range_succ_eq_map,List.map_cons] at h
  have h:=List.cons.inj h
  refine ⟨(qEs hl).1,h.1.trans (congrArg AV.int (Int.add_zero x)),?_⟩
  rw [h.2,(qEs hl).2,List.map_map]
  refine List.map_congr_left fun i _=>congrArg AV.int ?_
  show x + ((i + 1:Nat):Int)=_
  omega
theorem qJR {x left:Int} (h:[]=qAF x (x + left)):left ≤ 0:=by
 unfold qAF at h
 rw [Int.add_comm x left,Int.add_sub_cancel] at h
 have:=congrArg List.length h
 rw [List.length_map,List.length_range] at this
 exact Int.toNat_eq_zero.mp this.symm
noncomputable def qNh (X:CX) (prog:Program) (w:World) (base:Heap) (ψ φ:List Addr) (H H0:AHeap) (I:Addr) (pv:List Addr) (en:Bool) (src:Option Nat) (v:AV) (rest:List AV) (s:Shared) (y:Value) (s₂:Shared):Prop :=
 VR X ψ φ s₂.heap y v∧Post X prog w base pv ψ φ φ H s s₂∧ItR X ψ φ s₂.heap H0 I pv en src rest
theorem priv1 {h':Heap}{k:Nat}{o:Obj} (S:SR X prog w base ψ φ H s.heap) (hI:I ∈ ψ) (hs:∀ b,b ≠ I→h'.get? b=s.heap.get? b) (e:h'.get? I=some o):Post X prog w base [I] ψ φ φ H s { s with heap:=h',toks:=k } :=
 Post.priv (k:=k) S (fun a ha=>List.mem_singleton.mp ha ▸ hI) (fun b o nb e=>(hs b fun z=>nb (List.mem_singleton.mpr z)).trans e) fun a ha=>⟨o,List.mem_singleton.mp ha ▸ e⟩
theorem in1 {a:Addr} (hI:I ∈ ψ) (h:a ∈ [I]):a ∈ ψ:=List.mem_singleton.mp h ▸ hI
theorem qK0 (S:SR X prog w base ψ φ H s.heap) (hpv:∀ a ∈ pv,a ∈ ψ) (x:ItR X ψ φ s.heap H0 I pv en src (v :: rest)) (hst:qB9 H0 H src=true) {t:Expr} (ht:en=true→∃ es k p,t=.Tuple es k p) :
  wpAny (model prog w) A (pyNext (.ref I)) (fun r s₁=>∃ y,r=some y∧wpAny (model prog w) A (letOwnedTupleGo t (.ref I) y) (fun _ s₂=>qNh X prog w base ψ φ H H0 I pv en src v rest s y s₂) E s₁) E s:=by
 revert S hpv x hst ht
 revert A pv ψ φ H H0 s I src rest en v E t
 intros A pv ψ φ H H0 s I src rest en v E t
 intro S hpv x hst ht
 cases x with
 | list ep ee a =>
  subst ep
  have hI:=hpv I (.head _)
  obtain ⟨p,n,vs,l,h1,h2,h5,h6,h7⟩:=a.now S hst
  obtain ⟨hv,rfl⟩:=qEU h6
  obtain ⟨y,hy,ry⟩:=h5.get hv
  rw [Array.getElem?_toList] at hy
  refine wpAny_pyNext_list_item h1 ⟨_,h2,rfl,_,rfl⟩ hy fun h' it hs=>⟨y,rfl,?_⟩
  obtain ⟨oi,ei,ci,di⟩:=id it
  have p1:=priv1 (k:=s.toks) S hI hs.2 ei
  exact qCc (s:={ s with heap:=h' }) ei ci (by decide +kernel) ⟨ry.grow p1.grow hpv,p1,.list rfl ee (h7 p1.grow hpv it)⟩
 | @tup p k n vs l ep ee es er a b c d q r =>
  revert er a b c d q r; revert p k n vs l; intros p k n vs l; intro er a b c d q r
  subst ep
  have hI:=hpv I (.head _)
  obtain ⟨hv,rfl⟩:=qEU er
  (injection (r.get hv) with y; rintro ⟨hy,ry⟩)
  rw [Array.getElem?_toList] at hy
  refine wpAny_pyNext_tuple_item a ⟨_,b,rfl,_,rfl⟩ hy fun h' it hs=>⟨y,rfl,?_⟩
  obtain ⟨oi,ei,ci,di⟩:=id it
  have p1:=priv1 (k:=s.toks) S hI hs.2 ei
  exact qCc (s:={ s with heap:=h' }) ei ci (by decide +kernel) ⟨ry.grow p1.grow hpv,p1,.tup rfl ee es rfl it (p1.grow.kept _ _ b c fun z=>d (hpv _ z)) c d q (r.grow p1.grow hpv)⟩
 | @rng x left ep ee es er a =>
  revert er a; revert x left; intros x left; intro er a
  subst ep
  have hI:=hpv I (.head _)
  obtain ⟨h0,rfl,rfl⟩:=qIR er
  refine wpAny_pyNext_range_item a h0 fun h' it hs=>⟨_,rfl,?_⟩
  exact qCc (s:={ s with heap:=h',toks:=s.toks + 1 }) it rfl (by decide +kernel) ⟨.int _ _,priv1 (k:=s.toks + 1) S hI hs.2 it,.rng rfl ee es rfl it⟩
 | @enum J k old rs ep ee er a b c =>
  revert ep er a b c; revert J k old rs; intros J k old rs; intro ep er a b c
  subst ep
  cases rs with
  | nil=>exact nomatch er
  | cons v0 rs =>
  revert er c; revert v0 rs; intros v0 rs; intro er c
  obtain ⟨rfl,rfl⟩:=List.cons.inj er
  obtain ⟨p,n,vs,l,h1,h2,h5,h6,h7⟩:=c.now S hst
  revert h1 h2 h5 h6 h7; revert p n vs l; intros p n vs l; intro h1 h2 h5 h6 h7
  obtain ⟨hv,rfl⟩:=qEU h6
  (injection (h5.get hv) with y; rintro ⟨hy,ry⟩)
  rw [Array.getElem?_toList] at hy
  (injection (ht ee) with es kx pp; rintro rfl)
  refine wpAny_pyNext_enum_item a h1 ⟨_,h2,rfl,_,rfl⟩ hy b fun h' he hl hT hsz kp0=>⟨_,rfl,?_⟩
  refine wpAny_letOwnedTupleGo_enum he fun h'' he2 hs2=>?_
  have neI:s.heap.objs.size ≠ I:=Nat.ne_of_gt (Heap.lt_size a)
  have hlJ:h''.IsListIter J p (k + 1):=hl.extBut hs2.extBut (Ne.symm b)
  have p1:Post X prog w base [I,J] ψ φ φ H s { s with heap:=h'',toks:=s.toks + 1 }:=Post.priv (k:=s.toks + 1) S hpv (fun b o nb e=>hs2.extBut b o (fun z=>nb (z ▸ .head _)) (kp0 b o (fun z=>nb (z ▸ .head _)) (fun z=>nb (z ▸ .tail _ (.head _))) e)) fun z hz=>by
   rcases List.mem_cons.mp hz with rfl | hz
   ·exact ⟨_,he2⟩
   ·rw [List.mem_singleton.mp hz]; obtain ⟨oj,ej,_⟩:=hlJ; exact ⟨oj,ej⟩
  have hT2:h''.get? s.heap.objs.size=some (seqObj "tuple" #[.int (k:Int) s.toks,y] 0):=hs2.extBut _ _ neI hT
  refine ⟨.tup hT2 (fun m=>?_) (fun m=>?_) (show 2 < 1000001 by decide) (.cons (.int _ _) (.cons (ry.grow p1.grow hpv) .nil)),p1,.enum (k:=k + 1) rfl ee rfl he2 b (h7 p1.grow hpv hlJ)⟩
  ·(injection (S.there m) with o; intro e); exact absurd (Heap.lt_size e) (Nat.lt_irrefl _)
  ·(injection (S.stand _ m) with o; intro e); exact absurd (Heap.lt_size e) (Nat.lt_irrefl _)
theorem qM6 (hh:A.handled=none) (S:SR X prog w base ψ φ H s.heap) (x:ItR X ψ φ s.heap H0 I pv en src []) (hst:qB9 H0 H src=true) :
  wpAny (model prog w) A (pyNext (.ref I)) (fun r s'=>r=none∧s'={ s with heap:=s'.heap }∧∀ b o,b ∉ pv→s.heap.get? b=some o→s'.heap.get? b=some o) E s:=by
 revert hh S x hst
 revert A pv ψ φ H H0 s I src en E
 intros A pv ψ φ H H0 s I src en E
 intro hh S x hst
 have out:∀ {h':Heap}{J:Addr},J ∈ pv→(∀ b o,b ≠ J→s.heap.get? b=some o→h'.get? b=some o)→∀ b o,b ∉ pv→s.heap.get? b=some o→h'.get? b=some o:=fun q hb b o nb e=>hb b o (fun z=>nb (z ▸ q)) e
 cases x with
 | list ep ee a =>
  obtain ⟨p,n,vs,l,h1,h2,h5,h6,h7⟩:=a.now S hst
  exact wpAny_pyNext_list_end hh h1 ⟨_,h2,rfl,_,rfl⟩ (by rw [Array.getElem?_eq_none_iff,qAS h5]; exact qFv h6) fun h' hb=>⟨rfl,rfl,out (J:=I) (ep ▸ .head _) hb⟩
 | tup ep ee es er a b c d q r =>
  exact wpAny_pyNext_tuple_end hh a ⟨_,b,rfl,_,rfl⟩ (by rw [Array.getElem?_eq_none_iff,qAS r]; exact qFv er) fun h' hb=>⟨rfl,rfl,out (J:=I) (ep ▸ .head _) hb⟩
 | rng ep ee es er a=>exact wpAny_pyNext_range_end hh a (qJR er) fun h' hb=>⟨rfl,rfl,out (J:=I) (ep ▸ .head _) hb⟩
 | @enum J k old rs ep ee er a b c =>
  revert ep er a b c; revert J k old rs; intros J k old rs; intro ep er a b c
  cases rs with
  | cons v0 rs=>exact nomatch er
  | nil =>
   obtain ⟨p,n,vs,l,h1,h2,h5,h6,h7⟩:=c.now S hst
   exact wpAny_pyNext_enum_end hh a h1 ⟨_,h2,rfl,_,rfl⟩ (by rw [Array.getElem?_eq_none_iff,qAS h5]; exact qFv h6) fun h' hb=>⟨rfl,rfl,out (J:=J) (ep ▸ .tail _ (.head _)) hb⟩
end
end Mine.Internal
end
section
open PySem PySem.W PyProof.Rows
namespace Mine.Internal
section
variable {A:Around}{fr pv ψ φ φ' φ₁:List Addr}{H H' H₁ H₂ H0:AHeap}{s s₁:Shared}{d:Nat}{I:Addr}{src:Option Nat}{rest xs:List AV}{en:Bool}{v:AV}{E:Value→Shared→Prop}
theorem LSrc.iter {h:Heap}{k:Nat} (x:LSrc X ψ φ h H0 I k src rest):∃ p,h.IsListIter I p k:=by
 cases x with
 | lst _ _ a=>exact ⟨_,a⟩
 | trk _ _ a=>exact ⟨_,a⟩
theorem qJz (x:ItR X ψ φ s.heap H0 I pv en src rest) {Q:Value→Shared→Prop} (h:Q (.ref I) s):wpAny (model prog w) A (pyIter (.ref I)) Q E s:=by
 revert x h
 revert A pv ψ φ H0 s I src rest en E Q
 intros A pv ψ φ H0 s I src rest en E Q
 intro x h
 cases x with
 | list _ _ a =>
  obtain ⟨p,a⟩:=a.iter
  exact wpAny_pyIter_listiter a h
 | tup _ _ _ _ a =>
  refine wpAny_pyIter_slot a.typeIs PySem.F.slot_tuple_iterator_iter (wpAny_call_entry PySem.F.slot_tuple_iterator_iter a.typeIs PySem.F.entry_tuple_iterator_iter ?_ (PySem.F.args_tuple_iterator_iter_1 _))
  show wpAny _ _ (ret (.ref I)) _ _ s
  exact wpAny_pure ⟨_,rfl,"tuple_iterator",_,a.typeIs,PySem.F.slot_tuple_iterator_next.lookup,h⟩
 | rng _ _ _ _ a =>
  have hT:s.TypeIs (.ref I) "range_iterator":=⟨_,a,rfl⟩
  refine wpAny_pyIter_slot hT PySem.F.slot_range_iterator_iter (wpAny_call_entry PySem.F.slot_range_iterator_iter hT PySem.F.entry_range_iterator_iter ?_ (PySem.F.args_range_iterator_iter_1 _))
  show wpAny _ _ (ret (.ref I)) _ _ s
  exact wpAny_pure ⟨_,rfl,"range_iterator",_,hT,PySem.F.slot_range_iterator_next.lookup,h⟩
 | enum _ _ _ a=>exact wpAny_pyIter_enum a h
structure Made (X:CX) (ψ φ:List Addr) (H:AHeap) (src:Option Nat) (xs:List AV) (en:Bool) (s:Shared) (it:Value) (s':Shared) (I:Addr) (pv:List Addr):Prop where
 it:it=.ref I
 own:I ∈ pv
 fresh:∀ a ∈ pv,s.heap.get? a=none
 there:∀ a ∈ pv,∃ o,s'.heap.get? a=some o
 same:s'={ s with heap:=s'.heap }
 keep:∀ b o,s.heap.get? b=some o→s'.heap.get? b=some o
 rel:ItR X (pv ++ ψ) φ s'.heap H I pv en src xs
theorem qHu {h:Heap}{a:Addr}{o:Obj} (e:h.get? a=some o) (hp:∀ b ∈ pv,h.get? b=none) (n:a ∉ ψ):a ∉ pv ++ ψ:=fun m=>by
 rcases List.mem_append.mp m with m | m
 ·rw [hp a m] at e; cases e
 ·exact n m
theorem VRs.new {h h':Heap}{vs:List Value}{l:List AV} (r:VRs X ψ φ h vs l) (kp:∀ b o,h.get? b=some o→h'.get? b=some o) (hp:∀ b ∈ pv,h.get? b=none):VRs X (pv ++ ψ) φ h' vs l :=
 VRs.move (fun _ _ e=>e) (fun b o e n m=>⟨kp b o e,n,qHu e hp m⟩) r
noncomputable def qE1 (X:CX) (ψ φ:List Addr) (H:AHeap) (src:Option Nat) (xs:List AV) (en:Bool) (s:Shared) (it:Value) (s':Shared):Prop:=∃ I pv,Made X ψ φ H src xs en s it s' I pv
theorem qGg (s:Shared):∀ b ∈ [s.heap.objs.size],s.heap.get? b=none:=fun b hb=>by rw [List.mem_singleton.mp hb]; exact qAc fun _ _ e=>e
theorem made1 {o:Obj} (e:(s.heap.push o).get? s.heap.objs.size=some o) (rel:(s.heap.push o).get? s.heap.objs.size=some o→(∀ b ob,s.heap.get? b=some ob→(s.heap.push o).get? b=some ob)→ItR X ([s.heap.objs.size] ++ ψ) φ (s.heap.push o) H s.heap.objs.size [s.heap.objs.size] false src xs) :
  qE1 X ψ φ H src xs false s (.ref s.heap.objs.size) { s with heap:=s.heap.push o }:=by
 exact ⟨_,[s.heap.objs.size],rfl,.head _,qGg s,fun a ha=>⟨o,List.mem_singleton.mp ha ▸ e⟩,rfl,fun b o e=>Heap.get?_push_of_some _ e,rel e fun b o e=>Heap.get?_push_of_some _ e⟩
theorem qMc (S:SR X prog w base ψ φ H s.heap) {x:Value} (r:VR X ψ φ s.heap x v) (e:iterE false H v=some (xs,src)):wpAny (model prog w) A (pyIter x) (qE1 X ψ φ H src xs false s) E s:=by
 revert S r e
 revert A ψ φ H s src xs v E x
 intros A ψ φ H s src xs v E x
 intro S r e
 cases v with
 | tup l =>
  revert r e; revert l; intros l; intro r e
  obtain ⟨rfl,rfl⟩:=qA7 (show some (l,none)=some (xs,src) from e)
  obtain ⟨p,vs,n,rfl,e1,n1,m1,k1,r1⟩:=r
  exact wpAny_pyIter_tuple (items:=vs) ⟨_,e1,rfl,_,rfl⟩ (made1 (Heap.get?_push_size _ rfl) fun eI kp=>.tup (k:=0) rfl rfl rfl rfl ⟨_,eI,rfl,rfl⟩ (kp _ _ e1) n1 (qHu e1 (qGg s) m1) k1 (r1.new kp (qGg s)))
 | lst l =>
  revert r e; revert l; intros l; intro r e
  obtain ⟨rfl,rfl⟩:=qA7 (show some (l,none)=some (xs,src) from e)
  obtain ⟨p,vs,n,rfl,e1,n1,m1,k1,r1⟩:=r
  exact wpAny_pyIter_list (items:=vs) ⟨_,e1,rfl,_,rfl⟩ (made1 (Heap.get?_push_size _ rfl) fun eI kp=>.list (k:=0) rfl rfl (.lst rfl rfl ⟨_,eI,rfl,rfl⟩ (kp _ _ e1) n1 (qHu e1 (qGg s) m1) k1 (r1.new kp (qGg s))))
 | ref i =>
  revert r e; revert i; intros i; intro r e
  (injection (qA4 (show (qAg H i).map (fun l=>(l,some i))=some (xs,src) from e)) with l; rintro ⟨hl,e2⟩)
  cases e2
  (injection (S.list r hl) with p; rintro ⟨rfl,hp,vs,n,e1,q,r1⟩)
  exact wpAny_pyIter_list (items:=vs) ⟨_,e1,rfl,_,rfl⟩ (made1 (Heap.get?_push_size _ rfl) fun eI kp=>.list (k:=0) rfl rfl (.trk rfl rfl ⟨_,eI,rfl,rfl⟩ hp (qCb hl)))
 | rng a b =>
  revert r e; revert a b; intros a b; intro r e
  obtain ⟨rfl,rfl⟩:=qA7 (show some (qAF a b,none)=some (xs,src) from e)
  obtain ⟨rr,t,u,v,rfl,e1,n1,m1,ha,hb⟩:=r
  have er:qAF a b=qAF a (a + Builtin.Range.rangeSize a b 1):=by
   rw [rangeSize_one]
   unfold qAF
   rw [Int.add_comm a,Int.add_sub_cancel]
   split
   ·rfl
   ·rw [show (b - a).toNat=0 by omega]; rfl
  exact wpAny_pyIter_range e1 (small_one (by omega) (by omega) (by omega) (by omega)) (made1 (Heap.get?_push_size _ rfl) fun eI kp=>.rng rfl rfl rfl er eI)
 | _=>exact qA3 e
theorem qKK (S:SR X prog w base ψ φ H s.heap) {x:Value} (r:VR X ψ φ s.heap x v) (e:iterE true H v=some (xs,src)):wpAny (model prog w) A (call (.type "enumerate") [x]) (qE1 X ψ φ H src xs true s) E s:=by
 revert S r e
 revert A ψ φ H s src xs v E x
 intros A ψ φ H s src xs v E x
 intro S r e
 (injection (qA0 (show (qAI H v).bind (fun _=>bnd (qGZ H v) fun l src=>some (qBx 0 l,src))=some (xs,src) from e)) with l0; rintro ⟨h1,e⟩)
 (injection (qA6 e) with l sr; rintro ⟨h2,e⟩)
 obtain ⟨rfl,rfl⟩:=qA7 e
 have fresh:∀ b ∈ [s.heap.objs.size + 1,s.heap.objs.size],s.heap.get? b=none:=by
  intros b; intro hb
  cases q:s.heap.get? b with
  | none=>rfl
  | some o =>
   revert q; revert o; intros o; intro q
   have:=Heap.lt_size q
   rcases List.mem_cons.mp hb with rfl | hb
   ·exact absurd (Nat.lt_of_succ_lt this) (Nat.lt_irrefl _)
   ·exact absurd (List.mem_singleton.mp hb ▸ this) (Nat.lt_irrefl _)
 have fin:∀ {p:Addr}{vs:Array Value}{n:Nat},x=.ref p→s.heap.get? p=some (seqObj "list" vs n) →
   (∀ h',h'.IsListIter s.heap.objs.size p 0→(∀ b o,s.heap.get? b=some o→h'.get? b=some o)→LSrc X ([s.heap.objs.size + 1,s.heap.objs.size] ++ ψ) φ h' H s.heap.objs.size 0 sr l) →
   wpAny (model prog w) A (call (.type "enumerate") [x]) (qE1 X ψ φ H sr (qBx 0 l) true s) E s:=by
  (intros p vs n; intro hx e1 k)
  subst hx
  refine call_enumerate_1 e1 fun h' he hl hz kp=>⟨_,[s.heap.objs.size + 1,s.heap.objs.size],rfl,.head _,fresh,fun a ha=>?_,rfl,kp,.enum rfl rfl rfl he (Nat.succ_ne_self _) (k h' hl kp)⟩
  rcases List.mem_cons.mp ha with rfl | ha
  ·exact ⟨_,he⟩
  ·rw [List.mem_singleton.mp ha]; obtain ⟨o,e,_⟩:=hl; exact ⟨o,e⟩
 cases v with
 | lst m =>
  revert r h1 h2 e; revert m; intros m; intro _ r h1 h2 e
  obtain ⟨rfl,rfl⟩:=qA7 (show some (m,none)=some (l,sr) from h2)
  obtain ⟨p,vs,n,z,e1,n1,m1,k1,r1⟩:=r
  exact fin z e1 (by intros h'; intro it kp; exact .lst rfl rfl it (kp _ _ e1) n1 (qHu e1 fresh m1) k1 (r1.new kp fresh))
 | ref i =>
  revert r h1 h2 e; revert i; intros i; intro _ r h1 h2 e
  (injection (qA4 (show (qAg H i).map (fun l=>(l,some i))=some (l,sr) from h2)) with l'; rintro ⟨hl,e2⟩)
  cases e2
  (injection (S.list r hl) with p; rintro ⟨z,hp,vs,n,e1,q,r1⟩)
  exact fin z e1 fun h' it kp=>.trk rfl rfl it hp (qCb hl)
 | _=>exact qA3 h1
theorem Made.sr {it:Value}{s':Shared} (M:Made X ψ φ H src xs en s it s' I pv) (S:SR X prog w base ψ φ H s.heap):SR X prog w base (pv ++ ψ) φ H s'.heap :=
 S.more M.keep fun a ha=>by
  rcases List.mem_append.mp ha with q | q
  ·exact .inr ⟨M.fresh a q,M.there a q⟩
  ·exact .inl q
end
end Mine.Internal
end
section
open PySem PySem.W PyProof.Rows
namespace Mine.Internal
noncomputable def SndT (X:CX) (prog:Program) (w:World) (base:Heap) (d:Nat) (ev:EvFn) (e:Expr) (ce:CE) (sc:Scope):Prop :=
 ∀ {A:Around}{env:PySem.Env}{ρ:Rho}{ψ φ:List Addr}{H H':AHeap}{s:Shared}{v:AV}{b:Bool},Room d A→EnvOk env sc→FR X ψ φ s.heap env sc ρ→SR X prog w base ψ φ H s.heap→ev ce ρ H=some (v,H')→qAY v=some b →
  wpAny (model prog w) A (isTrue e env (eval e env)) (fun c s'=>c=b∧∃ φ',Post X prog w base [] ψ φ φ' H' s s') NoE s
theorem Post.wide {ψ φ φ' H'}{fr fr':List Addr}{s s':Shared} (x:Post X prog w base fr ψ φ φ' H' s s') (k:∀ a ∈ fr,a ∈ fr'):Post X prog w base fr' ψ φ φ' H' s s' :=
 ⟨x.same,x.grow.more fun a q=>.inl (k a q),x.sr⟩
theorem SR.left {pv ψ ψ' φ:List Addr}{H:AHeap}{h h':Heap} (x:SR X prog w base ψ φ H h) (kp:∀ b o,b ∉ pv→h.get? b=some o→h'.get? b=some o) (hpv:∀ a ∈ pv,a ∈ ψ) (hs:∀ a ∈ ψ',a ∈ ψ) (hn:∀ a ∈ ψ',a ∉ pv):SR X prog w base ψ' φ H h' :=
 ⟨fun b o e=>kp b o (fun q=>by rw [x.priv b (hpv b q)] at e; cases e) (x.keep b o e),x.len,x.nodup,fun a m=>⟨(x.fresh a m).1,(x.fresh a m).2.1,fun q=>(x.fresh a m).2.2 (hs a q)⟩,fun a q=>x.priv a (hs a q),
  fun a q=>let ⟨o,e⟩:=x.stand a (hs a q); ⟨o,kp a o (hn a q) e⟩,fun i a o e e' =>
  (x.obj i a o e e').move (fun _ _ e=>e) (fun b o e n m=>⟨kp b o (fun q=>m (hpv b q)) e,n,fun q=>m (hs b q)⟩) fun ob q=>kp _ _ (fun q=>(x.fresh a (List.mem_of_getElem? e)).2.2 (hpv a q)) q⟩
theorem VR.left {pv ψ ψ' φ:List Addr}{h h':Heap} (kp:∀ b o,b ∉ pv→h.get? b=some o→h'.get? b=some o) (hpv:∀ a ∈ pv,a ∈ ψ) (hs:∀ a ∈ ψ',a ∈ ψ) {v a} (r:VR X ψ φ h v a):VR X ψ' φ h' v a :=
 VR.move (fun _ _ e=>e) (fun b o e n m=>⟨kp b o (fun q=>m (hpv b q)) e,n,fun q=>m (hs b q)⟩) r
theorem VRs.left {pv ψ ψ' φ:List Addr}{h h':Heap} (kp:∀ b o,b ∉ pv→h.get? b=some o→h'.get? b=some o) (hpv:∀ a ∈ pv,a ∈ ψ) (hs:∀ a ∈ ψ',a ∈ ψ) {v a} (r:VRs X ψ φ h v a):VRs X ψ' φ h' v a :=
 VRs.move (fun _ _ e=>e) (fun b o e n m=>⟨kp b o (fun q=>m (hpv b q)) e,n,fun q=>m (hs b q)⟩) r
section
variable {A:Around}{fr pv ψ ψ' φ φ' φ₁:List Addr}{H H' H₁ H₂ H0:AHeap}{s s₁:Shared}{d:Nat}{I:Addr}{src:Option Nat}{rest xs:List AV}{en:Bool}{v:AV}{E:Value→Shared→Prop}{env:PySem.Env}{sc:Scope}{ρ ρ':Rho}{ok:Str→Prop}
theorem FRs.shift {h h':Heap} (F:FRs ok X ψ φ h env sc ρ) (S:SR X prog w base ψ φ H h) (g:Grow [] φ φ' h h') (k:∀ a ∈ ψ',a ∈ ψ∨h.get? a=none) (k2:∀ a ∈ ψ,a ∈ ψ'):FRs ok X ψ' φ' h' env sc ρ:=by
 intro x kx v o a b c
 obtain ⟨y,p,q⟩:=F x kx v o a b c
 have p':=p.keep (h':=h') fun a ha o e=>g.kept a o e (fun m=>(S.fresh a m).2.2 ha) (fun q=>qA9 q)
 refine ⟨y,?_,VR.move (fun _ _ e=>qBw g.pre e) (fun b o e n m=>⟨g.kept b o e n (fun q=>qA9 q),g.out e n,fun q=>(k b q).elim m fun z=>by rw [e] at z; cases z⟩) q⟩
 cases p' with
 | «local» a b c d=>exact .local a (k2 _ b) c d
 | cell a b c d=>exact .cell a b (k2 _ c) d
theorem FRs.iter {h h':Heap} (F:FRs ok X ψ φ h env sc ρ) (g:Grow pv φ φ h h') (hpv:∀ a ∈ pv,a ∈ ψ) (S:SR X prog w base ψ φ H h) (hf:∀ a ∈ pv,∃ o vs,h.get? a=some o∧o.data=.fields vs):FRs ok X ψ φ h' env sc ρ:=by
 intro x kx v o a b c
 obtain ⟨y,p,q⟩:=F x kx v o a b c
 refine ⟨y,?_,q.grow g hpv⟩
 cases p with
 | @«local» m a b c d =>
  have hn:env.locals ∉ pv:=fun q=>by
   obtain ⟨o,vs,e1,e2⟩:=hf _ q
   obtain ⟨o',_,_,e3,e4,_⟩:=c
   rw [e1] at e3; cases e3; rw [e2] at e4; cases e4
  obtain ⟨o',es,ep,e3,r⟩:=c
  exact .local a b ⟨o',es,ep,g.kept _ _ e3 (fun m=>(S.fresh _ m).2.2 b) hn,r⟩ d
 | @cell cc a b c d =>
  have hn:cc ∉ pv:=fun q=>by
   obtain ⟨o,vs,e1,e2⟩:=hf _ q
   obtain ⟨o',e3,e4⟩:=d
   rw [e1] at e3; cases e3; rw [e2] at e4; cases e4
  obtain ⟨o',e3,r⟩:=d
  exact .cell a b c ⟨o',g.kept _ _ e3 (fun m=>(S.fresh _ m).2.2 c) hn,r⟩
theorem FRs.list {h h':Heap} (F:FRs ok X ψ φ h env sc ρ) (g:Grow pv φ φ h h') (hpv:∀ a ∈ pv,a ∈ ψ) (S:SR X prog w base ψ φ H h) (hf:∀ a ∈ pv,∃ vs n,h.get? a=some (seqObj "list" vs n)):FRs ok X ψ φ h' env sc ρ:=by
 revert F g hpv S hf
 revert pv ψ φ H env sc ρ ok h h'
 intros pv ψ φ H env sc ρ ok h h'
 intro F g hpv S hf
 (intros x kx v; intro o a b c)
 (injection (F x kx v o a b c) with y; rintro ⟨p,q⟩)
 refine ⟨y,?_,q.grow g hpv⟩
 cases p with
 | @«local» m a b c d =>
  have hn:env.locals ∉ pv:=fun q=>by
   (injection (hf _ q) with vs n; intro e1)
   obtain ⟨o',_,_,e3,e4,_⟩:=c
   rw [e1] at e3; cases e3; cases e4
  obtain ⟨o',es,ep,e3,r⟩:=c
  exact .local a b ⟨o',es,ep,g.kept _ _ e3 (fun m=>(S.fresh _ m).2.2 b) hn,r⟩ d
 | @cell cc a b c d =>
  revert b c d; revert cc; intros cc; intro b c d
  have hn:cc ∉ pv:=fun q=>by
   (injection (hf _ q) with vs n; intro e1)
   (injection (d) with o'; try clear d; rintro ⟨e3,e4⟩)
   rw [e1] at e3; cases e3; cases e4
  (injection (d) with o'; try clear d; rintro ⟨e3,r⟩)
  exact .cell a b c ⟨o',g.kept _ _ e3 (fun m=>(S.fresh _ m).2.2 c) hn,r⟩
theorem LSrc.fields {h:Heap}{k:Nat} (x:LSrc X ψ φ h H0 I k src rest):∃ o vs,h.get? I=some o∧o.data=.fields vs:=by
 obtain ⟨p,o,a,_,b⟩:=x.iter
 exact ⟨o,_,a,b⟩
theorem ItR.fields {h:Heap} (x:ItR X ψ φ h H0 I pv en src rest):∀ a ∈ pv,∃ o vs,h.get? a=some o∧o.data=.fields vs:=by
 revert x
 revert pv ψ φ H0 I src rest en h
 intros pv ψ φ H0 I src rest en h
 intro x
 (intros z; intro hz)
 cases x with
 | list ep _ a=>subst ep; rw [List.mem_singleton.mp hz]; exact a.fields
 | tup ep _ _ _ a=>subst ep; rw [List.mem_singleton.mp hz]; obtain ⟨o,a,_,b⟩:=a; exact ⟨o,_,a,b⟩
 | rng ep _ _ _ a=>subst ep; rw [List.mem_singleton.mp hz]; exact ⟨_,_,a,rfl⟩
 | enum ep _ _ a b c =>
  subst ep
  rcases List.mem_cons.mp hz with rfl | hz
  ·exact ⟨_,_,a,rfl⟩
  ·rw [List.mem_singleton.mp hz]; exact c.fields
theorem qD1 {ev:EvFn} (R:Room d A) (O:EnvOk env sc):∀ {es:List Expr}{ces:List CE}{H H':AHeap}{φ:List Addr}{s:Shared}{b:Bool},listM₂ (fun e ce=>SndT X prog w base d ev e ce sc) es ces→FR X ψ φ s.heap env sc ρ→SR X prog w base ψ φ H s.heap →
  qCf ev ces ρ H=some (b,H') →
  wpAny (model prog w) A (forIn es true fun c r=>if r=true then do let ok ← isTrue c env (eval c env); pure (ForInStep.yield ok) else pure (ForInStep.yield r)) (fun c s'=>c=b∧∃ φ',Post X prog w base [] ψ φ φ' H' s s') NoE s
 | [],[],H,H',φ,s,b,_,F,S,e=>by
  cases e
  rw [List.forIn_nil]
  exact wpAny_pure ⟨rfl,φ,Post.refl S⟩
 | e :: es,c :: ces,H,H',φ,s,b,hp,F,S,h=>by
  obtain ⟨v,H1,h1,h⟩:=qA6 h
  obtain ⟨b1,h2,h⟩:=qA0 h
  rw [List.forIn_cons,if_pos rfl]
  refine wpAny_bind (wpAny_bind (qA1 (hp.1 R O F S h1 h2) fun c1 s1 q=>wpAny_pure ?_))
  obtain ⟨rfl,φ1,p1⟩:=q
  cases c1 with
  | true =>
   rw [if_pos rfl] at h
   refine qA1 (qD1 R O hp.2 (FRs.post F S p1) p1.sr h) fun c2 s2 q=>?_
   obtain ⟨rfl,φ2,p2⟩:=q
   exact ⟨rfl,φ2,p1.trans p2⟩
  | false =>
   rw [if_neg Bool.false_ne_true] at h
   cases h
   have stop:∀ (es:List Expr) {s:Shared}{Q:Bool→Shared→Prop},Q false s→wpAny (model prog w) A (forIn es false fun c r=>if r=true then do let ok ← isTrue c env (eval c env); pure (ForInStep.yield ok) else pure (ForInStep.yield r)) Q NoE s:=by
    intro es
    induction es with
    | nil=>intro s Q q; rw [List.forIn_nil]; exact wpAny_pure q
    | cons e es ih=>intro s Q q; rw [List.forIn_cons,if_neg Bool.false_ne_true]; exact wpAny_bind (wpAny_pure (ih q))
   exact stop es ⟨rfl,φ1,p1⟩
 | [],_ :: _,_,_,_,_,_,hp,_,_,_=>hp.elim
 | _ :: _,[],_,_,_,_,_,hp,_,_,_=>hp.elim
theorem qHf {D:Addr}{x:Value}{vs:Array Value}{n:Nat}{done:List AV} (S:SR X prog w base ψ φ H s.heap) (hD:D ∈ ψ) (e:s.heap.get? D=some (seqObj "list" vs n)) (hl:done.length < 1000000) (r:VRs X ψ φ s.heap vs.toList done) (rx:VR X ψ φ s.heap x v)
  {Q:Value→Shared→Prop} (h:∀ s' n',Post X prog w base [D] ψ φ φ H s s'→s'.heap.get? D=some (seqObj "list" (vs.push x) n')→VRs X ψ φ s'.heap (vs.push x).toList (done ++ [v])→Q .none s') :
  wpAny (model prog w) A (call (.builtin "list.append") [.ref D,x]) Q E s:=by
 refine call_meets PySem.F.slot_list_append ⟨_,e,rfl⟩ PySem.F.entry_list_append (PySem.F.args_list_append_2 _ _) (PySem.list_append _ _ _ _ (by rw [qAS r,qBR]; omega)) ⟨e,?_⟩
 have U:=PySem.IsL.update (h:=s.heap) (l:=D) (items:=vs) (n:=n) e (fun a=>a.push x)
 have kp:∀ b o,b ∉ [D]→s.heap.get? b=some o→(s.heap.update D (Obj.mapSeq fun a=>a.push x)).get? b=some o:=fun b o nb e=>(Heap.get?_update_other _ _ (Ne.symm (by simpa using nb))).trans e
 have p1:=Post.priv (k:=s.toks) S (pv:=[D]) (fun a ha=>by rw [List.mem_singleton.mp ha]; exact hD) kp fun a ha=>by rw [List.mem_singleton.mp ha]; exact ⟨_,U⟩
 have hf:∀ a ∈ [D],a ∈ ψ:=fun a ha=>by rw [List.mem_singleton.mp ha]; exact hD
 exact h _ _ p1 U (by rw [qGJ]; exact (r.grow p1.grow hf).append (.cons (rx.grow p1.grow hf) .nil))
structure CFin (X:CX) (prog:Program) (w:World) (base:Heap) (pv ψ φ:List Addr) (H':AHeap) (D C:Addr) (l:List AV) (s s':Shared) (φ':List Addr) (vs:Array Value) (n:Nat):Prop where
 same:s'={ s with heap:=s'.heap,toks:=s'.toks,drawn:=s'.drawn }
 grow:Grow (D :: C :: pv) φ φ' s.heap s'.heap
 sr:SR X prog w base (D :: C :: ψ) φ' H' s'.heap
 acc:s'.heap.get? D=some (seqObj "list" vs n)
 rel:VRs X (D :: C :: ψ) φ' s'.heap vs.toList l
 ns:∃ m,s'.heap.Ns C m
theorem qKT {ev:EvFn}{inner:Scope}{cenv:PySem.Env}{D:Addr}{t elt iter:Expr}{ct:CT}{celt:CE}{ifs:List Expr}{cifs:List CE}{pos:Pos}{scp:Scope}{R:Result→Shared→Prop} (Rm:Room d A) (O:EnvOk cenv inner)
  (hct:qAl X inner t=some ct) (ht:en=true→∃ es k p,t=.Tuple es k p) (hloc:∀ x,qAE inner x=some .local→x ∈ qCn t∨nid X.names x=none) (he:SndE X prog w base d ev elt celt inner) (hifs:listM₂ (fun e ce=>SndT X prog w base d ev e ce inner) ifs cifs)
  (hDC:D ≠ cenv.locals) (hDp:D ∉ pv) (hCp:cenv.locals ∉ pv) (hDψ:D ∉ ψ) (hpψ:∀ a ∈ ψ,a ∉ pv) :
  ∀ {xs:List AV}{ρ:Rho}{H H':AHeap}{φ:List Addr}{s:Shared}{done vs:List AV}{va:Array Value}{n:Nat},SR X prog w base (D :: cenv.locals :: pv ++ ψ) φ H s.heap→ItR X (D :: cenv.locals :: pv ++ ψ) φ s.heap H0 I pv en src xs →
   StoreOk [cenv.locals] s.heap cenv inner→FRs (fun x=>qAE inner x ≠ some .local) X (D :: cenv.locals :: pv ++ ψ) φ s.heap cenv inner ρ→s.heap.get? D=some (seqObj "list" va n)→VRs X (D :: cenv.locals :: pv ++ ψ) φ s.heap va.toList done →
   done.length + xs.length < 1000001→compLoop ev celt ct cifs H0 src xs ρ H=some (vs,H') →
   (∀ s' φ' va' n',CFin X prog w base pv ψ φ H' D cenv.locals (done ++ vs) s s' φ' va' n'→R (.ok .next) s') →
   codeAny (model prog w) A (.compLoop (.ListComp elt [⟨t,iter,ifs,0⟩] scp pos) 0 (.ref I) (.ref D) cenv) R s:=by
 revert Rm O hct ht hloc he hifs hDC hDp hCp hDψ hpψ
 revert A pv ψ H0 d I src en ev inner cenv D t elt iter ct celt ifs cifs pos scp R
 intros A pv ψ H0 d I src en ev inner cenv
 intros D t elt iter ct celt ifs cifs pos scp R
 intro Rm O hct ht hloc he hifs hDC hDp hCp hDψ hpψ
 intros xs
 have inP:∀ a ∈ pv,a ∈ D :: cenv.locals :: pv ++ ψ:=fun a ha=>by simp [ha]
 have inC:∀ a ∈ [cenv.locals],a ∈ D :: cenv.locals :: pv ++ ψ:=fun a ha=>by rw [List.mem_singleton.mp ha]; simp
 induction xs with
 | nil =>
  (intros ρ H H' φ s done vs va n; intro S it T F hacc racc hlen hev hR)
  obtain ⟨hst,hev⟩:=qAA hev
  cases hev
  refine codeAny_of_tree ?_
  show wpAny _ A ((compTurn (.ListComp elt [⟨t,iter,ifs,0⟩] scp pos) 0 (.ref I) (.ref D) cenv).onRaise (fun x=>do noteFrame x cenv; theTreesLotGoes x)) _ _ s
  refine wpAny_noted ?_
  rw [compTurn_list]
  refine wpAny_bind (wpAny_standAt (wpAny_bind (wpAny_mono (qM6 Rm.handled S it hst) (?_) fun _ _ h'=>h')))
  intros r s₁; intro h₁
  obtain ⟨rfl,h2,h3⟩:=h₁
  refine wpAny_pure (hR s₁ φ va n ⟨by rw [h2],⟨List.prefix_refl _,fun _ q=>.inl q,fun b o e _ nb=>h3 b o (fun q=>nb (.tail _ (.tail _ q))) e⟩,?_,h3 D _ hDp hacc,?_,?_⟩)
  ·refine S.left h3 inP (?_) (?_)
   ·intros a; intro ha
    simp only [List.mem_cons] at ha; rcases ha with rfl | rfl | ha <;> simp [*]
   ·intros a; intro ha
    simp only [List.mem_cons] at ha; rcases ha with rfl | rfl | ha
    ·exact hDp
    ·exact hCp
    ·exact hpψ a ha
  ·rw [List.append_nil]
   refine racc.left h3 inP (?_)
   intros a; intro ha
   simp only [List.mem_cons] at ha; rcases ha with rfl | rfl | ha <;> simp [*]
  ·(injection (T.ns) with m o es ep; rintro ⟨e,r⟩)
   exact ⟨m,o,es,ep,h3 _ _ hCp e,r⟩
 | cons x xs ih =>
  revert ih; revert x xs; intros x xs; intro ih
  (intros ρ H H' φ s done vs va n; intro S it T F hacc racc hlen hev hR)
  obtain ⟨hst,hev⟩:=qAA hev
  (injection (qA0 hev) with ρ1; rintro ⟨h1,hev⟩)
  (injection (qA6 hev) with b H4; rintro ⟨h2,hev⟩)
  refine codeAny_of_tree ?_
  show wpAny _ A ((compTurn (.ListComp elt [⟨t,iter,ifs,0⟩] scp pos) 0 (.ref I) (.ref D) cenv).onRaise (fun x=>do noteFrame x cenv; theTreesLotGoes x)) _ _ s
  refine wpAny_noted ?_
  rw [compTurn_list]
  refine wpAny_bind (wpAny_standAt (wpAny_bind (wpAny_mono (qK0 S inP it hst ht) (?_) fun _ _ h'=>h')))
  intros r s₁; intro h₁
  (injection (h₁) with y; try clear h₁; rintro ⟨rfl,h₁⟩)
  refine wpAny_bind (wpAny_mono h₁ (?_) fun _ _ h'=>h')
  intro _; intros s2; intro q
  obtain ⟨ry,p2,it2⟩:=q
  have T2:StoreOk [cenv.locals] s2.heap cenv inner:=T.keep (by intros a; intro ha; intros o; intro e; exact p2.grow.kept a o e (fun m=>(S.fresh a m).2.2 (inC a ha)) (by rw [List.mem_singleton.mp ha]; exact hCp))
  have F2:=F.iter p2.grow inP S it.fields
  refine wpAny_bind (wpAny_mono (qDC (E:=_) O inC Rm.handled hct h1 T2 F2 p2.sr ry) (?_) fun _ _ h'=>h')
  intro _; intros s3; intro q3
  have F3:FR X (D :: cenv.locals :: pv ++ ψ) φ s3.heap cenv inner ρ1:=fun z k u _ hv hn=>q3.vars z k u (by
   by_cases hz:qAE inner z=some .local
   ·exact .inr ((hloc z hz).resolve_right fun q=>by rw [hn] at q; cases q)
   ·exact .inl hz) hv hn
  refine wpAny_bind (wpAny_mono (qD1 Rm O hifs F3 q3.post.sr h2) (?_) fun _ _ e=>e.elim)
  intros c s4; intro q4
  (obtain ⟨rfl,H_⟩:=q4; injection H_ with φ4; clear H_; intro p4)
  have T4:=q3.st.post q3.post.sr inC p4
  have F4:=FRs.post F3 q3.post.sr p4
  have it3:=it2.grow q3.post.grow inC (by intros a; intro ha; intros o; intro e; exact q3.kept a o (fun q=>hCp (by rw [List.mem_singleton.mp q] at ha; exact ha)) e)
  have it4:=it3.grow p4.grow (fun _ q=>nomatch q) (by intros a; intro ha; intros o; intro e; exact p4.grow.kept a o e (fun m=>(q3.post.sr.fresh a m).2.2 (inP a ha)) (fun q=>qA9 q))
  have subP:∀ a ∈ pv,a ∈ D :: cenv.locals :: pv:=fun a ha=>by simp [ha]
  have subC:∀ a ∈ [cenv.locals],a ∈ D :: cenv.locals :: pv:=fun a ha=>by rw [List.mem_singleton.mp ha]; simp
  have inA:∀ a ∈ D :: cenv.locals :: pv,a ∈ D :: cenv.locals :: pv ++ ψ:=by
   intros a; intro ha
   simp only [List.mem_cons] at ha; rcases ha with rfl | rfl | ha <;> simp [*]
  have p24:Post X prog w base (D :: cenv.locals :: pv) (D :: cenv.locals :: pv ++ ψ) φ φ4 H4 s s4:=((p2.wide subP).transF (q3.post.wide subC) inA).transF (p4.wide fun _ q=>qA9 q) inA
  have accD:∀ o,s.heap.get? D=some o→s4.heap.get? D=some o:=by
   intros o; intro e
   have e2:=p2.grow.kept D o e (fun m=>(S.fresh D m).2.2 (by simp)) hDp
   have e3:=q3.kept D o (by simpa using hDC) e2
   exact p4.grow.kept D o e3 (fun m=>(q3.post.sr.fresh D m).2.2 (by simp)) (fun q=>qA9 q)
  have hacc4:=accD _ hacc
  have racc4:=racc.grow p24.grow inA
  have out:∀ {φ7 φ8:List Addr}{H7:AHeap}{h7 h8:Heap},SR X prog w base (D :: cenv.locals :: pv ++ ψ) φ7 H7 h7→Grow (D :: cenv.locals :: pv) φ7 φ8 h7 h8→∀ a ∈ D :: cenv.locals :: pv ++ ψ,a ∈ φ8→False:=fun S7 g a ha m=>by
   rcases g.new a m with q | q
   ·exact (S7.fresh a q).2.2 ha
   ·obtain ⟨o,e⟩:=S7.stand a ha; rw [e] at q; cases q
  cases c with
  | false =>
   rw [if_neg Bool.false_ne_true] at hev
   refine wpAny_pure ⟨rfl,ih p24.sr it4 T4 (fun z k u _=>F4 z k u trivial) hacc4 racc4 (by simp only [List.length_cons] at hlen; omega) hev fun s' φ' va' n' cf=>hR s' φ' va' n' ⟨?_,?_,cf.sr,cf.acc,cf.rel,cf.ns⟩⟩
   ·rw [cf.same,p24.same]
   ·exact p24.grow.trans cf.grow fun a ha m=>(out p24.sr cf.grow a (inA a ha) m).elim
  | true =>
   rw [if_pos rfl] at hev
   (injection (qA6 hev) with v5 H5; rintro ⟨h3,hev⟩)
   (injection (qA6 hev) with vs6 H6; rintro ⟨h4,hev⟩)
   cases hev
   refine wpAny_bind (wpAny_bind (wpAny_mono (he Rm O F4 p4.sr h3) (?_) fun _ _ e=>e.elim))
   intros x5 s5; intro q5
   (injection (q5) with φ5; try clear q5; rintro ⟨p5,r5⟩)
   have hacc5:=p5.grow.kept D _ hacc4 (fun m=>(p4.sr.fresh D m).2.2 (by simp)) (fun q=>qA9 q)
   refine wpAny_bind (qHf p5.sr (by simp) hacc5 (by simp only [List.length_cons] at hlen; omega) (racc4.grow0 p5.grow) r5 fun s6 n6 p6 e6 r6=>wpAny_pure (wpAny_pure ⟨rfl,?_⟩))
   have inD:∀ a ∈ [D],a ∈ D :: cenv.locals :: pv ++ ψ:=fun a ha=>by rw [List.mem_singleton.mp ha]; simp
   have p26:Post X prog w base (D :: cenv.locals :: pv) (D :: cenv.locals :: pv ++ ψ) φ φ5 H5 s s6:=(p24.transF (p5.wide fun _ q=>qA9 q) inA).transF (p6.wide fun a ha=>by rw [List.mem_singleton.mp ha]; simp) inA
   have T5:=T4.post p4.sr inC p5
   have T6:StoreOk [cenv.locals] s6.heap cenv inner:=T5.keep fun a ha o e=>p6.grow.kept a o e (fun m=>(p5.sr.fresh a m).2.2 (inC a ha)) (by rw [List.mem_singleton.mp ha,List.mem_singleton]; exact Ne.symm hDC)
   have F5:=FRs.post F4 p4.sr p5
   have F6:FR X (D :: cenv.locals :: pv ++ ψ) φ5 s6.heap cenv inner ρ1:=FRs.list F5 p6.grow inD p5.sr fun a ha=>by rw [List.mem_singleton.mp ha]; exact ⟨_,_,p5.grow.kept D _ hacc4 (fun m=>(p4.sr.fresh D m).2.2 (by simp)) (fun q=>qA9 q)⟩
   have it5:=it4.grow p5.grow (fun _ q=>qA9 q) (by intros a; intro ha; intros o; intro e; exact p5.grow.kept a o e (fun m=>(p4.sr.fresh a m).2.2 (inP a ha)) (fun q=>qA9 q))
   have it6:=it5.grow p6.grow inD fun a ha o e=>p6.grow.kept a o e (fun m=>(p5.sr.fresh a m).2.2 (inP a ha)) (fun q=>hDp (by rw [List.mem_singleton.mp q] at ha; exact ha))
   refine ih p6.sr it6 T6 (fun z k u _=>F6 z k u trivial) e6 r6 (by simp only [List.length_cons,List.length_append,List.length_nil] at hlen ⊢; omega) h4 fun s' φ' va' n' cf=>hR s' φ' va' n' ⟨?_,?_,cf.sr,cf.acc,?_,cf.ns⟩
   ·rw [cf.same,p26.same]
   ·exact p26.grow.trans cf.grow fun a ha m=>(out p26.sr cf.grow a (inA a ha) m).elim
   ·have:=cf.rel
    rw [List.append_assoc] at this
    exact this
end
end Mine.Internal
end
section
open PySem PySem.W PyProof.Rows
namespace Mine.Internal
section
variable {A:Around}{fr pv ψ ψ' φ φ' φ₁:List Addr}{H H' H₁ H₂ H0:AHeap}{s s₁:Shared}{d:Nat}{I:Addr}{src:Option Nat}{rest xs:List AV}{en:Bool}{v:AV}{E:Value→Shared→Prop}{env:PySem.Env}{sc:Scope}{ρ ρ':Rho}{ok:Str→Prop}
theorem qFF:∀ (k:Nat) (l:List AV),(qBx k l).length=l.length
 | _,[]=>rfl
 | k,_ :: l=>by rw [qBx,List.length_cons,List.length_cons,qFF (k + 1) l]
theorem qF8 (S:SR X prog w base ψ φ H s.heap) {x:Value} (r:VR X ψ φ s.heap x v) (e:qGZ H v=some (xs,src)):xs.length < 1000001:=by
 revert S r e
 revert ψ φ H s src xs v x
 intros ψ φ H s src xs v x
 intro S r e
 cases v with
 | tup l=>rw [← (qA7 (show some (l,none)=some (xs,src) from e)).1]; obtain ⟨_,_,_,_,_,_,_,k,_⟩:=r; exact k
 | lst l=>rw [← (qA7 (show some (l,none)=some (xs,src) from e)).1]; obtain ⟨_,_,_,_,_,_,_,k,_⟩:=r; exact k
 | ref i =>
  revert r e; revert i; intros i; intro r e
  (injection (qA4 (show (qAg H i).map (fun l=>(l,some i))=some (xs,src) from e)) with l; rintro ⟨hl,e2⟩)
  (injection (S.list r hl) with ζ_1; rintro ⟨_,_,_,_,_,k,_⟩)
  cases e2; exact k
 | rng a b =>
  revert r e; revert a b; intros a b; intro r e
  rw [← (qA7 (show some (qAF a b,none)=some (xs,src) from e)).1]
  obtain ⟨_,_,_,_,_,_,_,_,k,m⟩:=r
  unfold qAF
  rw [List.length_map,List.length_range]
  exact Nat.lt_of_le_of_lt (qCX a b) (Nat.add_lt_add (Nat.lt_of_lt_of_le m (by decide)) (Nat.lt_of_lt_of_le k (by decide:400001 ≤ 500000)) |> (Nat.lt_of_lt_of_le · (by decide:500000 + 500000 ≤ 1000001)))
 | _=>exact qA3 e
theorem qGa (S:SR X prog w base ψ φ H s.heap) {x:Value} (r:VR X ψ φ s.heap x v) (e:iterE en H v=some (xs,src)):xs.length < 1000001:=by
 cases en with
 | true =>
  obtain ⟨l0,h1,e⟩:=qA0 (show (qAI H v).bind (fun _=>bnd (qGZ H v) fun l src=>some (qBx 0 l,src))=some (xs,src) from e)
  obtain ⟨l,sr,h2,e⟩:=qA6 e
  rw [← (qA7 e).1,qFF]
  exact qF8 S r h2
 | false=>exact qF8 S r e
theorem SR.promote {D:Addr}{h:Heap}{o:AObj} (x:SR X prog w base (D :: ψ) φ H h) (h3:3 < D) (hn:D ∉ ψ) (ho:ObjR X prog w ψ (φ ++ [D]) h D o):SR X prog w base ψ (φ ++ [D]) (H ++ [o]) h:=by
 revert x h3 hn ho
 revert ψ φ H D h o
 intros ψ φ H D h o
 intro x h3 hn ho
 have hD:D ∉ φ:=fun m=>(x.fresh D m).2.2 (.head _)
 refine ⟨x.keep,by simp [x.len],?_,?_,fun a q=>x.priv a (.tail _ q),fun a q=>x.stand a (.tail _ q),?_⟩
 ·rw [List.nodup_append]; exact ⟨x.nodup,by simp,by intros b; intro hb; intros c; intro hc; rw [List.mem_singleton] at hc; rw [hc]; exact fun z=>hD (z ▸ hb)⟩
 ·intros b; intro q
  rcases List.mem_append.mp q with q | q
  ·exact ⟨(x.fresh b q).1,(x.fresh b q).2.1,fun z=>(x.fresh b q).2.2 (.tail _ z)⟩
  ·rw [List.mem_singleton.mp q]; exact ⟨x.priv D (.head _),h3,hn⟩
 ·intros i b ob; intro e e'
  by_cases hi:i < φ.length
  ·rw [List.getElem?_append_left hi] at e
   rw [List.getElem?_append_left (by rw [← x.len]; exact hi)] at e'
   refine (x.obj i b ob e e').move (fun _ _ e=>qBw (List.prefix_append _ _) e) (fun b o e n m=>⟨e,fun q=>?_,fun q=>m (.tail _ q)⟩) fun _ e=>e
   rcases List.mem_append.mp q with q | q
   ·exact n q
   ·exact m (by rw [List.mem_singleton.mp q]; exact .head _)
  ·rw [List.getElem?_append_right (Nat.le_of_not_lt hi)] at e
   rw [List.getElem?_append_right (by rw [← x.len]; exact Nat.le_of_not_lt hi),← x.len] at e'
   (injection (⟨_,rfl⟩:∃ j,i - φ.length=j) with j; intro hj)
   rw [hj] at e e'
   cases j with
   | zero=>cases e; cases e'; exact ho
   | succ j=>cases e
inductive Promoted (X:CX) (prog:Program) (w:World) (base:Heap) (ψ φ:List Addr) (D:Addr) (h:Heap) (v:AV) (H':AHeap):Prop
 | mk (φ':List Addr) (pre:φ <+: φ') (new:∀ a ∈ φ',a ∈ φ∨a=D) (sr:SR X prog w base ψ φ' H' h) (r:VR X ψ φ' h (.ref D) v)
theorem promote {D:Addr}{h:Heap}{vs:Array Value}{n:Nat}{l:List AV} (trk:Bool) (S:SR X prog w base (D :: ψ) φ H h) (e:h.get? D=some (seqObj "list" vs n)) (r:VRs X (D :: ψ) φ h vs.toList l) (hl:l.length < 1000001) (h3:3 < D) (hn:D ∉ ψ) :
  Promoted X prog w base ψ φ D h (qAC trk l H).1 (qAC trk l H).2:=by
 have hD:D ∉ φ:=fun m=>(S.fresh D m).2.2 (.head _)
 cases trk with
 | false =>
  exact ⟨φ,List.prefix_refl _,fun _ q=>.inl q,S.fewer fun a q=>.tail _ q,.lst e hD hn hl (VRs.move (fun _ _ e=>e) (fun b o e n m=>⟨e,n,fun q=>m (.tail _ q)⟩) r)⟩
 | true =>
  have r':VRs X ψ (φ ++ [D]) h vs.toList l:=VRs.move (fun _ _ e=>qBw (List.prefix_append _ _) e) (fun b o e n m=>⟨e,fun q=>by
   rcases List.mem_append.mp q with q | q
   ·exact n q
   ·exact m (by rw [List.mem_singleton.mp q]; exact .head _),fun q=>m (.tail _ q)⟩) r
  refine ⟨φ ++ [D],List.prefix_append _ _,fun a q=>?_,S.promote h3 hn (.list e hl r'),.ref ?_⟩
  ·rcases List.mem_append.mp q with q | q
   ·exact .inl q
   ·exact .inr (List.mem_singleton.mp q)
  ·rw [← S.len]; simp
theorem qF6 {f:Str→NameKind→NameKind}:∀ {l:List (Str × NameKind)}{x:Str},(l.map fun (n,k)=>(n,f n k)).lookup x=(l.lookup x).map (f x)
 | [],_=>rfl
 | (n,k) :: r,x=>by
  rw [List.map_cons,List.lookup_cons,List.lookup_cons]
  cases q:x == n with
  | true=>rw [beq_iff_eq.mp q]; rfl
  | false=>exact qF6 (l:=r)
theorem qEl {inner:Scope}{x:Str}:(relabel inner env).names.lookup x=(inner.names.lookup x).map (fun k=>if (k == .free && env.scope.kind == .function && env.kindOf x == some .cell) then .cell else k):=by
 revert env inner x
 intros env inner x
 show (inner.names.map fun (n,k)=>if (k == .free && env.scope.kind == .function && env.kindOf n == some .cell) then (n,NameKind.cell) else (n,k)).lookup x=_
 rw [← qF6 (f:=fun n k=>if (k == .free && env.scope.kind == .function && env.kindOf n == some .cell) then .cell else k)]
 congr 1
 apply List.map_congr_left
 (intros p; intro _)
 obtain ⟨n,k⟩:=p
 dsimp only
 split <;> rfl
noncomputable def closL (env:PySem.Env):List (Str × NameKind)→List (Str × Addr)→List (Str × Addr)
 | [],acc=>acc
 | (n,k) :: r,acc=>if k == .free then closL env r ((n,(env.cells.lookup n).getD 0) :: acc) else closL env r acc
theorem qMm (hc:∀ x,(x,NameKind.free) ∈ sc.names→∃ c,env.cells.lookup x=some c):closureFor sc env=pure (closL env sc.names []):=by
 revert hc
 revert env sc
 intros env sc
 intro hc
 have gen:∀ (l:List (Str × NameKind)) (acc:List (Str × Addr)),(∀ x,(x,NameKind.free) ∈ l→∃ c,env.cells.lookup x=some c) →
   (forIn l acc fun (x:Str × NameKind) cs=>match x with | (name,kind)=>if kind == .free then do let a ← cellOf env name; pure (ForInStep.yield ((name,a) :: cs)) else pure (ForInStep.yield cs))=(pure (closL env l acc):Sem _):=by
  intros l
  induction l with
  | nil=>(intros acc; intro _); rfl
  | cons p r ih =>
   revert ih; revert p r; intros p r; intro ih
   (intros acc; intro h)
   obtain ⟨n,k⟩:=p
   revert h; revert n k; intros n k; intro h
   rw [List.forIn_cons]
   by_cases hk:k=.free
   ·subst hk
    (injection (h n (.head _)) with c; intro hc)
    have e:cellOf env n=pure c:=by unfold cellOf; rw [hc]
    dsimp only
    rw [if_pos (show (NameKind.free == NameKind.free)=true from rfl),e]
    simp only [pure_bind]
    refine (ih _ fun x hx=>h x (.tail _ hx)).trans ?_
    rw [closL,if_pos (show (NameKind.free == NameKind.free)=true from rfl),hc]; rfl
   ·have hk':(k == NameKind.free)=false:=by simpa using hk
    dsimp only
    rw [hk',if_neg Bool.false_ne_true]
    simp only [pure_bind]
    refine (ih _ fun x hx=>h x (.tail _ hx)).trans ?_
    rw [closL,hk',if_neg Bool.false_ne_true]
 unfold closureFor
 have:=gen sc.names [] hc
 simp only [] at this ⊢
 first | exact this | (rw [this]; rfl)
theorem qEd:∀ {l:List (Str × NameKind)}{acc:List (Str × Addr)},(∀ p ∈ acc,p.2=(env.cells.lookup p.1).getD 0)→∀ p ∈ closL env l acc,p.2=(env.cells.lookup p.1).getD 0
 | [],acc,h=>h
 | (n,k) :: r,acc,h=>by
  unfold closL
  split
  ·exact qEd fun p hp=>by
    rcases List.mem_cons.mp hp with rfl | hp
    ·rfl
    ·exact h p hp
  ·exact qEd h
theorem qDb {x:Str}:∀ {l:List (Str × NameKind)}{acc:List (Str × Addr)},(x,NameKind.free) ∈ l∨(∃ c,acc.lookup x=some c)→∃ c,(closL env l acc).lookup x=some c
 | [],acc,h=>h.elim (fun q=>qA9 q) id
 | (n,k) :: r,acc,h=>by
  unfold closL
  have step:∀ (c:Addr),(∃ c,acc.lookup x=some c)→∃ c',((n,c) :: acc).lookup x=some c':=fun c q=>by
   rw [List.lookup_cons]
   split
   ·exact ⟨_,rfl⟩
   ·exact q
  split
  ·rename_i hk
   refine qDb ?_
   rcases h with h | h
   ·rcases List.mem_cons.mp h with q | q
    ·right
     cases q
     rw [List.lookup_cons,beq_self_eq_true]; exact ⟨_,rfl⟩
    ·exact .inl q
   ·exact .inr (step _ h)
  ·rename_i hk
   refine qDb ?_
   rcases h with h | h
   ·rcases List.mem_cons.mp h with q | q
    ·cases q; exact absurd rfl hk
    ·exact .inl q
   ·exact .inr h
theorem qI8 {x:Str}{c:Addr}{l:List (Str × NameKind)} (h:(x,NameKind.free) ∈ l) (hc:env.cells.lookup x=some c):(closL env l []).lookup x=some c:=by
 obtain ⟨c',e⟩:=qDb (env:=env) (acc:=[]) (.inl h)
 have:=qEd (env:=env) (l:=l) (acc:=[]) (fun _ q=>qA9 q) _ (mem_of_lookup e)
 dsimp only at this
 rw [hc] at this
 rw [e,this]; rfl
end
end Mine.Internal
end
section
open PySem PySem.W PyProof.Rows
namespace Mine.Internal
structure CompOk (X:CX) (sc inner:Scope) (t:Expr):Prop where
 kind:inner.kind=.function
 nocell:∀ x ∈ inner.names,x.2 ≠ .cell
 loc:∀ x ∈ inner.names,x.2=.local→inner.names.lookup x.1=some .local∧(x.1 ∈ qCn t∨nid X.names x.1=none)
 free:∀ x ∈ inner.names,x.2=.free→(qAE sc x.1=some .cell∨qAE sc x.1=some .free)∧qAE inner x.1=some .free
theorem qC5 {sc inner:Scope}{t:Expr} (h:qCi X sc inner t=true):CompOk X sc inner t:=by
 revert h
 revert sc inner t
 intros sc inner t
 intro h
 unfold qCi at h
 rw [Bool.and_eq_true,beq_iff_eq,List.all_eq_true] at h
 refine ⟨h.1,?_,?_,?_⟩
 ·intros x; intro hx q
  have:=h.2 x hx
  rw [q] at this
  simp at this
 ·intros x; intro hx q
  have:=h.2 x hx
  rw [q] at this
  simpa using this
 ·intros x; intro hx q
  have:=h.2 x hx
  rw [q] at this
  simpa [qAE] using this
section
variable {A:Around}{fr pv ψ ψ' φ φ' φ₁:List Addr}{H H' H₁ H₂ H0:AHeap}{s s₁:Shared}{d:Nat}{I:Addr}{src:Option Nat}{rest xs:List AV}{en:Bool}{v:AV}{E:Value→Shared→Prop}{env:PySem.Env}{sc:Scope}{ρ ρ':Rho}{ok:Str→Prop}
theorem qFN {inner:Scope}{t:Expr}{C:Addr} (O:EnvOk env sc) (K:CompOk X sc inner t):EnvOk (compEnvC inner (closL env inner.names []) C env) inner:=by
 have kof:∀ x,(compEnvC inner (closL env inner.names []) C env).kindOf x=(qAE inner x).map (fun k=>if (k == .free && env.scope.kind == .function && env.kindOf x == some .cell) then .cell else k):=fun x=>qEl
 refine ⟨K.kind,O.globals,O.builtins,fun x h=>?_,fun x h=>?_,fun x h=>?_,fun x h=>?_,fun x h=>?_⟩
 ·rw [kof,h]; rfl
 ·rw [kof,h]; rfl
 ·rw [kof,h]; rfl
 ·rw [kof,h,Option.map_some]
  split
  ·exact .inr rfl
  ·exact .inl rfl
 ·rcases h with h | h
  ·exact absurd rfl (K.nocell _ (mem_of_lookup h))
  ·have hm:=mem_of_lookup h
   obtain ⟨c,hc⟩:=O.cells x (K.free _ hm rfl).1
   exact ⟨c,qI8 hm hc⟩
theorem qGp {inner:Scope}{t:Expr}{C:Addr}{h:Heap} (O:EnvOk env sc) (K:CompOk X sc inner t) (F:FR X ψ φ h env sc ρ):FRs (fun x=>qAE inner x ≠ some .local) X ψ φ h (compEnvC inner (closL env inner.names []) C env) inner ρ:=by
 intro x k v hx hv hn hl
 have hfree:qAE inner x=some .free:=by
  have hv:isV (qAE inner x)=true:=hv
  cases q:qAE inner x with
  | none=>rw [q] at hv; cases hv
  | some k =>
   rw [q] at hv
   cases k with
   | «local»=>exact absurd q hx
   | cell=>exact absurd rfl (K.nocell _ (mem_of_lookup q))
   | free=>rfl
   | _=>cases hv
 have hm:=mem_of_lookup hfree
 have hk:=(K.free _ hm rfl).1
 obtain ⟨y,va,r⟩:=F x k v trivial (by show isV _=true; rcases hk with q | q <;> rw [q] <;> rfl) hn hl
 refine ⟨y,?_,r⟩
 cases va with
 | «local» a b c d =>
  rcases hk with q | q
  ·rw [O.cel x q] at a; cases a
  ·rcases O.fre x q with z | z <;> rw [z] at a <;> cases a
 | @cell c a b e g =>
  refine .cell ?_ (qI8 hm b) e g
  have O':=qFN (C:=C) O K
  exact (O'.fre x hfree).symm
theorem qKU {ev:EvFn}{inner:Scope}{t elt iter:Expr}{ct:CT}{celt:CE}{ifs:List Expr}{cifs:List CE}{pos:Pos}{vs:List AV}{RR:Value→Addr→Result→Shared→Prop} (G:GW X base) (Rm:Room d A) (O:EnvOk env sc) (K:CompOk X sc inner t)
  (hct:qAl X inner t=some ct) (ht:en=true→∃ es k p,t=.Tuple es k p) (he:SndE X prog w base d ev elt celt inner) (hifs:listM₂ (fun e ce=>SndT X prog w base d ev e ce inner) ifs cifs)
  (hpψ:∀ a ∈ ψ,a ∉ pv) (S:SR X prog w base (pv ++ ψ) φ H s.heap) (it:ItR X (pv ++ ψ) φ s.heap H I pv en src xs) (F:FR X (pv ++ ψ) φ s.heap env sc ρ) (hlen:xs.length < 1000001) (hev:compLoop ev celt ct cifs H src xs ρ H=some (vs,H'))
  (hRR:∀ (D C:Addr) (s':Shared) (φ':List Addr) (va:Array Value) (n:Nat),s.heap.get? D=none→s.heap.get? C=none→D ≠ C→3 < D→D ∉ ψ→C ∉ ψ→s'={ s with heap:=s'.heap,toks:=s'.toks,drawn:=s'.drawn }→Grow pv φ φ' s.heap s'.heap→SR X prog w base (D :: C :: ψ) φ' H' s'.heap →
   s'.heap.get? D=some (seqObj "list" va n)→VRs X (D :: C :: ψ) φ' s'.heap va.toList vs→(∃ m,s'.heap.Ns C m)→RR (.ref D) C (.ok .next) s') :
  wpAny (model prog w) A (newList []) (fun acc s₃=>wpAny (model prog w) A (newFunctionEnv inner env.globals (closL env inner.names []) [] env.qual none .none (some env)) (fun cenv s₄ =>
   codeAny (model prog w) A (.compStart (.ListComp elt [⟨t,iter,ifs,0⟩] inner pos) 0 (.ref I) acc { cenv with scope:=relabel inner env }) (RR acc cenv.locals) s₄) E s₃) E s:=by
 revert G Rm O K hct ht he hifs hpψ S it F hlen hev hRR
 revert A pv ψ φ H H' s d I src xs en E env sc ρ ev inner t elt iter ct celt ifs cifs pos vs RR
 intros A pv ψ φ H H' s d I src xs en E env
 intros sc ρ ev inner t elt iter ct celt ifs cifs pos vs RR
 intro G Rm O K hct ht he hifs hpψ S it F hlen hev hRR
 refine wpAny_newObj_type (wpAny_newFunctionEnv K.nocell (by (intros y; intro hy); simp at hy) (?_) K.kind)
 intros h₁; intro hns₁ hsb₁
 dsimp only at hns₁ hsb₁ ⊢
 generalize hH2:s.heap.push { cls:=.type "list",dict:=none,data:=.seq ([]:List Value).toArray }=H2 at hns₁ hsb₁ ⊢
 have hC:H2.objs.size=s.heap.objs.size + 1:=by rw [← hH2,Heap.size_push]
 have hDC:s.heap.objs.size ≠ H2.objs.size:=by rw [hC]; exact Nat.ne_of_lt (Nat.lt_succ_self _)
 have old:∀ b o,s.heap.get? b=some o→h₁.get? b=some o:=fun b o e=>hsb₁.extBut b o (by rw [hC]; exact Nat.ne_of_lt (Nat.lt_succ_of_lt (Heap.lt_size e))) (Heap.get?_push_of_some _ (hH2 ▸ Heap.get?_push_of_some _ e))
 have hacc:h₁.get? s.heap.objs.size=some (seqObj "list" #[] 0):=hsb₁.extBut _ _ hDC (Heap.get?_push_of_some _ (hH2 ▸ Heap.get?_push_size _ rfl))
 have fresh:∀ a,s.heap.objs.size ≤ a→s.heap.get? a=none:=by
  intros a; intro ha
  cases e:s.heap.get? a with
  | none=>rfl
  | some o'=>exact absurd (Heap.lt_size e) (Nat.not_lt.mpr ha)
 have fD:=fresh s.heap.objs.size (Nat.le_refl _)
 have fC:=fresh H2.objs.size (by rw [hC]; exact Nat.le_succ _)
 have nD:∀ a ∈ pv ++ ψ,a ≠ s.heap.objs.size:=by intros a; intro ha q; (injection (S.stand a ha) with o; intro e); rw [q,fD] at e; cases e
 have nC:∀ a ∈ pv ++ ψ,a ≠ H2.objs.size:=fun a ha q=>by (injection (S.stand a ha) with o; intro e); rw [q,fC] at e; cases e
 obtain ⟨oC,esC,epC,eC,rC⟩:=hns₁
 have S1:SR X prog w base (s.heap.objs.size :: H2.objs.size :: pv ++ ψ) φ H h₁:=S.more old fun a ha=>by
  simp only [List.cons_append,List.mem_cons] at ha
  rcases ha with rfl | rfl | ha
  ·exact .inr ⟨fD,_,hacc⟩
  ·exact .inr ⟨fC,_,eC⟩
  ·exact .inl ha
 have g1:Grow [] φ φ s.heap h₁:=Grow.of_keep old
 have kψ:∀ a ∈ s.heap.objs.size :: H2.objs.size :: pv ++ ψ,a ∈ pv ++ ψ∨s.heap.get? a=none:=fun a ha=>by
  simp only [List.cons_append,List.mem_cons] at ha
  rcases ha with rfl | rfl | ha
  ·exact .inr fD
  ·exact .inr fC
  ·exact .inl ha
 have F1:FR X (s.heap.objs.size :: H2.objs.size :: pv ++ ψ) φ h₁ env sc ρ:=F.shift S g1 kψ fun a ha=>by simp only [List.cons_append,List.mem_cons]; exact .inr (.inr ha)
 have it1:ItR X (s.heap.objs.size :: H2.objs.size :: pv ++ ψ) φ h₁ H I pv en src xs:=by
  have shiftV:∀ {vs:List Value}{l:List AV},VRs X (pv ++ ψ) φ s.heap vs l→VRs X (s.heap.objs.size :: H2.objs.size :: pv ++ ψ) φ h₁ vs l:=fun r =>
   VRs.move (fun _ _ e=>e) ((by intros b o; intro e n m; exact ⟨old b o e,n,fun q=>(kψ b q).elim m fun z=>by rw [e] at z; cases z⟩)) r
  have shiftN:∀ {p:Addr}{o:Obj},s.heap.get? p=some o→p ∉ pv ++ ψ→p ∉ s.heap.objs.size :: H2.objs.size :: pv ++ ψ:=fun e m q=>(kψ _ q).elim m fun z=>by rw [e] at z; cases z
  have shiftL:∀ {J:Addr}{k:Nat}{src:Option Nat}{rest:List AV},LSrc X (pv ++ ψ) φ s.heap H J k src rest→LSrc X (s.heap.objs.size :: H2.objs.size :: pv ++ ψ) φ h₁ H J k src rest:=fun x=>by
   cases x with
   | lst es er a b c d l r=>exact .lst es er (qDx a fun o e=>old _ o e) (old _ _ b) c (shiftN b d) l (shiftV r)
   | trk es er a b c=>exact .trk es er (qDx a fun o e=>old _ o e) b c
  cases it with
  | list ep ee a=>exact .list ep ee (shiftL a)
  | tup ep ee es er a b c d l r=>exact .tup ep ee es er (qI1 a fun o e=>old _ o e) (old _ _ b) c (shiftN b d) l (shiftV r)
  | rng ep ee es er a=>exact .rng ep ee es er (old _ _ a)
  | enum ep ee er a b c=>exact .enum ep ee er (old _ _ a) b (shiftL c)
 have loop:∀ s₃:Shared,s₃={ s with heap:=h₁,toks:=s.toks + ([]:List (Str × Value)).length } →
   codeAny (model prog w) A (.compLoop (.ListComp elt [⟨t,iter,ifs,0⟩] inner pos) 0 (.ref I) (.ref s.heap.objs.size) (compEnvC inner (closL env inner.names []) H2.objs.size env))
    (RR (.ref s.heap.objs.size) H2.objs.size) s₃:=by
  rintro s₃ rfl
  refine qKT (cenv:=compEnvC inner (closL env inner.names []) H2.objs.size env) (s:={ s with heap:=h₁,toks:=s.toks + ([]:List (Str × Value)).length }) (done:=[]) Rm (qFN O K) hct ht (fun x hx=>(K.loc _ (mem_of_lookup hx) rfl).2) he hifs hDC
   (fun q=>nD _ (List.mem_append_left _ q) rfl) (fun q=>nC _ (List.mem_append_left _ q) rfl) (fun q=>nD _ (List.mem_append_right _ q) rfl) hpψ S1 it1 ⟨.head _,⟨_,oC,esC,epC,eC,rC⟩,fun x hx=>absurd rfl (K.nocell _ (mem_of_lookup hx)),fun x y c hk=>absurd rfl (K.nocell _ (mem_of_lookup hk))⟩
   (qGp O K F1) hacc .nil (by simpa using hlen) hev fun s' φ' va n cf=>?_
  ·obtain ⟨m,hm⟩:=cf.ns
   have f3:=(S.fresh_at G fun _ _ e=>e).2.2
   refine hRR _ _ s' φ' va n fD fC hDC f3 (fun q=>nD _ (List.mem_append_right _ q) rfl) (fun q=>nC _ (List.mem_append_right _ q) rfl) (by rw [cf.same]) ?_ cf.sr cf.acc (by have:=cf.rel; rw [List.nil_append] at this; exact this) ⟨m,hm⟩
   have g2:Grow (s.heap.objs.size :: H2.objs.size :: pv) φ φ' s.heap s'.heap:=(g1.more fun _ q=>qA9 q).trans cf.grow fun a ha m=>by
    rcases cf.grow.new a m with z | z
    ·exact .inl z
    ·right
     cases e:s.heap.get? a with
     | none=>rfl
     | some o=>rw [old a o e] at z; cases z
   exact g2.more fun a ha=>by
    simp only [List.mem_cons] at ha
    rcases ha with rfl | rfl | ha
    ·exact .inr fD
    ·exact .inr fC
    ·exact .inl ha
 exact codeAny_compStart_list (loop _ rfl) (qJz (s:={ s with heap:=h₁,toks:=s.toks + ([]:List (Str × Value)).length }) it1 (loop _ rfl))
end
end Mine.Internal
end
section
open PySem PySem.W PyProof.Rows
namespace Mine.Internal
section
variable {A:Around}{fr pv ψ ψ' φ φ' φ₁:List Addr}{H H' H₁ H₂ H0:AHeap}{s s₁:Shared}{d:Nat}{I:Addr}{src:Option Nat}{rest xs:List AV}{en:Bool}{v:AV}{E:Value→Shared→Prop}{env:PySem.Env}{sc:Scope}{ρ ρ':Rho}{ok:Str→Prop}
noncomputable def Taken (X:CX) (prog:Program) (w:World) (base:Heap) (ψ φ:List Addr) (s:Shared) (H1:AHeap) (src:Option Nat) (xs:List AV) (en:Bool) (it:Value) (s₂:Shared):Prop :=
 ∃ φ1 s1 I pv,Post X prog w base [] ψ φ φ1 H1 s s1∧Made X ψ φ1 H1 src xs en s1 it s₂ I pv∧xs.length < 1000001
theorem qDG {ev:EvFn}{e:Expr}{ce:CE} (Rm:Room d A) (O:EnvOk env sc) (he:SndE X prog w base d ev e ce sc) (F:FR X ψ φ s.heap env sc ρ) (S:SR X prog w base ψ φ H s.heap) (h1:ev ce ρ H=some (v,H₁)) (h2:iterE false H₁ v=some (xs,src)) :
  wpAny (model prog w) A (eval e env) (fun x s₁=>wpAny (model prog w) A (pyIter x) (Taken X prog w base ψ φ s H₁ src xs false) NoE s₁) NoE s:=by
 refine qA1 (he Rm O F S h1) fun x s1 q=>?_
 obtain ⟨φ1,p1,r1⟩:=q
 refine qA1 (qMc p1.sr r1 h2) fun it s2 M=>?_
 obtain ⟨I,pv,M⟩:=M
 exact ⟨φ1,s1,I,pv,p1,M,qGa p1.sr r1 h2⟩
theorem qDg {e:Expr}{x:Str} (h:qC1 e=some x):∃ p,e=.Name x p:=by
 cases e with
 | Name y p=>exact ⟨p,congrArg (Expr.Name · p) (Option.some.inj h)⟩
 | _=>exact qA3 h
inductive EnumIs (X:CX) (sc:Scope) (e a:Expr):Prop
 | mk (p pos:Pos) (z:e=.Call (.Name ("enumerate":Str) p) [a] [] pos) (hk:qAE sc ("enumerate":Str)=some .globalImplicit) (hg:nsIn X.K mainGlobals ("enumerate":Str)=some none) (hs:qAs a=false)
theorem qDm {e a:Expr} (h:qCg X sc e=some a):EnumIs X sc e a:=by
 revert h
 revert sc e a
 intros sc e a
 intro h
 cases e with
 | Call f as ks pos =>
  revert h; revert f as ks pos; intros f as ks pos; intro h
  (injection (qA0 h) with x; rintro ⟨hx,h⟩)
  (injection (qA0 h) with y; rintro ⟨hy,h⟩)
  obtain ⟨hk,h⟩:=qAA h
  obtain rfl:=Option.some.inj h
  (injection (qDg hx) with p; rintro rfl)
  obtain rfl:=qBM hy
  have k1:=Bool.and_eq_true_iff.mp hk
  have k2:=Bool.and_eq_true_iff.mp k1.1
  have k3:=Bool.and_eq_true_iff.mp k2.1
  have k4:=Bool.and_eq_true_iff.mp k3.1
  obtain rfl:=List.isEmpty_iff.mp k1.2
  obtain rfl:=beq_iff_eq.mp k4.1
  exact ⟨p,pos,rfl,beq_iff_eq.mp k4.2,beq_iff_eq.mp k3.2,(Bool.not_eq_true' _).mp k2.2⟩
 | _=>exact qA3 h
theorem qG8 (G:GW X base) {ev:EvFn}{e a:Expr}{ce:CE} (Rm:Room d A) (O:EnvOk env sc) (ha:qCg X sc e=some a) (he:SndE X prog w base d ev a ce sc) (F:FR X ψ φ s.heap env sc ρ) (S:SR X prog w base ψ φ H s.heap) (h1:ev ce ρ H=some (v,H₁))
  (h2:iterE true H₁ v=some (xs,src)) :
  wpAny (model prog w) A (eval e env) (fun x s₁=>wpAny (model prog w) A (pyIter x) (Taken X prog w base ψ φ s H₁ src xs true) NoE s₁) NoE s:=by
 obtain ⟨p,pos,rfl,hk,hg,hstar⟩:=qDm ha
 refine Call_Name (qBi (show (qAs a || false)=false by rw [hstar]; rfl)) (qD5 G O S hk hg (v:=.type "enumerate") (by decide +kernel) (by decide) (by decide) ?_)
 refine PyProof.Rows.callWith_type (qBD [a]) (qBH ?_)
 refine PySem.Calls.spliced_cons (qA1 (he Rm O F S h1) fun x s1 q=>PySem.Calls.spliced_nil ?_)
 obtain ⟨φ1,p1,r1⟩:=q
 refine qA1 (qKK p1.sr r1 h2) fun it s2 M=>?_
 obtain ⟨I,pv,M⟩:=M
 rw [M.it]
 exact qJz M.rel ⟨φ1,s1,I,pv,p1,⟨rfl,M.own,M.fresh,M.there,M.same,M.keep,M.rel⟩,qGa p1.sr r1 h2⟩
theorem qJe {e:Expr} (h:∀ a b c,e ≠ .Set a b c) (x:Value):foldedSetIterable e env x=pure x:=by
 cases e with
 | Set a b c=>exact absurd rfl (h _ _ _)
 | _=>rfl
theorem qC6 {ev:EvFn}{celt:CE}{ct:CT}{cifs:List CE}:∀ {xs:List AV}{ρ:Rho}{H H':AHeap}{vs:List AV},compLoop ev celt ct cifs H₁ src xs ρ H=some (vs,H')→vs.length ≤ xs.length
 | [],ρ,H,H',vs,h=>by
  obtain ⟨_,h⟩:=qAA h
  rw [← (qA7 h).1]; exact Nat.le_refl _
 | x :: xs,ρ,H,H',vs,h=>by
  obtain ⟨_,h⟩:=qAA h
  obtain ⟨ρ1,_,h⟩:=qA0 h
  obtain ⟨b,H4,_,h⟩:=qA6 h
  cases b with
  | true =>
   rw [if_pos rfl] at h
   obtain ⟨v5,H5,_,h⟩:=qA6 h
   obtain ⟨vs6,H6,h4,h⟩:=qA6 h
   rw [← (qA7 h).1]
   exact Nat.succ_le_succ (qC6 h4)
  | false =>
   rw [if_neg Bool.false_ne_true] at h
   exact Nat.le_succ_of_le (qC6 h)
theorem qI7 (trk:Bool) (G:GW X base) (Rm:Room d A) (O:EnvOk env sc) {ev:EvFn}{inner:Scope}{t elt iter:Expr}{ct:CT}{celt:CE}{ifs:List Expr}{cifs:List CE}{pos p0:Pos}{vs:List AV}{use:Option (Value→Sem Unit)}{Q:Value→Shared→Prop} (K:CompOk X sc inner t)
  (hct:qAl X inner t=some ct) (ht:en=true→∃ es k p,t=.Tuple es k p) (he:SndE X prog w base d ev elt celt inner) (hifs:listM₂ (fun e ce=>SndT X prog w base d ev e ce inner) ifs cifs) (hns:∀ a b c,iter ≠ .Set a b c)
  (F:FR X ψ φ s.heap env sc ρ) (S:SR X prog w base ψ φ H s.heap)
  (hit:wpAny (model prog w) A (eval iter env) (fun x s₁=>wpAny (model prog w) A (pyIter x) (Taken X prog w base ψ φ s H₁ src xs en) NoE s₁) NoE s) (hev:compLoop ev celt ct cifs H₁ src xs ρ H₁=some (vs,H'))
  (hQ:∀ (D C:Addr) (s':Shared) (φ':List Addr),C ∉ ψ→s.heap.get? C=none→s'={ s with heap:=s'.heap,toks:=s'.toks,drawn:=s'.drawn }→Grow [] φ φ' s.heap s'.heap→SR X prog w base (C :: ψ) φ' (qAC trk vs H').2 s'.heap→VR X (C :: ψ) φ' s'.heap (.ref D) (qAC trk vs H').1 →
   (∃ m,s'.heap.Ns C m)→vs.length < 1000001→compPost (model prog w) A NoE use Q (.ref D) C (.ok .next) s') :
  wpAny (model prog w) A (comprehension (.ListComp elt [⟨t,iter,ifs,0⟩] inner pos) inner env p0 (newList []) false (eval iter env) use) Q NoE s:=by
 revert G Rm O K hct ht he hifs hns F S hit hev hQ
 revert A ψ φ H H' H₁ s d src xs en env sc ρ trk ev inner t elt iter ct celt ifs cifs pos p0 vs use Q
 intros A ψ φ H H' H₁ s d src xs en env sc ρ
 intros trk ev inner t elt iter ct celt ifs cifs pos p0 vs use Q
 intro G Rm O K hct ht he hifs hns F S hit hev hQ
 refine wpAny_comprehension_free (use:=use) (cl:=closL env inner.names []) rfl (qJe hns) (qMm fun x hx=>?_) K.kind (fun x hx hl=>(K.loc x hx hl).1) (qA1 hit fun x s₁ h₁=>qA1 h₁ fun it s₂ h₂=>?_)
 ·exact O.cells x (K.free _ hx rfl).1
 obtain ⟨φ1,s1,I,pv,p1,M,hlen⟩:=h₂
 have hpψ:∀ a ∈ ψ,a ∉ pv:=fun a ha q=>by obtain ⟨o,e⟩:=p1.sr.stand a ha; rw [M.fresh a q] at e; cases e
 have S2:=M.sr p1.sr
 have F1:=FRs.post F S p1
 have F2:FR X (pv ++ ψ) φ1 s₂.heap env sc ρ:=F1.shift p1.sr (Grow.of_keep M.keep) (fun a ha=>by
  rcases List.mem_append.mp ha with q | q
  ·exact .inr (M.fresh a q)
  ·exact .inl q) fun a ha=>List.mem_append_right _ ha
 rw [M.it]
 have hl:vs.length < 1000001:=Nat.lt_of_le_of_lt (qC6 hev) hlen
 refine qKU (RR:=compPost (model prog w) A NoE use Q) G Rm O K hct ht he hifs hpψ S2 M.rel F2 hlen hev fun D C s' φ' va n hD hC hDC h3 hDψ hCψ hsame g sr acc rel ns=>?_
 have back:∀ {a:Addr},s₂.heap.get? a=none→s.heap.get? a=none∨a ∈ φ:=fun {a} e=>by
  cases q:s.heap.get? a with
  | none=>exact .inl rfl
  | some o =>
   by_cases hm:a ∈ φ
   ·exact .inr hm
   ·have:=M.keep a o (p1.grow.kept a o q hm (fun z=>qA9 z))
    rw [e] at this; cases this
 have hCs:s.heap.get? C=none:=by
  rcases back hC with q | q
  ·exact q
  ·obtain ⟨o,e⟩:=p1.sr.there (List.IsPrefix.subset p1.grow.pre q)
   rw [M.keep _ _ e] at hC; cases hC
 have hDs:s.heap.get? D=none:=by
  rcases back hD with q | q
  ·exact q
  ·obtain ⟨o,e⟩:=p1.sr.there (List.IsPrefix.subset p1.grow.pre q)
   rw [M.keep _ _ e] at hD; cases hD
 have grows:∀ {φ3:List Addr},φ' <+: φ3→(∀ a ∈ φ3,a ∈ φ'∨a=D)→Grow [] φ φ3 s.heap s'.heap:=fun hp hn=>by
  have g02:Grow [] φ φ1 s.heap s₂.heap:=p1.grow.trans0 (Grow.of_keep M.keep)
  have g2:Grow pv φ φ' s.heap s'.heap:=(g02.more fun _ q=>qA9 q).trans g fun a ha m=>by
   rcases g.new a m with z | z
   ·rcases p1.grow.new a z with y | y
    ·exact .inl y
    ·exact .inr y
   ·exact (back z).symm
  have g3:Grow [] φ φ' s.heap s'.heap:=g2.more fun a ha=>.inr (by
   cases q:s.heap.get? a with
   | none=>rfl
   | some o =>
    have hm:a ∉ φ:=fun m=>by
     obtain ⟨o',e⟩:=p1.sr.there (List.IsPrefix.subset p1.grow.pre m)
     rw [M.fresh a ha] at e; cases e
    have:=p1.grow.kept a o q hm (fun z=>qA9 z)
    rw [M.fresh a ha] at this; cases this)
  exact ⟨g3.pre.trans hp,fun a m=>by
   rcases hn a m with z | rfl
   ·exact g3.new a z
   ·exact .inr hDs,fun b o e n nb=>g3.kept b o e n nb⟩
 obtain ⟨φ3,hp,hn,sr3,r3⟩:=promote trk sr acc rel hl h3 (fun m=>(List.mem_cons.mp m).elim hDC hDψ)
 exact hQ D C s' φ3 hCψ hCs (by rw [hsame,M.same,p1.same]) (grows hp hn) sr3 r3 ns hl
theorem qIr (trk:Bool) (G:GW X base) (Rm:Room d A) (O:EnvOk env sc) {ev:EvFn}{inner:Scope}{t elt iter:Expr}{ct:CT}{celt:CE}{ifs:List Expr}{cifs:List CE}{pos:Pos}{vs:List AV} (K:CompOk X sc inner t)
  (hct:qAl X inner t=some ct) (ht:en=true→∃ es k p,t=.Tuple es k p) (he:SndE X prog w base d ev elt celt inner) (hifs:listM₂ (fun e ce=>SndT X prog w base d ev e ce inner) ifs cifs) (hns:∀ a b c,iter ≠ .Set a b c)
  (F:FR X ψ φ s.heap env sc ρ) (S:SR X prog w base ψ φ H s.heap)
  (hit:wpAny (model prog w) A (eval iter env) (fun x s₁=>wpAny (model prog w) A (pyIter x) (Taken X prog w base ψ φ s H₁ src xs en) NoE s₁) NoE s) (hev:compLoop ev celt ct cifs H₁ src xs ρ H₁=some (vs,H')) :
  wpAny (model prog w) A (eval (.ListComp elt [⟨t,iter,ifs,0⟩] inner pos) env) (Out X prog w base ψ φ s (qAC trk vs H').1 (qAC trk vs H').2) NoE s:=by
 rw [eval_ListComp]
 refine qI7 (use:=none) trk G Rm O K hct ht he hifs hns F S hit hev fun D C s' φ' hCψ hCs hsame g sr r ns hl=>?_
 obtain ⟨m,hm⟩:=ns
 refine ⟨m,hm,fun h' hs=>?_⟩
 have kp:∀ b o,b ∉ [C]→s'.heap.get? b=some o→h'.get? b=some o:=fun b o nb e=>(hs.2 b (by simpa using nb)).trans e
 have hpv:∀ a ∈ [C],a ∈ C :: ψ:=fun a ha=>by rw [List.mem_singleton.mp ha]; exact .head _
 have sr':=sr.left (ψ':=ψ) kp hpv (fun a q=>.tail _ q) fun a ha q=>hCψ (by rw [List.mem_singleton.mp q] at ha; exact ha)
 refine ⟨φ',⟨by rw [hsame],⟨g.pre,g.new,fun b o e n nb=>kp b o (fun q=>?_) (g.kept b o e n nb)⟩,sr'⟩,r.left kp hpv fun a q=>.tail _ q⟩
 rw [List.mem_singleton.mp q,hCs] at e; cases e
end
end Mine.Internal
end
section
open PySem PySem.W PyProof.Rows
namespace Mine.Internal
section
variable {A:Around}{fr pv ψ ψ' φ φ' φ₁:List Addr}{H H' H₁ H₂ H0:AHeap}{s s₁:Shared}{d:Nat}{I:Addr}{src:Option Nat}{rest xs:List AV}{en:Bool}{v:AV}{E:Value→Shared→Prop}{env:PySem.Env}{sc:Scope}{ρ ρ':Rho}{ok:Str→Prop}
theorem qFr {ev:EvFn} (R:Room d A) (O:EnvOk env sc) {pos:Pos} :
  ∀ {ks:List (Option Expr)}{es:List Expr}{cks ces:List CE}{kvs:List (AV × AV)}{H H':AHeap}{φ:List Addr}{s:Shared},listM₂ (fun (k:Option Expr) ck=>∃ e,k=some e∧SndE X prog w base d ev e ck sc) ks cks →
   listM₂ (fun e ce=>SndE X prog w base d ev e ce sc) es ces→FR X ψ φ s.heap env sc ρ→SR X prog w base ψ φ H s.heap→qB6 ev cks ces ρ H=some (kvs,H')→ks.length=es.length →
   wpAny (model prog w) A (evalPairs (pairTrees ks es env pos)) (fun vs s'=>∃ φ',Post X prog w base [] ψ φ φ' H' s s'∧VRs X ψ φ' s'.heap (vs.map (·.1)) (kvs.map (·.1))∧VRs X ψ φ' s'.heap (vs.map (·.2)) (kvs.map (·.2))) NoE s:=by
 revert R O
 revert A ψ d env sc ρ ev pos
 intros A ψ d env sc ρ ev pos
 intro R O
 intros ks
 induction ks with
 | nil =>
  (intros es cks ces kvs H H' φ s; intro hk he F S e hl)
  obtain rfl:=List.eq_nil_of_length_eq_zero hl.symm
  cases cks with
  | cons=>exact hk.elim
  | nil =>
   cases ces with
   | cons=>exact he.elim
   | nil =>
    cases e
    exact pairTrees_nil_walk ⟨φ,Post.refl S,.nil,.nil⟩
 | cons k ks ih =>
  revert ih; revert k ks; intros k ks; intro ih
  (intros es cks ces kvs H H' φ s; intro hk he F S h hl)
  cases es with
  | nil=>exact nomatch hl
  | cons e es =>
  revert he hl; revert e es; intros e es; intro he hl
  cases cks with
  | nil=>exact hk.elim
  | cons ck cks =>
  revert hk h; revert ck cks; intros ck cks; intro hk h
  cases ces with
  | nil=>exact he.elim
  | cons ce ces =>
  revert he h; revert ce ces; intros ce ces; intro he h
  (injection (qA6 (qDk.symm.trans h)) with kv H1; rintro ⟨h1,h⟩)
  (injection (qA6 h) with v H2; rintro ⟨h2,h⟩)
  (injection (qA6 h) with vs H3; rintro ⟨h3,h⟩)
  obtain ⟨rfl,rfl⟩:=qA7 h
  obtain ⟨⟨ke,rfl,hk1⟩,hk2⟩:=hk
  refine pairTrees_cons_walk (qA1 (hk1 R O F S h1) ?_)
  intros x s1; intro q
  (injection (q) with φ1; try clear q; rintro ⟨p1,r1⟩)
  have F1:=FRs.post F S p1
  refine qA1 (he.1 R O F1 p1.sr h2) ?_
  intros y s2; intro q
  (injection (q) with φ2; try clear q; rintro ⟨p2,r2⟩)
  refine qA1 (ih hk2 he.2 (FRs.post F1 p1.sr p2) p2.sr h3 (Nat.succ.inj hl)) ?_
  intros zs s3; intro q
  (injection (q) with φ3; try clear q; rintro ⟨p3,r3,r4⟩)
  exact ⟨φ3,(p1.trans p2).trans p3,.cons ((r1.grow0 p2.grow).grow0 p3.grow) r3,.cons (r2.grow0 p3.grow) r4⟩
inductive DictKeys (X:CX) (prog:Program) (w:World) (ψ φ:List Addr) (h:Heap) (vs:List (Value × Value)) (r:List (Nat × AV)):Prop
 | mk (ks:List Nat) (ss:List Str) (l:List AV) (z:r=ks.zip l) (e1:ks.length=l.length) (e2:ks.map (X.names[·]?)=ss.map some) (e3:ss.length=vs.length) (e4:ks.Nodup) (e5:VRs X ψ φ h (vs.map (·.2)) l) (e6:Carries (PySem.strKind prog w) vs (ss.zip (vs.map (·.2))))
theorem qMF {ks:List Nat}{l:List AV}{n:Nat} (e:ks.length=l.length) (h:(ks.zip l).any (·.1 == n)=false):n ∉ ks:=fun m=>by
 obtain ⟨i,hi,ei⟩:=List.getElem_of_mem m
 have:=List.any_eq_false.mp h (ks[i],l[i]'(e ▸ hi)) (List.mem_of_getElem? (i:=i) (by rw [List.getElem?_zip_eq_some]; exact ⟨List.getElem?_eq_getElem hi,List.getElem?_eq_getElem (e ▸ hi)⟩))
 exact this (by rw [ei]; exact beq_self_eq_true n)
theorem qFI {h:Heap}:∀ {kvs:List (AV × AV)}{vs:List (Value × Value)}{r:List (Nat × AV)},VRs X ψ φ h (vs.map (·.1)) (kvs.map (·.1))→VRs X ψ φ h (vs.map (·.2)) (kvs.map (·.2))→qBI kvs=some r→DictKeys X prog w ψ φ h vs r
 | [],vs,r,q,_,e=>by
  obtain rfl:=List.map_eq_nil_iff.mp (show vs.map (·.1)=[] from q)
  exact ⟨[],[],[],(Option.some.inj e).symm,rfl,rfl,rfl,List.nodup_nil,.nil,trivial⟩
 | p :: kvs,[],r,q,_,e=>by obtain ⟨_,_,z,_⟩:=q; exact nomatch z
 | p :: kvs,v :: vs,r,q,q',e=>by
  obtain ⟨kv,ws,z,rk,rks⟩:=q
  obtain ⟨rfl,rfl⟩:=List.cons.inj z
  obtain ⟨vv,ws,z,rv,rvs⟩:=q'
  obtain ⟨rfl,rfl⟩:=List.cons.inj z
  obtain ⟨n,hn,e⟩:=qA0 e
  obtain ⟨r',h1,e⟩:=qA0 e
  obtain ⟨ks,ss,l,rfl,e1,e2,e3,e4,e5,e6⟩:=qFI rks rvs h1
  obtain ⟨x,t,hv,hx⟩:=(qBY hn ▸ rk:VR X ψ φ h v.1 (.str n))
  cases ha:(ks.zip l).any (·.1 == n) with
  | true=>rw [ha] at e; exact qA3 e
  | false =>
   rw [ha] at e
   refine ⟨n :: ks,x :: ss,p.2 :: l,(Option.some.inj e).symm,congrArg (· + 1) e1,congr (congrArg List.cons hx) e2,congrArg (· + 1) e3,List.nodup_cons.mpr ⟨qMF e1 ha,e4⟩,.cons rv e5,?_⟩
   obtain ⟨a,b⟩:=v
   obtain rfl:a=.str x t:=hv
   exact ⟨qDW x t,rfl,e6⟩
theorem qES {ev:EvFn}:∀ {cks ces:List CE}{kvs:List (AV × AV)}{H H':AHeap},qB6 ev cks ces ρ H=some (kvs,H')→kvs.length ≤ cks.length
 | [],ces,kvs,H,H',h=>by
  cases ces with
  | nil=>rw [← (qA7 (show some ([],H)=some (kvs,H') from h)).1]; exact Nat.le_refl _
  | cons=>exact qA3 h
 | c :: cks,ces,kvs,H,H',h=>by
  cases ces with
  | nil=>exact qA3 h
  | cons c' ces =>
   obtain ⟨kv,H1,_,h⟩:=qA6 (qDk.symm.trans h)
   obtain ⟨v,H2,_,h⟩:=qA6 h
   obtain ⟨vs,H3,h3,h⟩:=qA6 h
   rw [← (qA7 h).1]
   exact Nat.succ_le_succ (qES h3)
theorem listM₂_len {α β:Type}{R:α→β→Prop}:∀ {l:List α}{r:List β},listM₂ R l r→l.length=r.length
 | [],[],_=>rfl
 | _ :: _,_ :: _,h=>congrArg (· + 1) (listM₂_len h.2)
 | [],_ :: _,h=>h.elim
 | _ :: _,[],h=>h.elim
theorem qC2 {K:Type} [DecidableEq K]:∀ {kvs acc:List (K × Value)},((acc ++ kvs).map (·.1)).Nodup→merged acc kvs=acc ++ kvs
 | [],acc,_=>by simp [merged]
 | (k,v) :: r,acc,h=>by
  have h1:stored acc k v=acc ++ [(k,v)]:=by
   unfold stored
   rw [if_neg]
   intro q
   obtain ⟨p,hp,e⟩:=List.any_eq_true.mp q
   rw [List.map_append,List.nodup_append] at h
   exact h.2.2 p.1 (List.mem_map_of_mem hp) k (by simp) (by simpa using e)
  show merged (stored acc k v) r=_
  rw [h1,qC2 (by simpa using h),List.append_assoc]; rfl
theorem qIo (G:GW X base) {ev:EvFn} (R:Room d A) (O:EnvOk env sc) {pos:Pos}{ks:List (Option Expr)}{es:List Expr}{cks ces:List CE}{kvs:List (AV × AV)}{r:List (Nat × AV)} (hk:listM₂ (fun (k:Option Expr) ck=>∃ e,k=some e∧SndE X prog w base d ev e ck sc) ks cks)
  (he:listM₂ (fun e ce=>SndE X prog w base d ev e ce sc) es ces) (hl:ks.length=es.length) (h0:ks ≠ []) (hlen:ks.length < 9) (F:FR X ψ φ s.heap env sc ρ) (S:SR X prog w base ψ φ H s.heap) (h1:qB6 ev cks ces ρ H=some (kvs,H')) (h2:qBI kvs=some r) :
  wpAny (model prog w) A (eval (.Dict ks es pos) env) (Out X prog w base ψ φ s (.ref H'.length) (H' ++ [.dictS r])) NoE s:=by
 have hall:ks.all (·.isSome)=true:=by
  clear hl h0 hlen h1
  induction ks generalizing cks with
  | nil=>rfl
  | cons k ks ih =>
   cases cks with
   | nil=>exact hk.elim
   | cons c cks =>
    obtain ⟨⟨e,rfl,_⟩,h⟩:=hk
    rw [List.all_cons,ih h]; rfl
 have hpl:=pairTrees_length ks es env pos hall hl
 refine wpAny_Dict_pairs (knd:=PySem.strKind prog w) (zip_pairTrees ks es env pos hall hl) (fun e=>h0 (List.length_eq_zero_iff.mp (by rw [← hpl,e]; rfl))) (by rw [hpl]; omega) ?_
 have fD:s.heap.get? s.heap.objs.size=none:=qAc fun _ _ e=>e
 have f3:=(S.fresh_at G fun _ _ e=>e).2.2
 have nD:s.heap.objs.size ∉ ψ:=S.out fun _ _ e=>e
 have kp:∀ b o,s.heap.get? b=some o→(s.heap.push { cls:=.type "dict",data:=.dict #[] }).get? b=some o:=qAo _ _
 have D0:=Heap.DictOf.new (knd:=PySem.strKind prog w) s.heap
 have kψ:∀ a ∈ s.heap.objs.size :: ψ,a ∈ ψ∨(s.heap.get? a=none∧∃ o,(s.heap.push { cls:=.type "dict",data:=.dict #[] }).get? a=some o):=fun a ha=>by
  rcases List.mem_cons.mp ha with rfl | ha
  ·exact .inr ⟨fD,_,Heap.get?_push_size _ rfl⟩
  ·exact .inl ha
 have S1:SR X prog w base (s.heap.objs.size :: ψ) φ H (s.heap.push { cls:=.type "dict",data:=.dict #[] }):=S.more kp kψ
 have F1:FR X (s.heap.objs.size :: ψ) φ (s.heap.push { cls:=.type "dict",data:=.dict #[] }) env sc ρ:=F.shift S (Grow.of_keep kp) (fun a ha=>(kψ a ha).imp id (·.1)) fun a ha=>.tail _ ha
 refine qA1 (qFr (s:={ s with heap:=s.heap.push { cls:=.type "dict",data:=.dict #[] } }) R O hk he F1 S1 h1 hl) fun vs s2 q=>?_
 obtain ⟨φ2,p2,r1,r2⟩:=q
 obtain ⟨kn,ss,l,rfl,e1,e2,e3,e4,e5,e6⟩:=qFI r1 r2 h2
 have ndS:ss.Nodup:=by
  have:(ss.map some).Nodup:=by
   rw [← e2]
   rw [List.Nodup,List.pairwise_map] at *
   refine List.Pairwise.imp_of_mem (fun {a b} ha hb hab z=>hab ?_) e4
   have hlt:a < X.names.length:=by
    have:X.names[a]? ∈ ss.map some:=by rw [← e2]; exact List.mem_map_of_mem ha
    obtain ⟨x,_,hx⟩:=List.mem_map.mp this
    exact (List.getElem?_eq_some_iff.mp hx.symm).1
   exact (List.getElem?_inj hlt G.nd).mp z
  exact (List.pairwise_map.mp this).imp fun h e=>h (congrArg some e)
 have hm:merged [] (ss.zip (vs.map (·.2)))=ss.zip (vs.map (·.2)):=by
  rw [qC2 (by rw [List.nil_append,List.map_fst_zip (by simp [e3])]; exact ndS)]; rfl
 refine ⟨ss.zip (vs.map (·.2)),e6,D0.at fun o e=>p2.grow.kept _ o e (fun m=>(S1.fresh _ m).2.2 (.head _)) (fun q=>qA9 q),fun h' hd hs=>?_⟩
 rw [hm] at hd
 have kp2:∀ b o,b ∉ [s.heap.objs.size]→s2.heap.get? b=some o→h'.get? b=some o:=fun b o nb e=>(hs.2 b (by simpa using nb)).trans e
 have p3:=Post.priv (k:=s2.toks + vs.length) p2.sr (pv:=[s.heap.objs.size]) (fun a ha=>by rw [List.mem_singleton.mp ha]; exact .head _) kp2 fun a ha=>by
  rw [List.mem_singleton.mp ha]; obtain ⟨o,_,_,e,_⟩:=hd; exact ⟨o,e⟩
 have hD2:s.heap.objs.size ∉ φ2:=fun m=>(p2.sr.fresh _ m).2.2 (.head _)
 have rl:VRs X ψ (φ2 ++ [s.heap.objs.size]) h' (vs.map (·.2)) l:=VRs.move (fun _ _ e=>qBw (List.prefix_append _ _) e) (fun b o e n m=>⟨kp2 b o (fun q=>m (by rw [List.mem_singleton.mp q]; exact .head _)) e,fun q=>by
   rcases List.mem_append.mp q with q | q
   ·exact n q
   ·exact m (by rw [List.mem_singleton.mp q]; exact .head _),fun q=>m (.tail _ q)⟩) e5
 have hkn:kn.length=ss.length:=by have:=congrArg List.length e2; simpa using this
 have hvl:vs.length < 9:=by
  have h3:vs.length=kvs.length:=by have:=r1.length; rwa [List.length_map,List.length_map] at this
  rw [h3]
  exact Nat.lt_of_le_of_lt (qES h1) (listM₂_len hk ▸ hlen)
 have sr4:=p3.sr.promote f3 nD (.dictS (ss:=ss) hd e2 (by simp [e3]) (by omega) rl)
 refine ⟨φ2 ++ [s.heap.objs.size],⟨by rw [p2.same],?_,sr4⟩,.ref (by rw [← p2.sr.len]; simp)⟩
 refine ⟨p2.grow.pre.trans (List.prefix_append _ _),fun a m=>?_,fun b o e n _=>?_⟩
 ·rcases List.mem_append.mp m with m | m
  ·rcases p2.grow.new a m with z | z
   ·exact .inl z
   ·right
    cases q:s.heap.get? a with
    | none=>rfl
    | some o=>rw [kp a o q] at z; cases z
  ·rw [List.mem_singleton.mp m]; exact .inr fD
 ·exact kp2 b o (fun q=>by rw [List.mem_singleton.mp q,fD] at e; cases e) (p2.grow.kept b o (kp b o e) n (fun q=>qA9 q))
end
end Mine.Internal
end
section
open PySem PySem.W PyProof.Rows
namespace Mine.Internal
noncomputable def Snd (X:CX) (prog:Program) (w:World) (base:Heap) (d:Nat) (ev:EvFn) (e:Expr) (ce:CE) (sc:Scope):Prop:=SndE X prog w base d ev e ce sc∧SndT X prog w base d ev e ce sc
noncomputable def SndBi (X:CX) (prog:Program) (w:World) (base:Heap) (d:Nat):Prop :=
 ∀ {A:Around}{b:BI}{trk:Bool}{xs:List Value}{as:List AV}{r:AV × AHeap}{ψ φ:List Addr}{H:AHeap}{s:Shared},Room d A→SR X prog w base ψ φ H s.heap→VRs X ψ φ s.heap xs as→biAV b trk as H=some r →
  wpAny (model prog w) A (call (biVal b) xs) (Out X prog w base ψ φ s r.1 r.2) NoE s
section
variable {A:Around}{fr pv ψ ψ' φ φ' φ₁:List Addr}{H H' H₁ H₂ H0:AHeap}{s s₁:Shared}{d:Nat}{v:AV}{E:Value→Shared→Prop}{env:PySem.Env}{sc:Scope}{ρ ρ':Rho}{cf:qAQ}{m:Nat}
theorem qL1 {e:Expr}{ce:CE}:Snd X prog w base d (evE P cf 0) e ce sc:=⟨fun _ _ _ _ e=>(qA3 e),fun _ _ _ _ e=>(qA3 e)⟩
theorem VR.isBool {h:Heap}{x:Value}{a:AV}{b:Bool} (r:VR X ψ φ h x a) (e:qAY a=some b):x=.bool b:=by
 rw [qAW e] at r
 exact r
theorem qMJ {ev:EvFn}{e:Expr}{ce:CE} (h:SndE X prog w base d ev e ce sc) (hp:∀ (env:PySem.Env) (whole:Sem Value),isTrue e env whole=(do let v ← whole; standAt e.pos; holding [v] (truthy v))):SndT X prog w base d ev e ce sc:=by
 intro A env ρ ψ φ H H' s v b R O F S e hb
 obtain rfl:=qAW hb
 refine isTrue_plain (qA1 (h R O F S e) fun x s1 q=>?_) (hp env _)
 obtain ⟨φ1,p1,r1⟩:=q
 cases r1
 exact wpAny_truthy_bool ⟨rfl,φ1,p1⟩
theorem qBZ {ev:EvFn}{e:Expr}{ce:CE} (h:SndE X prog w base d ev e ce sc) (hp:∀ (env:PySem.Env) (whole:Sem Value),isTrue e env whole=(do let v ← whole; standAt e.pos; holding [v] (truthy v))):Snd X prog w base d ev e ce sc:=⟨h,qMJ h hp⟩
theorem listM₂_fst {ev:EvFn}:∀ {es:List Expr}{ces:List CE},listM₂ (fun e ce=>Snd X prog w base d ev e ce sc) es ces→listM₂ (fun e ce=>SndE X prog w base d ev e ce sc) es ces
 | [],[],h=>h
 | _ :: _,_ :: _,h=>⟨h.1.1,listM₂_fst h.2⟩
 | [],_ :: _,h=>h
 | _ :: _,[],h=>h
theorem listM₂_snd {ev:EvFn}:∀ {es:List Expr}{ces:List CE},listM₂ (fun e ce=>Snd X prog w base d ev e ce sc) es ces→listM₂ (fun e ce=>SndT X prog w base d ev e ce sc) es ces
 | [],[],h=>h
 | _ :: _,_ :: _,h=>⟨h.1.2,listM₂_snd h.2⟩
 | [],_ :: _,h=>h
 | _ :: _,[],h=>h
theorem qCj {n:Nat}{e:Expr}{c:CE} (h:cmpE X n sc e=some c):∀ a b k,e ≠ .Set a b k:=by
 rintro a b k rfl
 cases n <;> exact qA3 h
theorem qFx {n:Nat}{e:Expr}{c:CE} (h:cmpE X n sc e=some c):∀ a b s p,e ≠ .Slice a b s p:=by
 rintro a b s p rfl
 cases n <;> exact qA3 h
theorem qLG {op:CmpOp}{r:Expr} (h:∀ a b k,r ≠ .Set a b k):behindInMarks op r=false:=by
 cases r with
 | Set a b k=>exact absurd rfl (h _ _ _)
 | _=>rfl
theorem qIq {M:Model}{k:Nat}{p:Pos}{Q:Value→Shared→Prop} (h:Q .none s):wpAny M A (eval (.Constant .none k p) env) Q E s:=fun _ _ _=>h
theorem s_lit {c:Const}{a:AV}{k:Nat}{pos:Pos} (hc:qKS X c=some a):Snd X prog w base d (evE P cf (m + 1)) (.Constant c k pos) (.lit a) sc:=by
 refine qBZ ?_ fun _ _=>rfl
 intro A env ρ ψ φ H H' s v R O F S e
 obtain ⟨rfl,rfl⟩:=qA7 (show some (a,H)=some (v,H') from e)
 cases c with
 | int i=>cases Option.some.inj hc; exact fun _ _ _=>qBQ S
 | bool b=>cases Option.some.inj hc; exact fun _ _ _=>qAR S
 | none=>cases Option.some.inj hc; exact fun _ _ _=>qAz S .none
 | str x =>
  obtain ⟨i,hx,rfl⟩:=qA4 hc
  exact PySem.Calls.Constant_str (qBl S (.str _ (qBm hx)))
 | _=>exact qA3 hc
theorem s_var {x:Str}{i:Nat}{pos:Pos} (hv:isVar sc x=true) (hd:(x == ("__debug__":Str))=false) (hc:(x == ("__classdict__":Str))=false) (hx:nid X.names x=some i):Snd X prog w base d (evE P cf (m + 1)) (.Name x pos) (.var i) sc:=by
 refine qBZ ?_ fun _ _=>rfl
 intro A env ρ ψ φ H H' s v R O F S e
 obtain ⟨u,hl,e⟩:=qA4 (show (ρ.lookup i).map (fun v=>(v,H))=some (v,H') from e)
 cases e
 obtain ⟨y,va,r⟩:=F x i _ trivial hv hx hl
 exact wpAny_Name (qIa O.kind va hc (qAz S r)) hd
theorem s_bin (G:GW X base) {l r:Expr}{a b:CE}{o:Operator}{op:BOp}{trk:Bool}{pos:Pos} (ho:bOp o=some op) (hl:Snd X prog w base d (evE P cf m) l a sc) (hr:Snd X prog w base d (evE P cf m) r b sc) :
  Snd X prog w base d (evE P cf (m + 1)) (.BinOp l o r pos) (.bin op trk a b) sc:=by
 refine qBZ ?_ fun _ _=>rfl
 intro A env ρ ψ φ H H' s v R O F S e
 obtain ⟨x,H1,h1,e⟩:=qA6 e
 obtain ⟨y,H2,h2,e⟩:=qA6 e
 obtain ⟨z,h3,e⟩:=qA4 e
 obtain rfl:_=v:=congrArg Prod.fst e
 obtain rfl:_=H':=congrArg Prod.snd e
 refine wpAny_BinOp (qA1 (hl.1 R O F S h1) fun xv s1 q=>?_)
 obtain ⟨φ1,p1,r1⟩:=q
 refine qA1 (hr.1 R O (FRs.post F S p1) p1.sr h2) fun yv s2 q=>?_
 obtain ⟨φ2,p2,r2⟩:=q
 exact wp_step (p1.trans p2) (qKb G ho p2.sr (r1.grow0 p2.grow) r2 h3)
theorem s_neg {a:Expr}{ca:CE}{pos:Pos} (ha:Snd X prog w base d (evE P cf m) a ca sc):Snd X prog w base d (evE P cf (m + 1)) (.UnaryOp .USub a pos) (.neg ca) sc:=by
 refine qBZ ?_ fun _ _=>rfl
 intro A env ρ ψ φ H H' s v R O F S e
 obtain ⟨x,H1,h1,e⟩:=qA6 e
 obtain ⟨i,h2,e⟩:=qA4 e
 cases e
 obtain rfl:=qAZ h2
 refine UnaryOp_ (qA1 (ha.1 R O F S h1) fun xv s1 q=>?_)
 obtain ⟨φ1,p1,r1⟩:=q
 obtain ⟨t,rfl⟩:=r1
 exact _root_.PyProof.Rows.neg_int (Out.step p1 (qBQ p1.sr))
theorem s_not {a:Expr}{ca:CE}{pos:Pos} (ha:Snd X prog w base d (evE P cf m) a ca sc):Snd X prog w base d (evE P cf (m + 1)) (.UnaryOp .Not a pos) (.not ca) sc:=by
 revert ha
 revert d sc cf m a ca pos
 intros d sc cf m a ca pos
 intro ha
 constructor
 ·(intros A env ρ ψ φ H H' s v; intro R O F S e)
  (injection (qA6 e) with x H1; rintro ⟨h1,e⟩)
  (injection (qA4 e) with i; rintro ⟨h2,e⟩)
  cases e
  obtain rfl:=qAW h2
  refine UnaryOp_ (qA1 (ha.1 R O F S h1) ?_)
  intros xv s1; intro q
  (injection (q) with φ1; try clear q; rintro ⟨p1,r1⟩)
  cases r1
  exact not_of (wpAny_truthy_bool (Out.step p1 (qAR p1.sr)))
 ·(intros A env ρ ψ φ H H' s v b; intro R O F S e hb)
  (injection (qA6 e) with x H1; rintro ⟨h1,e⟩)
  (injection (qA4 e) with i; rintro ⟨h2,e⟩)
  cases e
  cases hb
  refine isTrue_not (qA1 (ha.2 R O F S h1 h2) ?_)
  intros c s1; intro q
  (obtain ⟨rfl,H_⟩:=q; injection H_ with φ1; clear H_; intro p1)
  exact ⟨rfl,φ1,p1⟩
theorem qJG {l r:Expr}{ce:CE}{op:CmpOp}{pos:Pos}{ev:EvFn} (hm:behindInMarks op r=false)
  (h:∀ {A:Around}{env:PySem.Env}{ρ:Rho}{ψ φ:List Addr}{H H':AHeap}{s:Shared}{v:AV},Room d A→EnvOk env sc→FR X ψ φ s.heap env sc ρ→SR X prog w base ψ φ H s.heap→ev ce ρ H=some (v,H') →
   (∃ b,v=.bool b)∧wpAny (model prog w) A (eval l env) (fun a s₁=>wpAny (model prog w) A (eval r env) (fun b s₂=>wpAny (model prog w) A (compareOp op a b) (Out X prog w base ψ φ s v H') NoE s₂) NoE s₁) NoE s) :
  Snd X prog w base d ev (.Compare l [op] [r] pos) ce sc:=by
 constructor
 ·intro A env ρ ψ φ H H' s v R O F S e
  exact wpAny_Compare1 (h R O F S e).2 hm
 ·intro A env ρ ψ φ H H' s v b R O F S e hb
  obtain rfl:=qAW hb
  refine wpAny_isTrue_Compare1 (qA1 (h R O F S e).2 fun a s1 q=>qA1 q fun c s2 q=>qA1 q fun z s3 q=>?_) hm
  obtain ⟨φ1,p1,r1⟩:=q
  cases r1
  exact wpAny_truthy_bool ⟨rfl,φ1,p1⟩
theorem s_cmp (G:GW X base) {l r:Expr}{a b:CE}{o:CmpOp}{op:COp}{pos:Pos} (ho:cOp o=some op) (hm:behindInMarks o r=false) (hl:Snd X prog w base d (evE P cf m) l a sc) (hr:Snd X prog w base d (evE P cf m) r b sc) :
  Snd X prog w base d (evE P cf (m + 1)) (.Compare l [o] [r] pos) (.cmp op a b) sc:=by
 revert G ho hm hl hr
 revert d sc cf m l r a b o op pos
 intros d sc cf m l r a b o op pos
 intro G ho hm hl hr
 refine qJG hm ?_
 (intros A env ρ ψ φ H H' s v; intro R O F S e)
 (injection (qA6 e) with x H1; rintro ⟨h1,e⟩)
 (injection (qA6 e) with y H2; rintro ⟨h2,e⟩)
 (injection (qA4 e) with z; rintro ⟨h3,e⟩)
 cases e
 refine ⟨⟨z,rfl⟩,qA1 (hl.1 R O F S h1) ?_⟩
 intros xv s1; intro q
 (injection (q) with φ1; try clear q; rintro ⟨p1,r1⟩)
 refine qA1 (hr.1 R O (FRs.post F S p1) p1.sr h2) ?_
 intros yv s2; intro q
 (injection (q) with φ2; try clear q; rintro ⟨p2,r2⟩)
 exact wp_step (p1.trans p2) (qKV G R ho p2.sr (r1.grow0 p2.grow) r2 h3)
theorem qLO {c:AV}{ρ:Rho}{H H':AHeap}{y:AV} (h:evE P cf m (.lit c) ρ H=some (y,H')):H=H':=by
 cases m with
 | zero=>exact qA3 h
 | succ m=>exact (qA7 (show some (c,H)=some (y,H') from h)).2
theorem ff_tt {C:Prop} (h:false=true):C:=by cases h
theorem qIW {r:Expr} (h:noneC r=true):∃ k p,r=.Constant .none k p:=by
 cases r with
 | Constant c k p =>
  cases c with
  | none=>exact ⟨k,p,rfl⟩
  | _=>exact ff_tt h
 | _=>exact ff_tt h
theorem qN9 {l r:Expr}{a:CE}{o:CmpOp}{op:COp}{pos:Pos} (ho:isOp o=some op) (hr:noneC r=true) (hl:Snd X prog w base d (evE P cf m) l a sc):Snd X prog w base d (evE P cf (m + 1)) (.Compare l [o] [r] pos) (.cmp op a (.lit .none)) sc:=by
 revert ho hr hl
 revert d sc cf m l r a o op pos
 intros d sc cf m l r a o op pos
 intro ho hr hl
 (injection (qIW hr) with k p; rintro rfl)
 refine qJG (by cases o <;> rfl) ?_
 (intros A env ρ ψ φ H H' s v; intro R O F S e)
 (injection (qA6 e) with x H1; rintro ⟨h1,e⟩)
 (injection (qA6 e) with y H2; rintro ⟨h2,e⟩)
 (injection (qA4 e) with z; rintro ⟨h3,e⟩)
 cases e
 obtain rfl:=qLO h2
 refine ⟨⟨z,rfl⟩,qA1 (hl.1 R O F S h1) ?_⟩
 intros xv s1; intro q
 (injection (q) with φ1; try clear q; rintro ⟨p1,r1⟩)
 refine qIq (wp_step p1 ?_)
 cases o with
 | Is=>cases Option.some.inj ho; exact qGb (A:=A) p1.sr r1 h3
 | IsNot =>
  cases Option.some.inj ho
  (injection (qA4 h3) with b; rintro ⟨h4,rfl⟩)
  exact qFg (A:=A) p1.sr r1 h4
 | _=>exact qA3 ho
theorem qKk {ev:EvFn}{pos:Pos} (R:Room d A) (O:EnvOk env sc):∀ {es:List Expr}{e:Expr}{ces:List CE}{H H':AHeap}{φ:List Addr}{s:Shared}{v:AV},listM₂ (fun e ce=>Snd X prog w base d ev e ce sc) (e :: es) ces→FR X ψ φ s.heap env sc ρ →
  SR X prog w base ψ φ H s.heap→evAnd ev ces ρ H=some (v,H')→wpAny (model prog w) A (eval (.BoolOp .And (e :: es) pos) env) (Out X prog w base ψ φ s v H') NoE s
 | es,e,[],_,_,_,_,_,hp,_,_,_=>hp.elim
 | es,e,c :: ces,H,H',φ,s,v,hp,F,S,h=>by
  obtain ⟨x,H1,h1,h⟩:=qA6 h
  obtain ⟨b,h2,h⟩:=qA0 h
  cases es with
  | nil =>
   cases ces with
   | cons=>exact hp.2.elim
   | nil =>
    have e:some (AV.bool b,H1)=some (v,H'):=by cases b <;> exact h
    rw [← (qA7 e).1,← (qA7 e).2,← qAW h2]
    exact BoolOp_one (hp.1.1 R O F S h1)
  | cons e2 es =>
   refine BoolOp_and (qA1 (hp.1.1 R O F S h1) fun xv s1 q=>?_)
   obtain ⟨φ1,p1,r1⟩:=q
   obtain rfl:=r1.isBool h2
   refine wpAny_truthy_bool ?_
   cases b with
   | true=>rw [if_pos rfl] at h ⊢; exact wp_step p1 (qKk R O hp.2 (FRs.post F S p1) p1.sr h)
   | false=>rw [if_neg Bool.false_ne_true] at h ⊢; rw [← (qA7 h).1,← (qA7 h).2]; exact ⟨φ1,p1,.bool _⟩
theorem qID {ev:EvFn}{pos:Pos}{whole:Sem Value} (R:Room d A) (O:EnvOk env sc):∀ {es:List Expr}{ces:List CE}{H H':AHeap}{φ:List Addr}{s:Shared}{v:AV}{b:Bool},listM₂ (fun e ce=>Snd X prog w base d ev e ce sc) es ces→FR X ψ φ s.heap env sc ρ →
  SR X prog w base ψ φ H s.heap→evAnd ev ces ρ H=some (v,H')→qAY v=some b→wpAny (model prog w) A (isTrue (.BoolOp .And es pos) env whole) (fun c s'=>c=b∧∃ φ',Post X prog w base [] ψ φ φ' H' s s') NoE s
 | [],[],_,_,_,_,_,_,_,F,S,h,hb=>by cases h; cases hb; exact isTrue_and_nil ⟨rfl,_,Post.refl S⟩
 | e :: es,c :: ces,H,H',φ,s,v,b,hp,F,S,h,hb=>by
  obtain ⟨x,H1,h1,h⟩:=qA6 h
  obtain ⟨b1,h2,h⟩:=qA0 h
  refine isTrue_and (qA1 (hp.1.2 R O F S h1 h2) fun c1 s1 q=>?_)
  obtain ⟨rfl,φ1,p1⟩:=q
  cases c1 with
  | true =>
   rw [if_pos rfl] at h ⊢
   refine qA1 (qID R O hp.2 (FRs.post F S p1) p1.sr h hb) fun c2 s2 q=>?_
   obtain ⟨rfl,φ2,p2⟩:=q
   exact ⟨rfl,φ2,p1.trans p2⟩
  | false=>rw [if_neg Bool.false_ne_true] at h ⊢; cases h; cases hb; exact ⟨rfl,φ1,p1⟩
 | [],_ :: _,_,_,_,_,_,_,hp,_,_,_,_=>hp.elim
 | _ :: _,[],_,_,_,_,_,_,hp,_,_,_,_=>hp.elim
theorem qND {es:List Expr}{ces:List CE}{pos:Pos} (h0:2 ≤ es.length) (hp:listM₂ (fun e ce=>Snd X prog w base d (evE P cf m) e ce sc) es ces):Snd X prog w base d (evE P cf (m + 1)) (.BoolOp .And es pos) (.band ces) sc:=by
 constructor
 ·intro A env ρ ψ φ H H' s v R O F S e
  cases es with
  | nil=>simp at h0
  | cons e0 es=>exact qKk R O hp F S e
 ·intro A env ρ ψ φ H H' s v b R O F S e hb
  exact qID R O hp F S e hb
theorem s_bor {es:List Expr}{ces:List CE}{pos:Pos}:Snd X prog w base d (evE P cf (m + 1)) (.BoolOp .Or es pos) (.bor ces) sc :=
 ⟨by intro A env ρ ψ φ H H' s v R O F S e; exact qA3 e,by intro A env ρ ψ φ H H' s v b R O F S e hb; exact qA3 e⟩
theorem s_ite {t a b:Expr}{ct ca cb:CE}{pos:Pos} (ht:Snd X prog w base d (evE P cf m) t ct sc) (ha:Snd X prog w base d (evE P cf m) a ca sc) (hb:Snd X prog w base d (evE P cf m) b cb sc) :
  Snd X prog w base d (evE P cf (m + 1)) (.IfExp t a b pos) (.ite ct ca cb) sc:=by
 constructor
 ·intro A env ρ ψ φ H H' s v R O F S e
  obtain ⟨x,H1,h1,e⟩:=qA6 e
  obtain ⟨c,h2,e⟩:=qA0 e
  refine IfExp_ (qA1 (ht.2 R O F S h1 h2) fun c1 s1 q=>?_)
  obtain ⟨rfl,φ1,p1⟩:=q
  cases c1 with
  | true=>rw [if_pos rfl] at e ⊢; exact wp_step p1 (ha.1 R O (FRs.post F S p1) p1.sr e)
  | false=>rw [if_neg Bool.false_ne_true] at e ⊢; exact wp_step p1 (hb.1 R O (FRs.post F S p1) p1.sr e)
 ·intro A env ρ ψ φ H H' s v bb R O F S e hbb
  obtain ⟨x,H1,h1,e⟩:=qA6 e
  obtain ⟨c,h2,e⟩:=qA0 e
  refine isTrue_IfExp (qA1 (ht.2 R O F S h1 h2) fun c1 s1 q=>?_)
  obtain ⟨rfl,φ1,p1⟩:=q
  cases c1 with
  | true =>
   rw [if_pos rfl] at e ⊢
   refine qA1 (ha.2 R O (FRs.post F S p1) p1.sr e hbb) fun c2 s2 q=>?_
   obtain ⟨rfl,φ2,p2⟩:=q
   exact ⟨rfl,φ2,p1.trans p2⟩
  | false =>
   rw [if_neg Bool.false_ne_true] at e ⊢
   refine qA1 (hb.2 R O (FRs.post F S p1) p1.sr e hbb) fun c2 s2 q=>?_
   obtain ⟨rfl,φ2,p2⟩:=q
   exact ⟨rfl,φ2,p1.trans p2⟩
end
end Mine.Internal
end
section
open PySem PySem.W PyProof.Rows
namespace Mine.Internal
section
variable {A:Around}{fr pv ψ ψ' φ φ' φ₁:List Addr}{H H' H₁ H₂ H0:AHeap}{s s₁:Shared}{d:Nat}{v:AV}{E:Value→Shared→Prop}{env:PySem.Env}{sc:Scope}{ρ ρ':Rho}{cf:qAQ}{m:Nat}
theorem qFs {ev:EvFn}:∀ {ces:List CE}{ρ:Rho}{H H':AHeap}{as:List AV},evEs ev ces ρ H=some (as,H')→as.length=ces.length
 | [],_,_,_,_,h=>by rw [← (qA7 h).1]; rfl
 | c :: ces,ρ,H,H',as,h=>by
  obtain ⟨v,H1,h1,h⟩:=qA6 h
  obtain ⟨vs,H2,h2,h⟩:=qA6 h
  rw [← (qA7 h).1]
  exact congrArg (· + 1) (qFs h2)
theorem qJl {trk:Bool}{l:List AV}{H₁ H':AHeap}{v:AV}{x:Value}{s s':Shared} (e:qAC trk l H₁=(v,H')) (o:Out X prog w base ψ φ s (qAC trk l H₁).1 (qAC trk l H₁).2 x s'):Out X prog w base ψ φ s v H' x s':=by
 rw [e] at o
 exact o
theorem s_tup (G:GW X base) {es:List Expr}{ces:List CE}{k:Nat}{pos:Pos} (hs:es.any qAs=false) (hn:es.length ≤ 1000) (hp:listM₂ (fun e ce=>Snd X prog w base d (evE P cf m) e ce sc) es ces) :
  Snd X prog w base d (evE P cf (m + 1)) (.Tuple es k pos) (.tup ces) sc:=by
 refine qBZ ?_ fun _ _=>rfl
 intro A env ρ ψ φ H H' s v R O F S e
 obtain ⟨as,H1,h1,e⟩:=qA6 e
 have hl:as.length ≤ 1000:=by rw [qFs h1,← listM₂_len hp]; exact hn
 refine Tuple_ ?_
 rw [qBi hs]
 refine qA1 (qAw R O (listM₂_fst hp) F S h1) fun xs s1 q=>?_
 obtain ⟨φ1,p1,r1⟩:=q
 have hl:=Nat.lt_of_le_of_lt hl (show 1000 < 1000001 by decide)
 refine wpAny_newTuple ?_ (qM4 r1 hl)
 rw [← (qA7 e).1,← (qA7 e).2]
 exact Out.step p1 (qDP (k:=s1.toks) (n:=0) G p1.sr (h₀:=s1.heap) (fun _ _ e=>e) r1 hl)
theorem s_lst (G:GW X base) {es:List Expr}{ces:List CE}{trk:Bool}{pos:Pos} (hs:es.any qAs=false) (hn:es.length ≤ 1000) (hp:listM₂ (fun e ce=>Snd X prog w base d (evE P cf m) e ce sc) es ces) :
  Snd X prog w base d (evE P cf (m + 1)) (.List es pos) (.lst trk ces) sc:=by
 refine qBZ ?_ fun _ _=>rfl
 intro A env ρ ψ φ H H' s v R O F S e
 obtain ⟨as,H1,h1,e⟩:=qA6 e
 have hl:as.length ≤ 1000:=by rw [qFs h1,← listM₂_len hp]; exact hn
 refine List_ ?_
 rw [qBi hs]
 refine qA1 (qAw R O (listM₂_fst hp) F S h1) fun xs s1 q=>?_
 obtain ⟨φ1,p1,r1⟩:=q
 have hl:=Nat.lt_of_le_of_lt hl (show 1000 < 1000001 by decide)
 exact wpAny_newList (qJl (Option.some.inj e) (Out.step p1 (qEB (k:=s1.toks) (n:=0) G trk p1.sr (h₀:=s1.heap) (fun _ _ e=>e) r1 hl))) (qM4 r1 hl)
theorem s_dct (G:GW X base) {ks:List (Option Expr)}{es:List Expr}{cks ces:List CE}{pos:Pos} (hl:ks.length=es.length) (hlen:ks.length < 9)
  (hk:listM₂ (fun (k:Option Expr) ck=>∃ e,k=some e∧Snd X prog w base d (evE P cf m) e ck sc) ks cks) (hp:listM₂ (fun e ce=>Snd X prog w base d (evE P cf m) e ce sc) es ces) :
  Snd X prog w base d (evE P cf (m + 1)) (.Dict ks es pos) (.dct cks ces) sc:=by
 revert G hl hlen hk hp
 revert d sc cf m ks es cks ces pos
 intros d sc cf m ks es cks ces pos
 intro G hl hlen hk hp
 refine qBZ ?_ fun _ _=>rfl
 (intros A env ρ ψ φ H H' s v; intro R O F S e)
 have hkl:=listM₂_len hk
 cases ks with
 | nil =>
  obtain rfl:=List.eq_nil_of_length_eq_zero hl.symm
  obtain rfl:=List.eq_nil_of_length_eq_zero hkl.symm
  obtain ⟨rfl,rfl⟩:=qA7 (show some (AV.ref H.length,H ++ [.dictI []])=some (v,H') from e)
  refine wpAny_Dict_empty ?_
  exact qGM (k:=s.toks) G S (qAo _ _) (qAc fun _ _ e=>e) (S.fresh_at G fun _ _ e=>e).2.2 (.dictI (ks:=[]) (vs:=[]) (l:=[]) (Heap.DictOf.new (knd:=intKind prog w) s.heap) rfl (by decide) .nil)
 | cons k ks =>
  revert hl hlen hk hkl; revert k ks; intros k ks; intro hl hlen hk hkl
  cases cks with
  | nil=>exact nomatch hkl
  | cons ck cks =>
   revert e hk hkl; revert ck cks; intros ck cks; intro e hk hkl
   (injection (qA6 (show bnd (qB6 (evE P cf m) (ck :: cks) ces ρ H) (fun kvs H=>(qBI kvs).map fun d=>alloc H (.dictS d))=some (v,H') from e)) with kvs H1; rintro ⟨h1,e⟩)
   (injection (qA4 e) with r; rintro ⟨h2,e⟩)
   cases e
   have hk':∀ {ks:List (Option Expr)}{cks:List CE},listM₂ (fun (k:Option Expr) ck=>∃ e,k=some e∧Snd X prog w base d (evE P cf m) e ck sc) ks cks→listM₂ (fun (k:Option Expr) ck=>∃ e,k=some e∧SndE X prog w base d (evE P cf m) e ck sc) ks cks:=by
    intros ks
    induction ks with
    | nil=>(intros cks; intro hk); cases cks with
     | nil=>trivial
     | cons=>exact hk.elim
    | cons a r ih=>intro cks hk; cases cks with
     | nil=>exact hk.elim
     | cons b t=>exact ⟨let ⟨e,q,z⟩:=hk.1; ⟨e,q,z.1⟩,ih hk.2⟩
   exact qIo G R O (hk' hk) (listM₂_fst hp) hl (List.cons_ne_nil _ _) hlen F S h1 h2
theorem qKe {o:Expr}{name:Str}{pos:Pos}{Q:Value→Shared→Prop} (hb:qBN o=true) (h:wpAny (model prog w) A (eval o env) (fun ov s₁=>wpAny (model prog w) A (getAttr ov name true) Q E s₁) E s) :
  wpAny (model prog w) A (eval (.Attribute o name pos) env) Q E s:=by
 rw [arm_eval_Attribute,qG3 hb]
 exact wpAny_bind (wpAny_mono h (fun ov s₁ h₁=>wpAny_bind (wpAny_standAt (wpAny_bind (wpAny_holding (wpAny_mono h₁ (fun r s₂ h₂=>wpAny_bind (wpAny_letTemporaryGo (wpAny_pure h₂))) fun _ _ x=>x))))) fun _ _ x=>x)
theorem qNE (G:GW X base) (V:PV X P) {o:Expr}{co:CE}{a:Nat}{name:Str}{pos:Pos} (hb:qBN o=true) (hn:nid X.names name=some a) (ho:Snd X prog w base d (evE P cf m) o co sc) :
  Snd X prog w base d (evE P cf (m + 1)) (.Attribute o name pos) (.attr co a) sc:=by
 refine qBZ ?_ fun _ _=>rfl
 intro A env ρ ψ φ H H' s v R O F S e
 obtain ⟨x,H1,h1,e⟩:=qA6 e
 obtain ⟨y,h2,e⟩:=qA4 e
 cases e
 refine qKe hb (qA1 (ho.1 R O F S h1) fun ov s1 q=>?_)
 obtain ⟨φ1,p1,r1⟩:=q
 exact wp_step p1 (qFo G V p1.sr r1 (qBm hn) h2)
theorem s_sub (G:GW X base) {o i:Expr}{co ci:CE}{pos:Pos} (hs:∀ a b p,i ≠ .Slice a b none p) (ho:Snd X prog w base d (evE P cf m) o co sc) (hi:Snd X prog w base d (evE P cf m) i ci sc) :
  Snd X prog w base d (evE P cf (m + 1)) (.Subscript o i pos) (.sub co ci) sc:=by
 refine qBZ ?_ fun _ _=>rfl
 intro A env ρ ψ φ H H' s v R O F S e
 obtain ⟨x,H1,h1,e⟩:=qA6 e
 obtain ⟨y,H2,h2,e⟩:=qA6 e
 obtain ⟨z,h3,e⟩:=qA4 e
 cases e
 refine Subscript_ (qA1 (ho.1 R O F S h1) fun ov s1 q=>?_)
 obtain ⟨φ1,p1,r1⟩:=q
 refine qA1 (hi.1 R O (FRs.post F S p1) p1.sr h2) fun iv s2 q=>?_
 obtain ⟨φ2,p2,r2⟩:=q
 exact wp_step (p1.trans p2) (qJ8 G p2.sr (r1.grow0 p2.grow) r2 h3 hs)
noncomputable def OptE (X:CX) (prog:Program) (w:World) (base:Heap) (d:Nat) (ev:EvFn) (sc:Scope):Option Expr→Option CE→Prop
 | none,c=>c=none
 | some e,c=>∃ ce,c=some ce∧SndE X prog w base d ev e ce sc
theorem qEx {ev:EvFn}{e:Option Expr}{ce:Option CE}{o:Option Int} (R:Room d A) (O:EnvOk env sc) (he:OptE X prog w base d ev sc e ce) (F:FR X ψ φ s.heap env sc ρ)
  (S:SR X prog w base ψ φ H s.heap) (h:evOpt ev ce ρ H=some (o,H')):wpAny (model prog w) A (evalPart e env) (fun x s'=>IsPart x o∧∃ φ',Post X prog w base [] ψ φ φ' H' s s') NoE s:=by
 cases e with
 | none =>
  rw [he] at h
  rw [evalPart_none,← (qA7 h).1,← (qA7 h).2]
  exact wpAny_pure ⟨.none,φ,Post.refl S⟩
 | some e =>
  obtain ⟨ce,rfl,he⟩:=he
  obtain ⟨v,H1,h1,h⟩:=qA6 h
  obtain ⟨i,h2,h⟩:=qA0 h
  obtain ⟨_,h⟩:=qAA h
  rw [evalPart_some,← (qA7 h).1,← (qA7 h).2]
  refine qA1 (he R O F S h1) fun x s1 q=>?_
  obtain ⟨φ1,p1,r1⟩:=q
  obtain ⟨t,rfl⟩:=(r1.isInt h2).2
  exact ⟨.int i t,φ1,p1⟩
theorem qMM (G:GW X base) {o:Expr}{lo hi:Option Expr}{co:CE}{clo chi:Option CE}{trk:Bool}{p pos:Pos} (ho:Snd X prog w base d (evE P cf m) o co sc)
  (hlo:OptE X prog w base d (evE P cf m) sc lo clo) (hhi:OptE X prog w base d (evE P cf m) sc hi chi) :
  Snd X prog w base d (evE P cf (m + 1)) (.Subscript o (.Slice lo hi none p) pos) (.slice trk co clo chi) sc:=by
 revert G ho hlo hhi
 revert d sc cf m o lo hi co clo chi trk p pos
 intros d sc cf m o lo hi co clo chi trk p pos
 intro G ho hlo hhi
 refine qBZ ?_ fun _ _=>rfl
 (intros A env ρ ψ φ H H' s v; intro R O F S e)
 (injection (qA6 e) with x H1; rintro ⟨h1,e⟩)
 (injection (qA6 e) with a H2; rintro ⟨h2,e⟩)
 (injection (qA6 e) with b H3; rintro ⟨h3,e⟩)
 (injection (qA4 e) with l; rintro ⟨h4,e⟩)
 refine Subscript_ (qA1 (ho.1 R O F S h1) ?_)
 intros ov s1; intro q
 (injection (q) with φ1; try clear q; rintro ⟨p1,r1⟩)
 have F1:=FRs.post F S p1
 refine wpAny_Slice (qA1 (qEx R O hlo F1 p1.sr h2) ?_)
 intros x2 s2; intro q
 (obtain ⟨i2,H_⟩:=q; injection H_ with φ2; clear H_; intro p2)
 refine qA1 (qEx R O hhi (FRs.post F1 p1.sr p2) p2.sr h3) ?_
 intros x3 s3; intro q
 (obtain ⟨i3,H_⟩:=q; injection H_ with φ3; clear H_; intro p3)
 rw [evalPart_none]
 refine wpAny_pure ?_
 exact qA1 (qHA G trk p3.sr ((r1.grow0 p2.grow).grow0 p3.grow) h4 i2 i3) fun _ _ q=>qJl e (q.step ((p1.trans p2).trans p3))
end
end Mine.Internal
end
section
open PySem PySem.W PyProof.Rows
namespace Mine.Internal
section
variable {A:Around}{fr pv ψ ψ' φ φ' φ₁:List Addr}{H H' H₁ H₂ H0:AHeap}{s s₁:Shared}{d:Nat}{v:AV}{E:Value→Shared→Prop}{env:PySem.Env}{sc:Scope}{ρ ρ':Rho}{cf:qAQ}{m:Nat}
theorem idx_at {α:Type} [BEq α] [LawfulBEq α] {l:List α}{a:α}{i:Nat} (h:l.idxOf? a=some i):l[i]?=some a:=by
 have:=List.findIdx?_eq_some_iff_getElem.mp h
 obtain ⟨hk,q,_⟩:=this
 rw [List.getElem?_eq_getElem hk,beq_iff_eq.mp q]
theorem qNB (G:GW X base) {inner:Scope}{t elt it e:Expr}{ct:CT}{celt ci:CE}{ifs:List Expr}{cifs:List CE}{trk en:Bool}{pos:Pos} (K:CompOk X sc inner t) (hct:qAl X inner t=some ct) (ht:en=true→∃ es k p,t=.Tuple es k p)
  (hns:∀ a b c,it ≠ .Set a b c) (hsrc:if en then qCg X sc it=some e else e=it)
  (hi:Snd X prog w base d (evE P cf m) e ci sc) (he:Snd X prog w base d (evE P cf m) elt celt inner) (hf:listM₂ (fun e ce=>Snd X prog w base d (evE P cf m) e ce inner) ifs cifs) :
  Snd X prog w base d (evE P cf (m + 1)) (.ListComp elt [⟨t,it,ifs,0⟩] inner pos) (.comp trk en celt ct ci cifs) sc:=by
 refine qBZ ?_ fun _ _=>rfl
 intro A env ρ ψ φ H H' s v R O F S e'
 obtain ⟨x,H1,h1,e'⟩:=qA6 e'
 obtain ⟨xs,src,h2,e'⟩:=qA6 e'
 obtain ⟨vs,H3,h3,e'⟩:=qA6 e'
 refine qA1 (qIr (en:=en) (xs:=xs) (src:=src) (H₁:=H1) trk G R O K hct ht he.1 (listM₂_snd hf) hns F S ?_ h3) fun _ _ o=>qJl (Option.some.inj e') o
 cases en with
 | true=>exact qG8 G R O hsrc hi.1 F S h1 h2
 | false =>
  obtain rfl:e=it:=hsrc
  exact qDG R O hi.1 F S h1 h2
theorem qF9 {t:Expr}{ct:CT} (h:qAl X sc t=some ct) (ht:isTup ct=true):∃ es k p,t=.Tuple es k p:=by
 revert h ht
 revert sc t ct
 intros sc t ct
 intro h ht
 have no:qB7 X sc t=some ct→False:=fun h=>by
  obtain ⟨x,p,k,_,rfl,_⟩:=qAU h
  cases ht
 cases t with
 | Tuple es k p=>exact ⟨es,k,p,rfl⟩
 | _=>exact (no h).elim
noncomputable def qLp (X:CX) (sc:Scope) (x:Str):Callee→Prop
 | .fn f=>∃ a,qAE sc x=some .globalImplicit∧nsIn X.K mainGlobals x=some (some (.ref a))∧keepIn X.K (.ref a)=true∧X.fns[f]?=some a
 | .cls c=>∃ a,qAE sc x=some .globalImplicit∧nsIn X.K mainGlobals x=some (some (.ref a))∧X.clss[c]?=some a
 | .bi b=>qAE sc x=some .globalImplicit∧nsIn X.K mainGlobals x=some none∧biTab.lookup x=some b
theorem qHa {x:Str}{c:Callee} (h:qFz X sc x=some c):qLp X sc x c:=by
 revert h
 revert sc x c
 intros sc x c
 intro h
 obtain ⟨hk,h⟩:=qAA h
 have hk:=beq_iff_eq.mp hk
 (injection (qA0 h) with v; rintro ⟨ha,h⟩)
 cases v with
 | none =>
  (injection (qA4 h) with b; rintro ⟨hb,rfl⟩)
  exact ⟨hk,ha,hb⟩
 | some v =>
  revert ha h; revert v; intros v; intro ha h
  cases v with
  | ref a =>
   revert ha h; revert a; intros a; intro ha h
   (injection (qA0 (show qIA X a=some c from h)) with o; rintro ⟨ho,h⟩)
   obtain ⟨oc,od,oda,osl⟩:=o
   cases oda with
   | func fd =>
    (injection (qA4 h) with f; rintro ⟨hf,rfl⟩)
    exact ⟨a,hk,ha,by unfold keepIn; dsimp only; rw [ho],idx_at hf⟩
   | cls cd =>
    (injection (qA4 h) with f; rintro ⟨hf,rfl⟩)
    exact ⟨a,hk,ha,idx_at hf⟩
   | _=>exact qA3 h
  | _=>exact qA3 h
theorem qDZ {it:Expr}:if (qBU X sc it).1 then qCg X sc it=some (qBU X sc it).2 else (qBU X sc it).2=it:=by
 unfold qBU
 cases qCg X sc it <;> rfl
theorem qCP {n:Nat}{it:Expr}{ci:CE} (h:cmpE X n sc (qBU X sc it).2=some ci):∀ a b c,it ≠ .Set a b c:=by
 have q:=qDZ (sc:=sc) (it:=it)
 cases he:(qBU X sc it).1 with
 | true =>
  rw [he] at q
  obtain ⟨p,pos,z,_⟩:=qDm q
  intro a b c y
  cases y.symm.trans z
 | false =>
  rw [he] at q
  rw [show (qBU X sc it).2=it from q] at h
  exact qCj h
theorem s_opt {n:Nat}{o:Option Expr}{c:Option CE} (ih:∀ (e:Expr) (ce:CE),cmpE X n sc e=some ce→Snd X prog w base d (evE P cf m) e ce sc) (q:optM (cmpE X n sc) o=some c):OptE X prog w base d (evE P cf m) sc o c:=by
 cases o with
 | none=>exact (Option.some.inj q).symm
 | some e =>
  obtain ⟨ce,q1,rfl⟩:=qA4 q
  exact ⟨ce,rfl,(ih _ _ q1).1⟩
theorem qNC (G:GW X base) (V:PV X P) (C:SndCF X prog w base d cf) (B:SndBi X prog w base d) {n:Nat}{x:Str}{p pos:Pos}{args:List Expr}{c:Callee}{ce:CE} (all:∀ {ces:List CE},listM (cmpE X n sc) args=some ces→listM₂ (fun e ce=>Snd X prog w base d (evE P cf m) e ce sc) args ces)
  (hs:args.any qAs=false) (hx:(x == ("__debug__":Str))=false) (hc:qFz X sc x=some c)
  (h:qMC (listM (cmpE X n sc) args) args (X.isTrk pos) c=some ce) :
  Snd X prog w base d (evE P cf (m + 1)) (.Call (.Name x p) args [] pos) ce sc:=by
 revert G V C B all hs hx hc h
 revert d sc cf m n x p pos args c ce
 intros d sc cf m n x p pos args c ce
 intro G V C B all hs hx hc h
 have hc:=qHa hc
 refine qBZ ?_ fun _ _=>rfl
 (intros A env ρ ψ φ H H' s v; intro R O F S e)
 cases c with
 | fn f =>
  revert h hc; revert f; intros f; intro _ h hc
  (injection (qA4 h) with ces; rintro ⟨h1,rfl⟩)
  (injection (hc) with a; try clear hc; rintro ⟨hk,ha,hkp,hf⟩)
  (injection (qA6 e) with as H1; rintro ⟨h2,e⟩)
  exact qGs G C R O hk ha hx hkp hf hs (listM₂_fst (all h1)) F S h2 e
 | cls c =>
  revert h hc; revert c; intros c; intro _ h hc
  obtain ⟨he,h⟩:=qAA h
  obtain rfl:=Option.some.inj h
  obtain rfl:=List.isEmpty_iff.mp he
  (injection (hc) with a; try clear hc; rintro ⟨hk,ha,hcl⟩)
  (injection (qA0 e) with f; rintro ⟨h2,e⟩)
  (injection (qA6 e) with r H2; rintro ⟨h3,e⟩)
  obtain ⟨hr,e⟩:=qAA e
  rw [← (qA7 e).1,← (qA7 e).2]
  cases r with
  | none=>exact qJh G V C R O hk ha hx hcl S h2 h3
  | _=>exact ff_tt hr
 | bi b =>
  revert h hc; revert b; intros b; intro _ h hc
  (injection (qA4 h) with ces; rintro ⟨h1,rfl⟩)
  obtain ⟨hk,ha,hb⟩:=hc
  (injection (qA6 e) with as H1; rintro ⟨h2,e⟩)
  exact qGt G R O hk ha hx hb hs (listM₂_fst (all h1)) F S h2 fun S1 r1=>B R S1 r1 e
theorem qMO (G:GW X base) (V:PV X P) (C:SndCF X prog w base d cf) {o:Expr}{x:Str}{apos pos:Pos}{args:List Expr}{co:CE}{ces:List CE}{mi:Nat} (ho:Snd X prog w base d (evE P cf m) o co sc) (all:listM₂ (fun e ce=>Snd X prog w base d (evE P cf m) e ce sc) args ces)
  (hb:qBN o=true) (hs:args.any qAs=false) (hl:args.length ≤ 20) (hp:(apos.endLine == pos.line)=true) (hn:nid X.names x=some mi):Snd X prog w base d (evE P cf (m + 1)) (.Call (.Attribute o x apos) args [] pos) (.callM co mi ces) sc:=by
 refine qBZ ?_ fun _ _=>rfl
 intro A env ρ ψ φ H H' s v R O F S e
 obtain ⟨ov,H1,h4,e⟩:=qA6 e
 cases ov with
 | inst c i =>
  obtain ⟨f,h5,e⟩:=qA0 e
  obtain ⟨hna,e⟩:=qAA e
  obtain ⟨as,H2,h6,e⟩:=qA6 e
  exact qIv G V C R O hb hs hl hp hn ho.1 (listM₂_fst all) F S h4 h5 hna h6 e
 | ref i =>
  obtain ⟨hok,e⟩:=qAA e
  obtain ⟨as,H2,h6,e⟩:=qA6 e
  exact qKY G V R O hb hs hl hp hn ho.1 (listM₂_fst all) F S h4 hok h6 e
 | _=>exact qA3 e
theorem qMN (G:GW X base) {n:Nat}{elt:Expr}{gens:List Comprehension}{inner:Scope}{pos:Pos}{ce:CE} (ih:∀ (sc:Scope) (e:Expr) (ce:CE),cmpE X n sc e=some ce→Snd X prog w base d (evE P cf m) e ce sc)
  (h:cmpE X (n + 1) sc (.ListComp elt gens inner pos)=some ce):Snd X prog w base d (evE P cf (m + 1)) (.ListComp elt gens inner pos) ce sc:=by
 revert G ih h
 revert d sc cf m n elt gens inner pos ce
 intros d sc cf m n elt gens inner pos ce
 intro G ih h
 (injection (qA0 h) with g; rintro ⟨hg,h⟩)
 obtain rfl:=qBM hg
 obtain ⟨hk,h⟩:=qAA h
 have hk:=Bool.and_eq_true_iff.mp hk
 (injection (qA0 h) with ct; rintro ⟨h1,h⟩)
 obtain ⟨ht,h⟩:=qAA h
 (injection (qA0 h) with celt; rintro ⟨h2,h⟩)
 (injection (qA0 h) with ci; rintro ⟨h3,h⟩)
 (injection (qA4 h) with cifs; rintro ⟨h4,h⟩)
 obtain ⟨t,it,ifs,z⟩:=g
 obtain rfl:z=0:=of_decide_eq_true hk.2
 rw [← h]
 refine qNB G (qC5 hk.1) h1 (fun q=>qF9 h1 ?_) (qCP h3) qDZ (ih _ _ _ h3) (ih _ _ _ h2) (qBF (fun e ce q=>ih _ e ce q) h4)
 rw [q] at ht
 exact ht
theorem qKE (G:GW X base) (V:PV X P) (C:SndCF X prog w base d cf) (B:SndBi X prog w base d):∀ (n:Nat) (sc:Scope) (e:Expr) (ce:CE),cmpE X n sc e=some ce→∀ m,Snd X prog w base d (evE P cf m) e ce sc:=by
 revert G V C B
 revert d cf
 intros d cf
 intro G V C B
 intros n
 induction n with
 | zero=>(intros sc e ce; intro h); exact qA3 h
 | succ n ih =>
  revert ih; revert n; intros n; intro ih
  (intros sc e ce; intro h; intros m)
  cases m with
  | zero=>exact qL1
  | succ m =>
  revert m; intros m
  have all:∀ {sc:Scope}{es:List Expr}{ces:List CE},listM (cmpE X n sc) es=some ces→listM₂ (fun e ce=>Snd X prog w base d (evE P cf m) e ce sc) es ces:=fun h=>qBF (fun e ce q=>ih _ e ce q m) h
  cases e with
  | Constant c k p=>(injection (qA4 h) with a; rintro ⟨ha,rfl⟩); exact s_lit ha
  | Name x p =>
   revert h; revert x p; intros x p; intro h
   obtain ⟨hv,h⟩:=qAA h
   (injection (qA4 h) with i; rintro ⟨hi,rfl⟩)
   have hv:=Bool.and_eq_true_iff.mp hv
   have hw:=Bool.and_eq_true_iff.mp hv.1
   exact s_var hw.1 ((Bool.not_eq_true' _).mp hw.2) ((Bool.not_eq_true' _).mp hv.2) hi
  | BinOp l op r p =>
   revert h; revert l op r p; intros l op r p; intro h
   (injection (qA0 h) with o; rintro ⟨h1,h⟩)
   (injection (qA0 h) with a; rintro ⟨h2,h⟩)
   (injection (qA4 h) with b; rintro ⟨h3,rfl⟩)
   exact s_bin G h1 (ih _ _ _ h2 m) (ih _ _ _ h3 m)
  | UnaryOp op a p =>
   revert h; revert op a p; intros op a p; intro h
   (injection (qA0 h) with c; rintro ⟨h1,h⟩)
   cases op with
   | USub=>obtain rfl:=Option.some.inj h; exact s_neg (ih _ _ _ h1 m)
   | Not=>obtain rfl:=Option.some.inj h; exact s_not (ih _ _ _ h1 m)
   | _=>exact qA3 h
  | Compare l ops rs p =>
   revert h; revert l ops rs p; intros l ops rs p; intro h
   (injection (qA0 h) with o; rintro ⟨h1,ha⟩)
   (injection (qA0 ha) with r; rintro ⟨h2,hb⟩)
   (injection (qA0 hb) with a; rintro ⟨h3,hc⟩)
   clear h ha hb
   obtain rfl:=qBM h1
   obtain rfl:=qBM h2
   cases hi:isOp o with
   | some op =>
    revert hi; revert op; intros op; intro hi
    rw [hi] at hc
    obtain ⟨hr,hd⟩:=qAA hc
    obtain rfl:=Option.some.inj hd
    exact qN9 hi hr (ih _ _ _ h3 m)
   | none =>
    rw [hi] at hc
    (injection (qA0 hc) with op; rintro ⟨h4,hd⟩)
    (injection (qA4 hd) with b; rintro ⟨h5,he⟩)
    rw [← he]
    exact s_cmp G h4 (qLG (qCj h5)) (ih _ _ _ h3 m) (ih _ _ _ h5 m)
  | BoolOp op es p =>
   revert h; revert op es p; intros op es p; intro h
   obtain ⟨hl,h⟩:=qAA h
   (injection (qA4 h) with ces; rintro ⟨h1,rfl⟩)
   cases op with
   | And=>exact qND hl (all h1)
   | Or=>exact s_bor
  | IfExp t a b p =>
   revert h; revert t a b p; intros t a b p; intro h
   (injection (qA0 h) with ct; rintro ⟨h1,h⟩)
   (injection (qA0 h) with ca; rintro ⟨h2,h⟩)
   (injection (qA4 h) with cb; rintro ⟨h3,rfl⟩)
   exact s_ite (ih _ _ _ h1 m) (ih _ _ _ h2 m) (ih _ _ _ h3 m)
  | Tuple es k p =>
   revert h; revert es k p; intros es k p; intro h
   obtain ⟨hs,h⟩:=qAA h
   (injection (qA4 h) with ces; rintro ⟨h1,rfl⟩)
   have hs:=Bool.and_eq_true_iff.mp hs
   exact s_tup G ((Bool.not_eq_true' _).mp hs.1) (of_decide_eq_true hs.2) (all h1)
  | List es p =>
   revert h; revert es p; intros es p; intro h
   obtain ⟨hs,h⟩:=qAA h
   (injection (qA4 h) with ces; rintro ⟨h1,rfl⟩)
   have hs:=Bool.and_eq_true_iff.mp hs
   exact s_lst G ((Bool.not_eq_true' _).mp hs.1) (of_decide_eq_true hs.2) (all h1)
  | Dict ks vs p =>
   revert h; revert ks vs p; intros ks vs p; intro h
   obtain ⟨hl,h⟩:=qAA h
   (injection (qA0 h) with cks; rintro ⟨h1,h⟩)
   (injection (qA4 h) with ces; rintro ⟨h2,rfl⟩)
   have hl:=Bool.and_eq_true_iff.mp hl
   exact s_dct G (beq_iff_eq.mp hl.1) (of_decide_eq_true hl.2) (qBF (fun k ck q=>by
    obtain ⟨k',hk,q⟩:=qA0 q
    exact ⟨k',hk,ih _ _ _ q m⟩) h1) (all h2)
  | ListComp elt gens inner p=>exact qMN G (fun sc e ce q=>ih sc e ce q m) h
  | Call f args kws p =>
   revert h; revert f args kws p; intros f args kws p; intro h
   obtain ⟨hs',ha⟩:=qAA h
   clear h
   have hs:=Bool.and_eq_true_iff.mp hs'
   clear hs'
   obtain rfl:=List.isEmpty_iff.mp hs.2
   cases f with
   | Name x q =>
    revert ha; revert x q; intros x q; intro ha
    obtain ⟨hx,hb⟩:=qAA ha
    (injection (qA0 hb) with c; rintro ⟨hc,hd⟩)
    exact qNC G V C B all ((Bool.not_eq_true' _).mp hs.1) ((Bool.not_eq_true' _).mp hx) hc hd
   | Attribute o x q =>
    revert ha; revert o x q; intros o x q; intro ha
    obtain ⟨hq,hb⟩:=qAA ha
    (injection (qA0 hb) with co; rintro ⟨h1,hc⟩)
    (injection (qA0 hc) with mi; rintro ⟨h2,hd⟩)
    (injection (qA4 hd) with ces; rintro ⟨h3,rfl⟩)
    have hq:=Bool.and_eq_true_iff.mp hq
    have hr:=Bool.and_eq_true_iff.mp hq.1
    exact qMO G V C (ih _ _ _ h1 m) (all h3) hr.1 ((Bool.not_eq_true' _).mp hs.1) (of_decide_eq_true hr.2) hq.2 h2
   | _=>exact qA3 ha
  | Attribute o x p =>
   revert h; revert o x p; intros o x p; intro h
   obtain ⟨hb,h⟩:=qAA h
   (injection (qA0 h) with co; rintro ⟨h1,h⟩)
   (injection (qA4 h) with a; rintro ⟨h2,rfl⟩)
   exact qNE G V hb h2 (ih _ _ _ h1 m)
  | Subscript o i p =>
   revert h; revert o i p; intros o i p; intro h
   (injection (qA0 h) with co; rintro ⟨h1,h⟩)
   have plain:(cmpE X n sc i).map (.sub co)=some ce→Snd X prog w base d (evE P cf (m + 1)) (.Subscript o i p) ce sc:=fun h=>by
    (injection (qA4 h) with ci; rintro ⟨h2,rfl⟩)
    exact s_sub G (fun a b p=>qFx h2 a b none p) (ih _ _ _ h1 m) (ih _ _ _ h2 m)
   cases i with
   | Slice lo hi st q =>
    revert h plain; revert lo hi st q; intros lo hi st q; intro _ h plain
    obtain ⟨hst,h⟩:=qAA h
    (injection (qA0 h) with clo; rintro ⟨h2,h⟩)
    (injection (qA4 h) with chi; rintro ⟨h3,rfl⟩)
    obtain rfl:=Option.isNone_iff_eq_none.mp hst
    exact qMM G (ih _ _ _ h1 m) (s_opt (fun e ce q=>ih _ e ce q m) h2) (s_opt (fun e ce q=>ih _ e ce q m) h3)
   | _=>exact plain h
  | _=>exact qA3 h
end
end Mine.Internal
end
section
open PySem PySem.W PyProof.Rows
namespace Mine.Internal
section
variable {A:Around}{fr pv ψ ψ' φ φ' φ₁:List Addr}{H H' H₁ H₂ H0:AHeap}{s s₁:Shared}{d:Nat}{v:AV}{E:Value→Shared→Prop}{env:PySem.Env}{sc:Scope}{ρ ρ':Rho}{cf:qAQ}{m:Nat}
def OutA (X:CX) (prog:Program) (w:World) (base:Heap) (fr ψ φ:List Addr) (s:Shared) (env:PySem.Env) (sc:Scope) (ρ':Rho) (H':AHeap) (s':Shared):Prop :=
 ∃ φ',Post X prog w base fr ψ φ φ' H' s s'∧FR X ψ φ' s'.heap env sc ρ'∧StoreOk fr s'.heap env sc
theorem OutA.step {s':Shared} (hfr:∀ a ∈ fr,a ∈ ψ) (p:Post X prog w base fr ψ φ φ₁ H₁ s s₁) (o:OutA X prog w base fr ψ φ₁ s₁ env sc ρ' H' s'):OutA X prog w base fr ψ φ s env sc ρ' H' s' :=
 let ⟨φ',q,r⟩:=o; ⟨φ',p.transF q hfr,r⟩
theorem Post.up {s':Shared} (p:Post X prog w base [] ψ φ φ₁ H₁ s s'):Post X prog w base fr ψ φ φ₁ H₁ s s':=p.wide fun _ q=>qA9 q
theorem Stored.out {s':Shared}{k:Nat} (q:Stored X prog w base (fun z=>True∨z=x) fr ψ φ H env sc ρ' s s'):OutA X prog w base fr ψ φ s env sc ρ' H s' :=
 ⟨φ,q.post,fun z k v _=>q.vars z k v (.inl trivial),q.st⟩
theorem qFQ (G:GW X base) (V:PV X P) (R:Room d A) (O:EnvOk env sc) (hfr:∀ a ∈ fr,a ∈ ψ) (he:∀ (n:Nat) (sc:Scope) (e:Expr) (ce:CE),cmpE X n sc e=some ce→∀ m,Snd X prog w base d (evE P cf m) e ce sc)
  {t:Expr}{ct:CT}{y:Value} (hc:cmpT1 X sc t=some ct) (h:qCS P (evE P cf 40) ct v ρ H=some (ρ',H')) (T:StoreOk fr s.heap env sc) (F:FR X ψ φ s.heap env sc ρ) (S:SR X prog w base ψ φ H s.heap) (ry:VR X ψ φ s.heap y v) :
  wpAny (model prog w) A (assign t env y) (fun _ s'=>OutA X prog w base fr ψ φ s env sc ρ' H' s') NoE s:=by
 revert G V R O hfr he hc h T F S ry
 revert A fr ψ φ H H' s d v env sc ρ ρ' cf t ct y
 intros A fr ψ φ H H' s d v env sc ρ ρ' cf t ct y
 intro G V R O hfr he hc h T F S ry
 have name:qB7 X sc t=some ct→wpAny (model prog w) A (assign t env y) (fun _ s'=>OutA X prog w base fr ψ φ s env sc ρ' H' s') NoE s:=fun hc=>by
  obtain ⟨x,p,k,rfl,rfl,hk,hn⟩:=qAU hc
  rw [← (qA7 h).1,← (qA7 h).2]
  exact wpAny_assign_Name (qA1 (qBC (E:=NoE) O T hfr hk hn F S ry) fun _ s1 q=>Stored.out (k:=0) q)
 cases t with
 | Attribute o x p =>
  revert hc name; revert o x p; intros o x p; intro hc name
  (injection (qA0 hc) with co; rintro ⟨h1,hc⟩)
  (injection (qA4 hc) with a; rintro ⟨h2,rfl⟩)
  (injection (qA6 h) with ov H1; rintro ⟨h3,h⟩)
  (injection (qA4 h) with H2; rintro ⟨h4,h⟩)
  rw [← (Prod.mk.inj h).1,← (Prod.mk.inj h).2]
  rw [arm_assign_Attribute]
  refine wpAny_bind (wpAny_holding (qA1 ((he _ _ _ _ h1 40).1 R O F S h3) fun x s1 q=>wpAny_bind (wpAny_standAt (wpAny_bind (wpAny_holding ?_)))))
  obtain ⟨φ1,p1,r1⟩:=q
  refine qA1 (qFX G V p1.sr r1 (ry.grow0 p1.grow) (qBm h2) h4) fun _ s2 p2=>wpAny_release ?_
  have p12:=p1.trans p2
  exact ⟨φ1,p12.up,FRs.post F S p12,T.post S hfr p12⟩
 | Subscript o i p =>
  revert hc name; revert o i p; intros o i p; intro hc name
  (injection (qA0 hc) with co; rintro ⟨h1,hc⟩)
  (injection (qA4 hc) with ci; rintro ⟨h2,rfl⟩)
  (injection (qA6 h) with ov H1; rintro ⟨h3,h⟩)
  (injection (qA6 h) with iv H2; rintro ⟨h4,h⟩)
  (injection (qA4 h) with H3; rintro ⟨h5,h⟩)
  rw [← (Prod.mk.inj h).1,← (Prod.mk.inj h).2]
  rw [arm_assign_Subscript]
  refine wpAny_bind (wpAny_holding (qA1 ((he _ _ _ _ h1 40).1 R O F S h3) fun x s1 q=>wpAny_bind (wpAny_holding ?_)))
  obtain ⟨φ1,p1,r1⟩:=q
  refine qA1 ((he _ _ _ _ h2 40).1 R O (FRs.post F S p1) p1.sr h4) fun z s2 q=>wpAny_bind (wpAny_standAt (wpAny_bind (wpAny_holding ?_)))
  obtain ⟨φ2,p2,r2⟩:=q
  refine qA1 (qH0 G p2.sr (r1.grow0 p2.grow) r2 ((ry.grow0 p1.grow).grow0 p2.grow) h5) fun _ s3 p3=>wpAny_release ?_
  have p13:=(p1.trans p2).trans p3
  exact ⟨φ2,p13.up,FRs.post F S p13,T.post S hfr p13⟩
 | _=>exact name hc
theorem qEc {t:Expr}{ct:CT}{rest:List Expr} (hc:cmpT1 X sc t=some ct):assignEach (t :: rest) env=(false,assign t env) :: assignEach rest env:=by
 cases t with
 | Starred=>exact qA3 hc
 | _=>rfl
theorem qDD (G:GW X base) (V:PV X P) (R:Room d A) (O:EnvOk env sc) (hfr:∀ a ∈ fr,a ∈ ψ) (he:∀ (n:Nat) (sc:Scope) (e:Expr) (ce:CE),cmpE X n sc e=some ce→∀ m,Snd X prog w base d (evE P cf m) e ce sc) :
  ∀ {ts:List Expr}{cts:List CT}{ys:List Value}{vs:List AV}{ρ ρ':Rho}{H H':AHeap}{φ:List Addr}{s:Shared},listM (cmpT1 X sc) ts=some cts→qBJ P (evE P cf 40) cts vs ρ H=some (ρ',H')→StoreOk fr s.heap env sc→FR X ψ φ s.heap env sc ρ →
   SR X prog w base ψ φ H s.heap→VRs X ψ φ s.heap ys vs →
   wpAny (model prog w) A (assignInOrder ((assignEach ts env).map (·.2)) ys) (fun _ s'=>OutA X prog w base fr ψ φ s env sc ρ' H' s') NoE s
 | [],cts,ys,vs,ρ,ρ',H,H',φ,s,hc,h,T,F,S,r=>by
  cases hc
  cases vs with
  | nil =>
   cases r
   rw [← (qA7 (show some (ρ,H)=some (ρ',H') from h)).1,← (qA7 (show some (ρ,H)=some (ρ',H') from h)).2]
   exact wpAny_pure ⟨φ,(Post.refl S).up,F,T⟩
  | cons=>exact qA3 h
 | t :: ts,cts,ys,vs,ρ,ρ',H,H',φ,s,hc,h,T,F,S,r=>by
  obtain ⟨ct,h1,hc⟩:=qA0 hc
  obtain ⟨cts',h2,rfl⟩:=qA4 hc
  cases vs with
  | nil=>exact qA3 h
  | cons v vs =>
   obtain ⟨y,ys,rfl,ry,rs⟩:=r
   obtain ⟨ρ1,H1,h3,h⟩:=qA6 (qCA.symm.trans h)
   rw [qEc h1]
   show wpAny _ A (do holding ys (assign t env y); assignInOrder ((assignEach ts env).map (·.2)) ys) _ _ s
   refine wpAny_bind (wpAny_holding (qA1 (qFQ G V R O hfr he h1 h3 T F S ry) fun _ s1 q=>?_))
   obtain ⟨φ1,p1,F1,T1⟩:=q
   exact qA1 (qDD G V R O hfr he h2 h T1 F1 p1.sr (rs.grow p1.grow hfr)) fun _ s2 q=>q.step hfr p1
theorem qEj:∀ {ts:List Expr}{cts:List CT}{vs:List AV}{ρ:Rho}{H:AHeap}{r:Rho × AHeap},listM (cmpT1 X sc) ts=some cts→qBJ P (evE P cf 40) cts vs ρ H=some r→(assignEach ts env).length=vs.length∧(assignEach ts env).findIdx? (·.1)=none
 | [],cts,vs,ρ,H,r,hc,h=>by
  cases hc
  cases vs with
  | nil=>exact ⟨rfl,rfl⟩
  | cons=>exact qA3 h
 | t :: ts,cts,vs,ρ,H,r,hc,h=>by
  obtain ⟨ct,h1,hc⟩:=qA0 hc
  obtain ⟨cts',h2,rfl⟩:=qA4 hc
  cases vs with
  | nil=>exact qA3 h
  | cons v vs =>
   obtain ⟨ρ1,H1,h3,h⟩:=qA6 (qCA.symm.trans h)
   obtain ⟨a,b⟩:=qEj h2 h
   rw [qEc h1]
   exact ⟨congrArg (· + 1) a,by rw [List.findIdx?_cons,b]; rfl⟩
theorem qGz (G:GW X base) (V:PV X P) (R:Room d A) (O:EnvOk env sc) (hfr:∀ a ∈ fr,a ∈ ψ) (he:∀ (n:Nat) (sc:Scope) (e:Expr) (ce:CE),cmpE X n sc e=some ce→∀ m,Snd X prog w base d (evE P cf m) e ce sc)
  {t:Expr}{ct:CT}{y:Value} (hc:cmpT X sc t=some ct) (h:qDA P (evE P cf 40) ct v ρ H=some (ρ',H')) (T:StoreOk fr s.heap env sc) (F:FR X ψ φ s.heap env sc ρ) (S:SR X prog w base ψ φ H s.heap) (ry:VR X ψ φ s.heap y v) :
  wpAny (model prog w) A (assign t env y) (fun _ s'=>OutA X prog w base fr ψ φ s env sc ρ' H' s') NoE s:=by
 revert G V R O hfr he hc h T F S ry
 revert A fr ψ φ H H' s d v env sc ρ ρ' cf t ct y
 intros A fr ψ φ H H' s d v env sc ρ ρ' cf t ct y
 intro G V R O hfr he hc h T F S ry
 have one:cmpT1 X sc t=some ct→wpAny (model prog w) A (assign t env y) (fun _ s'=>OutA X prog w base fr ψ φ s env sc ρ' H' s') NoE s:=fun hc=>by
  refine qFQ G V R O hfr he hc ?_ T F S ry
  cases ct with
  | tup l =>
   revert h hc; revert l; intros l; intro _ h hc
   have no:qB7 X sc t=some (.tup l)→False:=fun hc=>by
    obtain ⟨x,p,k,_,q,_⟩:=qAU hc
    cases q
   cases t with
   | Attribute o x p=>obtain ⟨co,_,hc⟩:=qA0 hc; obtain ⟨a,_,q⟩:=qA4 hc; cases q
   | Subscript o x p=>obtain ⟨co,_,hc⟩:=qA0 hc; obtain ⟨a,_,q⟩:=qA4 hc; cases q
   | _=>exact (no hc).elim
  | _=>exact h
 cases t with
 | Tuple es kx pos =>
  revert hc one; revert es kx pos; intros es kx pos; intro hc one
  (injection (qA4 hc) with cts; rintro ⟨hl,rfl⟩)
  (injection (qA0 h) with vs; rintro ⟨hv,h⟩)
  rw [qAt hv] at ry
  obtain ⟨a,items,n,rfl,e1,n1,m1,k1,r1⟩:=ry
  have IT:IsTup s.heap a items:=⟨_,e1,rfl,_,rfl⟩
  have pre:=qEj (env:=env) hl h
  refine assign_Tuple_tuple R.handled IT (by rw [pre.1,qAS r1]) pre.2 fun h' hb=>?_
  have kp:∀ b o,s.heap.get? b=some o→h'.get? b=some o:=fun b o e=>hb b o (Nat.ne_of_lt (Heap.lt_size e)) e
  have p1:=Post.grown (s:=s) (tk:=s.toks) S kp
  exact qA1 (qDD (s:={ s with heap:=h' }) G V R O hfr he hl h (T.keep fun a _ o e=>kp a o e) (FRs.post F S p1) p1.sr (r1.grow0 p1.grow)) fun _ s2 q=>q.step hfr p1.up
 | _=>exact one hc
theorem qC8 (O:EnvOk env sc) (hfr:∀ a ∈ fr,a ∈ ψ):∀ {ns:List Str}{ks:List Nat}{ys:List Value}{vs:List AV}{ρ:Rho}{s:Shared},ns.length=ys.length→ns.map (nid X.names)=ks.map some→(∀ x ∈ ns,qAE sc x=some .local) →
  StoreOk fr s.heap env sc→FR X ψ φ s.heap env sc ρ→SR X prog w base ψ φ H s.heap→VRs X ψ φ s.heap ys vs →
  wpAny (model prog w) A (assignInOrder (ns.map fun n=>bindName env n) ys) (fun _ s'=>OutA X prog w base fr ψ φ s env sc ((ks.zip vs).foldl (fun ρ p=>upd p.1 p.2 ρ) ρ) H s') NoE s
 | [],ks,ys,vs,ρ,s,hl,hk,_,T,F,S,r=>by
  obtain rfl:ks=[]:=List.map_eq_nil_iff.mp hk.symm
  obtain rfl:=List.eq_nil_of_length_eq_zero hl.symm
  exact wpAny_pure ⟨φ,(Post.refl S).up,F,T⟩
 | n :: ns,[],ys,vs,ρ,s,hl,hk,_,T,F,S,r=>nomatch hk
 | n :: ns,k :: ks,ys,[],ρ,s,hl,hk,_,T,F,S,r=>by cases r; cases hl
 | n :: ns,k :: ks,ys,v :: vs,ρ,s,hl,hk,hloc,T,F,S,r=>by
  obtain ⟨y,ys,rfl,ry,rs⟩:=r
  have hk:=List.cons.inj hk
  show wpAny _ A (do holding ys (bindName env n y); assignInOrder (ns.map fun n=>bindName env n) ys) _ _ s
  refine wpAny_bind (wpAny_holding (wpAny_bindName (qA1 (qBC (E:=NoE) O T hfr (.inl (hloc n (.head _))) hk.1 F S ry) fun _ s1 q=>?_)))
  exact qA1 (qC8 O hfr (Nat.succ.inj hl) hk.2 (fun x hx=>hloc x (.tail _ hx)) q.st (fun z k v _=>q.vars z k v (.inl trivial)) q.post.sr (rs.grow q.post.grow hfr)) fun _ s2 q2=>q2.step hfr q.post
theorem qB0 {α:Type}{k:Nat}{v:α}:∀ {l:List (Nat × α)},(l.map (·.1)).Nodup→(l.lookup k=some v↔(k,v) ∈ l)
 | [],_=>⟨fun e=>(qA3 e),fun m=>(qA9 m)⟩
 | p :: r,h=>by
  have h:=List.nodup_cons.mp h
  rw [qAT,List.mem_cons]
  by_cases q:p.1=k
  ·rw [if_pos q]
   refine ⟨fun e=>.inl (Prod.ext q.symm (Option.some.inj e).symm),fun m=>m.elim (fun e=>congrArg some (congrArg Prod.snd e).symm) fun m=>absurd (List.mem_map_of_mem (f:=(·.1)) m) (q ▸ h.1)⟩
  ·rw [if_neg q]
   exact (qB0 h.2).trans ⟨.inr,fun m=>m.resolve_left fun e=>q (congrArg Prod.fst e).symm⟩
theorem qCe {α:Type}:∀ {kvs:List (Nat × α)}{ρ:List (Nat × α)}{k:Nat},(kvs.map (·.1)).Nodup→(kvs.foldl (fun ρ p=>upd p.1 p.2 ρ) ρ).lookup k=(kvs.lookup k).or (ρ.lookup k)
 | [],ρ,k,_=>rfl
 | p :: r,ρ,k,h=>by
  have h:=List.nodup_cons.mp h
  rw [List.foldl_cons,qCe h.2,qBW,qAT]
  by_cases q:k=p.1
  ·have:r.lookup k=none:=by
    cases e:r.lookup k with
    | none=>rfl
    | some v=>exact absurd (List.mem_map_of_mem (f:=(·.1)) ((qB0 h.2).mp e)) (q ▸ h.1)
   rw [this,if_pos q,if_pos q.symm]; rfl
  ·rw [if_neg q,if_neg (Ne.symm q)]
theorem qIY {α:Type}{kvs:List (Nat × α)}{k:Nat} (h:(kvs.map (·.1)).Nodup):kvs.reverse.lookup k=kvs.lookup k:=by
 have hr:(kvs.reverse.map (·.1)).Nodup:=by rw [List.map_reverse]; exact List.pairwise_reverse.mpr (List.Pairwise.imp (fun h=>Ne.symm h) h)
 refine Option.ext fun v=>?_
 rw [qB0 hr,List.mem_reverse]
 exact (qB0 h).symm
end
end Mine.Internal
end
section
open PySem PySem.W PyProof.Rows
namespace Mine.Internal
section
variable {A:Around}{fr pv ψ ψ' φ φ' φ₁:List Addr}{H H' H₁ H₂ H0:AHeap}{s s₁:Shared}{d:Nat}{v:AV}{E:Value→Shared→Prop}{env:PySem.Env}{sc:Scope}{ρ ρ':Rho}{cf:qAQ}{m:Nat}{ok:Str→Prop}
theorem FR.ext {h:Heap} (F:FR X ψ φ h env sc ρ) (e:∀ k,ρ.lookup k=ρ'.lookup k):FR X ψ φ h env sc ρ':=fun x k v o a b c=>F x k v o a b ((e k).trans c)
theorem qDE {ev:EvFn}:∀ {ks:List Nat}{vs:List AV}{ρ:Rho}{H:AHeap}{r:Rho × AHeap},qBJ P ev (ks.map .name) vs ρ H=some r→ks.length=vs.length∧r=((ks.zip vs).foldl (fun ρ p=>upd p.1 p.2 ρ) ρ,H)
 | [],[],_,_,r,h=>⟨rfl,(Option.some.inj h).symm⟩
 | [],_ :: _,_,_,_,h=>qA3 h
 | _ :: _,[],_,_,_,h=>qA3 h
 | k :: ks,v :: vs,ρ,H,r,h=>by
  obtain ⟨ρ1,H1,h1,h⟩:=qA6 (qCA.symm.trans h)
  obtain ⟨rfl,rfl⟩:=qA7 (show some (upd k v ρ,H)=some (ρ1,H1) from h1)
  obtain ⟨a,b⟩:=qDE h
  exact ⟨congrArg (· + 1) a,b⟩
theorem qE2 {α β:Type}:∀ {l:List α}{m:List β},l.length=m.length→(l.zip m).reverse=l.reverse.zip m.reverse
 | [],[],_=>rfl
 | a :: l,b :: m,h=>by
  have h':l.length=m.length:=Nat.succ.inj h
  rw [List.zip_cons_cons,List.reverse_cons,qE2 h',List.reverse_cons,List.reverse_cons,qBB (by rw [List.length_reverse,List.length_reverse]; exact h')]
noncomputable def qAN (env:PySem.Env) (line:Nat):Expr→Option Str
 | .Name id pos=>if env.kindOf id == some .local && pos.line == line then some id else none
 | _=>none
theorem qEu {ts vs:List Expr}{k k':Nat}{p p':Pos}:swappedStores [.Tuple ts k p] (.Tuple vs k' p') env =
  (if (!(ts.length == 2 || ts.length == 3) || vs.length != ts.length || env.blockKind != .function)=true then pure none
   else if (vs.any qAs)=true then pure none
   else if ((ts.filterMap (qAN env ((ts.head?.map (·.pos.line)).getD 0))).length != ts.length || (ts.filterMap (qAN env ((ts.head?.map (·.pos.line)).getD 0))).eraseDups.length != (ts.filterMap (qAN env ((ts.head?.map (·.pos.line)).getD 0))).length)=true then pure none
   else if (vs.all (foldedForSure 8))=true then pure none
   else if (vs.all (constantsAlone 8))=true then (do unsupported "assign.tuple-of-constant-expressions:order-of-the-stores"; pure (some (ts.filterMap (qAN env ((ts.head?.map (·.pos.line)).getD 0)))))
   else pure (some (ts.filterMap (qAN env ((ts.head?.map (·.pos.line)).getD 0))))):=by
 rfl
inductive Swapped (env:PySem.Env) (t e:Expr):Prop
 | mk (ts:List Expr) (k:Nat) (p:Pos) (line:Nat) (z:t=.Tuple ts k p) (s:swappedStores [t] e env=pure (some (ts.filterMap (qAN env line)))) (h3:ts.length ≤ 3) (hl:(ts.filterMap (qAN env line)).length=ts.length)
  (hd:(ts.filterMap (qAN env line)).eraseDups.length=(ts.filterMap (qAN env line)).length)
theorem qFS {t e:Expr} (hp:qCr t e=true):swappedStores [t] e env=pure none∨Swapped env t e:=by
 revert hp
 revert env t e
 intros env t e
 intro hp
 cases t with
 | Tuple ts k p =>
  revert hp; revert ts k p; intros ts k p; intro hp
  cases e with
  | Tuple vs k' p' =>
   revert hp; revert vs k' p'; intros vs k' p'; intro hp
   have hca:¬ vs.all (constantsAlone 8)=true:=by
    have:(!vs.all (constantsAlone 8))=true:=hp
    intro q; rw [q] at this; exact nomatch this
   rw [qEu]
   generalize hline:(ts.head?.map (·.pos.line)).getD 0=line
   by_cases h1:(!(ts.length == 2 || ts.length == 3) || vs.length != ts.length || env.blockKind != .function)=true
   ·left; rw [if_pos h1]
   ·by_cases h2:(vs.any qAs)=true
    ·left; rw [if_neg h1,if_pos h2]
    ·by_cases h3:((ts.filterMap (qAN env line)).length != ts.length || (ts.filterMap (qAN env line)).eraseDups.length != (ts.filterMap (qAN env line)).length)=true
     ·left; rw [if_neg h1,if_neg h2,if_pos h3]
     ·by_cases h4:vs.all (foldedForSure 8)=true
      ·left; rw [if_neg h1,if_neg h2,if_neg h3,if_pos h4]
      ·right
       have h3':=not_or.mp (fun q=>h3 (Bool.or_eq_true_iff.mpr q))
       refine ⟨ts,k,p,line,rfl,?_,?_,Decidable.not_not.mp fun q=>h3'.1 (bne_iff_ne.mpr q),Decidable.not_not.mp fun q=>h3'.2 (bne_iff_ne.mpr q)⟩
       ·rw [qEu,hline,if_neg h1,if_neg h2,if_neg h3,if_neg h4,if_neg hca]
       ·cases h5:(ts.length == 2 || ts.length == 3) with
        | false=>rw [h5] at h1; exact absurd rfl h1
        | true =>
         rcases Bool.or_eq_true_iff.mp h5 with h5 | h5 <;> rw [beq_iff_eq.mp h5] <;> decide
  | _=>left; rfl
 | List ts p =>
  revert hp; revert ts p; intros ts p; intro hp
  cases e with
  | Tuple=>exact nomatch hp
  | _=>left; rfl
 | _=>left; rfl
theorem qDl:∀ {n:Nat}{l:List Str},l.length ≤ n→l.eraseDups.length ≤ l.length
 | _,[],_=>Nat.le_refl _
 | n + 1,a :: r,h=>by
  rw [List.eraseDups_cons,List.length_cons]
  have h1:(r.filter fun b=>!b == a).length ≤ r.length:=List.length_filter_le _ _
  exact Nat.succ_le_succ (Nat.le_trans (qDl (n:=n) (Nat.le_trans h1 (Nat.le_of_succ_le_succ h))) h1)
theorem qF3:∀ {l:List Str},l.eraseDups.length=l.length→l.Nodup
 | [],_=>List.nodup_nil
 | a :: r,e=>by
  rw [List.eraseDups_cons,List.length_cons,List.length_cons] at e
  have e:=Nat.succ.inj e
  have h1:(r.filter fun b=>!b == a).length ≤ r.length:=List.length_filter_le _ _
  have h2:=qDl (l:=r.filter fun b=>!b == a) (Nat.le_refl _)
  have h4:=List.filter_eq_self.mpr (List.length_filter_eq_length_iff.mp (Nat.le_antisymm h1 (e ▸ h2)))
  rw [h4] at e
  refine List.nodup_cons.mpr ⟨fun m=>?_,qF3 e⟩
  have:=List.filter_eq_self.mp h4 a m
  rw [beq_self_eq_true] at this
  exact nomatch this
theorem qJW {line:Nat}{t:Expr}{x:Str} (h:qAN env line t=some x):∃ p,t=.Name x p∧env.kindOf x=some .local:=by
 cases t with
 | Name id p =>
  obtain ⟨hk,h⟩:=qAA h
  obtain rfl:=Option.some.inj h
  exact ⟨p,rfl,beq_iff_eq.mp (Bool.and_eq_true_iff.mp hk).1⟩
 | _=>exact qA3 h
inductive Picked (X:CX) (sc:Scope) (ns:List Str) (cts:List CT):Prop
 | mk (ks:List Nat) (e1:cts=ks.map .name) (e2:ns.map (nid X.names)=ks.map some) (e3:∀ x ∈ ns,qAE sc x=some .local)
theorem qLx {line:Nat} (O:EnvOk env sc):∀ {ts:List Expr}{cts:List CT},(ts.filterMap (qAN env line)).length=ts.length→listM (cmpT1 X sc) ts=some cts→Picked X sc (ts.filterMap (qAN env line)) cts
 | [],cts,_,hc=>by cases hc; exact ⟨[],rfl,rfl,fun _ q=>nomatch q⟩
 | t :: ts,cts,hl,hc=>by
  obtain ⟨ct,h1,hc⟩:=qA0 hc
  obtain ⟨cts',h2,rfl⟩:=qA4 hc
  cases hp:qAN env line t with
  | none =>
   rw [List.filterMap_cons_none hp] at hl
   exact absurd (hl ▸ List.length_filterMap_le (qAN env line) ts) (Nat.not_succ_le_self _)
  | some x =>
   rw [List.filterMap_cons_some hp] at hl ⊢
   obtain ⟨ks,e1,e2,e3⟩:=qLx O (Nat.succ.inj hl) h2
   obtain ⟨p,rfl,hx⟩:=qJW hp
   obtain ⟨x',p',k,q,rfl,hkk,hn⟩:=qAU (show qB7 X sc (.Name x p)=some ct from h1)
   cases q
   refine ⟨k :: ks,by rw [e1]; rfl,congr (congrArg List.cons hn) e2,fun z hz=>?_⟩
   rcases List.mem_cons.mp hz with rfl | hz
   ·exact hkk.resolve_right fun hkk=>nomatch (O.cel _ hkk).symm.trans hx
   ·exact e3 z hz
theorem VRs.reverse {h:Heap}:∀ {l:List AV}{vs:List Value},VRs X ψ φ h vs l→VRs X ψ φ h vs.reverse l.reverse
 | [],_,r=>by cases r; exact .nil
 | _ :: _,_,r=>by
  obtain ⟨v,ws,rfl,r,q⟩:=r
  rw [List.reverse_cons,List.reverse_cons]
  exact q.reverse.append (.cons r .nil)
theorem qKf (G:GW X base) (V:PV X P) (R:Room d A) (O:EnvOk env sc) (hfr:∀ a ∈ fr,a ∈ ψ) (he:∀ (n:Nat) (sc:Scope) (e:Expr) (ce:CE),cmpE X n sc e=some ce→∀ m,Snd X prog w base d (evE P cf m) e ce sc)
  {t value:Expr}{ct:CT}{y:Value} (hp:qCr t value=true) (hc:cmpT X sc t=some ct) (h:qDA P (evE P cf 40) ct v ρ H=some (ρ',H')) (T:StoreOk fr s.heap env sc) (F:FR X ψ φ s.heap env sc ρ) (S:SR X prog w base ψ φ H s.heap) (ry:VR X ψ φ s.heap y v) :
  wpAny (model prog w) A (swappedStores [t] value env >>= fun sw=>assignStores env y sw ((assignEach [t] env).map (·.2))) (fun fl s'=>fl=.next∧OutA X prog w base fr ψ φ s env sc ρ' H' s') NoE s:=by
 revert G V R O hfr he hp hc h T F S ry
 revert A fr ψ φ H H' s d v env sc ρ ρ' cf t value ct y
 intros A fr ψ φ H H' s d v env sc ρ ρ' cf t value ct y
 intro G V R O hfr he hp hc h T F S ry
 have hone:(assignEach [t] env).map (·.2)=[assign t env]:=by
  cases t with
  | Starred=>exact qA3 hc
  | _=>rfl
 rcases qFS (env:=env) hp with e | ⟨ts,k,p,line,rfl,e,hl,hnl,hdup⟩
 ·rw [e]
  refine wpAny_bind (wpAny_pure ?_)
  rw [hone]
  show wpAny _ A (do assign t env y; pure Flow.next) _ _ _
  exact wpAny_bind (qA1 (qGz G V R O hfr he hc h T F S ry) fun _ s1 q=>wpAny_pure ⟨rfl,q⟩)
 ·revert hl hnl hdup hp hc hone e; revert ts k p line; intros ts k p line; intro hl hnl hdup hp hc hone e
  revert hl hnl hdup hp hc hone e; revert ts k p line; intros ts k p line; intro hl hnl hdup hp hc hone e
  rw [e]
  refine wpAny_bind (wpAny_pure ?_)
  (injection (qA4 hc) with cts; rintro ⟨hcl,rfl⟩)
  obtain ⟨ks,rfl,e2,e3⟩:=qLx (line:=line) O hnl hcl
  revert e2 hcl h hc; revert ks; intros ks; intro e2 hcl h hc
  generalize ts.filterMap (qAN env line)=names at e2 e3 hdup
  show wpAny _ A (do rule "assign.swapped-stores"; let items ← unpackItems y names.length none; assignInOrder (names.reverse.map fun n=>bindName env n) items.reverse; pure Flow.next) _ _ _
  refine wpAny_bind (wpAny_rule (wpAny_bind ?_))
  (injection (qA0 h) with l; rintro ⟨hv,h⟩)
  rw [qAt hv] at ry
  obtain ⟨hkl,hr⟩:=qDE h
  have hnk:names.length=ks.length:=by have:=congrArg List.length e2; rwa [List.length_map,List.length_map] at this
  have ndN:=qF3 hdup
  have ndK:ks.Nodup:=by
   have:(ks.map some).Nodup:=by
    rw [← e2,List.Nodup,List.pairwise_map]
    refine List.Pairwise.imp_of_mem (fun {a b} ha hb hab z=>hab ?_) ndN
    obtain ⟨k,_,hk⟩:=List.mem_map.mp (show nid X.names a ∈ ks.map some from e2 ▸ List.mem_map_of_mem ha)
    exact qFh hk.symm (hk.symm ▸ z.symm)
   exact (List.pairwise_map.mp this).imp fun h e=>h (congrArg some e)
  obtain ⟨a,items,n,rfl,e1,n1,m1,k1,r1⟩:=ry
  have IT:IsTup s.heap a items:=⟨_,e1,rfl,_,rfl⟩
  have hsz:items.size=names.length:=by rw [qAS r1,hnk,hkl]
  rw [← hsz]
  refine unpackItems_tuple R.handled IT fun h' hb=>?_
  have kp:∀ b o,s.heap.get? b=some o→h'.get? b=some o:=fun b o e=>hb b o (Nat.ne_of_lt (Heap.lt_size e)) e
  have p1:=Post.grown (s:=s) (tk:=s.toks) S kp
  refine wpAny_bind (qA1 (qC8 (ns:=names.reverse) (ks:=ks.reverse) (s:={ s with heap:=h' }) O hfr (by simp [hsz]) (by rw [List.map_reverse,e2,List.map_reverse]) (fun x hx=>e3 x (List.mem_reverse.mp hx)) (T.keep fun a _ o e=>kp a o e) (FRs.post F S p1) p1.sr (r1.grow0 p1.grow).reverse) fun _ s2 q=>wpAny_pure ⟨rfl,?_⟩)
  obtain ⟨φ2,p2,F2,T2⟩:=q.step hfr p1.up
  rw [(Prod.mk.inj hr).2]
  refine ⟨φ2,p2,F2.ext ?_,T2⟩
  intros k
  have hz1:((ks.zip l).map (·.1)).Nodup:=by rw [List.map_fst_zip (Nat.le_of_eq hkl)]; exact ndK
  rw [(Prod.mk.inj hr).1,← qE2 hkl,qCe (by rw [List.map_reverse]; exact List.pairwise_reverse.mpr (List.Pairwise.imp (fun h=>Ne.symm h) hz1)),qCe hz1,qIY hz1]
end
end Mine.Internal
end
section
open PySem PySem.W PyProof.Rows
namespace Mine.Internal
noncomputable def FlR (X:CX) (ψ φ:List Addr) (h:Heap):Fl→Flow→Prop
 | .next,f=>f=.next
 | .ret v,f=>∃ x,f=.ret x∧VR X ψ φ h x v
theorem FlR.next {ψ φ h}:FlR X ψ φ h .next .next:=rfl
theorem FlR.ret {ψ φ h}{v:AV}{x:Value} (r:VR X ψ φ h x v):FlR X ψ φ h (.ret v) (.ret x):=⟨x,rfl,r⟩
section
variable {A:Around}{fr pv ψ ψ' φ φ' φ₁:List Addr}{H H' H₁ H₂ H0:AHeap}{s s₁:Shared}{d:Nat}{v:AV}{E:Value→Shared→Prop}{env:PySem.Env}{sc:Scope}{ρ ρ':Rho}{cf:qAQ}{m:Nat}{ok:Str→Prop}
noncomputable def OutS (X:CX) (prog:Program) (w:World) (base:Heap) (fr ψ φ:List Addr) (s:Shared) (env:PySem.Env) (sc:Scope) (f:Fl) (ρ':Rho) (H':AHeap) (fl:Flow) (s':Shared):Prop :=
 ∃ φ',Post X prog w base fr ψ φ φ' H' s s'∧FR X ψ φ' s'.heap env sc ρ'∧StoreOk fr s'.heap env sc∧FlR X ψ φ' s'.heap f fl
theorem OutS.step {f:Fl}{fl:Flow}{s':Shared} (hfr:∀ a ∈ fr,a ∈ ψ) (p:Post X prog w base fr ψ φ φ₁ H₁ s s₁) (o:OutS X prog w base fr ψ φ₁ s₁ env sc f ρ' H' fl s'):OutS X prog w base fr ψ φ s env sc f ρ' H' fl s' :=
 let ⟨φ',q,r⟩:=o; ⟨φ',p.transF q hfr,r⟩
inductive Swaps (env:PySem.Env) (value t:Expr) (line:Nat):Prop
 | mk (x:Str) (p:Pos) (z:t=.Name x p) (hk:env.kindOf x=some .local) (e:swapsWith value (some t) line env=pure true) (hc:qFA value=true)
theorem qH5 {value t:Expr}{line:Nat}:swapsWith value (some t) line env=pure false∨Swaps env value t line:=by
 revert env value t line
 intros env value t line
 have key:∀ (sco:Scope),qFA value=true→(∀ x p,t=.Name x p→swapsWith value (some t) line env=pure (env.blockKind == .function && env.kindOf x == some .local && p.line == value.pos.line && !(sco.names.any fun (n,k)=>n == x && (k == .local || k == .cell)))) →
   (qC1 t=none→swapsWith value (some t) line env=pure false)→swapsWith value (some t) line env=pure false∨Swaps env value t line:=by
  (intros sco; intro hc e1 e2)
  cases hn:qC1 t with
  | none=>exact .inl (e2 hn)
  | some x =>
   revert hn; revert x; intros x; intro hn
   (injection (qDg hn) with p; rintro rfl)
   have e:=e1 x p rfl
   cases hb:(env.blockKind == .function && env.kindOf x == some .local && p.line == value.pos.line && !(sco.names.any fun (n,k)=>n == x && (k == .local || k == .cell))) with
   | false=>left; rw [e,hb]
   | true =>
    right
    exact ⟨x,p,rfl,beq_iff_eq.mp (Bool.and_eq_true_iff.mp (Bool.and_eq_true_iff.mp (Bool.and_eq_true_iff.mp hb).1).1).2,by rw [e,hb],hc⟩
 cases value with
 | ListComp a b c d=>exact key c rfl (fun x p e=>by rw [e]; rfl) fun h=>by cases t with
  | Name=>exact qFV h
  | _=>rfl
 | SetComp a b c d=>exact key c rfl (fun x p e=>by rw [e]; rfl) fun h=>by cases t with
  | Name=>exact qFV h
  | _=>rfl
 | DictComp a b c d e=>exact key d rfl (fun x p e=>by rw [e]; rfl) fun h=>by cases t with
  | Name=>exact qFV h
  | _=>rfl
 | _=>left; rfl
theorem qGk {t value:Expr}{pos:Pos}:exec (.Assign [t] value pos) env=(do
  standAt pos
  if ← swapsWith value (some t) pos.line env then do
   evalThenUse value env fun v=>assignAll v ((assignEach [t] env).map (·.2))
   pure .next
  else do
   let v ← eval value env
   assignStores env v (← swappedStores [t] value env) ((assignEach [t] env).map (·.2))):=rfl
inductive CompParts (X:CX) (P:Prog) (prog:Program) (w:World) (base:Heap) (d:Nat) (cf:qAQ) (sc:Scope) (value:Expr) (ce:CE):Prop
 | mk (elt:Expr) (inner:Scope) (pos:Pos) (t it e:Expr) (ifs:List Expr) (en:Bool) (celt:CE) (ct:CT) (ci:CE) (cifs:List CE) (z:value=.ListComp elt [⟨t,it,ifs,0⟩] inner pos) (y:ce=.comp (X.isTrk pos) en celt ct ci cifs) (K:CompOk X sc inner t) (hct:qAl X inner t=some ct)
  (ht:en=true→∃ es k p,t=.Tuple es k p) (hns:∀ a b c,it ≠ .Set a b c) (hsrc:if en then qCg X sc it=some e else e=it) (hi:∀ m,Snd X prog w base d (evE P cf m) e ci sc) (hel:∀ m,Snd X prog w base d (evE P cf m) elt celt inner)
  (hf:∀ m,listM₂ (fun e ce=>Snd X prog w base d (evE P cf m) e ce inner) ifs cifs)
theorem qIs (he:∀ (n:Nat) (sc:Scope) (e:Expr) (ce:CE),cmpE X n sc e=some ce→∀ m,Snd X prog w base d (evE P cf m) e ce sc) {n:Nat}{value:Expr}{ce:CE} (hc:qFA value=true) (h:cmpE X (n + 1) sc value=some ce):CompParts X P prog w base d cf sc value ce:=by
 revert he hc h
 revert d sc cf n value ce
 intros d sc cf n value ce
 intro he hc h
 cases value with
 | ListComp elt gens inner pos =>
  revert hc h; revert elt gens inner pos; intros elt gens inner pos; intro hc h
  (injection (qA0 h) with g; rintro ⟨hg,h⟩)
  obtain ⟨hk,h⟩:=qAA h
  have hk:=Bool.and_eq_true_iff.mp hk
  (injection (qA0 h) with ct; rintro ⟨h1,h⟩)
  obtain ⟨ht,h⟩:=qAA h
  (injection (qA0 h) with celt; rintro ⟨h2,h⟩)
  (injection (qA0 h) with ci; rintro ⟨h3,h⟩)
  (injection (qA4 h) with cifs; rintro ⟨h4,h⟩)
  have hz:gens=[⟨g.target,g.iter,g.ifs,0⟩]:=by
   rw [qBM hg]
   obtain ⟨t,it,ifs,z⟩:=g
   rw [show z=0 from of_decide_eq_true hk.2]
  refine ⟨elt,inner,pos,g.target,g.iter,_,g.ifs,_,celt,ct,ci,cifs,by rw [hz],h.symm,qC5 hk.1,h1,fun q=>qF9 h1 ?_,qCP h3,qDZ,fun m=>he _ _ _ _ h3 m,fun m=>he _ _ _ _ h2 m,fun m=>qBF (fun e ce q=>he _ _ e ce q m) h4⟩
  rw [q] at ht
  exact ht
 | SetComp=>exact qA3 h
 | DictComp=>exact qA3 h
 | _=>exact ff_tt hc
end
end Mine.Internal
end
section
open PySem PySem.W PyProof.Rows
namespace Mine.Internal
section
variable {A:Around}{fr pv ψ ψ' φ φ' φ₁:List Addr}{H H' H₁ H₂ H0:AHeap}{s s₁:Shared}{d:Nat}{v:AV}{E:Value→Shared→Prop}{env:PySem.Env}{sc:Scope}{ρ ρ':Rho}{cf:qAQ}{m:Nat}{ok:Str→Prop}
abbrev HE (X:CX) (P:Prog) (prog:Program) (w:World) (base:Heap) (d:Nat) (cf:qAQ):Prop:=∀ (n:Nat) (sc:Scope) (e:Expr) (ce:CE),cmpE X n sc e=some ce→∀ m,Snd X prog w base d (evE P cf m) e ce sc
theorem FRs.left {h h':Heap}{C:Addr} (F:FRs ok X (C :: ψ) φ h env sc ρ) (hL:env.locals ∈ ψ) (hC:C ∉ ψ) (hn:∃ m,h.Ns C m) (kp:∀ b o,b ∉ [C]→h.get? b=some o→h'.get? b=some o):FRs ok X ψ φ h' env sc ρ:=by
 have hpv:∀ a ∈ [C],a ∈ C :: ψ:=fun a ha=>by rw [List.mem_singleton.mp ha]; exact .head _
 intro x k v o a b c
 obtain ⟨y,p,q⟩:=F x k v o a b c
 refine ⟨y,?_,q.left kp hpv fun a q=>.tail _ q⟩
 cases p with
 | @«local» m a b c d =>
  obtain ⟨o,es,ep,e,r⟩:=c
  exact .local a hL ⟨o,es,ep,kp _ o (fun z=>hC (List.mem_singleton.mp z ▸ hL)) e,r⟩ d
 | @cell cc a b c d =>
  have hcc:cc ≠ C:=fun z=>by
   subst z
   obtain ⟨m,hm⟩:=hn
   exact qED hm d
  have hm:cc ∈ ψ:=(List.mem_cons.mp c).resolve_left hcc
  obtain ⟨o,e,r⟩:=d
  exact .cell a b hm ⟨o,kp _ o (by simpa using hcc) e,r⟩
theorem qHV (G:GW X base) (R:Room d A) (O:EnvOk env sc) (hfr:∀ a ∈ fr,a ∈ ψ) (he:HE X P prog w base d cf) {x:Str}{p:Pos}{k:Nat}{value:Expr}{ce:CE} (hk:qAE sc x=some .local∨qAE sc x=some .cell) (hn:nid X.names x=some k)
  (hcomp:qFA value=true) (hc:cmpE X 40 sc value=some ce) (h1:evE P cf 40 ce ρ H=some (v,H')) (T:StoreOk fr s.heap env sc) (F:FR X ψ φ s.heap env sc ρ) (S:SR X prog w base ψ φ H s.heap) :
  wpAny (model prog w) A (evalThenUse value env fun v=>assignAll v ((assignEach [.Name x p] env).map (·.2))) (fun _ s'=>OutA X prog w base fr ψ φ s env sc (upd k v ρ) H' s') NoE s:=by
 revert G R O hfr he hk hn hcomp hc h1 T F S
 revert A fr ψ φ H H' s d v env sc ρ cf x p k value ce
 intros A fr ψ φ H H' s d v env sc ρ cf x p k value ce
 intro G R O hfr he hk hn hcomp hc h1 T F S
 obtain ⟨elt,inner,cpos,t,it,e,ifs,en,celt,ct,ci,cifs,rfl,rfl,K,hct,ht,hns,hsrc,hi,hel,hf⟩:=qIs he hcomp hc
 revert K hct ht hns hsrc hi hel hf hcomp h1 hc; revert elt inner cpos t it e ifs en celt ct ci cifs; intros elt inner cpos t it e ifs en celt ct ci cifs; intro K hct ht hns hsrc hi hel hf hcomp h1 hc
 (injection (qA6 (show bnd (evE P cf 39 ci ρ H) (fun x H=>bnd (iterE en H x) fun xs src=>bnd (compLoop (evE P cf 39) celt ct cifs H src xs ρ H) fun vs H=>some (qAC (X.isTrk cpos) vs H))=some (v,H') from h1)) with xv H1; rintro ⟨h2,h1'⟩)
 (injection (qA6 h1') with xs src; rintro ⟨h3,h1'⟩)
 (injection (qA6 h1') with vs H3; rintro ⟨h4,h1'⟩)
 have e1:(qAC (X.isTrk cpos) vs H3).1=v:=congrArg Prod.fst (Option.some.inj h1')
 have e2:(qAC (X.isTrk cpos) vs H3).2=H':=congrArg Prod.snd (Option.some.inj h1')
 clear h1 h1'
 subst e1 e2
 show wpAny _ A (do let _ ← comprehension (.ListComp elt [⟨t,it,ifs,0⟩] inner cpos) inner env _ (newList []) false (eval it env) (some (assign (.Name x p) env))) _ _ s
 refine wpAny_bind (qA1 (qI7 (Q:=fun _ s'=>OutA X prog w base fr ψ φ s env sc (upd k (qAC (X.isTrk cpos) vs H3).1 ρ) (qAC (X.isTrk cpos) vs H3).2 s') (use:=some (assign (.Name x p) env)) (en:=en) (xs:=xs) (src:=src) (H₁:=H1) (X.isTrk cpos) G R O K hct ht (hel 39).1 (listM₂_snd (hf 39)) hns F S ?_ h4
  ?_) fun _ s' q=>wpAny_pure q)
 ·cases en with
  | true=>exact qG8 G R O hsrc (hi 39).1 F S h2 h3
  | false =>
   have:e=it:=hsrc
   subst this
   exact qDG R O (hi 39).1 F S h2 h3
 ·intros D C s' φ'; intro hCψ hCs hsame g sr r ns hl
  show wpAny _ A (assign (.Name x p) env (.ref D)) _ _ _
  have hfrC:C ∉ fr:=fun q=>hCψ (hfr C q)
  have F1:FR X (C :: ψ) φ' s'.heap env sc ρ:=F.shift S g (by
   intros a; intro ha
   rcases List.mem_cons.mp ha with rfl | ha
   ·exact .inr hCs
   ·exact .inl ha) fun a ha=>.tail _ ha
  have T1:StoreOk fr s'.heap env sc:=T.keep (by intros a; intro ha; intros o; intro e; exact g.kept a o e (fun m=>(S.fresh a m).2.2 (hfr a ha)) (fun q=>nomatch q))
  refine wpAny_assign_Name (qA1 (qBC (E:=NoE) O T1 (fun a ha=>.tail _ (hfr a ha)) hk hn F1 sr r) ?_)
  intro _; intros s2; intro q
  (injection (ns) with m0; try clear ns; intro hm0)
  have hm2:s2.heap.Ns C m0:=by
   (injection (hm0) with o es ep; try clear hm0; rintro ⟨e,rr⟩)
   exact ⟨o,es,ep,q.kept C o hfrC e,rr⟩
  refine ⟨m0,hm2,?_⟩
  intros h'; intro hs
  have kp:∀ b o,b ∉ [C]→s2.heap.get? b=some o→h'.get? b=some o:=fun b o nb e=>(hs.2 b (by simpa using nb)).trans e
  have hpv:∀ a ∈ [C],a ∈ C :: ψ:=fun a ha=>by rw [List.mem_singleton.mp ha]; exact .head _
  have sr':=q.post.sr.left (ψ':=ψ) kp hpv (fun a q=>.tail _ q) fun a ha q=>hCψ (by rw [List.mem_singleton.mp q] at ha; exact ha)
  refine ⟨φ',⟨by rw [q.post.same,hsame],⟨g.pre,g.new,fun b o e n nb=>kp b o (fun z=>?_) (q.kept b o nb (g.kept b o e n (fun z=>qA9 z)))⟩,sr'⟩,?_,q.st.keep (by intros a; intro ha; intros o; intro e; exact kp a o (fun z=>hfrC (by rw [List.mem_singleton.mp z] at ha; exact ha)) e)⟩
  ·rw [List.mem_singleton.mp z,hCs] at e; cases e
  ·have F2:FR X (C :: ψ) φ' s2.heap env sc (upd k (qAC (X.isTrk cpos) vs H3).1 ρ):=fun z k v _=>q.vars z k v (.inl trivial)
   exact F2.left (hfr _ T.loc) hCψ ⟨m0,hm2⟩ kp
theorem qLl (G:GW X base) (V:PV X P) (R:Room d A) (O:EnvOk env sc) (hfr:∀ a ∈ fr,a ∈ ψ) (he:HE X P prog w base d cf) {t value:Expr}{pos:Pos}{ct:CT}{ce:CE} (hp:qCr t value=true) (hct:cmpT X sc t=some ct) (hc:cmpE X 40 sc value=some ce)
  (h1:evE P cf 40 ce ρ H=some (v,H₁)) (h2:qDA P (evE P cf 40) ct v ρ H₁=some (ρ',H')) (T:StoreOk fr s.heap env sc) (F:FR X ψ φ s.heap env sc ρ) (S:SR X prog w base ψ φ H s.heap) :
  wpAny (model prog w) A (exec (.Assign [t] value pos) env) (OutS X prog w base fr ψ φ s env sc .next ρ' H') NoE s:=by
 revert G V R O hfr he hp hct hc h1 h2 T F S
 revert A fr ψ φ H H' H₁ s d v env sc ρ ρ' cf t value pos ct ce
 intros A fr ψ φ H H' H₁ s d v
 intros env sc ρ ρ' cf t value pos ct ce
 intro G V R O hfr he hp hct hc h1 h2 T F S
 rw [qGk]
 refine wpAny_bind (wpAny_standAt ?_)
 rcases qH5 (env:=env) (value:=value) (t:=t) (line:=pos.line) with e | ⟨x,p,rfl,hk,e,hcomp⟩
 ·rw [e]
  refine wpAny_bind (wpAny_pure ?_)
  rw [if_neg Bool.false_ne_true]
  refine wpAny_bind (qA1 ((he _ _ _ _ hc 40).1 R O F S h1) ?_)
  intros y s1; intro q
  (injection (q) with φ1; try clear q; rintro ⟨p1,r1⟩)
  refine qA1 (qKf G V R O hfr he hp hct h2 (T.post S hfr p1) (FRs.post F S p1) p1.sr r1) ?_
  intros fl s2; intro q
  obtain ⟨rfl,q⟩:=q
  (injection (q.step hfr p1.up) with φ2; rintro ⟨p2,F2,T2⟩)
  exact ⟨φ2,p2,F2,T2,.next⟩
 ·revert hk hp hct e; revert x p; intros x p; intro hk hp hct e
  rw [e]
  refine wpAny_bind (wpAny_pure ?_)
  rw [if_pos rfl]
  have hct':qB7 X sc (.Name x p)=some ct:=hct
  obtain ⟨x',p',k,q,rfl,hkk,hn⟩:=qAU hct'
  cases q
  rw [← (qA7 (show some (upd k v ρ,H₁)=some (ρ',H') from h2)).1,← (qA7 (show some (upd k v ρ,H₁)=some (ρ',H') from h2)).2]
  refine wpAny_bind (qA1 (qHV G R O hfr he hkk hn hcomp hc h1 T F S) fun _ s1 q=>wpAny_pure ?_)
  obtain ⟨φ2,p2,F2,T2⟩:=q
  exact ⟨φ2,p2,F2,T2,.next⟩
end
end Mine.Internal
end
section
open PySem PySem.W PyProof.Rows
namespace Mine.Internal
section
variable {A:Around}{fr pv ψ ψ' φ φ' φ₁:List Addr}{H H' H₁ H₂ H0:AHeap}{s s₁:Shared}{d:Nat}{v:AV}{E:Value→Shared→Prop}{env:PySem.Env}{sc:Scope}{ρ ρ':Rho}{cf:qAQ}{m:Nat}{ok:Str→Prop}{f:Fl}{I:Addr}{src:Option Nat}{xs:List AV}{en:Bool}
noncomputable def SndS (X:CX) (prog:Program) (w:World) (base:Heap) (d:Nat) (es:CS→Rho→AHeap→StRes) (c:Stmt) (cs:CS) (sc:Scope):Prop :=
 ∀ {A:Around}{env:PySem.Env}{ρ ρ':Rho}{fr ψ φ:List Addr}{H H':AHeap}{s:Shared}{f:Fl},Room d A→EnvOk env sc→(∀ a ∈ fr,a ∈ ψ)→StoreOk fr s.heap env sc→FR X ψ φ s.heap env sc ρ→SR X prog w base ψ φ H s.heap→es cs ρ H=some (f,ρ',H') →
  wpAny (model prog w) A (exec c env) (OutS X prog w base fr ψ φ s env sc f ρ' H') NoE s
theorem qAv {es:CS→Rho→AHeap→StRes} (R:Room d A) (O:EnvOk env sc) (hfr:∀ a ∈ fr,a ∈ ψ):∀ {l:List Stmt}{cs:List CS}{ρ ρ':Rho}{φ:List Addr}{H H':AHeap}{s:Shared}{f:Fl},listM₂ (fun c cs=>SndS X prog w base d es c cs sc) l cs→StoreOk fr s.heap env sc →
  FR X ψ φ s.heap env sc ρ→SR X prog w base ψ φ H s.heap→evSs es cs ρ H=some (f,ρ',H')→wpAny (model prog w) A (execs l env) (OutS X prog w base fr ψ φ s env sc f ρ' H') NoE s
 | [],[],ρ,ρ',φ,H,H',s,f,_,T,F,S,e=>by
  cases e
  exact wpAny_execs_nil ⟨φ,(Post.refl S).up,F,T,.next⟩
 | c :: l,cc :: cs,ρ,ρ',φ,H,H',s,f,hp,T,F,S,e=>by
  obtain ⟨f1,ρ1,H1,h1,e⟩:=qBt e
  refine wpAny_execs_cons (qA1 (hp.1 R O hfr T F S h1) fun fl s1 q=>?_)
  obtain ⟨φ1,p1,F1,T1,fl1⟩:=q
  cases f1 with
  | next=>cases fl1; exact qA1 (qAv R O hfr hp.2 T1 F1 p1.sr e) fun fl s2 q=>q.step hfr p1
  | ret v =>
   obtain ⟨x,rfl,r⟩:=fl1
   cases e
   exact ⟨φ1,p1,F1,T1,.ret r⟩
 | [],_ :: _,_,_,_,_,_,_,_,hp,_,_,_,_=>hp.elim
 | _ :: _,[],_,_,_,_,_,_,_,hp,_,_,_,_=>hp.elim
theorem FRs.drop {h h':Heap} (F:FRs ok X (pv ++ ψ) φ h env sc ρ) (hL:env.locals ∈ ψ) (hd:∀ a ∈ ψ,a ∉ pv) (hf:∀ a ∈ pv,∃ o vs,h.get? a=some o∧o.data=.fields vs) (kp:∀ b o,b ∉ pv→h.get? b=some o→h'.get? b=some o):FRs ok X ψ φ h' env sc ρ:=by
 intro x k v o a b c
 obtain ⟨y,p,q⟩:=F x k v o a b c
 refine ⟨y,?_,q.left kp (fun a ha=>List.mem_append_left _ ha) fun a ha=>List.mem_append_right _ ha⟩
 cases p with
 | @«local» m a b c d =>
  obtain ⟨o,es,ep,e,r⟩:=c
  exact .local a hL ⟨o,es,ep,kp _ o (hd _ hL) e,r⟩ d
 | @cell cc a b c d =>
  have hn:cc ∉ pv:=fun q=>by
   obtain ⟨o,vs,e1,e2⟩:=hf _ q
   obtain ⟨o',e3,e4⟩:=d
   rw [e1] at e3; cases e3; rw [e2] at e4; cases e4
  have hm:cc ∈ ψ:=(List.mem_append.mp c).resolve_left hn
  obtain ⟨o,e,r⟩:=d
  exact .cell a b hm ⟨o,kp _ o hn e,r⟩
theorem qLa {body:List Stmt}{cb:List CS}{t:Expr}{ct:CT}{es:CS→Rho→AHeap→StRes}{s0:Shared}{φ0:List Addr} (R:Room d A) (O:EnvOk env sc) (hfr:∀ a ∈ fr,a ∈ ψ) (hct:qAl X sc t=some ct) (ht:en=true→∃ es k p,t=.Tuple es k p)
  (hb:listM₂ (fun c cs=>SndS X prog w base d es c cs sc) body cb) (hd:∀ a ∈ ψ,a ∉ pv) (hfresh:∀ a ∈ pv,s0.heap.get? a=none) (hsame:s={ s0 with heap:=s.heap,toks:=s.toks,drawn:=s.drawn }) (g0:Grow [] φ0 φ s0.heap s.heap)
  (S:SR X prog w base (pv ++ ψ) φ H s.heap) (it:ItR X (pv ++ ψ) φ s.heap H I pv en src xs) (T:StoreOk fr s.heap env sc) (F:FR X (pv ++ ψ) φ s.heap env sc ρ) (e:forLoop (evSs es cb) ct H src xs ρ H=some (f,ρ',H')) :
  codeAny (model prog w) A (.forLoop t (.ref I) body [] env) (fun r s'=>match r with | .ok fl=>OutS X prog w base fr ψ φ0 s0 env sc f ρ' H' fl s' | .error e=>cameBackBy (model prog w) A env NoE e s') s:=by
 revert R O hfr hct ht hb hd hfresh hsame g0 S it T F e
 revert A fr pv ψ φ H H' s d env sc ρ ρ' f I src xs en body cb t ct es s0 φ0
 intros A fr pv ψ φ H H' s d env sc ρ
 intros ρ' f I src xs en body cb t ct es s0 φ0
 intro R O hfr hct ht hb hd hfresh hsame g0 S it T F e
 have inP:∀ a ∈ pv,a ∈ pv ++ ψ:=fun a ha=>List.mem_append_left _ ha
 have inF:∀ a ∈ fr,a ∈ pv ++ ψ:=fun a ha=>List.mem_append_right _ (hfr a ha)
 have inA:∀ a ∈ pv ++ fr,a ∈ pv ++ ψ:=by
  intros a; intro ha
  rcases List.mem_append.mp ha with q | q
  ·exact inP a q
  ·exact inF a q
 have hpf:∀ a ∈ fr,a ∉ pv:=fun a ha=>hd a (hfr a ha)
 have leave:∀ {φ2:List Addr}{H2:AHeap}{s2 s3:Shared},Post X prog w base (pv ++ fr) (pv ++ ψ) φ φ2 H2 s s2→s3={ s2 with heap:=s3.heap }→(∀ b o,b ∉ pv→s2.heap.get? b=some o→s3.heap.get? b=some o)→Post X prog w base fr ψ φ0 φ2 H2 s0 s3:=by
  (intros φ2 H2 s2 s3; intro p h3 kp)
  have sr:=p.sr.left (ψ':=ψ) kp inP (fun a q=>List.mem_append_right _ q) hd
  have g1:Grow (pv ++ fr) φ0 φ2 s0.heap s2.heap:=(g0.more fun _ q=>qA9 q).trans p.grow fun a ha m=>absurd (inA a ha) (p.sr.fresh a m).2.2
  refine ⟨by rw [h3,p.same,hsame],⟨g1.pre,g1.new,?_⟩,sr⟩
  intros b o; intro e n nb
  have hnp:b ∉ pv:=fun q=>by rw [hfresh b q] at e; cases e
  exact kp b o hnp (g1.kept b o e n fun q=>by
   rcases List.mem_append.mp q with q | q
   ·exact hnp q
   ·exact nb q)
 have key:=codeAny_forLoop_any (prog:=prog) (w:=w) (A:=A) (target:=t) (it:=.ref I) (body:=body) (orelse:=[]) (env:=env)
  (R:=fun r s'=>match r with | .ok fl=>OutS X prog w base fr ψ φ0 s0 env sc f ρ' H' fl s' | .error e=>cameBackBy (model prog w) A env NoE e s')
  (fun n s'=>∃ (ys:List AV) (ρ1:Rho) (H1:AHeap) (φ1:List Addr),n=ys.length∧Post X prog w base (pv ++ fr) (pv ++ ψ) φ φ1 H1 s s'∧ItR X (pv ++ ψ) φ1 s'.heap H I pv en src ys∧StoreOk fr s'.heap env sc∧FR X (pv ++ ψ) φ1 s'.heap env sc ρ1 ∧
   forLoop (evSs es cb) ct H src ys ρ1 H1=some (f,ρ',H')) ?_ xs.length ⟨xs,ρ,H,φ,rfl,(Post.refl S).up,it,T,F,e⟩
 ·exact key
 ·(intros n s'; intro H_; injection H_ with ys ρ1 H1 φ1; clear H_; rintro ⟨rfl,p1,it1,T1,F1,e1⟩)
  cases ys with
  | nil =>
   obtain ⟨hst,e1⟩:=qAA e1
   refine wpAny_mono (qM6 R.handled p1.sr it1 hst) (?_) fun _ _ h=>h
   intros r s2; intro q
   obtain ⟨rfl,h2,kp⟩:=q
   cases e1
   exact wpAny_execs_nil ⟨φ1,leave p1 h2 kp,F1.drop (hfr _ T1.loc) hd it1.fields kp,T1.keep fun a ha o e=>kp a o (hpf a ha) e,.next⟩
  | cons x ys =>
   revert it1 e1; revert x ys; intros x ys; intro it1 e1
   obtain ⟨hst,e1⟩:=qAA e1
   (injection (qA0 e1) with ρ2; rintro ⟨h1,e1⟩)
   (injection (qBt e1) with f3 ρ3 H3; rintro ⟨h3,e1⟩)
   refine wpAny_mono (qK0 p1.sr inP it1 hst ht) (?_) fun _ _ h=>h
   intros r s2; intro q
   (injection (q) with y; try clear q; rintro ⟨rfl,q⟩)
   refine wpAny_mono q (?_) fun _ _ h=>h
   intro _; intros s3; intro q
   obtain ⟨ry,p3,it3⟩:=q
   have T3:StoreOk fr s3.heap env sc:=T1.keep (by intros a; intro ha; intros o; intro e; exact p3.grow.kept a o e (fun m=>(p1.sr.fresh a m).2.2 (inF a ha)) (hpf a ha))
   have F3:=F1.iter p3.grow inP p1.sr it1.fields
   refine wpAny_mono (qDC (E:=_) O inF R.handled hct h1 T3 F3 p3.sr ry) (?_) fun _ _ h=>h
   intro _; intros s4; intro q4
   have F4:FR X (pv ++ ψ) φ1 s4.heap env sc ρ2:=fun z k u _=>q4.vars z k u (.inl trivial)
   refine wpAny_mono (qAv R O inF hb q4.st F4 q4.post.sr h3) (?_) fun _ _ e=>e.elim
   intros fl s5; intro q5
   (injection (q5) with φ5; try clear q5; rintro ⟨p5,F5,T5,fl5⟩)
   have pL:∀ a ∈ pv,a ∈ pv ++ fr:=fun a ha=>List.mem_append_left _ ha
   have pR:∀ a ∈ fr,a ∈ pv ++ fr:=fun a ha=>List.mem_append_right _ ha
   have p15:Post X prog w base (pv ++ fr) (pv ++ ψ) φ φ5 H3 s s5:=((p1.transF (p3.wide pL) inA).transF (q4.post.wide pR) inA).transF (p5.wide pR) inA
   have it4:=it3.grow q4.post.grow inF fun a ha o e=>q4.kept a o (fun q=>hpf a q ha) e
   have it5:=it4.grow p5.grow inF (by intros a; intro ha; intros o; intro e; exact p5.grow.kept a o e (fun m=>(q4.post.sr.fresh a m).2.2 (inP a ha)) fun q=>hpf a q ha)
   cases f3 with
   | next =>
    cases fl5
    exact ⟨ys.length,Nat.lt_succ_self _,ys,ρ3,H3,φ5,rfl,p15,it5,T5,F5,e1⟩
   | ret v =>
    revert h3 e1 fl5; revert v; intros v; intro h3 e1 fl5
    (injection (fl5) with x; try clear fl5; rintro ⟨rfl,r⟩)
    cases e1
    exact ⟨φ5,leave (s3:=s5) p15 rfl fun _ _ _ e=>e,F5.drop (hfr _ T5.loc) hd it5.fields fun _ _ _ e=>e,T5,.ret (r.left (pv:=pv) (fun _ _ _ e=>e) inP fun a ha=>List.mem_append_right _ ha)⟩
theorem qIG {body:List Stmt}{cb:List CS}{t:Expr}{ct:CE}{es:CS→Rho→AHeap→StRes}{ev:EvFn} (R:Room d A) (O:EnvOk env sc) (hfr:∀ a ∈ fr,a ∈ ψ) (ht:SndT X prog w base d ev t ct sc)
  (hb:listM₂ (fun c cs=>SndS X prog w base d es c cs sc) body cb) {k:Nat} (S:SR X prog w base ψ φ H s.heap) (T:StoreOk fr s.heap env sc) (F:FR X ψ φ s.heap env sc ρ) (e:whileLoop (ev ct) (evSs es cb) k ρ H=some (f,ρ',H')) :
  codeAny (model prog w) A (.whileLoop t body [] env) (fun r s'=>match r with | .ok fl=>OutS X prog w base fr ψ φ s env sc f ρ' H' fl s' | .error e=>cameBackBy (model prog w) A env NoE e s') s:=by
 revert R O hfr ht hb S T F e
 revert A fr ψ φ H H' s d env sc ρ ρ' f body cb t ct es ev k
 intros A fr ψ φ H H' s d env sc
 intros ρ ρ' f body cb t ct es ev k
 intro R O hfr ht hb S T F e
 have key:=codeAny_whileLoop (prog:=prog) (w:=w) (A:=A) (test:=t) (body:=body) (orelse:=[]) (env:=env)
  (R:=fun r s'=>match r with | .ok fl=>OutS X prog w base fr ψ φ s env sc f ρ' H' fl s' | .error e=>cameBackBy (model prog w) A env NoE e s')
  (fun n s'=>∃ (ρ1:Rho) (H1:AHeap) (φ1:List Addr),Post X prog w base fr ψ φ φ1 H1 s s'∧StoreOk fr s'.heap env sc∧FR X ψ φ1 s'.heap env sc ρ1∧whileLoop (ev ct) (evSs es cb) n ρ1 H1=some (f,ρ',H')) ?_ k ⟨ρ,H,φ,(Post.refl S).up,T,F,e⟩
 ·exact key
 ·(intros n s'; intro H_; injection H_ with ρ1 H1 φ1; clear H_; rintro ⟨p1,T1,F1,e1⟩)
  cases n with
  | zero=>exact qA3 e1
  | succ n =>
   revert e1; revert n; intros n; intro e1
   (injection (qA6 e1) with v H2; rintro ⟨h2,e1⟩)
   (injection (qA0 e1) with b; rintro ⟨hb1,e1⟩)
   refine wpAny_mono (ht R O F1 p1.sr h2 hb1) (?_) fun _ _ e=>e.elim
   intros c s2; intro q
   (obtain ⟨rfl,H_⟩:=q; injection H_ with φ2; clear H_; intro p2)
   have F2:=FRs.post F1 p1.sr p2
   have T2:=T1.post p1.sr hfr p2
   cases c with
   | true =>
    rw [if_pos rfl] at e1 ⊢
    (injection (qBt e1) with f3 ρ3 H3; rintro ⟨h3,e1⟩)
    refine wpAny_mono (qAv R O hfr hb T2 F2 p2.sr h3) (?_) fun _ _ e=>e.elim
    intros fl s5; intro q5
    (injection (q5) with φ5; try clear q5; rintro ⟨p5,F5,T5,fl5⟩)
    have p15:=(p1.transF p2.up hfr).transF p5 hfr
    cases f3 with
    | next=>cases fl5; exact ⟨n,Nat.lt_succ_self _,ρ3,H3,φ5,p15,T5,F5,e1⟩
    | ret v =>
     revert h3 e1 fl5; revert v; intros v; intro h3 e1 fl5
     (injection (fl5) with x; try clear fl5; rintro ⟨rfl,r⟩)
     cases e1
     exact ⟨φ5,p15,F5,T5,.ret r⟩
   | false =>
    rw [if_neg Bool.false_ne_true] at e1 ⊢
    cases e1
    exact wpAny_execs_nil ⟨φ2,p1.transF p2.up hfr,F2,T2,.next⟩
theorem qLF {e:Expr}{line:Nat} (h:qFA e=false):swapsWith e none line env=pure false:=by
 cases e with
 | ListComp | SetComp | DictComp=>cases h
 | _=>rfl
theorem qN4 (R:Room d A) (O:EnvOk env sc) (hfr:∀ a ∈ fr,a ∈ ψ) {es:CS→Rho→AHeap→StRes}{ev:EvFn}{t it:Expr}{body:List Stmt}{p:Pos}{ct:CT}{ci:CE}{cb:List CS} (hi:SndE X prog w base d ev it ci sc) (hct:qAl X sc t=some ct) (hns:∀ a b c,it ≠ .Set a b c)
  (hb:listM₂ (fun c cs=>SndS X prog w base d es c cs sc) body cb) (T:StoreOk fr s.heap env sc) (F:FR X ψ φ s.heap env sc ρ) (S:SR X prog w base ψ φ H s.heap) (h4:ev ci ρ H=some (v,H₁)) (h5:iterE false H₁ v=some (xs,src)) (e:forLoop (evSs es cb) ct H₁ src xs ρ H₁=some (f,ρ',H')) :
  wpAny (model prog w) A (exec (.For t it body [] p) env) (OutS X prog w base fr ψ φ s env sc f ρ' H') NoE s:=by
 refine wpAny_For (qA1 (qDG R O hi F S h4 h5) fun x s1 q=>qA1 q fun it s2 q=>?_) (qJe hns)
 obtain ⟨φ1,s1',I,pv,p1,M,hlen⟩:=q
 have hd:∀ a ∈ ψ,a ∉ pv:=fun a ha q=>by obtain ⟨o,e⟩:=p1.sr.stand a ha; exact qA3 ((M.fresh a q).symm.trans e)
 rw [M.it]
 have g0:Grow [] φ φ1 s.heap s2.heap:=p1.grow.trans0 (Grow.of_keep M.keep)
 have hfresh:∀ a ∈ pv,s.heap.get? a=none:=fun a ha=>by
  cases q:s.heap.get? a with
  | none=>rfl
  | some o =>
   have hm:a ∉ φ:=fun m=>by
    obtain ⟨o',e⟩:=p1.sr.there (List.IsPrefix.subset p1.grow.pre m)
    exact qA3 ((M.fresh a ha).symm.trans e)
   exact qA3 ((M.fresh a ha).symm.trans (p1.grow.kept a o q hm (fun z=>qA9 z)))
 have F2:FR X (pv ++ ψ) φ1 s2.heap env sc ρ:=(FRs.post F S p1).shift p1.sr (Grow.of_keep M.keep) (fun a ha=>by
  rcases List.mem_append.mp ha with q | q
  ·exact .inr (M.fresh a q)
  ·exact .inl q) fun a ha=>List.mem_append_right _ ha
 exact qLa (en:=false) R O hfr hct (fun q=>absurd q Bool.false_ne_true) hb hd hfresh (by rw [M.same,p1.same]) g0 (M.sr p1.sr) M.rel ((T.post S hfr p1).keep fun a _ o e=>M.keep a o e) F2 e
theorem qKD (G:GW X base) (V:PV X P) (he:HE X P prog w base d cf):∀ (n:Nat) (sc:Scope) (c:Stmt) (cs:CS),cmpS X n sc c=some cs→∀ m,SndS X prog w base d (evS P cf m) c cs sc:=by
 revert G V he
 revert d cf
 intros d cf
 intro G V he
 intros n
 induction n with
 | zero=>(intros sc c cs; intro h); exact qA3 h
 | succ n ih =>
  revert ih; revert n; intros n; intro ih
  (intros sc c cs; intro h; intros m)
  cases m with
  | zero=>(intros A env ρ ρ' fr ψ φ H H' s f; intro _ _ _ _ _ _ e); exact qA3 e
  | succ m =>
  revert m; intros m
  have all:∀ {l:List Stmt}{cs:List CS},listM (cmpS X n sc) l=some cs→listM₂ (fun c cs=>SndS X prog w base d (evS P cf m) c cs sc) l cs:=fun h=>qBF (P:=fun c cs=>SndS X prog w base d (evS P cf m) c cs sc) (fun c cs q=>@ih sc c cs q m) h
  (intros A env ρ ρ' fr ψ φ H H' s f; intro R O hfr T F S e)
  cases c with
  | Return o p =>
   revert h; revert o p; intros o p; intro h
   cases o with
   | none =>
    obtain rfl:=Option.some.inj h
    cases e
    exact wpAny_Return_none ⟨φ,(Post.refl S).up,F,T,.ret .none⟩
   | some x =>
    revert h; revert x; intros x; intro h
    (injection (qA4 h) with ce; rintro ⟨h1,rfl⟩)
    (injection (qA6 e) with v H1; rintro ⟨h2,e⟩)
    cases e
    refine wpAny_Return_some (qA1 ((he _ _ _ _ h1 40).1 R O F S h2) ?_)
    intros x s1; intro q
    (injection (q) with φ1; try clear q; rintro ⟨p1,r1⟩)
    exact ⟨φ1,p1.up,FRs.post F S p1,T.post S hfr p1,.ret r1⟩
  | Expr x p =>
   revert h; revert x p; intros x p; intro h
   obtain ⟨hnc,h⟩:=qAA h
   (injection (qA4 h) with ce; rintro ⟨h1,rfl⟩)
   (injection (qA6 e) with v H1; rintro ⟨h2,e⟩)
   cases e
   refine wpAny_Expr_any (qA1 ((he _ _ _ _ h1 40).1 R O F S h2) ?_) (by unfold interactive; rw [O.kind]; rfl) (qLF ((Bool.not_eq_true' _).mp hnc))
   intros x s1; intro q
   (injection (q) with φ1; try clear q; rintro ⟨p1,r1⟩)
   exact ⟨φ1,p1.up,FRs.post F S p1,T.post S hfr p1,.next⟩
  | Assign ts x p =>
   revert h; revert ts x p; intros ts x p; intro h
   (injection (qA0 h) with t; rintro ⟨ht,h⟩)
   obtain ⟨hp,h⟩:=qAA h
   (injection (qA0 h) with ct; rintro ⟨h1,h⟩)
   (injection (qA4 h) with ce; rintro ⟨h2,rfl⟩)
   (injection (qA6 e) with v H1; rintro ⟨h3,e⟩)
   (injection (qA6 e) with ρ1 H2; rintro ⟨h4,e⟩)
   cases e
   rw [qBM ht]
   exact qLl G V R O hfr he hp h1 h2 h3 h4 T F S
  | If t a b p =>
   revert h; revert t a b p; intros t a b p; intro h
   (injection (qA0 h) with ct; rintro ⟨h1,h⟩)
   (injection (qA0 h) with ca; rintro ⟨h2,h⟩)
   (injection (qA4 h) with cb; rintro ⟨h3,rfl⟩)
   (injection (qA6 e) with v H1; rintro ⟨h4,e⟩)
   (injection (qA0 e) with b; rintro ⟨h5,e⟩)
   refine wpAny_If (qA1 ((he _ _ _ _ h1 40).2 R O F S h4 h5) ?_)
   intros c s1; intro q
   (obtain ⟨rfl,H_⟩:=q; injection H_ with φ1; clear H_; intro p1)
   have F1:=FRs.post F S p1
   have T1:=T.post S hfr p1
   cases c with
   | true=>rw [if_pos rfl] at e ⊢; exact qA1 (qAv R O hfr (all h2) T1 F1 p1.sr e) fun fl s2 q=>q.step hfr p1.up
   | false=>rw [if_neg Bool.false_ne_true] at e ⊢; exact qA1 (qAv R O hfr (all h3) T1 F1 p1.sr e) fun fl s2 q=>q.step hfr p1.up
  | For t it body orelse p =>
   revert h; revert t it body orelse p; intros t it body orelse p; intro h
   obtain ⟨ho,h⟩:=qAA h
   (injection (qA0 h) with ct; rintro ⟨h1,h⟩)
   (injection (qA0 h) with ci; rintro ⟨h2,h⟩)
   (injection (qA4 h) with cb; rintro ⟨h3,rfl⟩)
   (injection (qA6 e) with v H1; rintro ⟨h4,e⟩)
   (injection (qA6 e) with xs src; rintro ⟨h5,e⟩)
   rw [List.isEmpty_iff.mp ho]
   exact qN4 R O hfr (he _ _ _ _ h2 40).1 h1 (qCj h2) (all h3) T F S h4 h5 e
  | While t body orelse p =>
   revert h; revert t body orelse p; intros t body orelse p; intro h
   obtain ⟨ho,h⟩:=qAA h
   (injection (qA0 h) with ct; rintro ⟨h1,h⟩)
   (injection (qA4 h) with cb; rintro ⟨h3,rfl⟩)
   rw [List.isEmpty_iff.mp ho]
   exact wpAny_While (qIG R O hfr (he _ _ _ _ h1 40).2 (all h3) S T F e)
  | Raise =>
   obtain rfl:=Option.some.inj h
   exact qA3 e
  | _=>exact qA3 h
end
end Mine.Internal
end
section
open PySem PySem.W PyProof.Rows
namespace Mine.Internal
theorem qCD {β:Type}:∀ {names:List Str}{vs:List β}{n:Str},names.length=vs.length→n ∈ names→∃ v,(names.zip vs).lookup n=some v
 | [],_,n,_,h=>qA9 h
 | a :: names,[],n,e,h=>by simp at e
 | a :: names,v :: vs,n,e,h=>by
  rw [List.zip_cons_cons,List.lookup_cons]
  cases q:n == a with
  | true=>exact ⟨v,rfl⟩
  | false =>
   rcases List.mem_cons.mp h with rfl | h
   ·simp at q
   ·exact qCD (by simpa using e) h
theorem qBz {β:Type}{n:Str}:∀ {names:List Str}{vs:List β},n ∉ names→(names.zip vs).lookup n=none
 | [],_,_=>rfl
 | a :: names,[],_=>rfl
 | a :: names,v :: vs,h=>by
  rw [List.zip_cons_cons,List.lookup_cons]
  simp only [List.mem_cons,not_or] at h
  have:(n == a)=false:=by simpa using h.1
  rw [this]; exact qBz h.2
theorem qI5 {α β:Type}{f g:α→Option β}:∀ {l:List α},(∀ a ∈ l,f a=g a)→l.filterMap f=l.filterMap g
 | [],_=>rfl
 | a :: l,h=>by rw [List.filterMap_cons,List.filterMap_cons,h a (.head _),qI5 fun b hb=>h b (.tail _ hb)]
theorem qCl {β:Type}:∀ {names:List Str}{vs:List β},names.length=vs.length→names.Nodup→names.filterMap (fun n=>((names.zip vs).lookup n).map fun x=>(n,x))=names.zip vs
 | [],_,_,_=>rfl
 | a :: names,[],e,_=>by simp at e
 | a :: names,v :: vs,e,nd=>by
  rw [List.nodup_cons] at nd
  rw [List.zip_cons_cons,List.filterMap_cons]
  have h1:List.lookup a ((a,v) :: names.zip vs)=some v:=by rw [List.lookup_cons,beq_self_eq_true]
  rw [h1]
  simp only [Option.map_some]
  congr 1
  have:names.filterMap (fun n=>(List.lookup n ((a,v) :: names.zip vs)).map fun x=>(n,x))=names.filterMap (fun n=>((names.zip vs).lookup n).map fun x=>(n,x)):=by
   apply qI5
   intro n hn
   have:(n == a)=false:=by
    rw [beq_eq_false_iff_ne]; rintro rfl; exact nd.1 hn
   rw [List.lookup_cons,this]
  rw [this,qCl (by simpa using e) nd.2]
structure PlainPar (fd:FuncData) (names:List Str):Prop where
 po:fd.params.posonlyargs=[]
 ko:fd.params.kwonlyargs=[]
 va:fd.params.vararg=none
 ka:fd.params.kwarg=none
 ar:fd.params.args.map (·.arg)=names
 nd:names.Nodup
theorem qGu {names:List Str}{vals full ds:List Value} (nd:names.Nodup) (hf:names.length=full.length) (hd:ds.length ≤ names.length)
  (hm:∀ n ∈ names.take (names.length - ds.length),∃ v,(names.zip vals).lookup n=some v)
  (hs:(forIn ((names.drop (names.length - ds.length)).zip ds) (names.zip vals) fun (x:Str × Value) (s:List (Str × Value))=>if (List.lookup x.fst s).isNone=true then pure (ForInStep.yield (s ++ [(x.fst,x.snd)])) else pure (ForInStep.yield s))=(pure (names.zip full):Sem _)) {t:Sem (List (Str × Value))} :
  (if (!(List.filter (fun n=>(List.lookup n (names.zip vals)).isNone) (List.take (names.length - (List.drop (ds.length - names.length) ds).length) names)).isEmpty)=true then t
   else do
    let s ← forIn ((List.drop (names.length - (List.drop (ds.length - names.length) ds).length) names).zip (List.drop (ds.length - names.length) ds)) (names.zip vals) fun (x:Str × Value) (s:List (Str × Value))=>if (List.lookup x.fst s).isNone=true then pure (ForInStep.yield (s ++ [(x.fst,x.snd)])) else pure (ForInStep.yield s)
    pure (List.filterMap (fun n=>Option.map (fun x=>(n,x)) (List.lookup n s)) names))=pure (names.zip full):=by
 have e0:List.drop (ds.length - names.length) ds=ds:=by rw [show ds.length - names.length=0 by lia]; rfl
 rw [e0]
 have e1:List.filter (fun n=>(List.lookup n (names.zip vals)).isNone) (List.take (names.length - ds.length) names)=[]:=by
  rw [List.filter_eq_nil_iff]
  intro n hn
  obtain ⟨v,e⟩:=hm n hn
  rw [e]; simp
 rw [e1,if_neg (by simp),hs]
 rw [pure_bind,qCl hf nd]
theorem qIn {l:List (Str × Value)}{acc:List (Str × Value)} (h:∀ x ∈ l,∃ v,acc.lookup x.1=some v) :
  (forIn l acc fun (x:Str × Value) (s:List (Str × Value))=>if (List.lookup x.fst s).isNone=true then pure (ForInStep.yield (s ++ [(x.fst,x.snd)])) else pure (ForInStep.yield s))=(pure acc:Sem _):=by
 revert h
 revert l acc
 intros l acc
 intro h
 induction l with
 | nil=>rfl
 | cons x r ih =>
  revert ih h; revert x r; intros x r; intro ih h
  rw [List.forIn_cons]
  (injection (h x (.head _)) with v; intro e)
  rw [e]
  simp only [Option.isNone_some,Bool.false_eq_true,if_false,pure_bind]
  exact ih fun y hy=>h y (.tail _ hy)
theorem qIw {fd:FuncData}{vals:List Value}{names:List Str}{ds:Array Value}{s:Shared} (p:PlainPar fd names) (hl:vals.length=names.length) (hds:ds.size ≤ names.length)
  (hd:∀ (M:Model) (A:Around) (E:Value→Shared→Prop) (Q:Option (Array Value)→Shared→Prop),(∀ o,o.getD #[]=ds→Q o s)→wpAny M A (seqItems? fd.defaults) Q E s):BindsTo s fd ⟨vals,[]⟩ (names.zip vals):=by
 revert p hl hds hd
 revert fd vals names ds s
 intros fd vals names ds s
 intro p hl hds hd
 intro M A E Q hq
 unfold bindArgs
 have hng:¬ (vals.length > names.length):=by lia
 simp only [p.po,p.ko,p.va,p.ka,p.ar,List.map_nil,List.nil_append,List.append_nil,List.forIn_nil,pure_bind,List.isEmpty_nil,Bool.not_true,Bool.false_eq_true,if_false,Option.isNone_none,Option.isSome_none,hng,decide_false,Bool.false_and]
 refine wpAny_bind (hd _ _ _ _ fun o ho=>?_)
 rw [ho]
 refine wpAny_of_eq (qGu (names:=names) (vals:=vals) (full:=vals) (ds:=ds.toList) p.nd hl.symm (by simpa using hds) (fun n hn=>qCD hl.symm (List.mem_of_mem_take hn)) (qIn (by intros x; intro hx; exact qCD hl.symm (List.mem_of_mem_drop (List.of_mem_zip hx).1)))) hq
theorem qHc {fd:FuncData}{vals:List Value}{names:List Str}{x:Str}{dv:Value}{s:Shared} (p:PlainPar fd (names ++ [x])) (hl:vals.length=names.length)
  (hd:∀ (M:Model) (A:Around) (E:Value→Shared→Prop) (Q:Option (Array Value)→Shared→Prop),(∀ o,o.getD #[]=#[dv]→Q o s)→wpAny M A (seqItems? fd.defaults) Q E s):BindsTo s fd ⟨vals,[]⟩ ((names ++ [x]).zip (vals ++ [dv])):=by
 revert p hl hd
 revert fd vals names x dv s
 intros fd vals names x dv s
 intro p hl hd
 intro M A E Q hq
 unfold bindArgs
 have hng:¬ (vals.length > (names ++ [x]).length):=by simp; lia
 simp only [p.po,p.ko,p.va,p.ka,p.ar,List.map_nil,List.nil_append,List.append_nil,List.forIn_nil,pure_bind,List.isEmpty_nil,Bool.not_true,Bool.false_eq_true,if_false,Option.isNone_none,Option.isSome_none,hng,decide_false,Bool.false_and]
 refine wpAny_bind (hd _ _ _ _ fun o ho=>?_)
 rw [ho]
 have hx:x ∉ names:=by
  have:=p.nd
  rw [List.nodup_append] at this
  exact fun m=>this.2.2 x m x (by simp) rfl
 have hz:(names ++ [x]).zip vals=names.zip vals:=by
  have gen:∀ {a:List Str}{b:List Value},b.length=a.length→(a ++ [x]).zip b=a.zip b:=by
   intros a
   induction a with
   | nil=>(intros b; intro h); rw [List.eq_nil_of_length_eq_zero h]; rfl
   | cons y a ih =>
    revert ih; revert y a; intros y a; intro ih
    (intros b; intro h)
    cases b with
    | nil=>simp at h
    | cons z b=>simp [ih (b:=b) (by simpa using h)]
  exact gen hl
 have hfull:(names ++ [x]).zip (vals ++ [dv])=names.zip vals ++ [(x,dv)]:=qBB hl.symm
 refine wpAny_of_eq (qGu (names:=names ++ [x]) (vals:=vals) (full:=vals ++ [dv]) (ds:=[dv]) p.nd (by simp [hl]) (by simp) (by
   intros n; intro hn
   rw [hz]
   have:(names ++ [x]).take ((names ++ [x]).length - [dv].length)=names:=by simp
   rw [this] at hn
   exact qCD hl.symm hn) (by
   have:(names ++ [x]).drop ((names ++ [x]).length - [dv].length)=[x]:=by simp
   rw [this,hz,hfull]
   show (forIn [(x,dv)] (names.zip vals) _:Sem _)=_
   rw [List.forIn_cons,qBz hx]
   rfl)) hq
end Mine.Internal
end
section
open PySem PySem.W PyProof.Rows
namespace Mine.Internal
mutual
noncomputable def refsB (n:Nat):AV→Bool
 | .ref i=>decide (i < n)
 | .inst _ i=>decide (i < n)
 | .tup l=>qE9 n l
 | .lst l=>qE9 n l
 | .sset l=>qE9 n l
 | _=>true
noncomputable def qE9 (n:Nat):List AV→Bool
 | []=>true
 | a :: r=>refsB n a && qE9 n r
end
section
variable {ψ φ φ':List Addr}
mutual
theorem VR.refs {h:Heap}:∀ {a:AV}{v:Value},VR X ψ φ h v a→refsB φ.length a=true
 | .none,_,_ | .bool _,_,_ | .int _,_,_ | .str _,_,_ | .rng _ _,_,_=>rfl
 | .tup l,_,r=>by obtain ⟨_,_,_,_,_,_,_,_,r⟩:=r; exact VRs.refs (l:=l) r
 | .lst l,_,r=>by obtain ⟨_,_,_,_,_,_,_,_,r⟩:=r; exact VRs.refs (l:=l) r
 | .ref i,_,r=>by obtain ⟨_,_,e⟩:=r; exact decide_eq_true (List.getElem?_eq_some_iff.mp e).1
 | .inst _ i,_,r=>by obtain ⟨_,_,_,_,_,_,_,_,e⟩:=r; exact decide_eq_true (List.getElem?_eq_some_iff.mp e).1
 | .sset l,_,r=>by obtain ⟨_,_,_,_,_,_,_,_,_,_,_,_,_,_,_,_,_,r⟩:=r; exact VRs.refs (l:=l) r
theorem VRs.refs {h:Heap}:∀ {l:List AV}{vs:List Value},VRs X ψ φ h vs l→qE9 φ.length l=true
 | [],_,_=>rfl
 | a :: l,_,r=>by obtain ⟨_,_,_,r,q⟩:=r; exact Bool.and_eq_true_iff.mpr ⟨VR.refs (a:=a) r,VRs.refs (l:=l) q⟩
end
mutual
theorem qEw (n:Nat):∀ {a:AV},a.plain=true→refsB n a=true
 | .none,_ | .bool _,_ | .int _,_ | .str _,_ | .rng _ _,_=>rfl
 | .tup l,h=>qBk n (l:=l) h
 | .lst l,h=>qBk n (l:=l) h
 | .ref _,h | .inst _ _,h | .sset _,h=>nomatch h
theorem qBk (n:Nat):∀ {l:List AV},qAO l=true→qE9 n l=true
 | [],_=>rfl
 | a :: r,h=>Bool.and_eq_true_iff.mpr ⟨qEw n (Bool.and_eq_true_iff.mp h).1,qBk n (Bool.and_eq_true_iff.mp h).2⟩
end
theorem qHp (hp:φ <+: φ') {i:Nat}{a:Addr} (q:decide (i < φ.length)=true) (e:φ'[i]?=some a):φ[i]?=some a:=by
 obtain ⟨t,rfl⟩:=hp
 rwa [List.getElem?_append_left (of_decide_eq_true q)] at e
mutual
theorem VR.shrink {h:Heap} (hp:φ <+: φ'):∀ {a:AV}{v:Value},VR X ψ φ' h v a→refsB φ.length a=true→VR X ψ φ h v a
 | .none,_,r,_ | .bool _,_,r,_ | .int _,_,r,_ | .str _,_,r,_=>r
 | .tup l,_,r,q=>by obtain ⟨a,vs,n,z,e,p,m,k,r⟩:=r; exact ⟨a,vs,n,z,e,fun z=>p (hp.subset z),m,k,VRs.shrink hp (l:=l) r q⟩
 | .lst l,_,r,q=>by obtain ⟨a,vs,n,z,e,p,m,k,r⟩:=r; exact ⟨a,vs,n,z,e,fun z=>p (hp.subset z),m,k,VRs.shrink hp (l:=l) r q⟩
 | .ref i,_,r,q=>by obtain ⟨a,z,e⟩:=r; exact ⟨a,z,qHp hp q e⟩
 | .inst c i,_,r,q=>by obtain ⟨a,C,dx,z,e,p,m,k,d⟩:=r; exact ⟨a,C,dx,z,e,fun z=>p (hp.subset z),m,k,qHp hp q d⟩
 | .rng _ _,_,r,_=>by obtain ⟨a,t,u,v,z,e,p,m,k,y⟩:=r; exact ⟨a,t,u,v,z,e,fun z=>p (hp.subset z),m,k,y⟩
 | .sset l,_,r,q=>by obtain ⟨a,o,es,ep,t,vs,z,e,p,m,a1,a2,a3,a4,a5,a6,a7,r⟩:=r; exact ⟨a,o,es,ep,t,vs,z,e,fun z=>p (hp.subset z),m,a1,a2,a3,a4,a5,a6,a7,VRs.shrink hp (l:=l) r q⟩
theorem VRs.shrink {h:Heap} (hp:φ <+: φ'):∀ {l:List AV}{vs:List Value},VRs X ψ φ' h vs l→qE9 φ.length l=true→VRs X ψ φ h vs l
 | [],_,r,_=>r
 | a :: l,_,r,q=>by
  obtain ⟨v,ws,z,r,s⟩:=r
  have q:=Bool.and_eq_true_iff.mp q
  exact ⟨v,ws,z,VR.shrink hp r q.1,VRs.shrink hp s q.2⟩
end
theorem qFW {α β:Type}:∀ {a:List α}{b:List β},a.length=b.length→(a.zip b).map (·.2)=b
 | [],[],_=>rfl
 | [],_ :: _,h=>nomatch h
 | _ :: _,[],h=>nomatch h
 | a :: l,b :: m,h=>congrArg (List.cons b) (qFW (Nat.succ.inj h))
theorem qIz {α:Type}{ks ks₀:List α}{l l₀:List AV} (h:ks.length=l.length) (h₀:ks₀.length=l₀.length) (e:ks.zip l=ks₀.zip l₀):l=l₀:=by
 rw [← qFW h,e,qFW h₀]
theorem ObjR.shrink {h h₀:Heap}{a a₀:Addr}{o:AObj} (hp:φ <+: φ') (x₀:ObjR X prog w ψ φ h₀ a₀ o) (x:ObjR X prog w ψ φ' h a o):ObjR X prog w ψ φ h a o:=by
 revert hp x₀ x
 revert ψ φ φ' h h₀ a a₀ o
 intros ψ φ φ' h h₀ a a₀ o
 intro hp x₀ x
 cases o with
 | list l =>
  revert x₀ x; revert l; intros l; intro x₀ x
  obtain ⟨vs,n,p,q,r⟩:=x
  obtain ⟨_,_,_,_,r₀⟩:=x₀
  exact ⟨vs,n,p,q,r.shrink hp r₀.refs⟩
 | dictI kvs =>
  revert x₀ x; revert kvs; intros kvs; intro x₀ x
  obtain ⟨ks,vs,l,z,p,q,s,r⟩:=x
  obtain ⟨ks₀,vs₀,l₀,z₀,_,q₀,_,r₀⟩:=x₀
  have e:=qIz (q.trans r.length) (q₀.trans r₀.length) (z.symm.trans z₀)
  exact ⟨ks,vs,l,z,p,q,s,r.shrink hp (e ▸ r₀.refs)⟩
 | dictS kvs =>
  revert x₀ x; revert kvs; intros kvs; intro x₀ x
  obtain ⟨ks,ss,vs,l,z,p,q,s,t,r⟩:=x
  obtain ⟨ks₀,ss₀,vs₀,l₀,z₀,_,q₀,s₀,_,r₀⟩:=x₀
  have len:∀ {ks:List Nat}{ss:List Str},ks.map (X.names[·]?)=ss.map some→ks.length=ss.length:=fun q=>by have:=congrArg List.length q; rwa [List.length_map,List.length_map] at this
  have e:=qIz ((len q).trans (s.trans r.length)) ((len q₀).trans (s₀.trans r₀.length)) (z.symm.trans z₀)
  exact ⟨ks,ss,vs,l,z,p,q,s,t,r.shrink hp (e ▸ r₀.refs)⟩
 | ns fs =>
  revert x₀ x; revert fs; intros fs; intro x₀ x
  obtain ⟨es,n,p,q,z,k⟩:=x
  obtain ⟨_,_,_,_,_,k₀⟩:=x₀
  refine ⟨es,n,p,q,z,fun i y hy=>?_⟩
  have h1:=k i y hy
  have h0:=k₀ i y hy
  cases hv:fs.lookup i with
  | none=>rw [hv] at h1; exact h1
  | some v =>
   rw [hv] at h1 h0
   obtain ⟨u,a,b⟩:=h1
   obtain ⟨u₀,a₀,b₀⟩:=h0
   exact ⟨u,a,b.shrink hp b₀.refs⟩
theorem SR.shrink {H:AHeap}{H':AHeap}{h h₀:Heap} (hp:φ <+: φ') (S₀:SR X prog w base ψ φ H h₀) (S:SR X prog w base ψ φ' H' h) (e:H'.take H.length=H):SR X prog w base ψ φ H h:=by
 refine ⟨S.keep,S₀.len,S₀.nodup,fun a m=>S.fresh a (hp.subset m),S.priv,S.stand,fun i a o e1 e2=>?_⟩
 refine (S₀.obj i a o e1 e2).shrink hp (S.obj i a o (qBw hp e1) ?_)
 rw [← e2,← e,List.getElem?_take]
 rw [if_pos (List.getElem?_eq_some_iff.mp e2).1]
end
theorem qGv {kof:Str→Option NameKind}{x:Str}:∀ {binds:List (Str × Value)}{m:Str→Option Value},x ∉ binds.map (·.1)→bindL kof binds m x=m x
 | [],_,_=>rfl
 | (n,v) :: r,m,h=>by
  have h:=not_or.mp fun q=>h (List.mem_cons.mpr q)
  unfold bindL
  rw [qGv h.2]
  by_cases q:kof n=some .local
  ·rw [if_pos q]; exact if_neg h.1
  ·rw [if_neg q]
theorem qGw {kof:Str→Option NameKind}{x:Str}:∀ {binds:List (Str × Value)}{m:Str→Option Value},x ∉ binds.map (·.1)→bindC kof binds m x=m x
 | [],_,_=>rfl
 | (n,v) :: r,m,h=>by
  have h:=not_or.mp fun q=>h (List.mem_cons.mpr q)
  unfold bindC
  rw [qGw h.2]
  by_cases q:kof n=some .local
  ·rw [if_pos q]
  ·rw [if_neg q]; exact if_neg h.1
theorem qIB {kof:Str→Option NameKind}{x:Str}{y:Value} (hk:kof x=some .local):∀ {binds:List (Str × Value)}{m:Str→Option Value},(binds.map (·.1)).Nodup→(x,y) ∈ binds→bindL kof binds m x=some y
 | p :: r,m,nd,h=>by
  have nd:=List.nodup_cons.mp nd
  unfold bindL
  rcases List.mem_cons.mp h with q | q
  ·rw [← q] at nd ⊢
   rw [qGv nd.1,if_pos hk]; exact if_pos rfl
  ·exact qIB hk nd.2 q
theorem qIC {kof:Str→Option NameKind}{x:Str}{y:Value} (hk:kof x ≠ some .local):∀ {binds:List (Str × Value)}{m:Str→Option Value},(binds.map (·.1)).Nodup→(x,y) ∈ binds→bindC kof binds m x=some y
 | p :: r,m,nd,h=>by
  have nd:=List.nodup_cons.mp nd
  unfold bindC
  rcases List.mem_cons.mp h with q | q
  ·rw [← q] at nd ⊢
   rw [qGw nd.1,if_neg hk]; exact if_pos rfl
  ·exact qIC hk nd.2 q
end Mine.Internal
end
section
open PySem PySem.W PyProof.Rows
namespace Mine.Internal
structure FnOk (X:CX) (a:Nat) (fn:FnC):Prop where
 obj:∃ (oc:Value) (od:Option Addr) (fd:FuncData) (sl:Array (Option Value)) (body:List Stmt) (names:List Str),X.K.lookup a=some ⟨oc,od,.func fd,sl⟩∧fd.body=.stmts body∧listM (cmpS X 20 fd.scope) body=some fn.body∧PlainPar fd names ∧
  names.map (nid X.names)=fn.params.map some∧fd.closure=[]∧fd.globals=mainGlobals∧fd.builtins=builtinsNs∧fd.scope.isCoroutine=false∧fd.scope.isGenerator=false∧fd.scope.kind=.function∧codeIn X.K fd.code fd.qualname=true ∧
  (∀ n ∈ names,qAE fd.scope n=some .local∨qAE fd.scope n=some .cell)∧(∀ x ∈ fd.scope.names,x.2 ≠ .free) ∧
  ((fn.dflt=false∧fd.defaults=.none)∨(fn.dflt=true∧∃ T o n,fd.defaults=.ref T∧X.K.lookup T=some o∧o.data=.seq #[.none] n∧names ≠ []))
structure FV (X:CX) (P:Prog):Prop where
 fn:∀ f fn a,P.fns.lookup f=some fn→X.fns[f]?=some a→FnOk X a fn
section
variable {A:Around}{fr pv ψ ψ' φ φ' φ₁:List Addr}{H H' H₁ H₂ H0:AHeap}{s s₁:Shared}{d:Nat}{v:AV}{sc:Scope}{ρ ρ':Rho}{cf:qAQ}{m:Nat}
theorem qEg:∀ {ks:List Nat}{df:Bool}{as:List AV}{ρ:Rho},bindP ks df as=some ρ→(as.length=ks.length∧ρ=ks.zip as)∨(df=true∧∃ pre x,ks=pre ++ [x]∧as.length=pre.length∧ρ=ks.zip (as ++ [.none]))
 | [],df,[],ρ,h=>.inl ⟨rfl,(Option.some.inj h).symm⟩
 | [],df,_ :: _,ρ,h=>qA3 h
 | k :: ks,df,[],ρ,h=>by
  obtain ⟨hd,h⟩:=qAA (show (if df && ks.isEmpty then some [(k,AV.none)] else none)=some ρ from h)
  have hd:=Bool.and_eq_true_iff.mp hd
  rw [List.isEmpty_iff.mp hd.2]
  exact .inr ⟨hd.1,[],k,rfl,rfl,(Option.some.inj h).symm⟩
 | k :: ks,df,v :: as,ρ,h=>by
  obtain ⟨r,h1,h2⟩:=qA4 (qIx.symm.trans h)
  rw [← h2]
  rcases qEg h1 with ⟨a,b⟩ | ⟨a,pre,x,b,c,e⟩
  ·exact .inl ⟨congrArg (· + 1) a,congrArg (List.cons (k,v)) b⟩
  ·exact .inr ⟨a,k :: pre,x,congrArg (List.cons k) b,congrArg (· + 1) c,congrArg (List.cons (k,v)) e⟩
theorem qLj {fd:FuncData}{names:List Str}{fn:FnC}{xs:List Value}{as:List AV} (KX:X.K.In s.heap) (p:PlainPar fd names) (hn:names.map (nid X.names)=fn.params.map some)
  (hd:(fn.dflt=false∧fd.defaults=.none)∨(fn.dflt=true∧∃ T o n,fd.defaults=.ref T∧X.K.lookup T=some o∧o.data=.seq #[.none] n∧names ≠ [])) (r:VRs X ψ φ s.heap xs as) (e:bindP fn.params fn.dflt as=some ρ) :
  ∃ (ys:List Value) (bs:List AV),BindsTo s fd ⟨xs,[]⟩ (names.zip ys)∧ρ=fn.params.zip bs∧VRs X ψ φ s.heap ys bs∧names.length=ys.length:=by
 revert KX p hn hd r e
 revert ψ φ s ρ fd names fn xs as
 intros ψ φ s ρ fd names fn xs as
 intro KX p hn hd r e
 have hk:names.length=fn.params.length:=by have:=congrArg List.length hn; rwa [List.length_map,List.length_map] at this
 have sq:∃ ds:Array Value,ds.size ≤ 1∧(fn.dflt=true→ds=#[.none])∧(names=[]→ds=#[])∧∀ (M:Model) (A:Around) (E:Value→Shared→Prop) (Q:Option (Array Value)→Shared→Prop),(∀ o,o.getD #[]=ds→Q o s)→wpAny M A (seqItems? fd.defaults) Q E s:=by
  rcases hd with ⟨h1,h2⟩ | ⟨h1,T,o,n,h2,h3,h4,h5⟩
  ·exact ⟨#[],by simp,fun q=>absurd (h1.symm.trans q) Bool.false_ne_true,fun _=>rfl,fun M A E Q q=>by rw [h2]; exact wpAny_pure (q none rfl)⟩
  ·revert h2 h3 h4; revert T o n; intros T o n; intro h2 h3 h4
   exact ⟨#[.none],by simp,fun _=>rfl,fun q=>absurd q h5,fun M A E Q q=>by rw [h2]; exact wpAny_seqItems (KX _ _ h3) h4 (q _ rfl)⟩
 (injection (sq) with ds; rintro ⟨hds,hdt,hd0,hsq⟩)
 rcases qEg e with ⟨a,b⟩ | ⟨a,pre,x,b,c,g⟩
 ·have hl:xs.length=names.length:=by rw [r.length,a,hk]
  have hdl:ds.size ≤ names.length:=by
   cases names with
   | nil=>rw [hd0 rfl]; simp
   | cons=>exact Nat.le_trans hds (Nat.succ_le_succ (Nat.zero_le _))
  exact ⟨xs,as,qIw p hl hdl hsq,b,r,hl.symm⟩
 ·revert b c; revert pre x; intros pre x; intro b c
  (have H_:∃ npre nx,names=npre ++ [nx]:=(by
   have:names ≠ []:=fun q=>by rw [q,b] at hk; simp at hk
   exact ⟨names.dropLast,names.getLast this,(List.dropLast_concat_getLast this).symm⟩); injection H_ with npre nx; clear H_; intro hnn)
  have hl:xs.length=npre.length:=by
   rw [r.length,c]
   rw [hnn,b] at hk; simp at hk; omega
  subst hnn
  refine ⟨xs ++ [.none],as ++ [.none],qHc p hl (by rw [← hdt a]; exact hsq),g,r.append (.cons .none .nil),by simp [hl]⟩
theorem qLs {h:Heap}{x:Str}{k:Nat}{v:AV}:∀ {names:List Str}{ks:List Nat}{bs:List AV}{ys:List Value},names.map (nid X.names)=ks.map some→VRs X ψ φ h ys bs→nid X.names x=some k→(ks.zip bs).lookup k=some v→∃ y,(x,y) ∈ names.zip ys∧VR X ψ φ h y v
 | [],[],_,_,_,_,_,e=>qA3 e
 | [],_ :: _,_,_,hn,_,_,_=>nomatch hn
 | _ :: _,[],_,_,hn,_,_,_=>nomatch hn
 | _ :: _,_ :: _,[],_,_,_,_,e=>qA3 e
 | n :: names,k0 :: ks,v0 :: bs,_,hn,r,hx,e=>by
  obtain ⟨y0,ys,rfl,ry,rs⟩:=r
  have hn:=List.cons.inj hn
  rw [List.zip_cons_cons,qAT] at e
  by_cases q:k0=k
  ·rw [if_pos q] at e
   rw [qFh hx (hn.1.trans (congrArg some q))]
   exact ⟨y0,.head _,Option.some.inj e ▸ ry⟩
  ·rw [if_neg q] at e
   obtain ⟨y,a,b⟩:=qLs hn.2 rs hx e
   exact ⟨y,.tail _ a,b⟩
noncomputable def qAp (env:PySem.Env):List Addr:=env.locals :: (env.cells.filter fun p=>env.cells.lookup p.1 == some p.2).map (·.2)
theorem qFP (G:GW X base) (V:PV X P) (C:SndCF X prog w base d cf) (B:SndBi X prog w base d) {fn:FnC}{a:Nat}{xs:List Value}{as:List AV} (hfn:FnOk X a fn) (R:RoomC (d + 1) A) (S:SR X prog w base ψ φ H s.heap) (r:VRs X ψ φ s.heap xs as)
  {ρ ρ2:Rho}{fl:Fl}{H1:AHeap} (h1:bindP fn.params fn.dflt as=some ρ) (h2:evSs (evS P cf 20) fn.body ρ H=some (fl,ρ2,H1)) :
  codeAny (model prog w) A (.call (.ref a) ⟨xs,[]⟩) (fun r s'=>match r with
   | .ok (.ret x)=>∃ φ2,s'={ s with heap:=s'.heap,toks:=s'.toks,drawn:=s'.drawn }∧Grow [] φ φ2 s.heap s'.heap∧SR X prog w base ψ φ2 H1 s'.heap∧VR X ψ φ2 s'.heap x (flVal fl)
   | _=>False) s:=by
 revert G V C B hfn R S r h1 h2
 revert A ψ φ H s d cf fn a xs as ρ ρ2 fl H1
 intros A ψ φ H s d cf fn a xs as ρ ρ2 fl H1
 intro G V C B hfn R S r h1 h2
 (injection (hfn.obj) with oc od fd sl body; intro H_; injection H_ with names; clear H_; rintro ⟨hK,hbody,hcb,hpar,hnames,hclo,hglob,hbuil,hco,hgen,hkind,hcode,hloc,hfree,hdflt⟩)
 have KX:=KS G S
 (injection (qLj KX hpar hnames hdflt r h1) with ys bs; rintro ⟨hbinds,rfl,ry,hyl⟩)
 have hdep:=R.depth
 refine codeAny_call_function (by omega) (KX _ _ hK) rfl hco hgen hbody (codeRec_of KX hcode) (hbinds _ _ _ _ ?_)
 have hcells:∀ (n:Nat) (x:Str),qAE fd.scope x=some .cell→((cellsFrom n fd.scope.names []).lookup x).isSome=true:=fun n x hx=>cellsFrom_some _ _ _ (.inl hx)
 rw [hclo]
 refine wpAny_newFunctionEnv_cells hkind (fun x hx=>?_) fun env he s' IC=>?_
 ·have hm:=(List.of_mem_zip (show (x.1,x.2) ∈ names.zip ys from hx)).1
  rcases hloc x.1 hm with q | q
  ·exact .inl q
  ·exact .inr ⟨q,hcells _ _ q⟩
 have hscope:env.scope=fd.scope:=by rw [he]; rfl
 have hkof:∀ x,env.kindOf x=qAE fd.scope x:=fun x=>by rw [he]; rfl
 have hL:env.locals=s.heap.objs.size:=by rw [he]; rfl
 have keep:=IC.toInCall.keep
 refine ⟨(G.nolim.keeps fun b o e=>keep b o (S.keep b o e)),codeAny_func ?_⟩
 have O:EnvOk env fd.scope:=by
  refine ⟨by rw [hscope,hkind],by rw [he]; exact hglob,by rw [he]; exact hbuil,fun x h=>(hkof x).trans h,fun x h=>(hkof x).trans h,fun x h=>(hkof x).trans h,fun x h=>.inl ((hkof x).trans h),fun x h=>?_⟩
  rcases h with h | h
  ·obtain ⟨c,hc⟩:=Option.isSome_iff_exists.mp (hcells (s.heap.objs.size + 1) x h)
   exact ⟨c,by rw [he]; exact hc⟩
  ·exact absurd rfl (hfree _ (mem_of_lookup h))
 have memF:∀ a ∈ qAp env,a=env.locals∨∃ n,env.cells.lookup n=some a:=fun a ha=>by
  unfold qAp at ha
  rcases List.mem_cons.mp ha with q | q
  ·exact .inl q
  ·obtain ⟨p,hp,rfl⟩:=List.mem_map.mp q
   rw [List.mem_filter,beq_iff_eq] at hp
   exact .inr ⟨p.1,hp.2⟩
 have cellF:∀ n c,env.cells.lookup n=some c→c ∈ qAp env:=fun n c h=>by
  unfold qAp
  refine .tail _ (List.mem_map.mpr ⟨(n,c),List.mem_filter.mpr ⟨mem_of_lookup h,?_⟩,rfl⟩)
  rw [beq_iff_eq]; exact h
 have freshF:∀ a ∈ qAp env,s.heap.get? a=none:=fun a ha=>by
  have:s.heap.objs.size ≤ a:=by
   rcases memF a ha with rfl | ⟨n,hn⟩
   ·rw [hL]; exact Nat.le_refl _
   ·have:=IC.above n a (mem_of_lookup hn); rw [hL] at this; exact Nat.le_of_lt this
  cases q:s.heap.get? a with
  | none=>rfl
  | some o=>exact absurd (Heap.lt_size q) (Nat.not_lt.mpr this)
 have thereF:∀ a ∈ qAp env,∃ o,s'.heap.get? a=some o:=fun a ha=>by
  rcases memF a ha with rfl | ⟨n,hn⟩
  ·obtain ⟨o,_,_,e,_⟩:=IC.toInCall.ns; exact ⟨o,e⟩
  ·obtain ⟨o,e,_⟩:=IC.cell n a hn; exact ⟨o,e⟩
 have kψ:∀ a ∈ qAp env ++ ψ,a ∈ ψ∨s.heap.get? a=none:=fun a ha=>by
  rcases List.mem_append.mp ha with q | q
  ·exact .inr (freshF a q)
  ·exact .inl q
 have S1:SR X prog w base (qAp env ++ ψ) φ H s'.heap:=S.more keep fun a ha=>by
  rcases List.mem_append.mp ha with q | q
  ·exact .inr ⟨freshF a q,thereF a q⟩
  ·exact .inl q
 have hfr:∀ a ∈ qAp env,a ∈ qAp env ++ ψ:=fun a ha=>List.mem_append_left _ ha
 have T1:StoreOk (qAp env) s'.heap env fd.scope:=by
  refine ⟨.head _,⟨_,IC.toInCall.ns⟩,fun x hx=>?_,fun x y c _ hx hy=>name_of_addr IC.apart (mem_of_lookup hx) (mem_of_lookup hy)⟩
  obtain ⟨c,hc⟩:=O.cells x (.inl hx)
  exact ⟨c,_,hc,cellF x c hc,IC.cell x c hc⟩
 have hz:((names.zip ys).map (·.1)).Nodup:=by rw [List.map_fst_zip (Nat.le_of_eq hyl)]; exact hpar.nd
 have F1:FR X (qAp env ++ ψ) φ s'.heap env fd.scope (fn.params.zip bs):=by
  intro x k u _ hv hn hl
  obtain ⟨y,hm,rv⟩:=qLs hnames ry hn hl
  have rv':VR X (qAp env ++ ψ) φ s'.heap y u:=VR.move (fun _ _ e=>e) ((by intros b o; intro e n m; exact ⟨keep b o e,n,fun q=>(kψ b q).elim m fun z=>by rw [e] at z; cases z⟩)) rv
  refine ⟨y,?_,rv'⟩
  have hmem:=(List.of_mem_zip hm).1
  rcases hloc x hmem with q | q
  ·have hk:env.kindOf x=some .local:=(hkof x).trans q
   exact .local hk (hfr _ (.head _)) IC.toInCall.ns (qIB hk hz hm)
  ·have hk:env.kindOf x=some .cell:=(hkof x).trans q
   obtain ⟨c,hc⟩:=O.cells x (.inl q)
   refine .cell (.inl hk) hc (hfr _ (cellF x c hc)) ?_
   have:=IC.cell x c hc
   rwa [qIC (by rw [hk]; decide) hz hm] at this
 have R1:Room d (A.deeper env):=⟨R.handled,by show A.depth + 1 + 2 * d + 2 < _; omega,by show A.units + 3 + 8 * d + 200 < _; have:=R.units; omega⟩
 have he':HE X P prog w base d cf:=qKE G V C B
 have hb:=qBF (P:=fun c cs=>SndS X prog w base d (evS P cf 20) c cs fd.scope) (fun c cs q=>@qKD d cf G V he' 20 fd.scope c cs q 20) hcb
 refine wpAny_mono (qAv R1 O hfr hb T1 F1 S1 h2) (fun flow s2 q=>?_) fun _ _ e=>e.elim
 obtain ⟨φ2,p2,F2,T2,flr⟩:=q
 obtain ⟨hh',tk',hs',_⟩:=IC.done
 have sr2:SR X prog w base ψ φ2 H1 s2.heap:=p2.sr.fewer fun a q=>List.mem_append_right _ q
 have gr:Grow [] φ φ2 s.heap s2.heap:=by
  have g1:Grow (qAp env) φ φ2 s.heap s2.heap:=((Grow.of_keep (φ:=φ) keep).more fun _ q=>qA9 q).trans p2.grow fun a ha m=>absurd (hfr a ha) (p2.sr.fresh a m).2.2
  exact g1.more fun a ha=>.inr (freshF a ha)
 have same:s2={ s with heap:=s2.heap,toks:=s2.toks,drawn:=s2.drawn }:=by rw [p2.same,hs']
 cases fl with
 | next=>cases flr; exact ⟨φ2,same,gr,sr2,.none⟩
 | ret u =>
  obtain ⟨x,rfl,rv⟩:=flr
  exact ⟨φ2,same,gr,sr2,VR.move (fun _ _ e=>e) (fun b o e n m=>⟨e,n,fun q=>m (List.mem_append_right _ q)⟩) rv⟩
mutual
theorem VR.seen {h:Heap} (k:∀ b,b ∉ φ→b ∉ ψ→b ∉ φ'∧b ∉ ψ'):∀ {u:AV}{x:Value},VR X ψ φ h x u→u.plain=true→VR X ψ' φ' h x u
 | .none,_,r,_ | .bool _,_,r,_ | .int _,_,r,_ | .str _,_,r,_=>r
 | .tup l,_,r,q=>by obtain ⟨a,vs,n,z,e,p,m,y,r⟩:=r; exact ⟨a,vs,n,z,e,(k _ p m).1,(k _ p m).2,y,VRs.seen k (u:=l) r q⟩
 | .lst l,_,r,q=>by obtain ⟨a,vs,n,z,e,p,m,y,r⟩:=r; exact ⟨a,vs,n,z,e,(k _ p m).1,(k _ p m).2,y,VRs.seen k (u:=l) r q⟩
 | .ref _,_,_,q | .inst _ _,_,_,q | .rng _ _,_,_,q | .sset _,_,_,q=>nomatch q
theorem VRs.seen {h:Heap} (k:∀ b,b ∉ φ→b ∉ ψ→b ∉ φ'∧b ∉ ψ'):∀ {u:List AV}{x:List Value},VRs X ψ φ h x u→qAO u=true→VRs X ψ' φ' h x u
 | [],_,r,_=>r
 | _ :: _,_,r,q=>by
  obtain ⟨v,ws,z,r,s⟩:=r
  have q:=Bool.and_eq_true_iff.mp q
  exact ⟨v,ws,z,VR.seen k r q.1,VRs.seen k s q.2⟩
end
theorem SR.veil {h:Heap} (S:SR X prog w base ψ φ H h):SR X prog w base (φ ++ ψ) [] [] h:=by
 refine ⟨S.keep,rfl,List.nodup_nil,fun _ q=>(qA9 q),fun a q=>?_,fun a q=>?_,fun i a o e _=>qA3 e⟩
 ·rcases List.mem_append.mp q with q | q
  ·exact (S.fresh a q).1
  ·exact S.priv a q
 ·rcases List.mem_append.mp q with q | q
  ·exact S.there q
  ·exact S.stand a q
theorem qFD {u:AV} (h:qBG H H' u=some v):(∃ i l,u=.ref i∧qAg H' i=some l∧H.length ≤ i∧qAO l=true∧v=.lst l)∨(u=v∧u.plain=true):=by
 revert h
 revert H H' v u
 intros H H' v u
 intro h
 have plain:(if u.plain then some u else none)=some v→(∃ i l,u=.ref i∧qAg H' i=some l∧H.length ≤ i∧qAO l=true∧v=.lst l)∨(u=v∧u.plain=true):=fun h=>by
  obtain ⟨a,b⟩:=qAA h
  exact .inr ⟨Option.some.inj b,a⟩
 cases u with
 | ref i =>
  revert h plain; revert i; intros i; intro h plain
  (injection (qA0 h) with l; rintro ⟨hl,h⟩)
  obtain ⟨hc,h⟩:=qAA h
  have hc:=Bool.and_eq_true_iff.mp hc
  exact .inl ⟨i,l,rfl,hl,of_decide_eq_true hc.1,hc.2,(Option.some.inj h).symm⟩
 | _=>exact plain h
theorem qJJ (G:GW X base) (V:PV X P) (C:SndCF X prog w base d cf) (B:SndBi X prog w base d) {fn:FnC}{a:Nat}{xs:List Value}{as:List AV} (hfn:FnOk X a fn) (R:RoomC (d + 1) A) (S:SR X prog w base ψ φ H s.heap) (r:VRs X ψ φ s.heap xs as)
  (e:runFn P cf fn as H=some (v,H')) :
  codeAny (model prog w) A (.call (.ref a) ⟨xs,[]⟩) (fun r s'=>match r with | .ok (.ret x)=>Out X prog w base ψ φ s v H' x s' | _=>False) s:=by
 revert G V C B hfn R S r e
 revert A ψ φ H H' s d v cf fn a xs as
 intros A ψ φ H H' s d v cf fn a xs as
 intro G V C B hfn R S r e
 (injection (qA0 e) with ρ; rintro ⟨h1,e⟩)
 cases hpl:(fn.pure && qAO as) with
 | true =>
  rw [hpl,if_pos rfl] at e
  (injection (qBt e) with fl ρ2 H1; rintro ⟨h2,e⟩)
  (injection (qA4 e) with v2; rintro ⟨h3,e⟩)
  obtain ⟨rfl,rfl⟩:=Prod.mk.inj e
  refine codeAny_mono (qFP G V C B hfn R S.veil (r.seen (φ':=[]) (ψ':=φ ++ ψ) ((by intros b; intro n m; exact ⟨fun q=>(nomatch q),fun q=>(List.mem_append.mp q).elim n m⟩)) (Bool.and_eq_true_iff.mp hpl).2) h1 h2) ?_
  intros res s2; intro q
  rcases res with er | (x | _ | _ | _) <;> try exact q.elim
  obtain ⟨φ2,same,gr,sr2,rv⟩:=q
  have keep:∀ b o,s.heap.get? b=some o→s2.heap.get? b=some o:=fun b o e=>gr.kept b o e (fun q=>qA9 q) (fun q=>qA9 q)
  have un:∀ b,b ∉ φ2→b ∉ φ ++ ψ→b ∉ φ∧b ∉ ψ:=fun b _ m=>⟨fun q=>m (List.mem_append_left _ q),fun q=>m (List.mem_append_right _ q)⟩
  refine ⟨φ,⟨same,Grow.of_keep keep,S.grown keep⟩,?_⟩
  rcases qFD h3 with ⟨i,l,hu,hl,_,hp,rfl⟩ | ⟨hu,hp⟩
  ·rw [hu] at rv
   obtain ⟨p,rfl,hi,vs,n,e1,q1,r1⟩:=sr2.list rv hl
   have hp2:=(sr2.fresh _ (List.mem_of_getElem? hi)).2.2
   exact .lst e1 (fun q=>hp2 (List.mem_append_left _ q)) (fun q=>hp2 (List.mem_append_right _ q)) q1 (r1.seen un hp)
  ·exact hu ▸ rv.seen un hp
 | false =>
  rw [hpl,if_neg Bool.false_ne_true] at e
  (injection (qBt e) with fl ρ2 H1; rintro ⟨h2,e⟩)
  refine codeAny_mono (qFP G V C B hfn R S r h1 h2) ?_
  intros res s2; intro q
  rcases res with er | (x | _ | _ | _) <;> try exact q.elim
  obtain ⟨φ2,same,gr,sr2,ru⟩:=q
  cases hpu:fn.pure with
  | false =>
   rw [hpu,if_neg Bool.false_ne_true] at e
   obtain ⟨rfl,rfl⟩:=qA7 e
   exact ⟨φ2,⟨same,gr,sr2⟩,ru⟩
  | true =>
   rw [hpu,if_pos rfl] at e
   obtain ⟨hhb,e⟩:=qAA e
   (injection (qA4 e) with v2; rintro ⟨h3,e⟩)
   obtain ⟨rfl,rfl⟩:=Prod.mk.inj e
   refine ⟨φ,⟨same,⟨List.prefix_refl _,fun _ q=>.inl q,gr.kept⟩,S.shrink gr.pre sr2 ((qEL _ _).mp hhb)⟩,?_⟩
   rcases qFD h3 with ⟨i,l,hu,hl,hle,hp,rfl⟩ | ⟨hu,hp⟩
   ·rw [hu] at ru
    obtain ⟨p,rfl,hi,vs,n,e1,q1,r1⟩:=sr2.list ru hl
    refine .lst e1 (fun m=>?_) (sr2.fresh _ (List.mem_of_getElem? hi)).2.2 q1 (r1.shrink gr.pre (qBk _ hp))
    obtain ⟨j,hj,ej⟩:=List.getElem_of_mem m
    have hj2:=qBw gr.pre (by rw [List.getElem?_eq_getElem hj,ej]:φ[j]?=some p)
    have:=(List.getElem?_inj (List.getElem?_eq_some_iff.mp hi).1 sr2.nodup).mp (hi.trans hj2.symm)
    rw [S.len] at hj
    omega
   ·exact hu ▸ ru.shrink gr.pre (qEw _ hp)
theorem qHb (G:GW X base) (V:PV X P) (W:FV X P) (B:∀ d,SndBi X prog w base d) (d:Nat):SndCF X prog w base d (callF P d):=by
 induction d with
 | zero=>intro A f a xs as H H' v ψ φ s _ _ _ _ e; exact qA3 e
 | succ d ih =>
  intro A f a xs as H H' v ψ φ s hf R S r e
  obtain ⟨fn,h1,e⟩:=qA0 e
  exact qJJ G V @ih (@B d) (W.fn f fn a h1 hf) R S r e
end
end Mine.Internal
end
section
open PySem PySem.W PyProof.Rows
namespace Mine.Internal
noncomputable def litK (q:Int × Nat × Int):List Int:=[q.1,q.2.1,q.2.2]
noncomputable def keyL (v:AV):List Int:=match intOf v with
 | some a=>[a]
 | none=>match lit3 v with
  | some q=>litK q
  | none=>match rank v with
   | some q=>q.1 :: litK q.2
   | none=>[]
noncomputable def litV (q:Int × Nat × Int):AV:=.tup [.int q.1,.str q.2.1,.int q.2.2]
theorem qGT {v:AV}{q:Int × Nat × Int} (e:lit3 v=some q):v=litV q:=by
 revert e
 revert v q
 intros v q
 intro e
 (injection (qA0 e) with p; rintro ⟨h,e⟩)
 (injection (qA0 h) with l; rintro ⟨h1,h2⟩)
 (injection (qA0 e) with i; rintro ⟨h3,e⟩)
 (injection (qA0 e) with n; rintro ⟨h4,e⟩)
 (injection (qA4 e) with k; rintro ⟨h5,e⟩)
 rw [qAt h1,qII h2,qAZ h3,qBY h4,qAZ h5,← e]; rfl
theorem qJQ {v:AV}{q:Int × Int × Nat × Int} (e:rank v=some q):v=.tup [.int q.1,litV q.2]:=by
 revert e
 revert v q
 intros v q
 intro e
 (injection (qA0 e) with p; rintro ⟨h,e⟩)
 (injection (qA0 h) with l; rintro ⟨h1,h2⟩)
 (injection (qA0 e) with i; rintro ⟨h3,e⟩)
 (injection (qA4 e) with n; rintro ⟨h4,e⟩)
 rw [qAt h1,qFR h2,qAZ h3,qGT h4,← e]
noncomputable def SameK (l:List AV):Prop:=∀ a ∈ l,∀ b ∈ l,ltKey a b=decide (keyL a < keyL b)∧(keyL a=keyL b→a=b)
theorem qDw {a:AV} (h:isK1 a=true):∃ i,a=.int i:=by
 obtain ⟨i,e⟩:=Option.isSome_iff_exists.mp h
 exact ⟨i,qAZ e⟩
theorem qJI {q:Int × Nat × Int} (h:qJb q=true):7 ≤ q.2.1∧q.2.1 ≤ 10:=by
 have h:=Bool.and_eq_true_iff.mp h
 exact ⟨of_decide_eq_true h.1,of_decide_eq_true h.2⟩
theorem qC4 {a:AV} (h:isK2 a=true):∃ q,a=litV q∧7 ≤ q.2.1∧q.2.1 ≤ 10:=by
 obtain ⟨q,e,h⟩:=qCK h
 exact ⟨q,qGT e,qJI h⟩
theorem qGW {a:AV} (h:isK3 a=true):∃ x q,a=.tup [.int x,litV q]∧7 ≤ q.2.1∧q.2.1 ≤ 10:=by
 obtain ⟨q,e,h⟩:=qCK h
 exact ⟨q.1,q.2,qJQ e,qJI h⟩
theorem qBO {a b:Int}{l m:List Int}:a :: l < b :: m↔a < b∨a=b∧l < m:=List.cons_lt_cons_iff
theorem qJr {a b:Int}:[a] < [b]↔a < b:=by
 rw [qBO]
 exact ⟨fun h=>h.elim id fun q=>absurd q.2 (List.not_lt_nil _),.inl⟩
theorem qHy {p q:Int × Nat × Int}:litK p < litK q↔LtL p q:=by
 unfold litK
 rw [qBO,qBO,qJr,Int.ofNat_lt,Int.ofNat_inj]; rfl
theorem qHx {p q:Int × Nat × Int} (e:litK p=litK q):p=q:=by
 have e1:=List.cons.inj e
 have e2:=List.cons.inj e1.2
 exact Prod.ext e1.1 (Prod.ext (Int.ofNat_inj.mp e2.1) (List.cons.inj e2.2).1)
theorem qFJ {p q:Prop} [Decidable p] [Decidable q] (h:p↔q):decide p=decide q:=by
 exact decide_eq_decide.mpr h
theorem qFZ {l:List AV} (h:qAy l=true):SameK l:=by
 intro a ha b hb
 rcases Bool.or_eq_true_iff.mp h with h | h
 rcases Bool.or_eq_true_iff.mp h with h | h
 ·obtain ⟨i,rfl⟩:=qDw (List.all_eq_true.mp h a ha)
  obtain ⟨j,rfl⟩:=qDw (List.all_eq_true.mp h b hb)
  exact ⟨qFJ qJr.symm,fun e=>congrArg AV.int (List.cons.inj e).1⟩
 ·obtain ⟨p,rfl,_⟩:=qC4 (List.all_eq_true.mp h a ha)
  obtain ⟨q,rfl,_⟩:=qC4 (List.all_eq_true.mp h b hb)
  exact ⟨qFJ qHy.symm,fun e=>congrArg litV (qHx e)⟩
 ·obtain ⟨x,p,rfl,_⟩:=qGW (List.all_eq_true.mp h a ha)
  obtain ⟨y,q,rfl,_⟩:=qGW (List.all_eq_true.mp h b hb)
  refine ⟨qFJ ?_,fun e=>?_⟩
  ·exact (Iff.trans qBO (or_congr Iff.rfl (and_congr Iff.rfl qHy))).symm
  ·have e:=List.cons.inj (show x :: litK p=y :: litK q from e)
   rw [e.1,qHx e.2]
theorem qEJ {a b c:List Int} (h:a < b) (h':b < c):a < c:=List.lt_trans h h'
theorem qBe (a:List Int):¬ a < a:=List.lt_irrefl a
theorem qJx {a b:List Int} (h:¬ a < b) (h':a ≠ b):b < a:=by
 apply Decidable.byContradiction
 intro q
 exact h' (List.le_antisymm (List.not_lt.mp q) (List.not_lt.mp h))
theorem qGf {x:AV}:∀ {l:List AV},hasAV x l=true↔x ∈ l
 | []=>by simp [hasAV]
 | y :: r=>by rw [hasAV,Bool.or_eq_true,AV.beq_iff,qGf,List.mem_cons]; constructor <;> rintro (h | h) <;> simp [h]
theorem qBE:∀ {l:List AV},qEF l=true↔l.Nodup
 | []=>by simp [qEF]
 | x :: r=>by rw [qEF,Bool.and_eq_true,Bool.not_eq_true',List.nodup_cons,qBE,← Bool.not_eq_true,qGf]
theorem qCd (x:AV):∀ l:List AV,(qBo x l).Perm (x :: l)
 | []=>List.Perm.refl _
 | y :: r=>by
  rw [qBo]
  split
  ·exact ((qCd x r).cons y).trans (List.Perm.swap x y r)
  ·exact List.Perm.refl _
theorem qAi:∀ l:List AV,(qAf l).Perm l
 | []=>List.Perm.refl _
 | x :: r=>by rw [qAf]; exact (qCd x _).trans ((qAi r).cons x)
theorem qCy {x:AV}:∀ {l:List AV},SameK (x :: l)→x ∉ l→l.Pairwise (fun a b=>keyL a < keyL b)→(qBo x l).Pairwise (fun a b=>keyL a < keyL b)
 | [],_,_,_=>by simp [qBo]
 | y :: r,hs,hx,hp=>by
  rw [qBo]
  have hxy:=hs y (by simp) x (by simp)
  simp only [List.mem_cons,not_or] at hx
  rw [List.pairwise_cons] at hp
  split
  ·rename_i hlt
   rw [hxy.1,decide_eq_true_eq] at hlt
   rw [List.pairwise_cons]
   refine ⟨fun z hz=>?_,qCy (fun a ha b hb=>hs a (by rcases List.mem_cons.mp ha with rfl | q <;> simp [*]) b (by rcases List.mem_cons.mp hb with rfl | q <;> simp [*])) hx.2 hp.2⟩
   rcases List.mem_cons.mp ((qCd x r).mem_iff.mp hz) with rfl | q
   ·exact hlt
   ·exact hp.1 z q
  ·rename_i hlt
   rw [hxy.1,decide_eq_true_eq] at hlt
   have hne:keyL y ≠ keyL x:=fun e=>hx.1 (hxy.2 e).symm
   have hlt':=qJx hlt hne
   rw [List.pairwise_cons,List.pairwise_cons]
   refine ⟨fun z hz=>?_,hp⟩
   rcases List.mem_cons.mp hz with rfl | q
   ·exact hlt'
   ·exact qEJ hlt' (hp.1 z q)
theorem qAu:∀ {l:List AV},SameK l→l.Nodup→(qAf l).Pairwise (fun a b=>keyL a < keyL b)
 | [],_,_=>List.Pairwise.nil
 | x :: r,hs,nd=>by
  rw [List.nodup_cons] at nd
  rw [qAf]
  have hr:SameK r:=fun a ha b hb=>hs a (.tail _ ha) b (.tail _ hb)
  refine qCy (fun a ha b hb=>hs a ?_ b ?_) (fun m=>nd.1 ((qAi r).mem_iff.mp m)) (qAu hr nd.2)
  ·rcases List.mem_cons.mp ha with rfl | q
   ·exact .head _
   ·exact .tail _ ((qAi r).mem_iff.mp q)
  ·rcases List.mem_cons.mp hb with rfl | q
   ·exact .head _
   ·exact .tail _ ((qAi r).mem_iff.mp q)
noncomputable def runT (lt:Nat→Nat→Bool) (n:Nat):KasT (Array Nat)→Option (Array Nat)
 | .ret p=>some p
 | .ask i j k=>if i < n∧j < n∧i ≠ j then runT lt n (k (lt i j)) else none
theorem qJL {cmp:Nat→Nat→(Bool→Shared→Prop)→Shared→Prop}{lt:Nat→Nat→Bool}{n:Nat}{I:Shared→Prop}{G:Array Nat→Shared→Prop}{p:Array Nat}
  (hc:∀ i j (C:Bool→Shared→Prop) s,i < n→j < n→i ≠ j→I s→(∀ s',I s'→C (lt i j) s')→cmp i j C s) (hG:∀ s',I s'→G p s'):∀ (t:KasT (Array Nat)) (s:Shared),runT lt n t=some p→I s→t.kasWp cmp G s
 | .ret q,s,h,hi=>by simp only [runT,Option.some.injEq] at h; subst h; exact hG s hi
 | .ask i j k,s,h,hi=>by
  simp only [runT] at h
  split at h
  ·rename_i hb
   exact hc i j _ s hb.1 hb.2.1 hb.2.2 hi fun s' hi'=>qJL hc hG (k (lt i j)) s' h hi'
  ·cases h
noncomputable def qBa (avail:List Nat):Nat→List (List Nat)
 | 0=>[[]]
 | k + 1=>avail.flatMap fun a=>(qBa (avail.erase a) k).map (a :: ·)
theorem qGL:∀ {k:Nat}{avail r:List Nat},r.length=k→r.Nodup→(∀ a ∈ r,a ∈ avail)→r ∈ qBa avail k
 | 0,avail,r,hl,_,_=>by
  have:r=[]:=List.eq_nil_of_length_eq_zero hl
  subst this; simp [qBa]
 | k + 1,avail,r,hl,nd,hm=>by
  cases r with
  | nil=>simp at hl
  | cons a t =>
   rw [List.nodup_cons] at nd
   rw [qBa,List.mem_flatMap]
   refine ⟨a,hm a (.head _),List.mem_map.mpr ⟨t,qGL (by simpa using hl) nd.2 (fun b hb=>?_),rfl⟩⟩
   have hne:b ≠ a:=fun e=>nd.1 (e ▸ hb)
   exact (List.mem_erase_of_ne hne).mpr (hm b (.tail _ hb))
noncomputable def qHq (n:Nat) (r:List Nat):Bool:=match runT (fun i j=>decide (r.getD i 0 < r.getD j 0)) n (kas_sort n) with
 | some p=>(p.toList.map fun i=>r.getD i 0) == List.range n && p.toList.all (· < n)
 | none=>false
theorem qLD:((List.range 6).all fun n=>(qBa (List.range n) n).all (qHq n))=true:=by decide +kernel
theorem qLC:((qBa (List.range 6) 6).all (qHq 6))=true:=by decide +kernel
theorem qMQ {n:Nat} (h:n < 7) {r:List Nat} (hl:r.length=n) (nd:r.Nodup) (hb:∀ a ∈ r,a < n):qHq n r=true:=by
 have hm:=qGL hl nd (avail:=List.range n) fun a ha=>List.mem_range.mpr (hb a ha)
 by_cases q:n=6
 ·subst q; exact List.all_eq_true.mp qLC r hm
 ·exact List.all_eq_true.mp (List.all_eq_true.mp qLD n (List.mem_range.mpr (by lia))) r hm
noncomputable def idxAV (x:AV):List AV→Nat
 | []=>0
 | y :: r=>if y.beq x then 0 else idxAV x r + 1
theorem qGc {x:AV}:∀ {l:List AV},x ∈ l→l[idxAV x l]?=some x
 | [],h=>qA9 h
 | y :: r,h=>by
  rw [idxAV]
  by_cases q:y.beq x=true
  ·rw [if_pos q,(AV.beq_iff _ _).mp q]; rfl
  ·rw [if_neg q]
   have hne:x ≠ y:=fun e=>q ((AV.beq_iff _ _).mpr e.symm)
   rw [List.getElem?_cons_succ]
   exact qGc ((List.mem_cons.mp h).resolve_left hne)
set_option tactic.hygienic true in
set_option hygiene true in
theorem qJD {l:List AV} (hs:SameK l) (nd:l.Nodup) (hn:l.length < 7) :
  ∃ p:Array Nat,runT (fun i j=>ltKey (l.getD i .none) (l.getD j .none)) l.length (kas_sort l.length)=some p∧p.toList.map (fun i=>l.getD i .none)=qAf l∧∀ i ∈ p.toList,i < l.length:=by
 revert hs nd hn
 revert l
 intros l
 intro hs nd hn
 have hp:=qAi l
 have hsorted:=qAu hs nd
 have hlen:=hp.length_eq
 have hget:=List.pairwise_iff_getElem.mp hsorted
 let r:=l.map fun x=>idxAV x (qAf l)
 have rget:∀ i (hi:i < l.length),∃ (h:r.getD i 0 < (qAf l).length),(qAf l)[r.getD i 0]=l[i]:=by
  intro i hi
  have e:r.getD i 0=idxAV l[i] (qAf l):=by
   show (l.map _).getD i 0=_
   rw [List.getD_eq_getElem?_getD,List.getElem?_map,List.getElem?_eq_getElem hi]; rfl
  have:=qGc (hp.mem_iff.mpr (List.getElem_mem hi))
  rw [← e] at this
  exact List.getElem?_eq_some_iff.mp this
 have hcmp:∀ i j,i < l.length→j < l.length→ltKey (l.getD i .none) (l.getD j .none)=decide (r.getD i 0 < r.getD j 0):=by
  intro i j hi hj
  obtain ⟨hi',ei⟩:=rget i hi
  obtain ⟨hj',ej⟩:=rget j hj
  have g1:l.getD i .none=l[i]:=by rw [List.getD_eq_getElem?_getD,List.getElem?_eq_getElem hi]; rfl
  have g2:l.getD j .none=l[j]:=by rw [List.getD_eq_getElem?_getD,List.getElem?_eq_getElem hj]; rfl
  rw [g1,g2,(hs l[i] (List.getElem_mem hi) l[j] (List.getElem_mem hj)).1]
  congr 1
  apply propext
  rw [← ei,← ej]
  constructor
  ·intro h
   apply Decidable.byContradiction
   intro q
   rcases Nat.lt_or_eq_of_le (Nat.le_of_not_lt q) with z | z
   ·exact qBe _ (qEJ h (hget _ _ hj' hi' z))
   ·have:(qAf l)[r.getD j 0]=(qAf l)[r.getD i 0]:=by congr 1
    rw [this] at h; exact qBe _ h
  ·exact fun h=>hget _ _ hi' hj' h
 have hr:r.length=l.length:=by simp [r]
 have rnd:r.Nodup:=by
  refine List.pairwise_iff_getElem.mpr fun i j hi hj hij e=>?_
  have hi2:i < l.length:=by rw [← hr]; exact hi
  have hj2:j < l.length:=by rw [← hr]; exact hj
  obtain ⟨a,ea⟩:=rget i hi2
  obtain ⟨b,eb⟩:=rget j hj2
  have:r.getD i 0=r.getD j 0:=by rw [List.getD_eq_getElem?_getD,List.getD_eq_getElem?_getD,List.getElem?_eq_getElem hi,List.getElem?_eq_getElem hj,e]
  have e3:l[i]=l[j]:=by rw [← ea,← eb]; congr 1
  have:=(List.getElem_inj nd).mp e3
  lia
 have rb:∀ a ∈ r,a < l.length:=by
  intro a ha
  obtain ⟨i,hi,e⟩:=List.getElem_of_mem ha
  have hi2:i < l.length:=by rw [← hr]; exact hi
  obtain ⟨h,_⟩:=rget i hi2
  rw [List.getD_eq_getElem?_getD,List.getElem?_eq_getElem hi,Option.getD_some,e,hlen] at h
  exact h
 have ok:=qMQ hn hr rnd rb
 unfold qHq at ok
 have same:∀ t:KasT (Array Nat),runT (fun i j=>ltKey (l.getD i .none) (l.getD j .none)) l.length t=runT (fun i j=>decide (r.getD i 0 < r.getD j 0)) l.length t:=by
  intro t
  induction t with
  | ret p=>rfl
  | ask i j k ih =>
   simp only [runT]
   split
   ·rename_i hb
    rw [hcmp i j hb.1 hb.2.1]; exact ih _
   ·rfl
 rw [same]
 split at ok
 ·rename_i p hpp
  rw [Bool.and_eq_true,beq_iff_eq,List.all_eq_true] at ok
  refine ⟨p,hpp,?_,fun i hi=>by simpa using ok.2 i hi⟩
  apply List.ext_getElem?
  intro k
  have hk:=congrArg (fun z=>z[k]?) ok.1
  simp only [List.getElem?_map] at hk ⊢
  cases hpk:p.toList[k]? with
  | none =>
   rw [hpk] at hk
   simp only [Option.map_none] at hk ⊢
   have:l.length ≤ k:=by
    have:=hk.symm
    rw [List.getElem?_eq_none_iff] at this; simpa using this
   exact (List.getElem?_eq_none (by rw [hlen]; exact this)).symm
  | some i =>
   rw [hpk] at hk
   simp only [Option.map_some] at hk ⊢
   have hi:i < l.length:=by simpa using ok.2 i (List.mem_of_getElem? hpk)
   have hkn:k < l.length:=by
    have:=hk.symm
    have:=(List.getElem?_eq_some_iff.mp this).1
    simpa using this
   have hrk:r.getD i 0=k:=by
    rw [List.getElem?_range hkn] at hk
    exact Option.some.inj hk
   obtain ⟨h,e⟩:=rget i hi
   rw [List.getD_eq_getElem?_getD,List.getElem?_eq_getElem hi,Option.getD_some,← e]
   rw [List.getElem?_eq_getElem (by rw [hlen]; exact hkn)]
   congr 1
   congr 1
 ·cases ok
end Mine.Internal
end
section
open PySem PySem.W PySem.Calls PyProof.Rows
namespace Mine.Internal
section
variable {A:Around}{E:Value→Shared→Prop}{s:Shared}{vs:List Value}{a:Addr}
theorem qGU {n:Nat}{P:PySem.Fin→Shared→Prop} (ho:s.heap.get? a=some (seqObj "list" vs.toArray n)) (h2:2 ≤ vs.length) (h64:vs.length < 64)
  (h:∀ e1 h',h'.get? a=some (seqObj "list" #[] e1)→(∀ b o,b ≠ a→s.heap.get? b=some o→h'.get? b=some o) →
   wpAny (model prog w) A (keyKind' vs.toArray) (fun κ s'=>(kas_sort vs.length).kasWp (kas_ask prog w A κ vs) (fun p s''=>s''.heap.get? a=some (seqObj "list" #[] e1) ∧
    ∀ h3 c,h3.get? a=some (seqObj "list" (p.toList.map fun i=>vs.getD i Value.none).toArray c)→Heap.SameBut a s''.heap h3→P (.done (.ret .none)) { s'' with heap:=h3 }) s') (fun _ _=>False) { s with heap:=h' }) :
  wpAny (model prog w) A (Builtin.«list.sort» ⟨[.ref a],[]⟩) P E s:=by
 revert ho h2 h64 h
 revert A E s vs a n P
 intros A E s vs a n P
 intro ho h2 h64 h
 have ha:a < s.heap.objs.size:=Heap.lt_size ho
 have s1:=Heap.SameBut.update s.heap a (Obj.mapSeq fun _=>(#[]:Array Value))
 (have H_:∃ e1,(s.heap.update a (Obj.mapSeq fun _=>(#[]:Array Value))).get? a=some (seqObj "list" #[] e1):=(⟨_,get?_update_seq ho fun _=>#[]⟩); injection H_ with e1; clear H_; intro ho1)
 have ask:=h e1 (((s.heap.update a (Obj.mapSeq fun _=>(#[]:Array Value))).push (seqObj "tuple" vs.toArray 0)).push (seqObj "list" #[] 0)) (Heap.get?_push_of_some _ (Heap.get?_push_of_some _ ho1)) fun b o hb e =>
  Heap.get?_push_of_some _ (Heap.get?_push_of_some _ ((s1.2 b hb).trans e))
 rw [list_sort_plain]
 refine wpAny_bind (listItems_at ho rfl ?_)
 refine wpAny_bind (listUpdate_at ho rfl ?_ (by rw [List.size_toArray,sizeLine_eq]; lia) (Nat.zero_le _))
 refine wpAny_bind (seqEpoch_at ho1 rfl ?_)
 refine wpAny_bind (wpAny_newTuple ?_ (by show vs.length ≤ _; rw [sizeLine_eq]; lia))
 refine wpAny_bind (wpAny_newList ?_ (Nat.zero_le _))
 refine wpAny_holding ?_
 show wpAny (model prog w) A _ P E { s with heap:=((s.heap.update a (Obj.mapSeq fun _=>(#[]:Array Value))).push (seqObj "tuple" vs.toArray 0)).push (seqObj "list" #[] 0) }
 dsimp only
 have hn2:¬ vs.toArray.size < 2:=by rw [List.size_toArray]; lia
 rw [if_neg hn2,if_neg hn2]
 refine wpAny_bind (wpAny_mono ask (?_) fun _ _ x=>x.elim)
 intro κ; intros s0; intro hk
 refine wpAny_bind (wpAny_mono (kat_run (Q:=fun st' s'=>∃ p:Array Nat,p.size=vs.length∧arrOf st'=p.map (kas_item (vs.toArray.zip vs.toArray))∧failedOf st'=none∧s'.heap.get? a=some (seqObj "list" #[] e1) ∧
    ∀ h3 c,h3.get? a=some (seqObj "list" (p.toList.map fun i=>vs.getD i Value.none).toArray c)→Heap.SameBut a s'.heap h3→P (.done (.ret .none)) { s' with heap:=h3 })
  rfl h2 h64 (fun p' st' s' a1 a2 a3 a4=>⟨p',a1,a2,a3,a4.1,a4.2⟩) hk) ?_ fun _ _ e=>e)
 (rintro ⟨⟨⟩,st'⟩; intros s'; intro H_; injection H_ with p; clear H_; rintro ⟨hp,har,hf,na,k⟩)
 dsimp only
 have hout:=kat_snds rfl har
 have hsz:(List.toArray (p.toList.map fun i=>vs.getD i Value.none)).size=vs.length:=by rw [List.size_toArray,List.length_map,Array.length_toList,hp]
 rw [hout]
 have s2:=Heap.SameBut.update s'.heap a (Obj.mapSeq fun _=>List.toArray (p.toList.map fun i=>vs.getD i Value.none))
 (have H_:∃ c2,(s'.heap.update a (Obj.mapSeq fun _=>List.toArray (p.toList.map fun i=>vs.getD i Value.none))).get? a=some (seqObj "list" (List.toArray (p.toList.map fun i=>vs.getD i Value.none)) c2):=(⟨_,get?_update_seq na fun _=>List.toArray (p.toList.map fun i=>vs.getD i Value.none)⟩); injection H_ with c2; clear H_; intro hc2)
 refine wpAny_bind (seqEpoch_at na rfl ?_)
 refine wpAny_bind (listUpdate_at na rfl ?_ (Nat.zero_le _) (Nat.le_trans (Nat.le_of_eq hsz) (by rw [sizeLine_eq]; lia)))
 rw [hf]
 simp only [bne_self_eq_false,Bool.false_eq_true,if_false]
 exact wpAny_pure (k _ c2 hc2 s2)
theorem qFk {n:Nat}{P:PySem.Fin→Shared→Prop} (ho:s.heap.get? a=some (seqObj "list" vs.toArray n)) (h2:vs.length < 2)
  (h:∀ h3 c,h3.get? a=some (seqObj "list" vs.toArray c)→(∀ b o,b ≠ a→s.heap.get? b=some o→h3.get? b=some o)→P (.done (.ret .none)) { s with heap:=h3 }) :
  wpAny (model prog w) A (Builtin.«list.sort» ⟨[.ref a],[]⟩) P E s:=by
 revert ho h2 h
 revert A E s vs a n P
 intros A E s vs a n P
 intro ho h2 h
 have ha:a < s.heap.objs.size:=Heap.lt_size ho
 have s1:=Heap.SameBut.update s.heap a (Obj.mapSeq fun _=>(#[]:Array Value))
 (have H_:∃ e1,(s.heap.update a (Obj.mapSeq fun _=>(#[]:Array Value))).get? a=some (seqObj "list" #[] e1):=(⟨_,get?_update_seq ho fun _=>#[]⟩); injection H_ with e1; clear H_; intro ho1)
 have ho6:(((s.heap.update a (Obj.mapSeq fun _=>(#[]:Array Value))).push (seqObj "tuple" vs.toArray 0)).push (seqObj "list" #[] 0)).get? a=some (seqObj "list" #[] e1):=Heap.get?_push_of_some _ (Heap.get?_push_of_some _ ho1)
 rw [list_sort_plain]
 refine wpAny_bind (listItems_at ho rfl ?_)
 refine wpAny_bind (listUpdate_at ho rfl ?_ (by rw [List.size_toArray,sizeLine_eq]; lia) (Nat.zero_le _))
 refine wpAny_bind (seqEpoch_at ho1 rfl ?_)
 refine wpAny_bind (wpAny_newTuple ?_ (by show vs.length ≤ _; rw [sizeLine_eq]; lia))
 refine wpAny_bind (wpAny_newList ?_ (Nat.zero_le _))
 refine wpAny_holding ?_
 show wpAny (model prog w) A _ P E { s with heap:=((s.heap.update a (Obj.mapSeq fun _=>(#[]:Array Value))).push (seqObj "tuple" vs.toArray 0)).push (seqObj "list" #[] 0) }
 dsimp only
 have hn2:vs.toArray.size < 2:=by rw [List.size_toArray]; lia
 rw [if_pos hn2,if_pos hn2]
 refine wpAny_bind (wpAny_pure ?_)
 rw [StateT.run_pure]
 refine wpAny_bind (wpAny_pure ?_)
 dsimp only
 refine wpAny_bind (seqEpoch_at ho6 rfl ?_)
 have hz:(arrOf (SortSt.mk' general' (vs.toArray.zip vs.toArray) #[] 7 none)).map (·.2)=vs.toArray:=by
  show (vs.toArray.zip vs.toArray).map (·.2)=_
  apply Array.toList_inj.mp; simp; exact qFW rfl
 rw [hz]
 have s2:=Heap.SameBut.update (((s.heap.update a (Obj.mapSeq fun _=>(#[]:Array Value))).push (seqObj "tuple" vs.toArray 0)).push (seqObj "list" #[] 0)) a (Obj.mapSeq fun _=>vs.toArray)
 (have H_:∃ c2,((((s.heap.update a (Obj.mapSeq fun _=>(#[]:Array Value))).push (seqObj "tuple" vs.toArray 0)).push (seqObj "list" #[] 0)).update a (Obj.mapSeq fun _=>vs.toArray)).get? a=some (seqObj "list" vs.toArray c2):=(⟨_,get?_update_seq ho6 fun _=>vs.toArray⟩); injection H_ with c2; clear H_; intro hc2)
 refine wpAny_bind (listUpdate_at ho6 rfl ?_ (Nat.zero_le _) (by rw [List.size_toArray,sizeLine_eq]; lia))
 simp only [bne_self_eq_false,Bool.false_eq_true,if_false]
 exact wpAny_pure (h _ c2 hc2 fun b o hb e=>(s2.2 b hb).trans (Heap.get?_push_of_some _ (Heap.get?_push_of_some _ ((s1.2 b hb).trans e))))
theorem qJC {dr:Drawn}{C:List Value→Prop}{x:Value}{Q:Value→Shared→Prop} (h64:∀ vs,C vs→vs.length < 64)
  (hcol:∀ {Q':List Value→Shared→Prop},(∀ vs h' tk,C vs→(∀ b o,s.heap.get? b=some o→h'.get? b=some o)→Q' vs { s with heap:=h',toks:=tk,drawn:=dr })→wpAny (model prog w) A.in1 (collect x) Q' E s)
  (h1:∀ vs,C vs→vs.length < 2→∀ D h' tk c,(∀ b o,s.heap.get? b=some o→b < D)→(∀ b o,s.heap.get? b=some o→h'.get? b=some o)→h'.get? D=some (seqObj "list" vs.toArray c)→Q (.ref D) { s with heap:=h',toks:=tk,drawn:=dr })
  (h2:∀ vs,C vs→2 ≤ vs.length→∀ D e1 h' tk,(∀ b o,s.heap.get? b=some o→b < D)→(∀ b o,s.heap.get? b=some o→h'.get? b=some o)→h'.get? D=some (seqObj "list" #[] e1) →
   wpAny (model prog w) A.in1.in1 (keyKind' vs.toArray) (fun κ s'=>(kas_sort vs.length).kasWp (kas_ask prog w A.in1.in1 κ vs) (fun p s''=>s''.heap.get? D=some (seqObj "list" #[] e1) ∧
    ∀ h3 c,h3.get? D=some (seqObj "list" (p.toList.map fun i=>vs.getD i Value.none).toArray c)→Heap.SameBut D s''.heap h3→Q (.ref D) { s'' with heap:=h3 }) s') (fun _ _=>False) { s with heap:=h',toks:=tk,drawn:=dr }) :
  wpAny (model prog w) A (call (.builtin "sorted") [x]) Q E s:=by
 revert h64 hcol h1 h2
 revert A E s dr C x Q
 intros A E s dr C x Q
 intro h64 hcol h1 h2
 refine Calls.call_function_entry kind_sorted plain_sorted entry_sorted (args_sorted1 _) ?_
 unfold Builtin.«sorted»
 refine wpAny_bind (m:=checkCount "sorted" 1 1 _) (wpAny_pure ?_)
 refine wpAny_bind (hcol ?_)
 intros vs h' tk; intro hC kp
 have h64:=h64 vs hC
 have h1:=h1 vs hC
 have h2:=h2 vs hC
 refine wpAny_bind (wpAny_newList ?_ (by rw [sizeLine_eq]; lia))
 have hoL:(h'.push (seqObj "list" vs.toArray 0)).get? h'.objs.size=some (seqObj "list" vs.toArray 0):=Heap.get?_push_size _ rfl
 have kp2:∀ b o,s.heap.get? b=some o→(h'.push (seqObj "list" vs.toArray 0)).get? b=some o:=fun b o e=>Heap.get?_push_of_some _ (kp b o e)
 have hn:s.heap.get? h'.objs.size=none:=qAc kp
 have hne:∀ b o,s.heap.get? b=some o→b ≠ h'.objs.size:=fun b o e q=>by rw [q,hn] at e; cases e
 show wpAny _ _ _ _ _ { s with heap:=h'.push (seqObj "list" vs.toArray 0),toks:=tk,drawn:=dr }
 refine wpAny_bind (wpAny_holding (wpAny_call_entry slot_list_sort ⟨_,hoL,rfl⟩ entry_list_sort ?body (args_list_sort _)))
 case body =>
  by_cases hl:vs.length < 2
  ·refine qFk (s:={ s with heap:=h'.push (seqObj "list" vs.toArray 0),toks:=tk,drawn:=dr }) hoL hl fun h3 c e3 kp3=>⟨_,rfl,wpAny_pure ⟨_,rfl,?_⟩⟩
   exact h1 hl _ h3 tk c (fun b o e=>Heap.lt_size (kp b o e)) (fun b o e=>kp3 b o (hne b o e) (kp2 b o e)) e3
  ·refine qGU (s:={ s with heap:=h'.push (seqObj "list" vs.toArray 0),toks:=tk,drawn:=dr }) hoL (by lia) h64 ?_
   intros e1 h3; intro e3 kp3
   refine wpAny_mono (h2 (by lia) _ e1 h3 tk (fun b o e=>Heap.lt_size (kp b o e)) (fun b o e=>kp3 b o (hne b o e) (kp2 b o e)) e3) (?_) fun _ _ x=>x
   intro κ; intros s'; intro hk
   rw [kat_ask_eq rfl] at hk ⊢
   exact kas_wp_mono hk (by intros p s''; intro hk'; exact ⟨hk'.1,fun h4 c e4 sb=>⟨_,rfl,wpAny_pure ⟨_,rfl,hk'.2 h4 c e4 sb⟩⟩⟩)
end
end Mine.Internal
end
section
open PySem PySem.W PySem.Calls PyProof.Rows
namespace Mine.Internal
section
variable {A:Around}{ψ φ φ₁:List Addr}{H H' H₁:AHeap}{s s₁:Shared}{d:Nat}{E:Value→Shared→Prop}
noncomputable def atom (X:CX) (v:Value) (f:Addr→AV):AV:=match v with
 | .int i _=>.int i
 | .str y _=>.str (X.names.idxOf y)
 | .ref a=>f a
 | _=>.none
noncomputable def ofO (f:Value→AV) (o:Option Obj):AV:=match o with
 | some o=>(match o.data with
  | .seq vs _=>if eqC o.cls (.type "tuple") then .tup (vs.toList.map f) else .lst (vs.toList.map f)
  | _=>.none)
 | none=>.none
noncomputable def ofVal (X:CX) (h:Heap):Nat→Value→AV
 | 0,v=>atom X v fun _=>.none
 | n + 1,v=>atom X v fun a=>ofO (ofVal X h n) (h.get? a)
theorem VRs.back {h:Heap}{f:Value→AV}{n:Nat} (ih:∀ {v:Value}{a:AV},VR X ψ φ h v a→qAM n a=true→f v=a):∀ {l:List AV}{vs:List Value},VRs X ψ φ h vs l→(∀ a ∈ l,qAM n a=true)→vs.map f=l
 | [],_,r,_=>by obtain rfl:=r; rfl
 | a :: l,_,r,c=>by
  obtain ⟨v,ws,rfl,r,q⟩:=r
  exact congr (congrArg List.cons (ih r (c a (.head _)))) (VRs.back ih q fun x m=>c x (.tail _ m))
theorem qJA (nd:X.names.Nodup) {n:Nat}{y:Str} (e:X.names[n]?=some y):X.names.idxOf y=n:=by
 have p:=List.getElem?_eq_some_iff.mp e
 rw [← p.2]
 exact (List.getElem_inj nd).mp (List.getElem_idxOf (List.idxOf_lt_length_of_mem (List.getElem_mem p.1)))
theorem qMR {f:Value→AV}{h:Heap}{a:Addr}{vs:Array Value}{n:Nat} (e:h.get? a=some (seqObj "tuple" vs n)):ofO f (h.get? a)=.tup (vs.toList.map f):=by
 rw [e]
 exact if_pos ((qDY _ _).mpr rfl)
theorem qMS {f:Value→AV}{h:Heap}{a:Addr}{vs:Array Value}{n:Nat} (e:h.get? a=some (seqObj "list" vs n)):ofO f (h.get? a)=.lst (vs.toList.map f):=by
 rw [e]
 exact if_neg fun q=>(show ¬ Value.type "list" = Value.type "tuple" by decide) ((qDY _ _).mp q)
theorem VR.back (nd:X.names.Nodup) {h:Heap}:∀ (n:Nat) {v:Value}{a:AV},VR X ψ φ h v a→qAM n a=true→ofVal X h n v=a
 | 0,v,a,r,c=>by
  cases a with
  | none=>obtain rfl:=r; rfl
  | int=>obtain ⟨t,rfl⟩:=r; rfl
  | str=>obtain ⟨y,t,rfl,e⟩:=r; exact congrArg AV.str (qJA nd e)
  | _=>exact nomatch c
 | k + 1,v,a,r,c=>by
  cases a with
  | none=>obtain rfl:=r; rfl
  | int=>obtain ⟨t,rfl⟩:=r; rfl
  | str=>obtain ⟨y,t,rfl,e⟩:=r; exact congrArg AV.str (qJA nd e)
  | tup l=>obtain ⟨a,vs,n,rfl,e,_,_,_,r⟩:=r; exact (qMR e).trans (congrArg AV.tup (r.back (VR.back nd k) (List.all_eq_true.mp c)))
  | lst l=>obtain ⟨a,vs,n,rfl,e,_,_,_,r⟩:=r; exact (qMS e).trans (congrArg AV.lst (r.back (VR.back nd k) (List.all_eq_true.mp c)))
  | _=>exact nomatch c
theorem VR.fn (nd:X.names.Nodup) {h:Heap} (n:Nat) {v:Value}{a b:AV} (ra:VR X ψ φ h v a) (rb:VR X ψ φ h v b) (ca:qAM n a=true) (cb:qAM n b=true):a=b:=(ra.back nd n ca).symm.trans (rb.back nd n cb)
theorem qKI (G:GW X base) {x y:Value}{a b:AV}{Q:Value→Shared→Prop} (hu:A.units + 64 < cLine)
  (ia:Is X s.heap x a) (ib:Is X s.heap y b) (ca:a.clean=true) (cb:b.clean=true) (h:Q (.bool (a.beq b)) s):wpAny (model prog w) A (compareOp .Eq x y) Q E s:=by
 obtain ⟨as,ra⟩:=ia.reads
 obtain ⟨bs,rb⟩:=ib.reads
 have z:=qK1 G ia ib ca cb
 exact eq_dataH ra rb z.2.1 z.2.2 hu (by rw [z.1]; exact h)
theorem qHE (G:GW X base) {x y:Value}{a b:AV} (hu:A.units + 64 < cLine)
  (ia:Is X s.heap x a) (ib:Is X s.heap y b) (ca:a.clean=true) (cb:b.clean=true):wpAny (model prog w) A (richCompare .Eq x y) (fun v s'=>v=.bool (a.beq b)∧s'=s) E s:=qKI G hu ia ib ca cb ⟨rfl,rfl⟩
theorem qLE {h:Heap}{x:Value}{a:AV} (r:VR X ψ φ h x a):(∃ p,x=.ref p)∨(∃ i t,x=.int i t)∨(∃ i t,x=.str i t)∨(∃ b,x=.bool b)∨x=.none:=by
 revert r
 revert ψ φ h x a
 intros ψ φ h x a
 intro r
 cases a with
 | none=>exact .inr (.inr (.inr (.inr r)))
 | bool=>exact .inr (.inr (.inr (.inl ⟨_,r⟩)))
 | int=>exact .inr (.inl ⟨_,r⟩)
 | str=>obtain ⟨y,t,rfl,_⟩:=r; exact .inr (.inr (.inl ⟨_,_,rfl⟩))
 | tup=>obtain ⟨a,_,_,rfl,_⟩:=r; exact .inl ⟨a,rfl⟩
 | lst=>obtain ⟨a,_,_,rfl,_⟩:=r; exact .inl ⟨a,rfl⟩
 | ref=>obtain ⟨a,rfl,_⟩:=r; exact .inl ⟨a,rfl⟩
 | inst=>obtain ⟨a,_,_,rfl,_⟩:=r; exact .inl ⟨a,rfl⟩
 | rng=>obtain ⟨a,_,_,_,rfl,_⟩:=r; exact .inl ⟨a,rfl⟩
 | sset=>obtain ⟨a,_,_,_,_,_,rfl,_⟩:=r; exact .inl ⟨a,rfl⟩
theorem qAP (G:GW X base) (R:A.units + 64 < cLine) {x y:Value}{a b:AV}{Q:Bool→Shared→Prop} (ra:VR X ψ φ s.heap x a) (rb:VR X ψ φ s.heap y b) (ca:a.clean=true) (cb:b.clean=true) (h:Q (a.beq b) s) :
  wpAny (model prog w) A (eqBool x y) Q E s:=by
 revert G R ra rb ca cb h
 revert A ψ φ s E x y a b Q
 intros A ψ φ s E x y a b Q
 intro G R ra rb ca cb h
 unfold eqBool
 try with_reducible refine wpAny_holding ?_
 by_cases hab:(x == y)=true
 ·rw [if_pos hab]
  obtain rfl:x=y:=eq_of_beq hab
  obtain rfl:=VR.fn G.nd 8 ra rb ca cb
  rw [(AV.beq_iff a a).mpr rfl] at h
  exact wpAny_bind (wpAny_rule (wpAny_pure h))
 ·rw [if_neg hab]
  have key:wpAny (model prog w) A (truthOfDropped =<< richCompare .Eq x y) Q E s:=by
   refine wpAny_bind (qA1 (qHE G R (ra.isOf ca) (rb.isOf cb) ca cb) ?_)
   intros v s'; intro q
   obtain ⟨rfl,rfl⟩:=q
   exact wpAny_truthy_bool h
  rcases qLE ra with ⟨_,rfl⟩ | ⟨_,_,rfl⟩ | ⟨_,_,rfl⟩ | ⟨_,rfl⟩ | rfl <;> exact key
structure SignOk (X:CX):Prop where
 lt:∀ i j x y,7 ≤ i→i ≤ 10→7 ≤ j→j ≤ 10→X.names[i]?=some x→X.names[j]?=some y→decide (x.cps.toList < y.cps.toList)=decide (i < j)
theorem qJs {A B C:Prop} [Decidable A] [Decidable B] [Decidable C] (n:B→¬A):decide (A∨B∧C)=if B then decide C else decide A:=by
 by_cases b:B
 ·rw [if_pos b]; exact qFJ ⟨fun h=>h.elim (fun a=>absurd a (n b)) (·.2),fun c=>.inr ⟨b,c⟩⟩
 ·rw [if_neg b]; exact qFJ ⟨fun h=>h.elim id fun q=>absurd q.1 b,.inl⟩
theorem qJm (i i' k k':Int) (b b':Nat):ltKey (.tup [.int i,.str b,.int k]) (.tup [.int i',.str b',.int k'])=if i=i' then (if b=b' then decide (k < k') else decide (b < b')) else decide (i < i'):=by
 rw [← qJs (A:=b < b') (B:=b=b') (fun e a=>Nat.ne_of_lt a e),← qJs (A:=i < i') (B:=i=i') (fun e a=>Int.ne_of_lt a e)]
 exact qFJ Iff.rfl
theorem qMX (x x' i i' k k':Int) (b b':Nat):ltKey (.tup [.int x,.tup [.int i,.str b,.int k]]) (.tup [.int x',.tup [.int i',.str b',.int k']])=if x=x' then ltKey (.tup [.int i,.str b,.int k]) (.tup [.int i',.str b',.int k']) else decide (x < x') :=
 qJs (A:=x < x') (B:=x=x') (fun e a=>Int.ne_of_lt a e)
theorem qKs {h:Heap}{v:Value}{a b c:AV} (r:VR X ψ φ h v (.tup [a,b,c])):∃ p n x y z,v=.ref p∧h.get? p=some (seqObj "tuple" #[x,y,z] n)∧VR X ψ φ h x a∧VR X ψ φ h y b∧VR X ψ φ h z c:=by
 revert r
 revert ψ φ h v a b c
 intros ψ φ h v a b c
 intro r
 obtain ⟨p,vs,n,rfl,e,_,_,_,x,w1,z1,r1,y,w2,z2,r2,z,w3,z3,r3,z4⟩:=r
 have q:vs=#[x,y,z]:=Array.toList_inj.mp (by rw [z1,z2,z3,z4])
 exact ⟨p,n,x,y,z,rfl,q ▸ e,r1,r2,r3⟩
theorem qLt {h:Heap}{v:Value}{a b:AV} (r:VR X ψ φ h v (.tup [a,b])):∃ p n x y,v=.ref p∧h.get? p=some (seqObj "tuple" #[x,y] n)∧VR X ψ φ h x a∧VR X ψ φ h y b:=by
 revert r
 revert ψ φ h v a b
 intros ψ φ h v a b
 intro r
 obtain ⟨p,vs,n,rfl,e,_,_,_,x,w1,z1,r1,y,w2,z2,r2,z4⟩:=r
 have q:vs=#[x,y]:=Array.toList_inj.mp (by rw [z1,z2,z4])
 exact ⟨p,n,x,y,rfl,q ▸ e,r1,r2⟩
theorem qEH {h:Heap}{v:Value}{i k:Int}{b:Nat} (r:VR X ψ φ h v (.tup [.int i,.str b,.int k])) :
  ∃ (a:Addr) (n:Nat) (t u:Tok) (x:Str) (t2:Tok),v=.ref a∧h.get? a=some (seqObj "tuple" #[.int i t,.str x t2,.int k u] n)∧X.names[b]?=some x:=by
 revert r
 revert ψ φ h v i k b
 intros ψ φ h v i k b
 intro r
 (injection (qKs r) with p n ζ_1 ζ_2 ζ_3; rintro ⟨rfl,e,⟨t,rfl⟩,⟨x,t2,rfl,hx⟩,⟨u,rfl⟩⟩)
 exact ⟨p,n,t,u,x,t2,rfl,e,hx⟩
theorem str_beq (a b:Nat):(AV.str a).beq (.str b)=decide (a=b):=Bool.eq_iff_iff.mpr ((AV.beq_iff _ _).trans ((AV.str.injEq a b).to_iff.trans decide_eq_true_iff.symm))
theorem qNY {i k:Int}{b:Nat}:AV.clean (.tup [.int i,.str b,.int k])=true:=rfl
theorem qMa (G:GW X base) (N:SignOk X) (R:A.units + 64 < cLine) {fin c0:Bool}{Q:Bool→Shared→Prop}{i i' k k':Int}{t u t' u':Tok}{x x':Str}{t2 t2':Tok}{b b':Nat} (hx:X.names[b]?=some x) (hx':X.names[b']?=some x') (h7:7 ≤ b∧b ≤ 10) (h7':7 ≤ b'∧b' ≤ 10)
  (hb:¬ (i=i'∧b=b'∧k=k')) (h:Q (ltKey (.tup [.int i,.str b,.int k]) (.tup [.int i',.str b',.int k'])) s) :
  KatLex prog w A c0 fin Q [(.int i t,.int i' t'),(.str x t2,.str x' t2'),(.int k u,.int k' u')] 0 s:=by
 rw [qJm] at h
 have ei:=qAP (A:=A) (s:=s) (E:=fun _ _=>False) (ψ:=[]) (φ:=[]) (Q:=KatGo prog w A c0 fin Q (.int i t) (.int i' t') [(.str x t2,.str x' t2'),(.int k u,.int k' u')] 0) G R (VR.int i t) (VR.int i' t') rfl rfl
 refine kat_cons (ei ?_)
 rw [int_beq]
 by_cases q1:i=i'
 ·rw [decide_eq_true q1]
  rw [if_pos q1] at h
  refine kat_yes (kat_cons (qAP (ψ:=[]) (φ:=[]) G R (VR.str t2 hx) (VR.str t2' hx') rfl rfl ?_))
  rw [str_beq]
  by_cases q2:b=b'
  ·rw [decide_eq_true q2]
   rw [if_pos q2] at h
   refine kat_yes (kat_cons (qAP (ψ:=[]) (φ:=[]) G R (VR.int k u) (VR.int k' u') rfl rfl ?_))
   rw [int_beq,decide_eq_false fun q3=>hb ⟨q1,q2,q3⟩]
   refine kat_no ?_
   have:(c0 && (0 + 1 + 1 == 0))=false:=Bool.and_false _
   rw [this]
   exact kat_one _ _ (_root_.PyProof.Rows.lt_int h)
  ·rw [decide_eq_false q2]
   rw [if_neg q2] at h
   refine kat_no ?_
   have:(c0 && (0 + 1 == 0))=false:=Bool.and_false _
   rw [this]
   refine kat_one _ _ (_root_.PyProof.Rows.lt_str ?_)
   show Q (decide (x.cps.toList < x'.cps.toList)) s
   rw [N.lt b b' x x' h7.1 h7.2 h7'.1 h7'.2 hx hx']
   exact h
 ·rw [decide_eq_false q1]
  rw [if_neg q1] at h
  refine kat_no ?_
  cases c0 with
  | true=>exact oneLt_int h
  | false=>exact kat_one _ _ (_root_.PyProof.Rows.lt_int h)
end
end Mine.Internal
end
section
open PySem PySem.W PySem.Calls PyProof.Rows
namespace Mine.Internal
section
variable {A:Around}{ψ φ φ₁:List Addr}{H H' H₁:AHeap}{s s₁:Shared}{d:Nat}{E:Value→Shared→Prop}
theorem qHM (G:GW X base) (N:SignOk X) (R:A.units + 64 < cLine) {a a':Addr}{n n':Nat}{i i' k k':Int}{t u t' u':Tok}{x x':Str}{t2 t2':Tok}{b b':Nat}{P:PySem.Fin→Shared→Prop}
  (e:s.heap.get? a=some (seqObj "tuple" #[.int i t,.str x t2,.int k u] n)) (e':s.heap.get? a'=some (seqObj "tuple" #[.int i' t',.str x' t2',.int k' u'] n')) (hx:X.names[b]?=some x) (hx':X.names[b']?=some x')
  (h7:7 ≤ b∧b ≤ 10) (h7':7 ≤ b'∧b' ≤ 10) (hb:¬ (i=i'∧b=b'∧k=k')) (h:P (.done (.ret (.bool (ltKey (.tup [.int i,.str b,.int k]) (.tup [.int i',.str b',.int k']))))) s) :
  wpAny (model prog w) A (Builtin.«tuple.__lt__» ⟨[.ref a,.ref a'],[]⟩) P E s:=by
 revert G N R e e' hx hx' h7 h7' hb h
 revert A s E a a' n n' i i' k k' t u t' u' x x' t2 t2' b b' P
 intros A s E a a' n n' i i' k k'
 intros t u t' u' x x' t2 t2' b b' P
 intro G N R e e' hx hx' h7 h7' hb h
 have hTb:s.TypeIs (.ref a') "tuple":=⟨_,e',rfl⟩
 rw [qJm] at h
 show wpAny _ _ (isInstance (.ref a') (.type "tuple") >>= _) _ _ s
 refine wpAny_bind (wpAny_isInstance hTb isSubtype_tuple_tuple ?_)
 refine wpAny_bind (wpAny_tupleItemsOf e rfl ?_)
 refine wpAny_bind (wpAny_tupleItemsOf e' rfl ?_)
 refine wpAny_bind ?_
 simp only [List.zip_cons_cons,List.zip_nil_right,List.forIn_cons,List.forIn_nil]
 refine wpAny_bind (wpAny_bind (qAP (ψ:=[]) (φ:=[]) G R (VR.int i t) (VR.int i' t') rfl rfl ?_))
 rw [int_beq]
 by_cases q1:i=i'
 ·rw [decide_eq_true q1]
  rw [if_pos q1] at h
  simp only [Bool.not_true,Bool.false_eq_true,if_false]
  refine wpAny_pure ?_
  dsimp only
  refine wpAny_bind (wpAny_bind (qAP (ψ:=[]) (φ:=[]) G R (VR.str t2 hx) (VR.str t2' hx') rfl rfl ?_))
  rw [str_beq]
  by_cases q2:b=b'
  ·rw [decide_eq_true q2]
   rw [if_pos q2] at h
   simp only [Bool.not_true,Bool.false_eq_true,if_false]
   refine wpAny_pure ?_
   dsimp only
   refine wpAny_bind (wpAny_bind (qAP (ψ:=[]) (φ:=[]) G R (VR.int k u) (VR.int k' u') rfl rfl ?_))
   rw [int_beq,decide_eq_false fun q3=>hb ⟨q1,q2,q3⟩]
   simp only [Bool.not_false,if_true]
   refine wpAny_bind (wpAny_rule (wpAny_bind (show wpAny (model prog w) A (richCompare .Lt (.int k u) (.int k' u')) _ E s from _root_.PyProof.Rows.lt_int ?_)))
   exact wpAny_bind (wpAny_pure (wpAny_pure (wpAny_pure (wpAny_pure h))))
  ·rw [decide_eq_false q2]
   rw [if_neg q2] at h
   simp only [Bool.not_false,if_true]
   refine wpAny_bind (wpAny_rule (wpAny_bind (show wpAny (model prog w) A (richCompare .Lt (.str x t2) (.str x' t2')) _ E s from _root_.PyProof.Rows.lt_str ?_)))
   have:=N.lt b b' x x' h7.1 h7.2 h7'.1 h7'.2 hx hx'
   rw [← this] at h
   exact wpAny_bind (wpAny_pure (wpAny_pure (wpAny_pure (wpAny_pure h))))
 ·rw [decide_eq_false q1]
  rw [if_neg q1] at h
  simp only [Bool.not_false,if_true]
  refine wpAny_bind (wpAny_rule (wpAny_bind (show wpAny (model prog w) A (richCompare .Lt (.int i t) (.int i' t')) _ E s from _root_.PyProof.Rows.lt_int ?_)))
  exact wpAny_bind (wpAny_pure (wpAny_pure (wpAny_pure (wpAny_pure h))))
theorem qNN (G:GW X base) (N:SignOk X) (R:A.units + 70 < cLine) {a a':Addr}{n n':Nat}{i i' k k':Int}{t u t' u':Tok}{x x':Str}{t2 t2':Tok}{b b':Nat}{Q:Value→Shared→Prop}
  (e:s.heap.get? a=some (seqObj "tuple" #[.int i t,.str x t2,.int k u] n)) (e':s.heap.get? a'=some (seqObj "tuple" #[.int i' t',.str x' t2',.int k' u'] n')) (hx:X.names[b]?=some x) (hx':X.names[b']?=some x')
  (h7:7 ≤ b∧b ≤ 10) (h7':7 ≤ b'∧b' ≤ 10) (hb:¬ (i=i'∧b=b'∧k=k')) (h:Q (.bool (ltKey (.tup [.int i,.str b,.int k]) (.tup [.int i',.str b',.int k']))) s) :
  wpAny (model prog w) A (compareOp .Lt (.ref a) (.ref a')) Q E s:=by
 have hT:s.TypeIs (.ref a) "tuple":=⟨_,e,rfl⟩
 have hT':s.TypeIs (.ref a') "tuple":=⟨_,e',rfl⟩
 show wpAny (model prog w) A (richCompare .Lt (.ref a) (.ref a')) Q E s
 refine wpAny_richCompare_same_room (op:=.Lt) hT hT' PySem.F.slot_tuple_lt (wpAny_call_entry PySem.F.slot_tuple_lt hT PySem.F.entry_tuple_lt (qHM G N (by show A.units + 1 + 64 < _; lia) e e' hx hx' h7 h7' hb ?_) (PySem.F.args_tuple_lt_2 _ _)) (by lia)
 exact ⟨_,rfl,(fun z=>nomatch z),h⟩
theorem qBh {h:Heap}{vs:List Value}{l:List AV} (r:VRs X ψ φ h vs l) {i:Nat} (hi:i < l.length):VR X ψ φ h (vs.getD i Value.none) (l.getD i .none):=by
 obtain ⟨v,e,rv⟩:=r.get (List.getElem?_eq_getElem hi)
 rw [List.getD_eq_getElem?_getD,List.getD_eq_getElem?_getD,e,List.getElem?_eq_getElem hi]
 exact rv
theorem qJj {l:List AV} (nd:l.Nodup) {i j:Nat} (hi:i < l.length) (hj:j < l.length) (hij:i ≠ j):l.getD i .none ≠ l.getD j .none:=by
 rw [List.getD_eq_getElem?_getD,List.getD_eq_getElem?_getD,List.getElem?_eq_getElem hi,List.getElem?_eq_getElem hj]
 intro e
 exact hij ((List.getElem_inj nd).mp e)
theorem qCJ {l:List AV}{i:Nat} (h:i < l.length):l.getD i .none ∈ l:=by
 rw [List.getD_eq_getElem?_getD,List.getElem?_eq_getElem h]; exact List.getElem_mem h
theorem qNd {vs:List Value}{l:List AV} (r:VRs X ψ φ s.heap vs l) (hk:l.all isK1=true) {i j:Nat} (hi:i < l.length) (hj:j < l.length) {C:Bool→Shared→Prop} (h:C (ltKey (l.getD i .none) (l.getD j .none)) s) :
  kas_ask prog w A oneType' vs i j C s:=by
 unfold kas_ask
 have ri:=qBh r hi
 have rj:=qBh r hj
 obtain ⟨x,ex⟩:=qDw (List.all_eq_true.mp hk _ (qCJ hi))
 obtain ⟨y,ey⟩:=qDw (List.all_eq_true.mp hk _ (qCJ hj))
 rw [ex] at ri h
 rw [ey] at rj h
 obtain ⟨t,ri⟩:=ri
 obtain ⟨t',rj⟩:=rj
 rw [ri,rj]
 exact kat_lt_int h
theorem qNc (G:GW X base) (N:SignOk X) (R:A.units + 70 < cLine) {vs:List Value}{l:List AV} (r:VRs X ψ φ s.heap vs l) (hk:l.all isK2=true) (nd:l.Nodup) {i j:Nat} (hi:i < l.length) (hj:j < l.length) (hij:i ≠ j) {C:Bool→Shared→Prop}
  (h:C (ltKey (l.getD i .none) (l.getD j .none)) s):kas_ask prog w A (tuples' true) vs i j C s:=by
 revert G N R r hk nd hi hj hij h
 revert A ψ φ s vs l i j C
 intros A ψ φ s vs l i j C
 intro G N R r hk nd hi hj hij h
 unfold kas_ask
 have ri:=qBh r hi
 have rj:=qBh r hj
 have hne:=qJj nd hi hj hij
 (injection (qC4 (List.all_eq_true.mp hk _ (qCJ hi))) with p; rintro ⟨ex,h7⟩)
 (injection (qC4 (List.all_eq_true.mp hk _ (qCJ hj))) with q; rintro ⟨ey,h7'⟩)
 rw [ex] at ri h hne
 rw [ey] at rj h hne
 (injection (qEH ri) with ζ_1 n t u x; intro H_; injection H_ with t2; clear H_; rintro ⟨e1,e2,hx⟩)
 (injection (qEH rj) with ζ_1 n' t' u' x'; intro H_; injection H_ with t2'; clear H_; rintro ⟨e1',e2',hx'⟩)
 rw [e1,e1']
 refine kat_lt e2 rfl e2' rfl ?_
 exact qMa G N (Nat.lt_of_le_of_lt (Nat.add_le_add_left (by decide) _) R) hx hx' h7 h7' (fun z=>hne (congrArg litV (Prod.ext z.1 (Prod.ext z.2.1 z.2.2)))) h
theorem qNb (G:GW X base) (N:SignOk X) (R:A.units + 70 < cLine) {vs:List Value}{l:List AV} (r:VRs X ψ φ s.heap vs l) (hk:l.all isK3=true) (nd:l.Nodup) {i j:Nat} (hi:i < l.length) (hj:j < l.length) (hij:i ≠ j) {C:Bool→Shared→Prop}
  (h:C (ltKey (l.getD i .none) (l.getD j .none)) s):kas_ask prog w A (tuples' true) vs i j C s:=by
 revert G N R r hk nd hi hj hij h
 revert A ψ φ s vs l i j C
 intros A ψ φ s vs l i j C
 intro G N R r hk nd hi hj hij h
 unfold kas_ask
 have R':A.units + 64 < cLine:=Nat.lt_of_le_of_lt (Nat.add_le_add_left (by decide) _) R
 have ri:=qBh r hi
 have rj:=qBh r hj
 have hne:=qJj nd hi hj hij
 (injection (qGW (List.all_eq_true.mp hk _ (qCJ hi))) with z1 p; rintro ⟨ex,h7⟩)
 (injection (qGW (List.all_eq_true.mp hk _ (qCJ hj))) with z2 q; rintro ⟨ey,h7'⟩)
 rw [ex] at ri h hne
 rw [ey] at rj h hne
 (injection (qLt ri) with ζ_1 n ζ_2 x; rintro ⟨vi,e1,⟨t,rfl⟩,rb⟩)
 (injection (qLt rj) with ζ_1 n' ζ_2 x'; rintro ⟨vj,e1',⟨t',rfl⟩,rd⟩)
 rw [vi,vj]
 refine kat_lt e1 rfl e1' rfl (kat_cons (qAP (ψ:=[]) (φ:=[]) G R' (VR.int z1 t) (VR.int z2 t') rfl rfl ?_))
 rw [int_beq]
 have h:C (if z1=z2 then ltKey (litV p) (litV q) else decide (z1 < z2)) s:=(qMX _ _ _ _ _ _ _ _) ▸ h
 by_cases q1:z1=z2
 ·rw [decide_eq_true q1]
  rw [if_pos q1] at h
  have hn:p ≠ q:=fun q2=>hne (by rw [q1,q2])
  have hb:(litV p).beq (litV q)=false:=Bool.not_eq_true _ ▸ fun z=>hne (by rw [q1,(AV.beq_iff _ _).mp z])
  refine kat_yes (kat_cons (qAP G R' rb rd rfl rfl ?_))
  rw [hb]
  refine kat_no ?_
  (injection (qEH rb) with p1 n1 t u x; intro H_; injection H_ with t2; clear H_; rintro ⟨e3,e4,hx⟩)
  (injection (qEH rd) with p2 n2 t' u' x'; intro H_; injection H_ with t2'; clear H_; rintro ⟨e3',e4',hx'⟩)
  rw [e3,e3']
  exact kat_one _ _ (qNN G N R e4 e4' hx hx' h7 h7' (fun z=>hn (Prod.ext z.1 (Prod.ext z.2.1 z.2.2))) h)
 ·rw [decide_eq_false q1]
  rw [if_neg q1] at h
  exact kat_no (oneLt_int h)
end
end Mine.Internal
end
section
open PySem PySem.W PySem.Calls PyProof.Rows
namespace Mine.Internal
section
variable {A:Around}{ψ φ φ₁:List Addr}{H H' H₁:AHeap}{s s₁:Shared}{d:Nat}{E:Value→Shared→Prop}
theorem VRs.maps {h:Heap}{vs:List Value}{l:List AV} (r:VRs X ψ φ h vs l):∀ {p:List Nat},(∀ i ∈ p,i < l.length)→VRs X ψ φ h (p.map fun i=>vs.getD i Value.none) (p.map fun i=>l.getD i .none)
 | [],_=>.nil
 | i :: p,hp=>.cons (qBh r (hp i (.head _))) (VRs.maps r fun j hj=>hp j (.tail _ hj))
theorem qId {h:Heap}{vs:List Value}{l:List AV} (r:VRs X ψ φ h vs l) (hk:l.all isK1=true) {M:Model}:∀ v ∈ vs,Looks M h (typeOf v) (.type "int"):=by
 intro v hv
 obtain ⟨t,e⟩:=qHg r hk v hv
 rw [e]
 exact Looks.of_pure rfl
theorem qJ5 {h:Heap}:∀ {l:List AV}{vs:List Value},VRs X ψ φ h vs l→(∀ a ∈ l,∃ i r,a=.tup (.int i :: r))→∃ fs:List Value,KatTups h vs fs∧(∀ v ∈ fs,∃ i t,v=.int i t)∧fs.length=vs.length
 | [],_,r,_=>by obtain rfl:=r; exact ⟨[],KatTups.nil,(fun _ q=>nomatch q),rfl⟩
 | a :: l,_,r,hk=>by
  obtain ⟨v,ws,rfl,r,rs⟩:=r
  obtain ⟨fs,k,hf,hl⟩:=qJ5 rs fun b hb=>hk b (.tail _ hb)
  obtain ⟨i,rest,rfl⟩:=hk a (.head _)
  obtain ⟨p,vp,n,rfl,e,_,_,_,v0,vr,z,⟨t,rfl⟩,_⟩:=r
  refine ⟨.int i t :: fs,KatTups.cons e rfl rfl ?_ k,fun v hv=>?_,congrArg (· + 1) hl⟩
  ·rw [← Array.getElem?_toList,z]; rfl
  ·cases hv with
   | head=>exact ⟨i,t,rfl⟩
   | tail _ hv=>exact hf v hv
theorem qKz:∀ {l:List AV},l.length < 2→qAf l=l
 | [],_=>rfl
 | [x],_=>rfl
 | _ :: _ :: _,h=>by simp at h; lia
theorem Out.drawn {dr:Drawn}{x:Value}{v:AV}{s':Shared} (o:Out X prog w base ψ φ { s with drawn:=dr } v H x s'):Out X prog w base ψ φ s v H x s' :=
 let ⟨φ1,p,r⟩:=o
 ⟨φ1,⟨p.same,p.grow,p.sr⟩,r⟩
theorem qJE {h:Heap}{vs:List Value}{l:List AV} (G:GW X base) (N:SignOk X) (R:A.units + 70 < cLine) (hso:qAy l=true) (nd:l.Nodup) {s:Shared} (r:VRs X ψ φ s.heap vs l) (h2:2 ≤ vs.length) {p:Array Nat}
  (hp:runT (fun i j=>ltKey (l.getD i .none) (l.getD j .none)) l.length (kas_sort l.length)=some p) {K:Array Nat→Shared→Prop} (fin:K p s) :
  wpAny (model prog w) A (keyKind' vs.toArray) (fun κ s'=>(kas_sort vs.length).kasWp (kas_ask prog w A κ vs) K s') (fun _ _=>False) s:=by
 have go:∀ {κ},(∀ {i j:Nat}{C:Bool→Shared→Prop},i < l.length→j < l.length→i ≠ j→C (ltKey (l.getD i .none) (l.getD j .none)) s→kas_ask prog w A κ vs i j C s)→(kas_sort vs.length).kasWp (kas_ask prog w A κ vs) K s:=fun {κ} ask=>by
  rw [r.length]
  exact qJL (I:=fun s''=>s''=s) (p:=p) (fun i j C s'' hi hj hij hs hC=>by rw [hs]; exact ask hi hj hij (hC _ rfl)) (fun s'' z=>z ▸ fin) _ _ hp rfl
 have tups:(∀ a ∈ l,∃ i r,a=.tup (.int i :: r))→(∀ {i j:Nat}{C:Bool→Shared→Prop},i < l.length→j < l.length→i ≠ j→C (ltKey (l.getD i .none) (l.getD j .none)) s→kas_ask prog w A (tuples' true) vs i j C s)→wpAny (model prog w) A (keyKind' vs.toArray) (fun κ s'=>(kas_sort vs.length).kasWp (kas_ask prog w A κ vs) K s') (fun _ _=>False) s:=fun hk ask=>by
  obtain ⟨fs,hf1,hf2,hf3⟩:=qJ5 r hk
  refine kat_kind (T:=.type "int") hf1 (hf3 ▸ Nat.lt_of_lt_of_le (by decide) h2) (fun v hv=>by obtain ⟨i,t,rfl⟩:=hf2 v hv; exact Looks.of_pure rfl) (by decide) ?_
  rw [(by decide:(Value.type "int" != Value.type "tuple")=true)]
  exact go ask
 rcases Bool.or_eq_true_iff.mp hso with hk | hk
 rcases Bool.or_eq_true_iff.mp hk with hk | hk
 ·exact kas_kind h2 (fun v hv=>qId r hk v hv) (by decide) (by decide) (go fun hi hj _ hC=>qNd r hk hi hj hC)
 ·refine tups (fun a ha=>?_) fun hi hj hij hC=>qNc G N R r hk nd hi hj hij hC
  obtain ⟨q,rfl,_⟩:=qC4 (List.all_eq_true.mp hk a ha); exact ⟨_,_,rfl⟩
 ·refine tups (fun a ha=>?_) fun hi hj hij hC=>qNb G N R r hk nd hi hj hij hC
  obtain ⟨x,q,rfl,_⟩:=qGW (List.all_eq_true.mp hk a ha); exact ⟨_,_,rfl⟩
theorem qDJ {dr:Drawn} (G:GW X base) (N:SignOk X) (R:Room d A) (trk:Bool) {x:Value}{l m:List AV} (S:SR X prog w base ψ φ H s.heap) (e:qAa l=some m)
  (hcol:∀ {E:Value→Shared→Prop}{Q':List Value→Shared→Prop},(∀ vs h' tk,VRs X ψ φ s.heap vs l→(∀ b o,s.heap.get? b=some o→h'.get? b=some o)→Q' vs { s with heap:=h',toks:=tk,drawn:=dr })→wpAny (model prog w) A.in1 (collect x) Q' E s) :
  wpAny (model prog w) A (call (.builtin "sorted") [x]) (Out X prog w base ψ φ s (qAC trk m H).1 (qAC trk m H).2) NoE s:=by
 revert G N R S e hcol
 revert A ψ φ H s d dr trk x l m
 intros A ψ φ H s d dr trk x l m
 intro G N R S e hcol
 obtain ⟨hc,e⟩:=qAA e
 obtain rfl:=Option.some.inj e
 have hc:=Bool.and_eq_true_iff.mp hc
 have hc1:=Bool.and_eq_true_iff.mp hc.1
 have hso:=hc1.1
 have hn:=of_decide_eq_true hc1.2
 have nd:=qBE.mp hc.2
 have hml:(qAf l).length=l.length:=(qAi l).length_eq
 have hm:(qAf l).length < 1000001:=by rw [hml]; exact Nat.lt_trans hn (by decide)
 have gt3:∀ {D:Addr},(∀ b o,s.heap.get? b=some o→b < D)→3 < D:=fun h=>by
  (injection (G.g) with mg; rintro ⟨o,_,_,e,_⟩)
  exact h _ o (S.keep _ _ e)
 have noD:∀ {D:Addr},(∀ b o,s.heap.get? b=some o→b < D)→s.heap.get? D=none:=fun {D} h=>by
  cases q:s.heap.get? D with
  | none=>rfl
  | some o=>exact absurd (h D o q) (Nat.lt_irrefl _)
 have out:∀ {D:Addr}{h':Heap}{tk c}{vs:List Value},(∀ b o,s.heap.get? b=some o→b < D)→(∀ b o,s.heap.get? b=some o→h'.get? b=some o)→h'.get? D=some (seqObj "list" vs.toArray c)→VRs X ψ φ s.heap vs (qAf l)→Out X prog w base ψ φ s (qAC trk (qAf l) H).1 (qAC trk (qAf l) H).2 (.ref D) { s with heap:=h',toks:=tk,drawn:=dr } :=
  fun {D h' tk c vs} hD kp eD r=>Out.drawn (dr:=dr) <| qCH (s:={ s with drawn:=dr }) (k:=tk) (n:=c) G trk S kp (noD hD) (gt3 hD) eD r hm
 refine qJC (C:=fun vs=>VRs X ψ φ s.heap vs l) (fun vs r=>by rw [r.length]; exact Nat.lt_trans hn (by decide)) (fun h=>hcol h) (fun vs r h2 D h' tk c hD kp eD=>out hD kp eD ?_) ?_
 ·rw [qKz (r.length ▸ h2)]; exact r
 ·intros vs; intro r h2; intros D e1 h' tk; intro hD kp eD
  (injection (qJD (qFZ hso) nd hn) with p; rintro ⟨hp1,hp2,hp3⟩)
  refine qJE (s:={ s with heap:=h',toks:=tk,drawn:=dr }) (h:=s.heap) G N (by have:=R.units; show A.units + 1 + 1 + 70 < _; lia) hso nd (r.grow0 (Grow.of_keep kp)) h2 hp1 ⟨eD,?_⟩
  intros h3 c; intro e3 sb
  refine out hD (fun b o eb=>(sb.2 b (Nat.ne_of_lt (hD b o eb))).trans (kp b o eb)) e3 ?_
  rw [← hp2]
  exact r.maps hp3
end
end Mine.Internal
end
section
open PySem PySem.W PyProof.Rows
namespace Mine.Internal
open SetTable
noncomputable def Mask (m:Nat):Prop:=m=7∨m=31
noncomputable def adv (mask:Nat) (p:Probe):Probe :=
 if p.more > 0 then { p with j:=p.j + 1,more:=p.more - 1 } else { p with j:=(leap mask p.i p.perturb).1,more:=runEnd mask (leap mask p.i p.perturb).1 - (leap mask p.i p.perturb).1,i:=(leap mask p.i p.perturb).1,perturb:=(leap mask p.i p.perturb).2 }
theorem qMy (t:SetTable) (p:Probe):t.advance p=adv t.mask p:=rfl
noncomputable def qAd (mask:Nat) (h:Int):Probe:={ j:=bits h % (mask + 1),more:=runEnd mask (bits h % (mask + 1)) - bits h % (mask + 1),i:=bits h % (mask + 1),perturb:=bits h,dummy:=none }
theorem qNi (t:SetTable) (h:Int):t.probeStart h=qAd t.mask h:=rfl
noncomputable def iterP (mask:Nat) (p:Probe):Nat→Probe
 | 0=>p
 | k + 1=>adv mask (iterP mask p k)
noncomputable def visit (mask:Nat) (h:Int) (k:Nat):Nat:=(iterP mask (qAd mask h) k).j
noncomputable def runP (mask i perturb:Nat):Probe:={ j:=i,more:=runEnd mask i - i,i,perturb,dummy:=none }
theorem qNF (mask i:Nat):runEnd mask i - i ≤ 9:=by unfold runEnd; split <;> lia
theorem qEK (mask:Nat) (p:Probe) (a b:Nat):iterP mask p (a + b)=iterP mask (iterP mask p a) b:=by
 induction b with
 | zero=>rfl
 | succ b ih=>rw [Nat.add_succ,iterP,ih]; rfl
theorem qFa (mask:Nat):∀ (n j i q:Nat),iterP mask { j,more:=n,i,perturb:=q,dummy:=none } (n + 1)=runP mask (leap mask i q).1 (leap mask i q).2
 | 0,j,i,q=>rfl
 | n + 1,j,i,q=>by
  rw [show n + 1 + 1=1 + (n + 1) by lia,qEK]
  have:iterP mask { j,more:=n + 1,i,perturb:=q,dummy:=none } 1={ j:=j + 1,more:=n,i,perturb:=q,dummy:=none }:=by
   show adv mask { j,more:=n + 1,i,perturb:=q,dummy:=none }=_
   exact if_pos (Nat.succ_pos n)
  rw [this]
  exact qFa mask n (j + 1) i q
noncomputable def leaps (mask:Nat):Nat→Nat→Nat→Nat × Nat
 | 0,i,q=>(i,q)
 | L + 1,i,q=>leap mask (leaps mask L i q).1 (leaps mask L i q).2
theorem qGB (mask i q:Nat):∀ L,∃ k,k ≤ 10 * L∧iterP mask (runP mask i q) k=runP mask (leaps mask L i q).1 (leaps mask L i q).2
 | 0=>⟨0,Nat.le_refl _,rfl⟩
 | L + 1=>by
  obtain ⟨k,hk,e⟩:=qGB mask i q L
  refine ⟨k + (runEnd mask (leaps mask L i q).1 - (leaps mask L i q).1 + 1),by have:=qNF mask (leaps mask L i q).1; lia,?_⟩
  rw [qEK,e]
  exact qFa mask _ _ _ _
theorem qCv (mask i q:Nat):∀ L,(leaps mask L i q).2=q / 32 ^ L
 | 0=>by simp [leaps]
 | L + 1=>by
  show (leaps mask L i q).2 / 32=_
  rw [qCv mask i q L,Nat.pow_succ,Nat.div_div_eq_div_mul]
noncomputable def cyc (mask:Nat):Nat→Nat→Nat
 | 0,i=>i
 | m + 1,i=>(cyc mask m i * 5 + 1) % (mask + 1)
theorem qLg:((List.range 8).all fun i=>(List.range 8).all fun t=>(List.range 8).any fun m=>cyc 7 m i == t)=true:=by decide +kernel
theorem qKP:((List.range 32).all fun i=>(List.range 32).all fun t=>(List.range 32).any fun m=>cyc 31 m i == t)=true:=by decide +kernel
theorem qKQ {mask i t:Nat} (hm:Mask mask) (hi:i ≤ mask) (ht:t ≤ mask):∃ m,m ≤ mask∧cyc mask m i=t:=by
 revert hm hi ht
 revert mask i t
 intros mask i t
 intro hm hi ht
 rcases hm with rfl | rfl
 ·have:=List.any_eq_true.mp (List.all_eq_true.mp (List.all_eq_true.mp qLg i (List.mem_range.mpr (by lia))) t (List.mem_range.mpr (by lia)))
  (injection (this) with m; rintro ⟨hm,e⟩)
  exact ⟨m,by have:=List.mem_range.mp hm; lia,by simpa using e⟩
 ·have:=List.any_eq_true.mp (List.all_eq_true.mp (List.all_eq_true.mp qKP i (List.mem_range.mpr (by lia))) t (List.mem_range.mpr (by lia)))
  (injection (this) with m; rintro ⟨hm,e⟩)
  exact ⟨m,by have:=List.mem_range.mp hm; lia,by simpa using e⟩
theorem qMo (h:Int):bits h < 2 ^ 64:=by unfold bits; lia
theorem qDV (mask i:Nat) (h:Int):∀ m,(leaps mask (13 + m) i (bits h)).1=cyc mask m (leaps mask 13 i (bits h)).1
 | 0=>rfl
 | m + 1=>by
  show ((leaps mask (13 + m) i (bits h)).1 * 5 + 1 + (leaps mask (13 + m) i (bits h)).2 / 32) % (mask + 1)=(cyc mask m _ * 5 + 1) % (mask + 1)
  rw [qDV mask i h m,qCv]
  have:bits h / 32 ^ (13 + m)=0:=by
   apply Nat.div_eq_of_lt
   refine Nat.lt_of_lt_of_le (qMo h) ?_
   calc 2 ^ 64 ≤ 32 ^ 13:=by decide
    _ ≤ 32 ^ (13 + m):=Nat.pow_le_pow_right (by decide) (Nat.le_add_right _ _)
  rw [this]
theorem qHz {mask:Nat}{i q:Nat} (hi:i ≤ mask):∀ L,(leaps mask L i q).1 ≤ mask
 | 0=>hi
 | L + 1=>by show (_ % (mask + 1)) ≤ mask; exact Nat.le_of_lt_succ (Nat.mod_lt _ (Nat.succ_pos _))
theorem qJ3 {mask:Nat} (hm:Mask mask) (h:Int) {t:Nat} (ht:t ≤ mask):∃ k,k < 10 * turns mask∧visit mask h k=t:=by
 revert hm ht
 revert mask h t
 intros mask h t
 intro hm ht
 have h0:bits h % (mask + 1) ≤ mask:=Nat.le_of_lt_succ (Nat.mod_lt _ (Nat.succ_pos _))
 (injection (qKQ (t:=t) hm (qHz h0 (q:=bits h) 13) ht) with m; rintro ⟨h1,h2⟩)
 (injection (qGB mask (bits h % (mask + 1)) (bits h) (13 + m)) with k; rintro ⟨h3,h4⟩)
 refine ⟨k,by unfold turns; lia,?_⟩
 show (iterP mask (runP mask _ _) k).j=t
 rw [h4]
 show (leaps mask (13 + m) _ _).1=t
 rw [qDV,h2]
theorem qCE {mask:Nat} (h:Int):∀ k,visit mask h k ≤ mask∧visit mask h k + (iterP mask (qAd mask h) k).more ≤ mask∧(iterP mask (qAd mask h) k).dummy=none
 | 0=>by
  have h0:bits h % (mask + 1) ≤ mask:=Nat.le_of_lt_succ (Nat.mod_lt _ (Nat.succ_pos _))
  refine ⟨h0,?_,rfl⟩
  show bits h % (mask + 1) + (runEnd mask (bits h % (mask + 1)) - bits h % (mask + 1)) ≤ mask
  unfold runEnd; split <;> lia
 | k + 1=>by
  obtain ⟨a,b,c⟩:=qCE h k
  show (adv mask (iterP mask (qAd mask h) k)).j ≤ mask∧(adv mask (iterP mask (qAd mask h) k)).j + (adv mask (iterP mask (qAd mask h) k)).more ≤ mask∧(adv mask (iterP mask (qAd mask h) k)).dummy=none
  unfold visit at a b
  generalize iterP mask (qAd mask h) k=p at a b c
  unfold adv
  split
  ·exact ⟨by show p.j + 1 ≤ mask; lia,by show p.j + 1 + (p.more - 1) ≤ mask; lia,c⟩
  ·have h0:(leap mask p.i p.perturb).1 ≤ mask:=Nat.le_of_lt_succ (Nat.mod_lt _ (Nat.succ_pos _))
   refine ⟨h0,?_,c⟩
   show (leap mask p.i p.perturb).1 + (runEnd mask (leap mask p.i p.perturb).1 - (leap mask p.i p.perturb).1) ≤ mask
   unfold runEnd; split <;> lia
end Mine.Internal
end
section
open PySem PySem.W PyProof.Rows
namespace Mine.Internal
open SetTable
theorem qDT (p n:Nat):min p n + (n - p + 1)=n + 1:=by omega
theorem qMf (xs:Array Nat) (j:Nat) (hr:xs.toList.Pairwise (· < ·)):∀ (fuel lo hi:Nat),hi ≤ xs.size→lo ≤ hi→hi - lo ≤ fuel→(∀ i,i < lo→xs.getD i 0 < j)→(∀ i,hi ≤ i→i < xs.size→j ≤ xs.getD i 0) →
  below.go xs j fuel lo hi ≤ xs.size∧(∀ i,i < below.go xs j fuel lo hi→xs.getD i 0 < j)∧(∀ i,below.go xs j fuel lo hi ≤ i→i < xs.size→j ≤ xs.getD i 0):=by
 revert hr
 revert xs j
 intros xs j
 intro hr
 have mono:∀ a b,a < b→b < xs.size→xs.getD a 0 < xs.getD b 0:=by
  intros a b; intro hab hb
  have:=List.pairwise_iff_getElem.mp hr a b (by rw [Array.length_toList]; lia) (by rw [Array.length_toList]; exact hb) hab
  simp only [Array.getElem_toList] at this
  simp [Array.getD,show a < xs.size by lia,hb,this]
 intros fuel
 induction fuel with
 | zero =>
  (intros lo hi; intro h1 h2 h3 h4 h5)
  have:lo=hi:=by lia
  subst this
  exact ⟨h1,h4,h5⟩
 | succ fuel ih =>
  revert ih; revert fuel; intros fuel; intro ih
  (intros lo hi; intro h1 h2 h3 h4 h5)
  have e:below.go xs j (fuel + 1) lo hi=(if lo < hi then (if xs.getD ((lo + hi) / 2) j < j then below.go xs j fuel ((lo + hi) / 2 + 1) hi else below.go xs j fuel lo ((lo + hi) / 2)) else lo):=rfl
  rw [e]
  split
  ·rename_i hlt
   rw [show xs.getD ((lo + hi) / 2) j=xs.getD ((lo + hi) / 2) 0 by simp [Array.getD,show (lo + hi) / 2 < xs.size by lia]]
   split
   ·rename_i hm
    have ⟨m1,m2⟩:=qM0 hlt
    refine ih _ _ h1 m2 (Nat.le_of_lt_succ (qEQ (Nat.lt_succ_of_le h3) m1 m2)) (?_) h5
    intros i; intro hi'
    rcases Nat.lt_or_eq_of_le (Nat.le_of_lt_succ hi') with q | q
    ·exact Nat.lt_trans (mono i _ q (by lia)) hm
    ·rw [q]; exact hm
   ·rename_i hm
    have ⟨m1,m2⟩:=qM0 hlt
    refine ih _ _ (Nat.le_trans (Nat.le_of_lt m2) h1) m1 (Nat.le_of_lt_succ (Nat.lt_of_lt_of_le (Nat.sub_lt_sub_right m1 m2) h3)) h4 (?_)
    intros i; intro hi' hs
    rcases Nat.lt_or_eq_of_le hi' with q | q
    ·exact Nat.le_trans (Nat.le_of_not_lt hm) (Nat.le_of_lt (mono _ i q hs))
    ·rw [← q]; exact Nat.le_of_not_lt hm
  ·rename_i hlt
   have:lo=hi:=by lia
   subst this
   exact ⟨h1,h4,h5⟩
theorem qDc {xs:Array Nat}{j:Nat} (hr:xs.toList.Pairwise (· < ·)):below xs j ≤ xs.size∧(∀ i,i < below xs j→xs.getD i 0 < j)∧(∀ i,below xs j ≤ i→i < xs.size→j ≤ xs.getD i 0) :=
 qMf xs j hr xs.size 0 xs.size (Nat.le_refl _) (Nat.zero_le _) (by lia) (fun _ h=>absurd h (Nat.not_lt_zero _)) fun i h1 h2=>absurd h2 (by lia)
theorem qD7 {xs:Array Nat}{i j:Nat} (hr:xs.toList.Pairwise (· < ·)) (h:xs[i]?=some j):below xs j=i:=by
 revert hr h
 revert xs i j
 intros xs i j
 intro hr h
 obtain ⟨h1,h2,h3⟩:=qDc (j:=j) hr
 obtain ⟨hi,e⟩:=Array.getElem?_eq_some_iff.mp h
 have ed:xs.getD i 0=j:=by simp [Array.getD,hi,e]
 have mono:∀ a b,a < b→b < xs.size→xs.getD a 0 < xs.getD b 0:=by
  intros a b; intro hab hb
  have:=List.pairwise_iff_getElem.mp hr a b (by rw [Array.length_toList]; lia) (by rw [Array.length_toList]; exact hb) hab
  simp only [Array.getElem_toList] at this
  simp [Array.getD,show a < xs.size by lia,hb,this]
 rcases Nat.lt_trichotomy (below xs j) i with q | q | q
 ·have h4:=h3 _ (Nat.le_refl _) (by lia)
  have h5:=mono _ _ q hi
  lia
 ·exact q
 ·have:=h2 i q; lia
structure TI (t:SetTable) (hs:List Int):Prop where
 sz:t.place.size=hs.length
 dm:t.dummies=#[]
 mkk:(t.mask=7∧hs.length ≤ 4)∨(t.mask=31∧hs.length ≤ 6)
 rise:t.place.toList.Pairwise (· < ·)
 le:∀ j ∈ t.place.toList,j ≤ t.mask
 reach:∀ p ∈ t.place.toList.zip hs,∃ k,visit t.mask p.2 k=p.1∧∀ k' < k,visit t.mask p.2 k' ∈ t.place.toList
theorem TI.mask {t hs} (T:TI t hs):Mask t.mask:=T.mkk.elim (fun h=>.inl h.1) fun h=>.inr h.1
theorem TI.few {t hs} (T:TI t hs):hs.length ≤ t.mask:=T.mkk.elim (fun h=>by lia) fun h=>by lia
theorem TI.fits {t hs} (T:TI t hs) {n:Nat} (hn:n=hs.length):t.fits n=true:=by
 unfold SetTable.fits SetTable.fill
 rw [T.dm,T.sz,hn]
 have:=T.few
 simp; lia
theorem TI.slot_live {t hs} (T:TI t hs) {i j:Nat} (h:t.place[i]?=some j):t.slot j=.live i:=by
 unfold slot
 rw [qD7 T.rise h]
 simp [h]
theorem TI.slot_empty {t hs} (T:TI t hs) {j:Nat} (h:j ∉ t.place.toList):t.slot j=.empty:=by
 unfold slot
 have:(t.place[below t.place j]? == some j)=false:=by
  rw [beq_eq_false_iff_ne]
  intro e
  exact h (by rw [← Array.getElem?_toList] at e; exact List.mem_of_getElem? e)
 simp only [this]
 have hd:SetTable.has t.dummies j=false:=by rw [T.dm]; simp [SetTable.has]
 rw [hd]; rfl
theorem TI.slot_cases {t hs} (T:TI t hs) (j:Nat):(j ∉ t.place.toList∧t.slot j=.empty)∨∃ i,t.place[i]?=some j∧t.slot j=.live i:=by
 by_cases h:j ∈ t.place.toList
 ·obtain ⟨i,hi,e⟩:=List.getElem_of_mem h
  have:t.place[i]?=some j:=by rw [← Array.getElem?_toList,List.getElem?_eq_getElem hi,e]
  exact .inr ⟨i,this,T.slot_live this⟩
 ·exact .inl ⟨h,T.slot_empty h⟩
theorem qNH {l:List Nat}{n:Nat} (h:l.length < n):∃ j,j < n∧j ∉ l:=by
 apply Decidable.byContradiction
 intro q
 have:List.range n ⊆ l:=fun j hj=>by
  apply Decidable.byContradiction
  intro z
  exact q ⟨j,List.mem_range.mp hj,z⟩
 have:=List.nodup_range.length_le_of_subset this
 rw [List.length_range] at this
 lia
theorem TI.ends {t hs} (T:TI t hs) (h:Int):∃ k,k < 10 * turns t.mask∧visit t.mask h k ∉ t.place.toList∧∀ k' < k,visit t.mask h k' ∈ t.place.toList:=by
 revert T
 revert t hs h
 intros t hs h
 intro T
 (injection (qNH (l:=t.place.toList) (n:=t.mask + 1) (by rw [Array.length_toList,T.sz]; have:=T.few; lia)) with j; rintro ⟨hj,hn⟩)
 (injection (qJ3 T.mask h (t:=j) (by lia)) with k; rintro ⟨hk,e⟩)
 have:∀ n,(∃ k,k < n∧visit t.mask h k ∉ t.place.toList)→∃ k,k < n∧visit t.mask h k ∉ t.place.toList∧∀ k' < k,visit t.mask h k' ∈ t.place.toList:=by
  intros n
  induction n with
  | zero=>(intro H_; injection H_ with k; clear H_; rintro ⟨hk,_⟩); lia
  | succ n ih =>
   revert ih; revert n; intros n; intro ih
   (intro H_; injection H_ with k; clear H_; rintro ⟨hk,hv⟩)
   by_cases q:∃ k,k < n∧visit t.mask h k ∉ t.place.toList
   ·(injection (ih q) with k; rintro ⟨a,b,c⟩)
    exact ⟨k,by lia,b,c⟩
   ·have hkn:k=n:=by
     apply Decidable.byContradiction
     intro z
     exact q ⟨k,by lia,hv⟩
    subst hkn
    refine ⟨k,by lia,hv,?_⟩
    intros k'; intro hk'
    apply Decidable.byContradiction
    intro z
    exact q ⟨k',hk',z⟩
 exact this _ ⟨k,hk,by rw [e]; exact hn⟩
theorem TI.meets {t hs} (T:TI t hs) {i:Nat}{h:Int} (hi:hs[i]?=some h):∃ k j,t.place[i]?=some j∧visit t.mask h k=j∧∀ k' ≤ k,visit t.mask h k' ∈ t.place.toList:=by
 revert T hi
 revert t hs i h
 intros t hs i h
 intro T hi
 obtain ⟨hlt,e⟩:=List.getElem?_eq_some_iff.mp hi
 have hp:i < t.place.size:=by rw [T.sz]; exact hlt
 have hz:(t.place[i],h) ∈ t.place.toList.zip hs:=by
  have:(t.place.toList.zip hs)[i]?=some (t.place[i],h):=by
   rw [List.getElem?_zip_eq_some]
   exact ⟨by rw [Array.getElem?_toList,Array.getElem?_eq_getElem hp],hi⟩
  exact List.mem_of_getElem? this
 (injection (T.reach _ hz) with k; rintro ⟨h1,h2⟩)
 refine ⟨k,t.place[i],Array.getElem?_eq_getElem hp,h1,fun k' hk'=>?_⟩
 rcases Nat.lt_or_eq_of_le hk' with q | q
 ·exact h2 k' q
 ·rw [q,h1]; exact Array.getElem_mem_toList hp
theorem qCz {α:Type} (xs:Array α) (p:Nat) (x:α):(insertAt xs p x).toList=xs.toList.take p ++ x :: xs.toList.drop p:=by
 unfold insertAt
 simp [List.take_of_length_le]
theorem TI.put {t hs} (T:TI t hs) {h:Int}{k j:Nat} (hk:visit t.mask h k=j) (hj:j ∉ t.place.toList) (hb:∀ k' < k,visit t.mask h k' ∈ t.place.toList) (hsz:(t.mask=7∧hs.length < 5)∨(t.mask=31∧hs.length < 6)) :
  (t.put j).1.dummies=#[]∧(t.put j).1.place.toList=t.place.toList.take (t.put j).2 ++ j :: t.place.toList.drop (t.put j).2∧(t.put j).1.mask=t.mask∧(t.put j).1.led=t.led∧(t.put j).1.plain=t.plain ∧
  (t.put j).1.place.toList.Pairwise (· < ·)∧(∀ i ∈ (t.put j).1.place.toList,i ≤ t.mask) ∧
  (∀ p ∈ (t.put j).1.place.toList.zip (hs.take (t.put j).2 ++ h :: hs.drop (t.put j).2),∃ k,visit t.mask p.2 k=p.1∧∀ k' < k,visit t.mask p.2 k' ∈ (t.put j).1.place.toList):=by
 revert T hk hj hb hsz
 revert t hs h k j
 intros t hs h k j
 intro T hk hj hb hsz
 have hd:SetTable.has t.dummies j=false:=by rw [T.dm]; simp [SetTable.has]
 have e1:(t.put j).1={ t with place:=insertAt t.place (below t.place j) j }:=by
  unfold SetTable.put
  dsimp only
  rw [hd]
  rfl
 have e2:(t.put j).2=below t.place j:=rfl
 obtain ⟨s1,s2,s3⟩:=qDc (j:=j) T.rise
 have hpl:(t.put j).1.place.toList=t.place.toList.take (below t.place j) ++ j :: t.place.toList.drop (below t.place j):=by rw [e1]; exact qCz _ _ _
 have hle:j ≤ t.mask:=hk ▸ (qCE h k).1
 have gd:∀ i (hi:i < t.place.toList.length),t.place.toList[i]=t.place.getD i 0:=by
  intros i; intro hi
  rw [Array.length_toList] at hi
  simp [Array.getD,hi]
 rw [e2,hpl]
 refine ⟨by rw [e1]; exact T.dm,rfl,by rw [e1],by rw [e1],by rw [e1],?_,?_,?_⟩
 ·rw [List.pairwise_append,List.pairwise_cons]
  refine ⟨T.rise.sublist (List.take_sublist _ _),⟨?_,T.rise.sublist (List.drop_sublist _ _)⟩,?_⟩
  ·intros a; intro ha
   (injection (List.getElem_of_mem ha) with i; rintro ⟨hi,e⟩)
   rw [List.length_drop] at hi
   rw [List.getElem_drop,gd _ (by lia)] at e
   have:=s3 (below t.place j + i) (by lia) (by rw [← Array.length_toList]; lia)
   rw [e] at this
   refine Nat.lt_of_le_of_ne this fun z=>hj ?_
   rw [z,← e,← gd _ (by lia)]; exact List.getElem_mem _
  ·intros a; intro ha; intros b; intro hb
   (injection (List.getElem_of_mem ha) with i; rintro ⟨hi,e⟩)
   rw [List.length_take] at hi
   rw [List.getElem_take,gd _ (by lia)] at e
   have hlt:a < j:=by rw [← e]; exact s2 i (by lia)
   rcases List.mem_cons.mp hb with rfl | hb
   ·exact hlt
   ·(injection (List.getElem_of_mem hb) with i'; rintro ⟨hi',e'⟩)
    rw [List.length_drop] at hi'
    rw [List.getElem_drop,gd _ (by lia)] at e'
    have:=s3 (below t.place j + i') (by lia) (by rw [← Array.length_toList]; lia)
    lia
 ·(intros i; intro hi)
  rcases List.mem_append.mp hi with q | q
  ·exact T.le i (List.mem_of_mem_take q)
  ·rcases List.mem_cons.mp q with rfl | q
   ·exact hle
   ·exact T.le i (List.mem_of_mem_drop q)
 ·have sub:∀ a ∈ t.place.toList,a ∈ t.place.toList.take (below t.place j) ++ j :: t.place.toList.drop (below t.place j):=by
   intros a; intro ha
   rw [← List.take_append_drop (below t.place j) t.place.toList] at ha
   rcases List.mem_append.mp ha with q | q
   ·exact List.mem_append_left _ q
   ·exact List.mem_append_right _ (.tail _ q)
  have hlen:(t.place.toList.take (below t.place j)).length=(hs.take (below t.place j)).length:=by
   rw [List.length_take,List.length_take,Array.length_toList,T.sz]
  (intros p; intro hp)
  rw [List.zip_append hlen,List.zip_cons_cons] at hp
  have old:∀ p ∈ t.place.toList.zip hs,∃ k,visit t.mask p.2 k=p.1∧∀ k' < k,visit t.mask p.2 k' ∈ t.place.toList.take (below t.place j) ++ j :: t.place.toList.drop (below t.place j):=by
   intros p; intro hp
   (injection (T.reach p hp) with k; rintro ⟨a,b⟩)
   exact ⟨k,a,fun k' hk'=>sub _ (b k' hk')⟩
  have hz:t.place.toList.zip hs=(t.place.toList.take (below t.place j)).zip (hs.take (below t.place j)) ++ (t.place.toList.drop (below t.place j)).zip (hs.drop (below t.place j)):=by
   rw [← List.zip_append hlen,List.take_append_drop,List.take_append_drop]
  rcases List.mem_append.mp hp with q | q
  ·exact old p (by rw [hz]; exact List.mem_append_left _ q)
  ·rcases List.mem_cons.mp q with rfl | q
   ·exact ⟨k,hk,fun k' hk'=>sub _ (hb k' hk')⟩
   ·exact old p (by rw [hz]; exact List.mem_append_right _ q)
end Mine.Internal
end
section
open PySem PySem.W PyProof.Rows
namespace Mine.Internal
open SetTable
theorem qLu (mask:Nat):∀ (k n j i q:Nat),k ≤ n→iterP mask { j,more:=n,i,perturb:=q,dummy:=none } k={ j:=j + k,more:=n - k,i,perturb:=q,dummy:=none }
 | 0,n,j,i,q,_=>rfl
 | k + 1,n,j,i,q,h=>by
  show adv mask (iterP mask _ k)=_
  rw [qLu mask k n j i q (by lia)]
  unfold adv
  rw [if_pos (show n - k > 0 by lia)]
  show Probe.mk _ _ _ _ _=Probe.mk _ _ _ _ _
  rw [show n - k - 1=n - (k + 1) by lia]; rfl
theorem qF7 (mask:Nat):∀ (L i q:Nat),leaps mask (L + 1) i q=leaps mask L (leap mask i q).1 (leap mask i q).2
 | 0,i,q=>rfl
 | L + 1,i,q=>by
  show leap mask (leaps mask (L + 1) i q).1 (leaps mask (L + 1) i q).2=_
  rw [qF7 mask L i q]; rfl
theorem qJK {i e k:Nat} (hi:i ≤ e):k < e + 1 - i↔k ≤ e - i:=by rw [Nat.sub_add_comm hi]; exact Nat.lt_succ_iff
set_option tactic.hygienic true in
set_option hygiene true in
theorem qGh {mask:Nat}{owner:Array (Option Nat)}:∀ (fuel i q:Nat),(∃ L,L < fuel∧(owner.getD (leaps mask L i q).1 (some 0)).isNone=true) →
  ∃ j k,layClean.free mask owner fuel i q=some j∧(owner.getD j (some 0)).isNone=true∧(iterP mask (runP mask i q) k).j=j∧∀ k' < k,(owner.getD (iterP mask (runP mask i q) k').j (some 0)).isNone=false
 | 0,i,q,⟨L,h,_⟩=>absurd h (Nat.not_lt_zero _)
 | fuel + 1,i,q,⟨L,hL,hn⟩=>by
  unfold layClean.free
  have inr:∀ k,k ≤ runEnd mask i - i→(iterP mask (runP mask i q) k).j=i + k:=fun k hk=>by
   unfold runP; rw [qLu mask k _ _ _ _ hk]
  have hre:i ≤ runEnd mask i:=by unfold runEnd; split <;> lia
  split
  ·rename_i k hf
   rw [List.find?_range_eq_some] at hf
   obtain ⟨h1,h2,h3⟩:=hf
   have h2:=List.mem_range.mp h2
   refine ⟨i + k,k,rfl,h1,inr k ((qJK hre).mp h2),fun k' hk'=>?_⟩
   rw [inr k' (Nat.le_trans (Nat.le_of_lt hk') ((qJK hre).mp h2))]
   have:=h3 k' hk'
   simpa using this
  ·rename_i hf
   rw [List.find?_range_eq_none] at hf
   have full:∀ k',k' ≤ runEnd mask i - i→(owner.getD (i + k') (some 0)).isNone=false:=fun k' hk'=>by
    have:=hf k' ((qJK hre).mpr hk')
    simpa using this
   cases L with
   | zero =>
    have:=full 0 (Nat.zero_le _)
    rw [Nat.add_zero] at this
    rw [show (leaps mask 0 i q).1=i from rfl,this] at hn
    exact absurd hn (by decide)
   | succ L =>
    rw [qF7] at hn
    obtain ⟨j,k,e1,e2,e3,e4⟩:=qGh (mask:=mask) (owner:=owner) fuel (leap mask i q).1 (leap mask i q).2 ⟨L,by lia,hn⟩
    have sh:∀ k,iterP mask (runP mask i q) (runEnd mask i - i + 1 + k)=iterP mask (runP mask (leap mask i q).1 (leap mask i q).2) k:=fun k=>by
     rw [qEK]
     exact congrArg (iterP mask · k) (qFa mask _ _ _ _)
    refine ⟨j,runEnd mask i - i + 1 + k,e1,e2,by rw [sh]; exact e3,fun k' hk'=>?_⟩
    by_cases hk:k' ≤ runEnd mask i - i
    ·rw [inr k' hk]; exact full k' hk
    ·obtain ⟨z,rfl⟩:∃ z,k'=runEnd mask i - i + 1 + z:=⟨k' - (runEnd mask i - i + 1),(Nat.add_sub_of_le (Nat.lt_of_not_le hk)).symm⟩
     rw [sh]
     exact e4 z (by lia)
end Mine.Internal
end
section
open PySem PySem.W PyProof.Rows
namespace Mine.Internal
open SetTable
structure OI (mask:Nat) (owner:Array (Option Nat)) (hs:List Int):Prop where
 sz:owner.size=mask + 1
 lt:∀ j n,owner.getD j none=some n→n < hs.length
 uniq:∀ j j' n,owner.getD j none=some n→owner.getD j' none=some n→j=j'
 all:∀ n,n < hs.length→∃ j,j ≤ mask∧owner.getD j none=some n
 reach:∀ j n,owner.getD j none=some n→∃ h,hs[n]?=some h∧∃ k,visit mask h k=j∧∀ k' < k,(owner.getD (visit mask h k') none).isSome=true
theorem OI.free {mask owner hs} (hm:Mask mask) (O:OI mask owner hs) (hl:hs.length ≤ mask) (h:Int) :
  ∃ j k,layClean.free mask owner (turns mask) (bits h % (mask + 1)) (bits h)=some j∧j ≤ mask∧owner.getD j none=none∧visit mask h k=j∧∀ k' < k,(owner.getD (visit mask h k') none).isSome=true:=by
 revert hm O hl
 revert mask owner hs h
 intros mask owner hs h
 intro hm O hl
 have conv:∀ j,j ≤ mask→owner.getD j (some 0)=owner.getD j none:=by
  intros j; intro hj
  have:j < owner.size:=by rw [O.sz]; lia
  simp [Array.getD,this]
 have:∃ j,j ≤ mask∧owner.getD j none=none:=by
  apply Decidable.byContradiction
  intro z
  have hz:∀ j,j ≤ mask→∃ n,owner.getD j none=some n:=by
   intros j; intro hj
   cases e:owner.getD j none with
   | none=>exact absurd ⟨j,hj,e⟩ z
   | some n=>exact ⟨n,rfl⟩
  have nd:((List.range (mask + 1)).map fun j=>(owner.getD j none).getD 0).Nodup:=by
   rw [List.nodup_iff_pairwise_ne,List.pairwise_map]
   refine List.Pairwise.imp_of_mem (fun {a b} ha hb hab q=>?_) (List.nodup_iff_pairwise_ne.mp List.nodup_range)
   obtain ⟨n,en⟩:=hz a (by have:=List.mem_range.mp ha; lia)
   obtain ⟨n',en'⟩:=hz b (by have:=List.mem_range.mp hb; lia)
   rw [en,en'] at q
   have q:n=n':=q
   exact hab (O.uniq a b n en (q ▸ en'))
  have sub:((List.range (mask + 1)).map fun j=>(owner.getD j none).getD 0) ⊆ List.range hs.length:=by
   intros n; intro hn
   (injection (List.mem_map.mp hn) with j; rintro ⟨hj,e⟩)
   (injection (hz j (by have:=List.mem_range.mp hj; lia)) with n'; intro en)
   rw [en] at e
   have e:n'=n:=e
   exact List.mem_range.mpr (e ▸ O.lt j n' en)
  have:=nd.length_le_of_subset sub
  simp only [List.length_map,List.length_range] at this
  lia
 (injection (this) with t; rintro ⟨ht,et⟩)
 have h0:bits h % (mask + 1) ≤ mask:=Nat.le_of_lt_succ (Nat.mod_lt _ (Nat.succ_pos _))
 (injection (qKQ (t:=t) hm (qHz h0 (q:=bits h) 13) ht) with m; rintro ⟨h1,h2⟩)
 (injection (qGh (mask:=mask) (owner:=owner) (turns mask) (bits h % (mask + 1)) (bits h)
  ⟨13 + m,by unfold turns; lia,by rw [qDV,h2,conv t ht,et]; rfl⟩) with j k; rintro ⟨e1,e2,e3,e4⟩)
 have e3:visit mask h k=j:=e3
 have hj:j ≤ mask:=e3 ▸ (qCE h k).1
 refine ⟨j,k,e1,hj,?_,e3,?_⟩
 ·rw [← conv j hj]; exact Option.isNone_iff_eq_none.mp e2
 ·intros k'; intro hk'
  have:=e4 k' hk'
  rw [show (iterP mask (runP mask (bits h % (mask + 1)) (bits h)) k').j=visit mask h k' from rfl,conv _ (qCE h k').1] at this
  cases e:owner.getD (visit mask h k') none with
  | none=>rw [e] at this; exact absurd this (by decide)
  | some _=>rfl
theorem OI.step {mask owner hs} (O:OI mask owner hs) {h:Int}{j k:Nat} (hj:j ≤ mask) (hn:owner.getD j none=none) (hv:visit mask h k=j) (hb:∀ k' < k,(owner.getD (visit mask h k') none).isSome=true) :
  OI mask (owner.setIfInBounds j (some hs.length)) (hs ++ [h]):=by
 revert O hj hn hv hb
 revert mask owner hs h j k
 intros mask owner hs h j k
 intro O hj hn hv hb
 have hlt:j < owner.size:=by rw [O.sz]; lia
 have gd:∀ i,(owner.setIfInBounds j (some hs.length)).getD i none=if i=j then some hs.length else owner.getD i none:=fun i=>by
  rw [Array.getD_eq_getD_getElem?,Array.getD_eq_getD_getElem?,Array.getElem?_setIfInBounds]
  by_cases q:i=j
  ·subst q; simp [hlt]
  ·rw [if_neg (fun e=>q e.symm),if_neg q]
 have mono:∀ i,(owner.getD i none).isSome=true→((owner.setIfInBounds j (some hs.length)).getD i none).isSome=true:=fun i hi=>by
  rw [gd]; split
  ·rfl
  ·exact hi
 refine ⟨by rw [Array.size_setIfInBounds]; exact O.sz,?_,?_,?_,?_⟩
 ·intros i n; intro e
  rw [gd] at e
  rw [List.length_append,List.length_singleton]
  split at e
  ·cases e; lia
  ·have:=O.lt i n e; lia
 ·intros i i' n; intro e e'
  rw [gd] at e e'
  split at e <;> split at e'
  ·rename_i a b; rw [a,b]
  ·cases e; have:=O.lt _ _ e'; lia
  ·cases e'; have:=O.lt _ _ e; lia
  ·exact O.uniq _ _ _ e e'
 ·intros n; intro hn'
  rw [List.length_append,List.length_singleton] at hn'
  by_cases q:n=hs.length
  ·exact ⟨j,hj,by rw [gd,if_pos rfl,q]⟩
  ·(injection (O.all n (by lia)) with i; rintro ⟨h1,h2⟩)
   refine ⟨i,h1,?_⟩
   rw [gd,if_neg,h2]
   intro z; rw [z,hn] at h2; cases h2
 ·intros i n; intro e
  rw [gd] at e
  split at e
  ·rename_i z
   cases e
   exact ⟨h,List.getElem?_concat_length,k,by rw [z]; exact hv,fun k' hk'=>mono _ (hb k' hk')⟩
  ·(injection (O.reach i n e) with h'; rintro ⟨a,H_⟩; injection H_ with k'; clear H_; rintro ⟨b,c⟩)
   refine ⟨h',?_,k',b,fun k'' hk=>mono _ (c k'' hk)⟩
   rw [List.getElem?_append_left (List.getElem?_eq_some_iff.mp a).1]; exact a
theorem OI.init (mask:Nat):OI mask (Array.replicate (mask + 1) none) []:=by
 have gd:∀ j,(Array.replicate (mask + 1) (none:Option Nat)).getD j none=none:=fun j=>by
  rw [Array.getD_eq_getD_getElem?,Array.getElem?_replicate]; split <;> rfl
 exact ⟨by simp,fun j n e=>(by rw [gd] at e; cases e),fun j j' n e=>(by rw [gd] at e; cases e),fun n h=>absurd h (Nat.not_lt_zero _),fun j n e=>(by rw [gd] at e; cases e)⟩
theorem qM5 {mask:Nat} (hm:Mask mask):∀ (hs' hs:List Int) (owner:Array (Option Nat)),OI mask owner hs→hs.length + hs'.length ≤ mask + 1 →
  ∃ owner',(hs'.foldl (fun acc h=>do
   let (owner,k) ← acc
   let j ← layClean.free mask owner (turns mask) (bits h % (mask + 1)) (bits h)
   pure (owner.setIfInBounds j (some k),k + 1)) (some (owner,hs.length)))=some (owner',hs.length + hs'.length)∧OI mask owner' (hs ++ hs')
 | [],hs,owner,O,_=>⟨owner,rfl,by rw [List.append_nil]; exact O⟩
 | h :: hs',hs,owner,O,hl=>by
  rw [List.length_cons] at hl
  obtain ⟨j,k,e,hj,hn,hv,hb⟩:=O.free hm (by lia) h
  have O':=O.step hj hn hv hb
  obtain ⟨owner',e',O''⟩:=qM5 hm hs' (hs ++ [h]) _ O' (by rw [List.length_append,List.length_singleton]; lia)
  refine ⟨owner',?_,by rw [List.append_assoc] at O''; exact O''⟩
  rw [List.foldl_cons]
  have:(do
   let (owner,k) ← some (owner,hs.length)
   let j ← layClean.free mask owner (turns mask) (bits h % (mask + 1)) (bits h)
   pure (owner.setIfInBounds j (some k),k + 1):Option (Array (Option Nat) × Nat))=some (owner.setIfInBounds j (some hs.length),(hs ++ [h]).length):=by
   rw [List.length_append,List.length_singleton]
   show (layClean.free mask owner (turns mask) (bits h % (mask + 1)) (bits h) >>= fun j=>pure (owner.setIfInBounds j (some hs.length),hs.length + 1))=_
   rw [e]; rfl
  rw [this,e',List.length_append,List.length_singleton,List.length_cons]
  congr 2; lia
theorem qFm {mask:Nat} (hm:Mask mask) (hs:Array Int) (hl:hs.size ≤ mask + 1):∃ owner,layClean mask hs=some owner∧OI mask owner hs.toList:=by
 obtain ⟨owner,e,O⟩:=qM5 hm hs.toList [] _ (OI.init mask) (by simpa using hl)
 refine ⟨owner,?_,by simpa using O⟩
 unfold layClean
 rw [← Array.foldl_toList]
 exact (congrArg (Option.map (·.1)) e)
theorem qJv {mask:Nat} (hm:Mask mask) (finger moves:Nat) (led plain:Bool) (hs:Array Int) (hsz:(mask=7∧hs.size ≤ 4)∨(mask=31∧hs.size ≤ 6)) :
  ∃ t order,laid mask finger moves led plain hs=some (t,order)∧t.mask=mask∧t.led=led∧t.plain=plain∧order.toList.Perm (List.range hs.size)∧TI t (order.toList.map fun n=>hs.toList.getD n 0):=by
 revert hm hsz
 revert mask finger moves led plain hs
 intros mask finger moves led plain hs
 intro hm hsz
 have hle:hs.size ≤ mask + 1:=by lia
 (injection (qFm hm hs hle) with owner; rintro ⟨e,O⟩)
 have hlen:hs.toList.length=hs.size:=Array.length_toList
 let live:=(List.range (mask + 1)).filterMap fun j=>(owner.getD j none).map (j,·)
 have hl:∀ j n,(j,n) ∈ live↔j ≤ mask∧owner.getD j none=some n:=fun j n=>by
  show (j,n) ∈ List.filterMap _ _↔_
  rw [List.mem_filterMap]
  constructor
  ·rintro ⟨j',hj',q⟩
   obtain ⟨n',h1,h2⟩:=Option.map_eq_some_iff.mp q
   cases h2
   exact ⟨by have:=List.mem_range.mp hj'; lia,h1⟩
  ·rintro ⟨h1,h2⟩
   exact ⟨j,List.mem_range.mpr (by lia),by rw [h2]; rfl⟩
 have rise:(live.map (·.1)).Pairwise (· < ·):=by
  rw [List.pairwise_map]
  show List.Pairwise _ (List.filterMap _ _)
  rw [List.pairwise_filterMap]
  refine List.Pairwise.imp (fun {a b} hab x hx y hy=>?_) List.pairwise_lt_range
  obtain ⟨_,_,rfl⟩:=Option.map_eq_some_iff.mp hx
  obtain ⟨_,_,rfl⟩:=Option.map_eq_some_iff.mp hy
  exact hab
 have nd:(live.map (·.2)).Nodup:=by
  rw [List.nodup_iff_pairwise_ne,List.pairwise_map]
  refine List.Pairwise.imp_of_mem (fun {a b} ha hb hab q=>?_) (List.pairwise_map.mp rise)
  obtain ⟨_,h1⟩:=(hl a.1 a.2).mp ha
  obtain ⟨_,h2⟩:=(hl b.1 b.2).mp hb
  have:=O.uniq a.1 b.1 a.2 h1 (by rw [q]; exact h2)
  lia
 have pm:(live.map (·.2)).Perm (List.range hs.size):=by
  rw [List.perm_ext_iff_of_nodup nd List.nodup_range]
  intro n
  rw [List.mem_map,List.mem_range]
  constructor
  ·rintro ⟨p,hp,rfl⟩
   have:=O.lt p.1 p.2 ((hl p.1 p.2).mp hp).2
   lia
  ·intro hn
   obtain ⟨j,h1,h2⟩:=O.all n (by lia)
   exact ⟨(j,n),(hl j n).mpr ⟨h1,h2⟩,rfl⟩
 have len:live.length=hs.size:=by have:=pm.length_eq; simpa using this
 refine ⟨{ mask,place:=(live.map (·.1)).toArray,dummies:=#[],finger,led,moves,plain },(live.map (·.2)).toArray,?_,rfl,rfl,rfl,pm,?_⟩
 ·unfold laid
  rw [e]; rfl
 ·refine ⟨?_,rfl,?_,rise,?_,?_⟩
  ·show (live.map (·.1)).toArray.size=_
   simp
  ·show (mask=7∧_)∨(mask=31∧_)
   rw [List.length_map,List.length_map,len]
   exact hsz
  ·intro j hj
   obtain ⟨p,hp,rfl⟩:=List.mem_map.mp hj
   exact ((hl p.1 p.2).mp hp).1
  ·intro p hp
   have hp:p ∈ (live.map (·.1)).zip ((live.map (·.2)).map fun n=>hs.toList.getD n 0):=hp
   rw [List.map_map,List.zip_map'] at hp
   obtain ⟨⟨j,n⟩,hjn,rfl⟩:=List.mem_map.mp hp
   obtain ⟨h1,h2⟩:=(hl j n).mp hjn
   obtain ⟨h,a,k,b,c⟩:=O.reach j n h2
   refine ⟨k,?_,fun k' hk'=>?_⟩
   ·show visit mask (hs.toList.getD n 0) k=j
    rw [List.getD_eq_getElem?_getD,a]; exact b
   ·show visit mask (hs.toList.getD n 0) k' ∈ live.map (·.1)
    rw [List.getD_eq_getElem?_getD,a]
    have:=c k' hk'
    obtain ⟨n',en⟩:=Option.isSome_iff_exists.mp this
    exact List.mem_map.mpr ⟨(_,n'),(hl _ n').mpr ⟨(qCE _ k').1,en⟩,rfl⟩
end Mine.Internal
end
section
open PySem PySem.W PyProof.Rows
namespace Mine.Internal
open SetTable
theorem qHo {t:SetTable}{hs:List Int} (T:TI t hs) (hashAt:Nat→Int) (h:Int) {k0:Nat} (he:visit t.mask h k0 ∉ t.place.toList) (hb:∀ k' < k0,visit t.mask h k' ∈ t.place.toList) :
  ∀ (fuel k:Nat),k ≤ k0→k0 - k < fuel →
  (probe.go t hashAt h fuel (iterP t.mask (qAd t.mask h) k)=some (.empty (visit t.mask h k0) none)∧∀ k',k ≤ k'→k' < k0→∀ i,t.place[i]?=some (visit t.mask h k')→hashAt i ≠ h) ∨
  ∃ k1 i,k ≤ k1∧k1 < k0∧t.place[i]?=some (visit t.mask h k1)∧hashAt i=h∧probe.go t hashAt h fuel (iterP t.mask (qAd t.mask h) k)=some (.candidate (visit t.mask h k1) i (iterP t.mask (qAd t.mask h) (k1 + 1))) ∧
   ∀ k',k ≤ k'→k' < k1→∀ i,t.place[i]?=some (visit t.mask h k')→hashAt i ≠ h
 | 0,k,_,hf=>absurd hf (Nat.not_lt_zero _)
 | fuel + 1,k,hk,hf=>by
  unfold probe.go
  rcases T.slot_cases (visit t.mask h k) with ⟨hn,es⟩ | ⟨i,hi,es⟩
  ·have:k=k0:=by
    apply Decidable.byContradiction
    intro z
    exact hn (hb k (by lia))
   subst this
   refine .inl ⟨?_,fun k' h1 h2=>by lia⟩
   rw [show (iterP t.mask (qAd t.mask h) k).j=visit t.mask h k from rfl,es]
   show some (Met.empty (visit t.mask h k) (iterP t.mask (qAd t.mask h) k).dummy)=_
   rw [(qCE h k).2.2]
  ·have hk':k < k0:=by
    rcases Nat.lt_or_eq_of_le hk with q | q
    ·exact q
    ·refine absurd ?_ he
     rw [← q]
     exact List.mem_of_getElem? (by rw [Array.getElem?_toList]; exact hi)
   rw [show (iterP t.mask (qAd t.mask h) k).j=visit t.mask h k from rfl,es]
   dsimp only
   have pl:∀ i',t.place[i']?=some (visit t.mask h k)→i'=i:=fun i' e=>by rw [← qD7 T.rise e,qD7 T.rise hi]
   by_cases q:hashAt i=h
   ·refine .inr ⟨k,i,Nat.le_refl _,hk',hi,q,?_,fun k' h1 h2=>by lia⟩
    rw [if_pos (beq_iff_eq.mpr q)]
    rfl
   ·rw [if_neg (fun z=>q (beq_iff_eq.mp z))]
    have:=qHo T hashAt h he hb fuel (k + 1) hk' (qEQ hf (Nat.le_refl _) hk')
    rw [show t.advance (iterP t.mask (qAd t.mask h) k)=iterP t.mask (qAd t.mask h) (k + 1) from rfl]
    have ext:∀ k',k ≤ k'→(k + 1 ≤ k'→∀ i,t.place[i]?=some (visit t.mask h k')→hashAt i ≠ h)→∀ i,t.place[i]?=some (visit t.mask h k')→hashAt i ≠ h:=fun k' h1 h2 i' e=>by
     rcases Nat.lt_or_eq_of_le h1 with z | z
     ·exact h2 z i' e
     ·subst z; rw [pl i' e]; exact q
    rcases this with ⟨a,b⟩ | ⟨k1,i1,a,b,c,d,e,f⟩
    ·exact .inl ⟨a,fun k' h1 h2=>ext k' h1 fun z=>b k' z h2⟩
    ·exact .inr ⟨k1,i1,by lia,b,c,d,e,fun k' h1 h2=>ext k' h1 fun z=>f k' z h2⟩
theorem qIS {t:SetTable}{hs:List Int} (T:TI t hs) (hashAt:Nat→Int) (h:Int) {k0:Nat} (hk0:k0 < 10 * turns t.mask) (he:visit t.mask h k0 ∉ t.place.toList) (hb:∀ k' < k0,visit t.mask h k' ∈ t.place.toList) {k:Nat} (hk:k ≤ k0) :
  (t.probe hashAt h (iterP t.mask (qAd t.mask h) k)=some (.empty (visit t.mask h k0) none)∧∀ k',k ≤ k'→k' < k0→∀ i,t.place[i]?=some (visit t.mask h k')→hashAt i ≠ h) ∨
  ∃ k1 i,k ≤ k1∧k1 < k0∧t.place[i]?=some (visit t.mask h k1)∧hashAt i=h∧t.probe hashAt h (iterP t.mask (qAd t.mask h) k)=some (.candidate (visit t.mask h k1) i (iterP t.mask (qAd t.mask h) (k1 + 1))) ∧
   ∀ k',k ≤ k'→k' < k1→∀ i,t.place[i]?=some (visit t.mask h k')→hashAt i ≠ h :=
 qHo T hashAt h he hb _ k hk (by lia)
theorem TI.more {t hs} (T:TI t hs) {h:Int}{k j:Nat} (hk:visit t.mask h k=j) (hj:j ∉ t.place.toList) (hb:∀ k' < k,visit t.mask h k' ∈ t.place.toList) (hsz:(t.mask=7∧hs.length < 4)∨(t.mask=31∧hs.length < 6)) :
  TI (t.put j).1 (hs.take (t.put j).2 ++ h :: hs.drop (t.put j).2)∧(t.put j).1.tooFull=false:=by
 obtain ⟨a,b,c,_,_,d,e,f⟩:=T.put hk hj hb (hsz.elim (fun z=>.inl ⟨z.1,by lia⟩) fun z=>.inr z)
 have hlen:(hs.take (t.put j).2 ++ h :: hs.drop (t.put j).2).length=hs.length + 1:=by
  rw [List.length_append,List.length_cons,List.length_take,List.length_drop]; exact qDT _ _
 have hp:(t.put j).1.place.size=hs.length + 1:=by
  rw [← Array.length_toList,b,List.length_append,List.length_cons,List.length_take,List.length_drop,Array.length_toList,T.sz]; exact qDT _ _
 refine ⟨⟨by rw [hp,hlen],a,?_,d,by rw [c]; exact e,by rw [c]; exact f⟩,?_⟩
 ·rw [c,hlen]; rcases hsz with z | z
  ·exact .inl ⟨z.1,by lia⟩
  ·exact .inr ⟨z.1,by lia⟩
 ·unfold tooFull SetTable.fill
  rw [hp,a,c]
  simp
  rcases hsz with z | z <;> lia
theorem TI.grow {t hs} (T:TI t hs) {h:Int}{k j:Nat} (hk:visit t.mask h k=j) (hj:j ∉ t.place.toList) (hb:∀ k' < k,visit t.mask h k' ∈ t.place.toList) (hsz:t.mask=7∧hs.length=4) :
  (t.put j).1.tooFull=true∧sizeAbove (grown 5)=32:=by
 revert T hk hj hb hsz
 revert t hs h k j
 intros t hs h k j
 intro T hk hj hb hsz
 obtain ⟨a,b,c,_,_,d,e,f⟩:=T.put hk hj hb (.inl ⟨hsz.1,by lia⟩)
 have hp:(t.put j).1.place.size=hs.length + 1:=by
  rw [← Array.length_toList,b,List.length_append,List.length_cons,List.length_take,List.length_drop,Array.length_toList,T.sz]; exact qDT _ _
 refine ⟨?_,by decide +kernel⟩
 unfold tooFull SetTable.fill
 rw [hp,a,c]
 simp; lia
end Mine.Internal
end
section
open PySem PySem.W PySem.Calls PyProof.Rows
namespace Mine.Internal
theorem qEq {prog:Program}{w:World}{A:Around}{E:Value→Shared→Prop}{s:Shared}{i:Int}{t:Tok}{x:Str}{u:Tok}{Q:Bool→Shared→Prop} (h:Q false s):wpAny (model prog w) A (eqBool (.int i t) (.str x u)) Q E s:=by
 unfold eqBool
 refine wpAny_holding ?_
 show wpAny _ _ (if (Value.int i t == Value.str x u)=true then _ else _) Q E s
 rw [if_neg (by rw [show (Value.int i t == Value.str x u)=false from rfl]; exact Bool.false_ne_true)]
 exact wpAny_bind (show wpAny (model prog w) A (richCompare .Eq (.int i t) (.str x u)) _ E s from PySem.EqMixed.eq_int_str (wpAny_truthy_bool h))
theorem qEp {prog:Program}{w:World}{A:Around}{E:Value→Shared→Prop}{s:Shared}{i:Int}{t:Tok}{x:Str}{u:Tok}{Q:Bool→Shared→Prop} (h:Q false s):wpAny (model prog w) A (eqBool (.str x u) (.int i t)) Q E s:=by
 unfold eqBool
 refine wpAny_holding ?_
 show wpAny _ _ (if (Value.str x u == Value.int i t)=true then _ else _) Q E s
 rw [if_neg (by rw [show (Value.str x u == Value.int i t)=false from rfl]; exact Bool.false_ne_true)]
 exact wpAny_bind (show wpAny (model prog w) A (richCompare .Eq (.str x u) (.int i t)) _ E s from PySem.EqMixed.eq_str_int (wpAny_truthy_bool h))
noncomputable def qNS:Int ⊕ Str→Value→Bool
 | .inl i=>Value.isInt i
 | .inr x=>Value.isStrOf x
set_option tactic.hygienic true in
set_option hygiene true in
noncomputable def qHN (prog:Program) (w:World):PySem.KeyKind prog w (Int ⊕ Str) where
 is:=qNS
 hash:=fun | .inl i=>hashInt i | .inr x=>hashStr w x
 inj:=fun v a b ha hb=>by
  cases a <;> cases b
  ·exact congrArg Sum.inl (Value.isInt_inj _ _ _ ha hb)
  ·obtain ⟨_,rfl⟩:=Value.isInt_shape ha; cases hb
  ·obtain ⟨_,rfl⟩:=Value.isInt_shape hb; cases ha
  ·exact congrArg Sum.inr (Value.isStrOf_inj _ _ _ ha hb)
 byValue:=fun k v h=>by
  cases k
  ·obtain ⟨t,rfl⟩:=Value.isInt_shape h; rfl
  ·obtain ⟨t,rfl⟩:=Value.isStrOf_shape h; rfl
 pyHash:=fun {A E s k v Q} hv h=>by
  cases k
  ·obtain ⟨t,rfl⟩:=Value.isInt_shape hv; exact wpAny_pyHash_int h
  ·obtain ⟨t,rfl⟩:=Value.isStrOf_shape hv; exact wpAny_pyHash_str h
 eqBool:=fun {A E s a b u v Q} hu hv h=>by
  cases a <;> cases b
  ·obtain ⟨t,rfl⟩:=Value.isInt_shape hu
   obtain ⟨t',rfl⟩:=Value.isInt_shape hv
   refine wpAny_eqBool_int ?_
   rename_i a b
   rw [show (a == b)=decide (Sum.inl a=(Sum.inl b:Int ⊕ Str)) by by_cases q:a=b <;> simp [q]]
   exact h
  ·obtain ⟨t,rfl⟩:=Value.isInt_shape hu
   obtain ⟨t',rfl⟩:=Value.isStrOf_shape hv
   exact qEq (by simpa using h)
  ·obtain ⟨t,rfl⟩:=Value.isStrOf_shape hu
   obtain ⟨t',rfl⟩:=Value.isInt_shape hv
   exact qEp (by simpa using h)
  ·obtain ⟨t,rfl⟩:=Value.isStrOf_shape hu
   obtain ⟨t',rfl⟩:=Value.isStrOf_shape hv
   refine wpAny_eqBool_str ?_
   simpa using h
 «strs»:=fun k x t v h=>by
  cases k
  ·cases h
  ·rename_i y
   have h:Value.isStrOf y (.str x t)=true:=h
   have hx:x=y:=by simpa [Value.isStrOf] using h
   subst hx
   cases v <;> rfl
noncomputable def qHH (X:CX) (v:AV):List (Int ⊕ Str):=match lit3 v with
 | some q=>[Sum.inl q.1,Sum.inr ((X.names[q.2.1]?).getD default),Sum.inl q.2.2]
 | none=>[]
section
variable {A:Around}{ψ φ:List Addr}{s:Shared}{E:Value→Shared→Prop}
theorem qFj {h:Heap}{v:Value}{q:Int × Nat × Int} (r:VR X ψ φ h v (litV q)):∃ a,v=.ref a∧IsTupleKey (qHN prog w) h (qHH X (litV q)) a:=by
 revert r
 revert ψ φ h v q
 intros ψ φ h v q
 intro r
 (injection (qEH r) with a n t u x; intro H_; injection H_ with t2; clear H_; rintro ⟨rfl,e,ex⟩)
 refine ⟨a,rfl,_,_,_,e,rfl,rfl,?_⟩
 show ItemsAre (qHN prog w) [Sum.inl q.1,Sum.inr ((X.names[q.2.1]?).getD default),Sum.inl q.2.2] [.int q.1 t,.str x t2,.int q.2.2 u]
 rw [ex]
 exact .cons (beq_self_eq_true q.1) (.cons (beq_self_eq_true x) (.cons (beq_self_eq_true q.2.2) .nil))
end
end Mine.Internal
end
section
open PySem PySem.W PySem.Calls PyProof.Rows
namespace Mine.Internal
section
variable {A:Around}{s:Shared}{E:Value→Shared→Prop}
theorem qEn (n:Nat) {v:Value} (h:carriedByValue v=true):ofAClassStatement n v=pure false:=by
 cases v with
 | ref a=>simp [carriedByValue] at h
 | _=>cases n <;> rfl
theorem qCO {K:Type} [DecidableEq K] {knd:PySem.KeyKind prog w K}{ks:List K}{a:Addr}{Q:Bool→Shared→Prop} (hk:IsTupleKey knd s.heap ks a) (h:Q false s):wpAny (model prog w) A (ofAClassStatement 8 (.ref a)) Q E s:=by
 have hT:=hk.typeIs
 obtain ⟨o,items,n,ho,_,hd,hi⟩:=hk
 unfold ofAClassStatement
 refine wpAny_bind (wpAny_typeOf hT ?_)
 dsimp only
 rw [if_pos (show ("tuple" == "tuple")=true from rfl)]
 refine wpAny_bind (wpAny_pure ?_)
 simp only [Bool.not_true,Bool.false_eq_true,if_false]
 refine wpAny_bind (wpAny_seqItems ho hd ?_)
 dsimp only
 refine wpAny_bind ?_
 rw [← Array.forIn_toList]
 refine wpAny_forIn_list _ (fun rest r s'=>r.1=none∧s'=s∧∀ v ∈ rest,carriedByValue v=true) _ ?_ ?_ _ _ ⟨rfl,rfl,hi.byValue⟩
 ·rintro v rest r s' ⟨hr,rfl,hall⟩
  rw [qEn _ (hall v List.mem_cons_self)]
  refine wpAny_bind (wpAny_pure ?_)
  simp only [Bool.false_eq_true,if_false]
  exact wpAny_pure ⟨rfl,rfl,fun u hu'=>hall u (List.mem_cons_of_mem _ hu')⟩
 ·rintro ⟨r1,r2⟩ s' ⟨hr,rfl,_⟩
  simp only at hr
  subst hr
  exact wpAny_pure h
theorem qD3 {K:Type} [DecidableEq K] {knd:PySem.KeyKind prog w K}{ks:List K}{a:Addr}{L:List Value}{Q:Bool→Shared→Prop} (hk:IsTupleKey knd s.heap ks a) (hL:∀ y ∈ L,∃ ks' b,y=.ref b∧IsTupleKey knd s.heap ks' b) (h:Q false s) :
  wpAny (model prog w) A (searchCouldBeSeen (.ref a) L) Q E s:=by
 unfold searchCouldBeSeen
 refine wpAny_bind ?_
 refine wpAny_forIn_list _ (fun rest r s'=>r.1=none∧s'=s∧∀ y ∈ rest,y ∈ L) _ ?_ ?_ _ _ ⟨rfl,rfl,fun _ h=>h⟩
 ·rintro y rest r s' ⟨hr,rfl,hall⟩
  obtain ⟨ks',b,rfl,hk'⟩:=hL y (hall y (.head _))
  have tl:∀ y ∈ rest,y ∈ L:=fun y hy=>hall y (.tail _ hy)
  dsimp only
  by_cases q:a=b
  ·subst q
   rw [if_pos (by simp)]
   exact wpAny_pure ⟨rfl,rfl,tl⟩
  ·rw [if_neg (by simp [q,carriedByValue])]
   refine wpAny_bind (wpAny_eqIsQuiet_tuple hk ?_)
   simp only [Bool.not_true,Bool.false_eq_true,if_false]
   refine wpAny_bind (wpAny_eqIsQuiet_tuple hk' ?_)
   simp only [Bool.not_true,Bool.false_eq_true,if_false]
   refine wpAny_bind (qCO hk ?_)
   simp only [Bool.false_eq_true,if_false]
   refine wpAny_bind (qCO hk' ?_)
   simp only [Bool.false_eq_true,if_false]
   exact wpAny_pure ⟨rfl,rfl,tl⟩
 ·rintro ⟨r1,r2⟩ s' ⟨hr,rfl,_⟩
  simp only at hr
  subst hr
  exact wpAny_pure h
end
end Mine.Internal
end
section
open PySem PySem.W PySem.Calls PyProof.Rows
namespace Mine.Internal
open SetTable
noncomputable def hashL (X:CX) (prog:Program) (w:World) (b:AV):Int:=tupleKeyHash (qHN prog w) (qHH X b)
structure LitSet (X:CX) (prog:Program) (w:World) (ψ φ:List Addr) (h:Heap) (S:Addr) (es:Array (Int × Value)) (ep:Nat) (t:SetTable) (l:List AV):Prop where
 at_:∃ o,h.get? S=some o∧o.ExactSet∧o.data=.set es ep t
 tab:TI t (es.toList.map (·.1))
 led:X.byText=true∨t.led=true
 len:l.length=es.size
 item:∀ (i:Nat) (e:Int × Value),es[i]?=some e→∃ b,l[i]?=some b∧isK2 b=true∧VR X ψ φ h e.2 b∧e.1=hashL X prog w b
section
variable {A:Around}{ψ φ:List Addr}{s:Shared}{E:Value→Shared→Prop}
theorem qIM (G:GW X base) (R:A.units + 64 < cLine) {S:Addr}{es:Array (Int × Value)}{ep:Nat}{t:SetTable}{l:List AV} (L:LitSet X prog w ψ φ s.heap S es ep t l) {x:Value}{b:AV} (hb:isK2 b=true) (rx:VR X ψ φ s.heap x b)
  {k0:Nat} (hk0:k0 < 10 * turns t.mask) (he:visit t.mask (hashL X prog w b) k0 ∉ t.place.toList) (hbf:∀ k' < k0,visit t.mask (hashL X prog w b) k' ∈ t.place.toList) {Q:SetFound→Shared→Prop} :
  ∀ (fuel k:Nat) (stand:Option Probe),stand.getD (t.probeStart (hashL X prog w b))=iterP t.mask (qAd t.mask (hashL X prog w b)) k→k ≤ k0→k0 - k < fuel →
   (∀ k' < k,∀ i:Nat,t.place[i]?=some (visit t.mask (hashL X prog w b) k')→l[i]? ≠ some b) →
   (b ∈ l→Q (.there none) s)→(b ∉ l→Q (.free (visit t.mask (hashL X prog w b) k0) false) s) →
   wpAny (model prog w) A (setSearchFrom S x (hashL X prog w b) true fuel stand) Q E s:=by
 revert G R L hb rx hk0 he hbf
 revert A ψ φ s E S es ep t l x b k0 Q
 intros A ψ φ s E S es ep t l x b k0 Q
 intro G R L hb rx hk0 he hbf
 intros fuel
 induction fuel with
 | zero=>exact fun _ _ _ _ hf=>absurd hf (Nat.not_lt_zero _)
 | succ fuel ih =>
  revert ih; revert fuel; intros fuel; intro ih
  (intros k stand; intro hst hk hf hpast hin hout)
  (injection (L.at_) with o; rintro ⟨ho,hex,hd⟩)
  have hfit:t.fits es.size=true:=L.tab.fits (by simp)
  show wpAny _ _ (setState S >>= _) _ _ _
  refine wpAny_bind (wpAny_setState_of ho hd hfit ?_)
  dsimp only
  have hg:t.gaveWay=false:=by
   unfold SetTable.gaveWay
   rcases L.tab.mask with q | q <;> rw [q] <;> rfl
  rw [hg]
  simp only [Bool.false_eq_true,if_false]
  rw [hst]
  have yet:∀ i:Nat,l[i]?=some b→∃ k1,k ≤ k1∧k1 < k0∧t.place[i]?=some (visit t.mask (hashL X prog w b) k1)∧∃ e,es[i]?=some e∧e.1=hashL X prog w b:=fun i hi=>by
   have hlt:i < es.size:=by rw [← L.len]; exact (List.getElem?_eq_some_iff.mp hi).1
   obtain ⟨b',h1,h2,h3,h4⟩:=L.item i es[i] (Array.getElem?_eq_getElem hlt)
   rw [hi] at h1; cases h1
   obtain ⟨k1,j,m1,m2,m3⟩:=L.tab.meets (i:=i) (h:=hashL X prog w b) (by
    rw [List.getElem?_map,Array.getElem?_toList,Array.getElem?_eq_getElem hlt,← h4]; rfl)
   have h01:k1 < k0:=by
    apply Decidable.byContradiction
    intro z
    exact he (m3 k0 (by lia))
   refine ⟨k1,?_,h01,by rw [m2]; exact m1,_,Array.getElem?_eq_getElem hlt,h4⟩
   apply Decidable.byContradiction
   intro z
   exact hpast k1 (by lia) i (by rw [m2]; exact m1) hi
  have hsp:=fun hashAt=>qIS L.tab hashAt (hashL X prog w b) hk0 he hbf hk
  rcases hsp _ with ⟨ep',hno⟩ | ⟨k1,i,h1,h2,h3,h4,ep',hno⟩
  ·rw [ep']
   dsimp only
   refine wpAny_pure (hout fun hm=>?_)
   (injection (List.getElem?_of_mem hm) with i; intro hi)
   (injection (yet i hi) with k1; rintro ⟨a1,a2,a3,H_⟩; injection H_ with e; clear H_; rintro ⟨a4,a5⟩)
   refine hno k1 a1 a2 i a3 ?_
   show ((es[i]?.map (·.1)).getD 0)=_
   rw [a4]; exact a5
  ·revert h1 h2 h3 h4 ep' hno; revert k1 i; intros k1 i; intro h1 h2 h3 h4 ep' hno
   rw [ep']
   dsimp only
   have h4:((es[i]?.map (·.1)).getD 0)=hashL X prog w b:=h4
   have hi:i < es.size:=by
    have:=L.tab.sz
    rw [List.length_map,Array.length_toList] at this
    rw [← this]
    exact (Array.getElem?_eq_some_iff.mp h3).1
   (injection (L.item i es[i] (Array.getElem?_eq_getElem hi)) with b'; rintro ⟨g1,g2,g3,g4⟩)
   (injection (qC4 hb) with qb; rintro ⟨rfl,_⟩)
   (injection (qC4 g2) with qb'; rintro ⟨rfl,_⟩)
   (injection (qFj rx) with ax; rintro ⟨rfl,kx⟩)
   have rest:wpAny (model prog w) A (do
     let some (_,y):=es[i]? | unsupported "internal:set-entry"
     let equal ← holding [y] (eqBool y (.ref ax))
     let (es',_,t') ← setState S
     if true && equal then return .there none
     let some same:=t'.sameMemory t.moves t.mask | unsupported "set.changed-during-lookup:is-the-new-block-at-the-old-address"
     let still ← match (if same then t'.slot (visit t.mask (hashL X prog w (litV qb)) k1) else .empty) with
      | .live i'=>match es'[i']? with
       | some (_,y')=>do pure (if ← isSame y' y then some i' else none)
       | none=>pure none
      | _=>pure none
     match still with
     | none=>rule "set.search.anew"; setSearchFrom S (.ref ax) (hashL X prog w (litV qb)) true fuel none
     | some i'=>if equal then return .there (some i') else setSearchFrom S (.ref ax) (hashL X prog w (litV qb)) true fuel (some (iterP t.mask (qAd t.mask (hashL X prog w (litV qb))) (k1 + 1)))) Q E s:=by
    rw [Array.getElem?_eq_getElem hi]
    dsimp only
    generalize hes:es[i]=ev at g3 g4
    obtain ⟨hv,y⟩:=ev
    dsimp only at g3 g4 ⊢
    refine wpAny_bind (wpAny_holding (qAP G R g3 rx rfl rfl ?_))
    refine wpAny_bind (wpAny_setState_of ho hd hfit ?_)
    dsimp only
    by_cases q:litV qb'=litV qb
    ·rw [q,(AV.beq_iff _ _).mpr rfl]
     simp only [Bool.and_self,if_true]
     exact wpAny_pure (hin (List.mem_of_getElem? (q ▸ g1)))
    ·have qf:AV.beq (litV qb') (litV qb)=false:=by
      cases z:AV.beq (litV qb') (litV qb) with
      | false=>rfl
      | true=>exact absurd ((AV.beq_iff _ _).mp z) q
     rw [qf]
     simp only [Bool.and_false,Bool.false_eq_true,if_false]
     have hsm:t.sameMemory t.moves t.mask=some true:=by unfold sameMemory; simp
     rw [hsm]
     dsimp only
     rw [if_pos rfl,L.tab.slot_live h3]
     dsimp only
     rw [Array.getElem?_eq_getElem hi,hes]
     dsimp only
     obtain ⟨ay,ny,ty,uy,xy,t2y,rfl,ey,exy⟩:=qEH g3
     refine wpAny_bind (wpAny_isSame_ref_self (wpAny_bind (wpAny_pure ?_)))
     simp only [if_true]
     refine ih (k1 + 1) _ rfl h2 (qEQ hf h1 h2) (?_) hin hout
     intros k'; intro hk'; intros i'; intro hi' hl
     by_cases z:k' < k
     ·exact hpast k' z i' hi' hl
     ·(injection (yet i' hl) with k2; rintro ⟨a1,a2,a3,H_⟩; injection H_ with e; clear H_; rintro ⟨a4,a5⟩)
      by_cases z':k' < k1
      ·refine hno k' (by lia) z' i' hi' ?_
       show ((es[i']?.map (·.1)).getD 0)=_
       rw [a4]; exact a5
      ·have:k'=k1:=by lia
       subst this
       have:i'=i:=by rw [← qD7 L.tab.rise hi',qD7 L.tab.rise h3]
       subst this
       rw [g1] at hl
       exact q (Option.some.inj hl)
   split
   ·refine wpAny_bind (qD3 kx (?_) ?_)
    ·intros y; intro hy
     (injection (List.mem_map.mp hy) with e; rintro ⟨he',rfl⟩)
     have hem:=(Array.mem_filter.mp (Array.mem_toList_iff.mp he')).1
     (injection (Array.getElem_of_mem hem) with z; rintro ⟨hz,ez⟩)
     (injection (L.item z e (by rw [Array.getElem?_eq_getElem hz,ez])) with b''; rintro ⟨f1,f2,f3,f4⟩)
     (injection (qC4 f2) with ζ_1; rintro ⟨rfl,_⟩)
     obtain ⟨ad,r1,r2⟩:=qFj f3
     exact ⟨_,ad,r1,r2⟩
    ·simp only [Bool.false_eq_true,if_false]
     exact rest
   ·exact rest
end
end Mine.Internal
end
section
open PySem PySem.W PySem.Calls PyProof.Rows
namespace Mine.Internal
open SetTable
theorem qJy {es:List (Int × Value)}{l:List AV}{P:Int × Value→AV→Prop} (hl:l.length=es.length) (h:∀ p ∈ es.zip l,P p.1 p.2) (i:Nat) (e:Int × Value) (hi:es[i]?=some e):∃ b,l[i]?=some b∧P e b:=by
 have hlt:i < l.length:=by rw [hl]; exact (List.getElem?_eq_some_iff.mp hi).1
 refine ⟨l[i],List.getElem?_eq_getElem hlt,h (e,l[i]) ?_⟩
 exact List.mem_of_getElem? (i:=i) (List.getElem?_zip_eq_some.mpr ⟨hi,List.getElem?_eq_getElem hlt⟩)
theorem qJ0 {es:List (Int × Value)}{l:List AV}{P:Int × Value→AV→Prop} (h:∀ (i:Nat) (e:Int × Value),es[i]?=some e→∃ b,l[i]?=some b∧P e b):∀ p ∈ es.zip l,P p.1 p.2:=fun p hp=>by
 obtain ⟨i,hi⟩:=List.getElem?_of_mem hp
 obtain ⟨h1,h2⟩:=List.getElem?_zip_eq_some.mp hi
 obtain ⟨b,h3,h4⟩:=h i _ h1
 rw [h2] at h3; cases h3
 exact h4
theorem qM7 {β:Type}{f:Nat→Option β}{g:Nat→β}:∀ {l:List Nat},(∀ i ∈ l,f i=some (g i))→l.filterMap f=l.map g
 | [],_=>rfl
 | i :: l,h=>by
  rw [List.filterMap_cons,h i (.head _),List.map_cons]
  exact congrArg _ (qM7 fun j hj=>h j (.tail _ hj))
section
variable {A:Around}{ψ φ:List Addr}{s:Shared}{E:Value→Shared→Prop}
theorem qEN {v:Value}{q:Int × Nat × Int} (r:VR X ψ φ s.heap v (litV q)) {Q:Bool→Shared→Prop} (h:Q false s):wpAny (model prog w) A (hashByValue 8 v) Q E s:=by
 revert r h
 revert A ψ φ s E v q Q
 intros A ψ φ s E v q Q
 intro r h
 (injection (qEH r) with a n t u x; intro H_; injection H_ with t2; clear H_; rintro ⟨rfl,e,ex⟩)
 have hT:s.TypeIs (.ref a) "tuple":=⟨_,e,rfl⟩
 unfold hashByValue
 refine wpAny_bind (wpAny_specialOf hT F.slot_tuple_hash.lookup ?_)
 show wpAny _ _ (seqItems? (.ref a) >>= _) _ _ s
 refine wpAny_bind (wpAny_seqItems e rfl ?_)
 dsimp only
 refine wpAny_bind ?_
 rw [← Array.forIn_toList]
 simp only [Option.getD_some,List.forIn_cons,List.forIn_nil]
 have e1:hashByValue 7 (.int q.1 t)=pure true:=rfl
 have e2:hashByValue 7 (.str x t2)=pure false:=rfl
 rw [e1,e2]
 refine wpAny_bind (wpAny_bind (wpAny_pure ?_))
 simp only [Bool.not_true,Bool.false_eq_true,if_false]
 refine wpAny_pure ?_
 dsimp only
 refine wpAny_bind (wpAny_bind (wpAny_pure ?_))
 simp only [Bool.not_false,if_true]
 exact wpAny_pure (wpAny_pure (wpAny_pure h))
theorem TI.plainOff {t:SetTable}{hs:List Int} (T:TI t hs):TI { t with plain:=false } hs:=⟨T.sz,T.dm,T.mkk,T.rise,T.le,T.reach⟩
theorem qJO {S:Addr}{es:Array (Int × Value)}{ep:Nat}{t:SetTable}{l:List AV} (hsz:l.length=es.size) (hz:es.size=5)
  (ho:∃ o,s.heap.get? S=some o∧o.ExactSet∧o.data=.set es ep t) (hled:X.byText=true∨t.led=true) (hf:t.fits es.size=true)
  (item:∀ (i:Nat) (e:Int × Value),es[i]?=some e→∃ b,l[i]?=some b∧isK2 b=true∧VR X ψ φ s.heap e.2 b∧e.1=hashL X prog w b) (hS:S ∈ ψ) {Q:Unit→Shared→Prop}
  (h:∀ h' es' t' l',Heap.SameBut S s.heap h'→LitSet X prog w ψ φ h' S es' (ep + 1) t' l'→t'.plain=t.plain→l'.Perm l→Q () { s with heap:=h' }) :
  wpAny (model prog w) A (setRelay S (grown 5)) Q E s:=by
 revert hsz hz ho hled hf item hS h
 revert A ψ φ s E S es ep t l Q
 intros A ψ φ s E S es ep t l Q
 intro hsz hz ho hled hf item hS h
 (injection (ho) with o; rintro ⟨ho,hex,hd⟩)
 unfold setRelay
 refine wpAny_bind (wpAny_setState_of ho hd hf ?_)
 dsimp only
 have hsa:sizeAbove (grown 5)=32:=by decide +kernel
 rw [hsa,if_neg (by rw [sizeLine_eq]; decide)]
 unfold relaid
 rw [hsa]
 (injection (qJv (mask:=31) (.inr rfl) t.finger (t.movedTo (32 - 1)) t.led t.plain (es.map (·.1)) (.inr ⟨rfl,by rw [Array.size_map]; lia⟩)) with t' order; rintro ⟨el,hm,hl,hp,hpm,T⟩)
 rw [Array.size_map] at hpm
 have lt:∀ i ∈ order.toList,i < es.size:=fun i hi=>List.mem_range.mp (hpm.mem_iff.mp hi)
 have fm:order.toList.filterMap (es[·]?)=order.toList.map fun i=>es.getD i default:=qM7 fun i hi=>by
   have:=lt i hi
   simp [Array.getD,this]
 have e1:(order.filterMap (es[·]?)).toList=order.toList.map fun i=>es.getD i default:=by rw [Array.toList_filterMap,fm]
 have e2:(order.filterMap (es[·]?)).size=es.size:=by
  rw [← Array.length_toList,e1,List.length_map]
  have:=hpm.length_eq
  rwa [List.length_range] at this
 have kk:∀ {R:(Array (Int × Value) × SetTable)→Shared→Prop},R (order.filterMap (es[·]?),t') s→wpAny (model prog w) A (do
   let some (t,order):=laid (32 - 1) t.finger (t.movedTo (32 - 1)) t.led t.plain (es.map (·.1)) | unsupported "internal:set-table-without-room"
   let es':=order.filterMap (es[·]?)
   if es'.size != es.size then unsupported "internal:set-table-lost-an-element"
   pure (es',t)) R E s:=fun {R} hr=>by
  rw [el]
  dsimp only
  rw [if_neg (by rw [e2]; simp)]
  exact wpAny_bind (wpAny_pure (wpAny_pure hr))
 refine wpAny_bind (kk ?_)
 dsimp only
 refine wpAny_storeSet_of ho hd ?_ (by rw [e2,sizeLine_eq,hz]; decide)
 have sb:=Heap.SameBut.update s.heap S (Obj.putSet (order.filterMap (es[·]?)) t')
 have mv:∀ {v:Value}{b:AV},VR X ψ φ s.heap v b→VR X ψ φ (s.heap.update S (Obj.putSet (order.filterMap (es[·]?)) t')) v b:=fun r =>
  VR.move (fun _ _ e=>e) (fun b o e n m=>⟨(sb.2 b (fun z=>m (z ▸ hS))).trans e,n,m⟩) r
 have lm:l.length=es.size:=hsz
 refine h _ _ t' (order.toList.map fun i=>l.getD i .none) sb ⟨⟨{ o with data:=.set (order.filterMap (es[·]?)) (ep + 1) t' },?_,hex,rfl⟩,?_,hled.imp id fun q=>hl.trans q,?_,?_⟩ hp ?_
 ·rw [← putSet_of _ _ hd]; exact Heap.get?_update_self _ ho (by rw [putSet_of _ _ hd]; rfl)
 ·rw [e1,List.map_map]
  have:(order.toList.map fun n=>(es.map (·.1)).toList.getD n 0)=order.toList.map ((·.1) ∘ fun i=>es.getD i default):=by
   refine List.map_congr_left ?_
   intros i; intro hi
   have:=lt i hi
   simp [Array.getD,List.getD,this]
  rw [← this]; exact T
 ·rw [List.length_map,e2]
  have:=hpm.length_eq
  rwa [List.length_range] at this
 ·(intros i e; intro hi)
  rw [← Array.getElem?_toList,e1,List.getElem?_map] at hi
  (injection (Option.map_eq_some_iff.mp hi) with j; rintro ⟨hj,rfl⟩)
  have hlt:=lt j (List.mem_of_getElem? hj)
  (injection (item j es[j] (Array.getElem?_eq_getElem hlt)) with b; rintro ⟨g1,g2,g3,g4⟩)
  have ge:es.getD j default=es[j]:=by simp [Array.getD,hlt]
  refine ⟨b,?_,g2,by rw [ge]; exact mv g3,by rw [ge]; exact g4⟩
  rw [List.getElem?_map,hj]
  show some (l.getD j .none)=_
  rw [List.getD_eq_getElem?_getD,g1]; rfl
 ·have:(order.toList.map fun i=>l.getD i .none).Perm ((List.range es.size).map fun i=>l.getD i .none):=hpm.map _
  refine this.trans (List.Perm.of_eq ?_)
  rw [← lm]
  refine List.ext_getElem (by simp) ?_
  intros i; intro h1 h2
  simp [List.getD,List.getElem?_eq_getElem h2]
end
end Mine.Internal
end
section
open PySem PySem.W PySem.Calls PyProof.Rows
namespace Mine.Internal
open SetTable
section
variable {A:Around}{ψ φ:List Addr}{s:Shared}{E:Value→Shared→Prop}
theorem qMt (G:GW X base) (R:A.units + 64 < cLine) {S:Addr}{es:Array (Int × Value)}{ep:Nat}{t:SetTable}{l:List AV} (L:LitSet X prog w ψ φ s.heap S es ep t l) (hl:l.length < 6) (hS:S ∈ ψ)
  {x:Value}{b:AV} (hb:isK2 b=true) (rx:VR X ψ φ s.heap x b) {Q:Bool→Shared→Prop} (hin:b ∈ l→Q false s)
  (hout:b ∉ l→∀ h' es' ep' t' l',Heap.SameBut S s.heap h'→LitSet X prog w ψ φ h' S es' ep' t' l'→t'.plain=false→l'.Perm (b :: l)→Q true { s with heap:=h' }) :
  wpAny (model prog w) A (setAddHashed S x (hashL X prog w b)) Q E s:=by
 revert G R L hl hS hb rx hin hout
 revert A ψ φ s E S es ep t l x b Q
 intros A ψ φ s E S es ep t l x b Q
 intro G R L hl hS hb rx hin hout
 have L0:=L
 obtain ⟨⟨o,ho,hex,hd⟩,T,hled,len,item⟩:=L
 revert ho hex hd; revert o; intros o; intro ho hex hd
 have hfit:t.fits es.size=true:=T.fits (by simp)
 (injection (T.ends (hashL X prog w b)) with k0; rintro ⟨hk0,he,hbf⟩)
 unfold setAddHashed
 refine wpAny_holding ?_
 unfold setAddHashedIn
 refine wpAny_bind (wpAny_setState_of ho hd hfit ?_)
 dsimp only
 have hbs:byScan x es=false:=by
  (injection (qC4 hb) with ζ_1; rintro ⟨rfl,_⟩)
  (injection (qFj rx) with a; rintro ⟨rfl,_⟩)
  rfl
 rw [hbs]
 simp only [Bool.false_eq_true,if_false]
 unfold setSearch
 refine wpAny_bind (qIM G R L0 hb rx hk0 he hbf 100000 0 none rfl (Nat.zero_le _) ?_ (fun k' hk'=>absurd hk' (Nat.not_lt_zero _)) ?_ ?_)
 ·have:turns t.mask ≤ 46:=by unfold turns; rcases T.mask with q | q <;> lia
  lia
 ·intro q
  exact wpAny_pure (hin q)
 ·intro q
  dsimp only
  refine wpAny_bind (wpAny_setState_of ho hd hfit ?_)
  dsimp only
  have hsm:es.size=l.length:=len.symm
  have hlen:(es.toList.map (·.1)).length=es.size:=by simp
  have hput:=T.put rfl he hbf (by rw [hlen]; rcases T.mkk with z | z <;> rw [hlen] at z <;> lia)
  have hpb:(t.put (visit t.mask (hashL X prog w b) k0)).2 ≤ es.size:=by
   have:=(qDc (j:=visit t.mask (hashL X prog w b) k0) T.rise).1
   rw [T.sz,hlen] at this
   exact this
  have hpl:(t.put (visit t.mask (hashL X prog w b) k0)).1.led=t.led:=rfl
  generalize hpq:t.put (visit t.mask (hashL X prog w b) k0)=pq at hput hpb hpl
  obtain ⟨t1,p⟩:=pq
  revert hpq hput hpb hpl; revert t1 p; intros t1 p; intro hpq hput hpb hpl
  dsimp only at hput hpb hpl ⊢
  have hled1:X.byText=true∨({ t1 with plain:=false }:SetTable).led=true:=hled.imp id fun q=>hpl.trans q
  have go:∀ t2:SetTable,t2={ t1 with plain:=false }→wpAny (model prog w) A (do
    storeSet S (insertAt es p (hashL X prog w b,x)) t2
    if !false && t2.tooFull then setRelay S (grown (es.size + 1))
    return true) Q E s:=by
   (intros t2; rintro rfl)
   have il:(insertAt es p (hashL X prog w b,x)).toList=es.toList.take p ++ (hashL X prog w b,x) :: es.toList.drop p:=qCz _ _ _
   have isz:(insertAt es p (hashL X prog w b,x)).size=es.size + 1:=by
    rw [← Array.length_toList,il,List.length_append,List.length_cons,List.length_take,List.length_drop,Array.length_toList,qDT]
   refine wpAny_bind (wpAny_storeSet_of ho hd ?_ (by rw [isz,sizeLine_eq]; lia))
   have sb:=Heap.SameBut.update s.heap S (Obj.putSet (insertAt es p (hashL X prog w b,x)) { t1 with plain:=false })
   have ho1:(s.heap.update S (Obj.putSet (insertAt es p (hashL X prog w b,x)) { t1 with plain:=false })).get? S=some { o with data:=.set (insertAt es p (hashL X prog w b,x)) (ep + 1) { t1 with plain:=false } }:=by
    rw [← putSet_of _ _ hd]; exact Heap.get?_update_self _ ho (by rw [putSet_of _ _ hd]; rfl)
   have mv:∀ {v:Value}{b':AV},VR X ψ φ s.heap v b'→VR X ψ φ (s.heap.update S (Obj.putSet (insertAt es p (hashL X prog w b,x)) { t1 with plain:=false })) v b':=fun r =>
    VR.move (fun _ _ e=>e) (fun b o e n m=>⟨(sb.2 b (fun z=>m (z ▸ hS))).trans e,n,m⟩) r
   have hl1:(l.take p ++ b :: l.drop p).length=es.size + 1:=by
    rw [List.length_append,List.length_cons,List.length_take,List.length_drop,qDT]; lia
   have pm:(l.take p ++ b :: l.drop p).Perm (b :: l):=by
    refine List.perm_middle.trans ?_
    rw [List.take_append_drop]
   have item1:∀ (i:Nat) (e:Int × Value),(insertAt es p (hashL X prog w b,x))[i]?=some e→∃ b',(l.take p ++ b :: l.drop p)[i]?=some b'∧isK2 b'=true∧VR X ψ φ (s.heap.update S (Obj.putSet (insertAt es p (hashL X prog w b,x)) { t1 with plain:=false })) e.2 b'∧e.1=hashL X prog w b':=by
    (intros i e; intro hi)
    rw [← Array.getElem?_toList,il] at hi
    have old:∀ pr ∈ es.toList.zip l,isK2 pr.2=true∧VR X ψ φ s.heap pr.1.2 pr.2∧pr.1.1=hashL X prog w pr.2 :=
     qJ0 (P:=fun e b=>isK2 b=true∧VR X ψ φ s.heap e.2 b∧e.1=hashL X prog w b) fun i e hi=>item i e (by rw [← Array.getElem?_toList]; exact hi)
    refine qJy (P:=fun e b'=>isK2 b'=true∧VR X ψ φ _ e.2 b'∧e.1=hashL X prog w b') (by rw [hl1,← il,Array.length_toList,isz]) (?_) i e hi
    intros pr; intro hpr
    have ht:(es.toList.take p).length=(l.take p).length:=by rw [List.length_take,List.length_take,Array.length_toList,hsm]
    rw [List.zip_append ht,List.zip_cons_cons] at hpr
    have hz:es.toList.zip l=(es.toList.take p).zip (l.take p) ++ (es.toList.drop p).zip (l.drop p):=by
     rw [← List.zip_append ht,List.take_append_drop,List.take_append_drop]
    rcases List.mem_append.mp hpr with z | z
    ·have:=old pr (by rw [hz]; exact List.mem_append_left _ z)
     exact ⟨this.1,mv this.2.1,this.2.2⟩
    ·rcases List.mem_cons.mp z with rfl | z
     ·exact ⟨hb,mv rx,rfl⟩
     ·have:=old pr (by rw [hz]; exact List.mem_append_right _ z)
      exact ⟨this.1,mv this.2.1,this.2.2⟩
   have hmp:((insertAt es p (hashL X prog w b,x)).toList.map (·.1))=(es.toList.map (·.1)).take p ++ hashL X prog w b :: (es.toList.map (·.1)).drop p:=by
    rw [il,List.map_append,List.map_cons,List.map_take,List.map_drop]
   by_cases q4:t.mask=7∧es.size=4
   ·have hg:=T.grow rfl he hbf ⟨q4.1,by rw [hlen]; exact q4.2⟩
    rw [hpq] at hg
    have htf:SetTable.tooFull { t1 with plain:=false }=true:=hg.1
    rw [htf,q4.2]
    simp only [Bool.not_false,Bool.and_self,if_true]
    have hfit1:SetTable.fits { t1 with plain:=false } (insertAt es p (hashL X prog w b,x)).size=true:=by
     unfold SetTable.fits SetTable.fill
     show (t1.place.size == _ && decide (t1.place.size + t1.dummies.size ≤ t1.mask))=true
     have:t1.place.size=es.size + 1:=by
      rw [← Array.length_toList,hput.2.1,List.length_append,List.length_cons,List.length_take,List.length_drop,Array.length_toList,T.sz,hlen,qDT]
     rw [this,isz,hput.1,hput.2.2.1,q4.1,q4.2]
     decide
    refine wpAny_bind (qJO (s:={ s with heap:=s.heap.update S (Obj.putSet (insertAt es p (hashL X prog w b,x)) { t1 with plain:=false }) }) (by rw [hl1,isz]) (by rw [isz,q4.2]) ⟨_,ho1,hex,rfl⟩ hled1 hfit1 item1 hS ?_)
    intros h' es' t' l'; intro sb' L' hp' pm'
    exact wpAny_pure (hout q h' es' _ t' l' (sb.trans sb') L' hp' (pm'.trans pm))
   ·have hm:=T.more rfl he hbf (by rw [hlen]; rcases T.mkk with z | z <;> rw [hlen] at z <;> lia)
    rw [hpq] at hm
    have htf:SetTable.tooFull { t1 with plain:=false }=false:=hm.2
    rw [htf]
    simp only [Bool.and_false,Bool.false_eq_true,if_false]
    refine wpAny_pure (hout q _ _ _ _ _ sb ⟨⟨_,ho1,hex,rfl⟩,?_,hled1,by rw [hl1,isz],item1⟩ rfl pm)
    rw [hmp]
    exact TI.plainOff hm.1
  cases hp1:t1.plain with
  | true =>
   simp only [if_true]
   (injection (qC4 hb) with qb; rintro ⟨rfl,_⟩)
   refine wpAny_bind (qEN rx ?_)
   simp only [Bool.false_eq_true,if_false]
   exact go _ rfl
  | false =>
   simp only [Bool.false_eq_true,if_false]
   refine wpAny_bind (wpAny_pure ?_)
   simp only [if_true]
   exact go _ (by rw [← hp1])
end
end Mine.Internal
end
section
open PySem PySem.W PySem.Calls PyProof.Rows
namespace Mine.Internal
section
variable {A:Around}{ψ φ:List Addr}
theorem VRs.at_ {h:Heap}:∀ {L:List AV}{vs:List Value},VRs X ψ φ h vs L→∀ (i:Nat) (v:Value),vs[i]?=some v→∃ b,L[i]?=some b∧VR X ψ φ h v b
 | [],_,r,_,_,e=>by obtain rfl:=r; exact qA3 e
 | a :: l,_,r,i,v,e=>by
  obtain ⟨u,ws,rfl,r,q⟩:=r
  cases i with
  | zero=>exact ⟨a,rfl,Option.some.inj e ▸ r⟩
  | succ i=>exact VRs.at_ q i v e
theorem LitSet.moves {h h':Heap}{S:Addr}{es:Array (Int × Value)}{ep:Nat}{t:SetTable}{l:List AV} (L:LitSet X prog w ψ φ h S es ep t l)
  (hk:∀ b o,h.get? b=some o→b ∉ ψ∨b=S→h'.get? b=some o):LitSet X prog w ψ φ h' S es ep t l:=by
 revert L hk
 revert ψ φ h h' S es ep t l
 intros ψ φ h h' S es ep t l
 intro L hk
 obtain ⟨⟨o,ho,hex,hd⟩,T,hled,len,item⟩:=L
 refine ⟨⟨o,hk S o ho (.inr rfl),hex,hd⟩,T,hled,len,?_⟩
 intros i e; intro hi
 (injection (item i e hi) with b; rintro ⟨h1,h2,h3,h4⟩)
 exact ⟨b,h1,h2,VR.move (fun _ _ e=>e) (fun b o e n m=>⟨hk b o e (.inl m),n,m⟩) h3,h4⟩
theorem qL4 {I:Addr}{fp wr:List Addr}{Gn:Array GenState→Array GenState→Prop}{n:Nat}{P:Nat→Value→Prop}{St:Nat→Shared→Prop}{Rr:Result→Shared→Prop}
  (G:GW X base) (R:A.in1.units + 64 < cLine) (W:WalksS prog w A.in1 I fp wr Gn n P St) (S:Addr) (hSf:S ∉ fp) (hS:S ∈ ψ) (hwr:∀ b ∈ wr,b ∈ ψ)
  {vs:List Value}{L:List AV} (hn:n=L.length) (hP:∀ i v,P i v→vs[i]?=some v) (hlen:L.length < 7) (hall:L.all isK2=true) :
  ∀ (k i:Nat) (s:Shared) (es:Array (Int × Value)) (ep:Nat) (t:SetTable) (l:List AV),n - i=k→i ≤ n→St i s→VRs X ψ φ s.heap vs L→LitSet X prog w ψ φ s.heap S es ep t l→l.Nodup→(∀ b,b ∈ l↔b ∈ L.take i)→(t.plain=false∨i=0) →
   (∀ s' es ep t l,Moved (S :: wr) Gn s s'→LitSet X prog w ψ φ s'.heap S es ep t l→l.Nodup→(∀ b,b ∈ l↔b ∈ L)→(t.plain=false∨n=0)→Rr (.ok (.ret .none)) s') →
   codeAny (model prog w) A (.builtin "set.update.loop" ⟨[.ref S,.ref I],[]⟩) Rr s:=by
 revert G R W hSf hS hwr hn hP hlen hall
 revert A ψ φ I fp wr Gn n P St Rr S vs L
 intros A ψ φ I fp wr Gn n P St Rr S vs L
 intro G R W hSf hS hwr hn hP hlen hall
 have hSw:S ∉ wr:=fun h=>hSf (W.sub _ h)
 have hsub:∀ b ∈ wr,b ∈ S :: wr:=fun b hb=>List.mem_cons_of_mem _ hb
 have mvd:∀ {s s':Shared},Moved wr Gn s s'→∀ b o,s.heap.get? b=some o→b ∉ ψ∨b=S→s'.heap.get? b=some o:=fun hm b o e hb =>
  hm.heap b o (fun q=>hb.elim (fun z=>z (hwr b q)) fun z=>hSw (z ▸ q)) e
 intros k
 induction k with
 | zero =>
  (intros i s es ep t l; intro hk hi hst rv LS nd mem pl hR)
  have hin:i=n:=by lia
  subst hin
  refine codeAny_builtin F.entry_set_update_loop ?_
  rw [Around.under_plainId F.plain_set_update_loop _]
  show wpAny _ A.in1 (pyNext (.ref I) >>= _) _ _ s
  refine wpAny_bind (W.done s _ _ hst ?_)
  intros s'; intro hm
  show wpAny _ A.in1 (ret Value.none) _ _ s'
  refine wpAny_pure (hR s' es ep t l (hm.mono hsub) (LS.moves (mvd hm)) nd (?_) pl)
  intros b
  rw [mem b,hn,List.take_length]
 | succ k ih =>
  revert ih; revert k; intros k; intro ih
  (intros i s es ep t l; intro hk hi hst rv LS nd mem pl hR)
  have hlt:i < n:=(qJg hk).1
  refine codeAny_builtin F.entry_set_update_loop ?_
  rw [Around.under_plainId F.plain_set_update_loop _]
  show wpAny _ A.in1 (pyNext (.ref I) >>= _) _ _ s
  refine wpAny_bind (W.item i s _ _ hlt hst ?_)
  intros v s'; intro hp hst' hm
  have LS':=LS.moves (mvd hm)
  have rv':VRs X ψ φ s'.heap vs L:=VRs.move (fun _ _ e=>e) (fun b o e n m=>⟨mvd hm b o e (.inl m),n,m⟩) rv
  (injection (rv'.at_ i v (hP i v hp)) with b; rintro ⟨hb,rb⟩)
  have kb:isK2 b=true:=List.all_eq_true.mp hall b (List.mem_of_getElem? hb)
  have tk1:L.take (i + 1)=L.take i ++ [b]:=by rw [List.take_add_one,hb]; rfl
  have hl6:l.length < 6:=by
   have:=nd.length_le_of_subset (fun b hb=>(mem b).mp hb)
   rw [List.length_take] at this
   lia
  (injection (qC4 kb) with qb; rintro ⟨rfl,_⟩)
  (injection (qFj rb) with ax; rintro ⟨rfl,kx⟩)
  show wpAny _ A.in1 (holding [Value.ref ax] (setAdd S (.ref ax)) >>= _) _ _ s'
  refine wpAny_bind (wpAny_holding ?_)
  unfold setAdd
  refine wpAny_holding ?_
  refine wpAny_bind (wpAny_pyHash_tuple (by lia) kx ?_)
  have next:∀ (h':Heap) (tk:Nat) (r:Bool) es' ep' t' l',s'.toks ≤ tk→Heap.SameBut S s'.heap h'→LitSet X prog w ψ φ h' S es' ep' t' l'→l'.Nodup→(∀ b,b ∈ l'↔b ∈ L.take (i + 1))→t'.plain=false →
    codeAny (model prog w) A (.builtin "set.update.loop" ⟨[.ref S,.ref I],[]⟩) Rr { s' with heap:=h',toks:=tk }:=fun h' tk r es' ep' t' l' htk hsb L' nd' mem' pl'=>by
   refine ih (i + 1) _ es' ep' t' l' (qJg hk).2 hlt (W.frame _ s' _ _ hst' htk fun b hb o e=>?_) (VRs.move (fun _ _ e=>e) (fun b o e n m=>⟨(hsb.2 b (fun z=>m (z ▸ hS))).trans e,n,m⟩) rv') L' nd' mem' (.inl pl') fun s'' es'' ep'' t'' l'' hm'' L'' nd'' mem'' pl''=>?_
   ·rw [hsb.2 b (fun h:b=S=>hSf (by rw [← h]; exact hb))]; exact e
   ·refine hR s'' es'' ep'' t'' l'' (Moved.trans W.gtrans ((hm.mono hsub).then_heap htk ?_) hm'') L'' nd'' mem'' pl''
    intros b o; intro hb e
    rw [hsb.2 b (fun h:b=S=>hb (by rw [h]; exact List.mem_cons_self))]; exact e
  refine qMt (s:={ s' with toks:=s'.toks + ((qHH X (litV qb)).length + 1) }) G R LS' hl6 hS kb rb (fun hin=>?_) (?_)
  ·refine wpAny_pure ⟨plainId_quiet F.plain_set_update_loop _,?_⟩
   have hp0:t.plain=false:=pl.elim id fun z=>by
    subst z
    exact nomatch (mem _).mp hin
   exact next s'.heap _ true es ep t l (Nat.le_add_right _ _) (Heap.SameBut.refl _ _) LS' nd (by
    intros b'
    rw [mem b',tk1,List.mem_append,List.mem_singleton]
    exact ⟨.inl,fun z=>z.elim id fun z=>z ▸ (mem _).mp hin⟩) hp0
  ·intro hout; intros h' es' ep' t' l'; intro hsb L' pl' pm
   refine wpAny_pure ⟨plainId_quiet F.plain_set_update_loop _,?_⟩
   refine next h' _ true es' ep' t' l' (Nat.le_add_right _ _) hsb L' (pm.nodup_iff.mpr (List.nodup_cons.mpr ⟨hout,nd⟩)) (?_) pl'
   intros b'
   rw [pm.mem_iff,List.mem_cons,mem b',tk1,List.mem_append,List.mem_singleton]
   exact ⟨fun z=>z.elim .inr .inl,fun z=>z.elim .inr .inl⟩
end
end Mine.Internal
end
section
open PySem PySem.W PySem.Calls PyProof.Rows
namespace Mine.Internal
section
variable {A:Around}{ψ φ:List Addr}{s:Shared}{E:Value→Shared→Prop}
theorem qDs (a:Value) {Q₁:Value→Shared→Prop}
  (h:Q₁ (.ref s.heap.objs.size) { s with heap:=s.heap.push { cls:=.type "set",dict:=none,data:=.set #[] 0 (.fresh 0 0 (!w.params.followText "set-order")) } }) :
  codeAny (model prog w) A (.call (.builtin "set.__new__") ⟨[.type "set",a],[]⟩) (wants Q₁ E) s:=by
 revert h
 revert A s E a Q₁
 intros A s E a Q₁
 intro h
 refine codeAny_of_tree ?_
 show wpAny _ A.in1 (do checkBuiltinCall "set.__new__" ⟨[.type "set",a],[]⟩; again (.builtin "set.__new__" ⟨[.type "set",a],[]⟩)) _ _ s
 refine wpAny_bind (wpAny_of_eq (F.newCall_set_1 a) (wpAny_pure ⟨plainId_quiet F.plain_set_new _,codeAny_builtin F.entry_set_new ?_⟩))
 rw [Around.under_plainId F.plain_set_new _]
 unfold Builtin.«set.__new__» Builtin.Frozenset.newClass
 have hsub:=sub_set_self
 obtain ⟨hp,g,d,tk,os⟩:=s
 dsimp only
 wp_walk
 refine wpAny_askSetting (wpAny_pure ?_)
 dsimp only
 simp only [newObj]
 refine wpAny_bind (wpAny_alloc (wpAny_pure ?_))
 exact wpAny_pure h
set_option maxHeartbeats 3200000 in
theorem qG0 (G:GW X base) (hbt:X.byText=w.params.followText "set-order") (R:A.in1.in1.in1.units + 64 < cLine) (hh:A.handled=none) {l:Addr}{items:Array Value}{n:Nat}{L:List AV} (hl:s.heap.get? l=some (seqObj "list" items n))
  (rv:VRs X ψ φ s.heap items.toList L) (hlen:L.length < 7) (hall:L.all isK2=true) {Q:Value→Shared→Prop}
  (h:∀ (h':Heap) (tk:Nat) es ep t l',LitSet X prog w (s.heap.objs.size :: (s.heap.objs.size + 1) :: ψ) φ h' s.heap.objs.size es ep t l'→l'.Nodup→(∀ b,b ∈ l'↔b ∈ L)→(t.plain=false∨L.length=0) →
   (∀ b o,b < s.heap.objs.size→s.heap.get? b=some o→h'.get? b=some o)→Q (.ref s.heap.objs.size) { s with heap:=h',toks:=tk }) :
  wpAny (model prog w) A (call (.type "set") [.ref l]) Q E s:=by
 revert G hbt R hh hl rv hlen hall h
 revert A ψ φ s E l items n L Q
 intros A ψ φ s E l items n L Q
 intro G hbt R hh hl rv hlen hall h
 (injection (F.called_set.mro) with c tl; intro hmro)
 have hmade:=F.called_set.made
 have hsub:=F.called_set.sub
 refine wpAny_call (codeAny_of_tree ?_)
 show wpAny _ _ (callAny (.type "set") _) _ _ _
 refine wpAny_pure ⟨Code.quiet_builtin _ (by decide +kernel),codeAny_builtin F.entry_type_call ?_⟩
 rw [Around.under_plain (weight_type_call_type "set" [.ref l] []) rfl]
 have h1:=F.called_set.notType
 have h2:=F.called_set.canCreate
 have hct:=F.typeCall_set_1 (.ref l)
 repeat (any_goals (first | assumption | wp_step))
 refine codeAny_mono (qDs (.ref l) (E:=E) (Q₁:=fun obj s₁=>∃ led:Bool,led=(!w.params.followText "set-order")∧obj=.ref s.heap.objs.size∧s₁={ s with heap:=s.heap.push { cls:=.type "set",dict:=none,data:=.set #[] 0 (.fresh 0 0 led) } }) ⟨_,rfl,rfl,rfl⟩) ?_
 intros r s₁; intro hr
 cases r with
 | error e=>exact hr
 | ok fl =>
  revert hr; revert fl; intros fl; intro hr
  cases fl with
  | ret obj =>
   revert hr; revert obj; intros obj; intro hr
   (injection (hr) with led; try clear hr; rintro ⟨hled,rfl,rfl⟩)
   have hS:(s.heap.push { cls:=.type "set",dict:=none,data:=.set #[] 0 (.fresh 0 0 led) }).get? s.heap.objs.size=some { cls:=.type "set",dict:=none,data:=.set #[] 0 (.fresh 0 0 led) }:=Heap.get?_push_size _ rfl
   have hT:Shared.TypeIs { s with heap:=s.heap.push { cls:=.type "set",dict:=none,data:=.set #[] 0 (.fresh 0 0 led) } } (.ref s.heap.objs.size) "set":=⟨_,hS,rfl⟩
   have hli:=F.called_set.init.lookup
   have hbi:=F.called_set.init.bind (.ref s.heap.objs.size)
   repeat (any_goals (first | assumption | wp_step))
   refine codeAny_mono (codeAny_call_builtin (R:=wants (fun r s₂=>r=.none∧∃ h' tk es ep t l',s₂={ s with heap:=h',toks:=tk } ∧
     LitSet X prog w (s.heap.objs.size :: (s.heap.objs.size + 1) :: ψ) φ h' s.heap.objs.size es ep t l'∧l'.Nodup∧(∀ b,b ∈ l'↔b ∈ L)∧(t.plain=false∨L.length=0) ∧
     (∀ b o,b < s.heap.objs.size→s.heap.get? b=some o→h'.get? b=some o)) E) F.called_set.init.plain F.entry_set_init (check_set_init_1 hT ?_)) ?_
   ·have hol':(s.heap.push { cls:=.type "set",dict:=none,data:=.set #[] 0 (.fresh 0 0 led) }).get? l=some (seqObj "list" items n):=Heap.get?_push_of_some _ hl
    have hsls:=F.sub_list_set
    have hslf:=F.sub_list_frozenset
    have hne:(Value.type "list" == Value.type "dict")=false:=by decide
    have hl1:(s.heap.push { cls:=.type "set",dict:=none,data:=.set #[] 0 (.fresh 0 0 led) }).IsList l items:=⟨_,hol',rfl,n,rfl⟩
    unfold Builtin.«set.__init__» noKeywords Builtin.Frozenset.updateFrom
    generalize hPI:pyIter=PI
    unfold seqObj at hol'
    wp_walk
    subst hPI
    refine wpAny_pyIter_list hl1 ?_
    refine wpAny_bind (wpAny_runValue ?_)
    have hlS:l < s.heap.objs.size:=Heap.lt_size hl
    have hh3:A.in1.in1.in1.handled=none:=by simp [hh]
    have hIs:(s.heap.push { cls:=.type "set",dict:=none,data:=.set #[] 0 (.fresh 0 0 led) }).objs.size=s.heap.objs.size + 1:=Heap.size_push ..
    have hneI:l ≠ (s.heap.push { cls:=.type "set",dict:=none,data:=.set #[] 0 (.fresh 0 0 led) }).objs.size:=by
     rw [Heap.size_push]; exact Nat.ne_of_lt (Nat.lt_succ_of_lt hlS)
    have hSf:s.heap.objs.size ∉ [(s.heap.push { cls:=.type "set",dict:=none,data:=.set #[] 0 (.fresh 0 0 led) }).objs.size,l]:=by
     rw [Heap.size_push]; simp only [List.mem_cons,List.mem_singleton,List.not_mem_nil,or_false,not_or]
     exact ⟨Nat.ne_of_lt (Nat.lt_succ_self _),Nat.ne_of_gt hlS⟩
    have hget:((s.heap.push { cls:=.type "set",dict:=none,data:=.set #[] 0 (.fresh 0 0 led) }).push { cls:=.type "list_iterator",data:=.fields #[.ref l,.int 0 0] }).get? s.heap.objs.size
       = some { cls:=.type "set",dict:=none,data:=.set #[] 0 (.fresh 0 0 led) }:=Heap.get?_push_of_some _ hS
    have hin:items.size=L.length:=by have:=qAS rv; simpa using this
    have rv2:VRs X (s.heap.objs.size :: (s.heap.objs.size + 1) :: ψ) φ ((s.heap.push { cls:=.type "set",dict:=none,data:=.set #[] 0 (.fresh 0 0 led) }).push { cls:=.type "list_iterator",data:=.fields #[.ref l,.int 0 0] }) items.toList L:=by
     refine VRs.move (fun _ _ e=>e) (fun b o e n m=>⟨Heap.get?_push_of_some _ (Heap.get?_push_of_some _ e),n,?_⟩) rv
     have:=Heap.lt_size e
     simp only [List.mem_cons,not_or]
     exact ⟨Nat.ne_of_lt this,Nat.ne_of_lt (Nat.lt_succ_of_lt this),m⟩
    refine qL4 (ψ:=s.heap.objs.size :: (s.heap.objs.size + 1) :: ψ) (φ:=φ) (L:=L) (vs:=items.toList) G R ((Walks.list hh3 _ l hneI items).toS) s.heap.objs.size
     hSf (.head _) ?hw hin (fun i v hv=>by rw [Array.getElem?_toList]; exact hv) hlen hall (items.size - 0) 0 _ #[] 0 (.fresh 0 0 led) [] (by lia) (Nat.zero_le _)
     ⟨⟨_,Heap.get?_push_size _ rfl,rfl,rfl⟩,(hl1.push _)⟩ rv2 ?hS0 List.nodup_nil (fun b=>by simp) (.inr rfl) ?hR
    case hw =>
     (intros b; intro hb)
     rw [hIs] at hb
     rw [List.mem_singleton.mp hb]
     exact .tail _ (.head _)
    case hS0 =>
     refine ⟨⟨_,hget,?_,rfl⟩,⟨rfl,rfl,.inl ⟨rfl,by simp⟩,.nil,fun j hj=>(qA9 hj),fun p hp=>(qA9 hp)⟩,?_,rfl,fun i e hi=>by simp at hi⟩
     ·exact ⟨rfl,rfl,rfl⟩
     ·show X.byText=true∨led=true
      rw [hbt,hled]; cases w.params.followText "set-order" <;> simp
    case hR =>
     (intros s' es ep t l'; intro hm hS' nd mem pl)
     obtain ⟨h',g',d',tk',os'⟩:=s'
     revert hm hS'; revert h' g' d' tk' os'; intros h' g' d' tk' os'; intro hm hS'
     have eg:g'=s.gens:=hm.gens
     have ed:d'=s.drawn:=hm.drawn
     have eo:os'=s.os:=hm.os
     subst eg; subst ed; subst eo
     show wpAny _ _ _ _ _ _
     refine wpAny_pure ?_
     show wpAny _ _ (ret Value.none) _ _ _
     refine wpAny_pure ⟨rfl,h',tk',es,ep,t,l',rfl,hS',nd,mem,hin ▸ pl,?_⟩
     intros b o; intro hb e
     have hb1:b ≠ s.heap.objs.size:=Nat.ne_of_lt hb
     have hb2:b ≠ (s.heap.push { cls:=.type "set",dict:=none,data:=.set #[] 0 (.fresh 0 0 led) }).objs.size:=by
      rw [Heap.size_push]; exact Nat.ne_of_lt (Nat.lt_succ_of_lt hb)
     exact hm.heap b o (by simp only [List.mem_cons,List.mem_singleton,List.not_mem_nil,or_false,not_or]; exact ⟨hb1,hb2⟩) (Heap.get?_push_of_some _ (Heap.get?_push_of_some _ e))
   ·intros r₂ s₂; intro hr₂
    cases r₂ with
    | error e=>exact hr₂
    | ok fl₂ =>
     revert hr₂; revert fl₂; intros fl₂; intro hr₂
     cases fl₂ with
     | ret r =>
      revert hr₂; revert r; intros r; intro hr₂
      (obtain ⟨rfl,H_⟩:=hr₂; injection H_ with h' tk es ep t; clear H_; intro H_; injection H_ with l'; clear H_; rintro ⟨rfl,hS',nd,mem,pl,hk'⟩)
      repeat (any_goals (first | assumption | wp_step))
      exact h _ _ es ep t l' hS' nd mem pl hk'
     | _=>exact hr₂.elim
  | _=>exact hr.elim
end
end Mine.Internal
end
section
open PySem PySem.W PySem.Calls PyProof.Rows
namespace Mine.Internal
theorem qCu:∀ (L:List AV) (b:AV),b ∈ dedup L↔b ∈ L
 | [],b=>by simp [dedup]
 | x :: r,b=>by
  show b ∈ x :: (dedup r).filter (fun y=>!y.beq x)↔_
  rw [List.mem_cons,List.mem_filter,qCu r b,List.mem_cons]
  constructor
  ·rintro (q | ⟨q,_⟩)
   ·exact .inl q
   ·exact .inr q
  ·rintro (q | q)
   ·exact .inl q
   ·by_cases z:b=x
    ·exact .inl z
    ·refine .inr ⟨q,?_⟩
     cases e:b.beq x with
     | false=>rfl
     | true=>exact absurd ((AV.beq_iff _ _).mp e) z
theorem qCa:∀ L:List AV,(dedup L).Nodup
 | []=>List.nodup_nil
 | x :: r=>by
  show (x :: (dedup r).filter (fun y=>!y.beq x)).Nodup
  rw [List.nodup_cons]
  refine ⟨fun q=>?_,(qCa r).filter _⟩
  have:=(List.mem_filter.mp q).2
  rw [(AV.beq_iff x x).mpr rfl] at this
  cases this
theorem VRs.perm {ψ φ:List Addr}{h:Heap}{l m:List AV} (p:l.Perm m):∀ {vs:List Value},VRs X ψ φ h vs l→∃ ws,vs.Perm ws∧VRs X ψ φ h ws m:=by
 revert p
 revert ψ φ h l m
 intros ψ φ h l m
 intro p
 induction p with
 | nil=>exact fun r=>⟨_,.refl _,r⟩
 | cons a _ ih =>
  intro _ r
  obtain ⟨v,vs,rfl,r,q⟩:=r
  obtain ⟨ws,p,q⟩:=ih q
  exact ⟨v :: ws,p.cons v,VRs.cons r q⟩
 | swap a b l =>
  revert a b l; intros a b l
  intro _ r
  obtain ⟨v,_,rfl,r1,u,vs,rfl,r2,q⟩:=r
  exact ⟨_,.swap u v vs,.cons r2 (.cons r1 q)⟩
 | trans _ _ ih1 ih2 =>
  intro _ r
  obtain ⟨ws,p,q⟩:=ih1 r
  obtain ⟨us,p',q'⟩:=ih2 q
  exact ⟨us,p.trans p',q'⟩
theorem qJ2 {ψ φ:List Addr}{h:Heap}:∀ {vs:List Value}{l:List AV},l.length=vs.length→(∀ (i:Nat) (v:Value),vs[i]?=some v→∃ b,l[i]?=some b∧VR X ψ φ h v b)→VRs X ψ φ h vs l
 | vs,[],hl,_=>List.eq_nil_of_length_eq_zero hl.symm
 | [],_ :: _,hl,_=>nomatch hl
 | v :: vs,b :: l,hl,hi=>by
  obtain ⟨b',h1,h2⟩:=hi 0 v rfl
  exact .cons (Option.some.inj h1 ▸ h2) (qJ2 (Nat.succ.inj hl) fun i u e=>hi (i + 1) u e)
theorem LitSet.sset {ψ ψ' φ:List Addr}{h:Heap}{S:Addr}{es:Array (Int × Value)}{ep:Nat}{t:SetTable}{l L:List AV} (x:LitSet X prog w ψ φ h S es ep t l)
  (nd:l.Nodup) (mem:∀ b,b ∈ l↔b ∈ L) (pl:t.plain=false∨L.length=0) (hL:L.length < 7) (hn:S ∉ φ) (hm:S ∉ ψ') (hsub:∀ a ∈ ψ',a ∈ ψ):VR X ψ' φ h (.ref S) (.sset (dedup L)):=by
 revert x nd mem pl hL hn hm hsub
 revert ψ ψ' φ h S es ep t l L
 intros ψ ψ' φ h S es ep t l L
 intro x nd mem pl hL hn hm hsub
 obtain ⟨⟨o,ho,hex,hd⟩,T,hled,len,item⟩:=x
 have pm:l.Perm (dedup L):=(List.perm_ext_iff_of_nodup nd (qCa L)).mpr fun b=>by rw [mem b,qCu]
 have le:l.length ≤ L.length:=nd.length_le_of_subset fun b hb=>(mem b).mp hb
 have r0:VRs X ψ' φ h (es.toList.map (·.2)) l:=qJ2 (len.trans ((List.length_map _).trans Array.length_toList).symm) fun i v hv=>by
  rw [List.getElem?_map] at hv
  obtain ⟨e,he,rfl⟩:=Option.map_eq_some_iff.mp hv
  obtain ⟨b,h1,_,h3,_⟩:=item i e (by rw [← Array.getElem?_toList]; exact he)
  exact ⟨b,h1,VR.move (fun _ _ e=>e) (fun b o e n m=>⟨e,n,fun z=>m (hsub b z)⟩) h3⟩
 (injection (VRs.perm pm r0) with vs; rintro ⟨p,r⟩)
 exact ⟨S,o,es,ep,t,vs,rfl,ho,hn,hm,hex,hd,T.fits (by rw [List.length_map,Array.length_toList]),pl.imp id fun z=>by rw [← len]; omega,hled,p,by have:=pm.length_eq; omega,r⟩
end Mine.Internal
end
section
open PySem PySem.W PySem.Calls PyProof.Rows
namespace Mine.Internal
theorem qA8:Slot "set_iterator" "__next__" "set_iterator.__next__" :=
 .of (owner:="set_iterator") (n:="__next__") (by rw [typeLookup_type,builtinLookup_eq_fast]; kernel_rfl) (by decide +kernel) (by decide +kernel) (by decide +kernel)
  (by first | exact .inl (by decide +kernel) | exact .inr (by decide +kernel)) (by rw [isSubtype_type]; kernel_rfl)
theorem qAL:entryFor table "set_iterator.__next__" = some Builtin.«set_iterator.__next__»:=entryFor_of_tree (by kernel_rfl)
theorem qAK (a:Value):argsOk "set_iterator.__next__" ⟨[a],[]⟩:=by unfold argsOk; kernel_rfl
theorem qAq:Slot "set_iterator" "__iter__" "set_iterator.__iter__" :=
 .of (owner:="set_iterator") (n:="__iter__") (by rw [typeLookup_type,builtinLookup_eq_fast]; kernel_rfl) (by decide +kernel) (by decide +kernel) (by decide +kernel)
  (by first | exact .inl (by decide +kernel) | exact .inr (by decide +kernel)) (by rw [isSubtype_type]; kernel_rfl)
theorem qBq:entryFor table "set_iterator.__iter__" = some Builtin.«dict_keyiterator.__iter__» :=
 entryFor_alias (id':="dict_keyiterator.__iter__") (by kernel_rfl) (by first | rfl | decide +kernel | (unfold String.splitOn; simp +decide [String.splitOnAux])) (by decide +kernel) (by kernel_rfl)
theorem qBg (a:Value):argsOk "set_iterator.__iter__" ⟨[a],[]⟩:=by unfold argsOk; kernel_rfl
theorem qEr:entryFor table "set.__iter__" = some Builtin.«frozenset.__iter__» :=
 entryFor_alias (id':="frozenset.__iter__") (by kernel_rfl) (by first | rfl | decide +kernel | (unfold String.splitOn; simp +decide [String.splitOnAux])) (by decide +kernel) (by kernel_rfl)
noncomputable def SetIt (h:Heap) (I S:Addr) (first:Value) (i n ep:Nat):Prop :=
 ∃ o,h.get? I=some o∧o.cls=.type "set_iterator"∧o.data=.fields #[first,.int i 0,.ref S,.int n 0,.int ep 0]
noncomputable def SetAt (h:Heap) (S:Addr) (es:Array (Int × Value)) (ep:Nat) (t:SetTable):Prop :=
 ∃ o,h.get? S=some o∧o.ExactSet∧o.data=.set es ep t
section
variable {A:Around}{E:Value→Shared→Prop}{s:Shared}{I S:Addr}{first:Value}{i ep:Nat}{es:Array (Int × Value)}{t:SetTable}
theorem SetIt.typeIs {n} (x:SetIt s.heap I S first i n ep):s.TypeIs (.ref I) "set_iterator":=let ⟨o,ho,hc,_⟩:=x; ⟨o,ho,hc⟩
theorem SetIt.at {h h':Heap}{n} (x:SetIt h I S first i n ep) (e:∀ o,h.get? I=some o→h'.get? I=some o):SetIt h' I S first i n ep:=let ⟨o,ho,r⟩:=x; ⟨o,e _ ho,r⟩
theorem SetAt.at {h h':Heap} (x:SetAt h S es ep t) (e:∀ o,h.get? S=some o→h'.get? S=some o):SetAt h' S es ep t:=let ⟨o,ho,r⟩:=x; ⟨o,e _ ho,r⟩
theorem qEo {T:Addr}{places:Array Value}{j:Nat}{tk:Tok}{x:Value}{hx:Int}{Q:Option Value→Shared→Prop} (hit:SetIt s.heap I S (.ref T) i es.size ep) (hs:SetAt s.heap S es ep t) (hf:t.fits es.size=true)
  (ht:s.heap.IsTuple T places) (hp:places[i]?=some (.int j tk)) (he:es[j]?=some (hx,x))
  (hQ:∀ h',SetIt h' I S (.ref T) (i + 1) es.size ep→Heap.SameBut I s.heap h'→Q (some x) { s with heap:=h' }) :
  wpAny (model prog w) A (pyNext (.ref I)) Q E s:=by
 revert hit hs hf ht hp he hQ
 revert A E s I S i ep es t T places j tk x hx Q
 intros A E s I S i ep es t T places j tk x hx Q
 intro hit hs hf ht hp he hQ
 (injection (id hit) with o; rintro ⟨ho,hc,hd⟩)
 (injection (hs) with os; try clear hs; rintro ⟨hos,_,hds⟩)
 (injection (ht) with ot; try clear ht; rintro ⟨hot,_,H_⟩; injection H_ with nt; clear H_; intro hdt)
 unfold pyNext
 refine wpAny_bind (wpAny_attempt (wpAny_callSpecial?_slot (name:=Str.ofString "__next__") hit.typeIs qA8
  (wpAny_call_entry qA8 hit.typeIs qAL ?_ (qAK _))))
 unfold Builtin.«set_iterator.__next__»
 refine wpAny_bind (m:=slotArgs _ _ _) (wpAny_pure ?_)
 refine wpAny_bind (wpAny_fieldsOf ho hd ?_)
 dsimp only
 refine wpAny_bind (wpAny_bind (wpAny_setState_of hos hds hf (wpAny_pure ?_)))
 dsimp only
 rw [if_neg (by simp)]
 refine wpAny_bind (wpAny_seqItems hot hdt ?_)
 dsimp only
 rw [Int.toNat_natCast,hp]
 dsimp only
 unfold setNextDrawn
 refine wpAny_bind (wpAny_bind (wpAny_setState_of hos hds hf ?_))
 dsimp only
 rw [if_neg (by simp)]
 rw [Int.toNat_natCast,he]
 refine wpAny_pure ?_
 refine wpAny_bind (wpAny_setField ho hd (by simp) (wpAny_pure ⟨x,rfl,wpAny_pure (hQ _ ?_ (Heap.SameBut.update ..))⟩))
 exact ⟨_,Heap.get?_update_self _ ho (Obj.isFreed_of_fields (Obj.data_mapFields hd _)),(Obj.cls_mapFields ..).trans hc,by
  rw [Obj.data_mapFields hd]; simp [rawInt]⟩
theorem qG9 {K:Fin→Shared→Prop}{Q:Option Value→Shared→Prop}{s:Shared} (hh:A.handled=none) (hQ:∀ h',(∀ b o,s.heap.get? b=some o→h'.get? b=some o)→Q none { s with heap:=h' }) :
  wpAny (model prog w) A.in1 (do raiseNew (← newExc (.type "StopIteration") [])) K (fun e s'=>wpAny (model prog w) A (do
   if ← isInstance e (.type "StopIteration") then pure none else throw e) Q E s') s:=by
 revert hh hQ
 revert A E K Q s
 intros A E K Q s
 intro hh hQ
 refine wpAny_bind ?_
 simp only [newExc,newTuple]
 refine wpAny_bind (wpAny_newObj_type ?_ (by size_fits))
 refine wpAny_bind (m:=firstArgMember _ _) (wpAny_of_eq (a:=Value.none) (by first | rfl | (simp only [firstArgMember]; rfl)) ?_)
 refine wpAny_newObj_type ?_ (by size_fits)
 simp only [raiseNew]
 refine wpAny_bind (wpAny_handled ?_)
 first | rw [show A.in1.handled=none from hh] | rw [hh]
 refine wpAny_bind (wpAny_pure (wpAny_throw ?_))
 refine wpAny_bind (wpAny_isInstance (T:="StopIteration") (b:=true) ⟨_,Heap.get?_push_size _ rfl,rfl⟩ isSubtype_stop ?_)
 exact wpAny_pure (hQ _ fun b o e=>Heap.get?_push_of_some _ (Heap.get?_push_of_some _ e))
theorem qCs {T:Addr}{places:Array Value}{Q:Option Value→Shared→Prop} (hh:A.handled=none) (hit:SetIt s.heap I S (.ref T) i es.size ep) (hs:SetAt s.heap S es ep t) (hf:t.fits es.size=true)
  (ht:s.heap.IsTuple T places) (hp:places[i]?=none) (hQ:∀ h',Heap.ExtBut I s.heap h'→Q none { s with heap:=h' }) :
  wpAny (model prog w) A (pyNext (.ref I)) Q E s:=by
 revert hh hit hs hf ht hp hQ
 revert A E s I S i ep es t T places Q
 intros A E s I S i ep es t T places Q
 intro hh hit hs hf ht hp hQ
 (injection (id hit) with o; rintro ⟨ho,hc,hd⟩)
 (injection (hs) with os; try clear hs; rintro ⟨hos,_,hds⟩)
 (injection (ht) with ot; try clear ht; rintro ⟨hot,_,H_⟩; injection H_ with nt; clear H_; intro hdt)
 unfold pyNext
 refine wpAny_bind (wpAny_attempt (wpAny_callSpecial?_slot (name:=Str.ofString "__next__") hit.typeIs qA8
  (wpAny_call_entry qA8 hit.typeIs qAL ?_ (qAK _))))
 unfold Builtin.«set_iterator.__next__»
 refine wpAny_bind (m:=slotArgs _ _ _) (wpAny_pure ?_)
 refine wpAny_bind (wpAny_fieldsOf ho hd ?_)
 dsimp only
 refine wpAny_bind (wpAny_bind (wpAny_setState_of hos hds hf (wpAny_pure ?_)))
 dsimp only
 rw [if_neg (by simp)]
 refine wpAny_bind (wpAny_seqItems hot hdt ?_)
 dsimp only
 rw [Int.toNat_natCast,hp]
 dsimp only
 have h2:(Obj.mapFields (fun fs=>fs.setIfInBounds 0 (rawInt 0)) o).data=.fields #[rawInt 0,.int i 0,.ref S,.int es.size 0,.int ep 0]:=by rw [Obj.data_mapFields hd]; simp [rawInt]
 refine wpAny_bind (wpAny_setField ho hd (by simp) ?_)
 have ho1:=Heap.get?_update_self (Obj.mapFields fun x=>x.setIfInBounds 0 (rawInt 0)) ho (Obj.isFreed_of_fields (Obj.data_mapFields hd _))
 refine wpAny_bind (wpAny_setField ho1 h2 (by simp) ?_)
 refine qG9 (A:=A) hh fun h' hk=>hQ h' fun b o hb e=>hk _ _ ?_
 exact (Heap.get?_update_other _ _ (Ne.symm hb)).trans ((Heap.get?_update_other _ _ (Ne.symm hb)).trans e)
noncomputable def qDd (prog:Program) (w:World) (s:Shared) (S:Addr) (ep:Nat) (sl i:Nat) (r:Option (Value × Nat)):Prop :=
 ∀ (A:Around) (E:Value→Shared→Prop) (Q:Option (Value × Nat)→Shared→Prop),Q r s→wpAny (model prog w) A (setNext S sl i ep) Q E s
theorem qFi {sl sl':Nat}{x:Value}{Q:Option Value→Shared→Prop} (hn:qDd prog w s S ep sl i (some (x,sl')))
  (hit:SetIt s.heap I S (.int sl 0) i es.size ep) (hs:SetAt s.heap S es ep t) (hf:t.fits es.size=true)
  (hQ:∀ h',SetIt h' I S (.int sl' 0) (i + 1) es.size ep→Heap.SameBut I s.heap h'→Q (some x) { s with heap:=h' }) :
  wpAny (model prog w) A (pyNext (.ref I)) Q E s:=by
 obtain ⟨o,ho,hc,hd⟩:=id hit
 obtain ⟨os,hos,_,hds⟩:=hs
 unfold pyNext
 refine wpAny_bind (wpAny_attempt (wpAny_callSpecial?_slot (name:=Str.ofString "__next__") hit.typeIs qA8
  (wpAny_call_entry qA8 hit.typeIs qAL ?_ (qAK _))))
 unfold Builtin.«set_iterator.__next__»
 refine wpAny_bind (m:=slotArgs _ _ _) (wpAny_pure ?_)
 refine wpAny_bind (wpAny_fieldsOf ho hd ?_)
 dsimp only
 refine wpAny_bind (wpAny_bind (wpAny_setState_of hos hds hf (wpAny_pure ?_)))
 dsimp only
 rw [if_neg (by simp)]
 rw [Int.toNat_natCast,Int.toNat_natCast,Int.toNat_natCast]
 refine wpAny_bind (hn _ _ _ ?_)
 dsimp only
 have h2:(Obj.mapFields (fun fs=>fs.setIfInBounds 0 (rawInt sl')) o).data=.fields #[rawInt sl',.int i 0,.ref S,.int es.size 0,.int ep 0]:=by rw [Obj.data_mapFields hd]; simp [rawInt]
 have ho1:=Heap.get?_update_self (Obj.mapFields fun x=>x.setIfInBounds 0 (rawInt sl')) ho (Obj.isFreed_of_fields (Obj.data_mapFields hd _))
 refine wpAny_bind (wpAny_setField ho hd (by simp) ?_)
 refine wpAny_bind (wpAny_setField ho1 h2 (by simp) (wpAny_pure ⟨x,rfl,wpAny_pure (hQ _ ?_ ((Heap.SameBut.update ..).trans (Heap.SameBut.update ..)))⟩))
 exact ⟨_,Heap.get?_update_self _ ho1 (Obj.isFreed_of_fields (Obj.data_mapFields h2 _)),(Obj.cls_mapFields ..).trans ((Obj.cls_mapFields ..).trans hc),by
  rw [Obj.data_mapFields h2]; simp [rawInt]⟩
theorem qDS {sl:Nat}{Q:Option Value→Shared→Prop} (hh:A.handled=none) (hn:qDd prog w s S ep sl i none)
  (hit:SetIt s.heap I S (.int sl 0) i es.size ep) (hs:SetAt s.heap S es ep t) (hf:t.fits es.size=true)
  (hQ:∀ h',Heap.ExtBut I s.heap h'→Q none { s with heap:=h' }) :
  wpAny (model prog w) A (pyNext (.ref I)) Q E s:=by
 revert hh hn hit hs hf hQ
 revert A E s I S i ep es t sl Q
 intros A E s I S i ep es t sl Q
 intro hh hn hit hs hf hQ
 (injection (id hit) with o; rintro ⟨ho,hc,hd⟩)
 (injection (hs) with os; try clear hs; rintro ⟨hos,_,hds⟩)
 unfold pyNext
 refine wpAny_bind (wpAny_attempt (wpAny_callSpecial?_slot (name:=Str.ofString "__next__") hit.typeIs qA8
  (wpAny_call_entry qA8 hit.typeIs qAL ?_ (qAK _))))
 unfold Builtin.«set_iterator.__next__»
 refine wpAny_bind (m:=slotArgs _ _ _) (wpAny_pure ?_)
 refine wpAny_bind (wpAny_fieldsOf ho hd ?_)
 dsimp only
 refine wpAny_bind (wpAny_bind (wpAny_setState_of hos hds hf (wpAny_pure ?_)))
 dsimp only
 rw [if_neg (by simp)]
 rw [Int.toNat_natCast,Int.toNat_natCast,Int.toNat_natCast]
 refine wpAny_bind (hn _ _ _ ?_)
 dsimp only
 refine wpAny_bind (wpAny_setField ho hd (by simp) ?_)
 exact qG9 (A:=A) hh fun h' hk=>hQ h' fun b o hb e=>hk _ _ ((Heap.get?_update_other _ _ (Ne.symm hb)).trans e)
theorem qIg (hbt:w.params.followText "set-order" = true) (hs:SetAt s.heap S es ep t) (hf:t.fits es.size=true):qDd prog w s S ep 0 i ((pickOrder (w.params.setOrder S ep) es)[i]?.map fun e=>(e.2,0)):=by
 revert hbt hs hf
 revert s S i ep es t
 intros s S i ep es t
 intro hbt hs hf
 (intros A E Q; intro hQ)
 (injection (hs) with os; try clear hs; rintro ⟨hos,_,hds⟩)
 unfold setNext
 refine wpAny_bind (wpAny_setState_of hos hds hf ?_)
 dsimp only
 unfold setsByText
 refine wpAny_bind (wpAny_bind (wpAny_askSetting (wpAny_pure ?_)))
 show wpAny _ _ (if w.params.followText "set-order" = true then _ else _) _ _ _
 rw [hbt,if_pos rfl,if_neg (by simp)]
 unfold setWalk
 refine wpAny_bind (wpAny_bind (wpAny_setState_of hos hds hf ?_))
 dsimp only
 unfold setsByText
 refine wpAny_bind (wpAny_bind (wpAny_askSetting (wpAny_pure ?_)))
 show wpAny _ _ (if w.params.followText "set-order" = true then _ else _) _ _ _
 rw [hbt,if_pos rfl]
 refine wpAny_bind (wpAny_askSetting (wpAny_pure ?_))
 exact wpAny_pure hQ
theorem qK7 (hbt:w.params.followText "set-order" = false) (hl:t.led=true) (hz:es.size ≤ 1) (hs:SetAt s.heap S es ep t) (hf:t.fits es.size=true) {sl:Nat} :
  qDd prog w s S ep sl i (match es[SetTable.below t.place sl]?,t.place[SetTable.below t.place sl]? with
  | some (_,x),some j=>some (x,j + 1)
  | _,_=>none):=by
 revert hbt hl hz hs hf
 revert s S i ep es t sl
 intros s S i ep es t sl
 intro hbt hl hz hs hf
 intro A E Q hQ
 (injection (hs) with os; try clear hs; rintro ⟨hos,_,hds⟩)
 unfold setNext
 refine wpAny_bind (wpAny_setState_of hos hds hf ?_)
 dsimp only
 unfold setsByText
 refine wpAny_bind (wpAny_bind (wpAny_askSetting (wpAny_pure ?_)))
 show wpAny _ _ (if w.params.followText "set-order" = true then _ else _) _ _ _
 rw [hbt,if_neg Bool.false_ne_true]
 have hd:(!t.plain && decide (es.size > 1))=false:=by simp; lia
 show wpAny _ _ (if (!t.plain && decide (es.size > 1))=true then _ else _) _ _ _
 rw [hd,if_neg Bool.false_ne_true]
 have hm:(!t.led && !es.isEmpty)=false:=by simp [hl]
 refine wpAny_bind ?_
 show wpAny _ _ (if (!t.led && !es.isEmpty)=true then _ else _) _ _ _
 rw [hm,if_neg Bool.false_ne_true]
 exact wpAny_pure (wpAny_pure hQ)
theorem qDa {α:Type}:∀ {l:List α}{i:Nat} (h:i < l.length),(l[i] :: l.eraseIdx i).Perm l
 | x :: r,0,_=>List.Perm.refl _
 | x :: r,i + 1,h=>by
  have:=qDa (l:=r) (i:=i) (by simpa using h)
  rw [List.eraseIdx_cons_succ,List.getElem_cons_succ]
  exact (List.Perm.swap _ _ _).trans (this.cons x)
theorem qJX (next:Nat→Nat):∀ (fuel k:Nat) (left:List (Int × Value)) (out:Array (Int × Value)),fuel=left.length→(pickOrder.go next fuel k left out).toList.Perm (out.toList ++ left)
 | 0,k,left,out,h=>by
  have:left=[]:=List.eq_nil_of_length_eq_zero h.symm
  subst this; show out.toList.Perm (out.toList ++ []); rw [List.append_nil]
 | fuel + 1,k,left,out,h=>by
  have hl:next k % left.length < left.length:=Nat.mod_lt _ (by lia)
  rw [pickOrder.go,List.getElem?_eq_getElem hl]
  dsimp only
  refine (qJX next fuel (k + 1) _ _ (by rw [List.length_eraseIdx]; simp [hl]; lia)).trans ?_
  rw [Array.toList_push,List.append_assoc]
  refine List.Perm.append_left _ ?_
  exact (qDa hl)
theorem qEm (next:Nat→Nat) (xs:Array (Int × Value)):(pickOrder next xs).toList.Perm xs.toList:=by
 unfold pickOrder
 have:=qJX next xs.size 0 xs.toList #[] (by simp)
 simpa using this
theorem qKW {src:Source}{n:Nat} (hn:n ≠ 0) (w:World) (s:Shared):∃ i d,i < n∧∀ (prog:Program) (A:Around) (E:Value→Shared→Prop) (Q:Nat→Shared→Prop),Q i { s with drawn:=d }→wpAny (model prog w) A (choose src n) Q E s :=
 ⟨w.draws src (s.drawn.get src) % n,s.drawn.bump src,Nat.mod_lt _ (Nat.pos_of_ne_zero hn),fun _ _ _ _ h _ _ _=>⟨hn,h⟩⟩
theorem qDn {α:Type} (w:World):∀ (n:Nat) (xs:List α) (s:Shared),n=xs.length →
  ∃ ys d,ys.Perm xs∧∀ (prog:Program) (A:Around) (E:Value→Shared→Prop) (Q:List α→Shared→Prop),Q ys { s with drawn:=d }→wpAny (model prog w) A (drawOrder n xs) Q E s
 | 0,xs,s,h=>⟨[],s.drawn,by rw [List.eq_nil_of_length_eq_zero h.symm],fun _ _ _ _ hq=>by
  show wpAny _ _ (pure []) _ _ _; exact wpAny_pure hq⟩
 | n + 1,xs,s,h=>by
  have hne:xs.length ≠ 0:=by lia
  obtain ⟨i,d,hi,hc⟩:=qKW (src:=.order) hne w s
  obtain ⟨ys,d',hp,hd⟩:=qDn w n (xs.eraseIdx i) { s with drawn:=d } (by rw [List.length_eraseIdx]; simp [hi]; lia)
  refine ⟨xs[i] :: ys,d',((List.Perm.cons _ hp).trans (qDa hi)),fun prog A E Q hq=>?_⟩
  cases xs with
  | nil=>simp at hne
  | cons x xs =>
   show wpAny _ _ (_ >>= _) _ _ _
   refine wpAny_bind (hc _ _ _ _ ?_)
   rw [List.getElem?_eq_getElem hi]
   refine wpAny_bind (hd _ _ _ _ ?_)
   exact wpAny_pure hq
theorem qCM {n:Nat}{Q:Value→Shared→Prop} (hit:SetIt s.heap I S first i n ep) (h:Q (.ref I) s):wpAny (model prog w) A (pyIter (.ref I)) Q E s:=by
 refine wpAny_pyIter_slot hit.typeIs qAq (wpAny_call_entry qAq hit.typeIs qBq ?_ (qBg _))
 show wpAny _ _ (ret (.ref I)) _ _ s
 exact wpAny_pure ⟨_,rfl,"set_iterator",_,hit.typeIs,qA8.lookup,h⟩
theorem qH2 {T:Addr}{places:Array Value}{vs:List Value} (hh:A.handled=none) (hSI:S ≠ I) (hTI:T ≠ I) (hf:t.fits es.size=true) (hl:places.size=vs.length)
  (hp:∀ i:Nat,i < vs.length→∃ (j:Nat) (tk:Tok) (hx:Int) (x:Value),places[i]?=some (.int j tk)∧es[j]?=some (hx,x)∧vs[i]?=some x) :
  WalksS prog w A I [I,S,T] [I] (fun a b=>b=a) vs.length (fun i v=>vs[i]?=some v) (fun i s=>SetIt s.heap I S (.ref T) i es.size ep∧SetAt s.heap S es ep t∧s.heap.IsTuple T places) where
 sub:=fun b hb=>by simp at hb; simp [hb]
 grefl:=fun _=>rfl
 gtrans:=fun _ _ _ h1 h2=>h2.trans h1
 frame:=fun _ s h' tk st _ hk=>⟨st.1.at fun o e=>hk I (by simp) o e,st.2.1.at fun o e=>hk S (by simp) o e,st.2.2.at fun o e=>hk T (by simp) o e⟩
 item:=fun i s Q E hi st hQ=>by
  obtain ⟨j,tk,hx,x,h1,h2,h3⟩:=hp i hi
  refine qEo st.1 st.2.1 hf st.2.2 h1 h2 fun h' hit' hs'=>?_
  exact hQ x _ h3 ⟨hit',st.2.1.at fun o e=>hs'.extBut S o hSI e,st.2.2.at fun o e=>hs'.extBut T o hTI e⟩ ⟨fun b o hb e=>hs'.extBut b o (fun h=>hb (by simp [h])) e,rfl,rfl,rfl,Nat.le_refl _⟩
 done:=fun s Q E st hQ=>by
  refine qCs hh st.1 st.2.1 hf st.2.2 (by rw [Array.getElem?_eq_none]; lia) fun h' he=>?_
  exact hQ _ ⟨fun b o hb e=>he b o (fun h=>hb (by simp [h])) e,rfl,rfl,rfl,Nat.le_refl _⟩
 self:=fun i s Q E st hQ=>qCM st.1 hQ
theorem qIH {vs:List Value}{sl:Nat→Nat} (hh:A.handled=none) (hSI:S ≠ I) (hf:t.fits es.size=true)
  (hn:∀ (i:Nat) (s:Shared),SetAt s.heap S es ep t→i ≤ vs.length→qDd prog w s S ep (sl i) i (vs[i]?.map fun v=>(v,sl (i + 1)))) :
  WalksS prog w A I [I,S] [I] (fun a b=>b=a) vs.length (fun i v=>vs[i]?=some v) (fun i s=>SetIt s.heap I S (.int (sl i) 0) i es.size ep∧SetAt s.heap S es ep t) where
 sub:=fun b hb=>by simp at hb; simp [hb]
 grefl:=fun _=>rfl
 gtrans:=fun _ _ _ h1 h2=>h2.trans h1
 frame:=fun _ s h' tk st _ hk=>⟨st.1.at fun o e=>hk I (by simp) o e,st.2.at fun o e=>hk S (by simp) o e⟩
 item:=fun i s Q E hi st hQ=>by
  have h:=hn i s st.2 (Nat.le_of_lt hi)
  rw [List.getElem?_eq_getElem hi] at h
  refine qFi (sl':=sl (i + 1)) h st.1 st.2 hf fun h' hit' hs'=>?_
  exact hQ _ _ (List.getElem?_eq_getElem hi) ⟨hit',st.2.at fun o e=>hs'.extBut S o hSI e⟩ ⟨fun b o hb e=>hs'.extBut b o (fun h=>hb (by simp [h])) e,rfl,rfl,rfl,Nat.le_refl _⟩
 done:=fun s Q E st hQ=>by
  have h:=hn vs.length s st.2 (Nat.le_refl _)
  rw [List.getElem?_eq_none (Nat.le_refl _)] at h
  refine qDS hh h st.1 st.2 hf fun h' he=>?_
  exact hQ _ ⟨fun b o hb e=>he b o (fun h=>hb (by simp [h])) e,rfl,rfl,rfl,Nat.le_refl _⟩
 self:=fun i s Q E st hQ=>qCM st.1 hQ
noncomputable def qKl (prog:Program) (w:World) (S:Addr) (s:Shared) (vs:List Value) (d:Drawn) (Q:Value→Shared→Prop):Prop :=
 ∀ (I:Addr) (h':Heap) (fp:List Addr) (St:Nat→Shared→Prop),s.heap.get? I=none→(∀ b o,s.heap.get? b=some o→h'.get? b=some o)→(∀ b ∈ fp,b=S∨s.heap.get? b=none)→I ∈ fp →
  (∀ A:Around,A.handled=none→WalksS prog w A I fp [I] (fun a b=>b=a) vs.length (fun i v=>vs[i]?=some v) St)→St 0 { s with heap:=h',drawn:=d }→Q (.ref I) { s with heap:=h',drawn:=d }
theorem qGY {Q:Value→Shared→Prop} (hs:SetAt s.heap S es ep t) (hf:t.fits es.size=true)
  (h:wpAny (model prog w) A.in1 (do
   let first ← if ← setDrawn S then newTuple ((← drawOrder es.size (List.range es.size)).map fun (i:Nat)=>rawInt i) else pure (rawInt 0)
   ret (← newFields "set_iterator" [first,rawInt 0,.ref S,rawInt es.size,rawInt (← setEpoch S)])) (fun fin s'=>∃ v,fin=.done (.ret v)∧(∃ T' r,s'.TypeIs v T'∧typeLookup (.type T') "__next__" = pure (some r)∧Q v s')) E s) :
  wpAny (model prog w) A (pyIter (.ref S)) Q E s:=by
 obtain ⟨os,hos,hex,hds⟩:=hs
 have hT:s.TypeIs (.ref S) "set":=⟨os,hos,hex.1⟩
 refine wpAny_pyIter_slot hT F.slot_set_iter (wpAny_call_entry F.slot_set_iter hT qEr ?_ (F.args_set_iter_1 _))
 unfold Builtin.«frozenset.__iter__» Builtin.Frozenset.slot0 Builtin.Frozenset.sizeOf setEntries
 refine wpAny_bind (wpAny_bind (m:=slotArgs _ _ _) (wpAny_pure ?_))
 refine wpAny_pure (wpAny_bind (wpAny_bind (wpAny_bind (wpAny_setState_of hos hds hf (wpAny_pure (wpAny_pure ?_))))))
 exact h
theorem qN6 {items:List Value}{h':Heap}:(h'.push { cls:=.type "set_iterator",data:=.fields items.toArray }).objs.size=h'.objs.size + 1:=Heap.size_push ..
theorem fresh_at {h h':Heap} (k:∀ b o,h.get? b=some o→h'.get? b=some o):h.get? h'.objs.size=none:=by
 cases e:h.get? h'.objs.size with
 | none=>rfl
 | some o=>exact absurd (Heap.lt_size (k _ _ e)) (Nat.lt_irrefl _)
theorem qIc (hbt:w.params.followText "set-order" = false) (hp:t.plain=false) (hz:1 < es.size) (hz2:es.size < 1000) (hs:SetAt s.heap S es ep t) (hf:t.fits es.size=true) :
  ∃ (vs:List Value) (d:Drawn),vs.Perm (es.toList.map (·.2))∧∀ {A:Around}{E:Value→Shared→Prop}{Q:Value→Shared→Prop},qKl prog w S s vs d Q→wpAny (model prog w) A (pyIter (.ref S)) Q E s:=by
 revert hbt hp hz hz2 hs hf
 revert s S ep es t
 intros s S ep es t
 intro hbt hp hz hz2 hs hf
 (injection (qDn w es.size (List.range es.size) s (by simp)) with ys d; rintro ⟨hy,hd⟩)
 have lt:∀ j ∈ ys,j < es.size:=fun j hj=>List.mem_range.mp (hy.mem_iff.mp hj)
 have hyl:ys.length=es.size:=by have:=hy.length_eq; simpa using this
 refine ⟨ys.map fun j=>(es.getD j default).2,d,?_,fun {A E Q} hW=>?_⟩
 ·refine (hy.map _).trans (List.Perm.of_eq ?_)
  refine List.ext_getElem (by simp) ?_
  intros i; intro h1 h2
  have:i < es.size:=by simpa using h2
  simp [Array.getD,this]
 ·have hs0:=hs
  (injection (hs) with os; try clear hs; rintro ⟨hos,hex,hds⟩)
  refine qGY hs0 hf ?_
  unfold setDrawn
  refine wpAny_bind (wpAny_bind (wpAny_setState_of hos hds hf ?_))
  dsimp only
  unfold setsByText
  refine wpAny_bind (wpAny_bind (wpAny_askSetting (wpAny_pure ?_)))
  show wpAny _ _ (pure (!w.params.followText "set-order" && (!t.plain && decide (es.size > 1)))) _ _ _
  refine wpAny_pure ?_
  rw [hbt,hp,decide_eq_true hz,show (!false && (!false && true))=true from rfl,if_pos rfl]
  refine wpAny_bind (hd _ _ _ _ ?_)
  refine wpAny_bind (wpAny_newTuple ?_ (by rw [List.length_map,hyl,sizeLine_eq]; lia))
  have hs1:SetAt (s.heap.push { cls:=.type "tuple",data:=.seq (ys.map fun (i:Nat)=>rawInt i).toArray }) S es ep t:=hs0.at fun o e=>Heap.get?_push_of_some _ e
  (injection (id hs1) with os1; rintro ⟨hos1,_,hds1⟩)
  unfold setEpoch
  refine wpAny_bind (wpAny_bind (wpAny_setState_of hos1 hds1 hf (wpAny_pure ?_)))
  dsimp only
  refine wpAny_bind (wpAny_newObj_type (wpAny_pure ⟨_,rfl,"set_iterator",_,⟨_,Heap.get?_push_size _ rfl,rfl⟩,qA8.lookup,?_⟩))
  have hSlt:S < s.heap.objs.size:=Heap.lt_size hos
  have hT1:(s.heap.push { cls:=.type "tuple",data:=.seq (ys.map fun (i:Nat)=>rawInt i).toArray }).objs.size=s.heap.objs.size + 1:=Heap.size_push ..
  have kp:∀ b o,s.heap.get? b=some o→((s.heap.push { cls:=.type "tuple",data:=.seq (ys.map fun (i:Nat)=>rawInt i).toArray }).push { cls:=.type "set_iterator",data:=.fields [Value.ref s.heap.objs.size,rawInt 0,Value.ref S,rawInt es.size,rawInt ep].toArray }).get? b=some o :=
   fun b o e=>Heap.get?_push_of_some _ (Heap.get?_push_of_some _ e)
  dsimp only
  rw [hT1]
  have hfresh1:s.heap.get? (s.heap.objs.size + 1)=none:=by
   have:=fresh_at (h:=s.heap) (h':=s.heap.push { cls:=.type "tuple",data:=.seq (ys.map fun (i:Nat)=>rawInt i).toArray }) fun b o e=>Heap.get?_push_of_some _ e
   rwa [hT1] at this
  refine hW (s.heap.objs.size + 1) _ [s.heap.objs.size + 1,S,s.heap.objs.size] (fun i s'=>SetIt s'.heap (s.heap.objs.size + 1) S (.ref s.heap.objs.size) i es.size ep∧SetAt s'.heap S es ep t∧s'.heap.IsTuple s.heap.objs.size (ys.map fun (i:Nat)=>rawInt i).toArray)
   hfresh1 kp ?_ (by simp) (?_) ⟨?_,?_,?_⟩
  ·(intros b; intro hb)
   simp only [List.mem_cons,List.not_mem_nil,or_false] at hb
   rcases hb with rfl | rfl | rfl
   ·exact .inr hfresh1
   ·exact .inl rfl
   ·exact .inr (fresh_at fun _ _ e=>e)
  ·intros A; intro hh
   refine qH2 hh (Nat.ne_of_lt (Nat.lt_succ_of_lt hSlt)) (Nat.ne_of_lt (Nat.lt_succ_self _)) hf (by simp) ?_
   intros i; intro hi
   rw [List.length_map] at hi
   have hj:=lt ys[i] (List.getElem_mem hi)
   refine ⟨ys[i],0,es[ys[i]].1,es[ys[i]].2,?_,?_,?_⟩
   ·simp [hi,rawInt]
   ·rw [Array.getElem?_eq_getElem hj]
   ·rw [List.getElem?_map,List.getElem?_eq_getElem hi]; simp [Array.getD,hj]
  ·refine ⟨_,by rw [← hT1]; exact Heap.get?_push_size _ rfl,rfl,rfl⟩
  ·exact hs0.at fun o e=>kp _ _ e
  ·exact ⟨_,Heap.get?_push_of_some _ (Heap.get?_push_size _ rfl),rfl,_,rfl⟩
theorem qGX {vs:List Value}{sl:Nat→Nat} (hbt:w.params.followText "set-order" = true∨es.size ≤ 1) (h0:sl 0=0) (hs:SetAt s.heap S es ep t) (hf:t.fits es.size=true)
  (hn:∀ (i:Nat) (s:Shared),SetAt s.heap S es ep t→i ≤ vs.length→qDd prog w s S ep (sl i) i (vs[i]?.map fun v=>(v,sl (i + 1)))) {Q:Value→Shared→Prop} (hW:qKl prog w S s vs s.drawn Q):wpAny (model prog w) A (pyIter (.ref S)) Q E s:=by
 revert hbt h0 hs hf hn hW
 revert A E s S ep es t vs sl Q
 intros A E s S ep es t vs sl Q
 intro hbt h0 hs hf hn hW
 have hs0:=hs
 (injection (hs) with os; try clear hs; rintro ⟨hos,hex,hds⟩)
 refine qGY hs0 hf ?_
 unfold setDrawn
 refine wpAny_bind (wpAny_bind (wpAny_setState_of hos hds hf ?_))
 dsimp only
 unfold setsByText
 refine wpAny_bind (wpAny_bind (wpAny_askSetting (wpAny_pure ?_)))
 show wpAny _ _ (pure (!w.params.followText "set-order" && (!t.plain && decide (es.size > 1)))) _ _ _
 refine wpAny_pure ?_
 have hd:(!w.params.followText "set-order" && (!t.plain && decide (es.size > 1)))=false:=by
  rcases hbt with q | q
  ·rw [q]; rfl
  ·have:decide (es.size > 1)=false:=by simp; lia
   rw [this]; simp
 rw [hd,if_neg Bool.false_ne_true]
 refine wpAny_bind (wpAny_pure ?_)
 unfold setEpoch
 refine wpAny_bind (wpAny_bind (wpAny_setState_of hos hds hf (wpAny_pure ?_)))
 dsimp only
 refine wpAny_bind (wpAny_newObj_type (wpAny_pure ⟨_,rfl,"set_iterator",_,⟨_,Heap.get?_push_size _ rfl,rfl⟩,qA8.lookup,?_⟩))
 have hSlt:S < s.heap.objs.size:=Heap.lt_size hos
 have kp:∀ b o,s.heap.get? b=some o→(s.heap.push { cls:=.type "set_iterator",data:=.fields [rawInt 0,rawInt 0,Value.ref S,rawInt es.size,rawInt ep].toArray }).get? b=some o:=fun b o e=>Heap.get?_push_of_some _ e
 refine hW s.heap.objs.size _ [s.heap.objs.size,S] (fun i s'=>SetIt s'.heap s.heap.objs.size S (.int (sl i) 0) i es.size ep∧SetAt s'.heap S es ep t) (fresh_at fun _ _ e=>e) kp ?_ (by simp) (?_) ⟨?_,?_⟩
 ·(intros b; intro hb)
  simp only [List.mem_cons,List.not_mem_nil,or_false] at hb
  rcases hb with rfl | rfl
  ·exact .inr (fresh_at fun _ _ e=>e)
  ·exact .inl rfl
 ·intros A; intro hh
  exact qIH hh (Nat.ne_of_lt hSlt) hf hn
 ·rw [h0]; exact ⟨_,Heap.get?_push_size _ rfl,rfl,rfl⟩
 ·exact hs0.at fun o e=>kp _ _ e
theorem qKi {α:Type}{xs:Array α} (h:xs.size ≤ 1):xs=#[]∨∃ e,xs=#[e]:=by
 obtain ⟨l⟩:=xs
 cases l with
 | nil=>exact .inl rfl
 | cons e t=>cases t with
  | nil=>exact .inr ⟨e,rfl⟩
  | cons=>exact absurd (Nat.le_of_succ_le_succ h) (Nat.not_succ_le_zero _)
theorem qMr {α:Type}{xs:Array α} (h:xs.size=1):∃ e,xs=#[e]:=by
 rcases qKi (Nat.le_of_eq h) with q | q
 ·rw [q] at h; exact nomatch h
 ·exact q
theorem qLT (hp:t.plain=false∨es.size ≤ 1) (hl:w.params.followText "set-order" = true∨t.led=true) (hz2:es.size < 1000) (hs:SetAt s.heap S es ep t) (hf:t.fits es.size=true) :
  ∃ (vs:List Value) (d:Drawn),vs.Perm (es.toList.map (·.2))∧∀ {A:Around}{E:Value→Shared→Prop}{Q:Value→Shared→Prop},qKl prog w S s vs d Q→wpAny (model prog w) A (pyIter (.ref S)) Q E s:=by
 revert hp hl hz2 hs hf
 revert s S ep es t
 intros s S ep es t
 intro hp hl hz2 hs hf
 cases hbt:w.params.followText "set-order" with
 | true =>
  refine ⟨(pickOrder (w.params.setOrder S ep) es).toList.map (·.2),s.drawn,(qEm _ _).map _,fun {A E Q} hW=>?_⟩
  refine qGX (sl:=fun _=>0) (.inl hbt) rfl hs hf (?_) hW
  intros i s; intro hs hi
  have:=qIg (i:=i) hbt hs hf
  rw [List.getElem?_map,Array.getElem?_toList,Option.map_map]
  exact this
 | false =>
  have hled:t.led=true:=hl.resolve_left (by rw [hbt]; exact Bool.false_ne_true)
  by_cases hz:es.size ≤ 1
  ·refine ⟨es.toList.map (·.2),s.drawn,List.Perm.refl _,fun {A E Q} hW=>?_⟩
   have hpl:t.place.size=es.size:=by
    simp only [SetTable.fits,Bool.and_eq_true,beq_iff_eq] at hf; exact hf.1
   refine qGX (sl:=fun i=>if i=0 then 0 else t.place.getD 0 0 + 1) (.inr hz) rfl hs hf (?_) hW
   intros i s; intro hs hi
   have:=qK7 (i:=i) (sl:=if i=0 then 0 else t.place.getD 0 0 + 1) hbt hled hz hs hf
   rw [List.length_map,Array.length_toList] at hi
   have hcase:=qKi hz
   rcases hcase with rfl | ⟨e,rfl⟩
   ·simpa using this
   ·(injection (qMr hpl) with j; intro hj)
    rw [hj] at this ⊢
    have hi':i=0∨i=1:=by simp at hi; lia
    rcases hi' with rfl | rfl
    ·have b0:SetTable.below #[j] 0=0:=by
      simp [SetTable.below,SetTable.below.go]
     simp only [↓reduceIte] at this ⊢
     rw [b0] at this
     simpa using this
    ·have b1:SetTable.below #[j] (j + 1)=1:=by
      simp [SetTable.below,SetTable.below.go]
     simp at this ⊢
     rw [b1] at this
     simpa using this
  ·have hp':t.plain=false:=hp.resolve_right hz
   exact qIc hbt hp' (by lia) hz2 hs hf
theorem qLz (S l:Addr) (h:l ≠ S):Builtin.List.listSameRef (.ref l) (.ref S)=false:=by simp [Builtin.List.listSameRef,h]
theorem qLU {vs:List Value}{acc:Array Value} (h:ItemsOf (fun i v=>vs[i]?=some v) acc vs.length):acc.toList=vs:=by
 refine List.ext_getElem (by rw [Array.length_toList,h.1]) fun i h1 h2=>?_
 have:=h.2 i acc[i] (Array.getElem?_eq_getElem _)
 have this:vs[i]?=some acc[i]:=this
 rw [List.getElem?_eq_getElem h2] at this
 rw [Array.getElem_toList]
 exact (Option.some.inj this).symm
theorem qHW (hp:t.plain=false∨es.size ≤ 1) (hl:w.params.followText "set-order" = true∨t.led=true) (hz2:es.size < 1000) (hs:SetAt s.heap S es ep t) (hf:t.fits es.size=true) :
  ∃ (vs:List Value) (d:Drawn),vs.Perm (es.toList.map (·.2))∧∀ {A:Around}{E:Value→Shared→Prop}{Q:List Value→Shared→Prop},A.handled=none →
   (∀ h' tk,(∀ b o,s.heap.get? b=some o→h'.get? b=some o)→Q vs { s with heap:=h',toks:=tk,drawn:=d })→wpAny (model prog w) A (collect (.ref S)) Q E s:=by
 revert hp hl hz2 hs hf
 revert s S ep es t
 intros s S ep es t
 intro hp hl hz2 hs hf
 have hs0:=hs
 (injection (hs) with os; try clear hs; rintro ⟨hos,hex,hds⟩)
 have hlt:S < s.heap.objs.size:=Heap.lt_size hos
 have hs1:SetAt (s.heap.push { cls:=.type "list",data:=.seq ([]:List Value).toArray }) S es ep t:=hs0.at fun o e=>Heap.get?_push_of_some _ e
 (injection (qLT (s:={ s with heap:=s.heap.push { cls:=.type "list",data:=.seq ([]:List Value).toArray } }) hp hl hz2 hs1 hf) with vs d; rintro ⟨hperm,hit⟩)
 have hvl:vs.length=es.size:=by have:=hperm.length_eq; simpa using this
 refine ⟨vs,d,hperm,fun {A E Q} hh hQ=>?_⟩
 unfold collect
 refine wpAny_bind (wpAny_runValue (codeAny_builtin F.entry_proto_collect ?_))
 rw [Around.under_plainId F.plain_proto_collect _]
 show wpAny _ A.in1 (newList [] >>= fun l=>again (.builtin "list.__iadd__" ⟨[l,.ref S],[]⟩)) _ _ s
 refine wpAny_bind (wpAny_newObj_type ?_)
 refine wpAny_pure ⟨plainId_quiet F.plain_list_iadd _,codeAny_builtin F.entry_list_iadd ?_⟩
 rw [Around.under_plainId F.plain_list_iadd _]
 show wpAny _ A.in1 (Builtin.List.listExtendWith (.ref s.heap.objs.size) (.ref S) (.ref s.heap.objs.size)) _ _ _
 unfold Builtin.List.listExtendWith
 have hT:∀ {s':Shared},SetAt s'.heap S es ep t→s'.TypeIs (.ref S) "set":=fun ⟨o,ho,hx,_⟩=>⟨o,ho,hx.1⟩
 refine wpAny_bind (wpAny_typeOf (hT hs1) ?_)
 have h1:=qLz S s.heap.objs.size (Nat.ne_of_gt hlt)
 have h2:(Value.type "set" == Value.type "list")=false:=by decide
 have h3:(Value.type "set" == Value.type "tuple")=false:=by decide
 simp only [h1,h2,h3,Bool.or_false,Bool.false_eq_true,if_false]
 refine wpAny_bind (hit fun I h' fp St hI hk hfp hIfp hW hst=>?_)
 have hnS:s.heap.objs.size ∉ fp:=fun q=>by
  rcases hfp _ q with z | z
  ·exact absurd z (Nat.ne_of_gt hlt)
  ·have hS₀:(s.heap.push { cls:=.type "list",data:=.seq ([]:List Value).toArray }).get? s.heap.objs.size=some { cls:=.type "list",data:=.seq ([]:List Value).toArray }:=Heap.get?_push_size _ rfl
   have z':(s.heap.push { cls:=.type "list",data:=.seq ([]:List Value).toArray }).get? s.heap.objs.size=none:=z
   rw [z'] at hS₀; cases hS₀
 have hs2:SetAt h' S es ep t:=hs1.at fun o e=>hk _ _ e
 refine wpAny_bind (wpAny_holding ?_)
 unfold Builtin.List.listLengthHint
 refine wpAny_bind (wpAny_specialOf (hT hs2) F.slot_set_len.lookup ?_)
 generalize hid:("set.__len__":String)=id0
 dsimp only
 rw [show splitId id0=some ("set","__len__") from by subst hid; decide +kernel]
 subst hid
 refine wpAny_bind (wpAny_isInstance (b:=true) (hT hs2) (by rw [isSubtype_type]; kernel_rfl) ?_)
 refine wpAny_bind (wpAny_typeOf (hT hs2) ?_)
 refine wpAny_pure ?_
 show wpAny _ A.in1 (rule "list.extend.makes-room" >>= fun _=>Builtin.List.listTouch (.ref s.heap.objs.size) >>= fun _ =>
  again (.builtin "list.extend.loop" ⟨[.ref s.heap.objs.size,.ref I,.ref s.heap.objs.size],[]⟩)) _ _ _
 refine wpAny_bind (wpAny_rule ?_)
 have hS₁:h'.get? s.heap.objs.size=some { cls:=.type "list",data:=.seq ([]:List Value).toArray }:=hk _ _ (Heap.get?_push_size _ rfl)
 have hIne:s.heap.objs.size ≠ I:=fun e=>by
  have hS₀:(s.heap.push { cls:=.type "list",data:=.seq ([]:List Value).toArray }).get? s.heap.objs.size=some { cls:=.type "list",data:=.seq ([]:List Value).toArray }:=Heap.get?_push_size _ rfl
  rw [e] at hS₀
  have hI':(s.heap.push { cls:=.type "list",data:=.seq ([]:List Value).toArray }).get? I=none:=hI
  rw [hI'] at hS₀; cases hS₀
 refine wpAny_bind ?_
 show wpAny _ A.in1 (updateSeq s.heap.objs.size (·.push .none) >>= fun _=>updateSeq s.heap.objs.size (·.pop)) _ _ _
 refine wpAny_bind (wpAny_updateSeq hS₁ rfl ?_)
 have hS₂:=Heap.get?_update_self (Obj.mapSeq (·.push Value.none)) hS₁ rfl
 refine wpAny_updateSeq hS₂ rfl ?_
 have hS₃:=Heap.get?_update_self (Obj.mapSeq (·.pop)) hS₂ rfl
 have hfpS:s.heap.objs.size ∉ fp:=hnS
 have oth:∀ b o,b ≠ s.heap.objs.size→h'.get? b=some o→((h'.update s.heap.objs.size (Obj.mapSeq (·.push Value.none))).update s.heap.objs.size (Obj.mapSeq (·.pop))).get? b=some o :=
  fun b o hb e=>(Heap.get?_update_other _ _ (Ne.symm hb)).trans ((Heap.get?_update_other _ _ (Ne.symm hb)).trans e)
 have W:=hW A.in1 (by simp [hh])
 refine wpAny_pure ⟨plainId_quiet F.plain_extend_loop _,codeAny_extend_loopS W (by rw [hvl,sizeLine_eq]; lia) _ hfpS _ vs.length 0 _ _ _ rfl (Nat.zero_le _)
  (W.frame 0 ({ s with heap:=h',drawn:=d }:Shared) _ s.toks hst (Nat.le_refl _) fun b hb o e=>oth b o (fun h=>hfpS (h ▸ hb)) e) hS₃ (ItemsOf.nil _) fun s' acc' c' hm hS' hacc=>?_⟩
 show wpAny _ A (load s.heap.objs.size >>= _) _ _ s'
 refine wpAny_bind (wpAny_load hS' ?_)
 refine wpAny_pure ?_
 rw [qLU hacc]
 obtain ⟨h2',g',d',tk',os'⟩:=s'
 have eg:g'=s.gens:=hm.gens
 have ed:d'=d:=hm.drawn
 have eo:os'=s.os:=hm.os
 subst eg; subst ed; subst eo
 refine hQ h2' tk' fun b o e=>hm.heap b o ?_ ?_
 ·have hb:=Heap.lt_size e
  simp only [List.mem_cons,List.not_mem_nil,or_false,not_or]
  refine ⟨Nat.ne_of_lt hb,fun q=>?_⟩
  have hI':(s.heap.push { cls:=.type "list",data:=.seq ([]:List Value).toArray }).get? I=none:=hI
  rw [← q,Heap.get?_push_of_some _ e] at hI'; cases hI'
 ·exact oth b o (Nat.ne_of_lt (Heap.lt_size e)) (hk _ _ (Heap.get?_push_of_some _ e))
end
end Mine.Internal
end
section
open PySem PySem.W PySem.Calls PyProof.Rows
namespace Mine.Internal
section
variable {A:Around}{E:Value→Shared→Prop}{s:Shared}{D:Addr}{kvs:List (Int × Value)}
theorem qGq {Q:List Value→Shared→Prop} (hh:A.handled=none) (hd:(D == sysModules)=false) (hm:s.heap.DictOf (intKind prog w) D kvs) (hz:kvs.length < 1000000)
  (hQ:∀ (acc:Array Value) h' tk,ItemsOf (fun i v=>∃ k x,kvs[i]?=some (k,x)∧(intKind prog w).is k v=true) acc kvs.length→(∀ b o,s.heap.get? b=some o→h'.get? b=some o)→Q acc.toList { s with heap:=h',toks:=tk }) :
  wpAny (model prog w) A (collect (.ref D)) Q E s:=by
 revert hh hd hm hz hQ
 revert A E s D kvs Q
 intros A E s D kvs Q
 intro hh hd hm hz hQ
 injection hm with o es ep; rintro ⟨ho,hx,hdat,hk,hp,hn⟩
 have hs0:s.heap.DictAt (intKind prog w) D kvs ep:=⟨o,es,ho,hx,hdat,hk,hp,hn⟩
 have hlt:D < s.heap.objs.size:=Heap.lt_size ho
 have hs1:(s.heap.push { cls:=.type "list",data:=.seq ([]:List Value).toArray }).DictAt (intKind prog w) D kvs ep:=hs0.at' fun o e=>Heap.get?_push_of_some _ e
 unfold collect
 refine wpAny_bind (wpAny_runValue (codeAny_builtin F.entry_proto_collect ?_))
 rw [Around.under_plainId F.plain_proto_collect _]
 show wpAny _ A.in1 (newList [] >>= fun l=>again (.builtin "list.__iadd__" ⟨[l,.ref D],[]⟩)) _ _ s
 refine wpAny_bind (wpAny_newObj_type ?_)
 refine wpAny_pure ⟨plainId_quiet F.plain_list_iadd _,codeAny_builtin F.entry_list_iadd ?_⟩
 rw [Around.under_plainId F.plain_list_iadd _]
 show wpAny _ A.in1 (Builtin.List.listExtendWith (.ref s.heap.objs.size) (.ref D) (.ref s.heap.objs.size)) _ _ _
 unfold Builtin.List.listExtendWith
 refine wpAny_bind (wpAny_typeOf (T:="dict") hs1.dictOf.typeIs ?_)
 have h1:=qLz D s.heap.objs.size (Nat.ne_of_gt hlt)
 have h2:(Value.type "dict" == Value.type "list")=false:=by decide
 have h3:(Value.type "dict" == Value.type "tuple")=false:=by decide
 simp only [h1,h2,h3,Bool.or_false,Bool.false_eq_true,if_false]
 refine wpAny_bind (wpAny_pyIter_dict hd hs1 ?_)
 have kp:∀ b o,s.heap.get? b=some o→((s.heap.push { cls:=.type "list",data:=.seq ([]:List Value).toArray }).push { cls:=.type "dict_keyiterator",data:=.fields #[.ref D,.int 0 0,.int kvs.length 0,.int ep 0] }).get? b=some o :=
  fun b o e=>Heap.get?_push_of_some _ (Heap.get?_push_of_some _ e)
 have hL:(s.heap.push { cls:=.type "list",data:=.seq ([]:List Value).toArray }).objs.size=s.heap.objs.size + 1:=Heap.size_push ..
 have hs2:((s.heap.push { cls:=.type "list",data:=.seq ([]:List Value).toArray }).push { cls:=.type "dict_keyiterator",data:=.fields #[.ref D,.int 0 0,.int kvs.length 0,.int ep 0] }).DictAt (intKind prog w) D kvs ep:=hs1.at' fun o e=>Heap.get?_push_of_some _ e
 have hit:((s.heap.push { cls:=.type "list",data:=.seq ([]:List Value).toArray }).push { cls:=.type "dict_keyiterator",data:=.fields #[.ref D,.int 0 0,.int kvs.length 0,.int ep 0] }).IsKeyIter (s.heap.objs.size + 1) D 0 kvs.length ep :=
  ⟨_,by rw [← hL]; exact Heap.get?_push_size _ rfl,rfl,rfl⟩
 dsimp only
 rw [hL]
 refine wpAny_bind (wpAny_holding ?_)
 unfold Builtin.List.listLengthHint
 refine wpAny_bind (wpAny_specialOf (T:="dict") hs2.dictOf.typeIs F.slot_dict_len.lookup ?_)
 generalize hid:("dict.__len__":String)=id0
 dsimp only
 rw [show splitId id0=some ("dict","__len__") from by subst hid; decide +kernel]
 subst hid
 refine wpAny_bind (wpAny_isInstance (b:=true) (T:="dict") hs2.dictOf.typeIs (by rw [isSubtype_type]; kernel_rfl) ?_)
 refine wpAny_bind (wpAny_typeOf (T:="dict") hs2.dictOf.typeIs ?_)
 refine wpAny_pure ?_
 show wpAny _ A.in1 (rule "list.extend.makes-room" >>= fun _=>Builtin.List.listTouch (.ref s.heap.objs.size) >>= fun _ =>
  again (.builtin "list.extend.loop" ⟨[.ref s.heap.objs.size,.ref (s.heap.objs.size + 1),.ref s.heap.objs.size],[]⟩)) _ _ _
 refine wpAny_bind (wpAny_rule ?_)
 generalize hh':(s.heap.push { cls:=.type "list",data:=.seq ([]:List Value).toArray }).push { cls:=.type "dict_keyiterator",data:=.fields #[.ref D,.int 0 0,.int kvs.length 0,.int ep 0] }=h' at *
 have hS₁:h'.get? s.heap.objs.size=some { cls:=.type "list",data:=.seq ([]:List Value).toArray }:=by
  rw [← hh']; exact Heap.get?_push_of_some _ (Heap.get?_push_size _ rfl)
 refine wpAny_bind ?_
 show wpAny _ A.in1 (updateSeq s.heap.objs.size (·.push .none) >>= fun _=>updateSeq s.heap.objs.size (·.pop)) _ _ _
 refine wpAny_bind (wpAny_updateSeq hS₁ rfl ?_)
 have hS₂:=Heap.get?_update_self (Obj.mapSeq (·.push Value.none)) hS₁ rfl
 refine wpAny_updateSeq hS₂ rfl ?_
 have hS₃:=Heap.get?_update_self (Obj.mapSeq (·.pop)) hS₂ rfl
 have oth:∀ b o,b ≠ s.heap.objs.size→h'.get? b=some o→((h'.update s.heap.objs.size (Obj.mapSeq (·.push Value.none))).update s.heap.objs.size (Obj.mapSeq (·.pop))).get? b=some o :=
  fun b o hb e=>(Heap.get?_update_other _ _ (Ne.symm hb)).trans ((Heap.get?_update_other _ _ (Ne.symm hb)).trans e)
 have W:=(Walks.dictKeys (prog:=prog) (w:=w) (knd:=intKind prog w) (A:=A.in1) (by simp [hh]) (s.heap.objs.size + 1) D (Nat.ne_of_lt (Nat.lt_succ_of_lt hlt)) kvs ep).toS
 have hfpS:s.heap.objs.size ∉ [s.heap.objs.size + 1,D]:=by
  simp only [List.mem_cons,List.not_mem_nil,or_false,not_or]
  exact ⟨Nat.ne_of_lt (Nat.lt_succ_self _),Nat.ne_of_gt hlt⟩
 refine wpAny_pure ⟨plainId_quiet F.plain_extend_loop _,codeAny_extend_loopS W (by rw [sizeLine_eq]; lia) _ hfpS _ kvs.length 0 _ _ _ rfl (Nat.zero_le _)
  (W.frame 0 ({ s with heap:=h' }:Shared) _ s.toks ⟨hit,hs2⟩ (Nat.le_refl _) fun b hb o e=>oth b o (fun h=>hfpS (h ▸ hb)) e) hS₃ (ItemsOf.nil _) fun s' acc' c' hm hS' hacc=>?_⟩
 show wpAny _ A (load s.heap.objs.size >>= _) _ _ s'
 refine wpAny_bind (wpAny_load hS' ?_)
 refine wpAny_pure ?_
 obtain ⟨h2',g',d',tk',os'⟩:=s'
 have eg:g'=s.gens:=hm.gens
 have ed:d'=s.drawn:=hm.drawn
 have eo:os'=s.os:=hm.os
 subst eg; subst ed; subst eo
 refine hQ _ h2' tk' hacc fun b o e=>hm.heap b o ?_ ?_
 ·have hb:=Heap.lt_size e
  simp only [List.mem_cons,List.not_mem_nil,or_false,not_or]
  exact ⟨Nat.ne_of_lt hb,Nat.ne_of_lt (Nat.lt_succ_of_lt hb)⟩
 ·exact oth b o (Nat.ne_of_lt (Heap.lt_size e)) (kp _ _ e)
end
end Mine.Internal
end
section
open PySem PySem.W PySem.Calls PyProof.Rows
namespace Mine.Internal
theorem qBj:∀ {l m:List AV},l.Pairwise (fun a b=>keyL a < keyL b)→m.Pairwise (fun a b=>keyL a < keyL b)→l.Perm m→l=m
 | [],m,_,_,p=>(List.Perm.nil_eq p)
 | a :: l,[],_,_,p=>by have:=p.length_eq; simp at this
 | a :: l,b :: m,hl,hm,p=>by
  rw [List.pairwise_cons] at hl hm
  have hab:a=b:=by
   have ha:a ∈ b :: m:=p.mem_iff.mp (.head _)
   have hb:b ∈ a :: l:=p.mem_iff.mpr (.head _)
   rcases List.mem_cons.mp ha with q | q
   ·exact q
   ·rcases List.mem_cons.mp hb with z | z
    ·exact z.symm
    ·exact absurd (qEJ (hm.1 a q) (hl.1 b z)) (qBe _)
  subst hab
  rw [qBj hl.2 hm.2 (List.Perm.cons_inv p)]
theorem qIN {l m:List AV} (p:l.Perm m) (h:SameK l):SameK m:=fun a ha b hb=>h a (p.mem_iff.mpr ha) b (p.mem_iff.mpr hb)
theorem qH9 {l m:List AV} (h:SameK l) (nd:l.Nodup) (p:l.Perm m):qAf l=qAf m :=
 qBj (qAu h nd) (qAu (qIN p h) (p.nodup_iff.mp nd)) ((qAi l).trans (p.trans (qAi m).symm))
theorem qG5 {l m:List AV}{f:AV→Bool} (p:l.Perm m):l.all f=m.all f:=by
 rw [Bool.eq_iff_iff,List.all_eq_true,List.all_eq_true]
 exact ⟨fun h x hx=>h x (p.mem_iff.mpr hx),fun h x hx=>h x (p.mem_iff.mp hx)⟩
theorem qFT {l m r:List AV} (p:l.Perm m) (e:qAa l=some r):qAa m=some r:=by
 revert p e
 revert l m r
 intros l m r
 intro p e
 obtain ⟨hc,e⟩:=qAA e
 obtain rfl:=Option.some.inj e
 have hc:=Bool.and_eq_true_iff.mp hc
 have hc1:=Bool.and_eq_true_iff.mp hc.1
 have nd:=qBE.mp hc.2
 have hso:qAy m=true:=by
  have:=hc1.1
  unfold qAy at this ⊢
  rwa [← qG5 p,← qG5 p,← qG5 p]
 refine (if_pos (Bool.and_eq_true_iff.mpr ⟨Bool.and_eq_true_iff.mpr ⟨hso,p.length_eq ▸ hc1.2⟩,qBE.mpr (p.nodup_iff.mp nd)⟩)).trans ?_
 rw [qH9 (qFZ hc1.1) nd p]
section
variable {A:Around}{ψ φ φ₁:List Addr}{H H' H₁:AHeap}{s s₁:Shared}{d:Nat}{E:Value→Shared→Prop}
theorem qKp {h:Heap}{us vs:List Value} (p:us.Perm vs):∀ {l:List AV},VRs X ψ φ h us l→∃ m,l.Perm m∧VRs X ψ φ h vs m:=by
 revert p
 revert ψ φ h us vs
 intros ψ φ h us vs
 intro p
 induction p with
 | nil=>exact fun r=>⟨_,.refl _,r⟩
 | cons x _ ih =>
  intro l r
  cases l with
  | nil=>exact nomatch r
  | cons a l =>
   obtain ⟨_,_,z,rx,r⟩:=r
   have z:=List.cons.inj z
   obtain ⟨m,pm,rm⟩:=ih (z.2 ▸ r)
   exact ⟨a :: m,pm.cons _,VRs.cons (z.1 ▸ rx) rm⟩
 | swap x y t =>
  revert x y t; intros x y t
  (intros l; intro r)
  cases l with
  | nil=>exact nomatch r
  | cons a l=>cases l with
   | nil =>
    obtain ⟨_,_,z,_,r⟩:=r
    exact nomatch (List.cons.inj z).2.trans r
   | cons b l =>
    obtain ⟨_,_,z,ry,_,_,z2,rx,r⟩:=r
    have z:=List.cons.inj z
    have z2:=List.cons.inj (z.2.trans z2)
    exact ⟨_,.swap _ _ _,.cons (z2.1 ▸ rx) (.cons (z.1 ▸ ry) (z2.2 ▸ r))⟩
 | trans _ _ ih1 ih2 =>
  intro l r
  obtain ⟨m,pm,rm⟩:=ih1 r
  obtain ⟨m2,pm2,rm2⟩:=ih2 rm
  exact ⟨m2,pm.trans pm2,rm2⟩
theorem qFU (G:GW X base) (N:SignOk X) (R:Room d A) (trk:Bool) {p:Addr}{c:String}{vs:Array Value}{n:Nat}{l m:List AV} (hc:c = "list"∨c = "tuple") (S:SR X prog w base ψ φ H s.heap) (e1:s.heap.get? p=some (seqObj c vs n))
  (r1:VRs X ψ φ s.heap vs.toList l) (k:l.length < 1000001) (e:qAa l=some m) :
  wpAny (model prog w) A (call (.builtin "sorted") [.ref p]) (Out X prog w base ψ φ s (qAC trk m H).1 (qAC trk m H).2) NoE s :=
 qDJ (dr:=s.drawn) G N R trk S e fun {E Q'} hQ=>wpAny_collect_seq p hc e1 rfl rfl (fun h' g=>hQ _ h' s.toks r1 g) (by rw [qAS r1,qBR]; lia)
theorem qKy (G:GW X base) (N:SignOk X) (hbt:X.byText=w.params.followText "set-order") (R:Room d A) (trk:Bool) {x:Value}{l m:List AV} (S:SR X prog w base ψ φ H s.heap) (r:VR X ψ φ s.heap x (.sset l)) (e:qAa l=some m) :
  wpAny (model prog w) A (call (.builtin "sorted") [x]) (Out X prog w base ψ φ s (qAC trk m H).1 (qAC trk m H).2) NoE s:=by
 obtain ⟨a,o,es,ep,t,us,rfl,ho,hn,hm,hex,hd,hf,pl,led,pm,k,rs⟩:=r
 have hz:es.size < 1000:=by
  rw [← Array.length_toList,← List.length_map (f:=(·.2)),pm.length_eq,rs.length]; exact k
 obtain ⟨vs,dr,hperm,hcol⟩:=qHW (s:=s) pl (hbt ▸ led) hz ⟨o,ho,hex,hd⟩ hf
 obtain ⟨l2,p2,r2⟩:=qKp (pm.symm.trans hperm.symm) rs
 exact qDJ (dr:=dr) G N R trk S (qFT p2 e) fun {E Q'} hQ=>hcol R.handled fun h' tk kp=>hQ _ h' tk r2 kp
theorem qN8 (G:GW X base) (hbt:X.byText=w.params.followText "set-order") (R:Room d A) {x:Value}{L:List AV} (S:SR X prog w base ψ φ H s.heap) (r:VR X ψ φ s.heap x (.lst L)) (h1:L.all isK2=true) (h2:L.length < 7) :
  wpAny (model prog w) A (call (.type "set") [x]) (Out X prog w base ψ φ s (.sset (dedup L)) H) NoE s:=by
 obtain ⟨a,vs,n,rfl,e1,n1,m1,k1,r1⟩:=r
 refine qG0 (ψ:=ψ) (φ:=φ) G hbt (by have:=R.units; show A.units + 1 + 1 + 1 + 64 < _; lia) R.handled e1 r1 h2 h1 fun h' tk es ep t l' LS nd mem pl hk=>?_
 have kp:∀ b o,s.heap.get? b=some o→h'.get? b=some o:=fun b o e=>hk b o (Heap.lt_size e) e
 have hS0:s.heap.get? s.heap.objs.size=none:=fresh_at fun _ _ e=>e
 refine ⟨φ,Post.grown S kp,LS.sset nd mem pl h2 (fun q=>?_) (fun q=>?_) (fun a ha=>.tail _ (.tail _ ha))⟩
 ·obtain ⟨o,e⟩:=S.there q; rw [hS0] at e; exact qA3 e
 ·obtain ⟨o,e⟩:=S.stand _ q; rw [hS0] at e; exact qA3 e
theorem qLS {h:Heap}{ks:List Int}{vs:List Value}{acc:Array Value} (hk:ks.length=vs.length) (it:ItemsOf (fun i v=>∃ k x,(ks.zip vs)[i]?=some (k,x)∧(intKind prog w).is k v=true) acc (ks.zip vs).length) :
  VRs X ψ φ h acc.toList (ks.map AV.int):=by
 revert hk it
 revert ψ φ h ks vs acc
 intros ψ φ h ks vs acc
 intro hk it
 have hl:(ks.zip vs).length=ks.length:=by rw [List.length_zip,← hk,Nat.min_self]
 refine qJ2 ((List.length_map _).trans (hl.symm.trans (it.1.symm.trans Array.length_toList.symm))) ?_
 intros i v; intro e
 rw [Array.getElem?_toList] at e
 (injection (it.2 i v e) with k x; rintro ⟨h1,h2⟩)
 (injection (Value.isInt_shape h2:∃ t,v=.int k t) with t; rintro rfl)
 exact ⟨.int k,by rw [List.getElem?_map,(List.getElem?_zip_eq_some.mp h1).1]; rfl,t,rfl⟩
theorem qI0 {α:Type}:∀ {ks:List Int}{l:List α},ks.length=l.length→(ks.zip l).map (fun p=>AV.int p.1)=ks.map AV.int
 | [],_,_=>rfl
 | _ :: _,[],h=>nomatch h
 | _ :: _,_ :: _,h=>congrArg (List.cons _) (qI0 (Nat.succ.inj h))
theorem qJF (G:GW X base) (N:SignOk X) (R:Room d A) (trk:Bool) {x:Value}{i:Nat}{kvs:List (Int × AV)}{m:List AV} (S:SR X prog w base ψ φ H s.heap) (r:VR X ψ φ s.heap x (.ref i)) (hi:H[i]?=some (.dictI kvs)) (e:qAa (kvs.map fun p=>.int p.1)=some m) :
  wpAny (model prog w) A (call (.builtin "sorted") [x]) (Out X prog w base ψ φ s (qAC trk m H).1 (qAC trk m H).2) NoE s:=by
 obtain ⟨p,rfl,hp⟩:=r
 have hsys:=qJf S hp
 obtain ⟨ks,vs,l,rfl,e1,q,q2,r⟩:=S.obj _ _ _ hp hi
 rw [qI0 (q.trans r.length)] at e
 have hz:(ks.zip vs).length < 1000000:=by
  have h7:=of_decide_eq_true (Bool.and_eq_true_iff.mp (Bool.and_eq_true_iff.mp (qAA e).1).1).2
  rw [List.length_map] at h7
  rw [List.length_zip,← q,Nat.min_self]
  exact Nat.lt_trans h7 (by decide)
 exact qDJ (dr:=s.drawn) G N R trk S e fun {E Q'} hQ=>qGq (A:=A.in1) (kvs:=ks.zip vs) R.handled hsys e1 hz fun acc h' tk it kp=>hQ _ h' tk (qLS q it) kp
theorem qL0 (G:GW X base) (N:SignOk X) (hbt:X.byText=w.params.followText "set-order") (R:Room d A) (trk:Bool) {x:Value}{v:AV}{l m:List AV} (S:SR X prog w base ψ φ H s.heap) (r:VR X ψ φ s.heap x v) (hl:qDK H v=some l) (e:qAa l=some m) :
  wpAny (model prog w) A (call (.builtin "sorted") [x]) (Out X prog w base ψ φ s (qAC trk m H).1 (qAC trk m H).2) NoE s:=by
 revert G N hbt R S r hl e
 revert A ψ φ H s d trk x v l m
 intros A ψ φ H s d trk x v l m
 intro G N hbt R S r hl e
 cases v with
 | sset=>obtain rfl:=Option.some.inj hl; exact qKy G N hbt R trk S r e
 | tup =>
  obtain rfl:=Option.some.inj hl
  obtain ⟨a,vs,n,rfl,e1,_,_,k,r1⟩:=r
  exact qFU G N R trk (.inr rfl) S e1 r1 k e
 | lst =>
  obtain rfl:=Option.some.inj hl
  obtain ⟨a,vs,n,rfl,e1,_,_,k,r1⟩:=r
  exact qFU G N R trk (.inl rfl) S e1 r1 k e
 | ref i =>
  revert r hl; revert i; intros i; intro r hl
  (injection (qA0 hl) with o; rintro ⟨hi,hl⟩)
  cases o with
  | dictI=>obtain rfl:=Option.some.inj hl; exact qJF G N R trk S r hi e
  | list =>
   obtain rfl:=Option.some.inj hl
   (injection (r) with p; try clear r; rintro ⟨rfl,hp⟩)
   obtain ⟨vs,n,e1,q,r1⟩:=S.obj _ _ _ hp hi
   exact qFU G N R trk (.inl rfl) S e1 r1 q e
  | _=>exact qA3 hl
 | _=>exact qA3 hl
theorem qLk (G:GW X base) (N:SignOk X) (hbt:X.byText=w.params.followText "set-order") (d:Nat):SndBi X prog w base d:=by
 intro A b trk xs as r ψ φ H s R S ra e
 by_cases hb1:b=.sorted
 ·subst hb1
  obtain ⟨v,h1,e⟩:=qA0 e
  obtain ⟨l,h2,e⟩:=qA0 e
  obtain ⟨m,h3,e⟩:=qA4 e
  obtain ⟨x,rfl,rx⟩:=ra.one_of h1
  rw [← e]
  exact qL0 G N hbt R trk S rx h2 h3
 ·by_cases hb2:b=.set
  ·subst hb2
   obtain ⟨v,h1,e⟩:=qA0 e
   obtain ⟨l,h2,e⟩:=qA0 e
   obtain ⟨hc,e⟩:=qAA e
   obtain ⟨x,rfl,rx⟩:=ra.one_of h1
   rw [← Option.some.inj e]
   have hc:=Bool.and_eq_true_iff.mp hc
   exact qN8 G hbt R S (qBc h2 ▸ rx) hc.1 (of_decide_eq_true hc.2)
  ·exact qKc G R S ra e hb1 hb2
end
end Mine.Internal
end
section
open PySem PySem.W PyProof.Rows
namespace Mine.Internal
set_option tactic.hygienic true in
set_option hygiene true in
theorem qMh {a:Nat}{fn:FnC} (h1:qKa X a=some fn.body) (h2:qLv X a fn.params fn.dflt=true):FnOk X a fn:=by
 revert h1 h2
 revert a fn
 intros a fn
 intro h1 h2
 injection qA0 h1 with o; rintro ⟨e,g1⟩
 injection qA0 g1 with fd; rintro ⟨e1,g2⟩
 injection qA0 g2 with body; rintro ⟨hb,g3⟩
 have h3:(some o).any (fun o=>(fnOf o.data).any fun fd=>restF X fd fn.params fn.dflt)=true:=e ▸ h2
 have h2:(some fd).any (fun fd=>restF X fd fn.params fn.dflt)=true:=e1 ▸ h3
 have h2:restF X fd fn.params fn.dflt=true:=h2
 have e:X.K.lookup a=some ⟨o.cls,o.dict,.func fd,o.slots⟩:=by rw [e,← qLb e1]
 unfold restF at h2
 simp only [Bool.and_eq_true,decide_eq_true_eq,Bool.not_eq_true',List.isEmpty_iff,Option.isNone_iff_eq_none,List.all_eq_true,Bool.or_eq_true] at h2
 obtain ⟨⟨⟨⟨⟨⟨⟨⟨⟨⟨⟨⟨⟨⟨⟨p1,p2⟩,p3⟩,p4⟩,p5⟩,p6⟩,p7⟩,p8⟩,p9⟩,p10⟩,p11⟩,p12⟩,p13⟩,p14⟩,p15⟩,p16⟩:=h2
 refine ⟨o.cls,o.dict,fd,o.slots,body,_,e,qKx hb,g3,⟨p1,p2,p3,p4,rfl,p5⟩,p6,p7,p8,p9,p10,p11,p12,p13,p14,p15,?_⟩
 by_cases hd:fn.dflt=true
 ·rw [if_pos hd] at p16
  obtain ⟨T,e3,p16⟩:=qCC p16
  obtain ⟨o2,e4,p16⟩:=qCC p16
  have p16:=Bool.and_eq_true_iff.mp p16
  obtain ⟨n,e5⟩:=qHI p16.1
  refine .inr ⟨hd,T,o2,n,qJP e3,e4,e5,fun q=>?_⟩
  rw [List.map_eq_nil_iff] at q
  rw [q] at p16
  cases p16.2
 ·rw [if_neg hd] at p16
  exact .inl ⟨Bool.eq_false_iff.mpr hd,of_decide_eq_true p16⟩
theorem qBn {α β:Type} [BEq α] [LawfulBEq α] {k:α}{v:β}:∀ {l:List (α × β)},l.lookup k=some v→(k,v) ∈ l
 | [],e=>by cases e
 | (k',v') :: r,e=>by
  rw [List.lookup_cons] at e
  split at e
  ·rename_i q; cases e; rw [beq_iff_eq.mp q]; exact .head _
  ·exact .tail _ (qBn e)
section
theorem qM1 {α β:Type}{f g:α→β}:∀ {l:List α},l.map f=l.map g→∀ x ∈ l,f x=g x
 | _ :: _,e,_,.head _=>(List.cons.inj e).1
 | _ :: _,e,_,.tail _ m=>qM1 (List.cons.inj e).2 _ m
theorem fv_of (h:qE7 X P=qEO P):FV X P:=by
 have h1:=congrArg (·.1) h
 have h2:(qE7 X P).2=true:=congrArg (·.2) h
 refine ⟨fun f fn a e1 e2=>?_⟩
 have hm:=qBn e1
 have hb:(X.fns[f]?).bind (qKa X)=some fn.body:=qM1 h1 _ hm
 rw [e2] at hb
 refine qMh hb ?_
 have:=List.all_eq_true.mp (Bool.and_eq_true_iff.mp (Bool.and_eq_true_iff.mp (Bool.and_eq_true_iff.mp h2).1).1).1 _ hm
 dsimp only at this
 rw [e2] at this
 exact this
set_option tactic.hygienic true in
set_option hygiene true in
theorem pv_of (h:qE7 X P=qEO P) (init:X.names[6]?=some (PySem.Str.ofString "__init__")) (mn:X.names[0]?=some (PySem.Str.ofString "append")∧X.names[1]?=some (PySem.Str.ofString "pop")∧X.names[2]?=some (PySem.Str.ofString "remove") ∧
  X.names[3]?=some (PySem.Str.ofString "extend")∧X.names[4]?=some (PySem.Str.ofString "get")∧X.names[5]?=some (PySem.Str.ofString "setdefault")):PV X P:=by
 have h2:(qE7 X P).2=true:=congrArg (·.2) h
 have h3:=Bool.and_eq_true_iff.mp (Bool.and_eq_true_iff.mp h2).1
 refine ⟨fun c m f e=>?_,fun c a e=>?_,fun c f e=>?_,init,mn⟩
 ·have h:=List.all_eq_true.mp (Bool.and_eq_true_iff.mp h3.1).2 _ (qBn (l:=P.mts) (k:=(c,m)) e)
  obtain ⟨C,h1,h⟩:=qCC h
  obtain ⟨a,h2,h⟩:=qCC h
  obtain ⟨x,h3,h⟩:=qCC h
  rw [Bool.and_eq_true,Bool.and_eq_true,Bool.and_eq_true] at h
  exact ⟨C,a,x,h1,h2,h3,h.1.1.1,of_decide_eq_true h.1.1.2,of_decide_eq_true h.1.2,h.2⟩
 ·unfold qDp at e
  obtain ⟨q,hq,e⟩:=List.any_eq_true.mp e
  rw [Bool.and_eq_true] at e
  rw [← beq_iff_eq.mp e.1,← beq_iff_eq.mp e.2]
  have h:=List.all_eq_true.mp h3.2 _ hq
  obtain ⟨C,h1,h⟩:=qCC h
  obtain ⟨x,h2,h⟩:=qCC h
  rw [Bool.and_eq_true,Bool.and_eq_true,Bool.and_eq_true,Bool.and_eq_true] at h
  exact ⟨C,x,h1,h2,h.1.1.1.1,h.1.1.1.2,of_decide_eq_true h.1.1.2,of_decide_eq_true h.1.2,h.2⟩
 ·have h:=List.all_eq_true.mp (Bool.and_eq_true_iff.mp h2).2 _ (qBn (l:=P.mts) (k:=(c,6)) e)
  rw [Bool.or_eq_true] at h
  have h:=h.resolve_left (show ¬ ((6:Nat) != 6)=true by decide)
  obtain ⟨C,h1,h⟩:=qCC h
  rw [Bool.and_eq_true] at h
  exact ⟨C,h1,h.1,h.2⟩
end
theorem qHh {ψ φ:List Addr}{h:Heap}:∀ {vs:List Value}{is:List Int},IntsAre vs is→VRs X ψ φ h vs (is.map AV.int)
 | _,_,.nil=>.nil
 | _,_,.cons n t r=>.cons (.int n t) (qHh r)
end Mine.Internal
end
section
open PySem PySem.W PyProof.Rows
namespace Mine.Internal
theorem qHJ:qCt.Nodup:=by decide +kernel
theorem qLL:qCt.all PyData.strOk=true:=by decide +kernel
theorem qL2:([7,8,9,10].all fun i=>[7,8,9,10].all fun j=>match qCt[i]?,qCt[j]? with
 | some x,some y=>decide (x.cps.toList < y.cps.toList) == decide (i < j)
 | _,_=>true)=true:=by decide +kernel
theorem qHk {i:Nat} (h1:7 ≤ i) (h2:i ≤ 10):i ∈ [7,8,9,10]:=by
 show i ∈ List.range' 7 4
 exact List.mem_range'_1.mpr ⟨h1,Nat.lt_succ_of_le h2⟩
theorem qMK (h:X.names=qCt):SignOk X:=by
 refine ⟨fun i j x y h1 h2 h3 h4 e1 e2=>?_⟩
 have hi:=qHk h1 h2
 have hj:=qHk h3 h4
 have q:=List.all_eq_true.mp (List.all_eq_true.mp qL2 i hi) j hj
 rw [show qCt[i]?=some x from h ▸ e1,show qCt[j]?=some y from h ▸ e2] at q
 exact beq_iff_eq.mp q
namespace Hd
noncomputable def view:Program:=qMz PySem.Challenge.pw_pc0041_02 [1,14,17,20,22]
noncomputable def loose:List Str:=[PySem.Str.ofString "has_domains"]
noncomputable def Xt (s:Shared):Bool:=xlAt view [] s && recOk (RowW.records PySem.Challenge.rw_pc0041_02.row.toRowW) s
noncomputable def hook:Hook:=qLN (fun K=>(nsIn K mainGlobals (PySem.Str.ofString "law"),fun b=>qE7 (mkX K b) PP)) (some (some (.ref 451)),fun _=>qEO PP)
theorem look (w:World):(fun os=>(runG (stepOk 11 (some (.ref 6))) (stepT (denote treeTable) PySem.Challenge.pw_pc0041_02 w) 4000 ⟨bootT w.params,11,{},Array.mk [],boot_drawn,boot_toks,os⟩ (topStub PySem.Challenge.pw_pc0041_02)).map fun s =>
    (staticsOk (importedModules PySem.Challenge.pw_pc0041_02.main.body) (boot_heap w.params) s.abs.heap && namesBound PySem.Challenge.pw_pc0041_02 s.abs.heap && gensDone s.abs && laidKept (boot_heap w.params) s.abs.heap,
     openSeen view loose (importedModules PySem.Challenge.pw_pc0041_02.main.body) Xt true s.abs,hook.obs s.abs))=fun _=>some (true,openGood view loose,hook.val w):=by
 rw [PySem.W.Fast.te10156331382660048174,PySem.W.Fast.te11892475500146522536,PySem.W.Fast.te14364793385576792824,PySem.W.Fast.te6613529449190102663,PySem.W.Fast.te4187177175401517315,PySem.W.Fast.te5923862056798008813]
 kernel_rfl
theorem left:LeftO PySem.Challenge.pw_pc0041_02 view loose Xt hook.obs hook.val 8000 :=
 qMb (boot_open (by kernel_rfl) (by decide) (fun _=>by kernel_rfl)) qKZ qMn (by decide) look
noncomputable def dL:DefRec:=match defOf view (PySem.Str.ofString "law") with
 | some d=>d.1
 | none=>⟨PySem.Str.ofString "",default,[],default,default⟩
theorem d_is:defOf view (PySem.Str.ofString "law")=some (dL,[]):=by kernel_rfl
theorem d_name:dL.name=PySem.Str.ofString "law":=by kernel_rfl
theorem said:PySem.Challenge.rw_pc0041_02.wellSaid=true:=by kernel_rfl
theorem top (hc:WalkO view loose (XL view []) hook.says PySem.Challenge.rw_pc0041_02.row.toRowW dL [] fun f vs=>call f vs):PySem.Challenge.rw_pc0041_02.Holds:=by
 refine holds_law said fun said=>?_
 refine W.holds_open (r:=PySem.Challenge.rw_pc0041_02.row) (q:=view) (loose:=loose) (Xt:=Xt) (XP:=XL view []) (Yf:=hook.obs) (Ya:=hook.val) (YP:=hook.says) (d:=dL) (kwd:=[]) (N:=8000) left hook.of hook.keeps
  (fun s e=>xl_of s (Bool.and_eq_true_iff.mp e).1) XL.keeps d_is (by kernel_rfl) (by kernel_rfl) (fun s e=>recFacts_of (Bool.and_eq_true_iff.mp e).2) (by decide) (by first | assumption | decide +kernel) (by decide +kernel) ⟨rfl,rfl,rfl,rfl,rfl,by decide +kernel⟩ ?_ hc
 w_witness2
end Hd
end Mine.Internal
end
section
open PySem PySem.W PyProof.Rows
namespace Mine.Internal
set_option tactic.hygienic true in
set_option hygiene true in
theorem qIU {K:Frag}{h:Heap}{a:Addr}{m:Str→Option Value}{x:Str}{v:Value} (k:K.In h) (n:h.Ns a m) (e:nsIn K a x=some (some v)):m x=some v:=by
 revert k n e
 revert K h a m x v
 intros K h a m x v
 intro k n e
 (injection (n) with o es ep; try clear n; rintro ⟨ho,hd,_,hf⟩)
 unfold nsIn at e
 split at e
 ·rename_i c d es' n' sl hl
  revert hl e; revert c d es' n' sl; intros c d es' n' sl; intro hl e
  have:=k _ _ hl
  rw [ho] at this
  cases this
  cases hd
  rw [← hf x]
  unfold nsFind findBy
  rw [← Array.find?_toList]
  split at e
  ·rename_i en he
   revert he e; revert en; intros en; intro he e
   cases e
   rw [he]; rfl
  ·split at e <;> cases e
 ·cases e
theorem qLR:LE t0.1 t0.2.1 t0.2.2.1 t0.2.2.2:=by
 have hp:t0.2.1=prog:=by unfold prog; rfl
 have hw:t0.2.2.1=w:=by unfold w; rfl
 have hbs:t0.2.2.2.heap=base:=by unfold base; rfl
 have hX:X=mkX t0.1 (w.params.followText "set-order"):=by unfold X; rfl
 have hP:P=PP:=by unfold P; rfl
 rw [hp,hw]
 generalize t0.1=K at hX ⊢
 generalize t0.2.2.2=s at hbs ⊢
 intro loose mean prog' fa l vs is mg mb E Q KX hL hK T hmg hl hi hn plain hQ
 obtain ⟨H',hp⟩:=plain
 rw [← hP] at hp hK
 have hs:qE7 X P=qEO P:=by rw [hX]; exact congrFun hK _
 have hN:X.names=qCt:=by rw [hX]; rfl
 have hF:X.fns=qME:=by rw [hX]; rfl
 have G:GW X base:=by rw [← hbs]; exact ⟨by rw [hX]; exact KX,T.nolimit,⟨mg,T.g⟩,⟨mb,T.b,T.builtins⟩,by rw [hN]; exact qHJ,by rw [hN]; exact qLL⟩
 have FVX:=fv_of hs
 have f0:X.fns[39]?=some 451:=by rw [hF]; rfl
 have hfa:fa=451:=by
  have:=qIU KX T.g hL
  rw [hmg] at this
  cases this; rfl
 subst hfa
 have S:SR X prog w base [] [] [] s.heap:=by rw [hbs]; exact ⟨fun _ _ e=>e,rfl,List.nodup_nil,fun _ q=>(qA9 q),fun _ q=>(qA9 q),fun _ q=>(qA9 q),fun i a o e _=>by simp at e⟩
 have r:VRs X [] [] s.heap [.ref l] [.lst (is.map .int)]:=.cons (.lst hl (by simp) (by simp) (by simp; omega) (by rw [List.toList_toArray]; exact qHh hi)) .nil
 have C:SndCF X prog w base 12 (callF P 12):=qHb G (pv_of hs (by rw [hN]; rfl) (by rw [hN]; exact ⟨rfl,rfl,rfl,rfl,rfl,rfl⟩)) FVX (fun d=>qLk G (qMK hN) (by rw [hX]; rfl) d) 12
 refine wpAny_mono (C.call (A:=callerA) (f:=39) (a:=451) f0 ⟨rfl,by decide +kernel,by decide +kernel⟩ S r hp) (fun v s' q=>?_) fun _ _ e=>e.elim
 obtain ⟨φ',p,rv⟩:=q
 cases rv
 have hs:=p.same
 refine hQ s' (hbs ▸ p.sr.keep) ?_ ?_ <;> rw [hs]
set_option tactic.hygienic true in
set_option hygiene true in
theorem seal2 (h:∀ is:List Int,is.length ≤ 63→∃ H',callF PP 12 39 [.lst (is.map .int)] []=some (.bool true,H')):PySem.Challenge.rw_pc0041_02.Holds:=by
 refine Hd.top ?_
 unfold WalkO
 intro w s₀ s₁ mg mb G Y fa o pm cd doc dV kV ho hd hcd hD hmg hg args vals as hpre hlay hrd hwl hlo
 obtain ⟨K,KX,hK⟩:=Y
 have T:=G.T
 have hmg':mg (PySem.Str.ofString "law")=some (.ref fa):=by rw [← Hd.d_name]; exact hmg
 clear hD hd hcd G hmg ho
 wrow_args hpre hlay hrd hwl hlo
 rename_i is _ _ _ _ _ _ _ l vs _ hL _ w1 _ hI _ hn _
 have hl:∃ us,s₁.heap.get? l=some (seqObj "list" us 0)∧us.toList=vs:=by
  obtain ⟨o,h1,h2,n,h3⟩:=hL
  cases w1 with
  | list e1 _ =>
   rw [h1] at e1; cases e1
   exact ⟨_,h1,by cases h3; rfl⟩
 obtain ⟨us,hl,rfl⟩:=hl
 refine qN3 qLR _ _ _ _ KX (congrArg (·.1) hK) (congrArg (·.2) hK) T hmg' (by rw [Array.toArray_toList]; exact hl) hI (by omega) (h is (by omega)) fun s' k ho hg'=>?_
 refine ⟨.inl ⟨.bool true,.bool true,[],rfl,fun _=>rfl,.bool true,by wrow_post,fun _=>⟨List.nodup_nil,fun _ q=>(qA9 q)⟩⟩,.of_keep k,ho,.of_eq (hg'.trans hg)⟩
end Mine.Internal
end
section
namespace Mine.Internal.L
@[simp] theorem qBs {α β γ:Type} (a:α) (b:β) (f:α→β→Option γ):bnd (some (a,b)) f=f a b:=rfl
@[simp] theorem qNo {α β γ:Type} (f:α→β→Option γ):bnd none f=none:=rfl
section
variable {P:Prog}{cf:qAQ}{n:Nat}{ρ:Rho}{H:AHeap}
@[simp] theorem e_lit {v}:evE P cf (n + 1) (.lit v) ρ H=some (v,H):=rfl
@[simp] theorem e_var {x}:evE P cf (n + 1) (.var x) ρ H=(ρ.lookup x).map fun v=>(v,H):=rfl
@[simp] theorem e_bin {op t a b}:evE P cf (n + 1) (.bin op t a b) ρ H=bnd (evE P cf n a ρ H) fun x H=>bnd (evE P cf n b ρ H) fun y H=>(binAV op x y).map fun z=>trkAV t z H:=rfl
@[simp] theorem e_neg {a}:evE P cf (n + 1) (.neg a) ρ H=bnd (evE P cf n a ρ H) fun x H=>(intOf x).map fun i=>(.int (-i),H):=rfl
@[simp] theorem e_not {a}:evE P cf (n + 1) (.not a) ρ H=bnd (evE P cf n a ρ H) fun x H=>(qAY x).map fun b=>(.bool !b,H):=rfl
@[simp] theorem e_cmp {op a b}:evE P cf (n + 1) (.cmp op a b) ρ H=bnd (evE P cf n a ρ H) fun x H=>bnd (evE P cf n b ρ H) fun y H=>(cmpAV op x y H).map fun b=>(.bool b,H):=rfl
@[simp] theorem qOQ {es}:evE P cf (n + 1) (.band es) ρ H=evAnd (evE P cf n) es ρ H:=rfl
@[simp] theorem e_ite {t a b}:evE P cf (n + 1) (.ite t a b) ρ H=bnd (evE P cf n t ρ H) fun x H=>(qAY x).bind fun c=>if c then evE P cf n a ρ H else evE P cf n b ρ H:=rfl
@[simp] theorem e_tup {es}:evE P cf (n + 1) (.tup es) ρ H=bnd (evEs (evE P cf n) es ρ H) fun vs H=>some (.tup vs,H):=rfl
@[simp] theorem e_lst {t es}:evE P cf (n + 1) (.lst t es) ρ H=bnd (evEs (evE P cf n) es ρ H) fun vs H=>some (qAC t vs H):=rfl
@[simp] theorem qOO {vs}:evE P cf (n + 1) (.dct [] vs) ρ H=some (alloc H (.dictI [])):=rfl
@[simp] theorem e_dct {k ks vs}:evE P cf (n + 1) (.dct (k :: ks) vs) ρ H=bnd (qB6 (evE P cf n) (k :: ks) vs ρ H) fun kvs H=>(qBI kvs).map fun d=>alloc H (.dictS d):=rfl
@[simp] theorem qOP {t en elt tg it ifs}:evE P cf (n + 1) (.comp t en elt tg it ifs) ρ H=bnd (evE P cf n it ρ H) fun x H=>bnd (iterE en H x) fun xs src=>bnd (compLoop (evE P cf n) elt tg ifs H src xs ρ H) fun vs H=>some (qAC t vs H):=rfl
@[simp] theorem qKL {f es}:evE P cf (n + 1) (.callF f es) ρ H=bnd (evEs (evE P cf n) es ρ H) fun vs H=>cf f vs H:=rfl
@[simp] theorem qO5 {o m es}:evE P cf (n + 1) (.callM o m es) ρ H=bnd (evE P cf n o ρ H) fun v H=>qHw P cf (evE P cf n) m es ρ v H:=rfl
@[simp] theorem e_bi {b t es}:evE P cf (n + 1) (.bi b t es) ρ H=bnd (evEs (evE P cf n) es ρ H) fun vs H=>biAV b t vs H:=rfl
@[simp] theorem e_new {c}:evE P cf (n + 1) (.new c) ρ H=(mtOf P c 6).bind fun f=>bnd (cf f [.inst c H.length] (H ++ [.ns []])) fun r H'=>if qFn r then some (.inst c H.length,H') else none:=rfl
@[simp] theorem qOR {o a}:evE P cf (n + 1) (.attr o a) ρ H=bnd (evE P cf n o ρ H) fun v H=>(qAD P v a H).map fun x=>(x,H):=rfl
@[simp] theorem e_sub {o i}:evE P cf (n + 1) (.sub o i) ρ H=bnd (evE P cf n o ρ H) fun x H=>bnd (evE P cf n i ρ H) fun y H=>(subAV x y H).map fun z=>(z,H):=rfl
@[simp] theorem qO4 {t o lo hi}:evE P cf (n + 1) (.slice t o lo hi) ρ H=bnd (evE P cf n o ρ H) fun x H=>bnd (evOpt (evE P cf n) lo ρ H) fun a H=>bnd (evOpt (evE P cf n) hi ρ H) fun b H=>(qAI H x).map fun l=>qAC t (qAb l a b) H:=rfl
@[simp] theorem qMV {ev m es c i}:qHw P cf ev m es ρ (.inst c i) H=(mtOf P c m).bind fun f=>if qAj i m H then bnd (evEs ev es ρ H) fun vs H=>cf f (.inst c i :: vs) H else none:=rfl
@[simp] theorem qMu {ev m es i}:qHw P cf ev m es ρ (.ref i) H=if qDh H i m then bnd (evEs ev es ρ H) fun vs H=>qAr i m vs H else none:=rfl
@[simp] theorem isNone_none:qFn .none=true:=rfl
end
section
variable {P:Prog}{cf:qAQ}{n:Nat}{ρ:Rho}{H:AHeap}{ev:CE→Rho→AHeap→Option (AV × AHeap)}
@[simp] theorem qM8:evEs ev [] ρ H=some ([],H):=rfl
@[simp] theorem qKF {e r}:evEs ev (e :: r) ρ H=bnd (ev e ρ H) fun v H=>bnd (evEs ev r ρ H) fun vs H=>some (v :: vs,H):=rfl
@[simp] theorem qOM:qB6 ev [] [] ρ H=some ([],H):=rfl
@[simp] theorem qO2 {k ks e r}:qB6 ev (k :: ks) (e :: r) ρ H=bnd (ev k ρ H) fun kv H=>bnd (ev e ρ H) fun v H=>bnd (qB6 ev ks r ρ H) fun vs H=>some ((kv,v) :: vs,H):=rfl
@[simp] theorem qON:evAnd ev [] ρ H=some (.bool true,H):=rfl
@[simp] theorem qO3 {e r}:evAnd ev (e :: r) ρ H=bnd (ev e ρ H) fun v H=>(qAY v).bind fun b=>if b then evAnd ev r ρ H else some (.bool false,H):=rfl
@[simp] theorem qOL:qCf ev [] ρ H=some (true,H):=rfl
@[simp] theorem qO1 {e r}:qCf ev (e :: r) ρ H=bnd (ev e ρ H) fun v H=>(qAY v).bind fun b=>if b then qCf ev r ρ H else some (false,H):=rfl
@[simp] theorem qNw:evOpt ev none ρ H=some (none,H):=rfl
@[simp] theorem qNv {e}:evOpt ev (some e) ρ H=bnd (ev e ρ H) fun v H=>(intOf v).bind fun i=>if small i then some (some i,H) else none:=rfl
theorem qCk {elt t ifs H0 src x xs}:compLoop ev elt t ifs H0 src (x :: xs) ρ H=if qB9 H0 H src then (qC9 t x ρ).bind fun ρ=>bnd (qCf ev ifs ρ H) fun ok H=>if ok then bnd (ev elt ρ H) fun v H=>bnd (compLoop ev elt t ifs H0 src xs ρ H) fun vs H=>some (v :: vs,H) else compLoop ev elt t ifs H0 src xs ρ H else none:=rfl
theorem qEe {elt t ifs H0 src}:compLoop ev elt t ifs H0 src [] ρ H=if qB9 H0 H src then some ([],H) else none:=rfl
@[simp] theorem qD6 {γ:Type} (a b c) (f:Fl→Rho→AHeap→Option γ):bnd3 (some (a,b,c)) f=f a b c:=rfl
@[simp] theorem qCZ {k}:qDf .next ρ H k=k ρ H:=rfl
@[simp] theorem qEy {v k}:qDf (.ret v) ρ H k=some (.ret v,ρ,H):=rfl
@[simp] theorem qJB {es}:evSs es [] ρ H=some (.next,ρ,H):=rfl
@[simp] theorem qE4 {es c r}:evSs es (c :: r) ρ H=bnd3 (es c ρ H) fun f ρ H=>qDf f ρ H fun ρ H=>evSs es r ρ H:=rfl
theorem qI6 {body t H0 src}:forLoop body t H0 src [] ρ H=if qB9 H0 H src then some (.next,ρ,H) else none:=rfl
theorem qDX {body t H0 src x xs}:forLoop body t H0 src (x :: xs) ρ H=if qB9 H0 H src then (qC9 t x ρ).bind fun ρ=>bnd3 (body ρ H) fun f ρ H=>qDf f ρ H fun ρ H=>forLoop body t H0 src xs ρ H else none:=rfl
theorem qJ1 {test body k}:whileLoop test body (k + 1) ρ H=bnd (test ρ H) fun v H=>(qAY v).bind fun b=>if b then bnd3 (body ρ H) fun f ρ H=>qDf f ρ H fun ρ H=>whileLoop test body k ρ H else some (.next,ρ,H):=rfl
@[simp] theorem qOE:evS P cf (n + 1) (.ret none) ρ H=some (.ret .none,ρ,H):=rfl
@[simp] theorem s_ret {e}:evS P cf (n + 1) (.ret (some e)) ρ H=bnd (evE P cf 40 e ρ H) fun v H=>some (.ret v,ρ,H):=rfl
@[simp] theorem qNA {e}:evS P cf (n + 1) (.expr e) ρ H=bnd (evE P cf 40 e ρ H) fun _ H=>some (.next,ρ,H):=rfl
@[simp] theorem s_asg {t e}:evS P cf (n + 1) (.asg t e) ρ H=bnd (evE P cf 40 e ρ H) fun v H=>bnd (qDA P (evE P cf 40) t v ρ H) fun ρ H=>some (.next,ρ,H):=rfl
@[simp] theorem s_ife {t a b}:evS P cf (n + 1) (.ife t a b) ρ H=bnd (evE P cf 40 t ρ H) fun v H=>(qAY v).bind fun c=>if c then evSs (evS P cf n) a ρ H else evSs (evS P cf n) b ρ H:=rfl
@[simp] theorem s_for {en t it body}:evS P cf (n + 1) (.for en t it body) ρ H=bnd (evE P cf 40 it ρ H) fun v H=>bnd (iterE en H v) fun xs src=>forLoop (evSs (evS P cf n) body) t H src xs ρ H:=rfl
@[simp] theorem s_whl {t body}:evS P cf (n + 1) (.whl t body) ρ H=whileLoop (evE P cf 40 t) (evSs (evS P cf n) body) 1000 ρ H:=rfl
@[simp] theorem qNg {x v}:qCS P ev (.name x) v ρ H=some (upd x v ρ,H):=rfl
@[simp] theorem qOc {o a v}:qCS P ev (.attr o a) v ρ H=bnd (ev o ρ H) fun ov H=>(qBu P ov a v H).map fun H=>(ρ,H):=rfl
@[simp] theorem a_sub {o i v}:qCS P ev (.sub o i) v ρ H=bnd (ev o ρ H) fun ov H=>bnd (ev i ρ H) fun iv H=>(qBA ov iv v H).map fun H=>(ρ,H):=rfl
@[simp] theorem qNf:qBJ P ev [] [] ρ H=some (ρ,H):=rfl
@[simp] theorem qMs {t ts v vs}:qBJ P ev (t :: ts) (v :: vs) ρ H=bnd (qCS P ev t v ρ H) fun ρ H=>qBJ P ev ts vs ρ H:=rfl
@[simp] theorem qNa {ts vs}:qDA P ev (.tup ts) (.tup vs) ρ H=qBJ P ev ts vs ρ H:=rfl
@[simp] theorem qHe {x v}:qDA P ev (.name x) v ρ H=some (upd x v ρ,H):=rfl
@[simp] theorem qOA {o a v}:qDA P ev (.attr o a) v ρ H=qCS P ev (.attr o a) v ρ H:=rfl
@[simp] theorem qOZ {o i v}:qDA P ev (.sub o i) v ρ H=qCS P ev (.sub o i) v ρ H:=rfl
end
theorem qGe (H:AHeap):qEM H H=true:=(qEL _ _).mpr rfl
noncomputable def outS (r:StRes):Option (Fl × AHeap):=bnd3 r fun f _ H=>some (f,H)
@[simp] theorem qGN (f:Fl) (ρ:Rho) (H:AHeap):outS (some (f,ρ,H))=some (f,H):=rfl
theorem qDQ {r:StRes}{f:Fl}{H:AHeap} (h:outS r=some (f,H)):∃ ρ,r=some (f,ρ,H):=by
 obtain ⟨f',ρ,H',e,h⟩:=qBt h
 have h:=qA7 h
 exact ⟨ρ,by rw [e,h.1,h.2]⟩
section
variable {P:Prog}{d f:Nat}{fn:FnC}{args:List AV}{H H':AHeap}{ρ ρ':Rho}{fl:Fl}{v:AV}
theorem qG1 (hl:P.fns.lookup f=some fn) (hb:bindP fn.params fn.dflt args=some ρ):callF P (d + 1) f args H=if fn.pure && qAO args then bnd3 (evSs (evS P (callF P d) 20) fn.body ρ []) fun f _ H'=>(qBG [] H' (flVal f)).map fun v=>(v,H)
  else bnd3 (evSs (evS P (callF P d) 20) fn.body ρ H) fun f _ H'=>if fn.pure then if qEM (H'.take H.length) H then (qBG H H' (flVal f)).map fun v=>(v,H) else none else some (flVal f,H'):=by
 show (P.fns.lookup f).bind _=_
 rw [hl]
 show (bindP fn.params fn.dflt args).bind _=_
 rw [hb]; rfl
theorem qB5 (hl:P.fns.lookup f=some fn) (hp:fn.pure=false) (hb:bindP fn.params fn.dflt args=some ρ) (h:outS (evSs (evS P (callF P d) 20) fn.body ρ H)=some (fl,H')) :
  callF P (d + 1) f args H=some (flVal fl,H'):=by
 obtain ⟨ρ',h⟩:=qDQ h
 rw [qG1 hl hb,hp,h]; rfl
theorem qKX (hl:P.fns.lookup f=some fn) (hp:fn.pure=true) (ha:qAO args=true) (hb:bindP fn.params fn.dflt args=some ρ) (h:outS (evSs (evS P (callF P d) 20) fn.body ρ [])=some (fl,H'))
  (hf:qBG [] H' (flVal fl)=some v):callF P (d + 1) f args H=some (v,H):=by
 obtain ⟨ρ',h⟩:=qDQ h
 rw [qG1 hl hb,hp,ha,h]
 show (qBG [] H' (flVal fl)).map _=_
 rw [hf]; rfl
theorem qFO (hl:P.fns.lookup f=some fn) (hp:fn.pure=true) (ha:qAO args=false) (hb:bindP fn.params fn.dflt args=some ρ) (h:outS (evSs (evS P (callF P d) 20) fn.body ρ H)=some (fl,H))
  (hf:qBG H H (flVal fl)=some v):callF P (d + 1) f args H=some (v,H):=by
 obtain ⟨ρ',h⟩:=qDQ h
 rw [qG1 hl hb,hp,ha,h]
 show (if qEM (H.take H.length) H then (qBG H H (flVal fl)).map fun v=>(v,H) else none)=_
 rw [List.take_length,qGe,hf]; rfl
theorem qC7 (hl:P.fns.lookup f=some fn) (hp:fn.pure=true) (ha:qAO args=true) (h:callF P (d + 1) f args []=some (v,[])):callF P (d + 1) f args H=some (v,H):=by
 revert hl hp ha h
 revert P d f fn args H v
 intros P d f fn args H v
 intro hl hp ha h
 (injection (qA0 h) with fn'; rintro ⟨e,h⟩)
 obtain rfl:=Option.some.inj (hl.symm.trans e)
 (injection (qA0 h) with ρ; rintro ⟨hb,h⟩)
 rw [hp,ha] at h
 (injection (qBt h) with fl ρ' H1; rintro ⟨hs,h⟩)
 (injection (qA4 h) with u; rintro ⟨hf,h⟩)
 rw [← (Prod.mk.inj h).1]
 exact qKX hl hp ha hb (by rw [hs]; rfl) hf
end
end Mine.Internal.L
end
section
namespace Mine.Internal.L
section
variable {P:Prog}{H:AHeap}{l m:List AV}{r i j c a n k:Nat}{x v:AV}{o:AObj}
theorem qCG {a:Int} (h:a.natAbs < 400000):small a=true:=decide_eq_true h
@[simp] theorem qMq {a b:Int}:binAV .add (.int a) (.int b)=some (.int (a + b)):=rfl
@[simp] theorem qO9 {a b:Int}:binAV .sub (.int a) (.int b)=some (.int (a - b)):=rfl
theorem qHd {a b:Int} (ha:a.natAbs < 400000) (hb:b.natAbs < 400000):binAV .mul (.int a) (.int b)=some (.int (a * b)):=if_pos (Bool.and_eq_true_iff.mpr ⟨qCG ha,qCG hb⟩)
theorem qMp {a b:Int} (ha:0 < b) (hb:b.natAbs < 400000):binAV .div (.int a) (.int b)=some (.int (a / b)):=if_pos (Bool.and_eq_true_iff.mpr ⟨decide_eq_true ha,qCG hb⟩)
theorem qEh {a b:Int} (ha:0 < b):binAV .mod (.int a) (.int b)=some (.int (a % b)):=if_pos (decide_eq_true ha)
theorem qG2 (h:l.length + m.length < 1000000):binAV .add (.lst l) (.lst m)=some (.lst (l ++ m)):=if_pos h
theorem qNp (h:l.length + m.length < 1000000):binAV .add (.tup l) (.tup m)=some (.tup (l ++ m)):=if_pos h
@[simp] theorem qN2:trkAV false v H=(v,H):=by cases v <;> rfl
@[simp] theorem qNs {t}{i:Int}:trkAV t (.int i) H=(.int i,H):=rfl
@[simp] theorem mk_no:qAC false l H=(.lst l,H):=rfl
@[simp] theorem qOF:qAC true l H=(.ref H.length,H ++ [.list l]):=rfl
@[simp] theorem qNq:alloc H o=(.ref H.length,H ++ [o]):=rfl
@[simp] theorem qBr {b:Bool}:qAY (.bool b)=some b:=rfl
@[simp] theorem qNU {b:Int}:intOf (.int b)=some b:=rfl
@[simp] theorem qOV {a b:Int}:cmpAV .lt (.int a) (.int b) H=some (decide (a < b)):=rfl
@[simp] theorem qOW {a b:Int}:cmpAV .le (.int a) (.int b) H=some (decide (a ≤ b)):=rfl
@[simp] theorem qOX {a b:Int}:cmpAV .gt (.int a) (.int b) H=some (decide (a > b)):=rfl
@[simp] theorem qOY {a b:Int}:cmpAV .ge (.int a) (.int b) H=some (decide (a ≥ b)):=rfl
theorem int_beq {a b:Int}:(AV.int a).beq (.int b)=decide (a=b):=rfl
@[simp] theorem qFw {a b:Int}:cmpAV .eq (.int a) (.int b) H=some (decide (a=b)):=rfl
@[simp] theorem qO7 {a b:Int}:cmpAV .ne (.int a) (.int b) H=some (!decide (a=b)):=rfl
theorem str_beq {a b:Nat}:(AV.str a).beq (.str b)=decide (a=b):=rfl
@[simp] theorem qO8 {a b:Nat}:cmpAV .eq (.str a) (.str b) H=some (decide (a=b)):=rfl
theorem qOT:qB4 H (.tup l)=some (.tup l):=rfl
noncomputable def noRef:AV→Bool
 | .ref _=>false
 | _=>true
theorem qLf:∀ {a:AV},noRef a=true→qCQ H a=some a:=by
 intro a h
 cases a with
 | ref=>exact nomatch h
 | _=>rfl
theorem qF5:∀ {l:List AV},l.all noRef=true→l.mapM (qCQ H)=some l
 | [],_=>rfl
 | a :: r,h=>by
  have h:=Bool.and_eq_true_iff.mp h
  rw [List.mapM_cons,qF5 h.2,qLf h.1]; rfl
theorem qEZ (h:l.all noRef=true):qB4 H (.lst l)=some (.lst l):=congrArg (Option.map AV.lst) (qF5 h)
theorem qB1 {β:Type}{f:AObj→Option β} (h:H[i]?=some o):H[i]?.bind f=f o:=by rw [h]; rfl
theorem qEP {f:AObj→Bool} (h:H[i]?=some o):H[i]?.any f=f o:=by rw [h]; rfl
theorem qCw (h:H[i]?=some (.list l)):qAg H i=some l:=qB1 h
theorem qMB (h:H[i]?=some (.list l)) (h2:l.all noRef=true):qB4 H (.ref i)=some (.lst l):=by
 show (qAg H i).bind _=_
 rw [qCw h]; exact qEZ h2
@[simp] theorem qMe {n k:Nat}:idx n (k:Int)=if k < n then some k else none:=by
 unfold idx
 by_cases h:k < n
 ·rw [if_pos h,if_pos ⟨Int.natCast_nonneg k,Int.ofNat_lt.mpr h⟩]; rfl
 ·rw [if_neg h,if_neg fun q=>h (Int.ofNat_lt.mp q.2),if_neg fun q=>absurd q.1 (Int.not_lt.mpr (Int.natCast_nonneg k))]
theorem idx_at {n k:Nat}{i:Int} (h:i=k) (hk:k < n):idx n i=some k:=by rw [h,qMe,if_pos hk]
theorem qLV {n k:Nat}{i:Int} (h:i=(k:Int) - n) (hk:k < n):idx n i=some k:=by
 have q:(k:Int) < n:=Int.ofNat_lt.mpr hk
 rw [h]
 unfold idx
 rw [if_neg (fun z=>absurd (Int.le_of_sub_nonneg z.1) (Int.not_le.mpr q)),if_pos ⟨Int.sub_neg_of_lt q,by omega⟩,Int.sub_add_cancel]; rfl
@[simp] theorem qNt {i:Int}:subAV (.tup l) (.int i) H=(idx l.length i).bind fun k=>l[k]?:=rfl
@[simp] theorem qDH {i:Int}:subAV (.lst l) (.int i) H=(idx l.length i).bind fun k=>l[k]?:=rfl
theorem qAx {i:Int} (h:H[r]?=some (.list l)):subAV (.ref r) (.int i) H=(idx l.length i).bind fun k=>l[k]?:=qB1 h
theorem qJ9 {i:Int}{kvs} (h:H[r]?=some (.dictI kvs)):subAV (.ref r) (.int i) H=kvs.lookup i:=qB1 h
theorem qCo {kvs} (h:H[r]?=some (.dictS kvs)):subAV (.ref r) (.str k) H=kvs.lookup k:=qB1 h
theorem qKg {o':AObj}{y:AV} (h:H[r]?=some o) (e:asgO o y x=some o'):qBA (.ref r) y x H=some (H.set r o'):=by
 show (H[r]?.bind _).map _=_
 rw [h]; exact congrArg (Option.map fun o=>H.set r o) e
theorem qD8 {i:Int} (h:H[r]?=some (.list l)) (h1:0 ≤ i) (h2:i < l.length):qBA (.ref r) (.int i) x H=some (H.set r (.list (l.set i.toNat x))):=qKg h (if_pos ⟨h1,h2⟩)
theorem qKh {i:Int}{kvs} (h:H[r]?=some (.dictI kvs)) (h1:kvs.length < 900000):qBA (.ref r) (.int i) x H=some (H.set r (.dictI (upd i x kvs))):=qKg h (if_pos h1)
theorem qGy {kvs} (h:H[r]?=some (.dictS kvs)) (h1:kvs.length < 900000):qBA (.ref r) (.str k) x H=some (H.set r (.dictS (upd k x kvs))):=qKg h (if_pos h1)
theorem ns_of {fs} (h:H[i]?=some (.ns fs)):nsAt H i=some fs:=qB1 h
theorem qD9 {fs} (h:H[i]?=some (.ns fs)) (h1:qDp P c a=true) (h2:fs.length < 900):qBu P (.inst c i) a x H=some (H.set i (.ns (upd a x fs))):=by
 show (nsAt H i).bind _=_
 rw [ns_of h]; exact if_pos (Bool.and_eq_true_iff.mpr ⟨h1,decide_eq_true h2⟩)
theorem qAJ {fs} (h:H[i]?=some (.ns fs)) (h1:qDp P c a=true):qAD P (.inst c i) a H=fs.lookup a:=by
 show (nsAt H i).bind _=_
 rw [ns_of h]; exact if_pos h1
theorem qAh {fs} (h:H[i]?=some (.ns fs)) (h1:fs.lookup a=none):qAj i a H=true:=by
 show (nsAt H i).any _=_
 rw [ns_of h]; exact congrArg Option.isNone h1
@[simp] theorem qOI:qAI H (.lst l)=some l:=rfl
theorem qM3 (h:H[i]?=some (.list l)):qAI H (.ref i)=some l:=qB1 h
@[simp] theorem qO0 {t}:biAV .len t [.tup l] H=some (.int l.length,H):=rfl
@[simp] theorem qJu {t}:biAV .len t [.lst l] H=some (.int l.length,H):=rfl
theorem qBS {t} (h:H[i]?=some (.list l)):biAV .len t [.ref i] H=some (.int l.length,H):=by
 show ((qAg H i).map List.length).map _=_
 rw [qCw h]; rfl
@[simp] theorem qN0 {t}:biAV .tuple t [.tup l] H=some (.tup l,H):=rfl
@[simp] theorem qN1 {t}:biAV .tuple t [.lst l] H=some (.tup l,H):=rfl
@[simp] theorem qNn {t}:biAV .list t [.lst l] H=some (qAC t l H):=rfl
theorem qLP {t} (h:H[i]?=some (.list l)):biAV .list t [.ref i] H=some (qAC t l H):=by
 show (qAg H i).map _=_
 rw [qCw h]; rfl
theorem qCY {t}{b:Int} (h:b.natAbs < 400000):biAV .range t [.int b] H=some (.rng 0 b,H):=congrArg (Option.map fun p:Int × Int=>(AV.rng p.1 p.2,H)) (if_pos (qCG h))
theorem qJS {t}{a b:Int} (ha:a.natAbs < 400000) (hb:b.natAbs < 400000):biAV .range t [.int a,.int b] H=some (.rng a b,H):=congrArg (Option.map fun p:Int × Int=>(AV.rng p.1 p.2,H)) ((if_pos (qCG ha)).trans (if_pos (qCG hb)))
@[simp] theorem qNP {a b:Int}:iterE false H (.rng a b)=some (qAF a b,none):=rfl
@[simp] theorem qOJ:iterE false H (.tup l)=some (l,none):=rfl
@[simp] theorem qOK:iterE false H (.lst l)=some (l,none):=rfl
theorem qNQ (h:H[i]?=some (.list l)):iterE false H (.ref i)=some (l,some i):=by
 show (qAg H i).map _=_
 rw [qCw h]; rfl
theorem qMd (h:H[i]?=some (.list l)):iterE true H (.ref i)=some (qBx 0 l,some i):=by
 show (qAg H i).bind (fun _=>bnd ((qAg H i).map _) _)=_
 rw [qCw h]; rfl
@[simp] theorem qNu {H0:AHeap}:qB9 H0 H none=true:=rfl
theorem st_of {H0:AHeap} (h:H[i]?=H0[i]?):qB9 H0 H (some i)=true:=(qEz _ _).mpr h
@[simp] theorem qBP {s}:qB9 H H s=true:=by
 cases s with
 | none=>rfl
 | some i=>exact st_of rfl
@[simp] theorem qOD {ρ:Rho}:qC9 (.name n) x ρ=some (upd n x ρ):=rfl
@[simp] theorem qOb {ρ:Rho}{ts vs}:qC9 (.tup ts) (.tup vs) ρ=qB2 ts vs ρ:=rfl
@[simp] theorem qOa {ρ:Rho}:qB2 [] [] ρ=some ρ:=rfl
@[simp] theorem qOC {ρ:Rho}{t ts v vs}:qB2 (t :: ts) (v :: vs) ρ=(qG4 t v ρ).bind fun ρ=>qB2 ts vs ρ:=rfl
@[simp] theorem qOB {ρ:Rho}{v}:qG4 (.name n) v ρ=some (upd n v ρ):=rfl
theorem m_of {as:List AV}{r:Option (AV × AHeap)} (h:H[i]?=some (.list l)) (e:methL i l as H n=r):qAr i n as H=r:=(qB1 h).trans e
theorem md_of {as:List AV}{kvs}{r:Option (AV × AHeap)} (h:H[i]?=some (.dictI kvs)) (e:methD i kvs as H n=r):qAr i n as H=r:=(qB1 h).trans e
theorem qBv (h:H[i]?=some (.list l)) (h2:l.length < 900000):qAr i 0 [v] H=some (.none,H.set i (.list (l ++ [v]))):=m_of h (if_pos h2)
theorem qBK (h:H[i]?=some (.list l)):qDh H i 0=true:=qEP h
theorem pop_m (h:H[i]?=some (.list l)) (h2:l.getLast?=some v):qAr i 1 [] H=some (v,H.set i (.list l.dropLast)):=m_of h (congrArg (Option.map fun v=>(v,H.set i (.list l.dropLast))) h2)
theorem qNG (h:H[i]?=some (.list l)):qDh H i 1=true:=qEP h
theorem qL6 {k:Int} (h:H[i]?=some (.list l)) (h1:l.all isK1=true) (h2:hasAV (.int k) l=true):qAr i 2 [.int k] H=some (.none,H.set i (.list (qBT (.int k) l))):=m_of h (if_pos (Bool.and_eq_true_iff.mpr ⟨h1,h2⟩))
theorem qJN (h:H[i]?=some (.list l)):qDh H i 2=true:=qEP h
theorem get_m {k:Int}{kvs} (h:H[i]?=some (.dictI kvs)):qAr i 4 [.int k,v] H=some ((kvs.lookup k).getD v,H):=md_of h rfl
theorem qNW {kvs} (h:H[i]?=some (.dictI kvs)):qDh H i 4=true:=(qEP h).trans (decide_eq_true (.inl rfl))
theorem qHl {k:Int}{kvs} (h:H[i]?=some (.dictI kvs)) (h1:kvs.lookup k=some x):qAr i 5 [.int k,v] H=some (x,H):=md_of h (by show (match kvs.lookup k with | some v=>_ | none=>_)=_; rw [h1])
theorem qL3 {k:Int}{kvs} (h:H[i]?=some (.dictI kvs)) (h1:kvs.lookup k=none) (h2:kvs.length < 900000):qAr i 5 [.int k,v] H=some (v,H.set i (.dictI (kvs ++ [(k,v)]))):=md_of h (by show (match kvs.lookup k with | some v=>_ | none=>_)=_; rw [h1]; exact if_pos h2)
theorem qHC {kvs} (h:H[i]?=some (.dictI kvs)):qDh H i 5=true:=(qEP h).trans (decide_eq_true (.inr rfl))
theorem qML (H:AHeap) (i j:Nat) (o:AObj):(H.set i o)[j]?=if i=j∧i < H.length then some o else H[j]?:=by
 rw [List.getElem?_set]
 by_cases h:i=j
 ·rw [if_pos h]
  by_cases h2:i < H.length
  ·rw [if_pos h2,if_pos ⟨h,h2⟩]
  ·rw [if_neg h2,if_neg fun q=>h2 q.2,List.getElem?_eq_none (h ▸ Nat.le_of_not_lt h2)]
 ·rw [if_neg h,if_neg fun q=>h q.1]
theorem qAB (h:H[i]?=some o):i < H.length:=(List.getElem?_eq_some_iff.mp h).1
theorem qAG {o':AObj} (h:H[i]?=some o):(H.set i o')[i]?=some o':=List.getElem?_set_self (qAB h)
theorem qA5 {o':AObj} (h:i ≠ j):(H.set i o')[j]?=H[j]?:=List.getElem?_set_ne h
theorem qCB {o':AObj} (h:H[i]?=some o):(H ++ [o'])[i]?=some o:=(List.getElem?_append_left (qAB h)).trans h
theorem qEk:(H ++ [o])[H.length]?=some o:=List.getElem?_concat_length
theorem qNX (h:H[i]?=some (.list l)):qCQ H (.ref i)=some (.lst l):=congrArg (Option.map AV.lst) (qCw h)
theorem qMk (h:H[i]?=some (.list l)) (h2:l.mapM (qCQ H)=some m):qB4 H (.ref i)=some (.lst m):=by
 show (qAg H i).bind _=_
 rw [qCw h]; exact congrArg (Option.map AV.lst) h2
theorem qMI (h:H[i]?=some (.list l)):qDK H (.ref i)=some l:=qB1 h
theorem qNj {kvs} (h:H[i]?=some (.dictI kvs)):qDK H (.ref i)=some (kvs.map fun p=>.int p.1):=qB1 h
theorem qE5 (h:qDK H v=some l) (e:qAa l=some m):biAV .sorted false [v] H=some (.lst m,H):=by
 show (qDK H v).bind _=_
 rw [h]; exact congrArg (Option.map fun m=>qAC false m H) e
theorem qKH (h:v.clean=true) (hb:qAY v=none):eqAV v v=some true:=by
 unfold eqAV
 rw [hb]
 exact (if_pos (Bool.and_eq_true_iff.mpr ⟨h,h⟩)).trans (congrArg some ((AV.beq_iff v v).mpr rfl))
theorem qIh {H':AHeap} (h:H'[i]?=some (.list l)) (h1:H.length ≤ i) (h2:qAO l=true):qBG H H' (.ref i)=some (.lst l):=by
 show (qAg H' i).bind _=_
 rw [qCw h]; exact if_pos (Bool.and_eq_true_iff.mpr ⟨decide_eq_true h1,h2⟩)
theorem qIi {H':AHeap} (h:qAO l=true):qBG H H' (.lst l)=some (.lst l):=if_pos h
theorem qMw {H':AHeap} (h:qAO l=true):qBG H H' (.tup l)=some (.tup l):=if_pos h
theorem qMx {H':AHeap}{i:Int}:qBG H H' (.int i)=some (.int i):=rfl
theorem qMg {H':AHeap}{i:Bool}:qBG H H' (.bool i)=some (.bool i):=rfl
@[simp] theorem qNr {α:Type}{κ:Type} [DecidableEq κ] {k:κ}{v w:α}{r:List (κ × α)}:upd k v ((k,w) :: r)=(k,v) :: r:=if_pos rfl
end
end Mine.Internal.L
end
section
open PySem PySem.W PyProof.Rows
namespace Mine.Internal.L
abbrev Dm:=Fin 16
abbrev Lit:=Fin 4 × Fin 4 × Fin 7
noncomputable def lav (l:Lit):AV:=.tup [.int (l.1.val:Int),.str (7 + l.2.1.val),.int ((l.2.2.val:Int) - 1)]
noncomputable def bit (S v:Nat):Bool:=S / 2 ^ v % 2 == 1
noncomputable def obeys (s:Nat) (k v:Int):Bool:=match s with
 | 0=>v != k
 | 1=>decide (v ≤ k)
 | 2=>v == k
 | _=>decide (k ≤ v)
noncomputable def cutN (s:Nat) (k:Int) (S:Nat):Nat :=
 (if bit S 0 && obeys s k 0 then 1 else 0) + (if bit S 1 && obeys s k 1 then 2 else 0) + (if bit S 2 && obeys s k 2 then 4 else 0) + (if bit S 3 && obeys s k 3 then 8 else 0)
theorem qMl (s k S):cutN s k S < 16:=by
 unfold cutN; repeat' split
 all_goals lia
noncomputable def cut (l:Lit) (S:Dm):Dm:=⟨cutN l.2.1.val ((l.2.2.val:Int) - 1) S.val,qMl _ _ _⟩
noncomputable def lotL (S:Nat):List AV:=([0,1,2,3]:List Nat).filterMap fun v=>if bit S v then some (.int (v:Int)) else none
noncomputable def lot (S:Dm):AV:=.lst (lotL S.val)
noncomputable def ivs:Nat→Nat→Nat→List AV
 | 0,_,_=>[]
 | n + 1,v,S=>if bit S v then
   (match ivs n (v + 1) S with
   | .tup [.int a,b] :: r=>if a=(v:Int) + 1 then .tup [.int (v:Int),b] :: r else .tup [.int (v:Int),.int (v:Int)] :: .tup [.int a,b] :: r
   | r=>.tup [.int (v:Int),.int (v:Int)] :: r)
  else ivs n (v + 1) S
noncomputable def dom (S:Dm):AV:=.tup (ivs 4 0 S.val)
noncomputable def chk3 (f:Fin 4→Fin 7→Dm→Bool):Bool:=(List.finRange 4).all fun s=>(List.finRange 7).all fun k=>(List.finRange 16).all fun S=>f s k S
theorem qDR {f:Fin 4→Fin 7→Dm→Bool} (h:chk3 f=true) (s:Fin 4) (k:Fin 7) (S:Dm):f s k S=true :=
 List.all_eq_true.mp (List.all_eq_true.mp (List.all_eq_true.mp h s (List.mem_finRange s)) k (List.mem_finRange k)) S (List.mem_finRange S)
noncomputable def resB (r:Option (AV × AHeap)) (u:AV):Bool:=match r with
 | some (v,[])=>v.beq u
 | _=>false
theorem qE8 {r:Option (AV × AHeap)}{u:AV} (h:resB r u=true):r=some (u,[]):=by
 cases r with
 | none=>cases h
 | some p =>
  obtain ⟨v,H⟩:=p
  cases H with
  | nil=>rw [(AV.beq_iff v u).mp h]
  | cons=>cases h
noncomputable def litI (x:Int) (s:Fin 4) (k:Fin 7):AV:=.tup [.int x,.str (7 + s.val),.int ((k.val:Int) - 1)]
theorem qIJ (d:Nat) (x:Int):chk3 (fun s k S=>resB (callF PP (d + 4) 5 [litI x s k,dom S] []) (dom (cut (0,s,k) S)))=true:=by kernel_rfl
noncomputable def said (l:Lit) (S:Dm):Int:=if cut l S=S then 1 else if cut l S=0 then -1 else 0
theorem qL5 (d:Nat) (x:Int):chk3 (fun s k S=>resB (callF PP (d + 5) 6 [litI x s k,dom S] []) (.int (said (0,s,k) S)))=true:=by kernel_rfl
theorem qLQ (d:Nat) (x:Int):chk3 (fun s k S=>resB (callF PP (d + 1) 33 [litI x s k,lot S] []) (lot (cut (0,s,k) S)))=true:=by kernel_rfl
end Mine.Internal.L
end
section
open PySem PySem.W PyProof.Rows
namespace Mine.Internal.L
noncomputable def keg (row:List Int) (all:Int) (t:Nat):AObj:=.dictS [(71,.int (t:Int)),(72,.lst (row.map .int)),(73,.int all)]
theorem qAk (d:Nat) {H:AHeap}{row:List Int}{all:Int}{t:Nat} (m:Nat) (h:H[0]?=some (keg row all t)) (ht:t < 600) (hm:0 < m) :
  ∃ v:Nat,v < m∧callF PP (d + 1) 31 [.ref 0,.int m] H=some (.int v,H.set 0 (keg row all (t + 1))):=by
 revert h ht hm
 revert d H row all t m
 intros d H row all t m
 intro h ht hm
 have h0:=qAB h
 have step:∀ (v:Int),0 ≤ v→v < m→callF PP (d + 1) 31 [.ref 0,.int m] H=some (.int v,H.set 0 (keg row all (t + 1)))→∃ v:Nat,v < m∧callF PP (d + 1) 31 [.ref 0,.int m] H=some (.int v,H.set 0 (keg row all (t + 1))):=by
  (intros v; intro h1 h2 h3)
  exact ⟨v.toNat,by lia,by rw [h3,Int.toNat_of_nonneg h1]⟩
 have hm':(0:Int) < m:=by lia
 have hg:∀ o,(H.set 0 o)[0]?=some o:=fun o=>qAG h
 unfold keg at h
 by_cases hc:t < row.length
 ·refine step (row[t] % m) (Int.emod_nonneg _ (by lia)) (Int.emod_lt_of_pos _ hm') ?_
  refine qB5 (fn:=fn31) (fl:=.ret _) rfl rfl rfl ?_
  have hc':(t:Int) + 1 ≤ row.length:=by lia
  simp [fn31,keg,qCo h,qGy h,qCo (hg _),List.lookup,hc,hc',qEh hm']
 ·have hc':¬ (t:Int) + 1 ≤ row.length:=by lia
  have hq:((t:Int) + 1) * ((t:Int) + 1)=(((t + 1) * (t + 1):Nat):Int):=by push_cast; rfl
  have hl:(t + 1) * (t + 1) ≤ 600 * 600:=Nat.mul_le_mul (by lia) (by lia)
  have b1:binAV .mul (.int ((t:Int) + 1)) (.int ((t:Int) + 1))=some (.int (((t:Int) + 1) * ((t:Int) + 1))):=qHd (by lia) (by lia)
  have b2:binAV .mul (.int (((t:Int) + 1) * ((t:Int) + 1))) (.int 3)=some (.int ((((t:Int) + 1) * ((t:Int) + 1)) * 3)):=qHd (by rw [hq]; lia) (by decide)
  have b3:binAV .mul (.int ((t:Int) + 1)) (.int 5)=some (.int (((t:Int) + 1) * 5)):=qHd (by lia) (by decide)
  have b4:∀ x:Int,binAV .div (.int x) (.int 2)=some (.int (x / 2)):=fun x=>qMp (by decide) (by decide)
  refine step ((((t:Int) + 1) * ((t:Int) + 1) * 3 + ((t:Int) + 1) * 5 + all) / 2 % m) (Int.emod_nonneg _ (by lia)) (Int.emod_lt_of_pos _ hm') ?_
  refine qB5 (fn:=fn31) (fl:=.ret _) rfl rfl rfl ?_
  simp [fn31,keg,qCo h,qGy h,qCo (hg _),List.lookup,hc',qEh hm',b1,b2,b3,b4]
end Mine.Internal.L
end
section
open PySem PySem.W PyProof.Rows
namespace Mine.Internal.L
noncomputable def nsAV (ns:List Nat):List AV:=ns.map fun (n:Nat)=>AV.int (n:Int)
theorem qFf (n:Nat):∀ (ns:List Nat),hasAV (.int n) (nsAV ns)=decide (n ∈ ns)
 | []=>rfl
 | a :: r=>by
  show ((AV.int a).beq (.int n) || hasAV (.int n) (nsAV r))=_
  rw [qFf n r,int_beq]
  by_cases h:a=n
  ·subst h; simp
  ·simp [h,Ne.symm h,Int.ofNat_inj]
theorem qF0 (n:Nat):∀ (ns:List Nat),qBT (.int n) (nsAV ns)=nsAV (ns.erase n)
 | []=>rfl
 | a :: r=>by
  show (if (AV.int a).beq (.int n) then nsAV r else .int a :: qBT (.int n) (nsAV r))=_
  rw [qF0 n r,int_beq]
  by_cases h:a=n
  ·subst h; simp
  ·have:¬ ((a:Int)=(n:Int)):=by lia
   rw [List.erase_cons_tail (by simpa using h)]
   simp [this,nsAV]
theorem qJd (ns:List Nat):(nsAV ns).all isK1=true:=by simp [nsAV,isK1]
theorem qF1 (ns:List Nat):qGr (nsAV ns)=true:=List.all_eq_true.mpr fun x hx=>(List.mem_map.mp hx).elim fun k h=>h.2 ▸ rfl
theorem qNL (n:Nat) (ns:List Nat):memAV (.int n) (nsAV ns)=some (decide (n ∈ ns)):=by
 show (if (AV.int n).clean && qGr (nsAV ns) then some (hasAV (.int n) (nsAV ns)) else none)=_
 rw [qF1,qFf]; rfl
@[simp] theorem qEE (ns:List Nat):(nsAV ns).length=ns.length:=by simp [nsAV]
theorem qHt (ns:List Nat) (n:Nat):nsAV ns ++ [AV.int n]=nsAV (ns ++ [n]):=by simp [nsAV]
theorem qEa {H:AHeap}{i:Nat}{n:Nat}{ns:List Nat} (h:H[i]?=some (.list (nsAV ns))):cmpAV .notIn (.int n) (.ref i) H=some (!decide (n ∈ ns)):=by
 show (((qAg H i).bind fun l=>memAV (.int n) l).map fun x=>!x)=_
 rw [qCw h]
 exact congrArg (Option.map fun x=>!x) (qNL n ns)
theorem qHv {α:Type} [DecidableEq α] {l m:List α} (h:l.Nodup) (hm:m.Nodup) (k:∀ a ∈ l,a ∈ m):l.length ≤ m.length:=by
 have:l.Perm (m.filter fun a=>decide (a ∈ l)):=(List.perm_ext_iff_of_nodup h (hm.filter _)).mpr fun a=>by
  simp only [List.mem_filter,decide_eq_true_eq]; exact ⟨fun q=>⟨k a q,q⟩,fun q=>q.2⟩
 rw [this.length_eq]; exact List.length_filter_le ..
noncomputable def wsI (ws:List (Fin 4 × Nat)):List (Int × AV):=ws.map fun p=>((p.1.val:Int),AV.ref p.2)
theorem qBV (x:Fin 4):∀ ws:List (Fin 4 × Nat),(wsI ws).lookup (x.val:Int)=(ws.lookup x).map AV.ref
 | []=>rfl
 | (y,w) :: r=>by
  show List.lookup _ (((y.val:Int),AV.ref w) :: wsI r)=_
  rw [List.lookup_cons,List.lookup_cons,qBV x r]
  by_cases h:x=y
  ·subst h; simp
  ·have h1:¬ ((x.val:Int)=(y.val:Int)):=by omega
   have e1:(x == y)=false:=by simpa using h
   have e2:((x.val:Int) == (y.val:Int))=false:=by simpa using h1
   rw [e1,e2]
theorem qIF (ws):(wsI ws).length=ws.length:=by simp [wsI]
theorem qAX {α β:Type} [BEq α] [LawfulBEq α] {k:α}{v:β}:∀ {l:List (α × β)},l.lookup k=some v→(k,v) ∈ l
 | [],e=>by cases e
 | (k',v') :: r,e=>by
  rw [List.lookup_cons] at e
  split at e
  ·rename_i q; cases e; rw [beq_iff_eq.mp q]; exact .head _
  ·exact .tail _ (qAX e)
theorem qDU {α β:Type} [BEq α] {k:α}{m:List (α × β)}:∀ {l:List (α × β)},(l ++ m).lookup k=(l.lookup k).or (m.lookup k)
 | []=>by simp
 | (k',v') :: r=>by
  rw [List.cons_append,List.lookup_cons,List.lookup_cons]
  cases h:k == k'
  ·exact qDU
  ·rfl
theorem qIZ {α β:Type} [BEq α] [LawfulBEq α] {k:α}{l:List (α × β)} (h:l.lookup k=none):k ∉ l.map (·.1):=by
 induction l with
 | nil=>simp
 | cons p r ih =>
  obtain ⟨k',v'⟩:=p
  rw [List.lookup_cons] at h
  split at h
  ·cases h
  ·rename_i q
   rw [beq_eq_false_iff_ne] at q
   simp only [List.map_cons,List.mem_cons,not_or]
   exact ⟨q,ih h⟩
structure WatchAt (H:AHeap) (ws:List (Fin 4 × Nat)) (M:Fin 4→Nat→Prop) (N:Nat):Prop where
 dict:H[11]?=some (.dictI (wsI ws))
 list:∀ x w,ws.lookup x=some w→∃ ns:List Nat,H[w]?=some (.list (nsAV ns))∧ns.Nodup∧(∀ n ∈ ns,n < N)∧∀ n,n ∈ ns↔M x n
 none:∀ x,ws.lookup x=none→∀ n,¬ M x n
 inj:(ws.map (·.2)).Nodup
 big:∀ p ∈ ws,13 ≤ p.2
 keys:(ws.map (·.1)).Nodup
theorem WatchAt.at_ {H ws M N} (h:WatchAt H ws M N) {p} (m:p ∈ ws):∃ l,H[p.2]?=some (.list l):=by
 obtain ⟨x,w⟩:=p
 have:ws.lookup x=some w:=by
  have kn:=h.keys
  clear h
  induction ws with
  | nil=>cases m
  | cons q r ih =>
   obtain ⟨y,v⟩:=q
   rw [List.lookup_cons]
   rcases List.mem_cons.mp m with e | e
   ·cases e; simp
   ·rw [List.map_cons,List.nodup_cons] at kn
    have:x ≠ y:=by rintro rfl; exact kn.1 (List.mem_map_of_mem (f:=(·.1)) e)
    rw [show (x == y)=false by simpa using this]
    exact ih e kn.2
 obtain ⟨ns,e,_⟩:=h.list x w this
 exact ⟨_,e⟩
theorem qK2 {ws:List (Fin 4 × Nat)} (h:(ws.map (·.2)).Nodup) {p q} (hp:p ∈ ws) (hq:q ∈ ws) (e:p.2=q.2):p=q:=by
 induction ws with
 | nil=>cases hp
 | cons r t ih =>
  rw [List.map_cons,List.nodup_cons] at h
  rcases List.mem_cons.mp hp with a | a <;> rcases List.mem_cons.mp hq with b | b
  ·rw [a,b]
  ·subst a; exact absurd (by rw [e]; exact List.mem_map_of_mem (f:=(·.2)) b) h.1
  ·subst b; exact absurd (by rw [← e]; exact List.mem_map_of_mem (f:=(·.2)) a) h.1
  ·exact ih h.2 a b
noncomputable def bkF:List (Nat × AV):=[(30,.ref 8),(31,.ref 9),(32,.ref 10),(33,.ref 11)]
structure FrameW (H H':AHeap) (ws ws':List (Fin 4 × Nat)):Prop where
 le:H.length ≤ H'.length
 same:∀ j < H.length,j ≠ 11→(∀ p ∈ ws,j ≠ p.2)→H'[j]?=H[j]?
 new:∀ p ∈ ws',p ∈ ws∨H.length ≤ p.2
theorem FrameW.refl {H ws}:FrameW H H ws ws:=⟨Nat.le_refl _,fun _ _ _ _=>rfl,fun _ m=>.inl m⟩
theorem FrameW.trans {H H1 H2 ws ws1 ws2} (a:FrameW H H1 ws ws1) (b:FrameW H1 H2 ws1 ws2):FrameW H H2 ws ws2:=by
 refine ⟨Nat.le_trans a.le b.le,fun j hj h1 h2=>?_,fun p m=>?_⟩
 ·rw [b.same j (Nat.lt_of_lt_of_le hj a.le) h1 fun p m=>?_,a.same j hj h1 h2]
  rcases a.new p m with q | q
  ·exact h2 p q
  ·lia
 ·rcases b.new p m with q | q
  ·exact a.new p q
  ·exact .inr (Nat.le_trans a.le q)
theorem qDF (d:Nat) {H:AHeap}{ws:List (Fin 4 × Nat)}{M:Fin 4→Nat→Prop}{N:Nat} (h13:13 ≤ H.length) (h7:H[7]?=some (.ns bkF)) (W:WatchAt H ws M N) (x:Fin 4) (n:Nat) (hn:n < N) (hN:N < 1000) :
  ∃ H' ws',callF PP (d + 1) 11 [.inst 0 7,.int (x.val:Int),.int (n:Int)] H=some (.none,H')∧WatchAt H' ws' (fun y m=>M y m∨(y=x∧m=n)) N∧FrameW H H' ws ws':=by
 revert h13 h7 W hn hN
 revert d H ws M N x n
 intros d H ws M N x n
 intro h13 h7 W hn hN
 have l7:=qAB h7
 have l11:=qAB W.dict
 have h7':(H ++ [AObj.list []])[7]?=some (.ns bkF):=qCB h7
 have h11':(H ++ [AObj.list []])[11]?=some (.dictI (wsI ws)):=qCB W.dict
 have g7:qAD PP (.inst 0 7) 33 H=some (.ref 11):=by rw [qAJ h7 rfl]; rfl
 cases hx:ws.lookup x with
 | some w =>
  revert hx; revert w; intros w; intro hx
  (injection (W.list x w hx) with ns; rintro ⟨e1,e2,e3,e4⟩)
  have hl:=qBV x ws
  rw [hx] at hl
  have e1':(H ++ [AObj.list []])[w]?=some (.list (nsAV ns)):=qCB e1
  by_cases hm:n ∈ ns
  ·refine ⟨H ++ [AObj.list []],ws,?_,⟨h11',fun y v hy=>?_,fun y hy m q=>?_,W.inj,W.big,W.keys⟩,⟨by simp,fun j hj _ _=>List.getElem?_append_left hj,fun p m=>.inl m⟩⟩
   ·refine qB5 (fn:=fn11) (fl:=.next) rfl rfl rfl ?_
    simp [fn11,List.lookup,g7,qHC W.dict,qHl h11' hl,upd,qEa e1',hm]
   ·(injection (W.list y v hy) with ms; rintro ⟨a,b,c,e⟩)
    refine ⟨ms,qCB a,b,c,?_⟩
    intros m
    rw [e]
    refine ⟨.inl,fun q=>q.elim id ?_⟩
    rintro ⟨rfl,rfl⟩
    exact (e4 m).mp hm
   ·rcases q with q | ⟨rfl,rfl⟩
    ·exact W.none y hy m q
    ·rw [hx] at hy; cases hy
  ·have hlen:ns.length ≤ N:=by
    have:=qHv e2 (List.nodup_range (n:=N)) fun a ha=>List.mem_range.mpr (e3 a ha)
    simpa using this
   have hw:w ≠ 11:=by have:=W.big _ (qAX hx); simp only at this; lia
   refine ⟨(H ++ [AObj.list []]).set w (.list (nsAV (ns ++ [n]))),ws,?_,⟨by rw [qA5 hw]; exact h11',?_,?_,W.inj,W.big,W.keys⟩,⟨by simp,?_,fun p m=>.inl m⟩⟩
   ·refine qB5 (fn:=fn11) (fl:=.next) rfl rfl rfl ?_
    simp [fn11,List.lookup,g7,qHC W.dict,qHl h11' hl,upd,qEa e1',hm,qBK e1',qBv e1' (by rw [qEE]; lia),qHt]
   ·intros y v; intro hy
    by_cases hy2:y=x
    ·subst hy2
     rw [hx] at hy; cases hy
     refine ⟨ns ++ [n],qAG e1',?_,?_,?_⟩
     ·rw [List.nodup_append]
      refine ⟨e2,by simp,?_⟩
      (intros a; intro ha; intros b; intro hb; rintro rfl)
      rw [List.mem_singleton] at hb; subst hb
      exact hm ha
     ·intros m; intro hm
      rcases List.mem_append.mp hm with q | q
      ·exact e3 m q
      ·rw [List.mem_singleton] at q; subst q; exact hn
     ·intros m
      rw [List.mem_append,List.mem_singleton,e4]
      simp
    ·have hv:w ≠ v:=by
      rintro rfl
      have:=qK2 W.inj (qAX hx) (qAX hy) rfl
      cases this; exact hy2 rfl
     (injection (W.list y v hy) with ms; rintro ⟨a,b,c,e⟩)
     refine ⟨ms,by rw [qA5 hv]; exact qCB a,b,c,?_⟩
     intros m
     rw [e]; simp [hy2]
   ·intros y; intro hy; intros m; intro q
    rcases q with q | ⟨rfl,rfl⟩
    ·exact W.none y hy m q
    ·rw [hx] at hy; cases hy
   ·intros j; intro hj _ h2
    rw [qA5 fun q=>h2 _ (qAX hx) q.symm]; exact List.getElem?_append_left hj
 | none =>
  have hl:=qBV x ws
  rw [hx] at hl
  have hws:ws.length ≤ 4:=by
   have:=qHv W.keys (List.nodup_finRange 4) fun a _=>List.mem_finRange a
   simpa using this
  have hnew:((H ++ [AObj.list []]).set 11 (.dictI (wsI (ws ++ [(x,H.length)]))))[H.length]?=some (.list (nsAV [])):=by
   rw [qA5 (by lia)]; exact qEk
  have e0:wsI ws ++ [((x.val:Int),AV.ref H.length)]=wsI (ws ++ [(x,H.length)]):=by simp [wsI]
  have small:∀ p ∈ ws,p.2 < H.length:=fun p m=>by (injection (W.at_ m) with l; intro e); exact qAB e
  have hc:cmpAV .notIn (.int n) (.ref H.length) ((H ++ [AObj.list []]).set 11 (.dictI (wsI (ws ++ [(x,H.length)]))))=some true:=by rw [qEa hnew]; rfl
  refine ⟨((H ++ [AObj.list []]).set 11 (.dictI (wsI (ws ++ [(x,H.length)])))).set H.length (.list (nsAV [n])),ws ++ [(x,H.length)],?_,⟨?_,?_,?_,?_,?_,?_⟩,⟨by simp,?_,?_⟩⟩
  ·refine qB5 (fn:=fn11) (fl:=.next) rfl rfl rfl ?_
   simp [fn11,List.lookup,g7,qHC W.dict,qL3 h11' hl (by rw [qIF]; lia),upd,e0,hc,qBK hnew,qBv hnew (by simp)]
   rfl
  ·rw [qA5 (by lia)]; exact qAG h11'
  ·intros y v; intro hy
   rw [qDU] at hy
   by_cases hy2:y=x
   ·subst hy2
    rw [hx] at hy
    simp at hy
    subst hy
    refine ⟨[n],qAG hnew,by simp,by simpa using hn,?_⟩
    intros m
    have:=W.none y hx m
    simp [this]
   ·have e1:(y == x)=false:=by simpa using hy2
    rw [List.lookup_cons,e1] at hy
    simp at hy
    (injection (W.list y v hy) with ms; rintro ⟨a,b,c,e⟩)
    have hv:v < H.length:=qAB a
    refine ⟨ms,?_,b,c,?_⟩
    ·rw [qA5 (by lia),qA5 ?_]
     ·exact qCB a
     ·have:=W.big _ (qAX hy); simp only at this; lia
    ·intros m
     rw [e]; simp [hy2]
  ·intros y; intro hy; intros m; intro q
   rw [qDU] at hy
   by_cases hy2:y=x
   ·subst hy2; rw [hx] at hy; simp at hy
   ·have hy':ws.lookup y=none:=by
     cases hh:ws.lookup y with
     | none=>rfl
     | some v=>rw [hh] at hy; cases hy
    rcases q with q | ⟨rfl,rfl⟩
    ·exact W.none y hy' m q
    ·exact hy2 rfl
  ·rw [List.map_append,List.nodup_append]
   refine ⟨W.inj,by simp,?_⟩
   (intros a; intro ha; intros b; intro hb; rintro rfl)
   (injection (List.mem_map.mp ha) with p; rintro ⟨hp,rfl⟩)
   have:=small p hp
   simp at hb
   lia
  ·(intros p; intro m)
   rcases List.mem_append.mp m with q | q
   ·exact W.big p q
   ·rw [List.mem_singleton] at q; subst q
    exact h13
  ·rw [List.map_append,List.nodup_append]
   refine ⟨W.keys,by simp,?_⟩
   (intros a; intro ha; intros b; intro hb; rintro rfl)
   simp at hb
   subst hb
   exact qIZ hx ha
  ·intros j; intro hj h1 h2
   rw [qA5 (by lia),qA5 (Ne.symm h1)]
   exact List.getElem?_append_left hj
  ·intros p; intro m
   rcases List.mem_append.mp m with q | q
   ·exact .inl q
   ·rw [List.mem_singleton] at q; subst q; exact .inr (Nat.le_refl _)
end Mine.Internal.L
end
section
open PySem PySem.W PyProof.Rows
namespace Mine.Internal.L
section
variable {H:AHeap}{l:Lit}{S T:Dm}
@[simp] theorem lav_0:subAV (lav l) (.int 0) H=some (.int (l.1.val:Int)):=rfl
@[simp] theorem lav_1:subAV (lav l) (.int 1) H=some (.str (7 + l.2.1.val)):=rfl
@[simp] theorem lav_2:subAV (lav l) (.int 2) H=some (.int ((l.2.2.val:Int) - 1)):=rfl
noncomputable def chkD (f:Dm→Bool):Bool:=(List.finRange 16).all f
theorem qC0 {f:Dm→Bool} (h:chkD f=true) (S:Dm):f S=true:=List.all_eq_true.mp h S (List.mem_finRange S)
noncomputable def chkDD (f:Dm→Dm→Bool):Bool:=(List.finRange 16).all fun S=>(List.finRange 16).all fun T=>f S T
theorem qHr {f:Dm→Dm→Bool} (h:chkDD f=true) (S T:Dm):f S T=true:=List.all_eq_true.mp (List.all_eq_true.mp h S (List.mem_finRange S)) T (List.mem_finRange T)
theorem qEV (S:Dm):(dom S).plain=true:=qC0 (f:=fun S=>(dom S).plain) (by kernel_rfl) S
theorem qEW (S:Dm):(dom S).clean=true:=qC0 (f:=fun S=>(dom S).clean) (by kernel_rfl) S
theorem qMj (S T:Dm):(dom S).beq (dom T)=decide (S=T):=beq_iff_eq.mp (qHr (f:=fun S T=>(dom S).beq (dom T) == decide (S=T)) (by kernel_rfl) S T)
theorem qMi (S:Dm):(dom S).beq (.tup [])=decide (S=0):=beq_iff_eq.mp (qC0 (f:=fun S=>(dom S).beq (.tup []) == decide (S=0)) (by kernel_rfl) S)
theorem qGS (S:Dm):(lot S).plain=true:=qC0 (f:=fun S=>(lot S).plain) (by kernel_rfl) S
theorem qEG (S:Dm):(lot S).clean=true:=qC0 (f:=fun S=>(lot S).clean) (by kernel_rfl) S
theorem qJn (S:Dm):(lotL S.val).all noRef=true:=qC0 (f:=fun S=>(lotL S.val).all noRef) (by kernel_rfl) S
theorem qMZ (S T:Dm):(lot S).beq (lot T)=decide (S=T):=beq_iff_eq.mp (qHr (f:=fun S T=>(lot S).beq (lot T) == decide (S=T)) (by kernel_rfl) S T)
theorem qMY (S:Dm):(lot S).beq (.lst [])=decide (S=0):=beq_iff_eq.mp (qC0 (f:=fun S=>(lot S).beq (.lst []) == decide (S=0)) (by kernel_rfl) S)
theorem qOU:qB4 H (dom S)=some (dom S):=rfl
theorem qFK:qB4 H (lot S)=some (lot S):=qEZ (qJn S)
@[simp] theorem qOS:cmpAV .eq (dom S) (dom T) H=some (decide (S=T)):=by
 show eqAV (dom S) (dom T)=_
 rw [← qMj]
 show (if (dom S).clean && (dom T).clean then some ((dom S).beq (dom T)) else none)=_
 rw [qEW,qEW]; rfl
@[simp] theorem qO6:cmpAV .eq (dom S) (.tup []) H=some (decide (S=0)):=by
 show eqAV (dom S) (.tup [])=_
 rw [← qMi]
 show (if (dom S).clean && (AV.tup []).clean then some ((dom S).beq (.tup [])) else none)=_
 rw [qEW]; rfl
theorem qMA:eqAV (lot S) (lot T)=some (decide (S=T)):=by
 show (if (lot S).clean && (lot T).clean then some ((lot S).beq (lot T)) else none)=_
 rw [qEG,qEG,qMZ]; rfl
theorem qKJ:eqAV (lot S) (.lst [])=some (decide (S=0)):=by
 show (if (lot S).clean && (AV.lst []).clean then some ((lot S).beq (.lst [])) else none)=_
 rw [qEG,qMY]; rfl
theorem qM9 {H:AHeap}{a b a' b':AV}{r:Bool} (h1:qB4 H a=some a') (h2:qB4 H b=some b') (h3:eqAV a' b'=some r):eqs a b H=some r:=by
 unfold eqs
 rw [h1,h2]; exact h3
theorem qD4 {H:AHeap}{a b a' b':AV}{r:Bool} (h1:qB4 H a=some a') (h2:qB4 H b=some b') (h3:eqAV a' b'=some r):cmpAV .eq a b H=some r:=qM9 h1 h2 h3
theorem qEb {H:AHeap}{a b a' b':AV}{r:Bool} (h1:qB4 H a=some a') (h2:qB4 H b=some b') (h3:eqAV a' b'=some r):cmpAV .ne a b H=some !r:=congrArg (Option.map fun x=>!x) (qM9 h1 h2 h3)
@[simp] theorem qOH:cmpAV .eq (lot S) (lot T) H=some (decide (S=T)):=qD4 qFK qFK qMA
@[simp] theorem qOG:cmpAV .ne (lot S) (lot T) H=some (!decide (S=T)):=qEb qFK qFK qMA
@[simp] theorem qNz:cmpAV .eq (lot S) (.lst []) H=some (decide (S=0)):=qD4 qFK (qEZ rfl) qKJ
@[simp] theorem qNy:cmpAV .ne (lot S) (.lst []) H=some (!decide (S=0)):=qEb qFK (qEZ rfl) qKJ
theorem qBd (l:Lit):(lav l).plain=true:=rfl
theorem qH6 (d:Nat) (l:Lit) (S:Dm):callF PP (d + 4) 5 [lav l,dom S] H=some (dom (cut l S),H):=by
 refine qC7 (fn:=fn5) rfl rfl (by simp [qAO,qBd,qEV]) ?_
 exact qE8 (qDR (qIJ d l.1.val) l.2.1 l.2.2 S)
theorem qGA (d:Nat) (l:Lit) (S:Dm):callF PP (d + 5) 6 [lav l,dom S] H=some (.int (said l S),H):=by
 refine qC7 (fn:=fn6) rfl rfl (by simp [qAO,qBd,qEV]) ?_
 exact qE8 (qDR (qL5 d l.1.val) l.2.1 l.2.2 S)
theorem qGV (d:Nat) (l:Lit) (S:Dm):callF PP (d + 1) 33 [lav l,lot S] H=some (lot (cut l S),H):=by
 refine qC7 (fn:=fn33) rfl rfl (by simp [qAO,qBd,qGS]) ?_
 exact qE8 (qDR (qLQ d l.1.val) l.2.1 l.2.2 S)
end
abbrev TrE:=Fin 4 × Dm × Lit
noncomputable def trAV (e:TrE):AV:=.tup [.int (e.1.val:Int),dom e.2.1,lav e.2.2,.none,.int (-1)]
noncomputable def stF (mk nw:Nat):List (Nat × AV):=[(57,.ref 2),(58,.ref 3),(27,.ref 4),(59,.ref mk),(60,.ref nw),(61,.int (-1)),(62,.bool false),(63,.tup [])]
structure StoreAt (H:AHeap) (mk nw:Nat) (Ds:List Dm) (tr:List TrE) (nn:Nat):Prop where
 ns:H[1]?=some (.ns (stF mk nw))
 doms:H[2]?=some (.list (Ds.map dom))
 len:Ds.length=4
 firsts:H[3]?=some (.list [dom 15,dom 15,dom 15,dom 15])
 trail:H[4]?=some (.list (tr.map trAV))
 marks:H[mk]?=some (.list (nsAV (List.range tr.length)))
 news:∃ kvs,H[nw]?=some (.dictI kvs)∧kvs.length ≤ nn
 mkw:mk ∉ [0,1,2,3,4,7,8,9,10,11,12]
 nww:nw ∉ [0,1,2,3,4,7,8,9,10,11,12]
theorem StoreAt.keep {H H' mk nw Ds tr nn} (h:StoreAt H mk nw Ds tr nn) (k:∀ j o,H[j]?=some o→j ∈ [1,2,3,4,mk,nw]→H'[j]?=some o):StoreAt H' mk nw Ds tr nn:=by
 obtain ⟨kvs,e,b⟩:=h.news
 exact ⟨k _ _ h.ns (by simp),k _ _ h.doms (by simp),h.len,k _ _ h.firsts (by simp),k _ _ h.trail (by simp),k _ _ h.marks (by simp),⟨kvs,k _ _ e (by simp),b⟩,h.mkw,h.nww⟩
section
variable {H:AHeap}{mk nw:Nat}{Ds:List Dm}{tr:List TrE}{nn:Nat}{l:Lit}{S:Dm}
theorem StoreAt.sub (A:StoreAt H mk nw Ds tr nn) (hS:Ds[l.1.val]?=some S):subAV (.ref 2) (.int (l.1.val:Int)) H=some (dom S):=by
 rw [qAx A.doms,idx_at rfl (by rw [List.length_map,A.len]; exact l.1.isLt)]
 simp [hS]
theorem qFC (d:Nat) (A:StoreAt H mk nw Ds tr nn) (hS:Ds[l.1.val]?=some S):callF PP (d + 6) 22 [.inst 1 1,lav l] H=some (.int (said l S),H):=by
 have g:qAD PP (.inst 1 1) 57 H=some (.ref 2):=by rw [qAJ A.ns rfl]; rfl
 refine qFO (fn:=fn22) (fl:=.ret (.int (said l S))) rfl rfl rfl rfl ?_ rfl
 simp [fn22,List.lookup,g,A.sub hS,qGA]
theorem qJT (d:Nat) (A:StoreAt H mk nw Ds tr nn) (h:tr.length < 1000):callF PP (d + 1) 27 [.inst 1 1] H=some (.none,H.set mk (.list (nsAV (List.range (tr.length + 1))))):=by
 have g:qAD PP (.inst 1 1) 59 H=some (.ref mk):=by rw [qAJ A.ns rfl]; rfl
 have g2:qAD PP (.inst 1 1) 27 H=some (.ref 4):=by rw [qAJ A.ns rfl]; rfl
 refine qB5 (fn:=fn27) (fl:=.next) rfl rfl rfl ?_
 simp [fn27,List.lookup,g,g2,qBK A.marks,qBS A.trail,qBv A.marks (v:=.int tr.length) (by simp; lia),qHt,List.range_succ]
theorem qHU (d:Nat) (hns:H[1]?=some (.ns (stF mk nw))) (hdoms:H[2]?=some (.list (Ds.map dom))) (hlen:Ds.length=4) (htr:H[4]?=some (.list (tr.map trAV))) (hnews:∃ kvs,H[nw]?=some (.dictI kvs)∧kvs.length ≤ nn)
  (nww:nw ∉ [0,1,2,3,4,7,8,9,10,11,12]) (hS:Ds[l.1.val]?=some S) (h0:cut l S ≠ 0) (h1:cut l S ≠ S) (ht:tr.length < 1000) (hn:nn < 1000) :
  ∃ kvs:List (Int × AV),kvs.length ≤ nn + 1∧callF PP (d + 6) 25 [.inst 1 1,lav l] H=some (.bool true,((H.set 4 (.list ((tr ++ [(l.1,S,l)]).map trAV))).set 2 (.list ((Ds.set l.1.val (cut l S)).map dom))).set nw (.dictI kvs)):=by
 revert hns hdoms hlen htr hnews nww hS h0 h1 ht hn
 revert H mk nw Ds tr nn l S d
 intros H mk nw Ds tr nn l S d
 intro hns hdoms hlen htr hnews nww hS h0 h1 ht hn
 have hlt:l.1.val < Ds.length:=by rw [hlen]; exact l.1.isLt
 have hsub:subAV (.ref 2) (.int (l.1.val:Int)) H=some (dom S):=by
  rw [qAx hdoms,idx_at rfl (by rw [List.length_map,hlen]; exact l.1.isLt)]
  simp [hS]
 (injection (hnews) with kvs; try clear hnews; rintro ⟨e,b⟩)
 have w:=nww
 simp only [List.mem_cons,not_or] at w
 refine ⟨upd (l.1.val:Int) (.bool true) kvs,?_,?_⟩
 ·have:∀ (k:Int) (v:AV) (m:List (Int × AV)),(upd k v m).length ≤ m.length + 1:=by
   intros k v m
   induction m with
   | nil=>simp [upd]
   | cons p r ih =>
    revert ih; revert p r; intros p r; intro ih
    obtain ⟨a,c⟩:=p
    simp only [upd]
    split <;> simp <;> lia
  exact Nat.le_trans (this _ _ _) (by lia)
 have g57:∀ H':AHeap,H'[1]?=some (.ns (stF mk nw))→qAD PP (.inst 1 1) 57 H'=some (.ref 2):=fun H' q=>by rw [qAJ q rfl]; rfl
 have g27:∀ H':AHeap,H'[1]?=some (.ns (stF mk nw))→qAD PP (.inst 1 1) 27 H'=some (.ref 4):=fun H' q=>by rw [qAJ q rfl]; rfl
 have g60:∀ H':AHeap,H'[1]?=some (.ns (stF mk nw))→qAD PP (.inst 1 1) 60 H'=some (.ref nw):=fun H' q=>by rw [qAJ q rfl]; rfl
 have enter:callF PP (d + 5) 23 [.inst 1 1,lav l,.none,.int (-1)] H=some (.bool true,((H.set 4 (.list ((tr ++ [(l.1,S,l)]).map trAV))).set 2 (.list ((Ds.set l.1.val (cut l S)).map dom))).set nw (.dictI (upd (l.1.val:Int) (.bool true) kvs))):=by
  refine qB5 (fn:=fn23) (fl:=.ret _) rfl rfl rfl ?_
  have n1:(H.set 4 (.list ((tr ++ [(l.1,S,l)]).map trAV)))[1]?=some (.ns (stF mk nw)):=by rw [qA5 (by decide)]; exact hns
  have n2:(H.set 4 (.list ((tr ++ [(l.1,S,l)]).map trAV)))[2]?=some (.list (Ds.map dom)):=by rw [qA5 (by decide)]; exact hdoms
  have n3:((H.set 4 (.list ((tr ++ [(l.1,S,l)]).map trAV))).set 2 (.list ((Ds.set l.1.val (cut l S)).map dom)))[1]?=some (.ns (stF mk nw)):=by rw [qA5 (by decide)]; exact n1
  have n4:((H.set 4 (.list ((tr ++ [(l.1,S,l)]).map trAV))).set 2 (.list ((Ds.set l.1.val (cut l S)).map dom)))[nw]?=some (.dictI kvs):=by rw [qA5 (by lia),qA5 (by lia)]; exact e
  have ap:qAr 4 0 [.tup [.int (l.1.val:Int),dom S,lav l,.none,.int (-1)]] H=some (.none,H.set 4 (.list ((tr ++ [(l.1,S,l)]).map trAV))):=by
   rw [qBv htr (by simp; lia)]; simp [trAV]
  have as2:qBA (.ref 2) (.int (l.1.val:Int)) (dom (cut l S)) (H.set 4 (.list ((tr ++ [(l.1,S,l)]).map trAV)))=some ((H.set 4 (.list ((tr ++ [(l.1,S,l)]).map trAV))).set 2 (.list ((Ds.set l.1.val (cut l S)).map dom))):=by
   rw [qD8 n2 (by lia) (by simp; lia)]
   rw [Int.toNat_natCast,List.map_set]
  have as3:=qKh (x:=.bool true) (i:=(l.1.val:Int)) n4 (by lia)
  simp [-List.map_set,-List.map_append,fn23,List.lookup,upd,g57 _ hns,g27 _ hns,hsub,qH6,h0,h1,qBK htr,ap,g57 _ n1,as2,g60 _ n3,as3]
 refine qB5 (fn:=fn25) (fl:=.ret _) rfl rfl rfl ?_
 have nm:qAj 1 67 H=true:=qAh hns rfl
 have mt:mtOf PP 1 67=some 23:=rfl
 simp [-List.map_set,-List.map_append,fn25,List.lookup,mt,nm,enter]
end
end Mine.Internal.L
end
section
open PySem PySem.W PyProof.Rows
namespace Mine.Internal.L
noncomputable def undo (es:List TrE) (Ds:List Dm):List Dm:=es.foldr (fun e Ds=>Ds.set e.1.val e.2.1) Ds
theorem qKq (es:List TrE) (Ds:List Dm):(undo es Ds).length=Ds.length:=by
 induction es with
 | nil=>rfl
 | cons e r ih=>show ((undo r Ds).set _ _).length=_; rw [List.length_set,ih]
noncomputable def qFe:CE:=.cmp .gt (.bi .len false [(.attr (.var 29) 27)]) (.var 53)
noncomputable def qHG:List CS:=[(.asg (.name 26) (.callM (.attr (.var 29) 27) 1 [])),(.asg (.sub (.attr (.var 29) 57) (.sub (.var 26) (.lit (.int 0)))) (.sub (.var 26) (.lit (.int 1))))]
noncomputable def qCN (n k:AV) (r:Option AV):Rho:=[(29,.inst 1 1),(68,n),(53,k)] ++ (match r with | some v=>[(26,v)] | none=>[])
theorem qL9 {cf:qAQ}{fs:List (Nat × AV)} (h27:fs.lookup 27=some (.ref 4)) (h57:fs.lookup 57=some (.ref 2)) {n:AV}{keep:List TrE}:∀ (m:Nat) (es:List TrE),es.length=m→∀ (Ds:List Dm) (H:AHeap) (r:Option AV) (fuel:Nat),
  m < fuel→H[1]?=some (.ns fs)→H[4]?=some (.list ((keep ++ es).map trAV))→H[2]?=some (.list (Ds.map dom))→Ds.length=4 →
  ∃ r' H',whileLoop (evE PP cf 40 qFe) (evSs (evS PP cf 19) qHG) fuel (qCN n (.int keep.length) r) H=some (.next,qCN n (.int keep.length) r',H')∧H'[4]?=some (.list (keep.map trAV))∧H'[2]?=some (.list ((undo es Ds).map dom)) ∧
   (∀ j,j ≠ 4→j ≠ 2→H'[j]?=H[j]?)∧H'.length=H.length:=by
 revert h27 h57
 revert cf fs n keep
 intros cf fs n keep
 intro h27 h57
 intros m
 induction m with
 | zero =>
  (intros es; intro he; intros Ds H r fuel; intro hf h1 h4 h2 hD)
  rw [List.length_eq_zero_iff] at he
  subst he
  (injection (⟨fuel - 1,by lia⟩:∃ k,fuel=k + 1) with fuel; rintro rfl)
  rw [List.append_nil] at h4
  have g27:qAD PP (.inst 1 1) 27 H=some (.ref 4):=by rw [qAJ h1 rfl,h27]
  refine ⟨r,H,?_,h4,h2,fun _ _ _=>rfl,rfl⟩
  rw [qJ1]
  cases r <;> simp [qCN,qFe,List.lookup,g27,qBS h4]
 | succ m ih =>
  revert ih; revert m; intros m; intro ih
  (intros es; intro he; intros Ds H r fuel; intro hf h1 h4 h2 hD)
  (injection (⟨fuel - 1,by lia⟩:∃ k,fuel=k + 1) with fuel; rintro rfl)
  (injection (by
   rcases List.eq_nil_or_concat es with q | ⟨a,b,q⟩
   ·subst q; cases he
   ·revert q; revert a b; intros a b; intro q
    revert q; revert a b; intros a b; intro q
    exact ⟨a,b,by simpa using q⟩:∃ es' e,es=es' ++ [e]) with es e; rintro rfl)
  have g27:qAD PP (.inst 1 1) 27 H=some (.ref 4):=by rw [qAJ h1 rfl,h27]
  have g57:qAD PP (.inst 1 1) 57 (H.set 4 (.list ((keep ++ es).map trAV)))=some (.ref 2):=by rw [qAJ (by rw [qA5 (by decide)]; exact h1) rfl,h57]
  have pm:qAr 4 1 [] H=some (trAV e,H.set 4 (.list ((keep ++ es).map trAV))):=by
   rw [pop_m (v:=trAV e) h4 (by simp)]
   simp [← List.append_assoc]
  have as2:qBA (.ref 2) (.int (e.1.val:Int)) (dom e.2.1) (H.set 4 (.list ((keep ++ es).map trAV)))=some ((H.set 4 (.list ((keep ++ es).map trAV))).set 2 (.list ((Ds.set e.1.val e.2.1).map dom))):=by
   rw [qD8 (by rw [qA5 (by decide)]; exact h2) (by lia) (by rw [List.length_map,hD]; have:=e.1.isLt; lia),Int.toNat_natCast,List.map_set]
  have t0:subAV (trAV e) (.int 0) (H.set 4 (.list ((keep ++ es).map trAV)))=some (.int (e.1.val:Int)):=rfl
  have t1:subAV (trAV e) (.int 1) (H.set 4 (.list ((keep ++ es).map trAV)))=some (dom e.2.1):=rfl
  (injection (ih es (by simpa using he) (Ds.set e.1.val e.2.1) ((H.set 4 (.list ((keep ++ es).map trAV))).set 2 (.list ((Ds.set e.1.val e.2.1).map dom))) (some (trAV e)) fuel (by lia)
   (by rw [qA5 (by decide),qA5 (by decide)]; exact h1) (by rw [qA5 (by decide)]; exact qAG h4) (by rw [qAG (o:=.list (Ds.map dom))]; rw [qA5 (by decide)]; exact h2) (by rw [List.length_set]; exact hD)) with r' H'; rintro ⟨k1,k2,k3,k4,k5⟩)
  refine ⟨r',H',?_,k2,?_,by intros j; intro a b; rw [k4 j a b,qA5 (Ne.symm b),qA5 (Ne.symm a)],by rw [k5]; simp⟩
  ·rw [qJ1]
   have hlt:(keep.length:Int) < ((keep ++ (es ++ [e])).map trAV).length:=by simp; lia
   have key:evSs (evS PP cf 19) qHG (qCN n (.int keep.length) r) H=some (.next,qCN n (.int keep.length) (some (trAV e)),(H.set 4 (.list ((keep ++ es).map trAV))).set 2 (.list ((Ds.set e.1.val e.2.1).map dom))):=by
    cases r <;> simp [-List.map_set,-List.map_append,qCN,qHG,List.lookup,upd,g27,qNG h4,pm,g57,t0,t1,as2]
   have ht:evE PP cf 40 qFe (qCN n (.int keep.length) r) H=some (.bool true,H):=by
    cases r <;> simp [-List.map_set,-List.map_append,qCN,qFe,List.lookup,g27,qBS h4] <;> lia
   rw [ht,qBs,qBr,Option.bind_some,if_pos rfl,key]
   exact k1
  ·rw [k3,undo,undo,List.foldr_append]; rfl
theorem qL8 (d:Nat) {H:AHeap}{mk nw:Nat}{Ds:List Dm}{keep es:List TrE}{nn:Nat} (A:StoreAt H mk nw Ds (keep ++ es) nn) (h1:1 ≤ es.length) (hb:keep.length + es.length < 900) (h13:13 ≤ H.length) :
  ∃ H',callF PP (d + 1) 28 [.inst 1 1,.int es.length] H=some (.none,H')∧StoreAt H' H.length (H.length + 1) (undo es Ds) keep nn∧H.length ≤ H'.length∧∀ j < H.length,j ∉ [1,2,4]→H'[j]?=H[j]?:=by
 revert A h1 hb h13
 revert d H mk nw Ds keep es nn
 intros d H mk nw Ds keep es nn
 intro A h1 hb h13
 have st:∀ (a:Nat) (mk nw:Nat) (v:AV) (H:AHeap) (fs:List (Nat × AV)),H[1]?=some (.ns fs)→qDp PP 1 a=true→fs.length < 900→qBu PP (.inst 1 1) a v H=some (H.set 1 (.ns (upd a v fs))):=fun a mk nw v H fs h q z=>qD9 h q z
 have g59:qAD PP (.inst 1 1) 59 H=some (.ref mk):=by rw [qAJ A.ns rfl]; rfl
 have hmk:H[mk]?=some (.list (nsAV (List.range (keep.length + es.length)))):=by have:=A.marks; rwa [List.length_append] at this
 have hlen:(nsAV (List.range (keep.length + es.length))).length=keep.length + es.length:=by simp
 (injection (⟨_,rfl⟩:∃ H1,H1=H ++ [AObj.list (nsAV (List.range keep.length))]) with H1; intro e1)
 have n1:H1[1]?=some (.ns (stF mk nw)):=by rw [e1]; exact qCB A.ns
 (injection (⟨_,rfl⟩:∃ H2,H2=H1.set 1 (.ns (stF H.length nw))) with H2; intro e2)
 have a59:qBu PP (.inst 1 1) 59 (.ref H.length) H1=some H2:=by rw [qD9 n1 rfl (by simp [stF]),e2]; rfl
 have o2:∀ j < H.length,j ≠ 1→H2[j]?=H[j]?:=fun j hj h=>by rw [e2,qA5 (Ne.symm h),e1]; exact List.getElem?_append_left hj
 have n2:H2[1]?=some (.ns (stF H.length nw)):=by rw [e2]; exact qAG n1
 have l2:H2.length=H.length + 1:=by rw [e2,e1]; simp
 have new2:H2[H.length]?=some (.list (nsAV (List.range keep.length))):=by rw [e2,qA5 (by lia),e1]; exact qEk
 (injection (qL9 (cf:=callF PP d) (n:=.int es.length) (keep:=keep) (fs:=stF H.length nw) rfl rfl es.length es rfl Ds H2 none 1000 (by lia) n2 (by rw [o2 4 (qAB A.trail) (by decide)]; exact A.trail) (by rw [o2 2 (qAB A.doms) (by decide)]; exact A.doms) A.len) with r H3; rintro ⟨k1,k2,k3,k4,k5⟩)
 have n3:H3[1]?=some (.ns (stF H.length nw)):=by rw [k4 1 (by decide) (by decide)]; exact n2
 (injection (⟨_,rfl⟩:∃ H4,H4=(H3 ++ [AObj.dictI []]).set 1 (.ns (stF H.length (H.length + 1)))) with H4; intro e4)
 have l3:H3.length=H.length + 1:=by rw [k5,l2]
 have n3':(H3 ++ [AObj.dictI []])[1]?=some (.ns (stF H.length nw)):=qCB n3
 have a60:qBu PP (.inst 1 1) 60 (.ref H3.length) (H3 ++ [AObj.dictI []])=some H4:=by rw [qD9 n3' rfl (by simp [stF]),e4,l3]; rfl
 have n4:H4[1]?=some (.ns (stF H.length (H.length + 1))):=by rw [e4]; exact qAG n3'
 have o4:∀ j < H3.length,j ≠ 1→H4[j]?=H3[j]?:=fun j hj h=>by rw [e4,qA5 (Ne.symm h)]; exact List.getElem?_append_left hj
 have f4:H4[3]?=some (.list [dom 15,dom 15,dom 15,dom 15]):=by rw [o4 3 (by lia) (by decide),k4 3 (by decide) (by decide),o2 3 (qAB A.firsts) (by decide)]; exact A.firsts
 have g58:qAD PP (.inst 1 1) 58 H4=some (.ref 3):=by rw [qAJ n4 rfl]; rfl
 have c58:cmpAV .inn (.tup []) (.ref 3) H4=some false:=by
  show (do memAV (.tup []) (← qBp H4 (.ref 3)))=_
  rw [show qBp H4 (.ref 3)=some [dom 15,dom 15,dom 15,dom 15] from qM3 f4]
  rfl
 (injection (⟨_,rfl⟩:∃ H5,H5=H4.set 1 (.ns (stF H.length (H.length + 1)))) with H5; intro e5)
 have a62:qBu PP (.inst 1 1) 62 (.bool false) H4=some H5:=by rw [qD9 n4 rfl (by simp [stF]),e5]; rfl
 have n5:H5[1]?=some (.ns (stF H.length (H.length + 1))):=by rw [e5]; exact qAG n4
 (injection (⟨_,rfl⟩:∃ H6,H6=H5.set 1 (.ns (stF H.length (H.length + 1)))) with H6; intro e6)
 have a63:qBu PP (.inst 1 1) 63 (.tup []) H5=some H6:=by rw [qD9 n5 rfl (by simp [stF]),e6]; rfl
 have n6:H6[1]?=some (.ns (stF H.length (H.length + 1))):=by rw [e6]; exact qAG n5
 have o6:∀ j,j ≠ 1→H6[j]?=H4[j]?:=by intros j; intro h; rw [e6,qA5 (Ne.symm h),e5,qA5 (Ne.symm h)]
 have l4:H4.length=H.length + 2:=by rw [e4]; simp [l3]
 have l6:H6.length=H.length + 2:=by rw [e6,e5]; simp [l4]
 have m59:subAV (.ref mk) (.int (((keep.length + es.length:Nat):Int) - es.length)) H=some (.int keep.length):=by
  rw [qAx hmk,idx_at (k:=keep.length) (by lia) (by rw [hlen]; lia)]
  show ((List.range (keep.length + es.length)).map _)[keep.length]?=_
  rw [List.getElem?_map,List.getElem?_range (by lia)]; rfl
 refine ⟨H6,?_,⟨n6,?_,?_,?_,?_,?_,⟨[],?_,by simp⟩,?_,?_⟩,by lia,?_⟩
 ·refine qB5 (fn:=fn28) (fl:=.next) rfl rfl rfl ?_
  have hn:¬ (es.length:Int) < 1:=by lia
  have hln:biAV .len false [.ref mk] H=some (.int ((keep.length + es.length:Nat):Int),H):=by rw [qBS hmk,hlen]
  have hli:qAI H (.ref mk)=some (nsAV (List.range (keep.length + es.length))):=qM3 hmk
  have hs:qAb (nsAV (List.range (keep.length + es.length))) none (some (((keep.length + es.length:Nat):Int) - es.length))=nsAV (List.range keep.length):=by
   have:clamp (keep.length + es.length) (((keep.length + es.length:Nat):Int) - es.length)=keep.length:=by
    exact qE0 (by rw [Int.natCast_add,Int.add_sub_cancel]) (Nat.le_add_right _ _)
   simp only [qAb,hlen,this,List.drop_zero]
   simp [nsAV,List.take_range,← List.map_take]
  have sm:small (((keep.length + es.length:Nat):Int) - es.length)=true:=by simp only [small,decide_eq_true_eq]; lia
  have kk:whileLoop (evE PP (callF PP d) 40 (.cmp .gt (.bi .len false [(.attr (.var 29) 27)]) (.var 53))) (evSs (evS PP (callF PP d) 19) [(.asg (.name 26) (.callM (.attr (.var 29) 27) 1 [])),(.asg (.sub (.attr (.var 29) 57) (.sub (.var 26) (.lit (.int 0)))) (.sub (.var 26) (.lit (.int 1))))]) 1000 [(29,.inst 1 1),(68,.int es.length),(53,.int keep.length)] H2=some (.next,qCN (.int es.length) (.int keep.length) r,H3):=k1
  have e1':H ++ [AObj.list (nsAV (List.range keep.length))]=H1:=e1.symm
  cases r <;> simp [-List.map_set,-List.map_append,-Int.natCast_add,fn28,List.lookup,upd,hn,g59,hln,m59,hli,sm,hs,e1',a59,kk,qCN,a60,g58,c58,a62,a63]
 ·rw [o6 2 (by decide),o4 2 (by lia) (by decide)]; exact k3
 ·rw [qKq]; exact A.len
 ·rw [o6 3 (by decide)]; exact f4
 ·rw [o6 4 (by decide),o4 4 (by lia) (by decide)]; exact k2
 ·rw [o6 _ (by lia),o4 _ (by lia) (by lia),k4 _ (by lia) (by lia)]; exact new2
 ·rw [o6 _ (by lia),e4,qA5 (by lia),← l3]; exact qEk
 ·simp only [List.mem_cons,List.not_mem_nil,or_false,not_or]; exact ⟨big13 h13 (by decide),big13 h13 (by decide),big13 h13 (by decide),big13 h13 (by decide),big13 h13 (by decide),big13 h13 (by decide),big13 h13 (by decide),big13 h13 (by decide),big13 h13 (by decide),big13 h13 (by decide),big13 h13 (by decide)⟩
 ·simp only [List.mem_cons,List.not_mem_nil,or_false,not_or]; exact ⟨big13 (Nat.le_succ_of_le h13) (by decide),big13 (Nat.le_succ_of_le h13) (by decide),big13 (Nat.le_succ_of_le h13) (by decide),big13 (Nat.le_succ_of_le h13) (by decide),big13 (Nat.le_succ_of_le h13) (by decide),big13 (Nat.le_succ_of_le h13) (by decide),big13 (Nat.le_succ_of_le h13) (by decide),big13 (Nat.le_succ_of_le h13) (by decide),big13 (Nat.le_succ_of_le h13) (by decide),big13 (Nat.le_succ_of_le h13) (by decide),big13 (Nat.le_succ_of_le h13) (by decide)⟩
 ·intros j; intro hj hm
  simp only [List.mem_cons,List.not_mem_nil,or_false,not_or] at hm
  rw [o6 j hm.1,o4 j (by lia) hm.1,k4 j hm.2.2 hm.2.1,o2 j hj hm.1]
end Mine.Internal.L
end
section
open PySem PySem.W PyProof.Rows
namespace Mine.Internal.L
noncomputable def qAH (Ds:List Dm):AV:=.lst (Ds.map lot)
theorem qGK {l:List AV}{i:Int}{a:AV} (h:qAO l=true) (k:a.plain=true):qAO [.lst l,.int i,a]=true:=Bool.and_eq_true_iff.mpr ⟨h,Bool.and_eq_true_iff.mpr ⟨rfl,Bool.and_eq_true_iff.mpr ⟨k,rfl⟩⟩⟩
theorem qDi (Ds:List Dm):(qAH Ds).plain=true:=by
 show qAO (Ds.map lot)=true
 induction Ds with
 | nil=>rfl
 | cons a r ih=>show ((lot a).plain && qAO (r.map lot))=true; rw [qGS,ih]; rfl
noncomputable def isF (Ds:List Dm) (l:Lit):Bool:=match Ds[l.1.val]? with
 | some S=>decide (cut l S=0)
 | none=>false
noncomputable def hold (Ds:List Dm) (l:Lit):Int:=match Ds[l.1.val]? with
 | some S=>said l S
 | none=>0
theorem at_of {Ds:List Dm} (h:Ds.length=4) (x:Fin 4):∃ S,Ds[x.val]?=some S:=⟨Ds[x.val]'(by lia),List.getElem?_eq_getElem _⟩
theorem qLW {Ds:List Dm} (h:Ds.length=4) (nz:∀ S ∈ Ds,S ≠ 0) (l:Lit):decide (hold Ds l = -1)=isF Ds l:=by
 revert h nz
 revert Ds l
 intros Ds l
 intro h nz
 (injection (at_of h l.1) with S; intro hS)
 have hz:S ≠ 0:=nz S (List.mem_of_getElem? hS)
 have e1:hold Ds l=said l S:=by unfold hold; rw [hS]
 have e2:isF Ds l=decide (cut l S=0):=by unfold isF; rw [hS]
 rw [e1,e2]
 unfold said
 by_cases h1:cut l S=S
 ·have:¬ cut l S=0:=by rw [h1]; exact hz
  simp [h1,hz]
 ·by_cases h2:cut l S=0
  ·simp [h2,Ne.symm hz]
  ·simp [h1,h2]
theorem qB3 (d:Nat) {H:AHeap}{Ds:List Dm} (h:Ds.length=4) (l:Lit):callF PP (d + 2) 35 [lav l,qAH Ds] H=some (.bool (isF Ds l),H):=by
 revert h
 revert d H Ds l
 intros d H Ds l
 intro h
 (injection (at_of h l.1) with S; intro hS)
 refine qKX (fn:=fn35) (fl:=.ret (.bool (isF Ds l))) (H':=[]) rfl rfl (by simp [qAO,qBd,qDi]) rfl ?_ rfl
 have hs:∀ H,subAV (qAH Ds) (.int (l.1.val:Int)) H=some (lot S):=by
  intros H
  show (idx (Ds.map lot).length _).bind _=_
  rw [idx_at rfl (by rw [List.length_map,h]; exact l.1.isLt)]
  simp [hS]
 simp [fn35,List.lookup,hs,qGV,isF,hS]
theorem qHD {body:Rho→AHeap→StRes}{R:Option AV→Rho}{H:AHeap}{p:Nat→Bool} (hu:∀ r v,upd 12 v (R r)=R (some v)):∀ (ks:List Nat) (r:Option AV),
  (∀ k ∈ ks,p k=false→body (R (some (.int k))) H=some (.next,R (some (.int k)),H))→ks.find? p=none →
  ∃ r',forLoop body (.name 12) H none (ks.map fun (k:Nat)=>AV.int (k:Int)) (R r) H=some (.next,R r',H)
 | [],r,_,_=>⟨r,by rw [List.map_nil,qI6]; simp⟩
 | k :: ks,r,h1,h2=>by
  rw [List.find?_cons] at h2
  cases hp:p k with
  | true=>rw [hp] at h2; cases h2
  | false =>
   rw [hp] at h2
   obtain ⟨r',ih⟩:=qHD hu ks (some (.int k)) (fun j hj=>h1 j (.tail _ hj)) h2
   have e:=h1 k (.head _) hp
   refine ⟨r',?_⟩
   rw [List.map_cons,qDX]
   simp [hu,e,ih]
theorem qFY {body:Rho→AHeap→StRes}{R:Option AV→Rho}{H H':AHeap}{p:Nat→Bool}{v:AV}{k:Nat} (hu:∀ r v,upd 12 v (R r)=R (some v)):∀ (ks:List Nat) (r:Option AV),
  (∀ k ∈ ks,p k=false→body (R (some (.int k))) H=some (.next,R (some (.int k)),H))→ks.find? p=some k→outS (body (R (some (.int k))) H)=some (.ret v,H') →
  outS (forLoop body (.name 12) H none (ks.map fun (k:Nat)=>AV.int (k:Int)) (R r) H)=some (.ret v,H')
 | [],r,_,h2,_=>by cases h2
 | j :: ks,r,h1,h2,h3=>by
  rw [List.find?_cons] at h2
  cases hp:p j with
  | true =>
   rw [hp] at h2
   cases h2
   obtain ⟨ρ,e⟩:=qDQ h3
   rw [List.map_cons,qDX]
   simp [hu,e]
  | false =>
   rw [hp] at h2
   have ih:=qFY hu ks (some (.int j)) (fun j hj=>h1 j (.tail _ hj)) h2 h3
   have e:=h1 j (.head _) hp
   rw [List.map_cons,qDX]
   simp [hu,e,ih]
theorem qDO {a n:Nat}:qAF (a:Int) (n:Int)=(List.range' a (n - a)).map fun (k:Nat)=>AV.int (k:Int):=by
 unfold qAF
 rw [List.range'_eq_map_range,List.map_map]
 have:((n:Int) - a).toNat=n - a:=by lia
 rw [this]
 refine List.map_congr_left fun i _=>?_
 simp
noncomputable def qGi (row:List Lit) (F:Lit→Bool):Option Nat:=(List.range' 2 (row.length - 2)).find? fun k=>match row[k]? with
 | some l=>!F l
 | none=>false
noncomputable def swap (row:List Lit) (i k:Nat):List Lit:=match row[i]?,row[k]? with
 | some a,some b=>(row.set i b).set k a
 | _,_=>row
noncomputable def qAV (row:List Lit) (spot:Nat) (F:Lit→Bool):List Lit:=match qGi row F with
 | some k=>swap row spot k
 | none=>row
theorem qKw (row i k):(swap row i k).length=row.length:=by unfold swap; split <;> simp
theorem qGE (row i F):(qAV row i F).length=row.length:=by unfold qAV; split <;> simp [qKw]
set_option tactic.hygienic true in
set_option hygiene true in
theorem qER {row F k} (h:qGi row F=some k):2 ≤ k∧k < row.length∧∃ l,row[k]?=some l∧F l=false:=by
 unfold qGi at h
 have h1:=List.mem_of_find?_eq_some h
 have h2:=List.find?_some h
 rw [List.mem_range'_1] at h1
 refine ⟨h1.1,qNV h1,?_⟩
 split at h2
 ·rename_i l e; exact ⟨l,e,by simpa using h2⟩
 ·cases h2
noncomputable def rowAV (row:List Lit):AV:=.lst (row.map lav)
theorem qDN (row:List Lit):qAO (row.map lav)=true:=by
 induction row with
 | nil=>rfl
 | cons a r ih=>show ((lav a).plain && qAO (r.map lav))=true; rw [ih]; rfl
theorem qDM {row:List Lit}{k:Nat}{l:Lit} (h:row[k]?=some l) {H:AHeap}:subAV (.lst (row.map lav)) (.int (k:Int)) H=some (lav l):=by
 have hk:=(List.getElem?_eq_some_iff.mp h).1
 show (idx (row.map lav).length _).bind _=_
 rw [idx_at rfl (by rw [List.length_map]; exact hk)]
 simp [h]
theorem qAn {row:List Lit}{k c:Nat}{l:Lit}{H:AHeap} (hc:H[c]?=some (.list (row.map lav))) (h:row[k]?=some l):subAV (.ref c) (.int (k:Int)) H=some (lav l):=by
 have hk:=(List.getElem?_eq_some_iff.mp h).1
 rw [qAx hc,idx_at rfl (by rw [List.length_map]; exact hk)]
 simp [h]
theorem qFb {row:List Lit}{k c:Nat}{l:Lit}{H:AHeap} (hc:H[c]?=some (.list (row.map lav))) (hk:k < row.length):qBA (.ref c) (.int (k:Int)) (lav l) H=some (H.set c (.list ((row.set k l).map lav))):=by
 rw [qD8 hc (by lia) (by rw [List.length_map]; lia),Int.toNat_natCast,List.map_set]
noncomputable def nwRho (row:AV) (spot:AV) (lots:AV) (r:Option AV):Rho:=[(72,row),(25,spot),(77,lots)] ++ (match r with | some v=>[(12,v)] | none=>[])
section
variable {a b c v:AV}{r:Option AV}
@[simp] theorem nw72:(nwRho a b c r).lookup 72=some a:=rfl
@[simp] theorem nw25:(nwRho a b c r).lookup 25=some b:=rfl
@[simp] theorem nw77:(nwRho a b c r).lookup 77=some c:=rfl
@[simp] theorem nw12:(nwRho a b c (some v)).lookup 12=some v:=rfl
@[simp] theorem nwu72:upd 72 v (nwRho a b c r)=nwRho v b c r:=rfl
end
theorem qGC (d:Nat) {H:AHeap}{Ds:List Dm} (h:Ds.length=4) (row:List Lit) (spot:Nat) (hs:spot < row.length) (h2:2 ≤ row.length) (hb:row.length < 1000):callF PP (d + 3) 36 [rowAV row,.int spot,qAH Ds] H=some (rowAV (qAV row spot (isF Ds)),H):=by
 revert h hs h2 hb
 revert d H Ds row spot
 intros d H Ds row spot
 intro h hs h2 hb
 have body:∃ (fl:Fl) (H':AHeap),outS (evSs (evS PP (callF PP (d + 2)) 20) fn36.body (nwRho (rowAV row) (.int spot) (qAH Ds) none) [])=some (fl,H')∧qBG [] H' (flVal fl)=some (rowAV (qAV row spot (isF Ds))):=by
  have hr:biAV .range false [.int 2,.int (row.length:Int)] []=some (.rng 2 row.length,[]):=qJS (by decide) (by lia)
  have hra:qAF 2 (row.length:Int)=(List.range' 2 (row.length - 2)).map fun (k:Nat)=>AV.int (k:Int):=qDO (a:=2)
  have hln:∀ H,biAV .len false [rowAV row] H=some (.int row.length,H):=by intros H; show some (AV.int ((row.map lav).length:Int),H)=_; rw [List.length_map]
  have hno:∀ k ∈ List.range' 2 (row.length - 2),(match row[k]? with | some l=>!isF Ds l | none=>false)=false→evSs (evS PP (callF PP (d + 2)) 19) [(.ife (.not (.callF 35 [(.sub (.var 72) (.var 12)),(.var 77)])) [(.asg (.name 72) (.slice true (.var 72) none none)),(.asg (.tup [(.sub (.var 72) (.var 25)),(.sub (.var 72) (.var 12))]) (.tup [(.sub (.var 72) (.var 12)),(.sub (.var 72) (.var 25))])),(.ret (some (.var 72)))] [])] (nwRho (rowAV row) (.int spot) (qAH Ds) (some (.int k))) []=some (.next,nwRho (rowAV row) (.int spot) (qAH Ds) (some (.int k)),[]):=by
   (intros k; intro hk hp)
   rw [List.mem_range'_1] at hk
   have hkl:row[k]?=some (row[k]'(by lia)):=List.getElem?_eq_getElem _
   rw [hkl] at hp
   simp only [Bool.not_eq_false'] at hp
   have s1:subAV (rowAV row) (.int (k:Int)) []=some (lav (row[k]'(by lia))):=qDM hkl
   simp [s1,qB3 d h,hp]
  unfold qAV
  cases hk:qGi row (isF Ds) with
  | some k =>
   revert hk; revert k; intros k; intro hk
   (obtain ⟨hk2,hkr,H_⟩:=qER hk; injection H_ with l; clear H_; rintro ⟨hkl,hp⟩)
   have hsl:row[spot]?=some (row[spot]'hs):=List.getElem?_eq_getElem _
   have s1:∀ H,subAV (rowAV row) (.int (k:Int)) H=some (lav l):=fun H=>qDM hkl
   have hc:([AObj.list (row.map lav)]:AHeap)[0]?=some (.list (row.map lav)):=rfl
   have s2:subAV (.ref 0) (.int (k:Int)) [AObj.list (row.map lav)]=some (lav l):=qAn hc hkl
   have s3:subAV (.ref 0) (.int (spot:Int)) [AObj.list (row.map lav)]=some (lav (row[spot]'hs)):=qAn hc hsl
   have a1:qBA (.ref 0) (.int (spot:Int)) (lav l) [AObj.list (row.map lav)]=some [.list ((row.set spot l).map lav)]:=qFb hc hs
   have a2:qBA (.ref 0) (.int (k:Int)) (lav (row[spot]'hs)) [.list ((row.set spot l).map lav)]=some [.list (((row.set spot l).set k (row[spot]'hs)).map lav)]:=qFb rfl (by simp; lia)
   have hsw:swap row spot k=(row.set spot l).set k (row[spot]'hs):=by unfold swap; rw [hsl,hkl]
   have hli:qAI [] (rowAV row)=some (row.map lav):=rfl
   have hsl2:qAb (row.map lav) none none=row.map lav:=by simp [qAb,List.take_of_length_le]
   have sc:=qFY (R:=nwRho (rowAV row) (.int spot) (qAH Ds)) (H:=[]) (v:=.ref 0) (H':=[.list ((swap row spot k).map lav)]) (fun r v=>by cases r <;> rfl) (List.range' 2 (row.length - 2)) none hno hk (by
    rw [hsw]
    simp [-List.map_set,s1,qB3 d h,hp,hli,hsl2,s2,s3,a1,a2])
   (injection (qDQ sc) with ρ; intro e)
   refine ⟨.ret (.ref 0),[.list ((swap row spot k).map lav)],?_,?_⟩
   ·show outS (evSs _ (CS.for false (.name 12) _ _ :: _) _ _)=_
    simp [hln,hr,hra,e]
   ·exact qIh (l:=(swap row spot k).map lav) rfl (Nat.le_refl 0) (qDN _)
  | none =>
   (have H_:=(qHD (R:=nwRho (rowAV row) (.int spot) (qAH Ds)) (H:=[]) (fun r v=>by cases r <;> rfl) (List.range' 2 (row.length - 2)) none hno hk); injection H_ with r'; clear H_; intro e)
   refine ⟨.ret (rowAV row),[],?_,?_⟩
   ·show outS (evSs _ (CS.for false (.name 12) _ _ :: _) _ _)=_
    simp [hln,hr,hra,e]
   ·exact qIi (qDN row)
 (injection (body) with fl H'; try clear body; rintro ⟨e1,e2⟩)
 exact qKX (fn:=fn36) rfl rfl (qGK (qDN _) (qDi _)) rfl e1 e2
end Mine.Internal.L
end
section
open PySem PySem.W PyProof.Rows
namespace Mine.Internal.L
noncomputable def wat (row:List Lit) (x:Fin 4):Prop:=(∃ l,row[0]?=some l∧l.1=x)∨(∃ l,row[1]?=some l∧l.1=x)
noncomputable def watM (rows:List (List Lit)) (x:Fin 4) (n:Nat):Prop:=∃ row,rows[n]?=some row∧wat row x
theorem WatchAt.congr {H ws M M' N} (h:WatchAt H ws M N) (k:∀ x n,M x n↔M' x n):WatchAt H ws M' N :=
 ⟨h.dict,fun x w q=>let ⟨ns,a,b,c,e⟩:=h.list x w q; ⟨ns,a,b,c,fun n=>(e n).trans (k x n)⟩,fun x q n z=>h.none x q n ((k x n).mpr z),h.inj,h.big,h.keys⟩
theorem WatchAt.keep {H H' ws M N} (h:WatchAt H ws M N) (k1:H'[11]?=H[11]?) (k:∀ p ∈ ws,H'[p.2]?=H[p.2]?):WatchAt H' ws M N :=
 ⟨k1.trans h.dict,fun x w q=>let ⟨ns,a,b,c,e⟩:=h.list x w q; ⟨ns,(k _ (qAX q)).trans a,b,c,e⟩,h.none,h.inj,h.big,h.keys⟩
structure BookAt (H:AHeap) (cs:List Nat) (ws:List (Fin 4 × Nat)) (rows:List (List Lit)):Prop where
 ns:H[7]?=some (.ns bkF)
 clauses:H[8]?=some (.list (cs.map AV.ref))
 len:cs.length=rows.length
 row:∀ (n c:Nat) (row:List Lit),cs[n]?=some c→rows[n]?=some row→H[c]?=some (AObj.list (row.map lav))
 W:WatchAt H ws (watM rows) rows.length
 nodup:cs.Nodup
 big:∀ c ∈ cs,13 ≤ c
 apart:∀ c ∈ cs,∀ p ∈ ws,c ≠ p.2
theorem BookAt.keep {H H' cs ws rows} (h:BookAt H cs ws rows) (k:∀ j o,H[j]?=some o→(j=7∨j=8∨j=11∨j ∈ cs∨∃ p ∈ ws,j=p.2)→H'[j]?=some o):BookAt H' cs ws rows:=by
 refine ⟨k _ _ h.ns (by simp),k _ _ h.clauses (by simp),h.len,fun n c row a b=>k _ _ (h.row n c row a b) (.inr (.inr (.inr (.inl (List.mem_of_getElem? a))))),?_,h.nodup,h.big,h.apart⟩
 refine h.W.keep ((k _ _ h.W.dict (by simp)).trans h.W.dict.symm) fun p hp=>?_
 obtain ⟨l,e⟩:=h.W.at_ hp
 rw [e]
 exact k _ _ e (.inr (.inr (.inr (.inr ⟨p,hp,rfl⟩))))
structure FrameB (H H':AHeap) (cs:List Nat) (ws ws':List (Fin 4 × Nat)):Prop where
 le:H.length ≤ H'.length
 same:∀ j < H.length,j ≠ 11→j ∉ cs→(∀ p ∈ ws,j ≠ p.2)→H'[j]?=H[j]?
 new:∀ p ∈ ws',p ∈ ws∨H.length ≤ p.2
theorem FrameB.refl {H cs ws}:FrameB H H cs ws ws:=⟨Nat.le_refl _,fun _ _ _ _ _=>rfl,fun _ m=>.inl m⟩
noncomputable def rnRho (n spot:AV) (c:Nat) (r:Option AV):Rho:=[(29,.inst 0 7),(24,.inst 1 1),(35,n),(25,spot),(41,.ref c)] ++ (match r with | some v=>[(12,v)] | none=>[])
section
variable {a b v:AV}{c:Nat}{r:Option AV}
@[simp] theorem rn29:(rnRho a b c r).lookup 29=some (.inst 0 7):=rfl
@[simp] theorem rn24:(rnRho a b c r).lookup 24=some (.inst 1 1):=rfl
@[simp] theorem rn35:(rnRho a b c r).lookup 35=some a:=rfl
@[simp] theorem rn25:(rnRho a b c r).lookup 25=some b:=rfl
@[simp] theorem rn41:(rnRho a b c r).lookup 41=some (.ref c):=rfl
@[simp] theorem rn12:(rnRho a b c (some v)).lookup 12=some v:=rfl
end
theorem qBy {row:List Lit}{k:Nat}{l:Lit}{y:Fin 4} (h:row[k]?=some l):(∃ m,row[k]?=some m∧m.1=y)↔y=l.1 :=
 ⟨fun ⟨m,a,b⟩=>by rw [h] at a; cases a; exact b.symm,fun e=>⟨l,h,e.symm⟩⟩
theorem qG6 {rows:List (List Lit)}{n:Nat}{row:List Lit} (hr:rows[n]?=some row) {spot k:Nat} (hs:spot < 2) (hk:2 ≤ k) (hl:k < row.length) (y:Fin 4) (m:Nat) (a b c:Lit) (ha:row[spot]?=some a) (hb:row[1 - spot]?=some b) (hc:row[k]?=some c) :
  watM (rows.set n (swap row spot k)) y m↔(if m=n then y=c.1∨y=b.1 else watM rows y m):=by
 revert hr hs hk hl ha hb hc
 revert rows n row spot k y m a b c
 intros rows n row spot k y m a b c
 intro hr hs hk hl ha hb hc
 have hn:=(List.getElem?_eq_some_iff.mp hr).1
 have hsw:swap row spot k=(row.set spot c).set k a:=by unfold swap; rw [ha,hc]
 unfold watM
 by_cases hm:m=n
 ·subst hm
  rw [if_pos rfl,List.getElem?_set_self hn]
  have w:wat (swap row spot k) y↔y=c.1∨y=b.1:=by
   have h0:spot=0∨spot=1:=by lia
   rcases h0 with rfl | rfl
   ·have e0:(swap row 0 k)[0]?=some c:=by rw [hsw,List.getElem?_set_ne (by lia),List.getElem?_set_self (by lia)]
    have e1:(swap row 0 k)[1]?=some b:=by rw [hsw,List.getElem?_set_ne (by lia),List.getElem?_set_ne (by lia)]; exact hb
    exact or_congr (qBy e0) (qBy e1)
   ·have e1:(swap row 1 k)[1]?=some c:=by rw [hsw,List.getElem?_set_ne (by lia),List.getElem?_set_self (by lia)]
    have e0:(swap row 1 k)[0]?=some b:=by rw [hsw,List.getElem?_set_ne (by lia),List.getElem?_set_ne (by lia)]; exact hb
    exact (or_congr (qBy e0) (qBy e1)).trans or_comm
  simp [w]
 ·rw [if_neg hm,List.getElem?_set_ne (Ne.symm hm)]
theorem qMG {rows:List (List Lit)}{n:Nat}{row:List Lit} (hr:rows[n]?=some row) {spot:Nat} (hs:spot < 2) (y:Fin 4) (a b:Lit) (ha:row[spot]?=some a) (hb:row[1 - spot]?=some b):watM rows y n↔y=a.1∨y=b.1:=by
 unfold watM wat
 rw [hr]
 have h0:spot=0∨spot=1:=by lia
 rcases h0 with rfl | rfl
 ·have e0:=qBy (y:=y) ha
  have e1:=qBy (y:=y) (show row[1]?=some b from hb)
  simp only [Option.some.injEq,exists_eq_left',e0,e1]
 ·have e0:=qBy (y:=y) ha
  have e1:=qBy (y:=y) (show row[0]?=some b from hb)
  simp only [Option.some.injEq,exists_eq_left',e0,e1]
  exact or_comm
theorem qIP (d:Nat) {H:AHeap}{mk nw nn:Nat}{Ds:List Dm}{tr:List TrE}{cs:List Nat}{ws:List (Fin 4 × Nat)}{rows:List (List Lit)} (A:StoreAt H mk nw Ds tr nn) (nz:∀ S ∈ Ds,S ≠ 0) (B:BookAt H cs ws rows)
  {n:Nat}{row:List Lit} (hr:rows[n]?=some row) {spot:Nat} (hs:spot < 2) (h2:3 ≤ row.length) (hb:row.length < 1000) (hN:rows.length < 1000) (h13:13 ≤ H.length) :
  ∃ H' ws',callF PP (d + 7) 13 [.inst 0 7,.inst 1 1,.int n,.int spot] H=some (.none,H')∧BookAt H' cs ws' (rows.set n (qAV row spot (isF Ds)))∧FrameB H H' cs ws ws':=by
 revert A nz B hr hs h2 hb hN h13
 revert d H mk nw nn Ds tr cs ws rows n row spot
 intros d H mk nw nn Ds tr cs ws rows n row spot
 intro A nz B hr hs h2 hb hN h13
 have hn:=(List.getElem?_eq_some_iff.mp hr).1
 have hcn:cs[n]?=some (cs[n]'(by rw [B.len]; exact hn)):=List.getElem?_eq_getElem _
 (injection (⟨_,hcn⟩:∃ c,cs[n]?=some c) with c; intro hc)
 clear hcn
 have hcm:=List.mem_of_getElem? hc
 have hrow:=B.row n c row hc hr
 have g30:∀ H:AHeap,H[7]?=some (.ns bkF)→qAD PP (.inst 0 7) 30 H=some (.ref 8):=fun H q=>by rw [qAJ q rfl]; rfl
 have g33:∀ H:AHeap,H[7]?=some (.ns bkF)→qAD PP (.inst 0 7) 33 H=some (.ref 11):=fun H q=>by rw [qAJ q rfl]; rfl
 have scl:subAV (.ref 8) (.int (n:Int)) H=some (.ref c):=by
  rw [qAx B.clauses,idx_at rfl (by rw [List.length_map,B.len]; exact hn)]
  simp [hc]
 have hln:biAV .len false [.ref c] H=some (.int row.length,H):=by rw [qBS hrow,List.length_map]
 have hrg:biAV .range false [.int 2,.int (row.length:Int)] H=some (.rng 2 row.length,H):=qJS (by decide) (by lia)
 have hra:qAF 2 (row.length:Int)=(List.range' 2 (row.length - 2)).map fun (k:Nat)=>AV.int (k:Int):=qDO (a:=2)
 have nh:qAj 1 36 H=true:=qAh A.ns rfl
 have mh:mtOf PP 1 36=some 22:=rfl
 have hho:∀ l:Lit,callF PP (d + 6) 22 [.inst 1 1,lav l] H=some (.int (hold Ds l),H):=by
  intros l
  (injection (at_of A.len l.1) with S; intro hS)
  rw [qFC d A hS]; unfold hold; rw [hS]
 have hhi:∀ l,hold Ds l = -1↔isF Ds l=true:=fun l=>by rw [← qLW A.len nz]; simp
 have act:∀ k,2 ≤ k→k < row.length→(∃ l,row[k]?=some l∧isF Ds l=false)→∃ H' ws',outS (evSs (evS PP (callF PP (d + 6)) 19) [(.ife (.cmp .ne (.callM (.var 24) 36 [(.sub (.var 41) (.var 12))]) (.neg (.lit (.int 1)))) [(.asg (.name 42) (.sub (.sub (.var 41) (.var 25)) (.lit (.int 0)))),
   (.asg (.tup [(.sub (.var 41) (.var 25)),(.sub (.var 41) (.var 12))]) (.tup [(.sub (.var 41) (.var 12)),(.sub (.var 41) (.var 25))])),
   (.ife (.band [(.cmp .ne (.var 42) (.sub (.sub (.var 41) (.lit (.int 0))) (.lit (.int 0)))),(.cmp .ne (.var 42) (.sub (.sub (.var 41) (.lit (.int 1))) (.lit (.int 0))))]) [(.expr (.callM (.sub (.attr (.var 29) 33) (.var 42)) 2 [(.var 35)]))] []),
   (.expr (.callM (.var 29) 39 [(.sub (.sub (.var 41) (.var 25)) (.lit (.int 0))),(.var 35)])),
   (.ret none)] [])] (rnRho (.int n) (.int spot) c (some (.int k))) H)=some (.ret .none,H')∧BookAt H' cs ws' (rows.set n (swap row spot k))∧FrameB H H' cs ws ws':=by
  (intros k; intro hk2 hkl; intro H_; injection H_ with l; clear H_; rintro ⟨hl,hf⟩)
  (injection (⟨_,List.getElem?_eq_getElem (by lia)⟩:∃ a,row[spot]?=some a) with a; intro ha)
  (injection (⟨_,List.getElem?_eq_getElem (by lia)⟩:∃ b,row[1 - spot]?=some b) with b; intro hb')
  have hsw:swap row spot k=(row.set spot l).set k a:=by unfold swap; rw [ha,hl]
  have hne:¬ hold Ds l = -1:=by rw [hhi,hf]; simp
  have hc7:c ≠ 7∧c ≠ 8∧c ≠ 11:=by have:=B.big c hcm; lia
  (injection (⟨_,rfl⟩:∃ H1,H1=H.set c (.list ((row.set spot l).map lav))) with H1; intro e1)
  have r1:H1[c]?=some (.list ((row.set spot l).map lav)):=by rw [e1]; exact qAG hrow
  (injection (⟨_,rfl⟩:∃ H2,H2=H1.set c (.list ((swap row spot k).map lav))) with H2; intro e2)
  have r2:H2[c]?=some (.list ((swap row spot k).map lav)):=by rw [e2]; exact qAG r1
  have o2:∀ j,j ≠ c→H2[j]?=H[j]?:=by intros j; intro hj; rw [e2,qA5 (Ne.symm hj),e1,qA5 (Ne.symm hj)]
  have l2:H2.length=H.length:=by rw [e2,e1]; simp
  have s1:subAV (.ref c) (.int (k:Int)) H=some (lav l):=qAn hrow hl
  have s2:subAV (.ref c) (.int (spot:Int)) H=some (lav a):=qAn hrow ha
  have as1:qBA (.ref c) (.int (spot:Int)) (lav l) H=some H1:=by rw [qFb hrow (by lia),e1]
  have as2:qBA (.ref c) (.int (k:Int)) (lav a) H1=some H2:=by rw [qFb r1 (by simp; lia),e2,hsw]
  have n2:H2[7]?=some (.ns bkF):=by rw [o2 7 (Ne.symm hc7.1)]; exact B.ns
  have hsp:(swap row spot k)[spot]?=some l:=by rw [hsw,List.getElem?_set_ne (by lia),List.getElem?_set_self (by lia)]
  have hso:(swap row spot k)[1 - spot]?=some b:=by rw [hsw,List.getElem?_set_ne (by lia),List.getElem?_set_ne (by lia),hb']
  have t0:subAV (.ref c) (.int (spot:Int)) H2=some (lav l):=qAn r2 hsp
  (injection (by
   have h0:spot=0∨spot=1:=by lia
   rcases h0 with rfl | rfl
   ·exact ⟨l,b,hsp,hso,Iff.rfl⟩
   ·exact ⟨b,l,hso,hsp,and_comm⟩:∃ f0 f1:Lit,(swap row spot k)[0]?=some f0∧(swap row spot k)[1]?=some f1∧((a.1 ≠ f0.1∧a.1 ≠ f1.1)↔(a.1 ≠ l.1∧a.1 ≠ b.1))) with f0 f1; rintro ⟨q0,q1,hff⟩)
  have u0:subAV (.ref c) (.int 0) H2=some (lav f0):=qAn (k:=0) r2 q0
  have u1:subAV (.ref c) (.int 1) H2=some (lav f1):=qAn (k:=1) r2 q1
  have W2:WatchAt H2 ws (watM rows) rows.length:=B.W.keep (o2 _ (Ne.symm hc7.2.2)) fun p hp=>o2 _ (Ne.symm (B.apart c hcm p hp))
  have mw:∀ y,watM rows y n↔y=a.1∨y=b.1:=fun y=>qMG hr hs y a b ha hb'
  have mt39:mtOf PP 0 39=some 11:=rfl
  have fin:∀ (H3:AHeap) (M3:Fin 4→Nat→Prop),H3[7]?=some (.ns bkF)→H3[8]?=H[8]?→(∀ j ∈ cs,H3[j]?=H2[j]?)→WatchAt H3 ws M3 rows.length→H3.length=H.length→(∀ j,j ≠ 11→j ∉ cs→(∀ p ∈ ws,j ≠ p.2)→H3[j]?=H[j]?) →
    (∀ y m,(M3 y m∨(y=l.1∧m=n))↔watM (rows.set n (swap row spot k)) y m) →
    ∃ H' ws',callF PP (d + 6) 11 [.inst 0 7,.int (l.1.val:Int),.int (n:Int)] H3=some (.none,H')∧BookAt H' cs ws' (rows.set n (swap row spot k))∧FrameB H H' cs ws ws':=by
   (intros H3 M3; intro h7 h8 hcs W3 l3 o3 hM)
   (injection (qDF (d + 5) (by lia) h7 W3 l.1 n hn hN) with H' ws'; rintro ⟨k1,k2,k3⟩)
   have big3:∀ j ∈ cs,j < H3.length:=fun j hj=>by
    (injection (List.getElem_of_mem hj) with i; rintro ⟨hi,ei⟩)
    have:=B.row i j (rows[i]'(by rw [← B.len]; exact hi)) (by rw [List.getElem?_eq_getElem hi,ei]) (List.getElem?_eq_getElem _)
    rw [l3]; exact qAB this
   have csame:∀ j ∈ cs,H'[j]?=H2[j]?:=by
    intros j; intro hj
    rw [k3.same j (big3 j hj) (by have:=B.big j hj; lia) (B.apart j hj),hcs j hj]
   refine ⟨H',ws',k1,⟨?_,?_,by rw [List.length_set]; exact B.len,?_,(by rw [List.length_set]; exact k2.congr hM),B.nodup,B.big,?_⟩,⟨by have:=k3.le; lia,?_,fun p hp=>(k3.new p hp).imp id fun q=>by lia⟩⟩
   ·rw [k3.same 7 (by lia) (by decide) fun p hp=>by have:=B.W.big p hp; lia]; exact h7
   ·rw [k3.same 8 (by lia) (by decide) fun p hp=>by have:=B.W.big p hp; lia,h8]; exact B.clauses
   ·intros i j row'; intro hi hj
    rw [csame j (List.mem_of_getElem? hi)]
    by_cases hin:i=n
    ·subst hin
     rw [List.getElem?_set_self hn] at hj
     rw [hc] at hi
     cases hi; cases hj
     exact r2
    ·rw [List.getElem?_set_ne (Ne.symm hin)] at hj
     have hjc:j ≠ c:=by
      rintro rfl
      have hi':=(List.getElem?_eq_some_iff.mp hi).1
      exact hin ((List.getElem?_inj hi' B.nodup).mp (hi.trans hc.symm))
     rw [o2 j hjc]
     exact B.row i j row' hi hj
   ·intros j; intro hj; intros p; intro hp
    rcases k3.new p hp with q | q
    ·exact B.apart j hj p q
    ·have:=big3 j hj; lia
   ·intros j; intro hj h1 h2 h3
    rw [k3.same j (by lia) h1 h3,o3 j h1 h2 h3]
  by_cases hcd:a.1 ≠ l.1∧a.1 ≠ b.1
  ·-- the old variable is dropped
   have hcd':=hff.mpr hcd
   have hw:∃ w,ws.lookup a.1=some w:=by
    cases q:ws.lookup a.1 with
    | some w=>exact ⟨w,rfl⟩
    | none=>exact absurd ((mw a.1).mpr (.inl rfl)) (B.W.none _ q n)
   (injection (hw) with w; intro hw)
   (injection (W2.list _ _ hw) with ns; rintro ⟨x1,x2,x3,x4⟩)
   have hin:n ∈ ns:=(x4 n).mpr ((mw a.1).mpr (.inl rfl))
   have hwb:=B.W.big _ (qAX hw)
   simp only at hwb
   have sw:subAV (.ref 11) (.int (a.1.val:Int)) H2=some (.ref w):=by rw [qJ9 W2.dict,qBV,hw]; rfl
   (injection (⟨_,rfl⟩:∃ H3,H3=H2.set w (.list (nsAV (ns.erase n)))) with H3; intro e3)
   have rm:qAr w 2 [.int (n:Int)] H2=some (.none,H3):=by rw [qL6 x1 (qJd _) (by rw [qFf]; simpa using hin),qF0,e3]
   have o3:∀ j,j ≠ w→H3[j]?=H2[j]?:=fun j hj=>by rw [e3,qA5 (Ne.symm hj)]
   have wc:∀ j ∈ cs,j ≠ w:=fun j hj=>B.apart j hj _ (qAX hw)
   have n3:H3[7]?=some (.ns bkF):=by rw [o3 7 (by lia)]; exact n2
   have W3:WatchAt H3 ws (fun y m=>watM rows y m∧¬ (y=a.1∧m=n)) rows.length:=by
    refine ⟨by rw [o3 11 (by lia)]; exact W2.dict,?_,fun y hy m q=>W2.none y hy m q.1,W2.inj,W2.big,W2.keys⟩
    intros y v; intro hy
    by_cases hya:y=a.1
    ·subst hya
     rw [hw] at hy; cases hy
     refine ⟨ns.erase n,by rw [e3]; exact qAG x1,x2.erase _,fun m hm=>x3 m (List.mem_of_mem_erase hm),?_⟩
     intros m
     rw [x2.mem_erase_iff,x4]
     simp only [true_and]
     exact and_comm
    ·(injection (W2.list y v hy) with ms; rintro ⟨z1,z2,z3,z4⟩)
     have hv:v ≠ w:=by
      rintro rfl
      have:=qK2 W2.inj (qAX hy) (qAX hw) rfl
      cases this; exact hya rfl
     refine ⟨ms,by rw [o3 v hv]; exact z1,z2,z3,?_⟩
     intros m
     rw [z4]; simp [hya]
   (injection (fin H3 _ n3 (by rw [o3 8 (by lia),o2 8 (Ne.symm hc7.2.1)]) (fun j hj=>o3 j (wc j hj)) W3 (by rw [e3]; simp [l2]) (by intros j; intro h1 h2 h3; rw [o3 j (h3 _ (qAX hw)),o2 j fun q=>h2 (q ▸ hcm)]) (by
    intros y m
    rw [qG6 hr hs hk2 hkl y m a b l ha hb' hl]
    by_cases hm:m=n
    ·subst hm
     rw [if_pos rfl,mw]
     simp only [and_true]
     constructor
     ·rintro (⟨rfl | rfl,q⟩ | rfl)
      ·exact absurd rfl q
      ·exact .inr rfl
      ·exact .inl rfl
     ·rintro (rfl | rfl)
      ·exact .inr rfl
      ·exact .inl ⟨.inr rfl,fun q=>hcd.2 q.symm⟩
    ·rw [if_neg hm]; simp [hm])) with H' ws'; rintro ⟨k1,k2,k3⟩)
   have t0':subAV (.ref c) (.int (spot:Int)) H3=some (lav l):=qAn (row:=swap row spot k) (by rw [o3 c (wc c hcm)]; exact r2) hsp
   have na:qAj 7 39 H3=true:=qAh n3 rfl
   have i0:¬ ((a.1.val:Int)=(f0.1.val:Int)):=by have:=hcd'.1; omega
   have i1:¬ ((a.1.val:Int)=(f1.1.val:Int)):=by have:=hcd'.2; omega
   refine ⟨H',ws',?_,k2,k3⟩
   simp [mh,nh,s1,hho,hne,s2,as1,as2,u0,u1,i0,i1,rnRho,List.lookup,upd,g33 _ n2,sw,qJN x1,rm,t0',mt39,na,k1]
  ·have hcd':¬ (a.1 ≠ f0.1∧a.1 ≠ f1.1):=fun q=>hcd (hff.mp q)
   (injection (fin H2 _ n2 (o2 8 (Ne.symm hc7.2.1)) (fun j _=>rfl) W2 l2 (fun j h1 h2 h3=>o2 j fun q=>h2 (q ▸ hcm)) (by
    intros y m
    rw [qG6 hr hs hk2 hkl y m a b l ha hb' hl]
    by_cases hm:m=n
    ·subst hm
     rw [if_pos rfl,mw]
     simp only [and_true]
     constructor
     ·rintro ((rfl | rfl) | rfl)
      ·by_cases z:a.1=l.1
       ·exact .inl z
       ·by_cases z2:a.1=b.1
        ·exact .inr z2
        ·exact absurd ⟨z,z2⟩ hcd
      ·exact .inr rfl
      ·exact .inl rfl
     ·rintro (rfl | rfl)
      ·exact .inr rfl
      ·exact .inl (.inr rfl)
    ·rw [if_neg hm]; simp [hm])) with H' ws'; rintro ⟨k1,k2,k3⟩)
   have na:qAj 7 39 H2=true:=qAh n2 rfl
   refine ⟨H',ws',?_,k2,k3⟩
   by_cases i0:a.1=f0.1
   ·have i0':(a.1.val:Int)=(f0.1.val:Int):=by rw [i0]
    simp [mh,nh,s1,hho,hne,s2,as1,as2,u0,u1,i0',rnRho,List.lookup,upd,t0,mt39,na,k1]
   ·have i1:a.1=f1.1:=by
     by_cases z:a.1=f1.1
     ·exact z
     ·exact absurd ⟨i0,z⟩ hcd'
    have i0':¬ ((a.1.val:Int)=(f0.1.val:Int)):=by omega
    have i1':(a.1.val:Int)=(f1.1.val:Int):=by rw [i1]
    simp [mh,nh,s1,hho,hne,s2,as1,as2,u0,u1,i0',i1',rnRho,List.lookup,upd,t0,mt39,na,k1]
 have body_no:∀ k ∈ List.range' 2 (row.length - 2),(match row[k]? with | some l=>!isF Ds l | none=>false)=false→evSs (evS PP (callF PP (d + 6)) 19) [(.ife (.cmp .ne (.callM (.var 24) 36 [(.sub (.var 41) (.var 12))]) (.neg (.lit (.int 1)))) [(.asg (.name 42) (.sub (.sub (.var 41) (.var 25)) (.lit (.int 0)))),
   (.asg (.tup [(.sub (.var 41) (.var 25)),(.sub (.var 41) (.var 12))]) (.tup [(.sub (.var 41) (.var 12)),(.sub (.var 41) (.var 25))])),
   (.ife (.band [(.cmp .ne (.var 42) (.sub (.sub (.var 41) (.lit (.int 0))) (.lit (.int 0)))),(.cmp .ne (.var 42) (.sub (.sub (.var 41) (.lit (.int 1))) (.lit (.int 0))))]) [(.expr (.callM (.sub (.attr (.var 29) 33) (.var 42)) 2 [(.var 35)]))] []),
   (.expr (.callM (.var 29) 39 [(.sub (.sub (.var 41) (.var 25)) (.lit (.int 0))),(.var 35)])),
   (.ret none)] [])] (rnRho (.int n) (.int spot) c (some (.int k))) H=some (.next,rnRho (.int n) (.int spot) c (some (.int k)),H):=by
  (intros k; intro hk hp)
  rw [List.mem_range'_1] at hk
  have hkl:row[k]?=some (row[k]'(by lia)):=List.getElem?_eq_getElem _
  rw [hkl] at hp
  simp only [Bool.not_eq_false'] at hp
  have s1:subAV (.ref c) (.int (k:Int)) H=some (lav (row[k]'(by lia))):=qAn hrow hkl
  have he:hold Ds (row[k]'(by lia)) = -1:=(hhi _).mpr hp
  simp [mh,nh,s1,hho,he]
 cases hk:qGi row (isF Ds) with
 | some k =>
  revert hk; revert k; intros k; intro hk
  obtain ⟨k1,k2,k3⟩:=qER hk
  (injection (act k k1 k2 k3) with H' ws'; rintro ⟨a1,a2,a3⟩)
  refine ⟨H',ws',?_,by unfold qAV; rw [hk]; exact a2,a3⟩
  have sc:=qFY (R:=rnRho (.int n) (.int spot) c) (H:=H) (v:=.none) (H':=H') (fun r v=>by cases r <;> rfl) (List.range' 2 (row.length - 2)) none body_no hk a1
  (injection (qDQ sc) with ρ; intro e)
  refine qB5 (fn:=fn13) (fl:=.ret .none) rfl rfl rfl ?_
  have e':forLoop (evSs (evS PP (callF PP (d + 6)) 19) _) (.name 12) H none _ [(29,.inst 0 7),(24,.inst 1 1),(35,.int n),(25,.int spot),(41,.ref c)] H=some (.ret .none,ρ,H'):=e
  simp [fn13,List.lookup,upd,g30 _ B.ns,scl,hln,hrg,hra,e']
 | none =>
  (have H_:=(qHD (R:=rnRho (.int n) (.int spot) c) (H:=H) (fun r v=>by cases r <;> rfl) (List.range' 2 (row.length - 2)) none body_no hk); injection H_ with r'; clear H_; intro e)
  refine ⟨H,ws,?_,?_,.refl⟩
  ·refine qB5 (fn:=fn13) (fl:=.next) rfl rfl rfl ?_
   have e':forLoop (evSs (evS PP (callF PP (d + 6)) 19) _) (.name 12) H none _ [(29,.inst 0 7),(24,.inst 1 1),(35,.int n),(25,.int spot),(41,.ref c)] H=some (.next,rnRho (.int n) (.int spot) c r',H):=e
   simp [fn13,List.lookup,upd,g30 _ B.ns,scl,hln,hrg,hra,e']
  ·have:rows.set n (qAV row spot (isF Ds))=rows:=by
    unfold qAV; rw [hk]
    refine List.ext_getElem? ?_
    intros i
    by_cases hi:i=n
    ·subst hi; rw [List.getElem?_set_self hn,hr]
    ·rw [List.getElem?_set_ne (Ne.symm hi)]
   rw [this]; exact B
end Mine.Internal.L
end
section
open PySem PySem.W PyProof.Rows
namespace Mine.Internal.L
theorem qCW {l m:List AV} (p:l.Perm m) (hs:qAy l=true) (hn:l.length < 7) (nd:l.Nodup) (hp:m.Pairwise fun a b=>keyL a < keyL b):qAa l=some m:=by
 unfold qAa
 rw [if_pos (by rw [Bool.and_eq_true,Bool.and_eq_true,decide_eq_true_eq]; exact ⟨⟨hs,hn⟩,qBE.mpr nd⟩)]
 rw [qBj (qAu (qFZ hs) nd) hp ((qAi l).trans p)]
theorem qIV {ns:List Nat} (h:ns.Nodup):(nsAV ns).Nodup:=by
 unfold nsAV
 rw [List.Nodup,List.pairwise_map]
 exact h.imp fun q e=>q (by simp only [AV.int.injEq] at e; lia)
theorem qMT {ns:List Nat} (h:ns.Pairwise (· < ·)):(nsAV ns).Pairwise fun a b=>keyL a < keyL b:=by
 unfold nsAV
 rw [List.pairwise_map]
 exact h.imp fun q=>qBO.mpr (.inl (by lia))
noncomputable def watB (row:List Lit) (x:Fin 4):Bool:=match row with
 | f0 :: f1 :: _=>decide (x=f0.1) || decide (x=f1.1)
 | _=>false
theorem qKo {row:List Lit}{x:Fin 4} (h:2 ≤ row.length):watB row x=true↔wat row x:=by
 cases row with
 | nil=>exact absurd h (by decide)
 | cons f0 r=>cases r with
 | nil=>exact absurd h (show ¬ 2 ≤ 1 by decide)
 | cons f1 r =>
  show (decide (x=f0.1) || decide (x=f1.1))=true↔_
  rw [Bool.or_eq_true,decide_eq_true_eq,decide_eq_true_eq]
  exact or_congr (qBy (row:=f0 :: f1 :: r) (k:=0) rfl).symm (qBy (row:=f0 :: f1 :: r) (k:=1) rfl).symm
noncomputable def wl (x:Fin 4):Nat→List (List Lit)→List Nat
 | _,[]=>[]
 | n,r :: t=>if watB r x then n :: wl x (n + 1) t else wl x (n + 1) t
theorem wl_ge (x:Fin 4):∀ n rows,∀ m ∈ wl x n rows,n ≤ m
 | _,[],m,h=>by cases h
 | n,r :: t,m,h=>by
  simp only [wl] at h
  split at h
  ·rcases List.mem_cons.mp h with q | q
   ·lia
   ·have:=wl_ge x (n + 1) t m q; lia
  ·have:=wl_ge x (n + 1) t m h; lia
theorem wl_pw (x:Fin 4):∀ n rows,(wl x n rows).Pairwise (· < ·)
 | _,[]=>.nil
 | n,r :: t=>by
  simp only [wl]
  split
  ·rw [List.pairwise_cons]
   exact ⟨fun m h=>by have:=wl_ge x (n + 1) t m h; lia,wl_pw x (n + 1) t⟩
  ·exact wl_pw x (n + 1) t
theorem qLq (x:Fin 4):∀ n rows,(∀ r ∈ rows,2 ≤ r.length)→∀ m,n + m ∈ wl x n rows↔watM rows x m
 | n,[],_,m=>by simp [wl,watM]
 | n,r :: t,h,m=>by
  simp only [wl]
  have ih:=qLq x (n + 1) t fun r hr=>h r (.tail _ hr)
  cases m with
  | zero =>
   have h0:n ∉ wl x (n + 1) t:=fun q=>by have:=wl_ge x (n + 1) t n q; lia
   have hw:=qKo (x:=x) (h r (.head _))
   split
   ·rename_i hb; simp [watM,hw.mp hb]
   ·rename_i hb
    have:¬ wat r x:=fun q=>hb (hw.mpr q)
    simp [watM,h0,this]
  | succ m =>
   have e:n + (m + 1)=n + 1 + m:=by lia
   have e2:watM (r :: t) x (m + 1)↔watM t x m:=by simp [watM]
   rw [e,e2,← ih m]
   split
   ·rw [List.mem_cons]
    exact ⟨fun q=>q.resolve_left (by lia),.inr⟩
   ·exact Iff.rfl
theorem qKm (x n rows):(wl x n rows).Nodup:=(wl_pw x n rows).imp fun q=>Nat.ne_of_lt q
theorem qLr (x:Fin 4):∀ n rows,(wl x n rows).length ≤ rows.length
 | _,[]=>Nat.le_refl _
 | n,r :: t=>by
  simp only [wl]
  have:=qLr x (n + 1) t
  split <;> simp <;> lia
theorem qE3 {H ws rows} (W:WatchAt H ws (watM rows) rows.length) (hN:rows.length < 7) (h2:∀ r ∈ rows,2 ≤ r.length) (x:Fin 4) :
  biAV .sorted false [((wsI ws).lookup (x.val:Int)).getD (.lst [])] H=some (.lst (nsAV (wl x 0 rows)),H):=by
 revert W hN h2
 revert H ws rows x
 intros H ws rows x
 intro W hN h2
 have hm:=qLq x 0 rows h2
 simp only [Nat.zero_add] at hm
 rw [qBV]
 cases hx:ws.lookup x with
 | some w =>
  revert hx; revert w; intros w; intro hx
  (injection (W.list x w hx) with ns; rintro ⟨e1,e2,e3,e4⟩)
  have hp:ns.Perm (wl x 0 rows):=(List.perm_ext_iff_of_nodup e2 (qKm ..)).mpr fun m=>by rw [e4,hm]
  have hs:qAa (nsAV ns)=some (nsAV (wl x 0 rows)):=by
   refine qCW (hp.map _) ?_ ?_ (qIV e2) (qMT (wl_pw ..))
   ·simp only [qAy,qJd,Bool.true_or]
   ·rw [qEE,hp.length_eq]; have:=qLr x 0 rows; lia
  exact qE5 (qMI e1) hs
 | none =>
  have:wl x 0 rows=[]:=List.eq_nil_iff_forall_not_mem.mpr fun m q=>W.none x hx m ((hm m).mp q)
  rw [this]; rfl
theorem qMW {x a b:Fin 4}:memAV (.int (x.val:Int)) [.int (a.val:Int),.int (b.val:Int)]=some (decide (x=a) || decide (x=b)):=by
 show (if (AV.int (x.val:Int)).clean && qGr [AV.int (a.val:Int),AV.int (b.val:Int)] then some (hasAV (.int (x.val:Int)) [AV.int (a.val:Int),AV.int (b.val:Int)]) else none)=_
 simp only [hasAV,int_beq,Bool.or_false]
 have:∀ c:Fin 4,decide ((c.val:Int)=(x.val:Int))=decide (x=c):=fun c=>by
  rw [decide_eq_decide]; omega
 rw [this,this]; rfl
noncomputable def cwRho (x:AV) (r:Option (AV × AV)):Rho:=[(83,.inst 0 7),(98,.ref 12),(21,x)] ++ (match r with | some v=>[(68,v.1),(72,v.2)] | none=>[])
theorem qFL {cf:qAQ}{H:AHeap}{x:Fin 4}:∀ (rs:List (List Lit)) (n:Nat) (r:Option (AV × AV)),(∀ r ∈ rs,2 ≤ r.length) →
  compLoop (evE PP cf 38) (.var 68) (.tup [(.name 68),(.name 72)]) [(.cmp .inn (.var 21) (.tup [(.sub (.sub (.var 72) (.lit (.int 0))) (.lit (.int 0))),(.sub (.sub (.var 72) (.lit (.int 1))) (.lit (.int 0)))]))] H (some 12) (qBx n (rs.map rowAV)) (cwRho (.int x.val) r) H =
   some (nsAV (wl x n rs),H)
 | [],n,r,_=>by show compLoop _ _ _ _ _ _ [] _ _=_; rw [qEe,qBP]; rfl
 | row :: rs,n,r,h=>by
  show compLoop _ _ _ _ _ _ (.tup [.int n,rowAV row] :: qBx (n + 1) (rs.map rowAV)) _ _=_
  rw [qCk,qBP,if_pos rfl]
  have ih:=qFL (cf:=cf) (H:=H) (x:=x) rs (n + 1) (some (.int n,rowAV row)) fun r hr=>h r (.tail _ hr)
  have e1:qC9 (.tup [(.name 68),(.name 72)]) (.tup [.int n,rowAV row]) (cwRho (.int x.val) r)=some (cwRho (.int x.val) (some (.int n,rowAV row))):=by cases r <;> rfl
  rw [e1,Option.bind_some]
  match row,h row (.head _) with
  | f0 :: f1 :: t,_ =>
   have l72:(cwRho (.int x.val) (some (.int n,rowAV (f0 :: f1 :: t)))).lookup 72=some (rowAV (f0 :: f1 :: t)):=rfl
   have l68:(cwRho (.int x.val) (some (.int n,rowAV (f0 :: f1 :: t)))).lookup 68=some (.int n):=rfl
   have l21:(cwRho (.int x.val) (some (.int n,rowAV (f0 :: f1 :: t)))).lookup 21=some (.int x.val):=rfl
   have s0:subAV (rowAV (f0 :: f1 :: t)) (.int 0) H=some (lav f0):=qDM (k:=0) rfl
   have s1:subAV (rowAV (f0 :: f1 :: t)) (.int 1) H=some (lav f1):=qDM (k:=1) rfl
   have c1:cmpAV .inn (.int x.val) (.tup [.int f0.1.val,.int f1.1.val]) H=some (watB (f0 :: f1 :: t) x):=by
    show (do memAV _ (← qBp H (.tup _)))=_
    rw [show qBp H (.tup [.int f0.1.val,.int f1.1.val])=some [.int f0.1.val,.int f1.1.val] from rfl]
    exact qMW
   simp only [wl]
   cases hb:watB (f0 :: f1 :: t) x with
   | true=>simp [l72,l68,l21,s0,s1,c1,hb,ih]; rfl
   | false=>simp [l72,l68,l21,s0,s1,c1,hb,ih]
theorem qGR {H:AHeap}:∀ {cs:List Nat}{rows:List (List Lit)},cs.length=rows.length→(∀ (n c:Nat) (row:List Lit),cs[n]?=some c→rows[n]?=some row→H[c]?=some (AObj.list (row.map lav)))→(cs.map AV.ref).mapM (qCQ H)=some (rows.map rowAV)
 | [],[],_,_=>rfl
 | c :: cs,row :: rows,h,k=>by
  have ih:=qGR (H:=H) (cs:=cs) (rows:=rows) (by simpa using h) fun n c row a b=>k (n + 1) c row a b
  rw [List.map_cons,List.mapM_cons,ih]
  have:qCQ H (.ref c)=some (rowAV row):=qNX (k 0 c row rfl rfl)
  rw [this]; rfl
 | [],_ :: _,h,_=>by simp at h
 | _ :: _,[],h,_=>by simp at h
theorem qMP {H:AHeap}{cs ws rows} (B:BookAt H cs ws rows) (h12:H[12]?=some (.list (rows.map rowAV))):cmpAV .eq (.ref 8) (.ref 12) H=some true:=by
 have e1:qB4 H (.ref 8)=some (.lst (rows.map rowAV)):=qMk B.clauses (qGR B.len B.row)
 refine qD4 e1 (qMB h12 (by simp [rowAV,noRef])) ?_
 have hc:(AV.lst (rows.map rowAV)).clean=true:=by
  show (rows.map rowAV).all (qAM 7)=true
  rw [List.all_eq_true]
  intro a ha
  obtain ⟨row,_,rfl⟩:=List.mem_map.mp ha
  show (row.map lav).all (qAM 6)=true
  rw [List.all_eq_true]
  intro a ha
  obtain ⟨l,_,rfl⟩:=List.mem_map.mp ha
  rfl
 exact qKH hc rfl
theorem qKC {body:Rho→AHeap→StRes}{t:Nat}{R:Option AV→Rho}{H H0:AHeap}{src:Option Nat} (hu:∀ r v,upd t v (R r)=R (some v)) (hs:qB9 H0 H src=true):∀ (xs:List AV) (r:Option AV),(∀ x ∈ xs,body (R (some x)) H=some (.next,R (some x),H)) →
  ∃ r',forLoop body (.name t) H0 src xs (R r) H=some (.next,R r',H)
 | [],r,_=>⟨r,by rw [qI6,hs]; simp⟩
 | x :: xs,r,h=>by
  obtain ⟨r',e⟩:=qKC hu hs xs (some x) fun y hy=>h y (.tail _ hy)
  refine ⟨r',?_⟩
  rw [qDX,hs]
  simp [hu,h x (.head _),e]
noncomputable def arRho (r:Option AV):Rho:=[(83,.inst 0 7),(98,.ref 12)] ++ (match r with | some v=>[(21,v)] | none=>[])
theorem qB8 (d:Nat) {H:AHeap}{cs ws rows} (B:BookAt H cs ws rows) (h12:H[12]?=some (.list (rows.map rowAV))) (hN:rows.length < 7) (h2:∀ r ∈ rows,2 ≤ r.length) :
  callF PP (d + 1) 37 [.inst 0 7,.ref 12] H=some (.bool true,H):=by
 revert B h12 hN h2
 revert d H cs ws rows
 intros d H cs ws rows
 intro B h12 hN h2
 have g33:qAD PP (.inst 0 7) 33 H=some (.ref 11):=by rw [qAJ B.ns rfl]; rfl
 have g30:qAD PP (.inst 0 7) 30 H=some (.ref 8):=by rw [qAJ B.ns rfl]; rfl
 have loop:=qKC (R:=arRho) (t:=21) (H:=H) (H0:=H) (src:=none) (body:=evSs (evS PP (callF PP d) 19) [(.ife (.cmp .ne (.bi .sorted false [(.callM (.attr (.var 83) 33) 4 [(.var 21),(.lst false [])])]) (.comp false true (.var 68) (.tup [(.name 68),(.name 72)]) (.var 98) [(.cmp .inn (.var 21) (.tup [(.sub (.sub (.var 72) (.lit (.int 0))) (.lit (.int 0))),(.sub (.sub (.var 72) (.lit (.int 1))) (.lit (.int 0)))]))])) [(.ret (some (.lit (.bool false))))] [])])
  (fun r v=>by cases r <;> rfl) rfl [.int 0,.int 1,.int 2,.int 3] none (by
  (intros v; intro hv)
  (injection (by
   simp only [List.mem_cons,List.not_mem_nil,or_false] at hv
   rcases hv with rfl | rfl | rfl | rfl
   ·exact ⟨0,rfl⟩
   ·exact ⟨1,rfl⟩
   ·exact ⟨2,rfl⟩
   ·exact ⟨3,rfl⟩:∃ x:Fin 4,v=.int (x.val:Int)) with x; rintro rfl)
  have l83:(arRho (some (.int (x.val:Int)))).lookup 83=some (.inst 0 7):=rfl
  have l98:(arRho (some (.int (x.val:Int)))).lookup 98=some (.ref 12):=rfl
  have l21:(arRho (some (.int (x.val:Int)))).lookup 21=some (.int x.val):=rfl
  have hw:=qE3 B.W hN h2 x
  have hc:compLoop (evE PP (callF PP d) 38) (.var 68) (.tup [(.name 68),(.name 72)]) [(.cmp .inn (.var 21) (.tup [(.sub (.sub (.var 72) (.lit (.int 0))) (.lit (.int 0))),(.sub (.sub (.var 72) (.lit (.int 1))) (.lit (.int 0)))]))] H (some 12) (qBx 0 (rows.map rowAV)) (arRho (some (.int (x.val:Int)))) H=some (nsAV (wl x 0 rows),H):=qFL rows 0 none h2
  have hne:cmpAV .ne (.lst (nsAV (wl x 0 rows))) (.lst (nsAV (wl x 0 rows))) H=some false:=by
   have nr:(nsAV (wl x 0 rows)).all noRef=true:=by simp [nsAV,noRef]
   refine qEb (r:=true) (qEZ nr) (qEZ nr) ?_
   have hc:(AV.lst (nsAV (wl x 0 rows))).clean=true:=by
    exact qF1 _
   exact qKH hc rfl
  simp [l83,l98,l21,g33,qNW B.W.dict,get_m B.W.dict,hw,qMd h12,hc,hne])
 (injection (loop) with r'; intro e)
 have e':forLoop (evSs (evS PP (callF PP d) 19) _) (.name 21) H none [.int 0,.int 1,.int 2,.int 3] [(83,.inst 0 7),(98,.ref 12)] H=some (.next,arRho r',H):=e
 refine qFO (fn:=fn37) (fl:=.ret (.bool true)) rfl rfl rfl rfl ?_ rfl
 have hr:biAV .range false [.int 4] H=some (.rng 0 4,H):=qCY (by decide)
 have hra:qAF 0 4=[.int 0,.int 1,.int 2,.int 3]:=rfl
 have l83:(arRho r').lookup 83=some (.inst 0 7):=rfl
 have l98:(arRho r').lookup 98=some (.ref 12):=rfl
 simp [fn37,hr,hra,e',l83,l98,g30,qMP B h12]
end Mine.Internal.L
end
section
open PySem PySem.W PyProof.Rows
namespace Mine.Internal.L
theorem qA2 {k j:Nat}{v:AV}:∀ {ρ:Rho},(upd k v ρ).lookup j=if j=k then some v else ρ.lookup j
 | []=>by
  simp only [upd,List.lookup_cons,List.lookup_nil]
  by_cases h:j=k
  ·subst h; simp
  ·have:(j == k)=false:=by simpa using h
   simp [this,h]
 | (a,b) :: r=>by
  simp only [upd]
  by_cases h:a=k
  ·subst h
   rw [if_pos rfl,List.lookup_cons,List.lookup_cons]
   by_cases q:j=a
   ·subst q; simp
   ·have:(j == a)=false:=by simpa using q
    simp [this,q]
  ·rw [if_neg h,List.lookup_cons,List.lookup_cons,qA2]
   by_cases q:j=a
   ·subst q; simp [h]
   ·have:(j == a)=false:=by simpa using q
    simp [this]
theorem qHS {I:Rho→AHeap→Prop}{body:Rho→AHeap→StRes}{t:Nat}{H0:AHeap}:∀ (xs:List AV),(∀ x ∈ xs,∀ ρ H,I ρ H→∃ ρ' H',body (upd t x ρ) H=some (.next,ρ',H')∧I ρ' H')→∀ ρ H,I ρ H →
  ∃ ρ' H',forLoop body (.name t) H0 none xs ρ H=some (.next,ρ',H')∧I ρ' H'
 | [],_,ρ,H,h=>⟨ρ,H,by rw [qI6]; simp,h⟩
 | x :: xs,k,ρ,H,h=>by
  obtain ⟨ρ1,H1,e1,h1⟩:=k x (.head _) ρ H h
  obtain ⟨ρ2,H2,e2,h2⟩:=qHS (H0:=H0) xs (fun y hy=>k y (.tail _ hy)) ρ1 H1 h1
  refine ⟨ρ2,H2,?_,h2⟩
  rw [qDX]
  simp [e1,e2]
noncomputable def mid (l:Lit):Prop:=1 ≤ l.2.2.val∧l.2.2.val ≤ 5
set_option tactic.hygienic true in
set_option hygiene true in
theorem qKv {row i k}{l:Lit} (h:l ∈ swap row i k):l ∈ row:=by
 revert h
 revert row i k l
 intros row i k l
 intro h
 unfold swap at h
 split at h
 ·rename_i a b ha hb
  rcases List.mem_or_eq_of_mem_set h with q | q
  ·rcases List.mem_or_eq_of_mem_set q with q | q
   ·exact q
   ·rw [q]; exact List.mem_of_getElem? hb
  ·rw [q]; exact List.mem_of_getElem? ha
 ·exact h
theorem qGD {row i F}{l:Lit} (h:l ∈ qAV row i F):l ∈ row:=by
 unfold qAV at h
 split at h
 ·exact qKv h
 ·exact h
structure All (H:AHeap) (row:List Int) (all:Int) (t:Nat) (mk nw:Nat) (Ds:List Dm) (tr:List TrE) (nn:Nat) (cs:List Nat) (ws:List (Fin 4 × Nat)) (rows:List (List Lit)):Prop where
 k:H[0]?=some (keg row all t)
 S:StoreAt H mk nw Ds tr nn
 nz:∀ S ∈ Ds,S ≠ 0
 B:BookAt H cs ws rows
 R:H[12]?=some (.list (rows.map rowAV))
 ap:∀ c ∈ cs,c ≠ mk∧c ≠ nw
 aw:∀ p ∈ ws,p.2 ≠ mk∧p.2 ≠ nw
 h13:13 ≤ H.length
 r3:∀ r ∈ rows,3 ≤ r.length∧r.length < 1000
 rn:rows.length < 7
 lm:∀ r ∈ rows,∀ l ∈ r,mid l
section
variable {H:AHeap}{row:List Int}{all:Int}{t mk nw nn:Nat}{Ds:List Dm}{tr:List TrE}{cs:List Nat}{ws:List (Fin 4 × Nat)}{rows:List (List Lit)}
theorem All.tap (A:All H row all t mk nw Ds tr nn cs ws rows) (t':Nat):All (H.set 0 (keg row all t')) row all t' mk nw Ds tr nn cs ws rows:=by
 revert A
 revert H row all t mk nw nn Ds tr cs ws rows t'
 intros H row all t mk nw nn Ds tr cs ws rows t'
 intro A
 have o:∀ j,j ≠ 0→(H.set 0 (keg row all t'))[j]?=H[j]?:=fun j h=>qA5 (Ne.symm h)
 refine ⟨qAG A.k,A.S.keep ?_,A.nz,A.B.keep ?_,by rw [o 12 (by decide)]; exact A.R,A.ap,A.aw,by simp [A.h13],A.r3,A.rn,A.lm⟩
 ·intros j ob; intro e m
  have:=A.S.mkw; have:=A.S.nww
  simp only [List.mem_cons,List.not_mem_nil,or_false,not_or] at *
  rw [o j (by lia)]; exact e
 ·intros j ob; intro e m
  rw [o j]; · exact e
  rintro rfl
  rcases m with q | q | q | q | ⟨p,q,z⟩
  ·cases q
  ·cases q
  ·cases q
  ·have:=A.B.big 0 q; lia
  ·revert q z; revert p; intros p; intro q z
   revert q z; revert p; intros p; intro q z
   have:=A.B.W.big p q; lia
theorem qIO (d:Nat) (A:All H row all t mk nw Ds tr nn cs ws rows) {n:Nat}{r:List Lit} (hr:rows[n]?=some r) {spot:Nat} (hs:spot < 2) :
  ∃ H',qBA (.ref 12) (.int n) (rowAV (qAV r spot (isF Ds))) H=some H'∧H'[1]?=some (.ns (stF mk nw))∧H'[7]?=some (.ns bkF) ∧
   ∃ H2 ws',callF PP (d + 7) 13 [.inst 0 7,.inst 1 1,.int n,.int spot] H'=some (.none,H2)∧All H2 row all t mk nw Ds tr nn cs ws' (rows.set n (qAV r spot (isF Ds))):=by
 revert A hr hs
 revert H row all t mk nw nn Ds tr cs ws rows d n r spot
 intros H row all t mk nw nn Ds tr cs ws rows d n r spot
 intro A hr hs
 have hn:=(List.getElem?_eq_some_iff.mp hr).1
 have hrm:=List.mem_of_getElem? hr
 (injection (⟨_,rfl⟩:∃ H1,H1=H.set 12 (.list ((rows.set n (qAV r spot (isF Ds))).map rowAV))) with H1; intro e1)
 have o1:∀ j,j ≠ 12→H1[j]?=H[j]?:=fun j h=>by rw [e1,qA5 (Ne.symm h)]
 have l1:H1.length=H.length:=by rw [e1]; simp
 have mkw:=A.S.mkw
 have nww:=A.S.nww
 simp only [List.mem_cons,List.not_mem_nil,or_false,not_or] at mkw nww
 have S1:StoreAt H1 mk nw Ds tr nn:=A.S.keep fun j ob e m=>by
  simp only [List.mem_cons,List.not_mem_nil,or_false] at m
  rw [o1 j (by lia)]; exact e
 have B1:BookAt H1 cs ws rows:=A.B.keep fun j ob e m=>by
  rw [o1 j]; · exact e
  rintro rfl
  rcases m with q | q | q | q | ⟨p,q,z⟩
  ·cases q
  ·cases q
  ·cases q
  ·have:=A.B.big 12 q; lia
  ·revert q z; revert p; intros p; intro q z
   revert q z; revert p; intros p; intro q z
   have:=A.B.W.big p q; lia
 refine ⟨H1,?_,S1.ns,B1.ns,?_⟩
 ·rw [qD8 A.R (by lia) (by simpa using hn),Int.toNat_natCast,e1,List.map_set]
 (injection (qIP d S1 A.nz B1 hr hs (A.r3 r hrm).1 (A.r3 r hrm).2 (by have:=A.rn; lia) (by rw [l1]; exact A.h13)) with H2 ws'; rintro ⟨c,B2,f⟩)
 have keep:∀ j < H.length,j ≠ 11→j ∉ cs→(∀ p ∈ ws,j ≠ p.2)→H2[j]?=H1[j]?:=fun j hj h1 h2 h3=>f.same j (by rw [l1]; exact hj) h1 h2 h3
 have low:∀ j,j < 13→j ≠ 11→H2[j]?=H1[j]?:=(by intros j; intro hj h; exact keep j (by have:=A.h13; lia) h (fun q=>by have:=A.B.big j q; lia) fun p hp=>by have:=A.B.W.big p hp; lia)
 have dyn:∀ j ob,H1[j]?=some ob→(j=mk∨j=nw)→H2[j]?=some ob:=by
  intros j ob; intro e q
  rw [keep j (by rw [← l1]; exact qAB e) (by lia) (fun m=>by have:=A.ap j m; lia) fun p hp=>by have:=A.aw p hp; lia]
  exact e
 refine ⟨H2,ws',c,⟨?_,S1.keep ?_,A.nz,B2,?_,A.ap,?_,by have:=f.le; have:=A.h13; lia,?_,by rw [List.length_set]; exact A.rn,?_⟩⟩
 ·rw [low 0 (by decide) (by decide),o1 0 (by decide)]; exact A.k
 ·intros j ob; intro e m
  simp only [List.mem_cons,List.not_mem_nil,or_false] at m
  by_cases q:j=mk∨j=nw
  ·exact dyn j ob e q
  ·rw [low j (by lia) (by lia)]; exact e
 ·rw [low 12 (by decide) (by decide),e1]; exact qAG A.R
 ·intros p; intro hp
  rcases f.new p hp with q | q
  ·exact A.aw p q
  ·have h1:=qAB A.S.marks
   (injection (A.S.news) with kvs; rintro ⟨h2,_⟩)
   have h2:=qAB h2
   lia
 ·intros r'; intro hr'
  rcases List.mem_or_eq_of_mem_set hr' with q | q
  ·exact A.r3 r' q
  ·rw [q,qGE]; exact A.r3 r hrm
 ·intros r'; intro hr'; intros l; intro hl
  rcases List.mem_or_eq_of_mem_set hr' with q | q
  ·exact A.lm r' q l hl
  ·rw [q] at hl; exact A.lm r hrm l (qGD hl)
noncomputable def inner:List CS:=[(.ife (.callF 35 [(.sub (.sub (.var 98) (.var 35)) (.var 25)),(.var 77)]) [(.asg (.sub (.var 98) (.var 35)) (.callF 36 [(.sub (.var 98) (.var 35)),(.var 25),(.var 77)])),
    (.expr (.callM (.var 83) 48 [(.var 79),(.var 35),(.var 25)]))] []),
   (.ife (.not (.callF 37 [(.var 83),(.var 98)])) [(.ret (some (.lit (.bool false))))] [])]
noncomputable def arI (row:List Int) (all:Int) (t mk nw:Nat) (Ds:List Dm) (tr:List TrE) (nn:Nat) (cs:List Nat) (N turn:Nat) (back:Bool) (ρ:Rho) (H:AHeap):Prop :=
 ρ.lookup 97=some (.ref 0)∧ρ.lookup 79=some (.inst 1 1)∧ρ.lookup 83=some (.inst 0 7)∧ρ.lookup 98=some (.ref 12)∧ρ.lookup 77=some (qAH Ds)∧ρ.lookup 95=some (.int turn)∧ρ.lookup 99=some (.bool back)∧ρ.lookup 27=some (.lst (tr.map trAV)) ∧
 ∃ ws rows,All H row all t mk nw Ds tr nn cs ws rows∧rows.length=N
theorem qIe (d:Nat) {N turn:Nat}{back:Bool}{n spot:Nat}{ρ:Rho} (hn:n < N) (hs:spot < 2) (h35:ρ.lookup 35=some (.int n)) (h:arI row all t mk nw Ds tr nn cs N turn back ρ H) :
  ∃ ρ' H',evSs (evS PP (callF PP (d + 7)) 18) inner (upd 25 (.int spot) ρ) H=some (.next,ρ',H')∧arI row all t mk nw Ds tr nn cs N turn back ρ' H'∧ρ'.lookup 35=some (.int n):=by
 revert hn hs h35 h
 revert H row all t mk nw nn Ds tr cs d N turn back n spot ρ
 intros H row all t mk nw nn Ds tr cs d N turn back n spot ρ
 intro hn hs h35 h
 (obtain ⟨l97,l79,l83,l98,l77,l95,l99,l27,H_⟩:=h; injection H_ with ws rows; clear H_; rintro ⟨A,hN⟩)
 (injection (⟨_,List.getElem?_eq_getElem (by lia)⟩:∃ r,rows[n]?=some r) with r; intro hr)
 have hrm:=List.mem_of_getElem? hr
 have r3:=A.r3 r hrm
 (injection (⟨_,List.getElem?_eq_getElem (by lia)⟩:∃ l,r[spot]?=some l) with l; intro hl)
 have s12:subAV (.ref 12) (.int (n:Int)) H=some (rowAV r):=by
  rw [qAx A.R,idx_at rfl (by rw [List.length_map]; lia)]
  simp [hr]
 have sr:subAV (rowAV r) (.int (spot:Int)) H=some (lav l):=qDM hl
 have dlen:=A.S.len
 cases hf:isF Ds l with
 | true =>
  (injection (qIO d A hr hs) with H1; rintro ⟨e1,n1,n7,H_⟩; injection H_ with H2 ws'; clear H_; rintro ⟨e2,A2⟩)
  have rw1:callF PP (d + 7) 36 [rowAV r,.int spot,qAH Ds] H=some (rowAV (qAV r spot (isF Ds)),H):=qGC (d + 4) dlen r spot (by lia) (by lia) r3.2
  have if1:=qB3 (d + 5) (H:=H) dlen l
  rw [hf] at if1
  have aw:=qB8 (d + 6) A2.B A2.R A2.rn fun q hq=>by have:=A2.r3 q hq; lia
  have mt:mtOf PP 0 48=some 13:=rfl
  have na:qAj 7 48 H1=true:=qAh n7 rfl
  refine ⟨upd 25 (.int spot) ρ,H2,?_,⟨?_,?_,?_,?_,?_,?_,?_,?_,ws',_,A2,by rw [List.length_set]; exact hN⟩,?_⟩
  ·simp [inner,qA2,l98,h35,l77,s12,sr,if1,rw1,e1,l83,l79,mt,na,e2,aw]
  all_goals (rw [qA2]; simp only [reduceIte,Nat.reduceEqDiff]; assumption)
 | false =>
  have if1:=qB3 (d + 5) (H:=H) dlen l
  rw [hf] at if1
  have aw:=qB8 (d + 6) A.B A.R A.rn fun q hq=>by have:=A.r3 q hq; lia
  refine ⟨upd 25 (.int spot) ρ,H,?_,⟨?_,?_,?_,?_,?_,?_,?_,?_,ws,rows,A,hN⟩,?_⟩
  ·simp [inner,qA2,l98,h35,l77,s12,sr,if1,l83,aw]
  all_goals (rw [qA2]; simp only [reduceIte,Nat.reduceEqDiff]; assumption)
theorem qLe (a b:Nat):(a:Int) % (b:Int)=((a % b:Nat):Int):=(Int.natCast_emod a b).symm
theorem qIT (d:Nat) {N turn:Nat}{back:Bool}{lap:Nat}{ρ:Rho} (hN1:1 ≤ N) (h:arI row all t mk nw Ds tr nn cs N turn back ρ H) :
  ∃ ρ' H',evSs (evS PP (callF PP (d + 7)) 19) [(.asg (.name 35) (.bin .mod false (.bin .add false (.var 75) (.var 95)) (.bi .len false [(.var 98)]))),(.for false (.name 25) (.ite (.var 99) (.tup [(.lit (.int 1)),(.lit (.int 0))]) (.tup [(.lit (.int 0)),(.lit (.int 1))])) inner)] (upd 75 (.int lap) ρ) H=some (.next,ρ',H')∧arI row all t mk nw Ds tr nn cs N turn back ρ' H':=by
 revert hN1 h
 revert H row all t mk nw nn Ds tr cs d N turn back lap ρ
 intros H row all t mk nw nn Ds tr cs d N turn back lap ρ
 intro hN1 h
 (obtain ⟨l97,l79,l83,l98,l77,l95,l99,l27,H_⟩:=h; injection H_ with ws rows; clear H_; rintro ⟨A,hN⟩)
 have hln:biAV .len false [.ref 12] H=some (.int N,H):=by rw [qBS A.R,List.length_map,hN]
 have hmod:binAV .mod (.int ((lap:Int) + turn)) (.int N)=some (.int (((lap + turn) % N:Nat):Int)):=by
  rw [qEh (by lia),← qLe,Int.natCast_add]
 (injection (⟨_,rfl,Nat.mod_lt _ hN1⟩:∃ n,n=(lap + turn) % N∧n < N) with n; rintro ⟨hq,hnN⟩)
 rw [← hq] at hmod
 have I0:arI row all t mk nw Ds tr nn cs N turn back (upd 35 (.int n) (upd 75 (.int lap) ρ)) H:=by
  refine ⟨?_,?_,?_,?_,?_,?_,?_,?_,ws,rows,A,hN⟩
  all_goals (rw [qA2,qA2]; simp only [reduceIte,Nat.reduceEqDiff]; assumption)
 (injection (qHS (I:=fun ρ H=>arI row all t mk nw Ds tr nn cs N turn back ρ H∧ρ.lookup 35=some (.int n)) (body:=evSs (evS PP (callF PP (d + 7)) 18) inner) (t:=25) (H0:=H) (if back then [.int 1,.int 0] else [.int 0,.int 1]) (by
  intros x; intro hx; intros ρ1 H1; intro h1
  (injection (by
   cases back <;> simp at hx <;> rcases hx with rfl | rfl
   ·exact ⟨0,by decide,rfl⟩
   ·exact ⟨1,by decide,rfl⟩
   ·exact ⟨1,by decide,rfl⟩
   ·exact ⟨0,by decide,rfl⟩:∃ s:Nat,s < 2∧x=.int (s:Int)) with s; rintro ⟨hs,rfl⟩)
  exact qIe d hnN hs h1.2 h1.1) _ H ⟨I0,by rw [qA2]; simp⟩) with ρ' H'; rintro ⟨e,I1,_⟩)
 refine ⟨ρ',H',?_,I1⟩
 cases back
 ·simp only [Bool.false_eq_true,if_false] at e
  simp [qA2,l95,l98,l99,hln,hmod,e]
 ·simp only [if_true] at e
  simp [qA2,l95,l98,l99,hln,hmod,e]
theorem qKr {H:AHeap}{tr:List TrE} (h:H[4]?=some (.list (tr.map trAV))):cmpAV .eq (.ref 4) (.lst (tr.map trAV)) H=some true:=by
 have nr:(tr.map trAV).all noRef=true:=by simp [trAV,noRef]
 refine qD4 (qMB h nr) (qEZ nr) ?_
 have hc:(AV.lst (tr.map trAV)).clean=true:=by
  show (tr.map trAV).all (qAM 7)=true
  rw [List.all_eq_true]
  intro a ha
  obtain ⟨e,_,rfl⟩:=List.mem_map.mp ha
  have:qAM 6 (dom e.2.1)=true:=qC0 (f:=fun S=>qAM 6 (dom S)) (by kernel_rfl) e.2.1
  show [AV.int (e.1.val:Int),dom e.2.1,lav e.2.2,AV.none,AV.int (-1)].all (qAM 6)=true
  simp only [List.all_cons,this,List.all_nil]
  rfl
 show (if (AV.lst _).clean && (AV.lst _).clean then some ((AV.lst _).beq _) else none)=_
 rw [hc,(AV.beq_iff _ _).mpr rfl]; rfl
theorem qDt (d:Nat) (A:All H row all t mk nw Ds tr nn cs ws rows) (hN:1 ≤ rows.length) (ht:t + 2 ≤ 600) :
  ∃ H' ws' rows',callF PP (d + 8) 38 [.ref 0,.inst 1 1,.inst 0 7,.ref 12,qAH Ds] H=some (.bool true,H')∧All H' row all (t + 2) mk nw Ds tr nn cs ws' rows'∧rows'.length=rows.length:=by
 revert A hN ht
 revert H row all t mk nw nn Ds tr cs ws rows d
 intros H row all t mk nw nn Ds tr cs ws rows d
 intro A hN ht
 (injection (qAk (d + 6) 3 A.k (by lia) (by decide)) with turn; rintro ⟨_,e1⟩)
 have A1:=A.tap (t + 1)
 generalize H.set 0 (keg row all (t + 1))=H1 at e1 A1
 obtain ⟨b,_,e2⟩:=qAk (d + 6) 2 A1.k (by lia) (by decide)
 have A2:=A1.tap (t + 2)
 generalize H1.set 0 (keg row all (t + 1 + 1))=H2 at e2 A2
 have e1':callF PP (d + 7) 31 [.ref 0,.int 3] H=some (.int turn,H1):=e1
 have e2':callF PP (d + 7) 31 [.ref 0,.int 2] H1=some (.int b,H2):=e2
 have g27:∀ H:AHeap,H[1]?=some (.ns (stF mk nw))→qAD PP (.inst 1 1) 27 H=some (.ref 4):=fun H q=>by rw [qAJ q rfl]; rfl
 have g62:∀ H:AHeap,H[1]?=some (.ns (stF mk nw))→qAD PP (.inst 1 1) 62 H=some (.bool false):=fun H q=>by rw [qAJ q rfl]; rfl
 have hls:biAV .list false [.ref 4] H2=some (.lst (tr.map trAV),H2):=qLP A2.S.trail
 obtain ⟨bk,hbk⟩:∃ bk,cmpAV .eq (.int b) (.int 1) H2=some bk:=⟨_,qFw⟩
 have I0:arI row all (t + 2) mk nw Ds tr nn cs rows.length turn bk [(97,.ref 0),(79,.inst 1 1),(83,.inst 0 7),(98,.ref 12),(77,qAH Ds),(95,.int turn),(99,.bool bk),(27,.lst (tr.map trAV))] H2 :=
  ⟨rfl,rfl,rfl,rfl,rfl,rfl,rfl,rfl,ws,rows,A2,rfl⟩
 have hln:biAV .len false [.ref 12] H2=some (.int rows.length,H2):=by rw [qBS A2.R,List.length_map]
 have hr:biAV .range false [.int rows.length] H2=some (.rng 0 rows.length,H2):=qCY (by have:=A.rn; lia)
 have hra:∀ x ∈ qAF 0 (rows.length:Int),∃ k:Nat,x=.int k:=by
  intros x; intro hx
  rw [show qAF 0 (rows.length:Int)=(List.range' 0 (rows.length - 0)).map fun (k:Nat)=>AV.int (k:Int) from qDO (a:=0)] at hx
  (injection (List.mem_map.mp hx) with k; rintro ⟨_,rfl⟩)
  exact ⟨k,rfl⟩
 generalize hxs:qAF 0 (rows.length:Int)=xs at hra
 obtain ⟨ρ',H',e,I1⟩:=qHS (body:=evSs (evS PP (callF PP (d + 7)) 19) [(.asg (.name 35) (.bin .mod false (.bin .add false (.var 75) (.var 95)) (.bi .len false [(.var 98)]))),(.for false (.name 25) (.ite (.var 99) (.tup [(.lit (.int 1)),(.lit (.int 0))]) (.tup [(.lit (.int 0)),(.lit (.int 1))])) inner)]) (t:=75) (H0:=H2) xs (fun x hx ρ1 H1 h1=>by
  (injection (hra x hx) with k; rintro rfl)
  exact qIT d hN h1) _ H2 I0
 obtain ⟨l97,l79,l83,l98,l77,l95,l99,l27,ws',rows',A3,hN'⟩:=I1
 refine ⟨H',ws',rows',?_,A3,hN'⟩
 refine qB5 (fn:=fn38) (fl:=.ret (.bool true)) rfl rfl rfl ?_
 unfold inner at e
 simp [-qFw,fn38,List.lookup,upd,e1',e2',hbk,g27 _ A2.S.ns,hls,hln,hr,hxs,e,l79,l27,g27 _ A3.S.ns,qKr A3.S.trail,g62 _ A3.S.ns]
end
end Mine.Internal.L
end
section
open PySem PySem.W PyProof.Rows
namespace Mine.Internal.L
noncomputable def negL (l:Lit):Lit:=match l.2.1.val with
 | 1=>(l.1,3,l.2.2 + 1)
 | 3=>(l.1,1,l.2.2 - 1)
 | 2=>(l.1,0,l.2.2)
 | _=>(l.1,2,l.2.2)
noncomputable def midB (k:Fin 7):Bool:=decide (1 ≤ k.val) && decide (k.val ≤ 5)
noncomputable def negI (x:Int) (s:Fin 4) (k:Fin 7):AV:=litI x (negL (0,s,k)).2.1 (negL (0,s,k)).2.2
theorem qMU (d:Nat):((List.finRange 4).all fun x=>chk3 (fun s k _=>!midB k || resB (callF PP (d + 1) 4 [litI (x.val:Int) s k] []) (negI (x.val:Int) s k)))=true:=by kernel_rfl
theorem qKR (d:Nat):((List.finRange 4).all fun x=>chk3 (fun s k _=>!midB k || resB (callF PP (d + 1) 34 [litI (x.val:Int) s k] []) (negI (x.val:Int) s k)))=true:=by kernel_rfl
theorem qJi (l:Lit):negI (l.1.val:Int) l.2.1 l.2.2=lav (negL l):=by
 obtain ⟨x,s,k⟩:=l
 have h0:s=0∨s=1∨s=2∨s=3:=by lia
 rcases h0 with rfl | rfl | rfl | rfl <;> rfl
theorem mid_B {l:Lit} (h:mid l):midB l.2.2=true:=by simp [midB,h.1,h.2]
section
variable {H:AHeap}
theorem qLI (d:Nat) {l:Lit} (h:mid l):callF PP (d + 1) 4 [lav l] H=some (lav (negL l),H):=by
 refine qC7 (fn:=fn4) rfl rfl (by simp [qAO,qBd]) ?_
 have:=qDR (List.all_eq_true.mp (qMU d) l.1 (List.mem_finRange _)) l.2.1 l.2.2 0
 rw [mid_B h] at this
 rw [← qJi]
 exact qE8 this
theorem qIp (d:Nat) {l:Lit} (h:mid l):callF PP (d + 1) 34 [lav l] H=some (lav (negL l),H):=by
 refine qC7 (fn:=fn34) rfl rfl (by simp [qAO,qBd]) ?_
 have:=qDR (List.all_eq_true.mp (qKR d) l.1 (List.mem_finRange _)) l.2.1 l.2.2 0
 rw [mid_B h] at this
 rw [← qJi]
 exact qE8 this
end
theorem qLY:chk3 (fun s k _=>!midB k || !(decide (cut (0,s,k) 15=0)) || decide (said (negL (0,s,k)) 15=1))=true:=by kernel_rfl
theorem qLZ {l:Lit} (h:mid l) (h0:cut l 15=0):said (negL l) 15=1:=by
 have:=qDR qLY l.2.1 l.2.2 0
 rw [mid_B h] at this
 have e1:cut (0,l.2.1,l.2.2) 15=cut l 15:=rfl
 rw [e1,h0] at this
 simp only [Bool.not_true,decide_true,Bool.false_or,decide_eq_true_eq] at this
 rw [← this]
 obtain ⟨x,s,k⟩:=l
 have h0:s=0∨s=1∨s=2∨s=3:=by lia
 rcases h0 with rfl | rfl | rfl | rfl <;> rfl
noncomputable def D0:List Dm:=[15,15,15,15]
noncomputable def rank (l:Lit):Int:=if isF D0 l then 1 else 0
theorem D0_nz:∀ S ∈ D0,S ≠ 0:=by decide
theorem D0_at (x:Fin 4):D0[x.val]?=some 15:=by
 have h0:x=0∨x=1∨x=2∨x=3:=by lia
 rcases h0 with rfl | rfl | rfl | rfl <;> rfl
theorem qNT (l:Lit):isF D0 l=decide (cut l 15=0):=by unfold isF; rw [D0_at]
section
variable {H:AHeap}{mk nw nn:Nat}
theorem qHP (d:Nat) (A:StoreAt H mk nw D0 [] nn) (h7:H[7]?=some (.ns bkF)) {l:Lit} (h:mid l):callF PP (d + 7) 10 [.inst 0 7,.inst 1 1,lav l] H=some (.int (-rank l),H):=by
 revert A h7 h
 revert H mk nw nn d l
 intros H mk nw nn d l
 intro A h7 h
 have g27:qAD PP (.inst 1 1) 27 H=some (.ref 4):=by rw [qAJ A.ns rfl]; rfl
 have g58:qAD PP (.inst 1 1) 58 H=some (.ref 3):=by rw [qAJ A.ns rfl]; rfl
 have hl:biAV .len false [.ref 4] H=some (.int 0,H):=by rw [qBS A.trail]; rfl
 have nh:qAj 1 36 H=true:=qAh A.ns rfl
 have ni:qAj 1 28 H=true:=qAh A.ns rfl
 have mh:mtOf PP 1 36=some 22:=rfl
 have mi:mtOf PP 1 28=some 21:=rfl
 have hh:=qFC d A (D0_at l.1)
 have ini:callF PP (d + 5) 21 [.inst 1 1,.int ((negL l).1.val:Int)] H=some (dom 15,H):=by
  refine qFO (fn:=fn21) (fl:=.ret (dom 15)) rfl rfl rfl rfl ?_ ?_
  ·have hs:subAV (.ref 3) (.int ((negL l).1.val:Int)) H=some (dom 15):=by
    rw [qAx A.firsts]
    have h0:(negL l).1=0∨(negL l).1=1∨(negL l).1=2∨(negL l).1=3:=by lia
    rcases h0 with q | q | q | q <;> rw [q] <;> rfl
   simp [fn21,List.lookup,g58,hs]
  ·show (if (dom 15).plain then some (dom 15) else none)=_
   rw [qEV]; rfl
 unfold rank
 rw [qNT]
 by_cases h0:cut l 15=0
 ·have hsd:said l 15 = -1:=by
   unfold said; rw [h0]; rfl
  rw [hsd] at hh
  have spot:callF PP (d + 6) 7 [.inst 1 1,lav (negL l)] H=some (.int (-1),H):=by
   refine qFO (fn:=fn7) (fl:=.ret (.int (-1))) rfl rfl rfl rfl ?_ rfl
   have sp:=qGA (H:=H) d (negL l) 15
   rw [qLZ h h0] at sp
   simp [fn7,List.lookup,upd,mi,ni,ini,sp]
  refine qFO (fn:=fn10) (fl:=.ret (.int (-1))) rfl rfl rfl rfl ?_ ?_
  ·simp [fn10,List.lookup,mh,nh,hh,qLI (d + 5) h,spot]
  ·simp [flVal,h0]; rfl
 ·have hsd:¬ said l 15 = -1:=by
   unfold said
   rw [if_neg h0]
   split <;> decide
  refine qFO (fn:=fn10) (fl:=.ret (.int 0)) rfl rfl rfl rfl ?_ ?_
  ·simp [fn10,List.lookup,mh,nh,hh,hsd,g27,hl]
  ·simp [flVal,h0]; rfl
noncomputable def rkAV (l:Lit):AV:=.tup [.int (rank l),lav l]
noncomputable def plRho (n:Nat) (r:Option AV):Rho:=[(29,.inst 0 7),(24,.inst 1 1),(35,.int n)] ++ (match r with | some v=>[(20,v)] | none=>[])
theorem qEA (d:Nat) (A:StoreAt H mk nw D0 [] nn) (h7:H[7]?=some (.ns bkF)) {src:Option Nat}{n:Nat}:∀ (ls:List Lit) (r:Option AV),(∀ l ∈ ls,mid l) →
  compLoop (evE PP (callF PP (d + 7)) 39) (.tup [(.neg (.callM (.var 29) 40 [(.var 24),(.var 20)])),(.var 20)]) (.name 20) [] H src (ls.map lav) (plRho n r) H=some (ls.map rkAV,H)
 | [],r,_=>by rw [List.map_nil,qEe,qBP]; rfl
 | l :: ls,r,h=>by
  have ih:=qEA d A h7 (src:=src) (n:=n) ls (some (lav l)) fun x hx=>h x (.tail _ hx)
  have mt:mtOf PP 0 40=some 10:=rfl
  have na:qAj 7 40 H=true:=qAh h7 rfl
  have hh:=qHP d A h7 (h l (.head _))
  have hu:upd 20 (lav l) (plRho n r)=plRho n (some (lav l)):=by cases r <;> rfl
  have l29:(plRho n (some (lav l))).lookup 29=some (.inst 0 7):=rfl
  have l24:(plRho n (some (lav l))).lookup 24=some (.inst 1 1):=rfl
  have l20:(plRho n (some (lav l))).lookup 20=some (lav l):=rfl
  rw [List.map_cons,qCk,qBP,if_pos rfl]
  simp [hu,l29,l24,l20,mt,na,hh,ih,rkAV]
end
noncomputable def qAe (ls:List Lit):List Lit:=ls.filter (fun l=>!isF D0 l) ++ ls.filter (isF D0)
theorem qCV (ls:List Lit):ls.Perm (qAe ls):=by
 have:=List.filter_append_perm (isF D0) ls
 exact this.symm.trans List.perm_append_comm
theorem qEv (l:Lit):keyL (rkAV l)=rank l :: keyL (lav l):=rfl
noncomputable def asc (ls:List Lit):Prop:=ls.Pairwise fun a b=>keyL (lav a) < keyL (lav b)
theorem qNe {ls:List Lit} (h:asc ls):ls.Nodup:=h.imp fun q e=>by subst e; exact qBe _ q
theorem qFc {ls:List Lit} (h:asc ls) (hn:ls.length < 7):qAa (ls.map rkAV)=some ((qAe ls).map rkAV):=by
 have pw:((qAe ls).map rkAV).Pairwise fun a b=>keyL a < keyL b:=by
  rw [List.pairwise_map]
  unfold qAe
  rw [List.pairwise_append]
  refine ⟨?_,?_,?_⟩
  ·refine (h.filter _).imp_of_mem ?_
   intro a b ha hb q
   have ha:=(List.mem_filter.mp ha).2
   have hb:=(List.mem_filter.mp hb).2
   rw [Bool.not_eq_true'] at ha hb
   rw [qEv,qEv,qBO]
   exact .inr ⟨by simp [rank,ha,hb],q⟩
  ·refine (h.filter _).imp_of_mem ?_
   intro a b ha hb q
   have ha:=(List.mem_filter.mp ha).2
   have hb:=(List.mem_filter.mp hb).2
   rw [qEv,qEv,qBO]
   exact .inr ⟨by simp [rank,ha,hb],q⟩
  ·intro a ha b hb
   have ha:=(List.mem_filter.mp ha).2
   have hb:=(List.mem_filter.mp hb).2
   rw [Bool.not_eq_true'] at ha
   rw [qEv,qEv,qBO]
   exact .inl (by simp [rank,ha,hb])
 have nd:((qAe ls).map rkAV).Nodup:=pw.imp fun q e=>by subst e; exact qBe _ q
 have p:(ls.map rkAV).Perm ((qAe ls).map rkAV):=(qCV ls).map _
 refine qCW p ?_ (by simpa using hn) (p.nodup_iff.mpr nd) pw
 have:(ls.map rkAV).all isK3=true:=by
  rw [List.all_eq_true]
  intro a ha
  obtain ⟨l,_,rfl⟩:=List.mem_map.mp ha
  have:=l.2.1.isLt
  show (decide (7 ≤ 7 + l.2.1.val) && decide (7 + l.2.1.val ≤ 10))=true
  simp; lia
 simp only [qAy,this,Bool.or_true]
end Mine.Internal.L
end
section
open PySem PySem.W PyProof.Rows
namespace Mine.Internal.L
theorem take2 {cf:qAQ}{H:AHeap}{src:Option Nat}:∀ (ls:List Lit) (ρ:Rho),compLoop (evE PP cf 39) (.var 20) (.tup [(.name 40),(.name 20)]) [] H src (ls.map rkAV) ρ H=some (ls.map lav,H)
 | [],ρ=>by rw [List.map_nil,qEe,qBP]; rfl
 | l :: ls,ρ=>by
  rw [List.map_cons,qCk,qBP,if_pos rfl]
  have ih:=take2 (cf:=cf) (H:=H) (src:=src) ls (upd 20 (lav l) (upd 40 (.int (rank l)) ρ))
  simp [rkAV,qA2,ih]
theorem WatchAt.wide {H ws M N N'} (h:WatchAt H ws M N) (k:N ≤ N'):WatchAt H ws M N' :=
 ⟨h.dict,fun x w q=>let ⟨ns,a,b,c,e⟩:=h.list x w q; ⟨ns,a,b,fun n m=>Nat.lt_of_lt_of_le (c n m) k,e⟩,h.none,h.inj,h.big,h.keys⟩
theorem qKn {rows:List (List Lit)}{r:List Lit}{l0 l1:Lit} (h0:r[0]?=some l0) (h1:r[1]?=some l1) (y:Fin 4) (m:Nat) :
  ((watM rows y m∨(y=l0.1∧m=rows.length))∨(y=l1.1∧m=rows.length))↔watM (rows ++ [r]) y m:=by
 revert h0 h1
 revert rows r l0 l1 y m
 intros rows r l0 l1 y m
 intro h0 h1
 unfold watM
 by_cases hm:m < rows.length
 ·rw [List.getElem?_append_left hm]
  have:¬ m=rows.length:=by lia
  simp [this]
 ·by_cases hm2:m=rows.length
  ·subst hm2
   have hn:rows[rows.length]?=none:=List.getElem?_eq_none (Nat.le_refl _)
   rw [hn]
   have:wat r y↔y=l0.1∨y=l1.1:=or_congr (qBy h0) (qBy h1)
   simp [this]
  ·have e1:rows[m]?=none:=List.getElem?_eq_none (by lia)
   have e2:(rows ++ [r])[m]?=none:=List.getElem?_eq_none (by simp; lia)
   rw [e1,e2]
   simp [hm2]
structure Setup (H:AHeap) (row:List Int) (all:Int) (t mk nw:Nat) (cs:List Nat) (ws:List (Fin 4 × Nat)) (rows:List (List Lit)):Prop where
 A:All H row all t mk nw D0 [] 0 cs ws rows
 fr:∃ fr,H[10]?=some (.list fr)∧fr.length ≤ rows.length
theorem qDI (ls:List Lit):(qAe ls).length=ls.length:=(qCV ls).length_eq.symm
theorem qIK {ls:List Lit}{l:Lit} (h:l ∈ qAe ls):l ∈ ls:=(qCV ls).mem_iff.mpr h
theorem qHX (d:Nat) {H:AHeap}{row:List Int}{all:Int}{t mk nw:Nat}{cs:List Nat}{ws:List (Fin 4 × Nat)}{rows:List (List Lit)} (P:Setup H row all t mk nw cs ws rows) {ls:List Lit}
  (ha:asc ls) (h3:3 ≤ ls.length) (h7:ls.length < 7) (hm:∀ l ∈ ls,mid l) (hr:rows.length < 5) :
  ∃ H2 H6 cs' ws',callF PP (d + 8) 9 [.inst 0 7,rowAV ls] (H.set 12 (.list ((rows ++ [qAe ls]).map rowAV)))=some (.int rows.length,H2)∧qAj 7 49 H2=true ∧
   callF PP (d + 8) 12 [.inst 0 7,.inst 1 1,.int rows.length] H2=some (.none,H6)∧Setup H6 row all t mk nw cs' ws' (rows ++ [qAe ls]):=by
 revert P ha h3 h7 hm hr
 revert d H row all t mk nw cs ws rows ls
 intros d H row all t mk nw cs ws rows ls
 intro P ha h3 h7 hm hr
 obtain ⟨A,fr,hfr,hfl⟩:=P
 revert hfr hfl; revert fr; intros fr; intro hfr hfl
 have mkw:=A.S.mkw
 have nww:=A.S.nww
 simp only [List.mem_cons,List.not_mem_nil,or_false,not_or] at mkw nww
 have mkl:=qAB A.S.marks
 have nwl:nw < H.length:=by (injection (A.S.news) with kvs; rintro ⟨h2,_⟩); exact qAB h2
 have g30:∀ H:AHeap,H[7]?=some (.ns bkF)→qAD PP (.inst 0 7) 30 H=some (.ref 8):=fun H q=>by rw [qAJ q rfl]; rfl
 have g32:∀ H:AHeap,H[7]?=some (.ns bkF)→qAD PP (.inst 0 7) 32 H=some (.ref 10):=fun H q=>by rw [qAJ q rfl]; rfl
 have h13:=A.h13
 have clen:=A.B.len
 (injection (⟨_,rfl⟩:∃ H1,H1=H.set 12 (.list ((rows ++ [qAe ls]).map rowAV))) with H1; intro e1)
 have l1:H1.length=H.length:=by rw [e1]; simp
 have o1:∀ j,j ≠ 12→H1[j]?=H[j]?:=fun j h=>by rw [e1,qA5 (Ne.symm h)]
 have n1:H1[7]?=some (.ns bkF):=by rw [o1 7 (by decide)]; exact A.B.ns
 have c1:H1[8]?=some (.list (cs.map .ref)):=by rw [o1 8 (by decide)]; exact A.B.clauses
 (injection (⟨_,rfl⟩:∃ H1a,H1a=H1 ++ [AObj.list (ls.map lav)]) with H1a; intro e1a)
 have o1a:∀ j < H.length,H1a[j]?=H1[j]?:=fun j h=>by rw [e1a]; exact List.getElem?_append_left (by lia)
 have n1a:H1a[7]?=some (.ns bkF):=by rw [o1a 7 (by lia)]; exact n1
 have c1a:H1a[8]?=some (.list (cs.map .ref)):=by rw [o1a 8 (by lia)]; exact c1
 (injection (⟨_,rfl⟩:∃ H1b,H1b=H1a.set 8 (.list ((cs ++ [H.length]).map .ref))) with H1b; intro e1b)
 have o1b:∀ j,j ≠ 8→H1b[j]?=H1a[j]?:=fun j h=>by rw [e1b,qA5 (Ne.symm h)]
 have n1b:H1b[7]?=some (.ns bkF):=by rw [o1b 7 (by decide)]; exact n1a
 have f1b:H1b[10]?=some (.list fr):=by rw [o1b 10 (by decide),o1a 10 (by lia),o1 10 (by decide)]; exact hfr
 (injection (⟨_,rfl⟩:∃ H2,H2=H1b.set 10 (.list (fr ++ [.int rows.length]))) with H2; intro e2)
 have o2:∀ j,j ≠ 10→H2[j]?=H1b[j]?:=fun j h=>by rw [e2,qA5 (Ne.symm h)]
 have l2:H2.length=H.length + 1:=by rw [e2,e1b,e1a]; simp [l1]
 have add:callF PP (d + 8) 9 [.inst 0 7,rowAV ls] H1=some (.int rows.length,H2):=by
  refine qB5 (fn:=fn9) (fl:=.ret (.int rows.length)) rfl rfl rfl ?_
  have q1:biAV .len false [.ref 8] H1=some (.int rows.length,H1):=by rw [qBS c1,List.length_map,clen]
  have q2:biAV .list true [rowAV ls] H1=some (.ref H.length,H1a):=by
   show some (AV.ref H1.length,H1 ++ [AObj.list (ls.map lav)])=_
   rw [l1,e1a]
  have q3:qAr 8 0 [.ref H.length] H1a=some (.none,H1b):=by rw [qBv c1a (by simp; lia),e1b]; simp
  have q4:∀ H,biAV .len false [rowAV ls] H=some (.int ls.length,H):=by intros H; show some (AV.int ((ls.map lav).length:Int),H)=_; rw [List.length_map]
  have q5:¬ (ls.length:Int) < 2:=by lia
  have q6:qAr 10 0 [.int rows.length] H1b=some (.none,H2):=by rw [qBv f1b (by lia),e2]
  simp [fn9,List.lookup,upd,g30 _ n1,q1,qBK c1,q2,q3,q4,q5,g32 _ n1b,qBK f1b,q6]
 have n2:H2[7]?=some (.ns bkF):=by rw [o2 7 (by decide)]; exact n1b
 have c2:H2[8]?=some (.list ((cs ++ [H.length]).map .ref)):=by rw [o2 8 (by decide),e1b]; exact qAG c1a
 have low2:∀ j < H.length,j ≠ 8→j ≠ 10→j ≠ 12→H2[j]?=H[j]?:=fun j h a b c=>by rw [o2 j b,o1b j a,o1a j h,o1 j c]
 have S2:StoreAt H2 mk nw D0 [] 0:=A.S.keep fun j ob e m=>by
  simp only [List.mem_cons,List.not_mem_nil,or_false] at m
  rw [low2 j (qAB e) (by lia) (by lia) (by lia)]; exact e
 have cl2:H2[H.length]?=some (.list (ls.map lav)):=by
  rw [o2 _ (by lia),o1b _ (by lia),e1a,← l1]; exact qEk
 have s2:subAV (.ref 8) (.int rows.length) H2=some (.ref H.length):=by
  rw [qAx c2,idx_at rfl (by simp; lia)]
  simp [← clen]
 (injection (⟨_,rfl⟩:∃ H3,H3=H2 ++ [AObj.list ((qAe ls).map lav)]) with H3; intro e3)
 have o3:∀ j < H2.length,H3[j]?=H2[j]?:=fun j h=>by rw [e3]; exact List.getElem?_append_left h
 have n3:H3[7]?=some (.ns bkF):=by rw [o3 7 (by lia)]; exact n2
 have c3:H3[8]?=some (.list ((cs ++ [H.length]).map .ref)):=by rw [o3 8 (by lia)]; exact c2
 (injection (⟨_,rfl⟩:∃ H4,H4=H3.set 8 (.list ((cs ++ [H.length + 1]).map .ref))) with H4; intro e4)
 have o4:∀ j,j ≠ 8→H4[j]?=H3[j]?:=fun j h=>by rw [e4,qA5 (Ne.symm h)]
 have l4:H4.length=H.length + 2:=by rw [e4,e3]; simp [l2]
 have n4:H4[7]?=some (.ns bkF):=by rw [o4 7 (by decide)]; exact n3
 have c4:H4[8]?=some (.list ((cs ++ [H.length + 1]).map .ref)):=by rw [e4]; exact qAG c3
 have r4:H4[H.length + 1]?=some (.list ((qAe ls).map lav)):=by rw [o4 _ (by lia),e3,← l2]; exact qEk
 have low4:∀ j < H.length,j ≠ 8→j ≠ 10→j ≠ 12→H4[j]?=H[j]?:=fun j h a b c=>by rw [o4 j a,o3 j (by lia),low2 j h a b c]
 have W4:WatchAt H4 ws (watM rows) (rows.length + 1):=(A.B.W.keep (low4 11 (by lia) (by decide) (by decide) (by decide)) fun p hp=>by
  (injection (A.B.W.at_ hp) with l; intro e)
  have:=A.B.W.big p hp
  exact low4 _ (qAB e) (by lia) (by lia) (by lia)).wide (Nat.le_succ _)
 (injection (⟨_,List.getElem?_eq_getElem (by rw [qDI]; lia)⟩:∃ l,(qAe ls)[0]?=some l) with l0; intro hl0)
 (injection (⟨_,List.getElem?_eq_getElem (by rw [qDI]; lia)⟩:∃ l,(qAe ls)[1]?=some l) with l1'; intro hl1)
 (injection (qDF (d + 6) (by lia) n4 W4 l0.1 rows.length (by lia) (by lia)) with H5 ws1; rintro ⟨k5,W5,F5⟩)
 have wsl:∀ p ∈ ws,p.2 < H.length:=fun p hp=>by (injection (A.B.W.at_ hp) with l; intro e); exact qAB e
 have low5:∀ j < H4.length,j ≠ 11→(∀ p ∈ ws,j ≠ p.2)→H5[j]?=H4[j]?:=F5.same
 have n5:H5[7]?=some (.ns bkF):=by rw [low5 7 (by lia) (by decide) fun p hp=>by have:=A.B.W.big p hp; lia]; exact n4
 have c5:H5[8]?=some (.list ((cs ++ [H.length + 1]).map .ref)):=by rw [low5 8 (by lia) (by decide) fun p hp=>by have:=A.B.W.big p hp; lia]; exact c4
 have r5:H5[H.length + 1]?=some (.list ((qAe ls).map lav)):=by rw [low5 _ (by lia) (by lia) fun p hp=>by have:=wsl p hp; lia]; exact r4
 (injection (qDF (d + 6) (by have:=F5.le; lia) n5 W5 l1'.1 rows.length (by lia) (by lia)) with H6 ws2; rintro ⟨k6,W6,F6⟩)
 have F:=F5.trans F6
 have s8:∀ K:AHeap,K[8]?=some (.list ((cs ++ [H.length + 1]).map .ref))→subAV (.ref 8) (.int rows.length) K=some (.ref (H.length + 1)):=by
  intros K; intro q
  rw [qAx q,idx_at rfl (by simp; lia)]
  simp [← clen]
 have place:callF PP (d + 8) 12 [.inst 0 7,.inst 1 1,.int rows.length] H2=some (.none,H6):=by
  refine qB5 (fn:=fn12) (fl:=.next) rfl rfl rfl ?_
  have rc:compLoop (evE PP (callF PP (d + 7)) 39) (.tup [(.neg (.callM (.var 29) 40 [(.var 24),(.var 20)])),(.var 20)]) (.name 20) [] H2 (some H.length) (ls.map lav) [(29,.inst 0 7),(24,.inst 1 1),(35,.int rows.length)] H2=some (ls.map rkAV,H2):=qEA d S2 n2 ls none hm
  have so:biAV .sorted false [.lst (ls.map rkAV)] H2=some (.lst ((qAe ls).map rkAV),H2):=qE5 rfl (qFc ha h7)
  have as4:qBA (.ref 8) (.int rows.length) (.ref (H.length + 1)) H3=some H4:=by
   rw [qD8 c3 (by lia) (by simp; lia),e4,Int.toNat_natCast]
   congr 2
   rw [List.map_append,List.map_append,List.set_append_right _ _ (by simp; lia)]
   simp [clen]
  have mk2:H2 ++ [AObj.list ((qAe ls).map lav)]=H3:=e3.symm
  have mt:mtOf PP 0 39=some 11:=rfl
  have na4:qAj 7 39 H4=true:=qAh n4 rfl
  have na5:qAj 7 39 H5=true:=qAh n5 rfl
  have t4:subAV (.ref (H.length + 1)) (.int 0) H4=some (lav l0):=qAn (k:=0) r4 hl0
  have t5:subAV (.ref (H.length + 1)) (.int 1) H5=some (lav l1'):=qAn (k:=1) r5 hl1
  simp [-List.map_append,fn12,List.lookup,upd,g30 _ n2,s2,qNQ cl2,rc,so,take2,l2,mk2,g30 _ n3,as4,mt,na4,g30 _ n4,s8 _ c4,t4,k5,na5,g30 _ n5,s8 _ c5,t5,k6]
 have low6:∀ j < H4.length,j ≠ 11→(∀ p ∈ ws,j ≠ p.2)→H6[j]?=H4[j]?:=F.same
 have lo:∀ j,j < 13→j ≠ 11→H6[j]?=H4[j]?:=(by intros j; intro hj h; exact low6 j (by lia) h fun p hp=>by have:=A.B.W.big p hp; lia)
 refine ⟨H2,H6,cs ++ [H.length + 1],ws2,by rw [← e1]; exact add,qAh n2 rfl,place,⟨⟨?_,?_,A.nz,⟨?_,?_,by simp [clen],?_,?_,?_,?_,?_⟩,?_,?_,?_,?_,?_,?_,?_⟩,fr ++ [.int rows.length],?_,?_⟩⟩
 ·rw [lo 0 (by decide) (by decide),low4 0 (by lia) (by decide) (by decide) (by decide)]; exact A.k
 ·refine A.S.keep ?_
  intros j ob; intro e m
  simp only [List.mem_cons,List.not_mem_nil,or_false] at m
  rw [low6 j (by have:=qAB e; lia) (by lia) (fun p hp q=>by have:=A.B.W.big p hp; have:=A.aw p hp; lia),low4 j (qAB e) (by lia) (by lia) (by lia)]; exact e
 ·rw [lo 7 (by decide) (by decide)]; exact n4
 ·rw [lo 8 (by decide) (by decide)]; exact c4
 ·(intros n c r; intro hc hrr)
  by_cases hn:n < rows.length
  ·rw [List.getElem?_append_left (by lia)] at hc hrr
   have e:=A.B.row n c r hc hrr
   have cm:=List.mem_of_getElem? hc
   have:=A.B.big c cm
   rw [low6 c (by have:=qAB e; lia) (by lia) (A.B.apart c cm),low4 c (qAB e) (by lia) (by lia) (by lia)]; exact e
  ·have hn2:n=rows.length:=by
    have:=(List.getElem?_eq_some_iff.mp hrr).1
    simp at this; lia
   subst hn2
   simp at hrr
   have hc':c=H.length + 1:=by
    rw [List.getElem?_append_right (by lia)] at hc
    simp [clen] at hc
    exact hc.symm
   subst hc'; subst hrr
   rw [low6 _ (by lia) (by lia) fun p hp=>by have:=wsl p hp; lia]; exact r4
 ·rw [List.length_append]
  exact W6.congr (qKn hl0 hl1)
 ·rw [List.nodup_append]
  refine ⟨A.B.nodup,by simp,?_⟩
  (intros a; intro hca; intros b; intro hb; rintro rfl)
  rw [List.mem_singleton] at hb
  (injection (List.getElem_of_mem hca) with i; rintro ⟨hi,ei⟩)
  have:=qAB (A.B.row i a (rows[i]'(by lia)) (by rw [List.getElem?_eq_getElem hi,ei]) (List.getElem?_eq_getElem _))
  lia
 ·(intros c; intro hc)
  rcases List.mem_append.mp hc with q | q
  ·exact A.B.big c q
  ·rw [List.mem_singleton] at q; lia
 ·(intros c; intro hc; intros p; intro hp)
  have hcl:c ∈ cs→c < H.length:=fun q=>by
   (injection (List.getElem_of_mem q) with i; rintro ⟨hi,ei⟩)
   exact qAB (A.B.row i c (rows[i]'(by lia)) (by rw [List.getElem?_eq_getElem hi,ei]) (List.getElem?_eq_getElem _))
  rcases List.mem_append.mp hc with q | q
  ·rcases F.new p hp with z | z
   ·exact A.B.apart c q p z
   ·have:=hcl q; lia
  ·rw [List.mem_singleton] at q
   rcases F.new p hp with z | z
   ·have:=wsl p z; lia
   ·lia
 ·rw [lo 12 (by decide) (by decide),o4 12 (by decide),o3 12 (by lia),o2 12 (by decide),o1b 12 (by decide),o1a 12 (by lia),e1]; exact qAG A.R
 ·(intros c; intro hc)
  rcases List.mem_append.mp hc with q | q
  ·exact A.ap c q
  ·rw [List.mem_singleton] at q; lia
 ·(intros p; intro hp)
  rcases F.new p hp with z | z
  ·exact A.aw p z
  ·lia
 ·have:=F.le; lia
 ·(intros r; intro hrr)
  rcases List.mem_append.mp hrr with q | q
  ·exact A.r3 r q
  ·rw [List.mem_singleton] at q; rw [q,qDI]; lia
 ·simp; lia
 ·(intros r; intro hrr; intros l; intro hl)
  rcases List.mem_append.mp hrr with q | q
  ·exact A.lm r q l hl
  ·rw [List.mem_singleton] at q; rw [q] at hl; exact hm l (qIK hl)
 ·rw [lo 10 (by decide) (by decide),o4 10 (by decide),o3 10 (by lia),e2]; exact qAG f1b
 ·simp; lia
end Mine.Internal.L
end
section
open PySem PySem.W PyProof.Rows
namespace Mine.Internal.L
section
variable {H:AHeap}{row:List Int}{all:Int}{t:Nat}
theorem set_set (H:AHeap) (i:Nat) (a b:AObj):(H.set i a).set i b=H.set i b:=List.set_set ..
theorem qFG (d:Nat) (h:H[0]?=some (keg row all t)) (ht:t + 3 ≤ 600):∃ l,mid l∧callF PP (d + 2) 32 [.ref 0] H=some (lav l,H.set 0 (keg row all (t + 3))):=by
 revert h ht
 revert H row all t d
 intros H row all t d
 intro h ht
 (injection (qAk d 4 h (by lia) (by decide)) with x; rintro ⟨hx,e1⟩)
 (injection (qAk d 4 (qAG (o':=keg row all (t + 1)) h) (by lia) (by decide)) with s; rintro ⟨hs,e2⟩)
 rw [set_set] at e2
 (injection (qAk d 5 (qAG (o':=keg row all (t + 1 + 1)) h) (by lia) (by decide)) with k; rintro ⟨hk,e3⟩)
 rw [set_set] at e3
 have e1':callF PP (d + 1) 31 [.ref 0,.int 4] H=_:=e1
 have e2':callF PP (d + 1) 31 [.ref 0,.int 4] (H.set 0 (keg row all (t + 1)))=_:=e2
 have e3':callF PP (d + 1) 31 [.ref 0,.int 5] (H.set 0 (keg row all (t + 1 + 1)))=_:=e3
 have go:∀ (s':Fin 4),subAV (.tup [.str 8,.str 10,.str 9,.str 7]) (.int s) (H.set 0 (keg row all (t + 1 + 1)))=some (.str (7 + s'.val)) →
   ∃ l,mid l∧callF PP (d + 2) 32 [.ref 0] H=some (lav l,H.set 0 (keg row all (t + 3))):=by
  (intros s'; intro hs')
  refine ⟨(⟨x,hx⟩,s',⟨k + 1,by lia⟩),⟨Nat.le_add_left ..,by show k + 1 ≤ 5; lia⟩,?_⟩
  refine qB5 (fn:=fn32) (fl:=.ret (lav (⟨x,hx⟩,s',⟨k + 1,by lia⟩))) rfl rfl rfl ?_
  have hl:lav (⟨x,hx⟩,s',⟨k + 1,by lia⟩)=.tup [.int x,.str (7 + s'.val),.int k]:=by
   show AV.tup [AV.int (x:Int),AV.str (7 + s'.val),AV.int (((k + 1:Nat):Int) - 1)]=_
   rw [show ((k + 1:Nat):Int) - 1=k by lia]
  rw [hl]
  simp only [fn32,qE4,s_ret,e_tup,qKF,qKL,e_var,e_lit,e_sub,qM8,qBs,List.lookup,Option.bind_some,Option.map_some,BEq.rfl,e1',e2',e3',hs',qD6,qEy,qGN]
 have h0:s=0∨s=1∨s=2∨s=3:=by lia
 rcases h0 with rfl | rfl | rfl | rfl
 ·exact go 1 rfl
 ·exact go 3 rfl
 ·exact go 2 rfl
 ·exact go 0 rfl
theorem qFM (d n:Nat) (h0:0 < H.length) {H0:AHeap}:∀ (xs:List AV) (t:Nat) (ρ:Rho),ρ.lookup 97=some (.ref 0)→t + 3 * xs.length ≤ 600 →
  ∃ ls:List Lit,ls.length=xs.length∧(∀ l ∈ ls,mid l)∧compLoop (evE PP (callF PP (d + 2)) (n + 2)) (.callF 32 [(.var 97)]) (.name 75) [] H0 none xs ρ (H.set 0 (keg row all t))=some (ls.map lav,H.set 0 (keg row all (t + 3 * xs.length)))
 | [],t,ρ,_,_=>⟨[],rfl,by simp,by rw [qEe]; simp⟩
 | x :: xs,t,ρ,hρ,ht=>by
  rw [List.length_cons] at ht
  have hk:(H.set 0 (keg row all t))[0]?=some (keg row all t):=by rw [qML,if_pos ⟨rfl,h0⟩]
  obtain ⟨l,hl,e⟩:=qFG d hk (by lia)
  rw [set_set] at e
  obtain ⟨ls,h1,h2,h3⟩:=qFM d n h0 (H0:=H0) xs (t + 3) (upd 75 x ρ) (by rw [qA2]; simpa using hρ) (by lia)
  refine ⟨l :: ls,by simp [h1],fun m hm=>(List.mem_cons.mp hm).elim (fun q=>q ▸ hl) (h2 m),?_⟩
  rw [qCk]
  have et:t + 3 + 3 * xs.length=t + 3 * (xs.length + 1):=by lia
  rw [et] at h3
  simp [qA2,hρ,e,h3]
theorem qGo:∀ l:List AV,(dedup l).length ≤ l.length
 | []=>Nat.le_refl _
 | x :: r=>by
  have:=qGo r
  have h:=List.length_filter_le (fun y:AV=>!y.beq x) (dedup r)
  show ((dedup r).filter _).length + 1 ≤ r.length + 1
  lia
theorem qJo:∀ {l:List AV},(∀ a ∈ l,∃ m:Lit,a=lav m∧mid m)→∃ ms:List Lit,l=ms.map lav∧∀ m ∈ ms,mid m
 | [],_=>⟨[],rfl,by simp⟩
 | a :: r,h=>by
  obtain ⟨m,rfl,hm⟩:=h a (.head _)
  obtain ⟨ms,rfl,k⟩:=qJo fun b hb=>h b (.tail _ hb)
  exact ⟨m :: ms,rfl,fun x hx=>(List.mem_cons.mp hx).elim (fun q=>q ▸ hm) (k x)⟩
theorem qIL {ls:List Lit} (hm:∀ l ∈ ls,mid l) (hn:ls.length < 7):∃ ms:List Lit,asc ms∧ms.length < 7∧(∀ m ∈ ms,mid m) ∧
  biAV .set false [.lst (ls.map lav)] H=some (.sset (dedup (ls.map lav)),H)∧biAV .sorted false [.sset (dedup (ls.map lav))] H=some (rowAV ms,H):=by
 revert hm hn
 revert H ls
 intros H ls
 intro hm hn
 have k2:(ls.map lav).all isK2=true:=by
  rw [List.all_eq_true]
  (intros a; intro ha)
  (injection (List.mem_map.mp ha) with l; rintro ⟨_,rfl⟩)
  have:=l.2.1.isLt
  show (decide (7 ≤ 7 + l.2.1.val) && decide (7 + l.2.1.val ≤ 10))=true
  simp; lia
 have hd:∀ a ∈ dedup (ls.map lav),∃ m:Lit,a=lav m∧mid m:=by
  intros a; intro ha
  (injection (List.mem_map.mp ((qCu _ _).mp ha)) with l; rintro ⟨hl,rfl⟩)
  exact ⟨l,rfl,hm l hl⟩
 have hp:=qAi (dedup (ls.map lav))
 (injection (qJo (l:=qAf (dedup (ls.map lav))) fun a ha=>hd a (hp.mem_iff.mp ha)) with ms; rintro ⟨e,k⟩)
 have dk2:(dedup (ls.map lav)).all isK2=true:=by
  rw [List.all_eq_true] at k2 ⊢
  exact fun a ha=>k2 a ((qCu _ _).mp ha)
 have hs:qAy (dedup (ls.map lav))=true:=by simp only [qAy,dk2,Bool.or_true,Bool.true_or]
 have nd:(dedup (ls.map lav)).Nodup:=qCa _
 have dl:(dedup (ls.map lav)).length < 7:=by have:=qGo (ls.map lav); rw [List.length_map] at this; lia
 have pw:=qAu (qFZ hs) nd
 have hso:qAa (dedup (ls.map lav))=some (ms.map lav):=by rw [qCW hp.symm hs dl nd pw,e]
 refine ⟨ms,?_,?_,k,?_,?_⟩
 ·rw [e,List.pairwise_map] at pw; exact pw
 ·have:=hp.length_eq; rw [e,List.length_map] at this; lia
 ·show (if (ls.map lav).all isK2 && decide ((ls.map lav).length < 7) then some (AV.sset (dedup (ls.map lav)),H) else none)=_
  rw [k2,List.length_map]; simp [hn]
 ·exact qE5 rfl hso
theorem qCh {d n:Nat}{src:Option Nat}{Ds:List Dm} (hD:Ds.length=4) {b:Bool}{hist:List AV} (h0:hist[0]?=some (qAH Ds)):∀ (ls:List Lit) (ρ:Rho),ρ.lookup 100=some (.lst hist) →
  compLoop (evE PP (callF PP (d + 2)) (n + 6)) (.var 44) (.name 44) [if b then (.callF 35 [(.var 44),(.sub (.var 100) (.lit (.int 0)))]) else (.not (.callF 35 [(.var 44),(.sub (.var 100) (.lit (.int 0)))]))] H src (ls.map lav) ρ H=some ((ls.filter fun l=>isF Ds l == b).map lav,H)
 | [],ρ,_=>by rw [List.map_nil,qEe,qBP]; rfl
 | l :: ls,ρ,hρ=>by
  have ih:=qCh hD h0 (b:=b) (n:=n) (d:=d) (src:=src) ls (upd 44 (lav l) ρ) (by rw [qA2]; simpa using hρ)
  have hs:subAV (.lst hist) (.int 0) H=some (qAH Ds):=by
   show (idx hist.length ((0:Nat):Int)).bind _=_
   rw [idx_at rfl (List.getElem?_eq_some_iff.mp h0).1]; exact h0
  have hf:=qB3 d (H:=H) hD l
  rw [List.map_cons,qCk,qBP,if_pos rfl]
  cases b <;> cases hq:isF Ds l <;> rw [hq] at hf <;> simp only [Bool.false_eq_true,if_false,if_true] at ih ⊢ <;> simp [-qDH,qA2,hρ,hs,hf,hq,ih]
end
end Mine.Internal.L
end
section
open PySem PySem.W PyProof.Rows
namespace Mine.Internal.L
noncomputable def app (D:List Dm) (e:TrE):List Dm:=D.set e.1.val (cut e.2.2 e.2.1)
noncomputable def state (tr:List TrE):List Dm:=tr.foldl app D0
theorem qCF (tr:List TrE) (e:TrE):state (tr ++ [e])=app (state tr) e:=by unfold state; rw [List.foldl_append]; rfl
theorem qAm (tr:List TrE):(state tr).length=4:=by
 unfold state
 have:∀ (tr:List TrE) (D:List Dm),D.length=4→(tr.foldl app D).length=4:=by
  intro tr
  induction tr with
  | nil=>exact fun _ h=>h
  | cons e r ih=>exact fun D h=>ih (app D e) (by unfold app; rw [List.length_set]; exact h)
 exact this tr D0 rfl
inductive Valid:List TrE→Prop
 | nil:Valid []
 | snoc {tr:List TrE}{e:TrE}:Valid tr→(state tr)[e.1.val]?=some e.2.1→cut e.2.2 e.2.1 ≠ 0→Valid (tr ++ [e])
theorem Valid.un {tr:List TrE}{e:TrE} (h:Valid (tr ++ [e])):Valid tr∧(state tr)[e.1.val]?=some e.2.1∧cut e.2.2 e.2.1 ≠ 0:=by
 revert h
 revert tr e
 intros tr e
 intro h
 generalize hq:tr ++ [e]=q at h
 cases h with
 | nil=>simp at hq
 | snoc a b c =>
  obtain ⟨rfl,h2⟩:=List.append_inj' hq rfl
  simp only [List.cons.injEq,and_true] at h2
  subst h2
  exact ⟨a,b,c⟩
theorem Valid.pre {keep:List TrE}:∀ (m:Nat) (es:List TrE),es.length=m→Valid (keep ++ es)→Valid keep∧undo es (state (keep ++ es))=state keep
 | 0,es,h,v=>by
  rw [List.length_eq_zero_iff] at h
  subst h
  rw [List.append_nil] at v ⊢
  exact ⟨v,rfl⟩
 | m + 1,es,h,v=>by
  obtain ⟨es,e,rfl⟩:∃ es' e,es=es' ++ [e]:=by
   rcases List.eq_nil_or_concat es with q | ⟨a,b,q⟩
   ·subst q; cases h
   ·exact ⟨a,b,by simpa using q⟩
  rw [← List.append_assoc] at v
  obtain ⟨v1,v2,_⟩:=v.un
  obtain ⟨k1,k2⟩:=Valid.pre m es (by simpa using h) v1
  refine ⟨k1,?_⟩
  rw [← List.append_assoc,qCF]
  have:undo (es ++ [e]) (app (state (keep ++ es)) e)=undo es ((app (state (keep ++ es)) e).set e.1.val e.2.1):=by
   unfold undo; rw [List.foldr_append]; rfl
  rw [this,← k2]
  congr 1
  unfold app
  rw [List.set_set]
  refine List.ext_getElem? fun j=>?_
  rw [List.getElem?_set]
  split
  ·rename_i q
   subst q
   split
   ·exact v2.symm
   ·rename_i q; rw [List.getElem?_eq_none (by lia)]
  ·rfl
theorem Valid.nz {tr:List TrE} (h:Valid tr):∀ S ∈ state tr,S ≠ 0:=by
 induction h with
 | nil=>exact D0_nz
 | @snoc tr e v1 v2 v3 ih =>
  intro S hS
  rw [qCF] at hS
  rcases List.mem_or_eq_of_mem_set hS with q | q
  ·exact ih S q
  ·rw [q]; exact v3
noncomputable def hist (tr:List TrE):List (List Dm):=(List.range (tr.length + 1)).map fun i=>state (tr.take i)
theorem qD0 (tr):(hist tr).length=tr.length + 1:=by simp [hist]
theorem qK6 (tr:List TrE):(hist tr)[tr.length]?=some (state tr):=by
 unfold hist
 rw [List.getElem?_map,List.getElem?_range (by lia)]
 simp
theorem qMv (tr:List TrE):(hist tr)[0]?=some D0:=by
 unfold hist
 rw [List.getElem?_map,List.getElem?_range (by lia)]
 rfl
theorem qK5 (tr:List TrE) (e:TrE):hist (tr ++ [e])=hist tr ++ [state (tr ++ [e])]:=by
 unfold hist
 rw [List.length_append,List.length_singleton,List.range_succ,List.map_append]
 congr 1
 ·refine List.map_congr_left fun i hi=>?_
  rw [List.mem_range] at hi
  rw [List.take_append_of_le_length (by lia)]
 ·simp [List.take_of_length_le]
theorem qK4 (keep es:List TrE):(hist (keep ++ es)).take (keep.length + 1)=hist keep:=by
 unfold hist
 rw [← List.map_take,List.take_range,List.length_append,Nat.min_eq_left (by lia)]
 refine List.map_congr_left fun i hi=>?_
 rw [List.mem_range] at hi
 rw [List.take_append_of_le_length (by lia)]
section
variable {H:AHeap}{row:List Int}{all:Int}{t mk nw nn:Nat}{cs:List Nat}{ws:List (Fin 4 × Nat)}{rows:List (List Lit)}
theorem All.pop (d:Nat) {keep es:List TrE} (A:All H row all t mk nw (state (keep ++ es)) (keep ++ es) nn cs ws rows) (v:Valid (keep ++ es)) (h1:1 ≤ es.length) (hb:keep.length + es.length < 900) :
  ∃ H' mk' nw',callF PP (d + 1) 28 [.inst 1 1,.int es.length] H=some (.none,H')∧All H' row all t mk' nw' (state keep) keep nn cs ws rows:=by
 revert A v h1 hb
 revert H row all t mk nw nn cs ws rows d keep es
 intros H row all t mk nw nn cs ws rows d keep es
 intro A v h1 hb
 (injection (qL8 d A.S h1 hb A.h13) with H'; rintro ⟨c,S,le,fr⟩)
 have hv:=Valid.pre _ es rfl v
 rw [hv.2] at S
 have h13:=A.h13
 have k:∀ j ob,H[j]?=some ob→j ∉ [1,2,4]→H'[j]?=some ob:=fun j ob e m=>by rw [fr j (qAB e) m]; exact e
 have csl:∀ c ∈ cs,c < H.length:=fun c hc=>by
  (injection (List.getElem_of_mem hc) with i; rintro ⟨hi,ei⟩)
  exact qAB (A.B.row i c (rows[i]'(by rw [← A.B.len]; exact hi)) (by rw [List.getElem?_eq_getElem hi,ei]) (List.getElem?_eq_getElem _))
 have wsl:∀ p ∈ ws,p.2 < H.length:=by intros p; intro hp; (injection (A.B.W.at_ hp) with l; intro e); exact qAB e
 refine ⟨H',_,_,c,⟨k 0 _ A.k (by decide),S,hv.1.nz,A.B.keep fun j ob e m=>k j ob e ?_,k 12 _ A.R (by decide),?_,?_,by lia,A.r3,A.rn,A.lm⟩⟩
 ·simp only [List.mem_cons,List.not_mem_nil,or_false,not_or]
  rcases m with q | q | q | q | ⟨p,q,z⟩
  ·lia
  ·lia
  ·lia
  ·have:=A.B.big j q; lia
  ·have:=A.B.W.big p q; lia
 ·intros c; intro hc
  have:=csl c hc; lia
 ·intros p; intro hp
  have:=wsl p hp; lia
theorem All.dec (d:Nat) {tr:List TrE}{l:Lit}{S:Dm} (A:All H row all t mk nw (state tr) tr nn cs ws rows) (v:Valid tr) (hS:(state tr)[l.1.val]?=some S) (h0:cut l S ≠ 0) (h1:cut l S ≠ S) (ht:tr.length < 900) (hn:nn < 900) :
  ∃ H1 H2,callF PP (d + 6) 27 [.inst 1 1] H=some (.none,H1)∧qAj 1 94 H1=true∧callF PP (d + 6) 25 [.inst 1 1,lav l] H1=some (.bool true,H2) ∧
   All H2 row all t mk nw (state (tr ++ [(l.1,S,l)])) (tr ++ [(l.1,S,l)]) (nn + 1) cs ws rows∧Valid (tr ++ [(l.1,S,l)]):=by
 revert A v hS h0 h1 ht hn
 revert H row all t mk nw nn cs ws rows d tr l S
 intros H row all t mk nw nn cs ws rows d tr l S
 intro A v hS h0 h1 ht hn
 have mkw:=A.S.mkw
 have nww:=A.S.nww
 simp only [List.mem_cons,List.not_mem_nil,or_false,not_or] at mkw nww
 have hne:mk ≠ nw:=by
  rintro rfl
  (injection (A.S.news) with kvs; rintro ⟨e,_⟩)
  have:=A.S.marks
  rw [e] at this; cases this
 have c1:=qJT (d + 5) A.S (by lia)
 (injection (⟨_,rfl⟩:∃ H1,H1=H.set mk (.list (nsAV (List.range (tr.length + 1))))) with H1; intro e1)
 rw [← e1] at c1
 have o1:∀ j,j ≠ mk→H1[j]?=H[j]?:=fun j h=>by rw [e1,qA5 (Ne.symm h)]
 have m1:H1[mk]?=some (.list (nsAV (List.range (tr.length + 1)))):=by rw [e1]; exact qAG A.S.marks
 have n1:H1[1]?=some (.ns (stF mk nw)):=by rw [o1 1 (by lia)]; exact A.S.ns
 (injection (A.S.news) with kvs0; rintro ⟨x1,x2⟩)
 (injection (qHU (tr:=tr) d n1 (by rw [o1 2 (by lia)]; exact A.S.doms) (qAm tr) (by rw [o1 4 (by lia)]; exact A.S.trail) ⟨kvs0,by rw [o1 nw (Ne.symm hne)]; exact x1,x2⟩ A.S.nww hS h0 h1 (by lia) (by lia)) with kvs; rintro ⟨y1,c2⟩)
 (injection (⟨_,rfl⟩:∃ H2,H2=((H1.set 4 (.list ((tr ++ [(l.1,S,l)]).map trAV))).set 2 (.list (((state tr).set l.1.val (cut l S)).map dom))).set nw (.dictI kvs)) with H2; intro e2)
 rw [← e2] at c2
 have o2:∀ j,j ≠ 4→j ≠ 2→j ≠ nw→H2[j]?=H1[j]?:=by intros j; intro a b c; rw [e2,qA5 (Ne.symm c),qA5 (Ne.symm b),qA5 (Ne.symm a)]
 have o:∀ j ob,H[j]?=some ob→j ≠ 4→j ≠ 2→j ≠ nw→j ≠ mk→H2[j]?=some ob:=fun j ob e a b c f=>by rw [o2 j a b c,o1 j f]; exact e
 have l2:H2.length=H.length:=by rw [e2,e1]; simp
 have d4:H1[4]?=some (.list (tr.map trAV)):=by rw [o1 4 (by lia)]; exact A.S.trail
 have d2:H1[2]?=some (.list ((state tr).map dom)):=by rw [o1 2 (by lia)]; exact A.S.doms
 have vv:Valid (tr ++ [(l.1,S,l)]):=.snoc v hS h0
 refine ⟨H1,H2,c1,qAh n1 rfl,c2,⟨o 0 _ A.k (by decide) (by decide) (by lia) (by lia),⟨o 1 _ A.S.ns (by decide) (by decide) (by lia) (by lia),?_,qAm _,o 3 _ A.S.firsts (by decide) (by decide) (by lia) (by lia),?_,?_,⟨kvs,?_,y1⟩,A.S.mkw,A.S.nww⟩,vv.nz,A.B.keep ?_,o 12 _ A.R (by decide) (by decide) (by lia) (by lia),A.ap,A.aw,by rw [l2]; exact A.h13,A.r3,A.rn,A.lm⟩,vv⟩
 ·rw [e2,qA5 (by lia),qCF]
  exact qAG (by rw [qA5 (by decide)]; exact d2)
 ·rw [e2,qA5 (by lia),qA5 (by decide)]
  exact qAG d4
 ·rw [o2 mk (by lia) (by lia) hne,List.length_append]; exact m1
 ·rw [e2]
  refine qAG (o:=.dictI kvs0) ?_
  rw [qA5 (by lia),qA5 (by lia),o1 nw (Ne.symm hne)]; exact x1
 ·intros j ob; intro e m
  refine o j ob e ?_ ?_ ?_ ?_
  all_goals
   rcases m with q | q | q | q | ⟨p,q,z⟩
   ·lia
   ·lia
   ·lia
   ·have:=A.B.big j q; have:=A.ap j q; lia
   ·have:=A.B.W.big p q; have:=A.aw p q; lia
end
end Mine.Internal.L
end
section
open PySem PySem.W PyProof.Rows
namespace Mine.Internal.L
theorem qFp {I:Nat→Rho→AHeap→Prop}{body:Rho→AHeap→StRes}{t:Nat}{H0:AHeap}:∀ (xs:List AV) (i:Nat),(∀ x ∈ xs,∀ j ρ H,j < i + xs.length→I j ρ H→∃ ρ' H',body (upd t x ρ) H=some (.next,ρ',H')∧I (j + 1) ρ' H')→∀ ρ H,I i ρ H →
  ∃ ρ' H',forLoop body (.name t) H0 none xs ρ H=some (.next,ρ',H')∧I (i + xs.length) ρ' H'
 | [],i,_,ρ,H,h=>⟨ρ,H,by rw [qI6]; simp,h⟩
 | x :: xs,i,k,ρ,H,h=>by
  rw [List.length_cons] at k ⊢
  obtain ⟨ρ1,H1,e1,h1⟩:=k x (.head _) i ρ H (by lia) h
  obtain ⟨ρ2,H2,e2,h2⟩:=qFp (I:=I) (H0:=H0) xs (i + 1) (fun y hy j ρ H hj hI=>k y (.tail _ hy) j ρ H (by lia) hI) ρ1 H1 h1
  refine ⟨ρ2,H2,?_,by rw [show i + (xs.length + 1)=i + 1 + xs.length by lia]; exact h2⟩
  rw [qDX]
  simp [e1,e2]
noncomputable def qBf:List CS:=[(.asg (.name 41) (.bi .sorted false [(.bi .set false [(.comp false false (.callF 32 [(.var 97)]) (.name 75) (.bi .range false [(.bin .add false (.lit (.int 3)) (.callF 31 [(.var 97),(.lit (.int 4))]))]) [])])])),
  (.asg (.name 41) (.ite (.cmp .gt (.bi .len false [(.var 41)]) (.lit (.int 2))) (.var 41) (.lst false [(.tup [(.lit (.int 0)),(.lit (.str 8)),(.lit (.int 1))]),(.tup [(.lit (.int 1)),(.lit (.str 10)),(.lit (.int 2))]),(.tup [(.lit (.int 2)),(.lit (.str 7)),(.lit (.int 3))])]))),
  (.expr (.callM (.var 98) 0 [(.bin .add false (.comp false false (.var 44) (.name 44) (.var 41) [(.not (.callF 35 [(.var 44),(.sub (.var 100) (.lit (.int 0)))]))]) (.comp false false (.var 44) (.name 44) (.var 41) [(.callF 35 [(.var 44),(.sub (.var 100) (.lit (.int 0)))])]))])),
  (.expr (.callM (.var 83) 49 [(.var 79),(.callM (.var 83) 86 [(.var 41)])]))]
noncomputable def base (ρ:Rho):Prop:=ρ.lookup 97=some (.ref 0)∧ρ.lookup 79=some (.inst 1 1)∧ρ.lookup 83=some (.inst 0 7)∧ρ.lookup 98=some (.ref 12)
theorem base.upd {ρ:Rho} (h:base ρ) {k:Nat}{v:AV} (h1:k ≠ 97) (h2:k ≠ 79) (h3:k ≠ 83) (h4:k ≠ 98):base (upd k v ρ):=by
 obtain ⟨a,b,c,e⟩:=h
 refine ⟨?_,?_,?_,?_⟩ <;> rw [qA2]
 ·rw [if_neg (Ne.symm h1)]; exact a
 ·rw [if_neg (Ne.symm h2)]; exact b
 ·rw [if_neg (Ne.symm h3)]; exact c
 ·rw [if_neg (Ne.symm h4)]; exact e
noncomputable def cI (row:List Int) (all:Int) (j:Nat) (ρ:Rho) (H:AHeap):Prop :=
 base ρ∧ρ.lookup 100=some (.lst [qAH D0])∧∃ t mk nw cs ws rows,Setup H row all t mk nw cs ws rows∧rows.length=j∧t ≤ 1 + 19 * j
theorem Setup.tap {H:AHeap}{row:List Int}{all:Int}{t mk nw:Nat}{cs:List Nat}{ws:List (Fin 4 × Nat)}{rows:List (List Lit)} (P:Setup H row all t mk nw cs ws rows) (t':Nat):Setup (H.set 0 (keg row all t')) row all t' mk nw cs ws rows:=by
 obtain ⟨A,fr,h1,h2⟩:=P
 exact ⟨A.tap t',fr,by rw [qA5 (by decide)]; exact h1,h2⟩
theorem qNM {row:List Lit}:iterE false ([]:AHeap) (rowAV row)=some (row.map lav,none):=rfl
theorem qLm:asc [(0,1,2),(1,3,3),(2,0,4)]:=by
 unfold asc
 decide +kernel
theorem qHY (d:Nat) {row:List Int}{all:Int}{j:Nat}{ρ:Rho}{H:AHeap} (hI:cI row all j ρ H) (hj:j < 3) (x:AV) :
  ∃ ρ' H',evSs (evS PP (callF PP (d + 8)) 19) qBf (upd 35 x ρ) H=some (.next,ρ',H')∧cI row all (j + 1) ρ' H':=by
 revert hI hj
 revert d row all j ρ H x
 intros d row all j ρ H x
 intro hI hj
 (obtain ⟨hb,l100,H_⟩:=hI; injection H_ with t mk nw cs ws rows; clear H_; rintro ⟨P,hrl,ht⟩)
 obtain ⟨l97,l79,l83,l98⟩:=hb
 have h0:=qAB P.A.k
 (injection (qAk (d + 7) 4 P.A.k (by lia) (by decide)) with v; rintro ⟨hv,e1⟩)
 have e1':callF PP (d + 8) 31 [.ref 0,.int 4] H=some (.int v,H.set 0 (keg row all (t + 1))):=e1
 have hrg:∀ H,biAV .range false [.int (3 + (v:Int))] H=some (.rng 0 (3 + v),H):=fun H=>qCY (by lia)
 have hxl:(qAF 0 (3 + (v:Int))).length=3 + v:=by
  unfold qAF; rw [List.length_map,List.length_range]; lia
 (injection (qFM (row:=row) (all:=all) (d + 6) 35 h0 (H0:=H.set 0 (keg row all (t + 1))) (qAF 0 (3 + (v:Int))) (t + 1) (upd 35 x ρ) (by rw [qA2]; simpa using l97) (by rw [hxl]; lia)) with ls; rintro ⟨k1,k2,k3⟩)
 rw [hxl] at k1 k3
 have P2:=P.tap (t + 1 + 3 * (3 + v))
 generalize hH1:H.set 0 (keg row all (t + 1))=H1 at e1' k3
 generalize H.set 0 (keg row all (t + 1 + 3 * (3 + v)))=H2 at P2 k3
 obtain ⟨ms,m1,m2,m3,m4,m5⟩:=qIL (H:=H2) k2 (by lia)
 obtain ⟨ls2,q1,q2,q3,q4,q5⟩:∃ ls2:List Lit,asc ls2∧3 ≤ ls2.length∧ls2.length < 7∧(∀ l ∈ ls2,mid l) ∧
   evE PP (callF PP (d + 8)) 40 (.ite (.cmp .gt (.bi .len false [(.var 41)]) (.lit (.int 2))) (.var 41) (.lst false [(.tup [(.lit (.int 0)),(.lit (.str 8)),(.lit (.int 1))]),(.tup [(.lit (.int 1)),(.lit (.str 10)),(.lit (.int 2))]),(.tup [(.lit (.int 2)),(.lit (.str 7)),(.lit (.int 3))])])) (upd 41 (rowAV ms) (upd 35 x ρ)) H2=some (rowAV ls2,H2):=by
  have hl:∀ H,biAV .len false [rowAV ms] H=some (.int ms.length,H):=fun H=>by show some (AV.int ((ms.map lav).length:Int),H)=_; rw [List.length_map]
  by_cases h3:3 ≤ ms.length
  ·refine ⟨ms,m1,h3,m2,m3,?_⟩
   have:(2:Int) < ms.length:=by lia
   simp [qA2,hl,this]
  ·refine ⟨[(0,1,2),(1,3,3),(2,0,4)],qLm,by decide,by decide,by intros l; intro hl; simp only [List.mem_cons,List.not_mem_nil,or_false] at hl; rcases hl with rfl | rfl | rfl <;> exact ⟨by decide,by decide⟩,?_⟩
   have:¬ (2:Int) < ms.length:=by lia
   simp [qA2,hl,this]
   rfl
 obtain ⟨H3,H6,cs',ws',s1,s2,s3,s4⟩:=qHX d P2 q1 q2 q3 q4 (by lia)
 have A2:=P2.A
 obtain ⟨H2a,eH⟩:∃ H2a,H2a=H2.set 12 (.list ((rows ++ [qAe ls2]).map rowAV)):=⟨_,rfl⟩
 rw [← eH] at s1
 have n7:H2a[7]?=some (.ns bkF):=by rw [eH,qA5 (by decide)]; exact A2.B.ns
 have ap:qAr 12 0 [rowAV (qAe ls2)] H2=some (.none,H2a):=by
  rw [qBv A2.R (by rw [List.length_map]; lia),eH]; simp
 have f1:=qCh (H:=H2) (src:=none) (d:=d + 6) (n:=31) (Ds:=D0) rfl (b:=false) (hist:=[qAH D0]) rfl ls2 (upd 41 (rowAV ls2) (upd 41 (rowAV ms) (upd 35 x ρ))) (by rw [qA2,qA2,qA2]; simpa using l100)
 have f2:=qCh (H:=H2) (src:=none) (d:=d + 6) (n:=31) (Ds:=D0) rfl (b:=true) (hist:=[qAH D0]) rfl ls2 (upd 41 (rowAV ls2) (upd 41 (rowAV ms) (upd 35 x ρ))) (by rw [qA2,qA2,qA2]; simpa using l100)
 simp only [Bool.false_eq_true,if_false,if_true] at f1 f2
 have cat:binAV .add (.lst ((ls2.filter fun l=>isF D0 l == false).map lav)) (.lst ((ls2.filter fun l=>isF D0 l == true).map lav))=some (rowAV (qAe ls2)):=by
  rw [qG2 (by
   have:=List.length_filter_le (fun l=>isF D0 l == false) ls2
   have:=List.length_filter_le (fun l=>isF D0 l == true) ls2
   rw [List.length_map,List.length_map]; lia)]
  unfold rowAV qAe
  rw [List.map_append]
  have z1:(fun l:Lit=>isF D0 l == false)=fun l=>!isF D0 l:=by funext l; cases isF D0 l <;> rfl
  have z2:(fun l:Lit=>isF D0 l == true)=isF D0:=by funext l; cases isF D0 l <;> rfl
  rw [z1,z2]
 have itr:∀ H,iterE false H (rowAV ls2)=some (ls2.map lav,none):=fun H=>rfl
 have mt1:mtOf PP 0 49=some 12:=rfl
 have mt2:mtOf PP 0 86=some 9:=rfl
 have na:qAj 7 49 H2a=true:=qAh n7 rfl
 have na2:qAj 7 86 H2a=true:=qAh n7 rfl
 have st2:evSs (evS PP (callF PP (d + 8)) 19) qBf (upd 35 x ρ) H=some (.next,upd 41 (rowAV ls2) (upd 41 (rowAV ms) (upd 35 x ρ)),H6):=by
  have b1:evE PP (callF PP (d + 8)) 40 (.bi .sorted false [(.bi .set false [(.comp false false (.callF 32 [(.var 97)]) (.name 75) (.bi .range false [(.bin .add false (.lit (.int 3)) (.callF 31 [(.var 97),(.lit (.int 4))]))]) [])])]) (upd 35 x ρ) H=some (rowAV ms,H2):=by
   simp [qA2,l97,e1',hrg,k3,m4,m5]
  have b3:evE PP (callF PP (d + 8)) 40 (.callM (.var 98) 0 [(.bin .add false (.comp false false (.var 44) (.name 44) (.var 41) [(.not (.callF 35 [(.var 44),(.sub (.var 100) (.lit (.int 0)))]))]) (.comp false false (.var 44) (.name 44) (.var 41) [(.callF 35 [(.var 44),(.sub (.var 100) (.lit (.int 0)))])]))]) (upd 41 (rowAV ls2) (upd 41 (rowAV ms) (upd 35 x ρ))) H2=some (.none,H2a):=by
   simp [-beq_false,-beq_true,qA2,l98,qBK A2.R,itr,f1,f2,cat,ap]
  have b4:evE PP (callF PP (d + 8)) 40 (.callM (.var 83) 49 [(.var 79),(.callM (.var 83) 86 [(.var 41)])]) (upd 41 (rowAV ls2) (upd 41 (rowAV ms) (upd 35 x ρ))) H2a=some (.none,H6):=by
   simp [qA2,l83,l79,mt1,mt2,na,na2,s1,s3]
  rw [show qBf=[(.asg (.name 41) (.bi .sorted false [(.bi .set false [(.comp false false (.callF 32 [(.var 97)]) (.name 75) (.bi .range false [(.bin .add false (.lit (.int 3)) (.callF 31 [(.var 97),(.lit (.int 4))]))]) [])])])),_,_,_] from rfl]
  simp only [qE4,qJB,s_asg,qNA,b1,q5,b3,b4,qBs,qHe,qD6,qCZ]
 refine ⟨_,H6,st2,⟨?_,?_,_,mk,nw,cs',ws',_,s4,by simp [hrl],by lia⟩⟩
 ·refine ⟨?_,?_,?_,?_⟩
  all_goals (rw [qA2,qA2,qA2]; simp only [reduceIte,Nat.reduceEqDiff]; assumption)
 ·rw [qA2,qA2,qA2]; simp only [reduceIte,Nat.reduceEqDiff]; exact l100
end Mine.Internal.L
end
section
open PySem PySem.W PyProof.Rows
namespace Mine.Internal.L
noncomputable def dI (row:List Int) (all:Int) (T M:Nat) (ρ:Rho) (H:AHeap):Prop :=
 base ρ∧∃ t mk nw nn cs ws rows tr,ρ.lookup 100=some (.lst ((hist tr).map qAH))∧All H row all t mk nw (state tr) tr nn cs ws rows∧Valid tr∧1 ≤ rows.length∧t ≤ T∧nn ≤ M∧tr.length ≤ M
theorem qGd {tr:List TrE}{H:AHeap}:subAV (.lst ((hist tr).map qAH)) (.int (-1)) H=some (qAH (state tr)):=by
 rw [qDH,qLV (k:=tr.length) (by rw [List.length_map,qD0]; lia) (by rw [List.length_map,qD0]; lia)]
 simp [qK6]
section
variable {row:List Int}{all:Int}{T M:Nat}{ρ:Rho}{H:AHeap}
theorem qLc (d:Nat) (h:dI row all T M ρ H) (hT:T + 2 ≤ 600):∃ ρ' H',evS PP (callF PP (d + 8)) 19 (.ife (.not (.callF 38 [(.var 97),(.var 79),(.var 83),(.var 98),(.sub (.var 100) (.neg (.lit (.int 1))))])) [(.ret (some (.lit (.bool false))))] []) ρ H=some (.next,ρ',H')∧dI row all (T + 2) M ρ' H':=by
 revert h hT
 revert row all T M ρ H d
 intros row all T M ρ H d
 intro h hT
 (obtain ⟨⟨l97,l79,l83,l98⟩,H_⟩:=h; injection H_ with t mk nw nn cs ws rows tr; clear H_; rintro ⟨l100,A,V,h1,h2,h3,h4⟩)
 (injection (qDt d A h1 (by lia)) with H' ws' rows'; rintro ⟨e,A',hl⟩)
 refine ⟨ρ,H',?_,⟨l97,l79,l83,l98⟩,_,mk,nw,nn,cs,ws',rows',tr,l100,A',V,by lia,by lia,h3,h4⟩
 simp [-qDH,l97,l79,l83,l98,l100,qGd,e]
noncomputable def popB:List CS:=[(.asg (.name 70) (.callF 31 [(.var 97),(.bi .len false [(.var 100)])])),
   (.asg (.name 100) (.slice false (.var 100) none (some (.bin .sub false (.bi .len false [(.var 100)]) (.var 70))))),
   (.expr (.callM (.var 79) 1 [(.var 70)]))]
theorem pop0 (d:Nat):callF PP (d + 1) 28 [.inst 1 1,.int 0] H=some (.none,H):=by
 revert H d
 intros H d
 refine qB5 (fn:=fn28) (fl:=.ret .none) rfl rfl rfl ?_
 simp [fn28,List.lookup]
theorem qJV (d:Nat) (h:dI row all T M ρ H) (hT:T + 1 ≤ 600) (hM:M < 100):∃ ρ' H',evSs (evS PP (callF PP (d + 8)) 18) popB ρ H=some (.next,ρ',H')∧dI row all (T + 1) M ρ' H':=by
 revert h hT hM
 revert row all T M ρ H d
 intros row all T M ρ H d
 intro h hT hM
 (obtain ⟨⟨l97,l79,l83,l98⟩,H_⟩:=h; injection H_ with t mk nw nn cs ws rows tr; clear H_; rintro ⟨l100,A,V,h1,h2,h3,h4⟩)
 (injection (qAk (d + 7) (tr.length + 1) A.k (by lia) (by lia)) with m; rintro ⟨hm,e1⟩)
 have e1':callF PP (d + 8) 31 [.ref 0,.int ((tr.length + 1:Nat):Int)] H=some (.int m,H.set 0 (keg row all (t + 1))):=e1
 have A1:=A.tap (t + 1)
 generalize H.set 0 (keg row all (t + 1))=H1 at e1' A1
 have hln:∀ H,biAV .len false [.lst ((hist tr).map qAH)] H=some (.int ((tr.length + 1:Nat):Int),H):=fun H=>by rw [qJu,List.length_map,qD0]
 (injection (⟨tr.take (tr.length - m),tr.drop (tr.length - m),(List.take_append_drop ..).symm,by rw [List.length_drop]; lia,by rw [List.length_take]; lia⟩:∃ keep es,tr=keep ++ es∧es.length=m∧keep.length + m=tr.length) with keep es; rintro ⟨rfl,hes,hk⟩)
 have hcl:clamp ((keep ++ es).length + 1) ((((keep ++ es).length + 1:Nat):Int) - m)=keep.length + 1:=by
  exact qE0 (by lia) (by lia)
 have hsl:qAb ((hist (keep ++ es)).map qAH) none (some ((((keep ++ es).length + 1:Nat):Int) - m))=(hist keep).map qAH:=by
  simp only [qAb,List.length_map,qD0,hcl,List.drop_zero]
  rw [← List.map_take,qK4]
 have hsm:small ((((keep ++ es).length + 1:Nat):Int) - m)=true:=by simp only [small,decide_eq_true_eq]; lia
 have mt:mtOf PP 1 1=some 28:=rfl
 have na:qAj 1 1 H1=true:=qAh A1.S.ns rfl
 have fin:∀ H',callF PP (d + 8) 28 [.inst 1 1,.int m] H1=some (.none,H')→(∃ mk nw,All H' row all (t + 1) mk nw (state keep) keep nn cs ws rows)→Valid keep→∃ ρ' H',evSs (evS PP (callF PP (d + 8)) 18) popB ρ H=some (.next,ρ',H')∧dI row all (T + 1) M ρ' H':=by
  rintro H' hc ⟨mk',nw',A'⟩ hv
  refine ⟨upd 100 (.lst ((hist keep).map qAH)) (upd 70 (.int m) ρ),H',?_,⟨?_,?_,?_,?_⟩,t + 1,mk',nw',nn,cs,ws,rows,keep,?_,A',hv,h1,by lia,h3,by lia⟩
  ·simp [-qJu,-List.length_append,-Int.natCast_add,popB,qA2,l97,l79,l100,hln,e1',hsm,hsl,mt,na,hc]
  all_goals (rw [qA2,qA2]; simp only [reduceIte,Nat.reduceEqDiff])
  all_goals assumption
 by_cases h0:m=0
 ·subst h0
  rw [List.length_eq_zero_iff] at hes
  subst hes
  rw [List.append_nil] at A1 V
  exact fin H1 (pop0 (d + 7)) ⟨mk,nw,A1⟩ V
 ·obtain ⟨H',mk',nw',c,A'⟩:=A1.pop (d + 7) V (by lia) (by lia)
  rw [hes] at c
  exact fin H' c ⟨mk',nw',A'⟩ (Valid.pre _ es rfl V).1
noncomputable def litE:CE:=.ite (.cmp .eq (.var 90) (.lit (.int 0))) (.callF 32 [(.var 97)]) (.callF 34 [(.sub (.sub (.var 98) (.callF 31 [(.var 97),(.bi .len false [(.var 98)])])) (.callF 31 [(.var 97),(.lit (.int 2))]))])
theorem qJp (d:Nat) {t mk nw nn way:Nat}{cs ws rows tr} (hb:base ρ) (h90:ρ.lookup 90=some (.int way)) (A:All H row all t mk nw (state tr) tr nn cs ws rows) (h1:1 ≤ rows.length) (ht:t + 3 ≤ 600) :
  ∃ (l:Lit) (t':Nat),t' ≤ t + 3∧evE PP (callF PP (d + 8)) 40 litE ρ H=some (lav l,H.set 0 (keg row all t')):=by
 revert hb h90 A h1 ht
 revert row all ρ H d t mk nw nn way cs ws rows tr
 intros row all ρ H d t mk nw nn way cs ws rows tr
 intro hb h90 A h1 ht
 obtain ⟨l97,l79,l83,l98⟩:=hb
 by_cases hw:way=0
 ·subst hw
  (injection (qFG (d + 6) A.k (by lia)) with l; rintro ⟨_,e⟩)
  have e':callF PP (d + 8) 32 [.ref 0] H=_:=e
  exact ⟨l,t + 3,Nat.le_refl _,by simp [litE,h90,l97,e']⟩
 ·(injection (qAk (d + 7) rows.length A.k (by lia) (by lia)) with n; rintro ⟨hn,e1⟩)
  have e1':callF PP (d + 8) 31 [.ref 0,.int rows.length] H=_:=e1
  have A1:=A.tap (t + 1)
  have ss:=set_set H 0 (keg row all (t + 1))
  generalize H.set 0 (keg row all (t + 1))=H1 at e1' A1 ss
  obtain ⟨s,hs,e2⟩:=qAk (d + 7) 2 A1.k (by lia) (by decide)
  rw [ss] at e2
  have e2':callF PP (d + 8) 31 [.ref 0,.int 2] H1=_:=e2
  (injection (⟨_,List.getElem?_eq_getElem (by lia)⟩:∃ r,rows[n]?=some r) with r; intro hr)
  have hrm:=List.mem_of_getElem? hr
  have r3:=A.r3 r hrm
  obtain ⟨l,hl⟩:∃ l,r[s]?=some l:=⟨_,List.getElem?_eq_getElem (by lia)⟩
  have s12:subAV (.ref 12) (.int (n:Int)) H1=some (rowAV r):=by
   rw [qAx A1.R,idx_at rfl (by rw [List.length_map]; lia)]
   simp [hr]
  have sr:∀ H,subAV (rowAV r) (.int (s:Int)) H=some (lav l):=fun H=>qDM hl
  have hln:biAV .len false [.ref 12] H=some (.int rows.length,H):=by rw [qBS A.R,List.length_map]
  have cs:=fun H=>qIp (H:=H) (d + 7) (A.lm r hrm l (List.mem_of_getElem? hl))
  refine ⟨negL l,t + 1 + 1,by lia,?_⟩
  simp [litE,h90,hw,l97,l98,hln,e1',s12,e2',sr,cs]
theorem qLM {Ds:List Dm}{x:Nat}{S:Dm} (hx:x < Ds.length):(Ds.map lot).take x ++ [lot S] ++ (Ds.map lot).drop (x + 1)=(Ds.set x S).map lot:=by
 rw [List.map_set,List.set_eq_take_append_cons_drop,if_pos (by simpa using hx)]
 simp
noncomputable def elseB:List CS:=[(.asg (.name 77) (.sub (.var 100) (.neg (.lit (.int 1))))),
   (.asg (.name 20) litE),
   (.asg (.name 101) (.callF 33 [(.var 20),(.sub (.var 77) (.sub (.var 20) (.lit (.int 0))))])),
   (.ife (.band [(.cmp .ne (.var 101) (.lst false [])),(.cmp .ne (.var 101) (.sub (.var 77) (.sub (.var 20) (.lit (.int 0)))))]) [(.expr (.callM (.var 79) 84 [])),
    (.expr (.callM (.var 79) 94 [(.var 20)])),
    (.asg (.name 100) (.bin .add false (.var 100) (.lst false [(.bin .add false (.bin .add false (.slice false (.var 77) none (some (.sub (.var 20) (.lit (.int 0))))) (.lst false [(.var 101)])) (.slice false (.var 77) (some (.bin .add false (.sub (.var 20) (.lit (.int 0))) (.lit (.int 1)))) none))])))] [])]
theorem qIm (d:Nat) {way:Nat} (h90:ρ.lookup 90=some (.int way)) (h:dI row all T M ρ H) (hT:T + 3 ≤ 600) (hM:M < 100):∃ ρ' H',evSs (evS PP (callF PP (d + 8)) 18) elseB ρ H=some (.next,ρ',H')∧dI row all (T + 3) (M + 1) ρ' H':=by
 revert h90 h hT hM
 revert row all T M ρ H d way
 intros row all T M ρ H d way
 intro h90 h hT hM
 (obtain ⟨hb,H_⟩:=h; injection H_ with t mk nw nn cs ws rows tr; clear H_; rintro ⟨l100,A,V,h1,h2,h3,h4⟩)
 have hb1:base (upd 77 (qAH (state tr)) ρ):=hb.upd (by decide) (by decide) (by decide) (by decide)
 (injection (qJp d hb1 (by rw [qA2]; simpa using h90) A h1 (by lia)) with l t'; rintro ⟨ht',e1⟩)
 obtain ⟨l97,l79,l83,l98⟩:=hb
 have A1:=A.tap t'
 generalize H.set 0 (keg row all t')=H1 at e1 A1
 (injection (at_of (qAm tr) l.1) with S; intro hS)
 have hx:l.1.val < (state tr).length:=by rw [qAm]; exact l.1.isLt
 have sl:∀ H,subAV (qAH (state tr)) (.int (l.1.val:Int)) H=some (lot S):=by
  intros H
  show (idx ((state tr).map lot).length _).bind _=_
  rw [idx_at rfl (by rw [List.length_map]; exact hx)]
  simp [hS]
 have lf:=fun H=>qGV (H:=H) (d + 7) l S
 have hbk:∀ H,subAV (.lst ((hist tr).map qAH)) (.int (-1)) H=some (qAH (state tr)):=fun H=>qGd
 by_cases hc:cut l S ≠ 0∧cut l S ≠ S
 ·obtain ⟨H2,H3,c1,na,c2,A3,V3⟩:=A1.dec (d + 2) V hS hc.1 hc.2 (by lia) (by lia)
  have c1':callF PP (d + 8) 27 [.inst 1 1] H1=some (.none,H2):=c1
  have c2':callF PP (d + 8) 25 [.inst 1 1,lav l] H2=some (.bool true,H3):=c2
  have mt1:mtOf PP 1 84=some 27:=rfl
  have mt2:mtOf PP 1 94=some 25:=rfl
  have na1:qAj 1 84 H1=true:=qAh A1.S.ns rfl
  have li:∀ H,qAI H (qAH (state tr))=some ((state tr).map lot):=fun H=>rfl
  have sm1:small (l.1.val:Int)=true:=by simp only [small,decide_eq_true_eq]; lia
  have sm2:small ((l.1.val:Int) + 1)=true:=by simp only [small,decide_eq_true_eq]; lia
  have cl1:clamp 4 (l.1.val:Int)=l.1.val:=qE0 rfl (Nat.le_of_lt l.1.isLt)
  have cl2:clamp 4 ((l.1.val:Int) + 1)=l.1.val + 1:=qE0 rfl l.1.isLt
  have s1:qAb ((state tr).map lot) none (some (l.1.val:Int))=((state tr).map lot).take l.1.val:=by
   simp only [qAb,List.length_map,qAm,cl1,List.drop_zero]
  have s2:qAb ((state tr).map lot) (some ((l.1.val:Int) + 1)) none=((state tr).map lot).drop (l.1.val + 1):=by
   simp only [qAb,List.length_map,qAm,cl2]
   rw [List.take_of_length_le (by rw [List.length_map,qAm]; lia)]
  have b1:binAV .add (.lst (((state tr).map lot).take l.1.val)) (.lst [lot (cut l S)])=some (.lst (((state tr).map lot).take l.1.val ++ [lot (cut l S)])) :=
   qG2 (by have:=List.length_take_le l.1.val ((state tr).map lot); rw [List.length_singleton]; rw [List.length_take,List.length_map,qAm]; lia)
  have b2:binAV .add (.lst (((state tr).map lot).take l.1.val ++ [lot (cut l S)])) (.lst (((state tr).map lot).drop (l.1.val + 1)))=some (qAH (state (tr ++ [(l.1,S,l)]))):=by
   rw [qG2 (by rw [List.length_append,List.length_singleton,List.length_take,List.length_drop,List.length_map,qAm]; exact Nat.lt_of_le_of_lt (Nat.add_le_add (Nat.add_le_add_right (Nat.min_le_right _ _) 1) (Nat.sub_le _ _)) (by decide)),qLM hx,qCF]
   rfl
  have b3:binAV .add (.lst ((hist tr).map qAH)) (.lst [qAH (state (tr ++ [(l.1,S,l)]))])=some (.lst ((hist (tr ++ [(l.1,S,l)])).map qAH)):=by
   rw [qG2 (by rw [List.length_map,qD0,List.length_singleton]; lia),qK5,List.map_append]; rfl
  refine ⟨upd 100 (.lst ((hist (tr ++ [(l.1,S,l)])).map qAH)) (upd 101 (lot (cut l S)) (upd 20 (lav l) (upd 77 (qAH (state tr)) ρ))),H3,?_,⟨?_,?_,?_,?_⟩,t',mk,nw,nn + 1,cs,ws,rows,tr ++ [(l.1,S,l)],?_,A3,V3,h1,by lia,by lia,by rw [List.length_append,List.length_singleton]; lia⟩
  ·simp [-qDH,elseB,qA2,l97,l79,l100,hbk,e1,sl,lf,hc.1,hc.2,mt1,na1,c1',mt2,na,c2',li,sm1,sm2,s1,s2,b1,b2,b3]
  all_goals (rw [qA2,qA2,qA2,qA2]; simp only [reduceIte,Nat.reduceEqDiff])
  all_goals assumption
 ·refine ⟨upd 101 (lot (cut l S)) (upd 20 (lav l) (upd 77 (qAH (state tr)) ρ)),H1,?_,⟨?_,?_,?_,?_⟩,t',mk,nw,nn,cs,ws,rows,tr,?_,A1,V,h1,by lia,by lia,by lia⟩
  ·by_cases z:cut l S=0
   ·simp [-qDH,elseB,qA2,l97,l79,l100,hbk,e1,sl,lf,z]
   ·have z2:cut l S=S:=by
     by_cases q:cut l S=S
     ·exact q
     ·exact absurd ⟨z,q⟩ hc
    have z3:¬ S=0:=z2 ▸ z
    simp [-qDH,elseB,qA2,l97,l79,l100,hbk,e1,sl,lf,z2,z3]
  all_goals (rw [qA2,qA2,qA2]; simp only [reduceIte,Nat.reduceEqDiff])
  all_goals assumption
noncomputable def qDz:List CS:=[(.asg (.name 90) (.callF 31 [(.var 97),(.lit (.int 4))])),(.ife (.cmp .eq (.var 90) (.lit (.int 3))) popB elseB),
  (.ife (.not (.callF 38 [(.var 97),(.var 79),(.var 83),(.var 98),(.sub (.var 100) (.neg (.lit (.int 1))))])) [(.ret (some (.lit (.bool false))))] [])]
theorem qKO (d:Nat) (h:dI row all T M ρ H) (hT:T + 6 ≤ 600) (hM:M < 99) (x:AV):∃ ρ' H',evSs (evS PP (callF PP (d + 8)) 19) qDz (upd 75 x ρ) H=some (.next,ρ',H')∧dI row all (T + 6) (M + 1) ρ' H':=by
 revert h hT hM
 revert row all T M ρ H d x
 intros row all T M ρ H d x
 intro h hT hM
 (obtain ⟨hb,H_⟩:=h; injection H_ with t mk nw nn cs ws rows tr; clear H_; rintro ⟨l100,A,V,h1,h2,h3,h4⟩)
 (injection (qAk (d + 7) 4 A.k (by lia) (by decide)) with way; rintro ⟨hw,e1⟩)
 have e1':callF PP (d + 8) 31 [.ref 0,.int 4] H=some (.int way,H.set 0 (keg row all (t + 1))):=e1
 have A1:=A.tap (t + 1)
 generalize H.set 0 (keg row all (t + 1))=H1 at e1' A1
 have l97:=hb.1
 have hb1:base (upd 90 (.int way) (upd 75 x ρ)):=(hb.upd (by decide) (by decide) (by decide) (by decide)).upd (by decide) (by decide) (by decide) (by decide)
 have l90:(upd 90 (.int way) (upd 75 x ρ)).lookup 90=some (.int way):=by rw [qA2,if_pos rfl]
 have D1:dI row all (T + 1) M (upd 90 (.int way) (upd 75 x ρ)) H1:=⟨hb1,t + 1,mk,nw,nn,cs,ws,rows,tr,by rw [qA2,qA2]; simpa using l100,A1,V,h1,by lia,h3,h4⟩
 have mid:∃ ρ2 H2,evS PP (callF PP (d + 8)) 19 (.ife (.cmp .eq (.var 90) (.lit (.int 3))) popB elseB) (upd 90 (.int way) (upd 75 x ρ)) H1=some (.next,ρ2,H2)∧dI row all (T + 4) (M + 1) ρ2 H2:=by
  by_cases hc:way=3
  ·obtain ⟨ρ2,H2,e2,hb2,t2,mk2,nw2,nn2,cs2,ws2,rows2,tr2,z1,z2,z3,z4,z5,z6,z7⟩:=qJV d D1 (by lia) (by lia)
   refine ⟨ρ2,H2,?_,hb2,t2,mk2,nw2,nn2,cs2,ws2,rows2,tr2,z1,z2,z3,z4,by lia,by lia,by lia⟩
   have:(way:Int)=3:=by lia
   rw [s_ife,e_cmp,e_var,l90]
   simp only [Option.map_some,Option.bind_some,qBs,e_lit,qFw,qBr,this,decide_true,if_true]
   rw [← e2,this]
  ·obtain ⟨ρ2,H2,e2,D2⟩:=qIm d l90 D1 (by lia) (by lia)
   refine ⟨ρ2,H2,?_,D2⟩
   have:¬ (way:Int)=3:=by lia
   rw [s_ife,e_cmp,e_var,l90]
   simp only [Option.map_some,Option.bind_some,qBs,e_lit,qFw,qBr,this,decide_false,Bool.false_eq_true,if_false]
   exact e2
 obtain ⟨ρ2,H2,e2,D2⟩:=mid
 obtain ⟨ρ3,H3,e3,D3⟩:=qLc d D2 (by lia)
 refine ⟨ρ3,H3,?_,D3⟩
 unfold qDz
 rw [qE4,s_asg]
 have l97':(upd 75 x ρ).lookup 97=some (.ref 0):=by rw [qA2]; simpa using l97
 have es:evE PP (callF PP (d + 8)) 40 (.callF 31 [(.var 97),(.lit (.int 4))]) (upd 75 x ρ) H=some (.int way,H1):=by simp [l97',e1']
 rw [es]
 simp only [qBs,qHe,qD6,qCZ,qE4,qJB,e2,e3]
end
end Mine.Internal.L
end
section
open PySem PySem.W PyProof.Rows
namespace Mine.Internal.L
noncomputable def rowOf (is:List Int):List Int:=(is.take 60).map (· % 1000003)
theorem qHm {cf:qAQ}{H:AHeap}:∀ (is:List Int) (ρ:Rho),compLoop (evE PP cf 39) (.bin .mod false (.bi .int false [(.var 91)]) (.lit (.int 1000003))) (.name 91) [] H none (is.map .int) ρ H=some ((is.map (· % 1000003)).map .int,H)
 | [],ρ=>by rw [List.map_nil,qEe,qBP]; rfl
 | i :: is,ρ=>by
  have ih:=qHm (cf:=cf) (H:=H) is (upd 91 (.int i) ρ)
  have h1:biAV .int false [.int i] H=some (.int i,H):=rfl
  have h2:binAV .mod (.int i) (.int 1000003)=some (.int (i % 1000003)):=qEh (by decide)
  rw [List.map_cons,qCk,qBP,if_pos rfl]
  simp [qA2,h1,h2,ih]
theorem qHi:∀ is:List Int,∃ s,qCU (is.map .int)=some s
 | []=>⟨0,rfl⟩
 | i :: is=>by
  obtain ⟨s,h⟩:=qHi is
  exact ⟨i + s,by show (qCU (is.map .int)).map _=_; rw [h]; rfl⟩
noncomputable def st0:List (Nat × AV):=stF 5 6
noncomputable def heap0 (row:List Int) (all:Int) (n:Nat):AHeap:=[keg row all 0,.ns st0,.list (List.replicate n (dom 15)),.list (List.replicate n (dom 15)),.list [],.list [],.dictI [],.ns bkF,.list [],.list [],.list [],.dictI [],.list []]
noncomputable def rho0 (is:List Int) (row:List Int) (x:Option AV):Rho:=[(88,.lst (is.map .int)),(72,.lst (row.map .int)),(97,.ref 0),(79,.inst 1 1),(83,.inst 0 7),(100,.lst [qAH D0]),(98,.ref 12)] ++ (match x with | some v=>[(21,v)] | none=>[])
theorem qIf (d:Nat) (k:AObj):callF PP (d + 1) 18 [.inst 1 1] [k,.ns []]=some (.none,[k,.ns st0,.list [],.list [],.list [],.list [],.dictI []]):=by kernel_rfl
theorem qK3 (d:Nat) (k:AObj):callF PP (d + 1) 8 [.inst 0 7] [k,.ns st0,.list [],.list [],.list [],.list [],.dictI [],.ns []]=some (.none,[k,.ns st0,.list [],.list [],.list [],.list [],.dictI [],.ns bkF,.list [],.list [],.list [],.dictI []]):=by kernel_rfl
theorem qLH (d:Nat) (is row:List Int) (all:Int):forLoop (evSs (evS PP (callF PP (d + 1)) 19) [(.expr (.callM (.var 79) 92 [(.tup [(.tup [(.lit (.int 0)),(.lit (.int 3))])])]))]) (.name 21) (heap0 row all 0) none [.int 0,.int 1,.int 2,.int 3] (rho0 is row none) (heap0 row all 0)=some (.next,rho0 is row (some (.int 3)),heap0 row all 4):=by kernel_rfl
theorem hist0 {cf:qAQ}{H:AHeap}{n:Nat} (ρ:Rho):compLoop (evE PP cf (n + 2)) (.lst false [(.lit (.int 0)),(.lit (.int 1)),(.lit (.int 2)),(.lit (.int 3))]) (.name 21) [] H none [.int 0,.int 1,.int 2,.int 3] ρ H=some (D0.map lot,H):=by
 revert cf H n ρ
 intros cf H n ρ
 have e:lot 15=.lst [.int 0,.int 1,.int 2,.int 3]:=rfl
 simp [qCk,qEe,D0,e]
theorem qN7 (row:List Int) (all:Int):Setup (heap0 row all 4) row all 0 5 6 [] [] []:=by
 refine ⟨⟨rfl,⟨rfl,rfl,rfl,rfl,rfl,rfl,⟨[],rfl,by simp⟩,by decide,by decide⟩,D0_nz,⟨rfl,rfl,rfl,by simp,⟨rfl,by simp,fun x _ n q=>?_,by simp,by simp,by simp⟩,by simp,by simp,by simp⟩,rfl,by simp,by simp,by simp [heap0],by simp,by simp,by simp⟩,[],rfl,by simp⟩
 obtain ⟨r,e,_⟩:=q
 simp at e
theorem qNO (d:Nat) (is:List Int) (hn:is.length ≤ 63):∃ H',callF PP (d + 9) 39 [.lst (is.map .int)] []=some (.bool true,H'):=by
 revert hn
 revert d is
 intros d is
 intro hn
 (injection (qHi (rowOf is)) with s; intro hs)
 (injection (⟨_,rfl⟩:∃ all,all=s % 997) with all; intro hall)
 have c0:clamp is.length 60=min 60 is.length:=qI9 (by decide)
 have sl:qAb (is.map AV.int) none (some 60)=(is.take 60).map .int:=by
  simp only [qAb,List.length_map,c0,List.drop_zero]
  rw [← List.map_take]
  congr 1
  rw [Nat.min_comm,List.take_eq_take_iff,Nat.min_comm (min _ 60),← Nat.min_assoc,Nat.min_self,Nat.min_comm]
 have h1:evE PP (callF PP (d + 8)) 40 (.comp false false (.bin .mod false (.bi .int false [(.var 91)]) (.lit (.int 1000003))) (.name 91) (.slice false (.var 88) none (some (.lit (.int 60)))) []) [(88,.lst (is.map .int))] []=some (.lst ((rowOf is).map .int),[]):=by
  have sm:small 60=true:=rfl
  have rc:=qHm (cf:=callF PP (d + 8)) (H:=[]) (is.take 60) [(88,.lst (is.map .int))]
  simp [-List.map_map,-List.map_take,List.lookup,sm,sl,rc,rowOf]
 generalize hrow:rowOf is=row at hs h1
 have h2:evE PP (callF PP (d + 8)) 40 (.tup [(.dct [(.lit (.str 71)),(.lit (.str 72)),(.lit (.str 73))] [(.lit (.int 0)),(.var 72),(.bin .mod false (.bi .sum false [(.var 72)]) (.lit (.int 997)))]),(.new 1),(.new 0)]) [(88,.lst (is.map .int)),(72,.lst (row.map .int))] [] =
   some (.tup [.ref 0,.inst 1 1,.inst 0 7],[keg row all 0,.ns st0,.list [],.list [],.list [],.list [],.dictI [],.ns bkF,.list [],.list [],.list [],.dictI []]):=by
  have sm:biAV .sum false [.lst (row.map .int)] []=some (.int s,[]):=by
   show (qCU (row.map .int)).map _=_
   rw [hs]; rfl
  have md:binAV .mod (.int s) (.int 997)=some (.int all):=by rw [qEh (by decide),hall]
  have dk:qBI [(.str 71,.int 0),(.str 72,.lst (row.map .int)),(.str 73,.int all)]=some [(71,.int 0),(72,.lst (row.map .int)),(73,.int all)]:=rfl
  have mt1:mtOf PP 1 6=some 18:=rfl
  have mt2:mtOf PP 0 6=some 8:=rfl
  have kg:AObj.dictS [(71,.int 0),(72,.lst (row.map .int)),(73,.int all)]=keg row all 0:=rfl
  simp [List.lookup,sm,md,dk,mt1,mt2,kg,qIf,qK3]
 have h3:evE PP (callF PP (d + 8)) 40 (.tup [(.lst false [(.comp false false (.lst false [(.lit (.int 0)),(.lit (.int 1)),(.lit (.int 2)),(.lit (.int 3))]) (.name 21) (.bi .range false [(.lit (.int 4))]) [])]),(.lst true [])]) [(88,.lst (is.map .int)),(72,.lst (row.map .int)),(97,.ref 0),(79,.inst 1 1),(83,.inst 0 7)] [keg row all 0,.ns st0,.list [],.list [],.list [],.list [],.dictI [],.ns bkF,.list [],.list [],.list [],.dictI []] =
   some (.tup [.lst [qAH D0],.ref 12],heap0 row all 0):=by
  have hr:∀ H,biAV .range false [.int 4] H=some (.rng 0 4,H):=fun H=>qCY (by decide)
  have hra:qAF 0 4=[.int 0,.int 1,.int 2,.int 3]:=rfl
  simp [hr,hra,hist0]
  exact ⟨rfl,rfl⟩
 have h4:=qLH (d + 7) is row all
 have hr4:∀ H,biAV .range false [.int 4] H=some (.rng 0 4,H):=fun H=>qCY (by decide)
 have hra4:qAF 0 4=[.int 0,.int 1,.int 2,.int 3]:=rfl
 have P0:=qN7 row all
 obtain ⟨v,hv,e5⟩:=qAk (d + 7) 3 P0.A.k (by decide) (by decide)
 have e5':callF PP (d + 8) 31 [.ref 0,.int 3] (heap0 row all 4)=some (.int v,(heap0 row all 4).set 0 (keg row all (0 + 1))):=e5
 have P1:=P0.tap (0 + 1)
 generalize (heap0 row all 4).set 0 (keg row all (0 + 1))=H1 at e5' P1
 have I1:cI row all 0 (rho0 is row (some (.int 3))) H1:=⟨⟨rfl,rfl,rfl,rfl⟩,rfl,0 + 1,5,6,[],[],[],P1,rfl,by decide⟩
 have hr5:∀ H,biAV .range false [.int (1 + (v:Int))] H=some (.rng 0 (1 + v),H):=fun H=>qCY (by lia)
 have hl5:(qAF 0 (1 + (v:Int))).length=1 + v:=by unfold qAF; rw [List.length_map,List.length_range]; lia
 generalize hx5:qAF 0 (1 + (v:Int))=xs5 at hl5
 obtain ⟨ρ2,H2,e6,I2⟩:=qFp (I:=cI row all) (body:=evSs (evS PP (callF PP (d + 8)) 19) qBf) (t:=35) (H0:=H1) xs5 0 (fun x hx j ρ H hj hI=>qHY d hI (by lia) x) _ _ I1
 obtain ⟨⟨l97,l79,l83,l98⟩,l100,t,mk,nw,cs,ws,rows,P2,hrl,ht⟩:=I2
 have aw:=qB8 (d + 7) P2.A.B P2.A.R P2.A.rn fun q hq=>by have:=P2.A.r3 q hq; lia
 have aw':callF PP (d + 8) 37 [.inst 0 7,.ref 12] H2=some (.bool true,H2):=aw
 obtain ⟨u,hu,e7⟩:=qAk (d + 7) 4 P2.A.k (by lia) (by decide)
 have e7':callF PP (d + 8) 31 [.ref 0,.int 4] H2=some (.int u,H2.set 0 (keg row all (t + 1))):=e7
 have A3:=P2.A.tap (t + 1)
 generalize H2.set 0 (keg row all (t + 1))=H3 at e7' A3
 have hr7:∀ H,biAV .range false [.int (5 + (u:Int))] H=some (.rng 0 (5 + u),H):=fun H=>qCY (by lia)
 have hl7:(qAF 0 (5 + (u:Int))).length=5 + u:=by unfold qAF; rw [List.length_map,List.length_range]; lia
 generalize hx7:qAF 0 (5 + (u:Int))=xs7 at hl7
 have I3:dI row all (60 + 6 * 0) 0 ρ2 H3:=⟨⟨l97,l79,l83,l98⟩,t + 1,mk,nw,0,cs,ws,rows,[],l100,A3,.nil,by lia,by lia,by lia,by simp⟩
 obtain ⟨ρ4,H4,e8,I4⟩:=qFp (I:=fun j=>dI row all (60 + 6 * j) j) (body:=evSs (evS PP (callF PP (d + 8)) 19) qDz) (t:=75) (H0:=H3) xs7 0 (fun x hx j ρ H hj hI=>qKO d hI (by lia) (by lia) x) _ _ I3
 refine ⟨H4,?_⟩
 refine qB5 (fn:=fn39) (fl:=.ret (.bool true)) rfl rfl rfl ?_
 unfold qBf at e6
 unfold qDz popB elseB litE at e8
 have hu1:upd 72 (.lst (row.map .int)) [(88,.lst (is.map .int))]=[(88,AV.lst (is.map .int)),(72,.lst (row.map .int))]:=rfl
 have hu2:upd 83 (.inst 0 7) (upd 79 (.inst 1 1) (upd 97 (.ref 0) [(88,AV.lst (is.map .int)),(72,.lst (row.map .int))]))=[(88,.lst (is.map .int)),(72,.lst (row.map .int)),(97,.ref 0),(79,.inst 1 1),(83,.inst 0 7)]:=rfl
 have hu3:upd 98 (.ref 12) (upd 100 (.lst [qAH D0]) [(88,.lst (is.map .int)),(72,.lst (row.map .int)),(97,.ref 0),(79,.inst 1 1),(83,.inst 0 7)])=rho0 is row none:=rfl
 have r97:(rho0 is row (some (.int 3))).lookup 97=some (.ref 0):=rfl
 simp only [fn39,qE4,qJB,s_asg,h1,qBs,qHe,qNa,qMs,qNf,qNg,qD6,qCZ,hu1,h2,hu2,h3,hu3,s_for,e_bi,qKF,qM8,e_lit,hr4,qNP,hra4,h4,
  e_bin,qKL,e_var,r97,Option.map_some,Option.bind_some,e5',qMq,qN2,hr5,hx5,e6,s_ife,e_not,l83,l98,aw',qBr,Bool.not_true,Bool.false_eq_true,if_false,l97,e7',hr7,hx7,e8,s_ret,qEy,qGN]
end Mine.Internal.L
end
theorem PySem.Challenge.cw_pc0041_02_holds : PySem.Challenge.rw_pc0041_02.Holds :=
  Mine.Internal.seal2 fun is h => Mine.Internal.L.qNO 3 is h
