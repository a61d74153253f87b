/- An abstract machine: values, operations and code of a part of the model's language, with an evaluator that is a plain function. -/
import Derived.Control
import GoSem.Core.Utf8
import Derived.KernelRfl
import Derived.Laws.Cells
import Derived.LaidEql
import Derived.Lib.Strings
import Derived.ChangeKeysEq
import Derived.Lib.Builder
import Derived.Laws.BytesString
set_option linter.unusedSimpArgs false
set_option linter.unusedVariables false
set_option linter.unusedSectionVars false
namespace Go.Ev
open Go
inductive Cap where
 | known (c:Nat)
 | full
 | unk
 deriving DecidableEq
inductive AV where
 | bot
 | bool (b:Bool)
 | int (k:IntKind) (n:Int)
 | str (s:List UInt8)
 | ptr (n off:Nat)
 | J8
 | slice (n off len:Nat) (cap:Cap)
 | Zc
 | map (n:Nat)
 | Vi
 | fn (f:Nat) (first captured:List AV)
 | yield (l:Nat)
 | Jx
 | iface (t:Nat) (v:AV)
 | K6
 | agg (cells:List AV)
 | tuple (vs:List AV)
 deriving Inhabited
abbrev Env:=List (Nat×AV)
def Zl:Env→Nat→AV
 | [],_=> .bot
 | (m,v)::e,t=>if m=t then v else Zl e t
def R5 (e:Env) (t:Nat) (v:AV):Env:=(t,v)::e
inductive AO where
 | t (n:Nat)
 | k (v:AV)
 deriving Inhabited
def AO.ev (e:Env):AO→AV
 | .t n=>Zl e n
 | .k v=>v
inductive Kd where
 | b
 | i (k:IntKind)
 | s
 deriving DecidableEq
inductive PO where
 | Za (x:AO)
 | pick (c a b:AO)
 | bin (op:BinOp) (x y:AO)
 | un (op:UnOp) (x:AO)
 | conv (k:IntKind) (x:AO)
 | Pz (f:Nat) (first captured:List AO)
 | build (zero:List AV) (parts:List (Nat×Nat×AO))
 | Zi (off:Nat) (x:AO)
 | field (off:Nat) (sz:Option Nat) (x:AO)
 | Nq (len es:Nat) (x i:AO)
 | Zu (es:Nat) (x i:AO)
 | Zhv (len es:Nat) (sz:Option Nat) (x i:AO)
 | J7 (x i:AO)
 | B5 (x:AO) (lo hi:Option AO)
 | Zia (es:Nat) (x:AO) (lo hi mx:Option AO)
 | Zmf (n es:Nat) (x:AO) (lo hi mx:Option AO)
 | Zq (i:Nat) (x:AO)
 | lenOf (str:Bool) (x:AO)
 | capOf (x:AO)
 | Bl (mx:Bool) (xs:List AO)
 | Xd (x:AO)
 | iface (t:Nat) (x:AO)
 | Zmw (v:AV)
 | same (x:AO)
 | Zc2 (x:AO)
 | r2s (x:AO)
 | eqA (neg:Bool) (ks:List Kd) (x y:AO)
 | eqB (neg:Bool) (x y:AO)
 | eqN (neg:Bool) (k:Nat) (x y:AO)
 | stuck
inductive RO where
 | load (sz:Option Nat) (x:AO)
 | b2s (x:AO)
 | lookup (kk:Kd) (zero:AV) (ok:Bool) (m k:AO)
 | Ztt (m:AO)
 | toU (x:AO)
 | ofU (ty z:Nat) (x:AO)
 | Sa (g len es:Nat) (i:AO)
inductive NO where
 | alloc (ty:Nat) (loc:Bool) (zero:List AV)
 | box (ty:Nat) (loc:Bool) (x:AO)
 | Qe (ty:Nat) (len:Nat) (zero:List AV) (parts:List (Nat×Nat×AO))
 | Zre (ty es bytes:Nat) (zero:List AV) (l c:AO)
 | mkMap
 | s2b (ty:Nat) (x:AO)
 | A3 (x:AO)
inductive WO where
 | store (sz:Nat) (a x:AO)
 | append (ty es bytes:Nat) (zero:List AV) (s x:AO)
 | copy (es:Nat) (d s:AO)
 | Zbp (kk:Kd) (m k v:AO)
 | call (f:AO) (args:List AO)
 | Zmh (ty:Nat) (p l:AO)
 | Sf (x:AO)
inductive MO where
 | p (o:PO)
 | r (o:RO)
 | n (o:NO)
 | w (o:WO)
structure MI where
 dst:Option Nat
 guard:Option (Nat×Bool)
 op:MO
inductive RI where
 | op (i:Nat) (o:MI)
 | re (i:Nat)
inductive Zv where
 | skip
 | Ze (ops:List MI)
 | Kv (ops:List RI)
 | seq (a b:Zv)
 | cond (c:AO) (a b:Zv)
 | block (id:Nat) (b:Zv)
 | loop (b:Zv)
 | scope (b:Zv)
 | rangeFunc (f:AO) (params:List Nat) (assign body:Zv)
 | exit (id:Nat)
 | ret
 | Zd (l:List Nat)
 | rangeMap (pre:List MI) (m:AO) (d nx more pair:Nat) (post:List MI) (ks:List Nat) (out next:Nat) (body:Zv)
 | stuck
 deriving Inhabited
inductive Ex where
 | norm
 | exit (id:Nat)
 | ret
inductive LSt where
 | ready
 | busy
 | done (x:Ex)
inductive Qb where
 | cells (ty:Nat) (loc:Bool) (cs:List AV)
 | buf (ty es:Nat) (cs:List AV)
 | ro (cs:List AV)
 | map (es:List (AV×AV))
 | iter (s:List UInt8) (pos:Nat)
 | Wz (g:Nat) (cs:List AV)
 | loop (st:LSt) (env:Env) (params:List Nat) (assign body:Zv)
abbrev Heap:=List (Nat×Qb)
def Zh:Heap→Nat→Option Qb
 | [],_=>none
 | (m,o)::h,n=>if m=n then some o else Zh h n
def Z7:Heap→Nat→Qb→Heap
 | [],_,_=>[]
 | (m,p)::h,n,o=>if m=n then(n,o)::h else(m,p)::Z7 h n o
def Ub:Heap→Nat→Heap
 | [],_=>[]
 | (m,p)::h,n=>if m=n then Ub h n else(m,p)::Ub h n
structure St where
 h:Heap
 nx:Nat
inductive Zdc where
 | t (n:Nat)
 | cell (n:Nat) (sz:Option Nat)
structure Qa where
 Zg7:Nat
 results:List Zdc
 body:Zv
 deriving Inhabited
def wrp (k:IntKind) (n:Int):Int:=
 match k with
 | .i64=>if -9223372036854775808≤n∧n≤9223372036854775807 then n else IntKind.i64.wrap n
 | .u8=>if 0≤n∧n≤255 then n else IntKind.u8.wrap n
 | .u64=>if 0≤n∧n≤18446744073709551615 then n else IntKind.u64.wrap n
 | .u32=>if 0≤n∧n≤4294967295 then n else IntKind.u32.wrap n
 | .i32=>if -2147483648≤n∧n≤2147483647 then n else IntKind.i32.wrap n
 | k=>k.wrap n
def Zkz:List UInt8→List UInt8→Bool
 | _,[]=>false
 | [],_::_=>true
 | a::x,b::y=>decide (a.toNat<b.toNat) || (decide (a.toNat=b.toNat) && Zkz x y)
def Uv:List UInt8→List UInt8→Bool
 | [],[]=>true
 | a::x,b::y=>decide (a.toNat=b.toNat) && Uv x y
 | _,_=>false
def Sg:Nat→AV→AV→Option Bool
 | 0,.J8,.J8=>some true
 | 0,.J8,.ptr _ _=>some false
 | 0,.ptr _ _,.J8=>some false
 | 0,.ptr n o,.ptr m p=>if n=m∧o=p then some true else none
 | 1,.Zc,.Zc=>some true
 | 1,.Zc,.slice .. =>some false
 | 1,.slice ..,.Zc=>some false
 | 2,.Vi,.Vi=>some true
 | 2,.Vi,.map _=>some false
 | 2,.map _,.Vi=>some false
 | 3,.Jx,.Jx=>some true
 | 3,.Jx,.fn .. =>some false
 | 3,.fn ..,.Jx=>some false
 | _,_,_=>none
def Qo:Kd→AV→AV→Option Bool
 | .b,.bool a,.bool b=>some (a == b)
 | .i k,.int j a,.int l b=>if j=k∧l=k then some (decide (a=b))else none
 | .s,.str a,.str b=>some (Uv a b)
 | _,_,_=>none
def Qu:List Kd→List AV→List AV→Option Bool
 | [],[],[]=>some true
 | k::ks,a::x,b::y=>
   match Qo k a b with
   | some true=>Qu ks x y
   | some false=>if x.length=ks.length∧y.length=ks.length then some false else none
   | none=>none
 | _,_,_=>none
def natF (n:Nat) (f:Nat→Option AV):Option AV:=
 match n with
 | 0=>f 0
 | m+1=>f (Nat.succ m)
def Sx (k:IntKind) (n:Int):Option AV:=
 match n with
 | .ofNat m=>natF m fun m=>some (.int k (.ofNat m))
 | .negSucc m=>natF m fun m=>some (.int k (.negSucc m))
def F7 (op:BinOp) (k:IntKind) (a b:Int):Option AV:=
 match op with
 | .add=>Sx k (wrp k (a+b))
 | .sub=>Sx k (wrp k (a - b))
 | .mul=>Sx k (wrp k (a*b))
 | .quo=>if b=0 then none else Sx k (wrp k (a.tdiv b))
 | .rem=>if b=0 then none else Sx k (a.tmod b)
 | .and=>Sx k (wrp k (BitVec.ofInt k.bits a &&& BitVec.ofInt k.bits b).toNat)
 | .or=>Sx k (wrp k (BitVec.ofInt k.bits a ||| BitVec.ofInt k.bits b).toNat)
 | .xor=>Sx k (wrp k (BitVec.ofInt k.bits a ^^^ BitVec.ofInt k.bits b).toNat)
 | .andNot=>Sx k (wrp k (BitVec.ofInt k.bits a &&& ~~~ BitVec.ofInt k.bits b).toNat)
 | .eql=>some (.bool (decide (a=b)))
 | .neq=>some (.bool (!decide (a=b)))
 | .lss=>some (.bool (decide (a<b)))
 | .leq=>some (.bool (decide (a≤b)))
 | .gtr=>some (.bool (decide (b<a)))
 | .geq=>some (.bool (decide (b≤a)))
 | _=>none
def Zr4 (op:BinOp) (a b:List UInt8):Option AV:=
 match op with
 | .add=>if a.length+b.length<4611686018427387904 then some (.str (a++b))else none
 | .eql=>some (.bool (Uv a b))
 | .neq=>some (.bool (!Uv a b))
 | .lss=>some (.bool (Zkz a b))
 | .leq=>some (.bool (Zkz a b || Uv a b))
 | .gtr=>some (.bool (!(Zkz a b || Uv a b)))
 | .geq=>some (.bool (!Zkz a b))
 | _=>none
def Uh (op:BinOp) (x y:AV):Option AV:=
 match x,y with
 | .int k a,.int k' b=>
   match op with
   | .shl=>if b<0 then none else Sx k (wrp k (a*(2 ^ (min b.toNat k.bits):Nat)))
   | .shr=>if b<0 then none else Sx k (a.fdiv (2 ^ (min b.toNat k.bits):Nat))
   | op=>if k=k' then F7 op k a b else none
 | .str a,.str b=>Zr4 op a b
 | _,_=>none
def aun (op:UnOp) (x:AV):Option AV:=
 match op,x with
 | .neg,.int k n=>Sx k (wrp k (0 - n))
 | .xor,.int k n=>Sx k (wrp k (BitVec.ofInt k.bits (if k.signed then -1 else k.max) ^^^ BitVec.ofInt k.bits n).toNat)
 | .not,.bool b=>some (.bool !b)
 | _,_=>none
def Yg:AV→List AV
 | .agg cs=>cs
 | v=>[v]
def Qd:List AV→Nat→List AV→List AV
 | cs,_,[]=>cs
 | cs,o,v::vs=>Qd (cs.set o v) (o+1) vs
def AV.nb:AV→Bool
 | .bot=>false
 | _=>true
def Dj (ev:AO→AV):List AV→List (Nat×Nat×AO)→Option (List AV)
 | cs,[]=>some cs
 | cs,(off,sz,x)::r=>
   let v:=Yg (ev x)
   if v.length=sz∧off+sz≤cs.length∧(ev x).nb=true then Dj ev (Qd cs off v) r else none
def apart (cs:List AV) (off:Nat):Option Nat→Option AV
 | none=>cs[off]?
 | some n=>if off+n≤cs.length then some (.agg ((cs.drop off).take n))else none
def aint:AV→Option Int
 | .int _ n=>some n
 | _=>none
def Yc (v:AV) (y:Nat):Option Nat:=
 match v with
 | .int _ i=>if 0≤i∧i≤(y:Int)then some i.toNat else none
 | _=>none
def O4 (mx:Bool):AV→AV→Option AV
 | .int k x,.int _ y=>some (.int k (if mx then(if y > x then y else x)else(if y<x then y else x)))
 | _,_=>none
def Zde (mx:Bool):AV→List AV→Option AV
 | x,[]=>some x
 | x,y::r=>
   match O4 mx x y with
   | some z=>Zde mx z r
   | none=>none
def Zah1:Cap→Option Nat
 | .known c=>some c
 | _=>none
def X0 (cap:Cap) (l:Nat) (mx:Option Nat):Cap:=
 match mx with
 | some m=> .known (m - l)
 | none=>
   match cap with
   | .known c=> .known (c - l)
   | .full=>if l=0 then .full else .unk
   | .unk=> .unk
def bnd (d:Nat) (v:Option AV) (y:Nat):Option Nat:=
 match v with
 | none=>some d
 | some v=>Yc v y
def Kw (len top:Nat) (lo hi mx:Option AV):Option (Nat×Nat×Option Nat):=
 match mx with
 | none=>
   match bnd len hi top with
   | none=>none
   | some h=>match bnd 0 lo h with | some l=>some (l,h,none) | none=>none
 | some v=>
   match Yc v top,hi with
   | some m,some u=>
     match Yc u m with
     | none=>none
     | some h=>match bnd 0 lo h with | some l=>some (l,h,some m) | none=>none
   | _,_=>none
def X6 (len:Nat):Cap→Nat
 | .known c=>c
 | _=>len
def X1 (es n off len:Nat) (cap:Cap) (lo hi mx:Option AV):Option AV:=
 match Kw len (X6 len cap) lo hi mx with
 | some (l,h,m)=>
   match X0 cap l m with
   | .known 0=>some (.slice n off (h - l) (.known 0))
   | .known c=>some (.slice n (off+l*es) (h - l) (.known c))
   | .full=>some (.slice n off h .full)
   | .unk=>if l<h∨l=0 then some (.slice n (off+l*es) (h - l) .unk)else none
 | none=>none
def C5 (s:List UInt8) (lo hi:Option AV):Option AV:=
 match Kw s.length s.length lo hi none with
 | some (l,h,_)=>some (.str ((s.drop l).take (h - l)))
 | none=>none
def G4 (s:List UInt8) (pos:Nat):Nat×Nat:=Utf8.decode ⟨s.toArray⟩ pos
def P3 (n:Int):List UInt8:=(Utf8.encode n).data.toList
def PO.run (ev:AO→AV):PO→Option AV
 | .Za x=>some (ev x)
 | .pick c a b=>match ev c with | .bool true=>some (ev a) | .bool false=>some (ev b) | _=>none
 | .bin op x y=>Uh op (ev x) (ev y)
 | .un op x=>aun op (ev x)
 | .conv k x=>match ev x with | .int _ n=>Sx k (wrp k n) | _=>none
 | .Pz f a b=>some (.fn f (a.map ev) (b.map ev))
 | .build zero parts=>(Dj ev zero parts).map .agg
 | .Zi off x=>match ev x with | .ptr n o=>some (.ptr n (o+off)) | _=>none
 | .field off sz x=>match ev x with | .agg cs=>apart cs off sz | _=>none
 | .Nq len es x i=>
   match ev x,ev i with
   | .ptr n o,.int _ j=>if 0≤j∧j<(len:Int)then some (.ptr n (o+j.toNat*es))else none
   | _,_=>none
 | .Zu es x i=>
   match ev x,ev i with
   | .slice n o ln _,.int _ j=>if 0≤j∧j<(ln:Int)then some (.ptr n (o+j.toNat*es))else none
   | _,_=>none
 | .Zhv len es sz x i=>
   match ev x,ev i with
   | .agg cs,.int _ j=>if 0≤j∧j<(len:Int)then apart cs (j.toNat*es) sz else none
   | _,_=>none
 | .J7 x i=>
   match ev x,ev i with
   | .str s,.int _ j=>if 0≤j then(s[j.toNat]?).map fun b=> .int .u8 b.toNat else none
   | _,_=>none
 | .B5 x lo hi=>match ev x with | .str s=>C5 s (lo.map ev) (hi.map ev) | _=>none
 | .Zia es x lo hi mx=>
   match ev x with
   | .slice n o ln cp=>X1 es n o ln cp (lo.map ev) (hi.map ev) (mx.map ev)
   | .Zc=>
     match X1 es 0 0 0 (.known 0) (lo.map ev) (hi.map ev) (mx.map ev)with
     | some _=>some .Zc
     | none=>none
   | _=>none
 | .Zmf n es x lo hi mx=>match ev x with | .ptr m o=>X1 es m o n (.known n) (lo.map ev) (hi.map ev) (mx.map ev) | _=>none
 | .Zq i x=>match ev x with | .tuple vs=>vs[i]? | _=>none
 | .lenOf str x=>
   match ev x with
   | .str s=>if str=true then some (.int .i64 s.length)else none
   | .slice _ _ n _=>if str=true then none else some (.int .i64 n)
   | .Zc=>if str=true then none else some (.int .i64 0)
   | _=>none
 | .capOf x=>
   match ev x with
   | .slice _ _ _ (.known c)=>some (.int .i64 c)
   | .Zc=>some (.int .i64 0)
   | _=>none
 | .Bl mx xs=>match xs.map ev with | []=>none | x::r=>Zde mx x r
 | .Xd x=>
   match ev x with
   | .ptr n o=>some (.ptr n o)
   | .fn f a b=>some (.fn f a b)
   | .iface t v=>some (.iface t v)
   | _=>none
 | .iface t x=>some (.iface t (ev x))
 | .Zmw v=>some v
 | .same x=>match ev x with | .str s=>some (.str s) | _=>none
 | .r2s x=>match ev x with | .int _ n=>some (.str (P3 n)) | _=>none
 | .Zc2 x=>match ev x with | .Zc=>some .J8 | .slice n o l _=>(if 1≤l then some (.ptr n o)else none) | _=>none
 | .eqA neg ks x y=>
   match ev x,ev y with
   | .agg a,.agg b=>(Qu ks a b).map fun r=> .bool (if neg then !r else r)
   | _,_=>none
 | .eqB neg x y=>
   match ev x,ev y with
   | .bool a,.bool b=>some (.bool (if neg then !(a == b)else a == b))
   | _,_=>none
 | .eqN neg k x y=>(Sg k (ev x) (ev y)).map fun r=> .bool (if neg then !r else r)
 | .stuck=>none
def Qg (h:Heap) (n off cnt:Nat):Option (List AV):=
 match Zh h n with
 | some (.cells _ _ cs) | some (.buf _ _ cs) | some (.ro cs) | some (.Wz _ cs)=>if off+cnt≤cs.length then some ((cs.drop off).take cnt)else none
 | _=>none
def Q5 (h:Heap) (n off:Nat):Option AV:=
 match Zh h n with
 | some (.cells _ _ cs) | some (.buf _ _ cs) | some (.ro cs) | some (.Wz _ cs)=>cs[off]?
 | _=>none
def W4:List AV→Option (List UInt8)
 | []=>some []
 | .int .u8 n::r=>match W4 r with | some l=>some (UInt8.ofNat n.toNat::l) | none=>none
 | _=>none
def Ug (kk:Kd) (k:AV):List (AV×AV)→Option (Option AV)
 | []=>some none
 | (a,v)::r=>
   match Qo kk k a with
   | some true=>some (some v)
   | some false=>Ug kk k r
   | none=>none
def Mb (kk:Kd) (k v:AV):List (AV×AV)→Option (List (AV×AV))
 | []=>if(Qo kk k k).isSome=true then some [(k,v)]else none
 | (a,u)::r=>
   match Qo kk k a with
   | some true=>some ((k,v)::r)
   | some false=>match Mb kk k v r with | some r'=>some ((a,u)::r') | none=>none
   | none=>none
def RO.run (ev:AO→AV) (h:Heap):RO→Option AV
 | .load none x=>match ev x with | .ptr n o=>Q5 h n o | _=>none
 | .load (some sz) x=>match ev x with | .ptr n o=>(Qg h n o sz).map .agg | _=>none
 | .b2s x=>
   match ev x with
   | .Zc=>some (.str [])
   | .slice n o len _=>match Qg h n o len with | some cs=>(W4 cs).map .str | none=>none
   | _=>none
 | .lookup kk zero ok m k=>
   match ev m with
   | .Vi=>if(Qo kk (ev k) (ev k)).isSome=true then some (if ok then .tuple [zero,.bool false]else zero)else none
   | .map n=>
     match Zh h n with
     | some (.map es)=>
       if(Qo kk (ev k) (ev k)).isSome=true then
       match Ug kk (ev k) es with
       | some (some v)=>some (if ok then .tuple [v,.bool true]else v)
       | some none=>some (if ok then .tuple [zero,.bool false]else zero)
       | none=>none
       else none
     | _=>none
   | _=>none
 | .Ztt m=>
   match ev m with
   | .Vi=>some (.int .i64 0)
   | .map n=>match Zh h n with | some (.map es)=>some (.int .i64 es.length) | _=>none
   | _=>none
 | .toU x=>
   match ev x with
   | .ptr n o=>match Zh h n with | some (.cells _ _ cs)=>if o<cs.length then some (.ptr n o)else none | _=>none
   | _=>none
 | .ofU ty z x=>
   match ev x with
   | .ptr n o=>match Zh h n with | some (.cells ty' _ cs)=>if ty'=ty∧o=0∧cs.length=z then some (.ptr n o)else none | _=>none
   | _=>none
 | .Sa g len es i=>
   match ev i with
   | .int _ j=>match Zh h g with | some (.Wz k _)=>if k=g∧0≤j∧j<(len:Int)then some (.ptr g (j.toNat*es))else none | _=>none
   | _=>none
def Bn (z:List AV):Nat→List AV
 | 0=>[]
 | n+1=>z++Bn z n
def NO.run (ev:AO→AV) (n:Nat):NO→Option (AV×Qb)
 | .alloc ty loc zero=>some (.ptr n 0,.cells ty loc zero)
 | .box ty loc x=>if(ev x).nb=true then some (.ptr n 0,.cells ty loc (Yg (ev x)))else none
 | .Qe ty len zero parts=>match Dj ev zero parts with | some cs=>some (.slice n 0 len (.known len),.cells ty false cs) | none=>none
 | .Zre ty es bytes zero l c=>
   match ev l,ev c with
   | .int _ l,.int _ c=>
     if 0≤l∧l≤c∧c*(bytes:Int)≤140737488355328∧c≤140737488355328∧zero.length=es then
      some (.slice n 0 l.toNat (.known c.toNat),.cells ty false (Bn zero c.toNat))
     else none
   | _,_=>none
 | .mkMap=>some (.map n,.map [])
 | .A3 x=>match ev x with | .str s=>some (.ptr n 0,.iter s 0) | _=>none
 | .s2b ty x=>match ev x with | .str s=>some (.slice n 0 s.length .full,.buf ty 1 (s.map fun b=> .int .u8 b.toNat)) | _=>none
def AV.sc:AV→Bool
 | .bot | .agg _ | .tuple _=>false
 | _=>true
def Jy (h:Heap) (n off:Nat) (vs:List AV):Option Heap:=
 match Zh h n with
 | some (.cells ty loc cs)=>if off+vs.length≤cs.length∧vs.all AV.sc=true then some (Z7 h n (.cells ty loc (Qd cs off vs)))else none
 | some (.buf ty es cs)=>if off+vs.length≤cs.length∧vs.all AV.sc=true then some (Z7 h n (.buf ty es (Qd cs off vs)))else none
 | _=>none
def Vl (h:Heap) (es:Nat):AV→Option (Nat×List AV)
 | .Zc=>some (0,[])
 | .slice n o len _=>(Qg h n o (len*es)).map fun cs=>(len,cs)
 | .str s=>if es=1 then some (s.length,s.map fun b=> .int .u8 b.toNat)else none
 | _=>none
def Vf (ty es bytes:Nat) (st:St) (s x:AV):Option (AV×St):=
 match Vl st.h es x with
 | none=>none
 | some (k,new)=>
   match s with
   | .Zc=>
     if k=0 then some (.Zc,st)
     else if k*bytes≤35184372088832∧k≤35184372088832 then some (.slice st.nx 0 k .full,⟨(st.nx,.buf ty es new)::st.h,st.nx+1⟩)
     else none
   | .slice n o len cap=>
     if(len+k)*bytes≤35184372088832∧len+k≤35184372088832 then
      match cap with
      | .known c=>
        if len+k≤c then(Jy st.h n (o+len*es) new).map fun h=>(.slice n o (len+k) (.known c),⟨h,st.nx⟩)
        else
         match Qg st.h n o (len*es)with
         | some old=>some (.slice st.nx 0 (len+k) .full,⟨(st.nx,.buf ty es (old++new))::st.h,st.nx+1⟩)
         | none=>none
      | .full=>
        match Zh st.h n with
        | some (.buf ty' es' cs)=>
          if o=0∧es'=es∧ty'=ty∧cs.length=len*es∧new.all AV.sc=true then
           if k=0 then some (s,st)
           else some (.slice st.nx 0 (len+k) .full,⟨(st.nx,.buf ty es (cs++new))::Ub st.h n,st.nx+1⟩)
          else none
        | _=>none
      | .unk=>none
     else none
   | _=>none
def WO.run (call:AV→List AV→St→Option (AV×St)) (ev:AO→AV) (st:St):WO→Option (AV×St)
 | .store sz a x=>
   match ev a with
   | .ptr n o=>
     let vs:=Yg (ev x)
     if vs.length=sz then(Jy st.h n o vs).map fun h=>(.bot,⟨h,st.nx⟩)else none
   | _=>none
 | .append ty es bytes _ s x=>Vf ty es bytes st (ev s) (ev x)
 | .copy es d s=>
   match Vl st.h es (ev s)with
   | none=>none
   | some (k,new)=>
     match ev d with
     | .Zc=>some (.int .i64 0,st)
     | .slice n o len _=>(Jy st.h n o (new.take ((min k len)*es))).map fun h=>(.int .i64 (min k len:Nat),⟨h,st.nx⟩)
     | _=>none
 | .Zbp kk m k v=>
   match ev m with
   | .map n=>
     match Zh st.h n with
     | some (.map es)=>(Mb kk (ev k) (ev v) es).map fun es=>(.bot,⟨Z7 st.h n (.map es),st.nx⟩)
     | _=>none
   | _=>none
 | .call f args=>call (ev f) (args.map ev) st
 | .Sf x=>
   match ev x with
   | .ptr n o=>
     match Zh st.h n with
     | some (.iter s pos)=>
       if o=0 then
        if pos<s.length then some (.tuple [.bool true,.int .i64 pos,.int .i32 (G4 s pos).1],⟨Z7 st.h n (.iter s (pos+(G4 s pos).2)),st.nx⟩)
        else some (.tuple [.bool false],st)
       else none
     | _=>none
   | _=>none
 | .Zmh ty p l=>
   match ev p,ev l with
   | .J8,.int .i64 k=>if k=0 then some (.str [],st)else none
   | .ptr n o,.int .i64 k=>
     match Zh st.h n with
     | some (.buf ty' es cs)=>
       if o=0∧ty'=ty∧es=1∧1≤cs.length∧k=cs.length∧cs.length≤9223372036854775807 then(W4 cs).map fun s=>(.str s,⟨Ub st.h n,st.nx⟩)else none
     | _=>none
   | _,_=>none
def MO.run (call:AV→List AV→St→Option (AV×St)) (ev:AO→AV) (st:St):MO→Option (AV×St)
 | .p o=>match PO.run ev o with | some v=>some (v,st) | none=>none
 | .r o=>match RO.run ev st.h o with | some v=>some (v,st) | none=>none
 | .n o=>match NO.run ev st.nx o with | some (v,b)=>some (v,⟨(st.nx,b)::st.h,st.nx+1⟩) | none=>none
 | .w o=>WO.run call ev st o
def Vm (e:Env):Option Nat→AV→Env
 | none,_=>e
 | some d,v=>R5 e d v
def wanted (e:Env):Option (Nat×Bool)→Option Bool
 | none=>some true
 | some (t,b)=>match Zl e t with | .bool c=>some (c == b) | .tuple _=>some false | _=>none
abbrev Hz:AV:= .tuple []
def MI.run (call:AV→List AV→St→Option (AV×St)) (i:MI) (e:Env) (st:St):Option (Env×St):=
 match wanted e i.guard with
 | some true=>match i.op.run call (AO.ev e) st with | some (v,st)=>some (Vm e i.dst v,st) | none=>none
 | some false=>some (Vm e i.dst Hz,st)
 | none=>none
def Ko (call:AV→List AV→St→Option (AV×St)):List MI→Env→St→Option (Env×St)
 | [],e,st=>some (e,st)
 | i::r,e,st=>match i.run call e st with | some (e,st)=>Ko call r e st | none=>none
mutual
def Vg:AV→AV→Bool
 | .bot,.bot=>true
 | .bool a,.bool b=>a == b
 | .int j a,.int k b=>decide (j=k) && decide (a=b)
 | .str a,.str b=>Uv a b
 | .ptr a b,.ptr c d=>a == c && b == d
 | .J8,.J8=>true
 | .slice a b c d,.slice a' b' c' d'=>a == a' && (b == b' && (c == c' && decide (d=d')))
 | .Zc,.Zc=>true
 | .map a,.map b=>a == b
 | .Vi,.Vi=>true
 | .fn f a b,.fn g c d=>f == g && (Hb a c && Hb b d)
 | .yield a,.yield b=>a == b
 | .Jx,.Jx=>true
 | .iface a b,.iface c d=>a == c && Vg b d
 | .K6,.K6=>true
 | .agg a,.agg b=>Hb a b
 | .tuple a,.tuple b=>Hb a b
 | _,_=>false
def Hb:List AV→List AV→Bool
 | [],[]=>true
 | a::x,b::y=>Vg a b && Hb x y
 | _,_=>false
end
def G9 (call:AV→List AV→St→Option (AV×St)) (nm:Nat) (o:MI) (e:Env) (st:St):Option (Env×St×Nat):=
 match wanted e o.guard with
 | some true=>
   match o.op with
   | .n p=>
     match NO.run (AO.ev e) nm p with
     | some (v,b)=>some (Vm e o.dst v,⟨(nm,b)::st.h,st.nx⟩,nm+1)
     | none=>none
   | m=>match m.run call (AO.ev e) st with | some (v,st)=>some (Vm e o.dst v,st,nm) | none=>none
 | some false=>some (Vm e o.dst Hz,st,nm)
 | none=>none
def Zbw:List (Nat×MI)→Nat→Option MI
 | [],_=>none
 | (j,o)::r,i=>if j=i then some o else Zbw r i
def reI (done:List (Nat×MI)) (i:Nat) (e:Env) (st:St):Bool:=
 match Zbw done i with
 | none=>false
 | some o=>
   match wanted e o.guard with
   | some true=>
     match o.op,o.dst with
     | .r p,some d=>(match RO.run (AO.ev e) st.h p with | some v=>Vg v (Zl e d) | none=>false)
     | _,_=>false
   | some false=>true
   | none=>false
def G2 (call:AV→List AV→St→Option (AV×St)):List (Nat×MI)→Nat→List RI→Env→St→Option (Env×St)
 | _,_,[],e,st=>some (e,st)
 | done,nm,.op i o::r,e,st=>
   match G9 call nm o e st with
   | some (e,st,nm)=>G2 call ((i,o)::done) nm r e st
   | none=>none
 | done,nm,.re i::r,e,st=>if reI done i e st=true then G2 call done nm r e st else none
def X3 (l:List Nat) (e:Env):Env:=l.map fun t=>(t,Zl e t)
def K3 (c:Nat):Heap→List Nat
 | []=>[]
 | (n,o)::h=>
   match o with
   | .cells _ true _=>if n<c then K3 c h else n::K3 c h
   | _=>K3 c h
def Po (n:Nat):List Nat→Bool
 | []=>false
 | m::l=>if m=n then true else Po n l
def Dq (l:List Nat):Heap→Heap
 | []=>[]
 | (n,o)::h=>if Po n l=true then Dq l h else(n,o)::Dq l h
def Zb (c:Nat) (h:Heap):Heap:=
 match K3 c h with
 | []=>h
 | l=>Dq l h
def V0:Nat→List AV→Env
 | _,[]=>[]
 | i,v::r=>(i,v)::V0 (i+1) r
def L6:Env→List Nat→List AV→Env
 | e,t::ts,v::vs=>L6 (R5 e t v) ts vs
 | e,_,_=>e
def Jk (h:Heap) (e:Env):Zdc→Option AV
 | .t n=>some (Zl e n)
 | .cell n sz=>RO.run (AO.ev e) h (.load sz (.t n))
def Qn (h:Heap) (e:Env):List Zdc→Option (List AV)
 | []=>some []
 | r::rs=>match Jk h e r,Qn h e rs with | some v,some vs=>some (v::vs) | _,_=>none
def Zt (h:Heap) (e:Env) (rs:List Zdc):Option AV:=
 match Qn h e rs with
 | some [v]=>some v
 | some vs=>some (.tuple vs)
 | none=>none
abbrev Entry:=List AV→St→Option (AV×St)
structure Tab where
 fn:Nat→Option Qa
 en:Nat→Option Entry
def W1 (T:Tab) (ex:Zv→Env→St→Option (Ex×Env×St)) (f:Nat) (args:List AV) (st:St):Option (AV×St):=
 match T.en f with
 | some F=>F args st
 | none=>
   match T.fn f with
   | none=>none
   | some mf=>
     if args.length=mf.Zg7 then
      match ex mf.body (V0 0 args) st with
      | some (.norm,e',st') | some (.ret,e',st')=>
        match Zt st'.h e' mf.results with
        | some v=>some (v,⟨Zb st.nx st'.h,st'.nx⟩)
        | none=>none
      | _=>none
     else none
def N8 (ex:Zv→Env→St→Option (Ex×Env×St)) (l:Nat) (args:List AV) (st:St):Option (AV×St):=
 match Zh st.h l with
 | some (.loop .ready env ps assign body)=>
   if args.length=ps.length then
    match ex assign (L6 env ps args) st with
    | some (.norm,e',st')=>
      match Zh st'.h l with
      | some (.loop .ready env1 ps1 as1 bd1)=>
        match ex body e' ⟨Z7 st'.h l (.loop .busy env1 ps1 as1 bd1),st'.nx⟩with
        | some (x,_,st'')=>
          match Zh st''.h l with
          | some (.loop .busy env2 ps2 as2 bd2)=>
            match x with
            | .norm=>some (.bool true,⟨Z7 st''.h l (.loop .ready env2 ps2 as2 bd2),st''.nx⟩)
            | x=>some (.bool false,⟨Z7 st''.h l (.loop (.done x) env2 ps2 as2 bd2),st''.nx⟩)
          | _=>none
        | none=>none
      | _=>none
    | _=>none
   else none
 | _=>none
def Jb (T:Tab) (ex:Zv→Env→St→Option (Ex×Env×St)) (f:AV) (args:List AV) (st:St):Option (AV×St):=
 match f with
 | .fn f first cap=>W1 T ex f (first++args++cap) st
 | .yield l=>N8 ex l args st
 | _=>none
def Ziq (ks:List Nat) (e e':Env):Prop:=∀r,r∈ks→Zl e' r=Zl e r
def Znf (h h':Heap):Prop:=∀n o,Zh h n=some o→Zh h' n=some o
open Classical in
noncomputable def rounds (call:AV→List AV→St→Option (AV×St)) (ex:Zv→Env→St→Option (Ex×Env×St)) (nx more pair:Nat) (post:List MI) (ks:List Nat) (body:Zv) (e:Env) (st:St):List (AV×AV)→Option Unit
 | []=>some ()
 | (k,v)::r=>
   match Ko call post (R5 (R5 (R5 e nx (.tuple [.bool true,.bot,.bot])) more (.bool true)) pair (.tuple [k,v])) st with
   | some (e2,st2)=>
     match ex body e2 st2 with
     | some (.norm,e',st')=>if Ziq ks e e'∧Znf st.h st'.h then rounds call ex nx more pair post ks body e st r else none
     | _=>none
   | none=>none
noncomputable def Zz (T:Tab) (ex:Zv→Env→St→Option (Ex×Env×St)) (c:Zv) (e:Env) (st:St):Option (Ex×Env×St):=
 match c with
 | .skip=>some (.norm,e,st)
 | .Ze ops=>match Ko (Jb T ex) ops e st with | some (e,st)=>some (.norm,e,st) | none=>none
 | .Kv ops=>match G2 (Jb T ex) [] st.nx ops e ⟨st.h,st.nx+ops.length⟩with | some (e,st)=>some (.norm,e,st) | none=>none
 | .seq (.Zd l) m=>ex m (X3 l e) st
 | .seq a b=>
   match ex a e st with
   | some (.norm,e,st)=>ex b e st
   | r=>r
 | .cond c a b=>
   match c.ev e with
   | .bool true=>ex a e st
   | .bool false=>ex b e st
   | _=>none
 | .block id b=>
   match ex b e st with
   | some (.exit id',e,st)=>if id'=id then some (.norm,e,st)else some (.exit id',e,st)
   | r=>r
 | .loop b=>
   match ex b e st with
   | some (.norm,e,st)=>ex (.loop b) e st
   | r=>r
 | .scope b=>ex b e st
 | .rangeFunc f ps assign body=>
   match Jb T ex (f.ev e) [.yield st.nx] ⟨(st.nx,.loop .ready e ps assign body)::st.h,st.nx+1⟩with
   | some (_,st')=>
     match Zh st'.h st.nx with
     | some (.loop .ready _ _ _ _)=>some (.norm,e,⟨Ub st'.h st.nx,st'.nx⟩)
     | some (.loop (.done x) _ _ _ _)=>some (x,e,⟨Ub st'.h st.nx,st'.nx⟩)
     | _=>none
   | none=>none
 | .exit id=>some (.exit id,e,st)
 | .ret=>some (.ret,e,st)
 | .Zd l=>some (.norm,X3 l e,st)
 | .rangeMap pre m d nx more pair post ks _ _ body=>
   match Ko (Jb T ex) pre e st with
   | some (e1,st1)=>
     match m.ev e1 with
     | .map n=>
       match Zh st1.h n with
       | some (.map es)=>
         match rounds (Jb T ex) ex nx more pair post (d::ks) body ((d,.ptr st1.nx 0)::X3 ks e1) ⟨Ub st1.h n,st1.nx+1⟩ es with
         | some ()=>some (.norm,(d,.ptr st1.nx 0)::X3 ks e1,⟨Ub st1.h n,st1.nx+1⟩)
         | none=>none
       | _=>none
     | _=>none
   | none=>none
 | .stuck=>none
noncomputable def exec (T:Tab) (n:Nat):Zv→Env→St→Option (Ex×Env×St):=
 Nat.rec (fun _ _ _=>none) (fun _ ih=>Zz T ih) n
theorem W7 (T:Tab) (n:Nat):exec T (n+1)=Zz T (exec T n):=rfl
end Go.Ev

/- The relation between the abstract machine's values and the model's: names stand for blocks. -/
namespace Go.Ev
open Go
structure Cx where
 P:Program
 φ:Nat→Nat
 τ:Nat→Nat
 γ:Nat→Nat
structure Nu where
 ρ:Nat→Option Addr
 κ:Nat→Nat
mutual
def VR (X:Cx) (N:Nu):AV→Value→Prop
 | .bot,_=>True
 | .bool b,v=>v= .bool b
 | .int k n,v=>v= .int k n
 | .str s,v=>v= .string ⟨s.toArray⟩
 | .ptr n o,v=>∃a,N.ρ n=some a∧v= .pointer (some ⟨a.block,a.off+o,none⟩)
 | .J8,v=>v= .pointer none
 | .slice n o l c,v=>∃a cp,N.ρ n=some a∧v= .slice (some ⟨a.block,a.off+o,none⟩) l cp∧l≤cp∧
     (match c with | .known k=>cp=k | .full=>o=0∧cp=N.κ n | .unk=>True)
 | .Zc,v=>v= .slice none 0 0
 | .map n,v=>∃a,N.ρ n=some a∧v= .map (some a.block)
 | .Vi,v=>v= .map none
 | .fn f xs ys,v=>∃us vs,v= .func (.func (X.φ f)) us vs∧VRs X N xs us.toList∧VRs X N ys vs.toList
 | .yield l,v=>∃a,N.ρ l=some a∧v= .func (.yield a.block) #[] #[]
 | .Jx,v=>v= .nilFunc
 | .iface t x,v=>∃u,v= .iface (X.τ t) u∧VR X N x u
 | .K6,v=>v= .nilIface
 | .agg cs,v=>∃us,v= .agg us∧VRs X N cs us.toList
 | .tuple cs,v=>∃us,v= .tuple us∧VRs X N cs us.toList
def VRs (X:Cx) (N:Nu):List AV→List Value→Prop
 | [],us=>us=[]
 | x::xs,us=>∃u ur,us=u::ur∧VR X N x u∧VRs X N xs ur
end
variable {X : Cx} {N N' : Nu}
theorem L5:∀{xs:List AV} {us:List Value},VRs X N xs us↔
  (xs.length=us.length∧∀(i:Nat) (x:AV) (u:Value),xs[i]? =some x→us[i]? =some u→VR X N x u)
 | [],us=>by
   simp only[VRs,List.length_nil]
   constructor
   ·rintro rfl;simp
   ·rintro⟨h,_⟩;exact List.length_eq_zero_iff.1 h.symm
 | x::xs,us=>by
   simp only[VRs]
   constructor
   ·rintro⟨u,ur,rfl,h,hs⟩
    obtain⟨hl,hi⟩:=L5.1 hs
    refine⟨by simp[hl],fun i y v hy hv=> ?_⟩
    cases i with
    | zero=>simp at hy hv;subst hy hv;exact h
    | succ i=>simp at hy hv;exact hi i y v hy hv
   ·rintro⟨hl,hi⟩
    cases us with
    | nil=>simp at hl
    | cons u ur=>
      exact⟨u,ur,rfl,hi 0 x u rfl rfl,L5.2 ⟨by simpa using hl,fun i y v hy hv=>hi (i+1) y v (by simpa using hy) (by simpa using hv)⟩⟩
theorem VRs.length {xs:List AV} {us:List Value} (h:VRs X N xs us):xs.length=us.length:=(L5.1 h).1
theorem VRs.get {xs:List AV} {us:List Value} (h:VRs X N xs us) {i:Nat} {x:AV} (hx:xs[i]? =some x):∃u,us[i]? =some u∧VR X N x u:=by
 obtain⟨hl,hi⟩:=L5.1 h
 have:i<xs.length:=(List.getElem?_eq_some_iff.1 hx).1
 exact⟨us[i]'(hl▸this),List.getElem?_eq_getElem _,hi i x _ hx (List.getElem?_eq_getElem _)⟩
theorem VRs.append {xs ys:List AV} {us vs:List Value} (h:VRs X N xs us) (k:VRs X N ys vs):VRs X N (xs++ys) (us++vs):=by
 induction xs generalizing us with
 | nil=>simp only[VRs]at h;subst h;simpa using k
 | cons x xs ih=>
   simp only[VRs]at h
   obtain⟨u,ur,rfl,hx,hs⟩:=h
   exact⟨u,ur++vs,by simp,hx,ih hs⟩
theorem VRs.drop {xs:List AV} {us:List Value} (h:VRs X N xs us) (n:Nat):VRs X N (xs.drop n) (us.drop n):=by
 obtain⟨hl,hi⟩:=L5.1 h
 refine L5.2 ⟨by simp[hl],fun i x u hx hu=> ?_⟩
 rw[List.getElem?_drop]at hx hu
 exact hi _ _ _ hx hu
theorem VRs.take {xs:List AV} {us:List Value} (h:VRs X N xs us) (n:Nat):VRs X N (xs.take n) (us.take n):=by
 obtain⟨hl,hi⟩:=L5.1 h
 refine L5.2 ⟨by simp[hl],fun i x u hx hu=> ?_⟩
 rw[List.getElem?_take]at hx hu
 split at hx
 ·rename_i hlt;rw[if_pos hlt]at hu;exact hi _ _ _ hx hu
 ·cases hx
theorem VRs.set {xs:List AV} {us:List Value} (h:VRs X N xs us) (n:Nat) {x:AV} {u:Value} (k:VR X N x u):VRs X N (xs.set n x) (us.set n u):=by
 obtain⟨hl,hi⟩:=L5.1 h
 refine L5.2 ⟨by simp[hl],fun i y v hy hv=> ?_⟩
 rw[List.getElem?_set]at hy hv
 by_cases e:n=i
 ·subst e
  by_cases hn:n<xs.length
  ·rw[if_pos rfl,if_pos hn]at hy
   rw[if_pos rfl,if_pos (hl▸hn)]at hv
   cases hy;cases hv;exact k
  ·rw[if_pos rfl,if_neg hn]at hy;cases hy
 ·rw[if_neg e]at hy hv;exact hi _ _ _ hy hv
theorem VRs.one {x:AV} {u:Value} (k:VR X N x u):VRs X N [x] [u]:=⟨u,[],rfl,k,rfl⟩
def Nu.Le (N N':Nu):Prop:=∀n a,N.ρ n=some a→N'.ρ n=some a∧N'.κ n=N.κ n
theorem Nu.Le.refl (N:Nu):N.Le N:=fun _ _ h=>⟨h,rfl⟩
theorem Nu.Le.trans {A B C:Nu} (h:A.Le B) (k:B.Le C):A.Le C:=fun n a ha=>
 ⟨(k n a (h n a ha).1).1,((k n a (h n a ha).1).2).trans (h n a ha).2⟩
mutual
theorem VR.mono (hl:N.Le N'):∀(x:AV) {v:Value},VR X N x v→VR X N' x v
 | .bot,_,h=>trivial
 | .bool _,_,h=>h
 | .int _ _,_,h=>h
 | .str _,_,h=>h
 | .ptr n o,_,⟨a,ha,hv⟩=>⟨a,(hl n a ha).1,hv⟩
 | .J8,_,h=>h
 | .slice n o l c,_,⟨a,cp,ha,hv,hle,hc⟩=>⟨a,cp,(hl n a ha).1,hv,hle,by
     cases c with
     | known k=>exact hc
     | full=>exact⟨hc.1,hc.2.trans (hl n a ha).2.symm⟩
     | unk=>trivial⟩
 | .Zc,_,h=>h
 | .map n,_,⟨a,ha,hv⟩=>⟨a,(hl n a ha).1,hv⟩
 | .Vi,_,h=>h
 | .fn f xs ys,_,⟨us,vs,hv,h1,h2⟩=>⟨us,vs,hv,VRs.mono hl xs h1,VRs.mono hl ys h2⟩
 | .yield l,_,⟨a,ha,hv⟩=>⟨a,(hl l a ha).1,hv⟩
 | .Jx,_,h=>h
 | .iface t x,_,⟨u,hv,h⟩=>⟨u,hv,VR.mono hl x h⟩
 | .K6,_,h=>h
 | .agg cs,_,⟨us,hv,h⟩=>⟨us,hv,VRs.mono hl cs h⟩
 | .tuple cs,_,⟨us,hv,h⟩=>⟨us,hv,VRs.mono hl cs h⟩
theorem VRs.mono (hl:N.Le N'):∀(xs:List AV) {us:List Value},VRs X N xs us→VRs X N' xs us
 | [],_,h=>h
 | x::xs,_,⟨u,ur,hu,h1,h2⟩=>⟨u,ur,hu,VR.mono hl x h1,VRs.mono hl xs h2⟩
end
theorem VR.cells {x:AV} {v:Value} (h:VR X N x v) (hb:x= .bot→v.cells= #[v]):VRs X N (Yg x) v.cells.toList:=by
 cases x with
 | agg cs=>obtain⟨us,rfl,h⟩:=h;exact h
 | bot=>rw[hb rfl];exact VRs.one h
 | bool b=>cases h;exact VRs.one rfl
 | int k n=>cases h;exact VRs.one rfl
 | str s=>cases h;exact VRs.one rfl
 | ptr n o=>have h':=h;obtain⟨a,ha,rfl⟩:=h';exact VRs.one h
 | J8=>cases h;exact VRs.one rfl
 | slice n o l c=>have h':=h;obtain⟨a,cp,ha,rfl,_⟩:=h';exact VRs.one h
 | Zc=>cases h;exact VRs.one rfl
 | map n=>have h':=h;obtain⟨a,ha,rfl⟩:=h';exact VRs.one h
 | Vi=>cases h;exact VRs.one rfl
 | fn f xs ys=>have h':=h;obtain⟨us,vs,rfl,_⟩:=h';exact VRs.one h
 | yield l=>have h':=h;obtain⟨a,ha,rfl⟩:=h';exact VRs.one h
 | Jx=>cases h;exact VRs.one rfl
 | iface t y=>have h':=h;obtain⟨u,rfl,_⟩:=h';exact VRs.one h
 | K6=>cases h;exact VRs.one rfl
 | tuple cs=>have h':=h;obtain⟨us,rfl,_⟩:=h';exact VRs.one h
theorem Lw (k:IntKind) (n:Int):wrp k n=k.wrap n:=by
 cases k <;> simp only[wrp] <;> first | rfl | (split <;> first | rfl | (rename_i h;simp[IntKind.wrap,IntKind.signed,IntKind.bits];omega))
theorem Zaa3 (n:Nat) (f:Nat→Option AV):natF n f=f n:=by cases n <;> rfl
theorem Ym (k:IntKind) (n:Int):Sx k n=some (.int k n):=by
 cases n <;> simp only[Sx,Zaa3]
theorem G5:∀{a b:List UInt8},Uv a b=true↔a=b
 | [],[]=>by simp[Uv]
 | a::x,b::y=>by
   simp only[Uv,Bool.and_eq_true,decide_eq_true_eq,G5,List.cons.injEq]
   constructor
   ·rintro⟨h,k⟩;exact⟨UInt8.toNat_inj.1 h,k⟩
   ·rintro⟨rfl,rfl⟩;exact⟨rfl,rfl⟩
 | [],_::_=>by simp[Uv]
 | _::_,[]=>by simp[Uv]
theorem Zvc (a b:List UInt8):Uv a b=(a == b):=by
 rw[Bool.eq_iff_iff,G5,beq_iff_eq]
theorem Zr7:∀(a b:List UInt8),Zkz a b=Op.bytesLess a b
 | [],[]=>rfl
 | [],_::_=>rfl
 | _::_,[]=>rfl
 | a::x,b::y=>by
   simp only[Zkz,Op.bytesLess,Zr7 x y]
   have h1:decide (a.toNat<b.toNat)=decide (a<b):=by rw[Bool.eq_iff_iff];simp[UInt8.lt_iff_toNat_lt]
   have h2:decide (a.toNat=b.toNat)=(a == b):=by
    rw[Bool.eq_iff_iff]
    simp only[decide_eq_true_eq,beq_iff_eq]
    exact⟨fun h=>UInt8.toNat_inj.1 h,fun h=>h▸rfl⟩
   rw[h1,h2]
end Go.Ev

/- Which abstract operation stands for which of the model's (decided by a plain function), and that the pure ones do what the model's do. -/
namespace Go.Ev
open Go
mutual
def Ek (X:Cx):AV→Value→Bool
 | .bool b,.bool c=>b == c
 | .int k n,.int j m=>decide (k=j) && decide (n=m)
 | .str s,.string c=>Uv s c.data.toList
 | .J8,.pointer none=>true
 | .Zc,.slice none n c=>n == 0 && c == 0
 | .Vi,.map none=>true
 | .Jx,.nilFunc=>true
 | .K6,.nilIface=>true
 | .fn f [] [],.func (.func g) a b=>X.φ f == g && (a.isEmpty && b.isEmpty)
 | .agg cs,.agg us=>Zdo X cs us.toList
 | .tuple cs,.tuple us=>Zdo X cs us.toList
 | _,_=>false
def Zdo (X:Cx):List AV→List Value→Bool
 | [],[]=>true
 | x::xs,u::us=>Ek X x u && Zdo X xs us
 | _,_=>false
end
variable {X : Cx} {N N' : Nu}
theorem Zxq {s:List UInt8} {c:ByteArray} (h:s=c.data.toList):(Value.string c)= .string ⟨s.toArray⟩:=by
 subst h;rfl
mutual
theorem Znm:∀(x:AV) (v:Value),Ek X x v=true→VR X N x v
 | .bool b,v,h=>by cases v <;> simp[Ek]at h;subst h;rfl
 | .int k n,v,h=>by cases v <;> simp[Ek]at h;obtain⟨rfl,rfl⟩:=h;rfl
 | .str s,v,h=>by
   cases v <;> simp[Ek]at h
   exact Zxq (G5.1 h)
 | .J8,v,h=>by
   cases v with
   | pointer a=>cases a <;> simp[Ek]at h;rfl
   | _=>simp[Ek]at h
 | .Zc,v,h=>by
   cases v with
   | slice a n c=>cases a <;> simp[Ek]at h;obtain⟨rfl,rfl⟩:=h;rfl
   | _=>simp[Ek]at h
 | .Vi,v,h=>by
   cases v with
   | map a=>cases a <;> simp[Ek]at h;rfl
   | _=>simp[Ek]at h
 | .Jx,v,h=>by cases v <;> simp[Ek]at h;rfl
 | .K6,v,h=>by cases v <;> simp[Ek]at h;rfl
 | .fn f xs ys,v,h=>by
   cases xs with
   | cons=>simp[Ek]at h
   | nil=>
     cases ys with
     | cons=>simp[Ek]at h
     | nil=>
       cases v with
       | func fn a b=>
         cases fn <;> simp[Ek]at h
         obtain⟨rfl,rfl,rfl⟩:=h
         exact⟨_,_,rfl,rfl,rfl⟩
       | _=>simp[Ek]at h
 | .agg cs,v,h=>by
   cases v <;> simp[Ek]at h
   exact⟨_,rfl,Cm cs _ h⟩
 | .tuple cs,v,h=>by
   cases v <;> simp[Ek]at h
   exact⟨_,rfl,Cm cs _ h⟩
 | .bot,v,h=>trivial
 | .ptr ..,v,h=>by cases v <;> simp[Ek]at h
 | .slice ..,v,h=>by cases v <;> simp[Ek]at h
 | .map ..,v,h=>by cases v <;> simp[Ek]at h
 | .yield ..,v,h=>by cases v <;> simp[Ek]at h
 | .iface ..,v,h=>by cases v <;> simp[Ek]at h
theorem Cm:∀(xs:List AV) (us:List Value),Zdo X xs us=true→VRs X N xs us
 | [],us,h=>by cases us <;> simp[Zdo]at h;rfl
 | x::xs,us,h=>by
   cases us with
   | nil=>simp[Zdo]at h
   | cons u us=>
     simp[Zdo]at h
     exact⟨u,us,rfl,Znm x u h.1,Cm xs us h.2⟩
end
def Jt (X:Cx):AO→Operand→Bool
 | .t n,.tmp m=>n == m
 | .k v,.const c=>Ek X v c
 | .k (.fn f [] []),.func g=>X.φ f == g
 | _,_=>false
def Wy (X:Cx):List AO→List Operand→Bool
 | [],[]=>true
 | a::as,x::xs=>Jt X a x && Wy X as xs
 | _,_=>false
def Zlf (X:Cx):Option AO→Option Operand→Bool
 | none,none=>true
 | some a,some x=>Jt X a x
 | _,_=>false
def Evs (X:Cx) (N:Nu) (ev:AO→AV) (r:Operand→Value):Prop:=∀a x,Jt X a x=true→VR X N (ev a) (r x)
theorem Evs.list {ev:AO→AV} {r:Operand→Value} (h:Evs X N ev r):∀{as:List AO} {xs:List Operand},Wy X as xs=true→VRs X N (as.map ev) (xs.map r)
 | [],xs,hc=>by cases xs <;> simp[Wy]at hc;rfl
 | a::as,xs,hc=>by
   cases xs with
   | nil=>simp[Wy]at hc
   | cons x xs=>
     simp[Wy]at hc
     exact⟨_,_,rfl,h a x hc.1,h.list hc.2⟩
def Zpr (X:Cx) (t:TypeId) (sz:Option Nat):Bool:=
 match X.P.underlying t with
 | some (.struct _) | some (.array _ _)=>(match X.P.info? t with | some i=>sz == some i.size | none=>false)
 | some _=>sz == none
 | none=>false
def Mx (X:Cx) (t:TypeId) (n:Nat):Bool:=match X.P.info? t with | some i=>i.size == n | none=>false
def Zaf (X:Cx) (t:TypeId) (zs:List AV):Bool:=
 match X.P.info? t with
 | some i=>(match i.zero with | some z=>Zdo X zs z.cells.toList | none=>false)
 | none=>false
theorem N4 {t n:Nat} (h:Mx X t n=true) (w:World):(sizeOf t).run X.P w= .ok n w:=by
 unfold Mx at h
 split at h
 ·rename_i i hi;simp at h;simp[sizeOf,typeInfo,hi,h]
 ·cases h
theorem Bo {t:TypeId} (h:Zpr X t none=true) (w:World):(isAgg t).run X.P w= .ok false w:=by
 unfold Zpr at h
 split at h
 ·split at h <;> simp at h
 ·split at h <;> simp at h
 ·rename_i d h1 h2 hd
  cases d <;> first | (exfalso;first | exact h1 _ rfl | exact h2 _ _ rfl) | simp[isAgg,run_underlying hd]
 ·cases h
theorem Bp {t n:Nat} (h:Zpr X t (some n)=true) (w:World):(isAgg t).run X.P w= .ok true w∧(sizeOf t).run X.P w= .ok n w:=by
 unfold Zpr at h
 split at h
 ·rename_i fs hd
  split at h
  ·rename_i i hi
   simp at h
   refine⟨by simp[isAgg,run_underlying hd],by simp[sizeOf,typeInfo,hi,h]⟩
  ·cases h
 ·rename_i a e hd
  split at h
  ·rename_i i hi
   simp at h
   refine⟨by simp[isAgg,run_underlying hd],by simp[sizeOf,typeInfo,hi,h]⟩
  ·cases h
 ·simp at h
 ·cases h
theorem Zrz {t:TypeId} {sz:Option Nat} {cs:List AV} {us:Array Value} {off:Nat} {v:AV} (hz:Zpr X t sz=true) (h:VRs X N cs us.toList)
  (hp:apart cs off sz=some v) (w:World):∃u,(part t us off).run X.P w= .ok u w∧VR X N v u:=by
 cases sz with
 | none=>
   obtain⟨u,hu,hv⟩:=h.get hp
   refine⟨u,?_,hv⟩
   rw[Array.getElem?_toList]at hu
   simp[part,Bo hz,hu]
 | some n=>
   simp only[apart]at hp
   split at hp
   ·rename_i hle
    cases hp
    obtain⟨h1,h2⟩:=Bp hz w
    refine⟨.agg (us.extract off (off+n)),by simp[part,h1,h2],_,rfl,?_⟩
    have:=(h.drop off).take n
    rw[Array.toList_extract,List.extract_eq_drop_take',List.drop_take,Nat.add_sub_cancel_left]
    exact this
   ·cases hp
end Go.Ev

/- The pure operations do what the model's do. -/
namespace Go.Ev
open Go
variable {X : Cx} {N N' : Nu}
theorem Dz {op:BinOp} {t:TypeId} {x y:Operand} {u v:Value} {P:Program} {w:World}
  (h:¬(u= .nilIface)∧∀a,u≠.agg a):(eqGuard op t x y u v).run P w= .ok () w:=by
 obtain⟨h1,h2⟩:=h
 cases u <;> first | (exact absurd rfl h1) | (exact absurd rfl (h2 _)) | (cases op <;> rfl)
theorem Ztn {op:BinOp} {k:IntKind} {a b:Int} {t:TypeId} {z:AV} (h:F7 op k a b=some z) (hs:¬(op= .shl∨op= .shr)) (P:Program) (w:World):
  ∃r,(binOp op t (.int k a) (.int k b)).run P w= .ok r w∧VR X N z r:=by
 cases op <;> simp only[F7,Ym,Option.some.injEq,Lw]at h <;>
  first
  | exact absurd (Or.inl rfl) hs
  | exact absurd (Or.inr rfl) hs
  | (subst h;refine⟨.bool (a == b),by simp[binOp,Op.intCmp];done,?_⟩;simp only[VR,Value.bool.injEq];rw[Bool.eq_iff_iff];simp;done)
  | (subst h;refine⟨.bool (a != b),by simp[binOp,Op.intCmp];done,?_⟩;simp only[VR,Value.bool.injEq];rw[Bool.eq_iff_iff];simp;done)
  | (subst h;exact⟨_,by simp[binOp,Op.intArith,Op.intBits,Op.intCmp];rfl,by simp[VR]⟩)
  | (split at h
     ·cases h
     ·rename_i hb
      simp only[Option.some.injEq]at h
      subst h
      exact⟨_,by simp[binOp,Op.intDiv,hb];rfl,by simp[VR]⟩)
theorem Zt9 {op:BinOp} {a b:List UInt8} {t:TypeId} {z:AV} (h:Zr4 op a b=some z) (P:Program) (w:World):
  ∃r,(binOp op t (.string ⟨a.toArray⟩) (.string ⟨b.toArray⟩)).run P w= .ok r w∧VR X N z r:=by
 have ta:(⟨a.toArray⟩:ByteArray).toList=a:=by rw[Lib.toList_data]
 have tb:(⟨b.toArray⟩:ByteArray).toList=b:=by rw[Lib.toList_data]
 cases op <;> simp only[Zr4,Option.some.injEq,Zvc,Zr7]at h <;>
  first
  | (subst h;exact⟨_,by simp[binOp,Op.stringOp,ta,tb];rfl,by simp[VR]⟩)
  | (cases h;done)
  | (split at h
     ·rename_i hb
      simp only[Option.some.injEq]at h
      subst h
      refine⟨.string (⟨a.toArray⟩++⟨b.toArray⟩),?_,?_⟩
      ·have:¬(((⟨a.toArray⟩:ByteArray).size+(⟨b.toArray⟩:ByteArray).size:Nat):Int) > IntKind.i64.max:=by
        simp[IntKind.max,IntKind.signed,IntKind.bits,ByteArray.size];omega
       simp only[binOp,Op.stringOp,this,if_false];rfl
      ·simp only[VR,Value.string.injEq]
       apply ByteArray.ext
       simp[ByteArray.data_append]
     ·cases h)
def Zu5 (X:Cx) (t:TypeId) (k:Nat):Bool:=
 match k,X.P.underlying t with
 | 0,some (.pointer e)=>(X.P.info? e).isSome
 | 1,some (.slice _) | 2,some (.map _ _) | 3,some (.func _ _ _)=>true
 | _,_=>false
theorem Zrh (D k:Nat) {x y:AV} {u v:Value} {t:TypeId} {b:Bool} (ht:Zu5 X t k=true) (hx:VR X N x u) (hy:VR X N y v) (h:Sg k x y=some b) (w:World):
  (Op.equalIn (D+1) t u v).run X.P w= .ok b w:=by
 unfold Zu5 at ht
 split at ht
 case h_5=>cases ht
 all_goals
  rename_i hd
  unfold Sg at h
  split at h <;> first | (exfalso;omega) | (cases h;done) | skip
  all_goals
   try
    split at h
    case isFalse=>cases h
    rename_i hno
    obtain⟨rfl,rfl⟩:=hno
    cases h
    obtain⟨a,ha,rfl⟩:=hx
    obtain⟨c,hc,rfl⟩:=hy
    rw[ha]at hc
    cases hc
    obtain⟨j,hj⟩:=Option.isSome_iff_exists.1 ht
    simp[Op.equalIn,run_underlying hd,sizeOf,typeInfo,hj,run_sameAddr_same]
    done
  all_goals
   cases h
   simp only[VR]at hx hy
   first
    | (subst hx;subst hy;simp[Op.equalIn,run_underlying hd];done)
    | (obtain⟨a,ha,rfl⟩:=hy;subst hx;simp[Op.equalIn,run_underlying hd];done)
    | (obtain⟨a,ha,rfl⟩:=hx;subst hy;simp[Op.equalIn,run_underlying hd];done)
    | (obtain⟨a,cp,ha,rfl,_⟩:=hy;subst hx;simp[Op.equalIn,run_underlying hd];done)
    | (obtain⟨a,cp,ha,rfl,_⟩:=hx;subst hy;simp[Op.equalIn,run_underlying hd];done)
    | (obtain⟨us,vs,rfl,_⟩:=hy;subst hx;simp[Op.equalIn,run_underlying hd];done)
    | (obtain⟨us,vs,rfl,_⟩:=hx;subst hy;simp[Op.equalIn,run_underlying hd];done)
end Go.Ev

/- '==' of structs and arrays of plain cells. -/
namespace Go.Ev
open Go
variable {X : Cx} {N N' : Nu}
def Zib (X:Cx) (t:TypeId) (n:Nat):Bool:=match X.P.info? t with | some i=>decide (i.size=n) | none=>false
def Zn3 (X:Cx) (g:TypeId→Option (List Kd)):Nat→List Field→Option (List Kd)
 | _,[]=>some []
 | off,f::fs=>
   if f.name= "_" ∨f.offset≠off then none else
   match g f.type with
   | some l=>(match Zn3 X g (off+l.length) fs with | some r=>some (l++r) | none=>none)
   | none=>none
def Se (l:List Kd):Nat→List Kd
 | 0=>[]
 | n+1=>l++Se l n
def Zgz (X:Cx):Nat→TypeId→Option (List Kd)
 | 0,_=>none
 | d+1,t=>
   match X.P.underlying t with
   | some .bool=>if Zib X t 1=true then some [.b]else none
   | some (.int k)=>if Zib X t 1=true then some [.i k]else none
   | some .string=>if Zib X t 1=true then some [.s]else none
   | some (.struct fs)=>
     if X.P.stoodInHeld t=true then none else
     (match Zn3 X (Zgz X d) 0 fs.toList with | some l=>if Zib X t l.length=true then some l else none | none=>none)
   | some (.array n e)=>
     if n=0 then none else
     (match Zgz X d e with | some l=>if Zib X t (Se l n).length=true then some (Se l n)else none | none=>none)
   | _=>none
def valOf (X:Cx) (t:TypeId) (us:List Value):Value:=
 match X.P.underlying t with
 | some (.struct _) | some (.array _ _)=> .agg us.toArray
 | _=>us.headD undef
theorem Zm6 {t n:Nat} (h:Zib X t n=true):∃i,X.P.info? t=some i∧i.size=n:=by
 unfold Zib at h
 split at h
 ·rename_i i hi;exact⟨i,hi,by simpa using h⟩
 ·cases h
theorem Wk:∀{ks:List Kd} {x y:List AV} {b:Bool},Qu ks x y=some b→x.length=ks.length∧y.length=ks.length
 | [],[],[],_,_=>⟨rfl,rfl⟩
 | [],_::_,_,_,h=>by simp[Qu]at h
 | [],[],_::_,_,h=>by simp[Qu]at h
 | k::ks,[],_,_,h=>by simp[Qu]at h
 | k::ks,_::_,[],_,h=>by simp[Qu]at h
 | k::ks,a::x,c::y,b,h=>by
   simp only[Qu]at h
   split at h
   ·have:=Wk h;simp[this]
   ·split at h
    ·rename_i hl;simp[hl]
    ·cases h
   ·cases h
theorem C8:∀{k1 k2:List Kd} {x y:List AV} {b:Bool},Qu (k1++k2) x y=some b→
  ∃b1,Qu k1 (x.take k1.length) (y.take k1.length)=some b1∧(b1=false→b=false)∧(b1=true→Qu k2 (x.drop k1.length) (y.drop k1.length)=some b)
 | [],k2,x,y,b,h=>⟨true,rfl,(fun h=>by cases h),fun _=>h⟩
 | k::k1,k2,[],y,b,h=>by simp[Qu]at h
 | k::k1,k2,_::_,[],b,h=>by simp[Qu]at h
 | k::k1,k2,a::x,c::y,b,h=>by
   have hlen:=Wk h
   simp only[List.cons_append,Qu]at h
   simp only[List.length_cons,List.take_succ_cons,List.drop_succ_cons,Qu]
   split at h
   ·rename_i he
    obtain⟨b1,h1,h2,h3⟩:=C8 h
    exact⟨b1,h1,h2,h3⟩
   ·rename_i he
    split at h
    ·cases h
     refine⟨false,?_,(fun _=>rfl),(fun h=>by cases h)⟩
     rw[if_pos]
     simp only[List.length_cons,List.length_append]at hlen
     simp only[List.length_take]
     omega
    ·cases h
   ·cases h
def Zdf (X:Cx) (t:TypeId):Bool:=match X.P.underlying t with | some (.struct _) | some (.array _ _)=>true | _=>false
theorem A1 {d t:Nat} {ks:List Kd} (hf:Zgz X d t=some ks) {us:Array Value} {off:Nat} (hlen:off+ks.length≤us.size) (w:World):
  Zib X t ks.length=true∧(part t us off).run X.P w= .ok (valOf X t ((us.toList.drop off).take ks.length)) w:=by
 cases d with
 | zero=>cases hf
 | succ d=>
   unfold Zgz at hf
   have scalar:∀kd,X.P.underlying t=some kd→Zdf X t=false→ks.length=1→Zib X t 1=true→
     Zib X t ks.length=true∧(part t us off).run X.P w= .ok (valOf X t ((us.toList.drop off).take ks.length)) w:=by
    intro kd hd ha hk hsz
    refine⟨by rw[hk];exact hsz,?_⟩
    rw[hk]at hlen⊢
    have Zh:us[off]? =some (us[off]'(by omega)):=Array.getElem?_eq_getElem (by omega)
    have hv:valOf X t ((us.toList.drop off).take 1)=us[off]'(by omega):=by
     have:(us.toList.drop off).take 1=[us[off]'(by omega)]:=by
      rw[List.take_one,List.head?_drop,Array.getElem?_toList,Zh];rfl
     rw[this]
     unfold valOf
     rw[hd]
     cases kd <;> first | rfl | (simp[Zdf,hd]at ha;done)
    rw[hv]
    cases kd <;> first | (simp[Zdf,hd]at ha;done) | simp[part,isAgg,run_underlying hd,Zh]
   have agg:∀kd,X.P.underlying t=some kd→Zdf X t=true→Zib X t ks.length=true→
     Zib X t ks.length=true∧(part t us off).run X.P w= .ok (valOf X t ((us.toList.drop off).take ks.length)) w:=by
    intro kd hd ha hsz
    refine⟨hsz,?_⟩
    obtain⟨i,hi,hs⟩:=Zm6 hsz
    have hv:valOf X t ((us.toList.drop off).take ks.length)= .agg (us.extract off (off+ks.length)):=by
     have:us.extract off (off+ks.length)=((us.toList.drop off).take ks.length).toArray:=by
      apply Array.ext'
      rw[Array.toList_extract,List.extract_eq_drop_take',List.drop_take,Nat.add_sub_cancel_left]
     rw[this]
     unfold valOf
     rw[hd]
     cases kd <;> first | rfl | (simp[Zdf,hd]at ha;done)
    rw[hv]
    cases kd <;> first | (simp[Zdf,hd]at ha;done) | simp[part,isAgg,run_underlying hd,sizeOf,typeInfo,hi,hs]
   split at hf
   ·rename_i hd
    split at hf
    ·rename_i hsz;cases hf;exact scalar _ hd (by simp[Zdf,hd]) rfl hsz
    ·cases hf
   ·rename_i k hd
    split at hf
    ·rename_i hsz;cases hf;exact scalar _ hd (by simp[Zdf,hd]) rfl hsz
    ·cases hf
   ·rename_i hd
    split at hf
    ·rename_i hsz;cases hf;exact scalar _ hd (by simp[Zdf,hd]) rfl hsz
    ·cases hf
   ·rename_i fs hd
    split at hf
    ·cases hf
    ·split at hf
     ·split at hf
      ·rename_i hsz;cases hf;exact agg _ hd (by simp[Zdf,hd]) hsz
      ·cases hf
     ·cases hf
   ·rename_i n e hd
    split at hf
    ·cases hf
    split at hf
    ·split at hf
     ·rename_i hsz;cases hf;exact agg _ hd (by simp[Zdf,hd]) hsz
     ·cases hf
    ·cases hf
   ·cases hf
theorem Tt {k:Kd} {a c:AV} {u v:Value} {b:Bool} (hu:VR X N a u) (hv:VR X N c v) (h:Qo k a c=some b):
  (∃p q,k= .b∧u= .bool p∧v= .bool q∧b=(p == q))∨(∃j p q,k= .i j∧u= .int j p∧v= .int j q∧b=(p == q))∨
    ∃p q:List UInt8,k= .s∧u= .string ⟨p.toArray⟩∧v= .string ⟨q.toArray⟩∧b=(p == q):=by
 unfold Qo at h
 split at h
 ·cases h;exact .inl ⟨_,_,rfl,hu,hv,rfl⟩
 ·split at h
  ·rename_i hjl
   obtain⟨rfl,rfl⟩:=hjl
   cases h
   refine .inr (.inl ⟨_,_,_,rfl,hu,hv,?_⟩)
   rw[Bool.eq_iff_iff];simp
  ·cases h
 ·cases h;exact .inr (.inr ⟨_,_,rfl,hu,hv,Zvc _ _⟩)
 ·cases h
theorem T8:∀(d:Nat) (t:TypeId) (ks:List Kd),Zgz X d t=some ks→∀(D:Nat) (xs ys:List AV) (us vs:List Value) (b:Bool) (w:World),VRs X N xs us→VRs X N ys vs→Qu ks xs ys=some b→
  (Op.equalIn (D+d) t (valOf X t us) (valOf X t vs)).run X.P w= .ok b w
 | 0,t,ks,hf,_,_,_,_,_,_,_,_,_,_=>by cases hf
 | d+1,t,ks,hf,D,xs,ys,us,vs,b,w,hx,hy,he=>by
   unfold Zgz at hf
   have one:∀{k:Kd},ks=[k]→∃a c u v,us=[u]∧vs=[v]∧VR X N a u∧VR X N c v∧Qo k a c=some b:=by
    intro k hk
    subst hk
    obtain⟨l1,l2⟩:=Wk he
    obtain⟨a,rfl⟩:=List.length_eq_one_iff.1 l1
    obtain⟨c,rfl⟩:=List.length_eq_one_iff.1 l2
    obtain⟨u,ur,rfl,hu,hur⟩:=hx
    obtain⟨v,vr,rfl,hv,hvr⟩:=hy
    cases hur;cases hvr
    refine⟨a,c,u,v,rfl,rfl,hu,hv,?_⟩
    simp only[Qu]at he
    split at he
    ·rename_i h;cases he;exact h
    ·rename_i h;simp at he;subst he;exact h
    ·cases he
   split at hf
   ·rename_i hd
    split at hf
    ·cases hf
     obtain⟨a,c,u,v,rfl,rfl,hu,hv,hc⟩:=one rfl
     rcases Tt hu hv hc with ⟨p,q,_,rfl,rfl,rfl⟩ | ⟨j,p,q,hk,_⟩ | ⟨p,q,hk,_⟩
     ·simp[valOf,hd,←Nat.add_assoc,Op.equalIn,run_underlying hd]
     ·cases hk
     ·cases hk
    ·cases hf
   ·rename_i k hd
    split at hf
    ·cases hf
     obtain⟨a,c,u,v,rfl,rfl,hu,hv,hc⟩:=one rfl
     rcases Tt hu hv hc with ⟨p,q,hk,_⟩ | ⟨j,p,q,hk,rfl,rfl,rfl⟩ | ⟨p,q,hk,_⟩
     ·cases hk
     ·simp[valOf,hd,←Nat.add_assoc,Op.equalIn,run_underlying hd]
     ·cases hk
    ·cases hf
   ·rename_i hd
    split at hf
    ·cases hf
     obtain⟨a,c,u,v,rfl,rfl,hu,hv,hc⟩:=one rfl
     rcases Tt hu hv hc with ⟨p,q,hk,_⟩ | ⟨j,p,q,hk,_⟩ | ⟨p,q,_,rfl,rfl,rfl⟩
     ·cases hk
     ·cases hk
     ·have:((⟨p.toArray⟩:ByteArray) == ⟨q.toArray⟩)=(p == q):=by
       rw[beq_toListBytes,Lib.toList_data,Lib.toList_data]
      simp[valOf,hd,←Nat.add_assoc,Op.equalIn,run_underlying hd,this]
    ·cases hf
   ·rename_i fs hd
    split at hf
    ·cases hf
    ·rename_i hst
     split at hf
     ·rename_i l hl
      split at hf
      ·cases hf
       have hfo:X.P.fieldsOf t=fs:=by simp[Program.fieldsOf,hd]
       have hv:∀us,valOf X t us= .agg us.toArray:=fun us=>by simp[valOf,hd]
       rw[hv,hv,←Nat.add_assoc,run_equalIn_struct w (D+d) t _ _ (by rw[hfo];exact hd) (by simpa using hst),hfo]
       have key:∀(fs:List Field) (off:Nat) (ks:List Kd),Zn3 X (Zgz X d) off fs=some ks→Qu ks (xs.drop off) (ys.drop off)=some b→off+ks.length=us.length→off+ks.length=vs.length→
         (Op.eqFields (D+d) us.toArray vs.toArray fs).run X.P w= .ok b w:=by
        intro fs
        induction fs with
        | nil=>
          intro off ks hfl hc _ _
          cases hfl
          have:b=true:=by
           obtain⟨l1,l2⟩:=Wk hc
           have e1:xs.drop off=[]:=List.length_eq_zero_iff.1 l1
           have e2:ys.drop off=[]:=List.length_eq_zero_iff.1 l2
           rw[e1,e2]at hc
           simp[Qu]at hc
           exact hc
          subst this
          simp[Op.eqFields]
        | cons f fs ih=>
          intro off ks hfl hc hu1 hu2
          simp only[Zn3]at hfl
          split at hfl
          ·cases hfl
          ·rename_i hno
           have hn:f.name≠ "_" :=fun h=>hno (.inl h)
           have ho:f.offset=off:=by
            by_cases h:f.offset=off
            ·exact h
            ·exact absurd (.inr h) hno
           split at hfl
           ·rename_i l1 hl1
            split at hfl
            ·rename_i r hr
             cases hfl
             obtain⟨c1,c2⟩:=Wk hc
             simp only[List.length_drop,List.length_append]at c1 c2 hu1 hu2
             obtain⟨b1,h1,h2,h3⟩:=C8 hc
             have hxl:=hx.length
             have hyl:=hy.length
             obtain⟨_,p1⟩:=A1 hl1 (us:=us.toArray) (off:=off) (by simp only[List.size_toArray];omega) w
             obtain⟨_,p2⟩:=A1 hl1 (us:=vs.toArray) (off:=off) (by simp only[List.size_toArray];omega) w
             have he1:=T8 d f.type l1 hl1 D _ _ _ _ b1 w ((hx.drop off).take l1.length) ((hy.drop off).take l1.length) h1
             simp only[Op.eqFields,if_pos hn,ho,Sem.run_bind,p1,p2,Result.andThen_ok,he1]
             cases b1 with
             | false=>rw[h2 rfl];simp
             | true=>
               have:=h3 rfl
               rw[List.drop_drop,List.drop_drop]at this
               simp only[Bool.not_true,Bool.false_eq_true,if_false]
               exact ih _ _ hr this (by omega) (by omega)
            ·cases hfl
           ·cases hfl
       obtain⟨c1,c2⟩:=Wk he
       have hxl:=hx.length
       have hyl:=hy.length
       exact key fs.toList 0 ks hl (by simpa using he) (by omega) (by omega)
      ·cases hf
     ·cases hf
   ·rename_i n e hd
    split at hf
    ·cases hf
    rename_i hn0
    split at hf
    ·rename_i l hl
     split at hf
     ·cases hf
      have hv:∀us,valOf X t us= .agg us.toArray:=fun us=>by simp[valOf,hd]
      rw[hv,hv,←Nat.add_assoc]
      obtain⟨c1,c2⟩:=Wk he
      have hxl:=hx.length
      have hyl:=hy.length
      cases n with
      | zero=>exact absurd rfl hn0
      | succ n=>
      have hlpos:(Se l (n+1)).length=l.length+(Se l n).length:=by simp[Se]
      obtain⟨hsz,_⟩:=A1 hl (us:=us.toArray) (off:=0) (by simp only[List.size_toArray];omega) w
      obtain⟨i,hi,his⟩:=Zm6 hsz
      have hce:X.P.cellsOf e=l.length:=by rw[←his];simp[Program.cellsOf,hi]
      rw[run_equalIn_array w (D+d) _ _ hd hi,hce]
      have key:∀(m j:Nat),Qu (Se l m) (xs.drop (j*l.length)) (ys.drop (j*l.length))=some b→j*l.length+(Se l m).length=us.length→j*l.length+(Se l m).length=vs.length→
        (Op.eqItems (D+d) e l.length us.toArray vs.toArray (List.range' j m)).run X.P w= .ok b w:=by
       intro m
       induction m with
       | zero=>
         intro j hc _ _
         have:b=true:=by
          obtain⟨l1,l2⟩:=Wk hc
          have e1:xs.drop (j*l.length)=[]:=List.length_eq_zero_iff.1 l1
          have e2:ys.drop (j*l.length)=[]:=List.length_eq_zero_iff.1 l2
          rw[e1,e2]at hc
          simp[Se,Qu]at hc
          exact hc
         subst this
         simp[Op.eqItems]
       | succ m ih=>
         intro j hc hu1 hu2
         simp only[Se]at hc
         simp only[Se,List.length_append]at hu1 hu2
         obtain⟨b1,h1,h2,h3⟩:=C8 hc
         obtain⟨_,p1⟩:=A1 hl (us:=us.toArray) (off:=j*l.length) (by simp only[List.size_toArray];omega) w
         obtain⟨_,p2⟩:=A1 hl (us:=vs.toArray) (off:=j*l.length) (by simp only[List.size_toArray];omega) w
         have he1:=T8 d e l hl D _ _ _ _ b1 w ((hx.drop (j*l.length)).take l.length) ((hy.drop (j*l.length)).take l.length) h1
         rw[List.range'_succ]
         simp only[Op.eqItems,Sem.run_bind,p1,p2,Result.andThen_ok,he1]
         cases b1 with
         | false=>rw[h2 rfl];simp
         | true=>
           have:=h3 rfl
           rw[List.drop_drop,List.drop_drop]at this
           simp only[Bool.not_true,Bool.false_eq_true,if_false]
           have hj:j*l.length+l.length=(j+1)*l.length:=by rw[Nat.add_mul];omega
           rw[hj]at this
           exact ih (j+1) this (by omega) (by omega)
      rw[List.range_eq_range']
      exact key (n+1) 0 (by simpa using he) (by omega) (by omega)
     ·cases hf
    ·cases hf
   ·cases hf
end Go.Ev

/- The pure operations: the check, and that each does what the model's does. -/
namespace Go.Ev
open Go
variable {X : Cx} {N N' : Nu}
def Zaiq:BinOp→Bool
 | .eql | .neq=>false
 | _=>true
def Ej (X:Cx) (place:Nat→Option (Nat×Nat)):List (Nat×Nat×AO)→List (Nat×Operand)→Bool
 | [],[]=>true
 | (off,sz,a)::ps,(i,x)::qs=>(place i == some (off,sz)) && (Jt X a x && Ej X place ps qs)
 | _,_=>false
def cells? (X:Cx) (t:TypeId):Option Nat:=(X.P.info? t).map (·.size)
def Eo (X:Cx):List Field→Option (List (Nat×Nat))
 | []=>some []
 | f::fs=>match cells? X f.type,Eo X fs with | some n,some r=>some ((f.offset,n)::r) | _,_=>none
theorem Sh:∀{fs:List Field} {pl:List (Nat×Nat)},Eo X fs=some pl→∀w:World,
  (fs.mapM fun f=>(do pure (f.offset,←sizeOf f.type):Sem (Nat×Nat))).run X.P w= .ok pl w
 | [],pl,h,w=>by cases h;rfl
 | f::fs,pl,h,w=>by
   simp only[Eo,cells?]at h
   cases hi:X.P.info? f.type with
   | none=>rw[hi]at h;cases h
   | some i=>
     rw[hi]at h
     simp only[Option.map_some]at h
     cases hr:Eo X fs with
     | none=>rw[hr]at h;cases h
     | some r=>
       rw[hr]at h
       cases h
       have ih:=Sh hr w
       simp only[List.mapM_cons,Sem.run_bind,sizeOf,typeInfo,run_program,Result.andThen_ok,hi,Sem.run_pure]at ih⊢
       simp only[ih,Result.andThen_ok]
def chkP (X:Cx):Op→PO→Bool
 | .move x,.Za a=>Jt X a x
 | .assign x,.Za a=>Jt X a x
 | .pick c a b,.pick c' a' b'=>Jt X c' c && (Jt X a' a && Jt X b' b)
 | .binOp op _ x y _,.bin op' a b=>
   decide (op=op') && (Jt X a x && Jt X b y)
 | .binOp op t x y _,.eqB neg a b=>
   (match op with | .eql=> !neg | .neq=>neg | _=>false) && ((match X.P.underlying t with | some .bool=>true | _=>false) && (Jt X a x && Jt X b y))
 | .binOp op t x y _,.eqN neg k a b=>
   (match op with | .eql=> !neg | .neq=>neg | _=>false) && (Zu5 X t k && (Jt X a x && Jt X b y))
 | .binOp op t x y _,.eqA neg ks a b=>
   (match op with | .eql=> !neg | .neq=>neg | _=>false) && (Zdf X t && ((match Zgz X 20 t with | some l=>decide (l=ks) | none=>false) &&
     (!X.P.eqGuardType X.P.depth t && (Jt X a x && Jt X b y))))
 | .unOp op _ x,.un op' a=>decide (op=op') && Jt X a x
 | .convert s d x,.conv k a=>
   (match X.P.underlying s,X.P.underlying d with | some (.int _),some (.int k')=>decide (k=k') | _,_=>false) && Jt X a x
 | .convert s d x,.r2s a=>
   (match X.P.underlying s,X.P.underlying d with | some (.int _),some .string=>true | _,_=>false) && Jt X a x
 | .convert s d x,.same a=>
   (match X.P.underlying s,X.P.underlying d with | some .string,some .string=>true | _,_=>false) && Jt X a x
 | .makeFunc (.func f) xs ys,.Pz g as bs=>X.φ g == f && (Wy X as xs.toList && Wy X bs ys.toList)
 | .build t ps,.build z qs=>
   Zaf X t z && (match X.P.underlying t with
    | some (.struct fs)=>(match Eo X fs.toList with | some pl=>Ej X (pl.toArray[·]?) qs ps.toList | none=>false)
    | some (.array _ e)=>(match cells? X e with | some n=>Ej X (fun i=>some (i*n,n)) qs ps.toList | none=>false)
    | _=>false)
 | .fieldAddr s x f,.Zi off a=>
   (match X.P.underlying s with
     | some (.struct fs)=>(match fs[f]? with | some g=>g.offset == off && (match cells? X g.type with | some n=>n != 0 | none=>false) | none=>false)
     | _=>false) && Jt X a x
 | .field s x f,.field off sz a=>
   (match X.P.underlying s with
     | some (.struct fs)=>(match fs[f]? with | some g=>g.offset == off && Zpr X g.type sz | none=>false)
     | _=>false) && Jt X a x
 | .indexAddr t x i,.Nq len es a b=>
   (match X.P.underlying t with | some (.array n e)=>n == len && Mx X e es | _=>false) && (Jt X a x && Jt X b i)
 | .indexAddr t x i,.Zu es a b=>
   (match X.P.underlying t with | some (.slice e)=>Mx X e es | _=>false) && (Jt X a x && Jt X b i)
 | .index t x i,.Zhv len es sz a b=>
   (match X.P.underlying t with | some (.array n e)=>n == len && (Mx X e es && Zpr X e sz) | _=>false) && (Jt X a x && Jt X b i)
 | .index t x i,.J7 a b=>
   (match X.P.underlying t with | some .string=>true | _=>false) && (Jt X a x && Jt X b i)
 | .slice t x lo hi mx,.B5 a l h=>
   (match X.P.underlying t with | some .string=>mx.isNone | _=>false) && (Jt X a x && (Zlf X l lo && Zlf X h hi))
 | .slice t x lo hi mx,.Zia es a l h m=>
   (match X.P.underlying t with | some (.slice e)=>Mx X e es | _=>false) && (Jt X a x && (Zlf X l lo && (Zlf X h hi && Zlf X m mx)))
 | .slice t x lo hi mx,.Zmf n es a l h m=>
   (match X.P.underlying t with | some (.array k e)=>k == n && Mx X e es | _=>false) && (Jt X a x && (Zlf X l lo && (Zlf X h hi && Zlf X m mx)))
 | .extract x i,.Zq j a=>i == j && Jt X a x
 | .nilCheck x,.Xd a=>Jt X a x
 | .makeInterface t x,.iface s a=>X.τ s == t && ((match X.P.underlying t with | some (.interface _) | none=>false | _=>true) && Jt X a x)
 | .call {callee:= .builtin .len,args,argTypes},.lenOf str a=>
   (match argTypes[0]? with | some t=>(match X.P.underlying t with | some .string=>str | some (.slice _)=> !str | _=>false) | none=>false) &&
     (match args.toList with | [x]=>Jt X a x | _=>false)
 | .call {callee:= .builtin .len,args,argTypes},.Zmw (.int .i64 n)=>
   (match argTypes[0]? with
     | some t=>(match X.P.underlying t with
       | some (.array k _)=>decide ((k:Int)=n)
       | some (.pointer arr)=>(match X.P.underlying arr with | some (.array k _)=>decide ((k:Int)=n) | _=>false)
       | _=>false)
     | none=>false) && args.size == 1
 | .call {callee:= .builtin .cap,args,argTypes},.capOf a=>
   (match argTypes[0]? with | some t=>(match X.P.underlying t with | some (.slice _)=>true | _=>false) | none=>false) &&
     (match args.toList with | [x]=>Jt X a x | _=>false)
 | .call {callee:= .builtin .unsafeSliceData,args,..},.Zc2 a=>(match args.toList with | [x]=>Jt X a x | _=>false)
 | .call {callee:= .builtin .max,args,..},.Bl true as=>Wy X as args.toList
 | .call {callee:= .builtin .min,args,..},.Bl false as=>Wy X as args.toList
 | _,.stuck=>true
 | _,_=>false
theorem Zss {op:BinOp} {x y z:AV} {u v:Value} {t:TypeId} (hx:VR X N x u) (hy:VR X N y v) (h:Uh op x y=some z) (a b:Operand) (w:World):
  ∃r,(do eqGuard op t a b u v;binOp op t u v:Sem Value).run X.P w= .ok r w∧VR X N z r:=by
 unfold Uh at h
 split at h
 ·rename_i k p k' q
  simp only[VR]at hx hy
  subst hx;subst hy
  have hg:(eqGuard op t a b (.int k p) (.int k' q)).run X.P w= .ok () w:=Dz ⟨by simp,by simp⟩
  split at h
  ·split at h
   ·cases h
   ·rename_i hq
    simp only[Ym,Option.some.injEq,Lw]at h
    subst h
    refine⟨.int k (k.wrap (p*2 ^ min q.toNat k.bits)),?_,?_⟩
    ·simp[hg,binOp,Op.shift,hq]
    ·simp[VR]
  ·split at h
   ·cases h
   ·rename_i hq
    simp only[Ym,Option.some.injEq]at h
    subst h
    refine⟨.int k (p.fdiv (2 ^ min q.toNat k.bits)),?_,?_⟩
    ·simp[hg,binOp,Op.shift,hq]
    ·simp[VR]
  ·rename_i h1 h2
   split at h
   ·rename_i hk
    subst hk
    obtain⟨r,hr,hv⟩:=Ztn (t:=t) (N:=N) h (by rintro(e | e);exact h1 e;exact h2 e) X.P w
    exact⟨r,by simp[hg,hr],hv⟩
   ·cases h
 ·rename_i p q
  simp only[VR]at hx hy
  subst hx;subst hy
  obtain⟨r,hr,hv⟩:=Zt9 (X:=X) (N:=N) (t:=t) h X.P w
  have hg:(eqGuard op t a b (.string ⟨p.toArray⟩) (.string ⟨q.toArray⟩)).run X.P w= .ok () w:=Dz ⟨by simp,by simp⟩
  exact⟨r,by simp[hg,hr],hv⟩
 ·cases h
theorem Zvj {op:UnOp} {x z:AV} {u:Value} (hx:VR X N x u) (h:aun op x=some z) (w:World):
  ∃r,(Op.unary op u).run X.P w= .ok r w∧VR X N z r:=by
 unfold aun at h
 split at h
 ·simp only[VR]at hx;subst hx
  simp only[Ym,Option.some.injEq,Lw]at h;subst h
  exact⟨_,by simp[Op.unary,Op.intArith];rfl,by simp[VR]⟩
 ·simp only[VR]at hx;subst hx
  simp only[Ym,Option.some.injEq,Lw]at h;subst h
  exact⟨_,by simp[Op.unary,Op.intBits];rfl,by simp[VR]⟩
 ·simp only[VR]at hx;subst hx
  cases h
  exact⟨_,by simp[Op.unary];rfl,by simp[VR]⟩
 ·cases h
theorem Dw {x:AV} {u:Value} {y y' n:Nat} (hx:VR X N x u) (hy:y≤y') (h:Yc x y=some n) (c:BoundsCode) (w:World):
  (Instr.sliceBound u y' c).run X.P w= .ok n w:=by
 unfold Yc at h
 split at h
 ·split at h
  ·rename_i hb
   cases h
   simp only[VR]at hx;subst hx
   have:_∧_:=⟨hb.1,Int.le_trans hb.2 (Int.ofNat_le.2 hy)⟩
   simp[Instr.sliceBound,asIntOf,this]
  ·cases h
 ·cases h
theorem Ck {x:AV} {y n:Nat} (h:Yc x y=some n):n≤y:=by
 unfold Yc at h
 split at h
 ·split at h
  ·cases h;omega
  ·cases h
 ·cases h
theorem Zgq {mx:Bool} {x z:AV} {ys:List AV} {u:Value} {vs:List Value} (hx:VR X N x u) (hy:VRs X N ys vs) (h:Zde mx x ys=some z) (w:World):
  ∃r,(vs.foldlM (if mx then Builtin.max2 else Builtin.min2) u).run X.P w= .ok r w∧VR X N z r:=by
 induction ys generalizing x u vs with
 | nil=>simp only[VRs]at hy;subst hy;cases h;exact⟨u,by simp,hx⟩
 | cons y ys ih=>
   simp only[VRs]at hy
   obtain⟨v,vr,rfl,hv,hs⟩:=hy
   simp only[Zde]at h
   split at h
   ·rename_i m hm
    unfold O4 at hm
    split at hm
    ·rename_i k p k' q
     simp only[VR]at hx hv
     subst hx;subst hv
     cases hm
     obtain⟨r,hr,hz⟩:=ih (u:= .int k (if mx then(if q > p then q else p)else(if q<p then q else p))) (by simp[VR]) hs h
     refine⟨r,?_,hz⟩
     cases mx <;> simp[List.foldlM_cons,Builtin.max2,Builtin.min2]at hr⊢<;> exact hr
    ·cases hm
   ·cases h
def OR (X:Cx) (N:Nu):Option AV→Option Value→Prop
 | none,none=>True
 | some x,some u=>VR X N x u
 | _,_=>False
theorem Evs.opt {ev:AO→AV} {r:Operand→Value} (h:Evs X N ev r) {a:Option AO} {x:Option Operand} (hc:Zlf X a x=true):OR X N (a.map ev) (x.map r):=by
 cases a <;> cases x <;> simp[Zlf]at hc
 ·trivial
 ·exact h _ _ hc
theorem H7 {isS:Bool} {len top cp:Nat} {lo hi mx:Option AV} {l h m:Option Value} {i j:Nat} {k:Option Nat}
  (hl:OR X N lo l) (hh:OR X N hi h) (hm:OR X N mx m) (ht:top≤cp) (hlt:len≤top) (hz:Kw len top lo hi mx=some (i,j,k)) (w:World):
  (Instr.sliceBounds isS len cp l h m).run X.P w= .ok (i,j,k.getD cp) w∧i≤j∧j≤top∧(∀q,k=some q→j≤q∧q≤top):=by
 unfold Kw at hz
 have low:∀{jj i:Nat},bnd 0 lo jj=some i→((l=none∧i=0)∨∃v,l=some v∧∀c,(Instr.sliceBound v jj c).run X.P w= .ok i w)∧i≤jj:=by
  intro jj i hb
  cases lo <;> cases l <;> first | (exact hl.elim) | skip
  ·cases hb;exact⟨.inl ⟨rfl,rfl⟩,Nat.zero_le _⟩
  ·exact⟨.inr ⟨_,rfl,fun c=>Dw hl (Nat.le_refl _) hb c w⟩,Ck hb⟩
 cases mx with
 | none=>
   cases m with
   | some v=>exact hm.elim
   | none=>
     simp only at hz
     cases hb:bnd len hi top with
     | none=>rw[hb]at hz;cases hz
     | some jj=>
       rw[hb]at hz
       simp only at hz
       cases hc:bnd 0 lo jj with
       | none=>rw[hc]at hz;cases hz
       | some ii=>
         rw[hc]at hz
         cases hz
         obtain⟨h1,h2⟩:=low hc
         cases hi <;> cases h <;> first | (exact hh.elim) | skip
         ·cases hb
          refine⟨?_,h2,hlt,by simp⟩
          rcases h1 with ⟨rfl,rfl⟩ | ⟨v,rfl,h1⟩ <;> simp[Instr.sliceBounds, *]
         ·have hs:=fun c=>Dw hh ht hb c w
          refine⟨?_,h2,Ck hb,by simp⟩
          rcases h1 with ⟨rfl,rfl⟩ | ⟨v,rfl,h1⟩ <;> simp[Instr.sliceBounds, *]
 | some x=>
   cases m with
   | none=>exact hm.elim
   | some v=>
     simp only at hz
     cases ha:Yc x top with
     | none=>rw[ha]at hz;cases hz
     | some mm=>
       rw[ha]at hz
       cases hi with
       | none=>cases hz
       | some y=>
         cases h with
         | none=>exact hh.elim
         | some u=>
           simp only at hz
           cases hb:Yc y mm with
           | none=>rw[hb]at hz;cases hz
           | some jj=>
             rw[hb]at hz
             simp only at hz
             cases hc:bnd 0 lo jj with
             | none=>rw[hc]at hz;cases hz
             | some ii=>
               rw[hc]at hz
               cases hz
               obtain⟨h1,h2⟩:=low hc
               have hv:=fun c=>Dw hm ht ha c w
               have hu:=fun c=>Dw hh (Nat.le_refl _) hb c w
               refine⟨?_,h2,Nat.le_trans (Ck hb) (Ck ha),fun q hq=>by cases hq;exact⟨Ck hb,Ck ha⟩⟩
               rcases h1 with ⟨rfl,rfl⟩ | ⟨v,rfl,h1⟩ <;> simp[Instr.sliceBounds, *]
theorem Zp5 {s:List UInt8} {lo hi:Option AV} {l h:Option Value} {z:AV} {t:TypeId} (ht:X.P.underlying t=some .string)
  (hl:OR X N lo l) (hh:OR X N hi h) (hz:C5 s lo hi=some z) (w:World):
  ∃r,(Instr.sliceAt t (.string ⟨s.toArray⟩) l h none).run X.P w= .ok r w∧VR X N z r:=by
 unfold C5 at hz
 have hsz:(⟨s.toArray⟩:ByteArray).size=s.length:=by simp[ByteArray.size]
 split at hz
 ·rename_i i j k hb
  cases hz
  obtain⟨hr,_⟩:=H7 (isS:=false) (m:=none) hl hh (show OR X N none none from trivial) (Nat.le_refl _) (Nat.le_refl _) hb w
  refine⟨.string ((⟨s.toArray⟩:ByteArray).extract i j),?_,?_⟩
  ·simp[Instr.sliceAt,Instr.slice,run_underlying ht,hsz,hr]
  ·simp only[VR,Value.string.injEq]
   apply ByteArray.ext
   simp[ByteArray.data_extract]
 ·cases hz
theorem VR.Zsy {x:AV} {v:Value} (h:VR X N x v) (hb:x.nb=true):VRs X N (Yg x) v.cells.toList:=
 h.cells (by rintro rfl;cases hb)
def Uz:List Value→Nat→List Value→List Value
 | us,_,[]=>us
 | us,o,v::vs=>Uz (us.set o v) (o+1) vs
theorem VRs.Qd {cs vs:List AV} {us ws:List Value} (h:VRs X N cs us) (hv:VRs X N vs ws) (o:Nat):VRs X N (Qd cs o vs) (Uz us o ws):=by
 induction vs generalizing cs us ws o with
 | nil=>simp only[VRs]at hv;subst hv;exact h
 | cons v vs ih=>
   simp only[VRs]at hv
   obtain⟨u,ur,rfl,h1,h2⟩:=hv
   exact ih (h.set o h1) h2 (o+1)
theorem Zb2 (cs:List AV) (o:Nat) (vs:List AV):(Qd cs o vs).length=cs.length:=by
 induction vs generalizing cs o with
 | nil=>rfl
 | cons v vs ih=>simp[Qd,ih]
theorem Ut (us:List Value) (o:Nat) (vs:List Value):(Uz us o vs).length=us.length:=by
 induction vs generalizing us o with
 | nil=>rfl
 | cons v vs ih=>simp[Uz,ih]
theorem Zmr (off:Nat):∀(l:List Value) (k:Nat) (us:Array Value),
  ((l.zipIdx k).foldl (fun cs (p:Value×Nat)=>cs.setIfInBounds (off+p.2) p.1) us).toList=Uz us.toList (off+k) l
 | [],_,us=>rfl
 | v::l,k,us=>by
   simp only[List.zipIdx_cons,List.foldl_cons,Uz]
   rw[Zmr off l (k+1)]
   simp[Nat.add_assoc]
theorem O8 {ev:AO→AV} {r:Operand→Value} (he:Evs X N ev r) {place:Nat→Option (Nat×Nat)}:
  ∀{qs:List (Nat×Nat×AO)} {ps:List (Nat×Operand)} {cs cs':List AV} {us:Array Value},VRs X N cs us.toList→Ej X place qs ps=true→
   Dj ev cs qs=some cs'→∃us',Instr.fill place us (ps.map fun p=>(p.1,r p.2))=some us'∧VRs X N cs' us'.toList
 | [],ps,cs,cs',us,h,hc,hf=>by
   cases ps with
   | cons=>simp[Ej]at hc
   | nil=>cases hf;exact⟨us,rfl,h⟩
 | (off,sz,a)::qs,ps,cs,cs',us,h,hc,hf=>by
   cases ps with
   | nil=>simp[Ej]at hc
   | cons p ps=>
     obtain⟨i,x⟩:=p
     simp only[Ej,Bool.and_eq_true,beq_iff_eq]at hc
     obtain⟨hp,ha,hr⟩:=hc
     simp only[Dj]at hf
     split at hf
     ·rename_i hcond
      obtain⟨h1,h2,h3⟩:=hcond
      have hv:=(he a x ha).Zsy h3
      have hl:=hv.length
      have hl2:=h.length
      have hn:¬((r x).cells.size≠sz∨off+(r x).cells.size > us.size):=by
       simp only[Array.length_toList]at hl hl2
       rw[not_or];exact⟨by simp;omega,by omega⟩
      have hsp:((r x).cells.zipIdx.foldl (fun cs (p:Value×Nat)=>cs.setIfInBounds (off+p.2) p.1) us).toList=Uz us.toList off (r x).cells.toList:=by
       rw[←Array.foldl_toList,Array.toList_zipIdx]
       exact Zmr off _ 0 us
      obtain⟨us',hf',hv'⟩:=O8 he (us:=(r x).cells.zipIdx.foldl (fun cs (p:Value×Nat)=>cs.setIfInBounds (off+p.2) p.1) us)
       (by rw[hsp];exact h.Qd hv off) hr hf
      refine⟨us',?_,hv'⟩
      simp only[List.map_cons,Instr.fill,hp]
      rw[if_neg (by simpa using hn)]
      exact hf'
     ·cases hf
end Go.Ev

/- Each pure operation does what the model's does. -/
namespace Go.Ev
open Go
variable {X : Cx} {N N' : Nu}
theorem bool_and {a b:Bool}:(a && b)=true↔a=true∧b=true:=by simp
theorem add_plain (b k n:Nat):(⟨b,k,none⟩:Addr).add n=⟨b,k+n,none⟩:=by
 unfold Addr.add
 split
 ·rename_i h0;subst h0;rfl
 ·rfl
theorem Znw {op:BinOp} {neg:Bool} {t:TypeId} {u v:Value} {b:Bool} {x y:Operand} {w:World}
  (hop:(match op with | .eql=> !neg | .neq=>neg | _=>false)=true) (hg:(eqGuard op t x y u v).run X.P w= .ok () w)
  (hb:∀op,binOp op t u v=match op with | .eql=>(do pure (.bool (←Op.equal t u v))) | .neq=>(do pure (.bool (!(←Op.equal t u v)))) | _=>binOp op t u v)
  (he:(Op.equal t u v).run X.P w= .ok b w):
  (do eqGuard op t x y u v;binOp op t u v:Sem Value).run X.P w= .ok (.bool (if neg then !b else b)) w:=by
 cases op <;> first | (cases hop;done) | skip
 ·cases neg
  ·rw[Sem.run_bind,hg,Result.andThen_ok,hb];simp[he]
  ·cases hop
 ·cases neg
  ·cases hop
  ·rw[Sem.run_bind,hg,Result.andThen_ok,hb];simp[he]
theorem Zady (D:Nat) {t:TypeId} {a b:Bool} {w:World} (hd:X.P.underlying t=some .bool):(Op.equalIn (D+1) t (.bool a) (.bool b)).run X.P w= .ok (a == b) w:=by
 simp[Op.equalIn,run_underlying hd]
theorem Zaag {op:BinOp} {neg:Bool} {t:TypeId} {x y:Operand} {a b:Bool} {w:World}
  (ho:(match op with | .eql=> !neg | .neq=>neg | _=>false)=true) (hd:X.P.underlying t=some .bool):
  (do eqGuard op t x y (.bool a) (.bool b);binOp op t (.bool a) (.bool b):Sem Value).run X.P w= .ok (.bool (if neg then !(a == b)else a == b)) w:=by
 have heq:=Zady 9999 (a:=a) (b:=b) (w:=w) hd
 exact Znw ho (Dz ⟨by simp,by simp⟩) (fun op=>by cases op <;> rfl) heq
theorem Zaai {op:BinOp} {neg:Bool} {t:TypeId} {k:Nat} {x y:Operand} {xa ya:AV} {u v:Value} {b:Bool} {w:World}
  (ho:(match op with | .eql=> !neg | .neq=>neg | _=>false)=true) (ht:Zu5 X t k=true) (h1:VR X N xa u) (h2:VR X N ya v) (hb:Sg k xa ya=some b):
  (do eqGuard op t x y u v;binOp op t u v:Sem Value).run X.P w= .ok (.bool (if neg then !b else b)) w:=by
 have heq:=Zrh 9999 _ ht h1 h2 hb w
 have hu:(¬(u= .nilIface)∧∀a,u≠.agg a)∧∀op,binOp op t u v=match op with | .eql=>(do pure (.bool (←Op.equal t u v))) | .neq=>(do pure (.bool (!(←Op.equal t u v)))) | _=>binOp op t u v:=by
  clear heq
  unfold Sg at hb
  split at hb <;> first | (cases hb;done) | skip
  all_goals
   try
    split at hb
    case isFalse=>cases hb
    obtain⟨a,ha,rfl⟩:=h1
    obtain⟨c,hc,rfl⟩:=h2
    exact⟨⟨by simp,by simp⟩,fun op=>by cases op <;> rfl⟩
  all_goals
   simp only[VR]at h1 h2
   first
   | (subst h1;subst h2;exact⟨⟨by simp,by simp⟩,fun op=>by cases op <;> rfl⟩)
   | (obtain⟨_,_,rfl⟩:=h1;subst h2;exact⟨⟨by simp,by simp⟩,fun op=>by cases op <;> rfl⟩)
   | (obtain⟨_,_,rfl⟩:=h2;subst h1;exact⟨⟨by simp,by simp⟩,fun op=>by cases op <;> rfl⟩)
   | (obtain⟨_,_,_,rfl,_⟩:=h1;subst h2;exact⟨⟨by simp,by simp⟩,fun op=>by cases op <;> rfl⟩)
   | (obtain⟨_,_,_,rfl,_⟩:=h2;subst h1;exact⟨⟨by simp,by simp⟩,fun op=>by cases op <;> rfl⟩)
   | (obtain⟨_,_,rfl,_⟩:=h1;subst h2;exact⟨⟨by simp,by simp⟩,fun op=>by cases op <;> rfl⟩)
   | (obtain⟨_,_,rfl,_⟩:=h2;subst h1;exact⟨⟨by simp,by simp⟩,fun op=>by cases op <;> rfl⟩)
 exact Znw ho (Dz hu.1) hu.2 heq
theorem Zw4 {t:TypeId} {us:Array Value} (h:Zdf X t=true):valOf X t us.toList= .agg us:=by
 unfold Zdf at h
 unfold valOf
 split at h <;> first | (cases h;done) | rfl
theorem Zqm {op:BinOp} {t:TypeId} {x y:Operand} {us vs:Array Value} {w:World} (h:X.P.eqGuardType X.P.depth t=false):
  (eqGuard op t x y (.agg us) (.agg vs)).run X.P w= .ok () w:=by
 simp[eqGuard,h]
theorem Zxf {o:Oper} {m:PO} {v:AV} {ev:AO→AV} {r:Operand→Value} (hc:chkP X o.op m=true) (he:Evs X N ev r) (h:PO.run ev m=some v) (w:World):
  ∃u,(execOp r o).run X.P w= .ok (.value u) w∧VR X N v u:=by
 unfold chkP at hc
 split at hc <;> (first | (cases hc;done) | skip) <;> rename_i hop <;> (try simp only[bool_and,decide_eq_true_eq,beq_iff_eq]at hc)
 ·
  cases h;exact⟨_,by simp[execOp,hop],he _ _ hc⟩
 ·cases h;exact⟨_,by simp[execOp,hop],he _ _ hc⟩
 ·
  have h1:=he _ _ hc.1
  simp only[PO.run]at h
  split at h
  ·rename_i hcv;rw[hcv]at h1;simp only[VR]at h1;cases h
   exact⟨_,by simp[execOp,hop,h1,asBool],he _ _ hc.2.1⟩
  ·rename_i hcv;rw[hcv]at h1;simp only[VR]at h1;cases h
   exact⟨_,by simp[execOp,hop,h1,asBool],he _ _ hc.2.2⟩
  ·cases h
 ·
  obtain⟨rfl,hx,hy⟩:=hc
  obtain⟨u,hr,hv⟩:=Zss (he _ _ hx) (he _ _ hy) h _ _ w
  exact⟨u,by simp only[execOp,hop];rw[Sem.run_bind,hr];rfl,hv⟩
 ·
  obtain⟨ho,ht,hx,hy⟩:=hc
  simp only[PO.run]at h
  split at h
  ·rename_i a b ha hb
   cases h
   have h1:=he _ _ hx;have h2:=he _ _ hy
   rw[ha]at h1;rw[hb]at h2
   simp only[VR]at h1 h2
   split at ht
   ·rename_i hd
    refine⟨_,?_,by simp only[VR];rfl⟩
    simp only[execOp,hop,h1,h2]
    rw[Sem.run_bind,Zaag ho hd]
    rfl
   ·cases ht
  ·cases h
 ·
  obtain⟨ho,ht,hx,hy⟩:=hc
  simp only[PO.run,Option.map_eq_some_iff]at h
  obtain⟨b,hb,rfl⟩:=h
  refine⟨_,?_,by simp only[VR];rfl⟩
  simp only[execOp,hop]
  rw[Sem.run_bind,Zaai ho ht (he _ _ hx) (he _ _ hy) hb]
  rfl
 ·
  obtain⟨ho,hagg,hks,hgt,hx,hy⟩:=hc
  simp only[PO.run]at h
  split at h
  ·rename_i a c ha hc'
   simp only[Option.map_eq_some_iff]at h
   obtain⟨b,hb,rfl⟩:=h
   have h1:=he _ _ hx
   have h2:=he _ _ hy
   rw[ha]at h1
   rw[hc']at h2
   obtain⟨us,hu,hus⟩:=h1
   obtain⟨vs,hv,hvs⟩:=h2
   refine⟨_,?_,by simp only[VR];rfl⟩
   simp only[execOp,hop,hu,hv]
   split at hks
   ·rename_i l hl
    have hk:l=_:=of_decide_eq_true hks
    subst hk
    have hval:∀us:Array Value,valOf X _ us.toList= .agg us:=fun us=>Zw4 hagg
    have heq:=T8 20 _ _ hl 9980 _ _ us.toList vs.toList b w hus hvs hb
    rw[hval,hval]at heq
    rw[Sem.run_bind,Znw ho (Zqm (by simpa using hgt)) (fun op=>by cases op <;> rfl) heq]
    rfl
   ·cases hks
  ·cases h
 ·
  obtain⟨rfl,hx⟩:=hc
  obtain⟨u,hr,hv⟩:=Zvj (he _ _ hx) h w
  exact⟨u,by simp only[execOp,hop];rw[Sem.run_bind,hr];rfl,hv⟩
 ·
  obtain⟨ht,hx⟩:=hc
  have h1:=he _ _ hx
  simp only[PO.run]at h
  split at h
  ·rename_i n hn
   rw[hn]at h1;simp only[VR]at h1
   simp only[Ym,Option.some.injEq,Lw]at h
   subst h
   split at ht
   ·rename_i hs hd
    simp only[decide_eq_true_eq]at ht
    subst ht
    exact⟨_,by simp[execOp,hop,h1,convert,run_underlying hs,run_underlying hd,Conv.intToInt];rfl,by simp[VR]⟩
   ·cases ht
  ·cases h
 ·
  obtain⟨ht,hx⟩:=hc
  have h1:=he _ _ hx
  simp only[PO.run]at h
  split at h
  ·rename_i k n hs
   rw[hs]at h1;simp only[VR]at h1
   cases h
   split at ht
   ·rename_i hs hd
    exact⟨.string (Utf8.encode n),by simp[execOp,hop,h1,convert,run_underlying hs,run_underlying hd,Conv.intToString],by simp[VR,P3]⟩
   ·cases ht
  ·cases h
 ·
  obtain⟨ht,hx⟩:=hc
  have h1:=he _ _ hx
  simp only[PO.run]at h
  split at h
  ·rename_i s hs
   rw[hs]at h1;simp only[VR]at h1
   cases h
   split at ht
   ·rename_i hs hd
    exact⟨_,by simp[execOp,hop,h1,convert,run_underlying hs,run_underlying hd];rfl,by simp[VR]⟩
   ·cases ht
  ·cases h
 ·
  obtain⟨rfl,h1,h2⟩:=hc
  cases h
  refine⟨.func (.func _) (Array.map r _) (Array.map r _),by simp[execOp,hop,Instr.makeFunc];exact⟨rfl,rfl⟩,_,_,rfl,?_,?_⟩
  ·rw[Array.toList_map];exact he.list h1
  ·rw[Array.toList_map];exact he.list h2
 ·
  rename_i t ps zs qs
  obtain⟨hz,hp⟩:=hc
  simp only[PO.run,Option.map_eq_some_iff]at h
  obtain⟨cs,hcs,rfl⟩:=h
  unfold Zaf at hz
  split at hz
  ·rename_i i hi
   split at hz
   ·rename_i z hzz
    have hv0:=Cm (N:=N) _ _ hz
    have hzr:(zeroValue t).run X.P w= .ok z w:=by simp[zeroValue,typeInfo,hi,hzz]
    split at hp
    ·rename_i fs hd
     split at hp
     ·rename_i pl hpl
      obtain⟨us',hf,hv⟩:=O8 he hv0 hp hcs
      refine⟨.agg us',?_,_,rfl,hv⟩
      have hpl':=Sh hpl w
      simp only[execOp,hop,Instr.build,Sem.run_bind,hzr,Result.andThen_ok,run_underlying hd,Array.mapM_eq_mapM_toList,Sem.run_map,hpl',Sem.run_pure,Array.toList_map]
      simp only[hf,Sem.run_pure,Result.andThen_ok]
     ·cases hp
    ·rename_i n e hd
     split at hp
     ·rename_i sz hsz
      obtain⟨us',hf,hv⟩:=O8 he hv0 hp hcs
      refine⟨.agg us',?_,_,rfl,hv⟩
      have hs:(sizeOf e).run X.P w= .ok sz w:=by
       unfold cells? at hsz
       cases hi:X.P.info? e with
       | none=>rw[hi]at hsz;cases hsz
       | some i=>rw[hi]at hsz;cases hsz;simp[sizeOf,typeInfo,hi]
      simp only[execOp,hop,Instr.build,Sem.run_bind,hzr,Result.andThen_ok,run_underlying hd,hs,Sem.run_pure,Array.toList_map]
      simp only[hf,Sem.run_pure,Result.andThen_ok]
     ·cases hp
    ·cases hp
   ·cases hz
  ·cases hz
 ·
  obtain⟨ht,hx⟩:=hc
  have h1:=he _ _ hx
  simp only[PO.run]at h
  split at h
  ·rename_i n o hn
   cases h
   rw[hn]at h1
   obtain⟨a,ha,h1⟩:=h1
   split at ht
   ·rename_i fs hd
    split at ht
    ·rename_i g hg
     simp only[bool_and,beq_iff_eq]at ht
     obtain⟨rfl,hsz⟩:=ht
     split at hsz
     ·rename_i sz hs
      simp only[bne_iff_ne,ne_eq]at hsz
      have hs:(sizeOf g.type).run X.P w= .ok sz w:=by
       unfold cells? at hs
       cases hi:X.P.info? g.type with
       | none=>rw[hi]at hs;cases hs
       | some i=>rw[hi]at hs;cases hs;simp[sizeOf,typeInfo,hi]
      refine⟨.pointer (some ((⟨a.block,a.off+o,none⟩:Addr).add g.offset)),?_,a,ha,by rw[add_plain,Nat.add_assoc]⟩
      simp[execOp,hop,h1,Instr.fieldAt,run_underlying hd,hg,Instr.sureAddr,fieldPlace,hs,hsz]
     ·cases hsz
    ·cases ht
   ·cases ht
  ·cases h
 ·
  obtain⟨ht,hx⟩:=hc
  have h1:=he _ _ hx
  simp only[PO.run]at h
  split at h
  ·rename_i cs hn
   rw[hn]at h1
   obtain⟨us,h1,hv⟩:=h1
   split at ht
   ·rename_i fs hd
    split at ht
    ·rename_i g hg
     simp only[bool_and,beq_iff_eq]at ht
     obtain⟨rfl,hsz⟩:=ht
     obtain⟨u,hr,hu⟩:=Zrz hsz hv h w
     exact⟨u,by simp[execOp,hop,h1,Instr.field,run_underlying hd,hg,asAgg,hr],hu⟩
    ·cases ht
   ·cases ht
  ·cases h
 ·
  obtain⟨ht,hx,hi⟩:=hc
  have h1:=he _ _ hx
  have h2:=he _ _ hi
  simp only[PO.run]at h
  split at h
  ·rename_i n o k j hn hj
   rw[hn]at h1;rw[hj]at h2
   obtain⟨a,ha,h1⟩:=h1
   simp only[VR]at h2
   split at h
   ·rename_i hb
    cases h
    split at ht
    ·rename_i len e hd
     simp only[bool_and,beq_iff_eq]at ht
     obtain⟨rfl,hs⟩:=ht
     refine⟨.pointer (some ((⟨a.block,a.off+o,none⟩:Addr).add (j.toNat*_))),?_,a,ha,by rw[add_plain,Nat.add_assoc]⟩
     simp[execOp,hop,h1,h2,Instr.indexAt,asIntOf,run_underlying hd,Instr.sureAddr,hb,N4 hs]
    ·cases ht
   ·cases h
  ·cases h
 ·
  obtain⟨ht,hx,hi⟩:=hc
  have h1:=he _ _ hx
  have h2:=he _ _ hi
  simp only[PO.run]at h
  split at h
  ·rename_i n o ln c k j hn hj
   rw[hn]at h1;rw[hj]at h2
   obtain⟨a,cp,ha,h1,_⟩:=h1
   simp only[VR]at h2
   split at h
   ·rename_i hb
    cases h
    split at ht
    ·rename_i e hd
     refine⟨.pointer (some ((⟨a.block,a.off+o,none⟩:Addr).add (j.toNat*_))),?_,a,ha,by rw[add_plain,Nat.add_assoc]⟩
     simp[execOp,hop,h1,h2,Instr.indexAt,asIntOf,run_underlying hd,hb,N4 ht]
    ·cases ht
   ·cases h
  ·cases h
 ·
  obtain⟨ht,hx,hi⟩:=hc
  have h1:=he _ _ hx
  have h2:=he _ _ hi
  simp only[PO.run]at h
  split at h
  ·rename_i cs k j hn hj
   rw[hn]at h1;rw[hj]at h2
   obtain⟨us,h1,hv⟩:=h1
   simp only[VR]at h2
   split at h
   ·rename_i hb
    split at ht
    ·rename_i len e hd
     simp only[bool_and,beq_iff_eq]at ht
     obtain⟨rfl,hs,hz⟩:=ht
     obtain⟨u,hr,hu⟩:=Zrz hz hv h w
     exact⟨u,by simp[execOp,hop,h1,h2,Instr.index,asIntOf,run_underlying hd,hb,N4 hs,hr],hu⟩
    ·cases ht
   ·cases h
  ·cases h
 ·
  obtain⟨ht,hx,hi⟩:=hc
  have h1:=he _ _ hx
  have h2:=he _ _ hi
  simp only[PO.run]at h
  split at h
  ·rename_i s k j hn hj
   rw[hn]at h1;rw[hj]at h2
   simp only[VR]at h1 h2
   split at h
   ·rename_i hb
    simp only[Option.map_eq_some_iff]at h
    obtain⟨c,hcj,rfl⟩:=h
    split at ht
    ·rename_i hd
     have hg:(⟨s.toArray⟩:ByteArray)[j.toNat]? =some c:=by
      have hlt:j.toNat<s.length:=(List.getElem?_eq_some_iff.1 hcj).1
      have hsz:j.toNat<(⟨s.toArray⟩:ByteArray).size:=by simpa [ByteArray.size] using hlt
      rw[getElem?_pos (⟨s.toArray⟩:ByteArray) j.toNat hsz]
      rw[List.getElem?_eq_getElem hlt]at hcj
      cases hcj
      rfl
     exact⟨_,by simp[execOp,hop,h1,h2,Instr.index,asIntOf,run_underlying hd,hb,hg];rfl,by simp[VR]⟩
    ·cases ht
   ·cases h
  ·cases h
 ·
  rename_i t x lo hi mx a l h'
  obtain⟨ht,hx,hlo,hhi⟩:=hc
  have h1:=he _ _ hx
  simp only[PO.run]at h
  split at h
  ·rename_i s hn
   rw[hn]at h1
   simp only[VR]at h1
   split at ht
   ·rename_i hd
    obtain⟨u,hr,hv⟩:=Zp5 hd (he.opt hlo) (he.opt hhi) h w
    refine⟨u,?_,hv⟩
    cases mx with
    | some _=>cases ht
    | none=>simp only[execOp,hop,h1];rw[Sem.run_bind];simp only[Option.map_none,hr];rfl
   ·cases ht
  ·cases h
 ·
  obtain⟨ht,hx,hlo,hhi,hmx⟩:=hc
  rename_i t x lo hi mx es a l h' m
  have h1:=he _ _ hx
  split at ht
  ·rename_i e hd
   simp only[PO.run]at h
   split at h
   ·rename_i n o ln cp hn
    rw[hn]at h1
    obtain⟨ad,c,ha,h1,hle,hcap⟩:=h1
    unfold X1 at h
    split at h
    ·rename_i i j k hb
     have htop:X6 ln cp≤c:=by cases cp <;> simp only[X6]at hcap⊢<;> omega
     have hlt:ln≤X6 ln cp:=by cases cp <;> simp only[X6]at hcap⊢<;> omega
     obtain⟨hr,hij,hjt,hk⟩:=H7 (isS:=true) (he.opt hlo) (he.opt hhi) (he.opt hmx) htop hlt hb w
     refine⟨.slice (some (if k.getD c=i then⟨ad.block,ad.off+o,none⟩else(⟨ad.block,ad.off+o,none⟩:Addr).add (i*es))) (j - i) (k.getD c - i),?_,?_⟩
     ·simp only[execOp,hop,h1,Instr.sliceAt,Instr.slice,Sem.run_bind,run_underlying hd,Result.andThen_ok,hr,N4 ht,Sem.run_pure,Option.map_some]
      split <;> rfl
     ·have hjc:j≤k.getD c:=by
       cases k with
       | none=>simp only[Option.getD_none];omega
       | some q=>exact(hk q rfl).1
      have hkc:∀q,X0 cp i k= .known q→k.getD c - i=q:=by
       intro q hq
       cases k with
       | some y=>simp only[X0,Cap.known.injEq]at hq;simpa using hq
       | none=>
         cases cp with
         | known z=>simp only[X0,Cap.known.injEq]at hq;simp only at hcap;simp only[Option.getD_none];omega
         | full=>simp only[X0]at hq;split at hq <;> cases hq
         | unk=>cases hq
      split at h
      ·rename_i hq
       cases h
       have:=hkc _ hq
       rw[if_pos (by omega)]
       exact⟨ad,_,ha,rfl,by omega,by simp only;omega⟩
      ·rename_i q hq0 hq
       cases h
       have:=hkc _ hq
       by_cases e:k.getD c=i
       ·exact(hq0 (by omega)).elim
       ·rw[if_neg e,add_plain,Nat.add_assoc]
        exact⟨ad,_,ha,rfl,by omega,by simp only;omega⟩
      ·rename_i hq
       cases h
       have:i=0∧k=none∧cp= .full:=by
        cases k with
        | some y=>cases hq
        | none=>
          cases cp with
          | known z=>cases hq
          | full=>simp only[X0]at hq;split at hq <;> first | exact⟨‹_›,rfl,rfl⟩ | cases hq
          | unk=>cases hq
       obtain⟨rfl,rfl,rfl⟩:=this
       simp only at hcap
       obtain⟨rfl,rfl⟩:=hcap
       refine⟨ad,_,ha,?_,by simpa using hjc,rfl,by simp⟩
       simp only[Nat.zero_mul,Nat.sub_zero,Option.getD_none]
       split <;> rfl
      ·rename_i hq
       split at h
       ·rename_i hor
        cases h
        by_cases e:k.getD c=i
        ·have hi0:i=0:=by omega
         rw[if_pos e]
         subst hi0
         exact⟨ad,k.getD c,ha,by simp,by omega,trivial⟩
        ·rw[if_neg e,add_plain,Nat.add_assoc]
         exact⟨ad,_,ha,rfl,by omega,trivial⟩
       ·cases h
    ·cases h
   ·rename_i hn
    rw[hn]at h1
    simp only[VR]at h1
    split at h
    ·rename_i z hz
     cases h
     unfold X1 at hz
     split at hz
     ·rename_i i j k hb
      obtain⟨hr,hij,hjt,hk⟩:=H7 (isS:=true) (he.opt hlo) (he.opt hhi) (he.opt hmx) (show X6 0 (.known 0)≤0 from Nat.le_refl 0) (Nat.le_refl 0) hb w
      have:i=0∧j=0∧k.getD 0=0:=by
       have htt:X6 0 (.known 0)=0:=rfl
       rw[htt]at hjt hk
       refine⟨by omega,by omega,?_⟩
       cases k with
       | none=>rfl
       | some q=>have:=(hk q rfl).2;simpa using this
      obtain⟨rfl,rfl,hk0⟩:=this
      refine⟨.slice none 0 0,?_,by simp[VR]⟩
      simp only[execOp,hop,h1,Instr.sliceAt,Instr.slice,Sem.run_bind,run_underlying hd,Result.andThen_ok,hr,N4 ht,Sem.run_pure,Option.map_none,hk0]
      rfl
     ·cases hz
    ·cases h
   ·cases h
  ·cases ht
 ·
  obtain⟨ht,hx,hlo,hhi,hmx⟩:=hc
  rename_i t x lo hi mx n es a l h' m
  have h1:=he _ _ hx
  split at ht
  ·rename_i n' e hd
   simp only[bool_and,beq_iff_eq]at ht
   obtain⟨rfl,hs⟩:=ht
   simp only[PO.run]at h
   split at h
   ·rename_i mm o hn
    rw[hn]at h1
    obtain⟨ad,ha,h1⟩:=h1
    unfold X1 at h
    split at h
    ·rename_i i j k hb
     obtain⟨hr,hij,hjt,hk⟩:=H7 (isS:=false) (len:=n') (top:=n') (cp:=n') (he.opt hlo) (he.opt hhi) (he.opt hmx) (Nat.le_refl _) (Nat.le_refl _) hb w
     refine⟨.slice (some (if k.getD n'=i then⟨ad.block,ad.off+o,none⟩else(⟨ad.block,ad.off+o,none⟩:Addr).add (i*es))) (j - i) (k.getD n' - i),?_,?_⟩
     ·simp only[execOp,hop,h1,Instr.sliceAt,Sem.run_bind,run_underlying hd,Result.andThen_ok,hr,N4 hs,Sem.run_pure,Instr.sureAddr]
     ·have hjc:j≤k.getD n':=by
       cases k with
       | none=>simp only[Option.getD_none];exact hjt
       | some q=>exact(hk q rfl).1
      have hkc:∀q,X0 (.known n') i k= .known q→k.getD n' - i=q:=by
       intro q hq
       cases k with
       | some y=>simp only[X0,Cap.known.injEq]at hq;simpa using hq
       | none=>simp only[X0,Cap.known.injEq]at hq;simpa using hq
      split at h
      ·rename_i hq
       cases h
       have:=hkc _ hq
       rw[if_pos (by omega)]
       exact⟨ad,_,ha,rfl,by omega,by simp only;omega⟩
      ·rename_i q hq0 hq
       cases h
       have:=hkc _ hq
       by_cases e:k.getD n'=i
       ·exact(hq0 (by omega)).elim
       ·rw[if_neg e,add_plain,Nat.add_assoc]
        exact⟨ad,_,ha,rfl,by omega,by simp only;omega⟩
      ·rename_i hq;cases k <;> cases hq
      ·rename_i hq;cases k <;> cases hq
    ·cases h
   ·cases h
  ·cases ht
 ·
  obtain⟨rfl,hx⟩:=hc
  have h1:=he _ _ hx
  simp only[PO.run]at h
  split at h
  ·rename_i vs hn
   rw[hn]at h1
   obtain⟨us,h1,hv⟩:=h1
   obtain⟨u,hu,hvu⟩:=hv.get h
   rw[Array.getElem?_toList]at hu
   exact⟨u,by simp[execOp,hop,h1,Instr.extract,hu],hvu⟩
  ·cases h
 ·
  have h1:=he _ _ hc
  simp only[PO.run]at h
  split at h
  ·rename_i n o hn
   cases h
   rw[hn]at h1
   obtain⟨a,ha,h1'⟩:=h1
   exact⟨_,by simp[execOp,hop,h1'],a,ha,rfl⟩
  ·rename_i f xs ys hn
   cases h
   rw[hn]at h1
   obtain⟨us,vs,h1',h2,h3⟩:=h1
   exact⟨_,by simp[execOp,hop,h1'],us,vs,rfl,h2,h3⟩
  ·rename_i t y hn
   cases h
   rw[hn]at h1
   obtain⟨u,h1',h2⟩:=h1
   exact⟨_,by simp[execOp,hop,h1'],u,rfl,h2⟩
  ·cases h
 ·
  obtain⟨rfl,ht,hx⟩:=hc
  cases h
  refine⟨_,?_,_,rfl,he _ _ hx⟩
  split at ht
  ·cases ht
  ·cases ht
  ·rename_i h1 h2
   cases hd:X.P.underlying (X.τ _)with
   | none=>exact(h2 hd).elim
   | some d=>
     simp only[execOp,hop,Instr.makeInterface,Sem.run_bind,run_underlying hd,Result.andThen_ok]
     cases d <;> first | (exact(h1 _ hd).elim) | rfl
 ·
  rename_i args argTypes str a
  obtain⟨ht,hx⟩:=hc
  split at ht
  ·rename_i t hat
   split at hx
   ·rename_i x hal
    have harg:args= #[x]:=by rw[←Array.toList_inj,hal]
    have h1:=he _ _ hx
    simp only[PO.run]at h
    have hcall:∀u,(Builtin.len_ argTypes o.type #[r x]).run X.P w= .ok u w→(execOp r o).run X.P w= .ok (.value u) w:=by
     intro u hu
     simp[execOp,hop,resolve,invoke,builtin,harg,hu]
    split at ht
    ·rename_i hd
     subst ht
     split at h
     ·rename_i s hn
      cases h
      rw[hn]at h1;simp only[VR]at h1
      refine⟨.int .i64 s.length,hcall _ ?_,by simp[VR]⟩
      have hsz:(⟨s.toArray⟩:ByteArray).size=s.length:=by simp[ByteArray.size]
      simp[Builtin.len_,hat,h1,run_underlying hd,goInt,hsz]
     ·cases h
     ·cases h
     ·cases h
    ·rename_i e hd
     simp only[Bool.not_eq_true']at ht
     subst ht
     split at h
     ·cases h
     ·rename_i n oo ln c hn
      cases h
      rw[hn]at h1
      obtain⟨ad,cp,ha,h1,_⟩:=h1
      refine⟨.int .i64 ln,hcall _ ?_,by simp[VR]⟩
      simp[Builtin.len_,hat,h1,run_underlying hd,goInt]
     ·rename_i hn
      cases h
      rw[hn]at h1;simp only[VR]at h1
      refine⟨.int .i64 0,hcall _ ?_,by simp[VR]⟩
      simp[Builtin.len_,hat,h1,run_underlying hd,goInt]
     ·cases h
    ·cases ht
   ·cases hx
  ·cases ht
 ·
  rename_i args argTypes n
  obtain⟨ht,hx⟩:=hc
  simp only[PO.run]at h
  cases h
  obtain⟨x,harg⟩:∃x,args= #[x]:=by
   obtain⟨l⟩:=args
   match l,hx with
   | [x],_=>exact⟨x,rfl⟩
  have hcall:∀u,(Builtin.len_ argTypes o.type #[r x]).run X.P w= .ok u w→(execOp r o).run X.P w= .ok (.value u) w:=by
   intro u hu
   simp[execOp,hop,resolve,invoke,builtin,harg,hu]
  split at ht
  ·rename_i t hat
   split at ht
   ·rename_i k e hd
    simp only[decide_eq_true_eq]at ht
    subst ht
    exact⟨.int .i64 k,hcall _ (by simp[Builtin.len_,hat,run_underlying hd,goInt]),by simp[VR]⟩
   ·rename_i arr hd
    split at ht
    ·rename_i k e hd2
     simp only[decide_eq_true_eq]at ht
     subst ht
     exact⟨.int .i64 k,hcall _ (by simp[Builtin.len_,hat,run_underlying hd,run_underlying hd2,goInt]),by simp[VR]⟩
    ·cases ht
   ·cases ht
  ·cases ht
 ·
  rename_i args argTypes a
  obtain⟨ht,hx⟩:=hc
  split at ht
  ·rename_i t hat
   split at hx
   ·rename_i x hal
    have harg:args= #[x]:=by rw[←Array.toList_inj,hal]
    have h1:=he _ _ hx
    simp only[PO.run]at h
    have hcall:∀u,(Builtin.cap_ argTypes o.type #[r x]).run X.P w= .ok u w→(execOp r o).run X.P w= .ok (.value u) w:=by
     intro u hu
     simp[execOp,hop,resolve,invoke,builtin,harg,hu]
    split at ht
    ·rename_i e hd
     split at h
     ·rename_i n oo ln c hn
      cases h
      rw[hn]at h1
      obtain⟨ad,cp,ha,h1,_,hc⟩:=h1
      simp only at hc
      subst hc
      refine⟨.int .i64 cp,hcall _ ?_,by simp[VR]⟩
      simp[Builtin.cap_,hat,h1,run_underlying hd,goInt]
     ·rename_i hn
      cases h
      rw[hn]at h1;simp only[VR]at h1
      refine⟨.int .i64 0,hcall _ ?_,by simp[VR]⟩
      simp[Builtin.cap_,hat,h1,run_underlying hd,goInt]
     ·cases h
    ·cases ht
   ·cases hx
  ·cases ht
 ·
  rename_i args argTypes a
  split at hc
  ·rename_i x hal
   have harg:args= #[x]:=by rw[←Array.toList_inj,hal]
   have h1:=he _ _ hc
   simp only[PO.run]at h
   have hcall:∀u,(Builtin.unsafeSliceData_ argTypes o.type #[r x]).run X.P w= .ok u w→(execOp r o).run X.P w= .ok (.value u) w:=by
    intro u hu
    simp[execOp,hop,resolve,invoke,builtin,harg,hu]
   split at h
   ·rename_i hn
    cases h
    rw[hn]at h1;simp only[VR]at h1
    exact⟨.pointer none,hcall _ (by rw[h1];rfl),by simp only[VR]⟩
   ·rename_i n oo l c hn
    split at h
    case isFalse=>cases h
    rename_i hl
    cases h
    rw[hn]at h1
    obtain⟨ad,cp,ha,h1,hcp,_⟩:=h1
    obtain⟨k,rfl⟩:∃k,cp=k+1:=⟨cp - 1,by omega⟩
    exact⟨_,hcall _ (by rw[h1];rfl),ad,ha,rfl⟩
   ·cases h
  ·cases hc
 ·
  rename_i args argTypes as
  simp only[PO.run]at h
  have hl:=he.list hc
  split at h
  ·cases h
  ·rename_i x ys hxy
   rw[hxy]at hl
   obtain⟨u,us,hus,hx,hys⟩:=hl
   obtain⟨z,hr,hz⟩:=Zgq (mx:=true) hx hys h w
   refine⟨z,?_,hz⟩
   simp only[if_true]at hr
   simp only[execOp,hop,resolve,invoke,builtin,Sem.run_bind,Sem.run_pure,Result.andThen_ok,Builtin.max_,Array.toList_map,hus,hr]
 ·
  rename_i args argTypes as
  simp only[PO.run]at h
  have hl:=he.list hc
  split at h
  ·cases h
  ·rename_i x ys hxy
   rw[hxy]at hl
   obtain⟨u,us,hus,hx,hys⟩:=hl
   obtain⟨z,hr,hz⟩:=Zgq (mx:=false) hx hys h w
   refine⟨z,?_,hz⟩
   simp only[Bool.false_eq_true,if_false]at hr
   simp only[execOp,hop,resolve,invoke,builtin,Sem.run_bind,Sem.run_pure,Result.andThen_ok,Builtin.min_,Array.toList_map,hus,hr]
 ·
  cases h
end Go.Ev

/- Which abstract code stands for which of the model's; the relation between heaps; reads. -/
namespace Go.Ev
open Go
def Zh6 (X:Cx) (t:TypeId) (kk:Kd):Bool:=
 match kk,X.P.underlying t with
 | .b,some .bool | .s,some .string=>true
 | .i _,some (.int _)=>true
 | _,_=>false
def zeroV (X:Cx) (t:TypeId) (z:AV):Bool:=
 match X.P.info? t with
 | some i=>(match i.zero with | some v=>Ek X z v | none=>false)
 | none=>false
def Fm (X:Cx) (t:TypeId):Bool:=
 match X.P.underlying t with
 | some (.slice e)=>(match X.P.underlying e with | some (.int .u8)=>true | _=>false)
 | _=>false
def isString (X:Cx) (t:TypeId):Bool:=match X.P.underlying t with | some .string=>true | _=>false
def chkR (X:Cx):Op→RO→Bool
 | .load t x,.load sz a=>Zpr X t sz && Jt X a x
 | .convert s d x,.b2s a=>Fm X s && (isString X d && Jt X a x)
 | .lookup t m k ok,.lookup kk z ok' m' k'=>
   (match X.P.underlying t with | some (.map kt e)=>Zh6 X kt kk && zeroV X e z | _=>false) && (ok == ok' && (Jt X m' m && Jt X k' k))
 | .call {callee:= .builtin .len,args,argTypes},.Ztt a=>
   (match argTypes[0]? with | some t=>(match X.P.underlying t with | some (.map _ _)=>true | _=>false) | none=>false) &&
     (match args.toList with | [x]=>Jt X a x | _=>false)
 | .convert s d x,.toU a=>
   (match X.P.underlying s with | some (.pointer t)=>(match X.P.info? t with | some i=>i.size != 0 | none=>false) | _=>false) &&
     ((match X.P.underlying d with | some .unsafePointer=>true | _=>false) && Jt X a x)
 | .convert s d x,.ofU ty z a=>
   (match X.P.underlying s with | some .unsafePointer=>true | _=>false) && ((match X.P.underlying d with | some (.pointer t)=>t == X.τ ty | _=>false) &&
     ((X.P.info? (X.τ ty)).isSome && (liesAt X.P X.P.depth (X.τ ty) (z / X.P.cellsOf (X.τ ty)) 0 (X.τ ty) 1 && Jt X a x)))
 | .indexAddr t (.global gg) x,.Sa g len es a=>
   X.γ g == gg && ((match X.P.underlying t with | some (.array n e)=>n == len && Mx X e es | _=>false) && Jt X a x)
 | _,_=>false
def Zci (X:Cx) (t:TypeId) (e:TypeId):Bool:=match X.P.underlying t with | some (.slice e')=>e' == e | _=>false
def Zvg (X:Cx) (e:TypeId) (n:Nat):Option (List Value):=
 match X.P.info? e with
 | some i=>(match i.zero with | some z=>some ((Array.range n).map (z.cells[· % z.cells.size]!)).toList | none=>none)
 | none=>none
def Zdj (X:Cx) (t:TypeId) (n:Nat):Bool:=match X.P.info? t with | some i=>i.bytes == n | none=>false
def chkN (X:Cx):Op→NO→Bool
 | .alloc t,.alloc ty _ zs=>X.τ ty == t && Zaf X t zs
 | .box t x,.box ty _ a=>X.τ ty == t && Jt X a x
 | .buildSlice t len ps,.Qe ty len' zs qs=>
   Zci X t (X.τ ty) && (len == len' && (match cells? X (X.τ ty)with
    | some n=>decide (len*n≤2 ^ 24) && ((match Zvg X (X.τ ty) (len*n)with | some us=>Zdo X zs us | none=>false) &&
       Ej X (fun i=>some (i*n,n)) qs ps.toList)
    | none=>false))
 | .makeSlice t l c,.Zre ty es bytes zs l' c'=>
   Zci X t (X.τ ty) && (Mx X (X.τ ty) es && (Zdj X (X.τ ty) bytes && (Zaf X (X.τ ty) zs && (zs.length == es && (Jt X l' l && Jt X c' c)))))
 | .makeMap _ none,.mkMap=>true
 | .makeMap t (some (.const (.int _ _))),.mkMap=>(match X.P.underlying t with | some (.map _ _)=>true | _=>false)
 | .range t x,.A3 a=>isString X t && Jt X a x
 | .convert s d x,.s2b ty a=>isString X s && (Fm X d && (Zci X d (X.τ ty) && Jt X a x))
 | _,_=>false
def Zge (X:Cx) (t:Option TypeId):Bool:=
 match t with
 | some t=>(match X.P.underlying t with | some (.int _) | none=>false | _=>true)
 | none=>false
def chkW (X:Cx):Op→WO→Bool
 | .store t a x,.store sz a' x'=>Mx X t sz && (Jt X a' a && Jt X x' x)
 | .call {callee:= .builtin .append,args,argTypes},.append ty es bytes zs s x=>
   (match argTypes[0]? with | some t=>Zci X t (X.τ ty) | none=>false) && (Zge X argTypes[1]? && (Mx X (X.τ ty) es && (Zdj X (X.τ ty) bytes &&
     (Zaf X (X.τ ty) zs && (zs.length == es && Wy X [s,x] args.toList)))))
 | .call {callee:= .builtin .copy,args,argTypes},.copy es d s=>
   (match argTypes[0]? with | some t=>(match X.P.underlying t with | some (.slice e)=>Mx X e es | _=>false) | none=>false) && Wy X [d,s] args.toList
 | .mapUpdate t m k v,.Zbp kk m' k' v'=>
   (match X.P.underlying t with | some (.map kt _)=>Zh6 X kt kk | _=>false) && (Jt X m' m && (Jt X k' k && Jt X v' v))
 | .insert t m k v,.Zbp kk m' k' v'=>
   (match X.P.underlying t with | some (.map kt _)=>Zh6 X kt kk | _=>false) && (Jt X m' m && (Jt X k' k && Jt X v' v))
 | .call {callee:= .value f,args,..},.call f' args'=>Jt X f' f && Wy X args' args.toList
 | .next x true,.Sf a=>Jt X a x
 | .call {callee:= .builtin .unsafeString,args,argTypes},.Zmh ty p l=>
   (match argTypes[0]? with | some t=>(match X.P.underlying t with | some (.pointer e)=>e == X.τ ty && X.P.cellsOf e == 1 | _=>false) | none=>false) && Wy X [p,l] args.toList
 | _,_=>false
def Zvo (X:Cx) (op:Op):MO→Bool
 | .p o=>chkP X op o
 | .r o=>chkR X op o
 | .n o=>chkN X op o
 | .w o=>chkW X op o
def chkG (os:Array Oper):Option (Nat×Bool)→Option (Nat×Bool)→Bool
 | none,none=>true
 | some (t,b),some (j,c)=>b == c && ((os[j]?).bind (·.dst)) == some t
 | _,_=>false
def Zqc (X:Cx) (S:Nat) (os:Array Oper) (i:MI) (o:Oper):Bool:=
 i.dst == o.dst && ((match o.dst with | some d=>decide (d<S) | none=>true) && (chkG os i.guard o.guard && Zvo X o.op i.op))
def Tw (X:Cx) (S:Nat) (os:Array Oper):List MI→List Oper→Bool
 | [],[]=>true
 | i::is,o::r=>Zqc X S os i o && Tw X S os is r
 | _,_=>false
def V2:Zv→Bool
 | .seq a b=>V2 a && V2 b
 | .cond _ a b=>V2 a && V2 b
 | .block _ b=>V2 b
 | .loop b=>V2 b
 | .scope b=>V2 b
 | .rangeFunc .. =>false
 | _=>true
def Zi1 (X:Cx) (S:Nat) (pre:List MI) (m:AO) (d:Nat) (os:Array Oper):Bool:=
 Tw X S os pre os.toList.dropLast &&
  (match os.toList.getLast? with
  | some o=>o.dst == some d && (o.guard.isNone && (match o.op with | .range t x=>Jt X m x && (match X.P.underlying t with | some (.map _ _)=>true | _=>false) | _=>false))
  | none=>false)
def Zif (X:Cx) (S:Nat) (d nx more:Nat) (os:Array Oper):Bool:=
 match os.toList with
 | o::r=>o.dst == some nx && (o.guard.isNone && ((match o.op with | .next (.tmp i) false=>i == d | _=>false) && Tw X S os [⟨some more,none,.p (.Zq 0 (.t nx))⟩] r))
 | []=>false
def Zdn (X:Cx) (S:Nat) (d pair:Nat) (post:List MI) (os:Array Oper):Bool:=
 match os.toList with
 | o::r=>o.dst == some pair && (o.guard.isNone && ((match o.op with | .entry (.tmp i)=>i == d | _=>false) && Tw X S os post r))
 | []=>false
abbrev Mc:=Cx→Nat→List RI→Array Oper→Bool
def Dd (D:Mc) (X:Cx) (S:Nat):Zv→Code→Bool
 | .seq (.Zd _) m,c=>Dd D X S m c
 | .skip,.skip=>true
 | .skip,.label _=>true
 | .Ze is,.region _ os false=>Tw X S os is os.toList
 | .Kv is,.region _ os true=>D X S is os
 | .seq a b,.seq c d=>Dd D X S a c && Dd D X S b d
 | .cond x a b,.cond y c d=>Jt X x y && (Dd D X S a c && Dd D X S b d)
 | .block i b,.block j c=>i == j && Dd D X S b c
 | .loop b,.loop c=>Dd D X S b c
 | .scope b,.scope c=>Dd D X S b c
 | .rangeFunc f ps a b,.rangeFunc g qs c d=>
   Jt X f g && (ps == qs.toList && (ps.all (· <S) && (V2 a && (V2 b && (Dd D X S a c && Dd D X S b d)))))
 | .exit i,.exit j=>i == j
 | .ret,.ret=>true
 | .rangeMap pre m d nx more pair post ks out next body,.seq (.region _ os false) (.block out1 (.loop (.seq (.region _ os2 false) (.seq (.cond (.tmp c) .skip (.exit out2)) (.block next1 (.seq (.region _ os3 false) code))))))=>
   c == more && (out == out1 && (out == out2 && (next == next1 && (decide (d<S) && (decide (nx<S) && (decide (pair<S) && (V2 body && (!((d::ks).contains nx) && (!((d::ks).contains more) && (Zi1 X S pre m d os && (Zif X S d nx more os2 && (Zdn X S d pair post os3 && Dd D X S body code))))))))))))
 | .stuck,_=>true
 | _,_=>false
variable {X : Cx} {N N' : Nu}
def unfz (fz:Nat×Nat) (n:Nat):Prop:=∀i,i<n→¬(fz.1≤i∧i<fz.2)
def Kr (X:Cx) (N:Nu) (e:Env) (tmps:Array Value):Prop:=∀t,VR X N (Zl e t) (tmps.getD t undef)
def Zjy:Ex→Option Code
 | .norm=>none
 | .exit id=>some (.exit id)
 | .ret=>some .ret
def Zzs:LSt→LoopState→Option Code→Prop
 | .ready,s,p=>s= .ready∧p=none
 | .busy,s,_=>s= .busy
 | .done x,s,p=>s= .done∧p=Zjy x
def U0 (X:Cx) (N:Nu):List (AV×AV)→List MapEntry→Prop
 | [],es=>es=[]
 | (k,v)::r,es=>∃e er,es=e::er∧VR X N k e.key∧VR X N v e.val∧U0 X N r er
def Bt (D:Mc) (X:Cx) (N:Nu) (w:World) (n:Nat):Qb→Prop
 | .cells ty _ cs=>∃b us fz,N.ρ n=some ⟨b,0,none⟩∧w.heap[b]? =some (.cells us (X.τ ty) fz)∧VRs X N cs us.toList∧unfz fz us.size
 | .buf ty es cs=>∃b us fz,N.ρ n=some ⟨b,0,none⟩∧w.heap[b]? =some (.cells us (X.τ ty) fz)∧us.size=N.κ n*es∧cs.length≤us.size∧
     VRs X N cs (us.toList.take cs.length)∧unfz fz us.size
 | .ro cs=>∃a,N.ρ n=some a∧(∃us t fz,w.heap[a.block]? =some (.cells us t fz))∧∀(i:Nat) (x:AV),cs[i]? =some x→∃u,w.cell? ⟨a.block,a.off+i,none⟩=some u∧VR X N x u
 | .map es=>∃b mes clk,N.ρ n=some ⟨b,0,none⟩∧w.heap[b]? =some (.map mes clk)∧U0 X N es mes.toList∧∀e∈mes.toList,e.born<clk
 | .Wz g cs=>∃us t fz,N.ρ n=some ⟨X.γ g,0,none⟩∧w.heap[X.γ g]? =some (.cells us t fz)∧VRs X N cs us.toList
 | .iter s pos=>∃b,N.ρ n=some ⟨b,0,none⟩∧w.heap[b]? =some (.stringIter ⟨s.toArray⟩ pos)
 | .loop st env ps assign body=>∃b l S,N.ρ n=some ⟨b,0,none⟩∧w.heap[b]? =some (.loop l)∧Zzs st l.state l.pending∧Kr X N env l.tmps∧ps=l.params.toList∧
     S≤l.tmps.size∧(∀t∈ps,t<S)∧V2 assign=true∧V2 body=true∧Dd D X S assign l.assign=true∧Dd D X S body l.body=true
def Qb.own:Qb→Bool
 | .ro _ | .Wz .. =>false
 | _=>true
def Own (N:Nu) (h:Heap) (b:Nat):Prop:=∃n o a,Zh h n=some o∧o.own=true∧N.ρ n=some a∧a.block=b
structure HR (D:Mc) (X:Cx) (N:Nu) (h:Heap) (w:World):Prop where
 Um:∀n o,Zh h n=some o→Bt D X N w n o
 sep:∀n m o p a c,Zh h n=some o→Zh h m=some p→o.own=true→N.ρ n=some a→N.ρ m=some c→a.block=c.block→n=m
structure SR (D:Mc) (X:Cx) (N:Nu) (st:St) (w:World):Prop where
 hr:HR D X N st.h w
 fresh:∀n,st.nx≤n→N.ρ n=none
theorem cell?_of {w:World} {b i:Nat} {us:Array Value} {t:TypeId} {fz:Nat×Nat} (h:w.heap[b]? =some (.cells us t fz)):w.cell? ⟨b,i,none⟩=us[i]? :=by
 simp[World.cell?,h]
theorem Lj {D:Mc} {h:Heap} {w:World} (hr:HR D X N h w) {n off cnt:Nat} {vs:List AV} (hv:Qg h n off cnt=some vs):
  ∃a us,N.ρ n=some a∧VRs X N vs us∧us.length=cnt∧∀j u,us[j]? =some u→w.cell? ⟨a.block,a.off+(off+j),none⟩=some u:=by
 unfold Qg at hv
 split at hv
 ·rename_i ty l cs hg
  split at hv
  ·rename_i hle
   cases hv
   obtain⟨b,us,fz,h1,h2,h3,h4⟩:=hr.Um _ _ hg
   refine⟨_,(us.toList.drop off).take cnt,h1,(h3.drop off).take cnt,?_,fun j u hj=> ?_⟩
   ·have:=h3.length;simp only[Array.length_toList]at this;simp;omega
   ·rw[cell?_of h2]
    rw[List.getElem?_take]at hj
    split at hj
    ·rw[List.getElem?_drop,Array.getElem?_toList]at hj
     simpa using hj
    ·cases hj
  ·cases hv
 ·rename_i ty es cs hg
  split at hv
  ·rename_i hle
   cases hv
   obtain⟨b,us,fz,h1,h2,h3,h4,h5,h6⟩:=hr.Um _ _ hg
   refine⟨_,((us.toList.take cs.length).drop off).take cnt,h1,(h5.drop off).take cnt,?_,fun j u hj=> ?_⟩
   ·simp;omega
   ·rw[cell?_of h2]
    rw[List.getElem?_take]at hj
    split at hj
    ·rw[List.getElem?_drop,List.getElem?_take]at hj
     split at hj
     ·rw[Array.getElem?_toList]at hj
      simpa using hj
     ·cases hj
    ·cases hj
  ·cases hv
 ·rename_i cs hg
  split at hv
  ·rename_i hle
   cases hv
   obtain⟨a,h1,_,h2⟩:=hr.Um _ _ hg
   have key:∀(m:Nat) (xs:List AV),(∀i x,xs[i]? =some x→∃u,w.cell? ⟨a.block,a.off+(m+i),none⟩=some u∧VR X N x u)→
     ∃us,VRs X N xs us∧us.length=xs.length∧∀j u,us[j]? =some u→w.cell? ⟨a.block,a.off+(m+j),none⟩=some u:=by
    intro m xs
    induction xs generalizing m with
    | nil=>intro _;exact⟨[],rfl,rfl,fun j u hj=>by simp at hj⟩
    | cons x xs ih=>
      intro hx
      obtain⟨u,hu,hv⟩:=hx 0 x rfl
      obtain⟨us,h1,h2,h3⟩:=ih (m+1) (fun i y hy=>by
       have:=hx (i+1) y (by simpa using hy)
       rwa[show m+(i+1)=m+1+i by omega]at this)
      refine⟨u::us,⟨u,us,rfl,hv,h1⟩,by simp[h2],fun j v hj=> ?_⟩
      cases j with
      | zero=>simp at hj;subst hj;exact hu
      | succ j=>
        have:=h3 j v (by simpa using hj)
        rwa[show m+(j+1)=m+1+j by omega]
   obtain⟨us,h3,h4,h5⟩:=key off ((cs.drop off).take cnt) (fun i x hx=>by
    rw[List.getElem?_take]at hx
    split at hx
    ·rw[List.getElem?_drop]at hx
     exact h2 _ _ hx
    ·cases hx)
   refine⟨a,us,h1,h3,by rw[h4];simp;omega,h5⟩
  ·cases hv
 ·rename_i g cs hg
  split at hv
  ·rename_i hle
   cases hv
   obtain⟨us,t,fz,h1,h2,h3⟩:=hr.Um _ _ hg
   refine⟨_,(us.toList.drop off).take cnt,h1,(h3.drop off).take cnt,?_,fun j u hj=> ?_⟩
   ·have:=h3.length;simp only[Array.length_toList]at this;simp;omega
   ·rw[cell?_of h2]
    rw[List.getElem?_take]at hj
    split at hj
    ·rw[List.getElem?_drop,Array.getElem?_toList]at hj
     simpa using hj
    ·cases hj
  ·cases hv
 ·cases hv
theorem Ze1 {D:Mc} {h:Heap} {w:World} (hr:HR D X N h w) {n off:Nat} {v:AV} (hv:Q5 h n off=some v):
  ∃a u,N.ρ n=some a∧VR X N v u∧w.cell? ⟨a.block,a.off+off,none⟩=some u:=by
 have:Qg h n off 1=some [v]:=by
  unfold Q5 at hv
  unfold Qg
  split at hv <;> first | (cases hv;done) | skip
  all_goals
   have hlt:=(List.getElem?_eq_some_iff.1 hv).1
   rw[if_pos (by omega)]
   congr 1
   rw[List.take_one,List.head?_drop,hv]
   rfl
 obtain⟨a,us,h1,h2,h3,h4⟩:=Lj hr this
 obtain⟨u,ur,rfl,hu,_⟩:=h2
 exact⟨a,u,h1,hu,by simpa using h4 0 u rfl⟩
end Go.Ev

/- Reads do what the model's do. -/
namespace Go.Ev
open Go
variable {X : Cx} {N N' : Nu} {D : Mc}
theorem Un {a:Addr} {off:Nat} {us:List Value} {w:World} {P:Program} (h:∀(j:Nat) (u:Value),us[j]? =some u→w.cell? ⟨a.block,a.off+(off+j),none⟩=some u):
  (loadCells ⟨a.block,a.off+off,none⟩ us.length).run P w= .ok us.toArray w:=
 run_loadCells_list w _ us fun j v hj=>by rw[add_plain,Nat.add_assoc];exact h j v hj
theorem Zcc (f:Value→ByteArray→Sem (ForInStep ByteArray)) (hf:∀n s,f (.int .u8 n) s=pure (ForInStep.yield (s.push (UInt8.ofNat n.toNat)))):
  ∀{cs:List AV} {us:List Value} {l:List UInt8},VRs X N cs us→W4 cs=some l→
  ∀(acc:ByteArray) (w:World),(forIn (m:=Sem) us acc f).run X.P w= .ok ⟨acc.data++l.toArray⟩ w
 | [],us,l,h,hl,acc,w=>by
   simp only[VRs]at h;subst h;cases hl
   simp
 | c::cs,us,l,h,hl,acc,w=>by
   obtain⟨u,ur,rfl,h1,h2⟩:=h
   unfold W4 at hl
   split at hl
   ·cases ‹c::cs=[]›
   ·rename_i n r heq
    cases heq
    simp only[VR]at h1;subst h1
    split at hl
    ·rename_i l' hl'
     cases hl
     have ih:=Zcc f hf h2 hl' (acc.push (UInt8.ofNat n.toNat)) w
     simp only[List.forIn_cons,hf,pure_bind]at ih⊢
     rw[ih]
     congr 1
     apply ByteArray.ext
     simp[ByteArray.data_push]
    ·cases hl
   ·cases hl
theorem U0.length:∀{es:List (AV×AV)} {ms:List MapEntry},U0 X N es ms→es.length=ms.length
 | [],ms,h=>by simp only[U0]at h;subst h;rfl
 | (_,_)::es,ms,h=>by
   obtain⟨e,er,rfl,_,_,h⟩:=h
   simp[U0.length h]
theorem Ei {kk:Kd} {k a:AV} {u v:Value} {b:Bool} {d:TypeDesc} {t:TypeId} (ht:Zh6 X t kk=true) (hd:X.P.underlying t=some d)
  (hk:VR X N k u) (ha:VR X N a v) (h:Qo kk k a=some b):Instr.sameNow d u v=some b:=by
 unfold Zh6 at ht
 rw[hd]at ht
 unfold Qo at h
 split at h <;> first | (cases h;done) | skip
 ·simp only[VR]at hk ha;subst hk;subst ha
  cases d <;> first | (cases ht;done) | skip
  cases h;rfl
 ·simp only[VR]at hk ha;subst hk;subst ha
  cases d <;> first | (cases ht;done) | skip
  split at h
  ·rename_i hkk
   obtain⟨rfl,rfl⟩:=hkk
   cases h
   simp[Instr.sameNow]
   rw[Bool.eq_iff_iff];simp
  ·cases h
 ·simp only[VR]at hk ha;subst hk;subst ha
  cases d <;> first | (cases ht;done) | skip
  cases h
  simp only[Instr.sameNow,Option.some.injEq]
  rename_i x y
  show (x.toArray == y.toArray)=Uv x y
  rw[Bool.eq_iff_iff,G5,beq_iff_eq]
  exact⟨fun e=>by simpa using e,fun e=>by rw[e]⟩
theorem Zgc {kk:Kd} {k:AV} {u:Value} {d:TypeDesc} {t:TypeId} (ht:Zh6 X t kk=true) (hd:X.P.underlying t=some d) (hk:VR X N k u):
  ∀{es:List (AV×AV)} {ms:List MapEntry} {r:Option AV} (i:Nat),U0 X N es ms→Ug kk k es=some r→
   ∃q,Instr.findNow d u ms i=some q∧(match r,q with | none,none=>True | some v,some (_,x)=>VR X N v x | _,_=>False)
 | [],ms,r,i,h,hr=>by
   simp only[U0]at h;subst h;cases hr
   exact⟨none,rfl,trivial⟩
 | (a,v)::es,ms,r,i,h,hr=>by
   obtain⟨e,er,rfl,h1,h2,h3⟩:=h
   simp only[Ug]at hr
   split at hr
   ·rename_i hc
    cases hr
    exact⟨some (i,e.val),by simp[Instr.findNow,Ei ht hd hk h1 hc],h2⟩
   ·rename_i hc
    obtain⟨q,hq,hm⟩:=Zgc ht hd hk (i+1) h3 hr
    exact⟨q,by simp[Instr.findNow,Ei ht hd hk h1 hc,hq],hm⟩
   ·cases hr
theorem Tv {kk:Kd} {t:TypeId} (ht:Zh6 X t kk=true) (e:Bool) (u:Value) (n:Nat) (w:World):(Instr.checkKey e (n+1) t u).run X.P w= .ok () w:=by
 unfold Zh6 at ht
 split at ht <;> first | (cases ht;done) | skip
 all_goals
  rename_i hd
  cases u <;> simp[Instr.checkKey,run_underlying hd]
theorem P9 {t:TypeId} (h:Fm X t=true):∃e,X.P.underlying t=some (.slice e)∧X.P.underlying e=some (.int .u8):=by
 unfold Fm at h
 split at h
 ·rename_i e he
  split at h
  ·rename_i h2;exact⟨e,he,h2⟩
  ·cases h
 ·cases h
theorem A6 {t:TypeId} (h:isString X t=true):X.P.underlying t=some .string:=by
 unfold isString at h
 split at h
 ·assumption
 ·cases h
theorem Zsl {t:TypeId} {z:AV} (h:zeroV X t z=true) (w:World):∃u,(zeroValue t).run X.P w= .ok u w∧VR X N z u:=by
 unfold zeroV at h
 split at h
 ·rename_i i hi
  split at h
  ·rename_i v hv
   exact⟨v,by simp[zeroValue,typeInfo,hi,hv],Znm _ _ h⟩
  ·cases h
 ·cases h
theorem Zxg {o:Oper} {m:RO} {v:AV} {ev:AO→AV} {r:Operand→Value} {h:Heap} {w:World} (hc:chkR X o.op m=true) (he:Evs X N ev r) (hgl:∀g,r (.global g)= .pointer (some ⟨g,0,none⟩)) (hr:HR D X N h w)
  (hv:RO.run ev h m=some v):∃u,(execOp r o).run X.P w= .ok (.value u) w∧VR X N v u:=by
 unfold chkR at hc
 split at hc <;> (first | (cases hc;done) | skip) <;> rename_i hop <;> simp only[bool_and,beq_iff_eq]at hc
 ·
  rename_i t x sz a
  obtain⟨hz,hx⟩:=hc
  have h1:=he _ _ hx
  cases sz with
  | none=>
    simp only[RO.run]at hv
    split at hv
    ·rename_i n off hn
     rw[hn]at h1
     obtain⟨ad,hρ,h1⟩:=h1
     obtain⟨ad',u,h2,h3,h4⟩:=Ze1 hr hv
     rw[hρ]at h2;cases h2
     refine⟨u,?_,h3⟩
     simp[execOp,hop,h1,Instr.loadAt,Instr.sureAddr,loadVar,Bo hz,h4]
    ·cases hv
  | some k=>
    simp only[RO.run]at hv
    split at hv
    ·rename_i n off hn
     rw[hn]at h1
     obtain⟨ad,hρ,h1⟩:=h1
     simp only[Option.map_eq_some_iff]at hv
     obtain⟨cs,hcs,rfl⟩:=hv
     obtain⟨ad',us,h2,h3,h4,h5⟩:=Lj hr hcs
     rw[hρ]at h2;cases h2
     obtain⟨z1,z2⟩:=Bp hz w
     have hl:=Un (P:=X.P) h5
     refine⟨.agg us.toArray,?_,us.toArray,rfl,h3⟩
     simp[execOp,hop,h1,Instr.loadAt,Instr.sureAddr,loadVar,z1,z2,←h4,hl]
    ·cases hv
 ·
  rename_i s d x a
  obtain⟨hs,hd,hx⟩:=hc
  have h1:=he _ _ hx
  obtain⟨e,he1,he2⟩:=P9 hs
  have hd:=A6 hd
  have hcall:∀u,(Conv.bytesToString (r x)).run X.P w= .ok u w→(∀q,r x≠.string q)→(∀k q,r x≠.int k q)→(execOp r o).run X.P w= .ok (.value u) w:=by
   intro u hu hn1 hn2
   have:(convert s d (r x)).run X.P w= .ok u w:=by
    simp only[convert,Sem.run_bind,run_underlying he1,run_underlying hd,Result.andThen_ok]
    cases hrx:r x <;> first | (exact absurd hrx (hn1 _)) | (exact absurd hrx (hn2 _ _)) | (rw[hrx]at hu;simp[run_underlying he2,hu])
   simp[execOp,hop,this]
  simp only[RO.run]at hv
  split at hv
  ·rename_i hn
   cases hv
   rw[hn]at h1;simp only[VR]at h1
   refine⟨.string .empty,hcall _ ?_ (by rw[h1];simp) (by rw[h1];simp),?_⟩
   ·rw[h1];rfl
   ·simp only[VR];rfl
  ·rename_i n off ln c hn
   split at hv
   ·rename_i cs hcs
    simp only[Option.map_eq_some_iff]at hv
    obtain⟨l,hl,rfl⟩:=hv
    rw[hn]at h1
    obtain⟨ad,cp,hρ,h1,_⟩:=h1
    obtain⟨ad',us,h2,h3,h4,h5⟩:=Lj hr hcs
    rw[hρ]at h2;cases h2
    have hlo:=Un (P:=X.P) h5
    refine⟨.string ⟨l.toArray⟩,hcall _ ?_ (by rw[h1];simp) (by rw[h1];simp),by simp[VR]⟩
    have hb:=fun f hf=>Zcc (X:=X) (N:=N) f hf h3 hl ByteArray.empty w
    rw[h1]
    simp only[Conv.bytesToString,←h4,Sem.run_bind,hlo,Result.andThen_ok]
    simp only[List.forIn_toArray]
    rw[hb _ (fun n s=>rfl)]
    simp
   ·cases hv
  ·cases hv
 ·
  rename_i t m k ok kk z ok' m' k'
  obtain⟨ht,rfl,hm,hk⟩:=hc
  split at ht
  ·rename_i kt e hd
   simp only[bool_and]at ht
   obtain⟨hkt,hz⟩:=ht
   obtain⟨z',hz1,hz2⟩:=Zsl (N:=N) hz w
   have h1:=he _ _ hm
   have h2:=he _ _ hk
   have hck:=fun e=>Tv hkt e (r k) 9999 w
   simp only[RO.run]at hv
   obtain⟨dk,hdk⟩:∃dk,X.P.underlying kt=some dk:=by
    unfold Zh6 at hkt
    split at hkt <;> first | exact⟨_,‹_›⟩ | cases hkt
   split at hv
   ·rename_i hn
    split at hv
    ·rw[hn]at h1;simp only[VR]at h1
     cases hv
     cases ok
     ·refine⟨z',?_,by simpa using hz2⟩
      simp[execOp,hop,Instr.lookup,run_underlying hd,h1,hck,Instr.findKey,run_underlying hdk,Instr.findNow,hz1]
     ·refine⟨.tuple #[z',.bool false],?_,by simp only[if_true];exact⟨_,rfl,z',_,rfl,hz2,_,_,rfl,rfl,rfl⟩⟩
      simp[execOp,hop,Instr.lookup,run_underlying hd,h1,hck,Instr.findKey,run_underlying hdk,Instr.findNow,hz1]
    ·cases hv
   ·rename_i n hn
    rw[hn]at h1
    obtain⟨ad,hρ,h1⟩:=h1
    split at hv
    ·rename_i es hg
     split at hv
     ·obtain⟨b,mes,clk,hb1,hb2,hb3,_⟩:=hr.Um _ _ hg
      rw[hρ]at hb1
      cases hb1
      have hgo:(getObj b).run X.P w= .ok (.map mes clk) w:=by simp[getObj,Sem.run,hb2]
      split at hv
      ·rename_i x hf
       cases hv
       obtain⟨q,hq1,hq2⟩:=Zgc hkt hdk h2 0 hb3 hf
       cases q with
       | none=>exact hq2.elim
       | some q=>
         obtain⟨qi,qv⟩:=q
         simp only at hq2
         cases ok
         ·refine⟨qv,?_,by simpa using hq2⟩
          simp[execOp,hop,Instr.lookup,run_underlying hd,h1,hck,Instr.findKey,run_underlying hdk,hgo,hq1]
         ·refine⟨.tuple #[qv,.bool true],?_,by simp only[if_true];exact⟨_,rfl,qv,_,rfl,hq2,_,_,rfl,rfl,rfl⟩⟩
          simp[execOp,hop,Instr.lookup,run_underlying hd,h1,hck,Instr.findKey,run_underlying hdk,hgo,hq1]
      ·rename_i hf
       cases hv
       obtain⟨q,hq1,hq2⟩:=Zgc hkt hdk h2 0 hb3 hf
       cases q with
       | some q=>exact hq2.elim
       | none=>
         cases ok
         ·refine⟨z',?_,by simpa using hz2⟩
          simp[execOp,hop,Instr.lookup,run_underlying hd,h1,hck,Instr.findKey,run_underlying hdk,hgo,hq1,hz1]
         ·refine⟨.tuple #[z',.bool false],?_,by simp only[if_true];exact⟨_,rfl,z',_,rfl,hz2,_,_,rfl,rfl,rfl⟩⟩
          simp[execOp,hop,Instr.lookup,run_underlying hd,h1,hck,Instr.findKey,run_underlying hdk,hgo,hq1,hz1]
      ·cases hv
     ·cases hv
    ·cases hv
   ·cases hv
  ·cases ht
 ·
  rename_i args argTypes a
  obtain⟨ht,hx⟩:=hc
  split at ht
  ·rename_i t hat
   split at hx
   ·rename_i x hal
    have harg:args= #[x]:=by rw[←Array.toList_inj,hal]
    have h1:=he _ _ hx
    have hcall:∀u,(Builtin.len_ argTypes o.type #[r x]).run X.P w= .ok u w→(execOp r o).run X.P w= .ok (.value u) w:=by
     intro u hu
     simp[execOp,hop,resolve,invoke,builtin,harg,hu]
    split at ht
    ·rename_i kt e hd
     simp only[RO.run]at hv
     split at hv
     ·rename_i hn
      cases hv
      rw[hn]at h1;simp only[VR]at h1
      refine⟨.int .i64 0,hcall _ ?_,by simp[VR]⟩
      simp[Builtin.len_,hat,h1,run_underlying hd,goInt]
     ·rename_i n hn
      rw[hn]at h1
      obtain⟨ad,hρ,h1⟩:=h1
      split at hv
      ·rename_i es hg
       cases hv
       obtain⟨b,mes,clk,hb1,hb2,hb3,_⟩:=hr.Um _ _ hg
       rw[hρ]at hb1
       cases hb1
       have hgo:(getObj b).run X.P w= .ok (.map mes clk) w:=by simp[getObj,Sem.run,hb2]
       have hl:=hb3.length
       simp only[Array.length_toList]at hl
       refine⟨.int .i64 mes.size,hcall _ ?_,by simp[VR,hl]⟩
       simp[Builtin.len_,hat,h1,run_underlying hd,goInt,hgo]
      ·cases hv
     ·cases hv
    ·cases ht
   ·cases hx
  ·cases ht
 ·
  rename_i s d x a
  obtain⟨h1,h2,h3⟩:=hc
  split at h1
  case h_2=>cases h1
  rename_i t hs
  split at h1
  case h_2=>cases h1
  rename_i j hj
  have hj0:j.size≠0:=by simpa using h1
  split at h2
  case h_2=>cases h2
  rename_i hd
  have hx:=he _ _ h3
  simp only[RO.run]at hv
  split at hv
  case h_2=>cases hv
  rename_i n off hn
  split at hv
  case h_2=>cases hv
  rename_i ty l cs hg
  split at hv
  case isFalse=>cases hv
  rename_i hlt
  cases hv
  rw[hn]at hx
  obtain⟨ad,hρ,hx⟩:=hx
  obtain⟨b,us,fz,hb1,hb2,hb3,_⟩:=hr.Um _ _ hg
  rw[hρ]at hb1
  cases hb1
  have hlen:=hb3.length
  refine⟨_,?_,⟨b,0,none⟩,hρ,rfl⟩
  have hsh:w.shape? b=some (X.τ ty,us.size):=by simp[World.shape?,hb2]
  have:=Lib.run_to_unsafe (P:=X.P) w ⟨b,0+off,none⟩ hs hd hj hj0 hsh (by simp at hlen⊢;omega)
  simp only[execOp,hop,hx]
  rw[Sem.run_bind,this]
  rfl
 ·
  rename_i s d x ty z a
  obtain⟨h1,h2,h3,h4,h5⟩:=hc
  split at h1
  case h_2=>cases h1
  rename_i hs
  split at h2
  case h_2=>cases h2
  rename_i t hd
  simp only[beq_iff_eq]at h2
  subst h2
  obtain⟨j,hj⟩:=Option.isSome_iff_exists.1 h3
  have hx:=he _ _ h5
  simp only[RO.run]at hv
  split at hv
  case h_2=>cases hv
  rename_i n off hn
  split at hv
  case h_2=>cases hv
  rename_i ty' l cs hg
  split at hv
  case isFalse=>cases hv
  rename_i hlt
  obtain⟨rfl,rfl,rfl⟩:=hlt
  cases hv
  rw[hn]at hx
  obtain⟨ad,hρ,hx⟩:=hx
  obtain⟨b,us,fz,hb1,hb2,hb3,_⟩:=hr.Um _ _ hg
  rw[hρ]at hb1
  cases hb1
  have hlen:=hb3.length
  refine⟨_,?_,⟨b,0,none⟩,hρ,rfl⟩
  have hsh:w.shape? b=some (X.τ ty',cs.length):=by
   simp only[Array.length_toList]at hlen
   simp[World.shape?,hb2,hlen]
  have:=Lib.run_from_unsafe (P:=X.P) w ⟨b,0,none⟩ hs hd hj hsh h4
  simp only[execOp,hop,hx]
  rw[Sem.run_bind,this]
  rfl
 ·
  rename_i t gg x g len es a
  obtain⟨rfl,ht,hx⟩:=hc
  have h1:=hgl (X.γ g)
  have h2:=he _ _ hx
  simp only[RO.run]at hv
  split at hv
  case h_2=>cases hv
  rename_i k j hj
  split at hv
  case h_2=>cases hv
  rename_i k' cs hg
  split at hv
  case isFalse=>cases hv
  rename_i hb
  obtain⟨rfl,hb⟩:=hb
  cases hv
  rw[hj]at h2
  simp only[VR]at h2
  obtain⟨us,ty,fz,hb1,hb2,hb3⟩:=hr.Um _ _ hg
  split at ht
  case h_2=>cases ht
  rename_i n e hd
  simp only[bool_and,beq_iff_eq]at ht
  obtain⟨rfl,hs⟩:=ht
  refine⟨.pointer (some ((⟨X.γ k',0,none⟩:Addr).add (j.toNat*es))),?_,_,hb1,by rw[add_plain]⟩
  simp[execOp,hop,h1,h2,Instr.indexAt,asIntOf,run_underlying hd,Instr.sureAddr,hb,N4 hs]
end Go.Ev

/- How the relation between heaps is kept: a new block, a write into a row of cells, a write into a map. -/
namespace Go.Ev
open Go
variable {X : Cx} {N N' N'' : Nu} {D : Mc}
structure Gd (N:Nu) (h:Heap) (w:World) (N':Nu) (h':Heap) (w':World):Prop where
 le:N.Le N'
 size:w.heap.size≤w'.heap.size
 tape:w'.tape=w.tape
 os:w'.os=w.os
 output:w'.output=w.output
 frame:∀b,b<w.heap.size→¬Own N h b→w'.heap[b]? =w.heap[b]?
 has:∀n o a,Zh h' n=some o→N'.ρ n=some a→(∃m p c,Zh h m=some p∧N.ρ m=some c∧c.block=a.block∧(o.own=true→p.own=true))∨w.heap.size≤a.block
theorem Gd.own {h h':Heap} {w w':World} (g:Gd N h w N' h' w') {b:Nat} (hb:Own N' h' b):Own N h b∨w.heap.size≤b:=by
 obtain⟨n,o,a,h1,h2,h3,rfl⟩:=hb
 rcases g.has n o a h1 h3 with ⟨m,p,c,k1,k2,k3,k4⟩ | h
 ·exact .inl ⟨m,p,c,k1,k4 h2,k2,k3⟩
 ·exact .inr h
theorem Gd.refl (N:Nu) (h:Heap) (w:World):Gd N h w N h w:=
 ⟨.refl N,Nat.le_refl _,rfl,rfl,rfl,fun _ _ _=>rfl,fun n o a h1 h2=> .inl ⟨n,o,a,h1,h2,rfl,id⟩⟩
theorem Gd.trans {h h' h'':Heap} {w w' w'':World} (a:Gd N h w N' h' w') (b:Gd N' h' w' N'' h'' w''):Gd N h w N'' h'' w'':=by
 refine⟨a.le.trans b.le,Nat.le_trans a.size b.size,b.tape.trans a.tape,b.os.trans a.os,b.output.trans a.output,fun k hk hn=> ?_,fun n o c h1 h2=> ?_⟩
 ·rw[b.frame k (Nat.lt_of_lt_of_le hk a.size) (fun ho=>(a.own ho).elim hn (fun h=>by omega)),a.frame k hk hn]
 ·rcases b.has n o c h1 h2 with ⟨m,p,d,k1,k2,k3,k4⟩ | h
  ·rcases a.has m p d k1 k2 with ⟨m',p',d',l1,l2,l3,l4⟩ | h
   ·exact .inl ⟨m',p',d',l1,l2,l3.trans k3,fun x=>l4 (k4 x)⟩
   ·rw[k3]at h;exact .inr h
  ·exact .inr (Nat.le_trans a.size h)
theorem Lc:∀{h:Heap} {n m:Nat} {o p:Qb},Zh h n=some p→Zh (Z7 h n o) m=if n=m then some o else Zh h m
 | [],n,m,o,p,hp=>by cases hp
 | (k,q)::h,n,m,o,p,hp=>by
   simp only[Zh]at hp
   simp only[Z7]
   by_cases e:k=n
   ·subst e
    rw[if_pos rfl]
    simp only[Zh]
    by_cases e2:k=m
    ·rw[if_pos e2,if_pos e2]
    ·rw[if_neg e2,if_neg e2,if_neg e2]
   ·rw[if_neg e]at hp⊢
    simp only[Zh]
    by_cases e2:k=m
    ·subst e2
     rw[if_pos rfl,if_pos rfl,if_neg (fun x=>e x.symm)]
    ·rw[if_neg e2,if_neg e2,Lc hp]
theorem Kj:∀{h:Heap} {n m:Nat},Zh (Ub h n) m=if n=m then none else Zh h m
 | [],n,m=>by simp[Ub,Zh]
 | (k,q)::h,n,m=>by
   simp only[Ub]
   by_cases e:k=n
   ·subst e
    rw[if_pos rfl,Kj]
    simp only[Zh]
    by_cases e2:k=m
    ·rw[if_pos e2,if_pos e2]
    ·rw[if_neg e2,if_neg e2,if_neg e2]
   ·rw[if_neg e]
    simp only[Zh]
    by_cases e2:k=m
    ·subst e2
     rw[if_pos rfl,if_pos rfl,if_neg (fun x=>e x.symm)]
    ·rw[if_neg e2,if_neg e2,Kj]
theorem Kr.mono (hl:N.Le N') {e:Env} {tmps:Array Value} (h:Kr X N e tmps):Kr X N' e tmps:=fun t=>(h t).mono hl _
theorem U0.mono (hl:N.Le N'):∀{es:List (AV×AV)} {ms:List MapEntry},U0 X N es ms→U0 X N' es ms
 | [],_,h=>h
 | (_,_)::_,_,⟨e,er,h0,h1,h2,h3⟩=>⟨e,er,h0,h1.mono hl _,h2.mono hl _,h3.mono hl⟩
theorem Bt.Zd {w w':World} {n:Nat} {o:Qb} (hl:N.Le N') (_hs:w.heap.size≤w'.heap.size) (hb:∀a,N.ρ n=some a→w'.heap[a.block]? =w.heap[a.block]?)
  (h:Bt D X N w n o):Bt D X N' w' n o:=by
 cases o with
 | cells ty l cs=>
   obtain⟨b,us,fz,h1,h2,h3,h4⟩:=h
   exact⟨b,us,fz,(hl _ _ h1).1,by rw[hb _ h1];exact h2,h3.mono hl _,h4⟩
 | buf ty es cs=>
   obtain⟨b,us,fz,h1,h2,h3,h4,h5,h6⟩:=h
   exact⟨b,us,fz,(hl _ _ h1).1,by rw[hb _ h1];exact h2,by rw[(hl _ _ h1).2];exact h3,h4,h5.mono hl _,h6⟩
 | ro cs=>
   obtain⟨a,h1,h2,h3⟩:=h
   refine⟨a,(hl _ _ h1).1,by rw[hb _ h1];exact h2,fun i x hx=> ?_⟩
   obtain⟨u,hu,hv⟩:=h3 i x hx
   refine⟨u,?_,hv.mono hl _⟩
   simp only[World.cell?,hb _ h1]
   exact hu
 | map es=>
   obtain⟨b,mes,clk,h1,h2,h3,h4⟩:=h
   exact⟨b,mes,clk,(hl _ _ h1).1,by rw[hb _ h1];exact h2,h3.mono hl,h4⟩
 | Wz g cs=>
   obtain⟨us,t,fz,h1,h2,h3⟩:=h
   exact⟨us,t,fz,(hl _ _ h1).1,by rw[hb _ h1];exact h2,h3.mono hl _⟩
 | iter s pos=>
   obtain⟨b,h1,h2⟩:=h
   exact⟨b,(hl _ _ h1).1,by rw[hb _ h1];exact h2⟩
 | loop st env ps assign body=>
   obtain⟨b,l,S,h1,h2,h3,h4,h5⟩:=h
   exact⟨b,l,S,(hl _ _ h1).1,by rw[hb _ h1];exact h2,h3,h4.mono hl,h5⟩
theorem Ji {w:World} {b:Nat} {o:Obj} (h:w.heap[b]? =some o):b<w.heap.size:=(Array.getElem?_eq_some_iff.1 h).1
theorem Bt.lt {w:World} {n:Nat} {o:Qb} (h:Bt D X N w n o) {a:Addr} (ha:N.ρ n=some a):a.block<w.heap.size:=by
 cases o with
 | cells ty l cs=>obtain⟨b,us,fz,h1,h2,_⟩:=h;rw[h1]at ha;cases ha;exact Ji h2
 | buf ty es cs=>obtain⟨b,us,fz,h1,h2,_⟩:=h;rw[h1]at ha;cases ha;exact Ji h2
 | ro cs=>obtain⟨b,h1,⟨us,t,fz,h2⟩,_⟩:=h;rw[h1]at ha;cases ha;exact Ji h2
 | map es=>obtain⟨b,mes,clk,h1,h2,_⟩:=h;rw[h1]at ha;cases ha;exact Ji h2
 | Wz g cs=>obtain⟨us,t,fz,h1,h2,_⟩:=h;rw[h1]at ha;cases ha;exact Ji h2
 | iter s pos=>obtain⟨b,h1,h2⟩:=h;rw[h1]at ha;cases ha;exact Ji h2
 | loop st env ps assign body=>obtain⟨b,l,S,h1,h2,_⟩:=h;rw[h1]at ha;cases ha;exact Ji h2
def Nu.add (N:Nu) (n:Nat) (a:Addr) (k:Nat):Nu:=⟨fun m=>if m=n then some a else N.ρ m,fun m=>if m=n then k else N.κ m⟩
theorem Nu.Zcx {n:Nat} {a:Addr} {k:Nat} (h:N.ρ n=none):N.Le (N.add n a k):=by
 intro m b hb
 have:m≠n:=by rintro rfl;rw[h]at hb;cases hb
 simp[Nu.add,this,hb]
theorem Gv (w:World) (o:Obj) {k:Nat} (h:k<w.heap.size):(w.heap.push o)[k]? =w.heap[k]? :=by
 rw[Array.getElem?_push,if_neg (by omega)]
theorem HR.new {h:Heap} {w:World} (hr:HR D X N h w) {n k:Nat} {obj:Obj} {o:Qb} (hn:N.ρ n=none)
  (ho:Bt D X (N.add n ⟨w.heap.size,0,none⟩ k) {w with heap:=w.heap.push obj} n o):
  HR D X (N.add n ⟨w.heap.size,0,none⟩ k) ((n,o)::h) {w with heap:=w.heap.push obj}∧
   Gd N h w (N.add n ⟨w.heap.size,0,none⟩ k) ((n,o)::h) {w with heap:=w.heap.push obj}:=by
 have hle:N.Le (N.add n ⟨w.heap.size,0,none⟩ k):=Nu.Zcx hn
 have hnew:(N.add n ⟨w.heap.size,0,none⟩ k).ρ n=some ⟨w.heap.size,0,none⟩:=by simp[Nu.add]
 have hold:∀m,m≠n→(N.add n ⟨w.heap.size,0,none⟩ k).ρ m=N.ρ m:=fun m hm=>by simp[Nu.add,hm]
 have hkeep:∀m p,Zh h m=some p→∃a,N.ρ m=some a∧a.block<w.heap.size∧m≠n:=by
  intro m p hp
  have:=hr.Um m p hp
  obtain⟨a,ha⟩:∃a,N.ρ m=some a:=by
   cases p with
   | cells ty l cs=>obtain⟨b,us,fz,h1,_⟩:=this;exact⟨_,h1⟩
   | buf ty es cs=>obtain⟨b,us,fz,h1,_⟩:=this;exact⟨_,h1⟩
   | ro cs=>obtain⟨a,h1,_⟩:=this;exact⟨_,h1⟩
   | map es=>obtain⟨b,mes,clk,h1,_⟩:=this;exact⟨_,h1⟩
   | Wz g cs=>obtain⟨us,t,fz,h1,_⟩:=this;exact⟨_,h1⟩
   | iter s pos=>obtain⟨b,h1,_⟩:=this;exact⟨_,h1⟩
   | loop st env ps assign body=>obtain⟨b,l,S,h1,_⟩:=this;exact⟨_,h1⟩
  exact⟨a,ha,this.lt ha,by rintro rfl;rw[hn]at ha;cases ha⟩
 refine⟨⟨fun m p hp=> ?_,fun m m' p q a c hp hq hpo ha hc hac=> ?_⟩,⟨hle,by simp,rfl,rfl,rfl,fun b hb _=>Gv w obj hb,fun m p a hp ha=> ?_⟩⟩
 ·simp only[Zh]at hp
  split at hp
  ·rename_i e;subst e;cases hp;exact ho
  ·exact(hr.Um m p hp).Zd hle (by simp) (fun a ha=>Gv w obj ((hr.Um m p hp).lt ha))
 ·simp only[Zh]at hp hq
  split at hp
  ·rename_i e;subst e
   split at hq
   ·assumption
   ·exfalso
    obtain⟨a',ha',hlt,hne⟩:=hkeep _ _ hq
    rw[hnew]at ha
    rw[hold _ hne,ha']at hc
    cases ha;cases hc
    simp only at hac
    omega
  ·split at hq
   ·rename_i e;subst e
    exfalso
    obtain⟨a',ha',hlt,hne⟩:=hkeep _ _ hp
    rw[hnew]at hc
    rw[hold _ hne,ha']at ha
    cases ha;cases hc
    simp only at hac
    omega
   ·obtain⟨a',ha',_,hne⟩:=hkeep _ _ hp
    obtain⟨c',hc',_,hne'⟩:=hkeep _ _ hq
    rw[hold _ hne]at ha
    rw[hold _ hne']at hc
    exact hr.sep _ _ _ _ _ _ hp hq hpo ha hc hac
 ·simp only[Zh]at hp
  split at hp
  ·rename_i e;subst e
   rw[hnew]at ha;cases ha
   exact .inr (Nat.le_refl _)
  ·obtain⟨a',ha',_,hne⟩:=hkeep _ _ hp
   rw[hold _ hne]at ha
   exact .inl ⟨m,p,a,hp,ha,rfl,id⟩
theorem HR.put {h:Heap} {w w':World} (hr:HR D X N h w) {n b:Nat} {o p:Qb} (hg:Zh h n=some p) (hp:p.own=true) (hρ:N.ρ n=some ⟨b,0,none⟩)
  (hs:w'.heap.size=w.heap.size) (ht:w'.tape=w.tape) (hos:w'.os=w.os) (hou:w'.output=w.output) (hb:∀k,k≠b→w'.heap[k]? =w.heap[k]?) (ho:Bt D X N w' n o):
  HR D X N (Z7 h n o) w'∧Gd N h w N (Z7 h n o) w':=by
 refine⟨⟨fun m q hq=> ?_,fun m m' q q' a c h1 h2 h3 h4 h5 h6=> ?_⟩,⟨.refl N,by omega,ht,hos,hou,fun k hk hn=>hb k ?_,fun m q a hq ha=> ?_⟩⟩
 ·rw[Lc hg]at hq
  split at hq
  ·rename_i e;subst e;cases hq;exact ho
  ·rename_i hne
   refine(hr.Um m q hq).Zd (.refl N) (by omega) (fun a ha=>hb _ ?_)
   intro e
   exact hne (hr.sep n m p q _ a hg hq hp hρ ha (by simpa using e.symm))
 ·rw[Lc hg]at h1 h2
  have e1:∃q1,Zh h m=some q1∧q1.own=true:=by
   split at h1
   ·rename_i e;subst e;exact⟨p,hg,hp⟩
   ·exact⟨q,h1,h3⟩
  have e2:∃q2,Zh h m'=some q2:=by
   split at h2
   ·rename_i e;subst e;exact⟨p,hg⟩
   ·exact⟨q',h2⟩
  obtain⟨q1,g1,o1⟩:=e1
  obtain⟨q2,g2⟩:=e2
  exact hr.sep _ _ _ _ _ _ g1 g2 o1 h4 h5 h6
 ·rintro rfl
  exact hn ⟨n,p,_,hg,hp,hρ,rfl⟩
 ·rw[Lc hg]at hq
  split at hq
  ·rename_i e;subst e;exact .inl ⟨n,p,a,hg,ha,rfl,fun _=>hp⟩
  ·exact .inl ⟨m,q,a,hq,ha,rfl,id⟩
theorem HR.kill {h:Heap} {w w':World} (hr:HR D X N h w) {n b:Nat} {p:Qb} (hg:Zh h n=some p) (hp:p.own=true) (hρ:N.ρ n=some ⟨b,0,none⟩)
  (hs:w'.heap.size=w.heap.size) (ht:w'.tape=w.tape) (hos:w'.os=w.os) (hou:w'.output=w.output) (hb:∀k,k≠b→w'.heap[k]? =w.heap[k]?):
  HR D X N (Ub h n) w'∧Gd N h w N (Ub h n) w':=by
 have hdl:∀m q,Zh (Ub h n) m=some q→n≠m∧Zh h m=some q:=fun m q hq=>by
  rw[Kj]at hq
  split at hq
  ·cases hq
  ·rename_i e;exact⟨e,hq⟩
 refine⟨⟨fun m q hq=> ?_,fun m m' q q' a c h1 h2 h3 h4 h5 h6=>hr.sep _ _ _ _ _ _ (hdl _ _ h1).2 (hdl _ _ h2).2 h3 h4 h5 h6⟩,⟨.refl N,by omega,ht,hos,hou,fun k hk hn=>hb k ?_,fun m q a hq ha=> ?_⟩⟩
 ·obtain⟨hne,hq⟩:=hdl _ _ hq
  refine(hr.Um m q hq).Zd (.refl N) (by omega) (fun a ha=>hb _ ?_)
  intro e
  exact hne (hr.sep n m p q _ a hg hq hp hρ ha (by simpa using e.symm))
 ·rintro rfl
  exact hn ⟨n,p,_,hg,hp,hρ,rfl⟩
 ·exact .inl ⟨m,q,a,(hdl _ _ hq).2,ha,rfl,id⟩
theorem HR.weaken {h h':Heap} {w:World} (hr:HR D X N h w) (hs:∀n o,Zh h' n=some o→Zh h n=some o):HR D X N h' w:=
 ⟨fun n o ho=>hr.Um n o (hs n o ho),fun n m o p a c h1 h2 h3 h4 h5 h6=>hr.sep n m o p a c (hs _ _ h1) (hs _ _ h2) h3 h4 h5 h6⟩
end Go.Ev

/- New blocks, stores, appends, copies, writes into maps do what the model's do. -/
namespace Go.Ev
open Go
variable {X : Cx} {N N' N'' : Nu} {D : Mc}
def Th (w:World) (b:Nat) (us:Array Value) (t:TypeId) (fz:Nat×Nat):World:={w with heap:=w.heap.setIfInBounds b (.cells us t fz)}
theorem Zpp {w:World} {b i:Nat} {us:Array Value} {t:TypeId} {fz:Nat×Nat} {v:Value} (h:w.heap[b]? =some (.cells us t fz)):
  w.setCell ⟨b,i,none⟩ v=Th w b (us.setIfInBounds i v) t fz:=by
 simp only[World.setCell,Th]
 congr 1
 apply Array.ext_getElem?
 intro k
 rw[Array.getElem?_modify,Array.getElem?_setIfInBounds]
 by_cases e:b=k
 ·subst e
  have hlt:=Ji h
  rw[if_pos rfl,if_pos rfl,if_pos hlt,h]
  rfl
 ·rw[if_neg e,if_neg e]
theorem Zdz {w:World} {b:Nat} {us:Array Value} {t:TypeId} {fz:Nat×Nat} (h:b<w.heap.size):(Th w b us t fz).heap[b]? =some (.cells us t fz):=by
 simp[Th,h]
theorem Fj {w:World} {b k:Nat} {us:Array Value} {t:TypeId} {fz:Nat×Nat} (h:k≠b):(Th w b us t fz).heap[k]? =w.heap[k]? :=by
 simp only[Th]
 rw[Array.getElem?_setIfInBounds,if_neg (fun e=>h e.symm)]
theorem Zwi (w:World) (b:Nat) (us vs:Array Value) (t:TypeId) (fz:Nat×Nat):Th (Th w b us t fz) b vs t fz=Th w b vs t fz:=by
 simp[Th]
theorem Zwj {w:World} {b:Nat} {us:Array Value} {t:TypeId} {fz:Nat×Nat} (h:w.heap[b]? =some (.cells us t fz)):Th w b us t fz=w:=by
 simp only[Th]
 have:w.heap.setIfInBounds b (.cells us t fz)=w.heap:=by
  apply Array.ext_getElem?
  intro k
  rw[Array.getElem?_setIfInBounds]
  by_cases e:b=k
  ·subst e;rw[if_pos rfl,if_pos (Ji h),h]
  ·rw[if_neg e]
 rw[this]
theorem VR.Zpb {x:AV} {u:Value} (h:VR X N x u) (hs:x.sc=true):u.oneCell'=true:=by
 cases x <;> simp only[AV.sc]at hs <;> first | (cases hs;done) | skip
 all_goals
  simp only[VR]at h
  first
  | (subst h;rfl)
  | (obtain⟨_,_,rfl⟩:=h;rfl)
  | (obtain⟨_,_,_,rfl,_⟩:=h;rfl)
  | (obtain⟨_,_,rfl,_⟩:=h;rfl)
  | (obtain⟨_,rfl,_⟩:=h;rfl)
theorem G3 {P:Program} {b:Nat} {t:TypeId} {fz:Nat×Nat} (o:Nat):∀(vs:List Value) (us:Array Value) (w:World) (i:Nat),
  w.heap[b]? =some (.cells us t fz)→unfz fz us.size→o+i+vs.length≤us.size→(∀v∈vs,v.oneCell'=true)→
  (storeCells ⟨b,o,none⟩ vs i).run P w= .ok () (Th w b (Uz us.toList (o+i) vs).toArray t fz)
 | [],us,w,i,h,_,_,_=>by simp[storeCells,Uz,Zwj h]
 | v::vs,us,w,i,h,hf,hl,hs=>by
   simp only[List.length_cons]at hl
   have hc:w.cell? ⟨b,o+i,none⟩=us[o+i]? :=cell?_of h
   have hlt:o+i<us.size:=by omega
   have hfz:w.frozen? ⟨b,o+i,none⟩=false:=by
    have:=hf (o+i) hlt
    simp only[World.frozen?,h]
    rw[Bool.eq_false_iff]
    simp only[ne_eq,Bool.and_eq_true,decide_eq_true_eq]
    exact this
   have ih:=G3 (P:=P) o vs (us.setIfInBounds (o+i) v) (Th w b (us.setIfInBounds (o+i) v) t fz) (i+1) (Zdz (Ji h))
    (by simpa using hf) (by simp;omega) (fun x hx=>hs x (List.mem_cons_of_mem _ hx))
   simp only[storeCells,Sem.run_bind,add_plain,run_store P w _ v _ (hs v List.mem_cons_self),hc,Array.getElem?_eq_getElem hlt,hfz,Bool.false_eq_true,if_false,Result.andThen_ok,Zpp h]
   rw[ih,Zwi]
   simp[Uz,Nat.add_assoc]
theorem Ih {h h':Heap} {w:World} (hr:HR D X N h w) {n off:Nat} {vs:List AV} {us:List Value} (hv:VRs X N vs us) (hw:Jy h n off vs=some h'):
  ∃b w',N.ρ n=some ⟨b,0,none⟩∧(storeCells ⟨b,off,none⟩ us).run X.P w= .ok () w'∧HR D X N h' w'∧Gd N h w N h' w':=by
 unfold Jy at hw
 split at hw
 ·rename_i ty l cs hg
  split at hw
  ·rename_i hcond
   obtain⟨hle,hsc⟩:=hcond
   cases hw
   obtain⟨b,ws,fz,h1,h2,h3,h4⟩:=hr.Um _ _ hg
   have hlen:=hv.length
   have hlen3:=h3.length
   simp only[Array.length_toList]at hlen3
   have hone:∀v∈us,v.oneCell'=true:=by
    intro v hvm
    obtain⟨i,hi,rfl⟩:=List.getElem_of_mem hvm
    have hi':i<vs.length:=by omega
    exact((L5.1 hv).2 i vs[i] us[i] (List.getElem?_eq_getElem hi') (List.getElem?_eq_getElem hi)).Zpb (List.all_eq_true.1 hsc _ (List.getElem_mem hi'))
   have hrun:=G3 (P:=X.P) off us ws w 0 h2 h4 (by omega) hone
   refine⟨b,_,h1,hrun,HR.put hr hg rfl h1 (by simp[Th]) rfl rfl rfl (fun k hk=>Fj hk) ?_⟩
   refine⟨b,_,fz,h1,Zdz (Ji h2),?_,?_⟩
   ·exact h3.Qd hv _
   ·simpa [Ut] using h4
  ·cases hw
 ·rename_i ty es cs hg
  split at hw
  ·rename_i hcond
   obtain⟨hle,hsc⟩:=hcond
   cases hw
   obtain⟨b,ws,fz,h1,h2,h3,h4,h5,h6⟩:=hr.Um _ _ hg
   have hlen:=hv.length
   have hone:∀v∈us,v.oneCell'=true:=by
    intro v hvm
    obtain⟨i,hi,rfl⟩:=List.getElem_of_mem hvm
    have hi':i<vs.length:=by omega
    exact((L5.1 hv).2 i vs[i] us[i] (List.getElem?_eq_getElem hi') (List.getElem?_eq_getElem hi)).Zpb (List.all_eq_true.1 hsc _ (List.getElem_mem hi'))
   have hrun:=G3 (P:=X.P) off us ws w 0 h2 h6 (by omega) hone
   refine⟨b,_,h1,hrun,HR.put hr hg rfl h1 (by simp[Th]) rfl rfl rfl (fun k hk=>Fj hk) ?_⟩
   refine⟨b,_,fz,h1,Zdz (Ji h2),by simpa [Ut] using h3,by simpa [Zb2,Ut] using h4,?_,?_⟩
   ·rw[Zb2]
    have key:(Uz ws.toList off us).take cs.length=Uz (ws.toList.take cs.length) off us:=by
     clear hrun hone hv hr hg
     have:∀(us:List Value) (l:List Value) (o:Nat),o+us.length≤cs.length→(Uz l o us).take cs.length=Uz (l.take cs.length) o us:=by
      intro us
      induction us with
      | nil=>intro l o _;rfl
      | cons u us ih=>
        intro l o ho
        simp only[List.length_cons]at ho
        simp only[Uz]
        rw[ih _ _ (by omega),List.take_set]
     exact this us ws.toList off (by omega)
    rw[Nat.add_zero,key]
    exact h5.Qd hv _
   ·simpa [Ut] using h6
  ·cases hw
 ·cases hw
end Go.Ev
