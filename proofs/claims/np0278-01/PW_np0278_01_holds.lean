import PyProof.Rows.All
import Wide.All
import OpenK.AllK
import Wide.FinOn
import Lean
import PySem.Challenge.RW_np0278_01
open PySem PySem.W PyProof.Rows
set_option Elab.async false
set_option maxRecDepth 100000
set_option autoImplicit false
set_option genSizeOf false
set_option genInjectivity false
set_option genCtorIdx false
set_option linter.all false
set_option backward.match.sparseCases false
namespace Mine.Internal
noncomputable abbrev aa:=@List.length_append
noncomputable abbrev ae:=@Nat.le_trans
noncomputable abbrev af:=@List.append_assoc
noncomputable abbrev ah:=@List.length_map
noncomputable abbrev ai:=@List.forall_mem_singleton
noncomputable abbrev aj:=@List.forall_mem_nil
noncomputable abbrev ak:=@Int.le_trans
noncomputable abbrev ao:=@List.forall_mem_cons
noncomputable abbrev ar:=@Bool.and_eq_true_iff
noncomputable abbrev au:=@List.map_append
noncomputable abbrev aw:=@List.append_nil
noncomputable abbrev ax:=@Nat.lt_of_le_of_lt
noncomputable abbrev ay:=@List.mem_append_right
noncomputable abbrev az:=@Nat.le_add_right
noncomputable abbrev aA:=@Nat.succ_le_succ
noncomputable abbrev aB:=@Nat.add_le_add_left
noncomputable abbrev aC:=@Int.natCast_nonneg
noncomputable abbrev aD:=@Nat.le_refl
noncomputable abbrev aE:=@List.mem_cons
noncomputable abbrev aF:=@Nat.add_le_add_right
noncomputable abbrev aG:=@Int.lt_of_lt_of_le
noncomputable abbrev aH:=@List.forall_mem_append
noncomputable abbrev aI:=@List.mem_singleton
noncomputable abbrev aJ:=@Int.le_add_of_nonneg_right
noncomputable abbrev aK:=@List.mem_map_of_mem
noncomputable abbrev aL:=@List.mem_append_left
noncomputable abbrev aM:=@List.getElem?_eq_some_iff
noncomputable abbrev aN:=@Heap.get?_push_size
noncomputable abbrev aO:=@Int.ofNat_le
noncomputable abbrev aP:=@Int.ofNat_lt
noncomputable abbrev aQ:=@List.nodup_cons
noncomputable abbrev aR:=@List.map_cons
noncomputable abbrev aS:=@Int.lt_irrefl
noncomputable abbrev aT:=@Heap.get?_push_of_some
noncomputable abbrev aV:=@Nat.le_succ_of_le
noncomputable abbrev aW:=@List.getElem?_eq_getElem
noncomputable abbrev aX:=@List.getElem?_append_right
noncomputable abbrev aY:=@List.map_map
noncomputable abbrev aZ:=@Nat.le_of_eq
noncomputable abbrev ba:=@List.perm_append_comm
noncomputable abbrev bb:=@List.mem_map
noncomputable abbrev bc:=@List.length_cons
noncomputable abbrev be:=@Nat.lt_of_lt_of_le
noncomputable abbrev bf:=@Nat.le_of_succ_le
noncomputable abbrev bg:=@Int.toNat_natCast
noncomputable abbrev bh:=@Nat.le_of_lt
noncomputable abbrev bj:=@Int.add_sub_cancel
noncomputable abbrev bk:=@Nat.le_add_left
noncomputable abbrev bm:=@List.not_mem_nil
noncomputable abbrev bn:=@Nat.add_comm
noncomputable abbrev bo:=@Nat.add_assoc
noncomputable abbrev bq:=@Nat.add_le_add
noncomputable abbrev br:=@Int.add_le_add_right
noncomputable abbrev bt:=@Int.eq_ofNat_of_zero_le
noncomputable abbrev bu:=@Nat.zero_le
noncomputable abbrev bv:=@Int.le_refl
noncomputable abbrev bw:=@List.cons_ne_nil
noncomputable abbrev bx:=@Int.not_lt
noncomputable abbrev bA:=@of_decide_eq_true
noncomputable abbrev bB:=@decide_eq_true
noncomputable abbrev bC:=@beq_self_eq_true
noncomputable abbrev bD:=@eq_of_beq
noncomputable abbrev bF:=@beq_iff_eq
inductive V where
 | none|bool (b:Bool)|int (i:Int)|str (n:Nat)|bytes (l:List Int)|tup (vs:List V)|ref (i:Nat)|con (l:List Int)
inductive O where
 | list (vs:List V)
 | dS (kvs:List (Nat×V))
 | dI (kvs:List (Int×V))
 | dT (kvs:List ((Int×Int)×V))
 | inst (c:Nat) (fs:List V)
noncomputable abbrev H:=List O
noncomputable abbrev Le:=List (Option V)
noncomputable def lim:Nat:=1000000
set_option genCtorIdx true in
inductive BOp where|add|sub|mul|fdiv|mod|band|shr|shl
set_option genCtorIdx true in
inductive COp where|eq|ne|lt|le|gt|ge|is|isnot|inn|notin
set_option genCtorIdx true in
inductive BI where|len|sorted|abs|int|bytes|list|sum|min1|min2|max1|max2
set_option genCtorIdx true in
inductive MT where|append|extend|pop|index|update|get|startsEven|join
inductive Pat where|one (i:Nat)|many (is:List Nat)
inductive E where
 | lit (v:V)|var (i:Nat)|attr (e:E) (c f:Nat)
 | bin (op:BOp) (a b:E)|neg (e:E)|not (e:E)|and (a b:E)|or (a b:E)
 | cmp (op:COp) (a b:E)|cmp2 (op op':COp) (a b c:E)|ite (c a b:E)
 | list (es:List E)|tup (es:List E)|dT0|dS (ks:List Nat) (es:List E)|dI2 (k v k' v':E)
 | idx (a b:E)|slc (a lo hi:E)|rev (a:E)
 | comp (e:E) (p:Pat) (it:E)|compIf (e:E) (p:Pat) (it c:E)|comp2 (e:E) (p:Pat) (it:E) (p':Pat) (it' c:E)
 | call (f:Nat) (es:List E)|mk (c:Nat) (es:List E)|bi (b:BI) (es:List E)|meth (m:MT) (o:E) (es:List E)|umeth (f:Nat) (o:E) (es:List E)
 | seq (e:E)|r1 (a:E)|r2 (a b:E)|r3 (a b c:E)|enum (e:E)|zip (a b:E)|zipR (a b c d:E)
inductive S where
 | asg (i:Nat) (e:E)|asgT (is:List Nat) (e:E)|asgAA (o:E) (c f:Nat) (o':E) (c' f':Nat) (e:E)|asgAV (o:E) (c f i:Nat) (e:E)
 | setA (o:E) (c f:Nat) (e:E)|setI (o i e:E)|setSl (o lo hi e:E)
 | aug (i:Nat) (op:BOp) (e:E)|augA (o:E) (c f:Nat) (op:BOp) (e:E)
 | ex (e:E)|ret (e:E)|ret0|iff (c:E) (a b:List S)|forr (p:Pat) (it:E) (b:List S)|whl (c:E) (b:List S)|fail
inductive Fl where|next|ret (v:V)
structure Fn where
 nargs:Nat
 dflt:List V
 nslots:Nat
 body:List S
noncomputable def asL:O→Option (List V)
 | .list vs=>some vs
 | _=>none
noncomputable def asI(c:Nat):O→Option (List V)
 | .inst c' fs=>if c'=c then some fs else none
 | _=>none
noncomputable def rV:O→Option (List (Nat×V))
 | .dS k=>some k
 | _=>none
noncomputable def yu:O→Option (List (Int×V))
 | .dI k=>some k
 | _=>none
noncomputable def p0:O→Option (List ((Int×Int)×V))
 | .dT k=>some k
 | _=>none
noncomputable def bJ(σ:H)(a:Nat):Option (List V):=(σ[a]?).bind asL
noncomputable def cC(σ:H)(c a:Nat):Option (List V):=(σ[a]?).bind (asI c)
noncomputable def d5:V→Option Nat
 | .ref a=>some a
 | _=>none
noncomputable def b6:V→Option Bool
 | .bool b=>some b
 | _=>none
noncomputable def b9:V→Option Int
 | .int b=>some b
 | _=>none
noncomputable def w6:V→Option Nat
 | .str n=>some n
 | _=>none
noncomputable def fw:V→Option (List Int)
 | .bytes l=>some l
 | _=>none
noncomputable def gM:V→Option (List V)
 | .tup l=>some l
 | _=>none
noncomputable def cT{α:Type}(f:V→Option α):List V→Option (List α)
 | []=>some []
 | x::r=>(f x).bind λa=>(cT f r).bind λl=>some (a::l)
noncomputable def one:List V→Option V
 | [v]=>some v
 | _=>none
noncomputable def two{α:Type}:List α→Option (α×α)
 | [a,b]=>some (a,b)
 | _=>none
noncomputable def jF(v:V):Option (Int×Int):=(gM v).bind λl=>(cT b9 l).bind two
noncomputable def gd{α:Type}(c:Prop) [Decidable c](r:Option α):Option α:=if c then r else none
noncomputable def gp{α:Type}(c:Prop)(r:Option α):Option α:= @ite _ c (Classical.propDecidable c) r none
noncomputable def eqB{α:Type}(x y:α):Bool:= @decide (x=y) (Classical.propDecidable _)
noncomputable def intz{α:Type}(x y:V)(k:Int→Int→Option α):Option α:=(b9 x).bind λa=>(b9 y).bind λb=>k a b
noncomputable def onL{α:Type}(σ:H)(x:V)(k:Nat→List V→Option α):Option α:=(d5 x).bind λa=>(bJ σ a).bind λxs=>k a xs
noncomputable def flat:V→Bool
 | .int _=>true
 | .tup vs=>(cT b9 vs).isSome
 | _=>false
noncomputable def mkO{β:Type}(o:O)(σ:H)(k:V→H→Option β):Option β:=k (.ref σ.length) (σ++[o])
noncomputable def pP{β:Type}(vs:List V)(σ:H)(k:V→H→Option β):Option β:=gd (vs.length≤lim) (mkO (.list vs) σ k)
section
variable{β:Type}
noncomputable def GU(x y:V)(σ:H)(k:V→H→Option β):Option β:=match x with
 | .int a=>(b9 y).bind λb=>k (.int (a+b)) σ
 | .bytes a=>(fw y).bind λb=>gd (a.length+b.length≤lim) (k (.bytes (a++b)) σ)
 | .tup a=>(gM y).bind λb=>gd (0<a.length∧0<b.length∧a.length+b.length≤lim) (k (.tup (a++b)) σ)
 | .ref a=>(bJ σ a).bind λxs=>onL σ y λ_ ys=>pP (xs++ys) σ k
 | _=>none
noncomputable def iop:BOp→Int→Int→Option Int
 | .add,a,b=>some (a+b)
 | .sub,a,b=>some (a-b)
 | .mul,a,b=>gd (a.natAbs<2^64∧b.natAbs<2^64) (some (a*b))
 | .fdiv,a,b=>gd (0<b∧b<1073741824) (some (a/b))
 | .mod,a,b=>gd (0<b) (some (a%b))
 | .band,a,b=>gd (0≤a∧0≤b) (some ((a.toNat&&&b.toNat:Nat):Int))
 | .shr,a,b=>gd (0≤b) (some (a/2^b.toNat))
 | .shl,a,b=>gd (0≤b∧b≤64∧a.natAbs<2^64) (some (a*2^b.toNat))
noncomputable def binop(op:BOp)(x y:V)(σ:H)(k:V→H→Option β):Option β:=match op with
 | .add=>GU x y σ k
 | _=>intz x y λa b=>(iop op a b).bind λr=>k (.int r) σ
noncomputable def eqV(σ:H)(x y:V):Option Bool:=match x with
 | .int a=>match y with
  | .int b=>some (a==b)
  | .none=>some false
  | _=>none
 | .none=>match y with
  | .none=>some true
  | .int _=>some false
  | _=>none
 | .str a=>(w6 y).bind λb=>some (a==b)
 | .bytes a=>(fw y).bind λb=>some (a==b)
 | .tup xs=>(gM y).bind λys=>(cT b9 xs).bind λa=>(cT b9 ys).bind λb=>some (a==b)
 | .ref a=>(bJ σ a).bind λxs=>onL σ y λ_ ys=>if xs.length≠ys.length then some false else gd ((xs.all flat&&ys.all flat)=true) (some (eqB xs ys))
 | _=>none
noncomputable def isNone:V→Bool
 | .none=>true
 | _=>false
noncomputable def isV(x y:V):Option Bool:=if isNone y then some (isNone x) else(d5 x).bind λa=>(d5 y).bind λb=>some (a==b)
noncomputable def inV(σ:H)(x y:V):Option Bool:=match x with
 | .int i=>onL σ y λ_ xs=>(cT b9 xs).bind λis=>some (is.contains i)
 | .str s=>(gM y).bind λxs=>(cT w6 xs).bind λl=>some (l.contains s)
 | .bytes s=>(gM y).bind λxs=>(cT fw xs).bind λl=>some (l.contains s)
 | .tup _=>(jF x).bind λp=>(d5 y).bind λa=>((σ[a]?).bind p0).bind λkvs=>some (kvs.any λkv=>kv.1==p)
 | _=>none
noncomputable def icmp:COp→Int→Int→Bool
 | .lt,a,b=>decide (a<b)
 | .le,a,b=>decide (a≤b)
 | .gt,a,b=>decide (b<a)
 | _,a,b=>decide (b≤a)
noncomputable def neg(o:Option Bool):Option Bool:=o.bind λc=>some (!c)
noncomputable def cmpop(op:COp)(x y:V)(σ:H):Option Bool:=match op with
 | .eq=>eqV σ x y
 | .ne=>neg (eqV σ x y)
 | .is=>isV x y
 | .isnot=>neg (isV x y)
 | .inn=>inV σ x y
 | .notin=>neg (inV σ x y)
 | _=>intz x y λa b=>some (icmp op a b)
noncomputable def wrap(n:Nat)(k:Int):Int:=if k<0 then k+n else k
noncomputable def place(n:Nat)(k:Int):Option Nat:=gd ((0≤wrap n k&&wrap n k<n)=true) (some (wrap n k).toNat)
noncomputable def clip(n:Nat)(k:Int):Nat:=(max 0 (min (wrap n k) n)).toNat
noncomputable def part(v:V):Option (Option Int):=match v with
 | .none=>some none
 | .int i=>some (some i)
 | _=>none
noncomputable def kX{α:Type}(l:List α)(a b:Option Int):List α:=(l.drop (a.elim 0 (clip l.length))).take (b.elim l.length (clip l.length)-a.elim 0 (clip l.length))
noncomputable def cut{α:Type}(l:List α)(lo hi:V):Option (List α):=(part lo).bind λa=>(part hi).bind λb=>some (kX l a b)
noncomputable def gD(σ:H)(x y:V):Option V:=match x with
 | .ref a=>match y with
  | .int k=>(bJ σ a).bind λxs=>(place xs.length k).bind λj=>xs[j]?
  | .str s=>((σ[a]?).bind rV).bind λkvs=>kvs.lookup s
  | _=>none
 | .tup xs=>(b9 y).bind λk=>(place xs.length k).bind λj=>xs[j]?
 | .bytes l=>(b9 y).bind λk=>gd (0≤k) ((l[k.toNat]?).bind λc=>some (V.int c))
 | _=>none
noncomputable def Hf(x lo hi:V)(σ:H)(k:V→H→Option β):Option β:=match x with
 | .ref a=>(bJ σ a).bind λxs=>(cut xs lo hi).bind λys=>mkO (.list ys) σ k
 | .bytes l=>(cut l lo hi).bind λr=>k (.bytes r) σ
 | .con l=>(cut (l.map V.int) lo hi).bind λys=>mkO (.list ys) σ k
 | .tup xs=>(b9 lo).bind λa=>gd (isNone hi=true∧1≤a∧a≤xs.length) (k (.tup (xs.drop a.toNat)) σ)
 | _=>none
noncomputable def iA{α:Type}(le:α→α→Bool)(x:α):List α→List α
 | []=>[x]
 | y::r=>if le x y then x::y::r else y::iA le x r
noncomputable def b5{α:Type}(le:α→α→Bool):List α→List α
 | []=>[]
 | x::r=>iA le x (b5 le r)
noncomputable def leI(a b:Int):Bool:=decide (a≤b)
noncomputable def leP(a b:Int×Int):Bool:=decide (a.1<b.1)||(decide (a.1=b.1)&&decide (a.2≤b.2))
noncomputable def bX(p:Int×Int):V:= .tup [.int p.1,.int p.2]
noncomputable def y7(vs:List V)(σ:H)(k:V→H→Option β):Option β:=gd (vs.length<64) (match cT b9 vs with
 | some is=>mkO (.list ((b5 leI is).map V.int)) σ k
 | none=>(cT jF vs).bind λps=>gp ps.Nodup (mkO (.list ((b5 leP ps).map bX)) σ k))
noncomputable def sr(x:V)(σ:H)(k:V→H→Option β):Option β:=(d5 x).bind λa=>(σ[a]?).bind λ
 | .list vs=>y7 vs σ k
 | .dT kvs=>gd (kvs.length<64) (mkO (.list ((b5 leP (kvs.map (·.1))).map bX)) σ k)
 | _=>none
noncomputable def C2:List Int→Option Int
 | []=>none
 | a::r=>some (r.foldl min a)
noncomputable def xN:List Int→Option Int
 | []=>none
 | a::r=>some (r.foldl max a)
noncomputable def Ap(σ:H):V→Option Int
 | .ref a=>(bJ σ a).bind λxs=>some xs.length
 | .bytes l=>some l.length
 | _=>none
noncomputable def IY:V→Option Int
 | .bool b=>some (if b then 1 else 0)
 | .int a=>some a
 | _=>none
noncomputable def onI{α:Type}(σ:H)(x:V)(k:List Int→Option α):Option α:=onL σ x λ_ xs=>(cT b9 xs).bind k
noncomputable def biop(b:BI)(vs:List V)(σ:H)(k:V→H→Option β):Option β:=match b with
 | .len=>(one vs).bind λv=>(Ap σ v).bind λi=>k (.int i) σ
 | .sorted=>(one vs).bind λv=>sr v σ k
 | .abs=>(one vs).bind λv=>(b9 v).bind λa=>k (.int a.natAbs) σ
 | .int=>(one vs).bind λv=>(IY v).bind λi=>k (.int i) σ
 | .bytes=>(one vs).bind λv=>onI σ v λis=>gd ((is.all λi=>decide (0≤i)&&decide (i<256))=true) (k (.bytes is) σ)
 | .list=>(one vs).bind λv=>onL σ v λ_ xs=>mkO (.list xs) σ k
 | .sum=>(one vs).bind λv=>onI σ v λis=>k (.int is.sum) σ
 | .min1=>(one vs).bind λv=>onI σ v λis=>(C2 is).bind λm=>k (.int m) σ
 | .max1=>(one vs).bind λv=>onI σ v λis=>(xN is).bind λm=>k (.int m) σ
 | .min2=>(two vs).bind λp=>intz p.1 p.2 λa b=>k (.int (min a b)) σ
 | .max2=>(two vs).bind λp=>intz p.1 p.2 λa b=>k (.int (max a b)) σ
noncomputable def d8{κ:Type} [BEq κ](k:κ)(v:V):List (κ×V)→List (κ×V)
 | []=>[(k,v)]
 | x::r=>if x.1==k then(x.1,v)::r else x::d8 k v r
noncomputable def nY{κ:Type} [BEq κ](d:List (κ×V))(e:List (κ×V)):List (κ×V):=e.foldl (λd x=>d8 x.1 x.2 d) d
noncomputable def dM(sep:List Int):List (List Int)→List Int
 | []=>[]
 | [a]=>a
 | a::r=>a++sep++dM sep r
noncomputable def qN(kv:(Int×Int)×V):Bool:=decide (0≤kv.1.1)&&decide (kv.1.1<32)&&decide (0≤kv.1.2)&&decide (kv.1.2<32)
noncomputable def metop(m:MT)(o:V)(vs:List V)(σ:H)(k:V→H→Option β):Option β:=match m with
 | .append=>(one vs).bind λv=>onL σ o λa xs=>gd (xs.length<lim) (k .none (σ.set a (.list (xs++[v]))))
 | .extend=>(one vs).bind λv=>onL σ o λa xs=>onL σ v λb ys=>gd (a≠b∧xs.length+ys.length≤lim) (k .none (σ.set a (.list (xs++ys))))
 | .pop=>(one vs).bind λv=>(b9 v).bind λj=>onL σ o λa xs=>gd (0≤j∧j<xs.length) ((xs[j.toNat]?).bind λv=>k v (σ.set a (.list (xs.eraseIdx j.toNat))))
 | .index=>(one vs).bind λv=>(b9 v).bind λj=>onI σ o λis=>(is.findIdx? (·==j)).bind λ(i:Nat)=>k (V.int (i:Int)) σ
 | .update=>(one vs).bind λv=>(d5 o).bind λa=>(d5 v).bind λb=>((σ[a]?).bind p0).bind λd=>((σ[b]?).bind p0).bind λe=>gd (a≠b∧d.length+e.length≤lim∧e.all qN=true) (k .none (σ.set a (.dT (nY d e))))
 | .get=>(two vs).bind λp=>(b9 p.1).bind λj=>(d5 o).bind λa=>((σ[a]?).bind yu).bind λkvs=>k ((kvs.lookup j).getD p.2) σ
 | .startsEven=>(w6 o).bind λn=>gd (3≤n∧n≤7) (k (.bool (n==3||n==4)) σ)
 | .join=>(one vs).bind λv=>(fw o).bind λsep=>onL σ v λ_ xs=>(cT fw xs).bind λbs=>gd (0<bs.length∧(dM sep bs).length≤lim) (k (.bytes (dM sep bs)) σ)
end
noncomputable def im(m:MT)(σ:H)(v:V):Bool:=match m with
 | .update=>((d5 v).bind λa=>(σ[a]?).bind p0).isSome
 | .get=>((d5 v).bind λa=>(σ[a]?).bind yu).isSome
 | .startsEven=>true
 | .join=>(fw v).isSome
 | _=>((d5 v).bind (bJ σ)).isSome
noncomputable def e8(x c:Int)(m:Nat):List V:=(List.range m).map λ(k:Nat)=> .int (x+c*(k:Int))
noncomputable abbrev Gd:=List (Nat×List V)
noncomputable def ce(a b c:Int):Option (List V):=gd (c≠0∧c.natAbs<1073741824∧PySem.Builtin.Range.small a b c=true∧0≤PySem.Builtin.Range.rangeSize a b c) (some (e8 a c (PySem.Builtin.Range.rangeSize a b c).toNat))
noncomputable def vf(σ:H):V→Option (List V×Gd)
 | .ref a=>(bJ σ a).bind λxs=>some (xs,[(a,xs)])
 | .tup xs=>some (xs,[])
 | .bytes l=>some (l.map V.int,[])
 | _=>none
noncomputable def cY(σ:H)(g:Gd):Prop:=∀p∈g,σ[p.1]? =some (.list p.2)
noncomputable def qu(xs:List V)(n:Nat):List V:=match xs with
 | []=>[]
 | x::r=> .tup [.int n,x]::qu r (n+1)
noncomputable def gN(xs ys:List V):List V:=(xs.zip ys).map λp=> .tup [p.1,p.2]
noncomputable def fP(le:Le):List Nat→List V→Le
 | i::is,v::vs=>fP (le.set i (some v)) is vs
 | _,_=>le
noncomputable def fu:Pat→V→Le→Option Le
 | .one i,v,le=>some (le.set i (some v))
 | .many is,v,le=>(gM v).bind λvs=>gd (is.length=vs.length) (some (fP le is vs))
noncomputable def gG(le:Le)(i:Nat):Bool:=match le[i]? with
 | some none=>true
 | _=>false
noncomputable def cw:Pat→Le→Bool
 | .one i,le=>gG le i
 | .many is,le=>is.all (gG le)
noncomputable def cy(p:Pat)(g:Gd)(f:Le→H→Option (List V×H)):List V→Le→H→Option (List V×H)
 | [],_,σ=>some ([],σ)
 | x::r,le,σ=>(fu p x le).bind λle'=>(f le' σ).bind λy=>gp (cY y.2 g) ((cy p g f r le' y.2).bind λz=>some (y.1++z.1,z.2))
noncomputable def slot(le:Le)(i:Nat):Option V:=(le[i]?).bind id
noncomputable abbrev FT:=Nat→List V→H→Option (V×H)
noncomputable def setField{β:Type}(c f a:Nat)(v:V)(σ:H)(k:H→Option β):Option β:=(cC σ c a).bind λfs=>gd (f<fs.length) (k (σ.set a (.inst c (fs.set f v))))
noncomputable def mW{β:Type}(o i v:V)(σ:H)(k:H→Option β):Option β:=(d5 o).bind λa=>match i with
 | .int j=>(bJ σ a).bind λxs=>gd (0≤j∧j<xs.length) (k (σ.set a (.list (xs.set j.toNat v))))
 | .str s=>((σ[a]?).bind rV).bind λkvs=>gd ((kvs.lookup s).isSome=true) (k (σ.set a (.dS (d8 s v kvs))))
 | .tup _=>(jF i).bind λp=>((σ[a]?).bind p0).bind λkvs=>gd (kvs.length<lim) (k (σ.set a (.dT (d8 p v kvs))))
 | _=>none
noncomputable def qc{β:Type}(o lo hi v:V)(σ:H)(k:H→Option β):Option β:=intz lo hi λi j=>onL σ o λa xs=>onL σ v λb ys=>gd (a≠b∧0≤i∧i≤j∧j≤xs.length∧xs.length+ys.length≤lim) (k (σ.set a (.list (xs.take i.toNat++ys++xs.drop j.toNat))))
section
variable(F:FT)
mutual
noncomputable def evK:E→{β:Type}→Le→H→(V→H→Option β)→Option β
 | .lit v,_,_,σ,k=>k v σ
 | .var i,_,le,σ,k=>(slot le i).bind λv=>k v σ
 | .attr e c f,_,le,σ,k=>evK e le σ λx σ=>(d5 x).bind λa=>(cC σ c a).bind λfs=>(fs[f]?).bind λv=>k v σ
 | .bin op a b,_,le,σ,k=>evK a le σ λx σ=>evK b le σ λy σ=>binop op x y σ k
 | .neg a,_,le,σ,k=>evK a le σ λx σ=>(b9 x).bind λi=>k (.int (-i)) σ
 | .not a,_,le,σ,k=>evK a le σ λx σ=>(b6 x).bind λb=>k (.bool (!b)) σ
 | .and a b,_,le,σ,k=>evK a le σ λx σ=>(b6 x).bind λc=>if c then evK b le σ λy σ=>(b6 y).bind λd=>k (.bool d) σ else k (.bool false) σ
 | .or a b,_,le,σ,k=>evK a le σ λx σ=>(b6 x).bind λc=>if c then k (.bool true) σ else evK b le σ λy σ=>(b6 y).bind λd=>k (.bool d) σ
 | .cmp op a b,_,le,σ,k=>evK a le σ λx σ=>evK b le σ λy σ=>(cmpop op x y σ).bind λc=>k (.bool c) σ
 | .cmp2 op op' a b c,_,le,σ,k=>evK a le σ λx σ=>evK b le σ λy σ=>(cmpop op x y σ).bind λd =>
   if d then evK c le σ λz σ=>(cmpop op' y z σ).bind λd'=>k (.bool d') σ else k (.bool false) σ
 | .ite c a b,_,le,σ,k=>evK c le σ λx σ=>(b6 x).bind λt=>if t then evK a le σ k else evK b le σ k
 | .list es,_,le,σ,k=>ic es le σ λx σ=>pP x σ k
 | .tup es,_,le,σ,k=>ic es le σ λx σ=>gd (x.length≤lim) (k (.tup x) σ)
 | .dT0,_,_,σ,k=>mkO (.dT []) σ k
 | .dS ks es,_,le,σ,k=>ic es le σ λx σ=>gd (ks.length=x.length∧x.length≤lim) (mkO (.dS (ks.zip x)) σ k)
 | .dI2 i v j w,_,le,σ,k=>evK i le σ λx σ=>evK v le σ λy σ=>evK j le σ λz σ=>evK w le σ λu σ=>intz x z λi j=>mkO (.dI (d8 j u [(i,y)])) σ k
 | .idx a b,_,le,σ,k=>evK a le σ λx σ=>evK b le σ λy σ=>(gD σ x y).bind λv=>k v σ
 | .slc a lo hi,_,le,σ,k=>evK a le σ λx σ=>evK lo le σ λy σ=>evK hi le σ λz σ=>Hf x y z σ k
 | .rev a,_,le,σ,k=>evK a le σ λx σ=>onL σ x λ_ xs=>mkO (.list xs.reverse) σ k
 | .comp e p it,_,le,σ,k=>gd (cw p le=true) (fz it le σ λxs g σ=>(cy p g (λle σ=>evK e le σ λv σ=>some ([v],σ)) xs le σ).bind λz=>pP z.1 z.2 k)
 | .compIf e p it c,_,le,σ,k=>gd (cw p le=true) (fz it le σ λxs g σ=>(cy p g (λle σ=>evK c le σ λt σ=>(b6 t).bind λb=>if b then evK e le σ λv σ=>some ([v],σ) else some ([],σ)) xs le σ).bind λz=>pP z.1 z.2 k)
 | .comp2 e p it p' it' c,_,le,σ,k=>gd ((cw p le&&cw p' le)=true) (fz it le σ λxs g σ=>(cy p g (λle σ=>fz it' le σ λxs' g' σ =>
   gd (cw p' le=true) (cy p' g' (λle σ=>evK c le σ λt σ=>(b6 t).bind λb=>if b then evK e le σ λv σ=>some ([v],σ) else some ([],σ)) xs' le σ)) xs le σ).bind λz=>pP z.1 z.2 k)
 | .call f es,_,le,σ,k=>ic es le σ λx σ=>(F f x σ).bind λr=>k r.1 r.2
 | .mk c es,_,le,σ,k=>ic es le σ λx σ=>if c=0∧x.length=7 then mkO (.inst 0 x) σ k else gd (c=1∧x.length=2) (mkO (.inst 1 (x++[.int 0])) σ k)
 | .bi b es,_,le,σ,k=>ic es le σ λx σ=>biop b x σ k
 | .meth m o es,_,le,σ,k=>evK o le σ λx σ=>gd (im m σ x=true) (ic es le σ λy σ=>metop m x y σ k)
 | .umeth f o es,_,le,σ,k=>evK o le σ λx σ=>(d5 x).bind λa=>(cC σ 1 a).bind λ_=>ic es le σ λy σ=>(F f (x::y) σ).bind λr=>k r.1 r.2
 | _,_,_,_,_=>none
noncomputable def ic:List E→{β:Type}→Le→H→(List V→H→Option β)→Option β
 | [],_,_,σ,k=>k [] σ
 | e::r,_,le,σ,k=>evK e le σ λx σ=>ic r le σ λy σ=>k (x::y) σ
noncomputable def fz:E→{β:Type}→Le→H→(List V→Gd→H→Option β)→Option β
 | .seq e,_,le,σ,k=>evK e le σ λx σ=>(vf σ x).bind λg=>k g.1 g.2 σ
 | .r1 b,_,le,σ,k=>evK b le σ λy σ=>(b9 y).bind λj=>(ce 0 j 1).bind λl=>k l [] σ
 | .r2 a b,_,le,σ,k=>evK a le σ λx σ=>evK b le σ λy σ=>intz x y λi j=>(ce i j 1).bind λl=>k l [] σ
 | .r3 a b c,_,le,σ,k=>evK a le σ λx σ=>evK b le σ λy σ=>evK c le σ λz σ=>intz x y λi j=>(b9 z).bind λd=>(ce i j d).bind λl=>k l [] σ
 | .enum e,_,le,σ,k=>evK e le σ λx σ=>onL σ x λa xs=>k (qu xs 0) [(a,xs)] σ
 | .zip a b,_,le,σ,k=>evK a le σ λx σ=>evK b le σ λy σ=>onL σ x λi xs=>onL σ y λj ys=>k (gN xs ys) [(i,xs),(j,ys)] σ
 | .zipR a b c d,_,le,σ,k=>evK a le σ λx σ=>evK b le σ λy σ=>evK c le σ λz σ=>evK d le σ λu σ=>intz y z λj m=>(b9 u).bind λl=>(ce j m l).bind λys=>onL σ x λi xs=>k (gN xs ys) [(i,xs)] σ
 | _,_,_,_,_=>none
end
noncomputable abbrev St:=Option (Fl×Le×H)
noncomputable def gv(fl:Fl)(le:Le)(σ:H):St:=some (fl,le,σ)
noncomputable def zQ{β:Type}(fl:Fl)(k:V→Option β)(n:Option β):Option β:=match fl with
 | .ret v=>k v
 | .next=>n
noncomputable def jY(p:Pat)(g:Gd)(f:Le→H→St):List V→Le→H→St
 | [],le,σ=>some (.next,le,σ)
 | x::r,le,σ=>(fu p x le).bind λle'=>(f le' σ).bind λy=>zQ y.1 (λv=>some (.ret v,y.2)) (gp (cY y.2.2 g) (jY p g f r y.2.1 y.2.2))
noncomputable def mD(c:Le→H→Option (Bool×H))(f:Le→H→St):Nat→Le→H→St
 | 0,_,_=>none
 | n+1,le,σ=>(c le σ).bind λx=>if x.1 then(f le x.2).bind λy=>zQ y.1 (λv=>some (.ret v,y.2)) (mD c f n y.2.1 y.2.2)
  else some (.next,le,x.2)
noncomputable def wfuel:Nat:=5000
mutual
noncomputable def exK:S→{β:Type}→Le→H→(Fl→Le→H→Option β)→Option β
 | .asg i e,_,le,σ,k=>evK F e le σ λv σ=>k .next (le.set i (some v)) σ
 | .asgT is e,_,le,σ,k=>evK F e le σ λv σ=>(fu (.many is) v le).bind λle=>k .next le σ
 | .asgAA o c f o' c' f' e,_,le,σ,k=>evK F e le σ λx σ=>((gM x).bind two).bind λp=>evK F o le σ λy σ=>(d5 y).bind λa=>setField c f a p.1 σ λσ=>evK F o' le σ λz σ=>(d5 z).bind λa=>setField c' f' a p.2 σ λσ=>k .next le σ
 | .asgAV o c f i e,_,le,σ,k=>evK F e le σ λx σ=>((gM x).bind two).bind λp=>evK F o le σ λy σ=>(d5 y).bind λa=>setField c f a p.1 σ λσ=>k .next (le.set i (some p.2)) σ
 | .setA o c f e,_,le,σ,k=>evK F e le σ λx σ=>evK F o le σ λy σ=>(d5 y).bind λa=>setField c f a x σ λσ=>k .next le σ
 | .setI o i e,_,le,σ,k=>evK F e le σ λx σ=>evK F o le σ λy σ=>evK F i le σ λz σ=>mW y z x σ λσ=>k .next le σ
 | .setSl o lo hi e,_,le,σ,k=>evK F e le σ λx σ=>evK F o le σ λy σ=>evK F lo le σ λz σ=>evK F hi le σ λu σ=>qc y z u x σ λσ=>k .next le σ
 | .aug i op e,_,le,σ,k=>(slot le i).bind λu=>(b9 u).bind λn=>evK F e le σ λx σ=>(b9 x).bind λm=>(iop op n m).bind λr=>k .next (le.set i (some (.int r))) σ
 | .augA o c f op e,_,le,σ,k=>evK F o le σ λx σ=>(d5 x).bind λa=>(cC σ c a).bind λfs=>(fs[f]?).bind λu=>(b9 u).bind λn=>evK F e le σ λy σ=>(b9 y).bind λm=>(iop op n m).bind λr=>setField c f a (.int r) σ λσ=>k .next le σ
 | .ex e,_,le,σ,k=>evK F e le σ λ_ σ=>k .next le σ
 | .ret e,_,le,σ,k=>evK F e le σ λv σ=>k (.ret v) le σ
 | .ret0,_,le,σ,k=>k (.ret .none) le σ
 | .iff c a b,_,le,σ,k=>evK F c le σ λx σ=>(b6 x).bind λt=>if t then bT a le σ k else bT b le σ k
 | .forr p it b,_,le,σ,k=>fz F it le σ λxs g σ=>(jY p g (λle σ=>bT b le σ gv) xs le σ).bind λy=>k y.1 y.2.1 y.2.2
 | .whl c b,_,le,σ,k=>(mD (λle σ=>evK F c le σ λv σ=>(b6 v).bind λb=>some (b,σ)) (λle σ=>bT b le σ gv) wfuel le σ).bind λy=>k y.1 y.2.1 y.2.2
 | .fail,_,_,_,_=>none
noncomputable def bT:List S→{β:Type}→Le→H→(Fl→Le→H→Option β)→Option β
 | [],_,le,σ,k=>k .next le σ
 | s::r,_,le,σ,k=>exK s le σ λfl le σ=>zQ fl (λv=>k (.ret v) le σ) (bT r le σ k)
end
end
noncomputable def gP(fn:Fn)(args:List V):Option Le :=
 if args.length=fn.nargs then some (args.map some++List.replicate (fn.nslots-fn.nargs) none)
 else gd (args.length+fn.dflt.length=fn.nargs) (some ((args++fn.dflt).map some++List.replicate (fn.nslots-fn.nargs) none))
noncomputable def dt(fl:Fl)(_:Le)(σ:H):Option (V×H):=zQ fl (λv=>some (v,σ)) (some (.none,σ))
noncomputable def lH(defs:List Fn):Nat→FT
 | 0,_,_,_=>none
 | n+1,f,args,σ=>(defs[f]?).bind λfn=>(gP fn args).bind λle=>bT (lH defs n) fn.body le σ dt
theorem ns{α:Type}{a:α}{P:Prop}(h:(none:Option α)=some a):P:=Option.noConfusion rfl (heq_of_eq h)
theorem ft{P:Prop}(h:false=true):P:=Bool.noConfusion h
theorem bE{α β:Type}{x:Option α}{f:α→Option β}{b:β}{G:Prop}(h:x.bind f=some b)(g:∀a,x=some a→f a=some b→G):G:=by
 cases x with
 | none=>exact ns h
 | some a=>exact g a rfl h
theorem gE{α:Type}{c:Prop} [d:Decidable c]{x:Option α}{r:α}{G:Prop}(h:gd c x=some r)(g:c→x=some r→G):G:=by
 cases d with
 | isTrue hc=>exact g hc h
 | isFalse hc=>exact ns h
theorem gpE{α:Type}{c:Prop}{x:Option α}{r:α}{G:Prop}(h:gp c x=some r)(g:c→x=some r→G):G:= @gE α c (Classical.propDecidable c) x r G h g
theorem cO{v:V}{i:Int}:b9 v=some i→v= .int i:=by
 cases v with
 | int j=>exact λh=>congrArg V.int (Option.some.inj h)
 | _=>exact ns
theorem cN{v:V}{i:Nat}:d5 v=some i→v= .ref i:=by
 cases v with
 | ref j=>exact λh=>congrArg V.ref (Option.some.inj h)
 | _=>exact ns
theorem ld{v:V}{i:Bool}:b6 v=some i→v= .bool i:=by
 cases v with
 | bool j=>exact λh=>congrArg V.bool (Option.some.inj h)
 | _=>exact ns
theorem pt{v:V}{i:Nat}:w6 v=some i→v= .str i:=by
 cases v with
 | str j=>exact λh=>congrArg V.str (Option.some.inj h)
 | _=>exact ns
theorem fY{v:V}{i:List Int}:fw v=some i→v= .bytes i:=by
 cases v with
 | bytes j=>exact λh=>congrArg V.bytes (Option.some.inj h)
 | _=>exact ns
theorem eY{v:V}{i:List V}:gM v=some i→v= .tup i:=by
 cases v with
 | tup j=>exact λh=>congrArg V.tup (Option.some.inj h)
 | _=>exact ns
theorem kH{v:V}:isNone v=true→v= .none:=by
 cases v with
 | none=>exact λ_=>rfl
 | _=>exact ft
theorem ki{α:Type}{vs:List α}{p:α×α}:two vs=some p→vs=[p.1,p.2]:=by
 cases vs with
 | nil=>exact ns
 | cons a vs=>cases vs with
  | nil=>exact ns
  | cons b vs=>cases vs with
   | nil=>exact λh=>Option.some.inj h▸rfl
   | cons c vs=>exact ns
theorem nB{vs:List V}{v:V}:one vs=some v→vs=[v]:=by
 cases vs with
 | nil=>exact ns
 | cons a vs=>cases vs with
  | nil=>exact λh=>Option.some.inj h▸rfl
  | cons b vs=>exact ns
theorem GR{o:O}{l:List V}:asL o=some l→o= .list l:=by
 cases o with
 | list j=>exact λh=>congrArg O.list (Option.some.inj h)
 | _=>exact ns
theorem w7{o:O}{l:List (Nat×V)}:rV o=some l→o= .dS l:=by
 cases o with
 | dS j=>exact λh=>congrArg O.dS (Option.some.inj h)
 | _=>exact ns
theorem w9{o:O}{l:List (Int×V)}:yu o=some l→o= .dI l:=by
 cases o with
 | dI j=>exact λh=>congrArg O.dI (Option.some.inj h)
 | _=>exact ns
theorem Eb{o:O}{l:List ((Int×Int)×V)}:p0 o=some l→o= .dT l:=by
 cases o with
 | dT j=>exact λh=>congrArg O.dT (Option.some.inj h)
 | _=>exact ns
theorem GS{c:Nat}{o:O}{l:List V}:asI c o=some l→o= .inst c l:=by
 cases o with
 | inst c' fs=>exact λh=>gE (c:=c'=c) h λe h=>e▸Option.some.inj h▸rfl
 | _=>exact ns
theorem po{α:Type}{σ:H}{a:Nat}{f:O→Option α}{g:α→O}{l:α}(hf:∀{o l},f o=some l→o=g l)(h:(σ[a]?).bind f=some l):σ[a]? =some (g l):=bE h λo e h=>e.trans (congrArg some (hf h))
theorem bQ{σ:H}{a:Nat}{vs:List V}(h:bJ σ a=some vs):σ[a]? =some (.list vs):=po GR h
theorem oj{σ:H}{c a:Nat}{vs:List V}(h:cC σ c a=some vs):σ[a]? =some (.inst c vs):=po (g:=O.inst c) GS h
theorem jG{α:Type}{f:V→Option α}{x:V}{xs:List V}{r:List α}{G:Prop}(h:cT f (x::xs)=some r)(g:∀a l,f x=some a→cT f xs=some l→r=a::l→G):G:=bE h λa ha h=>bE h λl hl h=>g a l ha hl (Option.some.inj h).symm
theorem qG{α:Type}{f:V→Option α}{k:α→V}(hf:∀{x a},f x=some a→x=k a){xs:List V}:∀{r:List α},cT f xs=some r→xs=r.map k:=by
 induction xs with
 | nil=>exact λh=>Option.some.inj h▸rfl
 | cons x xs ih=>exact λh=>jG h λa l ha hl e=>by rw[e,hf ha,ih hl];rfl
theorem fZ{α:Type}{f:V→Option α}{k:α→V}(hf:∀a,f (k a)=some a)(r:List α):cT f (r.map k)=some r:=by
 induction r with
 | nil=>rfl
 | cons a r ih=>show(f (k a)).bind _=_;rw[hf,Option.bind_some,ih];rfl
theorem gU{xs:List V}{r:List Int}(h:cT b9 xs=some r):xs=r.map V.int:=qG cO h
theorem k9{v:V}{p:Int×Int}(h:jF v=some p):v=bX p:=bE h λl hl h=>bE h λis hi h=>by
 rw[eY hl,gU hi,ki h];rfl
theorem oi{α:Type}{x y:V}{k:Int→Int→Option α}{r:α}{G:Prop}(h:intz x y k=some r)(g:∀a b,x= .int a→y= .int b→k a b=some r→G):G:=bE h λa ha h=>bE h λb hb h=>g a b (cO ha) (cO hb) h
theorem jp{α:Type}{σ:H}{x:V}{k:Nat→List V→Option α}{r:α}{G:Prop}(h:onL σ x k=some r)(g:∀a xs,x= .ref a→bJ σ a=some xs→k a xs=some r→G):G:=bE h λa ha h=>bE h λb hb h=>g a b (cN ha) hb h
theorem Hr{α:Type}{σ:H}{x:V}{k:List Int→Option α}{r:α}{G:Prop}(h:onI σ x k=some r)(g:∀a is,x= .ref a→bJ σ a=some (is.map V.int)→k is=some r→G):G:=jp h λa xs e hx h=>bE h λis hi h=>g a is e (gU hi▸hx) h
theorem na5{a:Int}(h:0≤a)(k:a<4000):a.natAbs<5000:=by
 obtain⟨n,rfl⟩:=bt h
 exact Nat.lt_trans (aP.mp k) (by decide)
theorem uO{c:Int}(h:0<c):(c-1).natAbs<c.natAbs:=by
 obtain⟨n,rfl⟩:=Int.eq_succ_of_zero_lt h
 show((n:Int)+1-1).natAbs<n+1
 rw[bj]
 exact Nat.lt_succ_self n
theorem Ag{c:Int}(h:c<0):(c- -1).natAbs<c.natAbs:=by
 have k:=uO (Int.neg_pos_of_neg h)
 rwa [Int.natAbs_neg,←Int.natAbs_neg (-c-1),Int.neg_sub,Int.sub_eq_add_neg,Int.neg_neg,Int.add_comm] at k
theorem yT{N m x:Nat}(h:m≤N)(e:x=N-m):(N:Int)+ -1*(x:Int)=(m:Int):=by
 rw[e,Int.ofNat_sub h,Int.neg_mul,Int.one_mul,←Int.sub_eq_add_neg,Int.sub_sub_self]
theorem Il{a b:Nat}:(a:Int)+b-1=((a+(b+1):Nat):Int)-2:=by
 show(a:Int)+b-1=((a:Int)+(b+1))-(1+1)
 rw[←Int.add_assoc,←Int.sub_sub,bj]
theorem EH{m e N:Nat}(h:m+e=N)(l:e<N):m-1<m∧(m-1)+(e+1)=N:=by
 cases m with
 | zero=>exact absurd l (by rw[←h,Nat.zero_add];exact Nat.lt_irrefl _)
 | succ m=>exact⟨Nat.lt_succ_self m,(Nat.succ_add_eq_add_succ m e).symm.trans h⟩
theorem w4:∀w<12,8≤w→w=8∨w=9∨w=10∨w=11:=by decide
noncomputable def Gw:V:= .bytes [48,49,50,51,52,53,54,55,56,57,97,98,99,100,101,102]
noncomputable def AZ:V:= .tup [.str 3,.str 4,.str 5,.str 6,.str 7]
noncomputable def oq:V:= .tup [.int 183,.int 9474,.int 9474,.int 9474,.int 9472,.int 9496,.int 9488,.int 9508,.int 9472,.int 9492,.int 9484,.int 9500,.int 9472,.int 9524,.int 9516,.int 9532]
@[reducible] noncomputable def cn:Nat:=0
@[reducible] noncomputable def ly:Nat:=1
@[reducible] noncomputable def dL:Nat:=2
@[reducible] noncomputable def dj:Nat:=3
@[reducible] noncomputable def cK:Nat:=4
@[reducible] noncomputable def dU:Nat:=5
@[reducible] noncomputable def dK:Nat:=6
@[reducible] noncomputable def dh:Nat:=7
@[reducible] noncomputable def bZ:Nat:=8
@[reducible] noncomputable def cH:Nat:=9
@[reducible] noncomputable def dW:Nat:=10
@[reducible] noncomputable def dJ:Nat:=11
@[reducible] noncomputable def b8:Nat:=12
@[reducible] noncomputable def bW:Nat:=13
@[reducible] noncomputable def eH:Nat:=14
@[reducible] noncomputable def iE:Nat:=15
@[reducible] noncomputable def hV:Nat:=16
@[reducible] noncomputable def gW:Nat:=17
@[reducible] noncomputable def hY:Nat:=18
@[reducible] noncomputable def jf:Nat:=19
@[reducible] noncomputable def j8:Nat:=20
@[reducible] noncomputable def iH:Nat:=21
@[reducible] noncomputable def eW:Nat:=22
@[reducible] noncomputable def fE:Nat:=23
@[reducible] noncomputable def cI:Nat:=24
@[reducible] noncomputable def gq:Nat:=25
@[reducible] noncomputable def jh:Nat:=26
@[reducible] noncomputable def iG:Nat:=27
@[reducible] noncomputable def iF:Nat:=28
@[reducible] noncomputable def dw:Nat:=29
@[reducible] noncomputable def j5:Nat:=30
@[reducible] noncomputable def fU:Nat:=31
@[reducible] noncomputable def qt:Nat:=32
@[reducible] noncomputable def j6:Nat:=33
@[reducible] noncomputable def fV:Nat:=34
@[reducible] noncomputable def ji:Nat:=35
@[reducible] noncomputable def eV:Nat:=36
@[reducible] noncomputable def eX:Nat:=37
@[reducible] noncomputable def dX:Nat:=38
@[reducible] noncomputable def cJ:Nat:=39
@[reducible] noncomputable def gI:Nat:=40
@[reducible] noncomputable def fh:Nat:=41
@[reducible] noncomputable def gJ:Nat:=42
@[reducible] noncomputable def jg:Nat:=43
@[reducible] noncomputable def lz:Nat:=44
@[reducible] noncomputable def oQ:Nat:=45
@[reducible] noncomputable def bY:Nat:=46
@[reducible] noncomputable def cg:Nat:=47
@[reducible] noncomputable def lA:Nat:=48
@[reducible] noncomputable def oM:Nat:=49
@[reducible] noncomputable def j7:Nat:=50
@[reducible] noncomputable def lC:Nat:=51
@[reducible] noncomputable def lB:Nat:=52
@[reducible] noncomputable def oO:Nat:=53
@[reducible] noncomputable def oP:Nat:=54
@[reducible] noncomputable def tD:Nat:=55
noncomputable def jZ:Fn:=⟨1,[],9,[(.asg 1 (.ite (.cmp .ge (.var 0) (.lit (.int 0))) (.var 0) (.neg (.var 0)))),
  (.asg 2 (.list [(.bin .add (.lit (.int 48)) (.bin .mod (.var 1) (.lit (.int 10))))])),
  (.asg 1 (.bin .fdiv (.var 1) (.lit (.int 10)))),
  (.whl (.cmp .gt (.var 1) (.lit (.int 0))) [(.ex (.meth .append (.var 2) [(.bin .add (.lit (.int 48)) (.bin .mod (.var 1) (.lit (.int 10))))])),
  (.asg 1 (.bin .fdiv (.var 1) (.lit (.int 10))))]),
  (.iff (.cmp .lt (.var 0) (.lit (.int 0))) [(.ex (.meth .append (.var 2) [(.lit (.int 45))]))] []),
  (.ret (.bi .bytes [(.rev (.var 2))]))]⟩
noncomputable def jT:List String:=["number", "rest", "found"]
noncomputable def rI:Fn:=⟨1,[],9,[(.iff (.cmp .eq (.bi .len [(.var 0)]) (.lit (.int 0))) [(.ret (.lit .none))] []),
  (.asg 1 (.lit (.int 0))),
  (.forr (.one 2) (.seq (.var 0)) [(.iff (.not (.cmp2 .le .le (.lit (.int 48)) (.var 2) (.lit (.int 57)))) [(.ret (.lit .none))] []),
  (.asg 1 (.bin .sub (.bin .add (.bin .mul (.lit (.int 10)) (.var 1)) (.var 2)) (.lit (.int 48))))]),
  (.ret (.var 1))]⟩
noncomputable def qX:List String:=["octets", "number", "octet"]
noncomputable def oH:Fn:=⟨3,[],9,[(.ret (.mk 0 [(.lit (.str 0)),(.var 1),(.var 2),(.lit (.int 0)),(.lit (.int 0)),(.list []),(.var 0)]))]⟩
noncomputable def nM:List String:=["pane", "width", "height"]
noncomputable def oK:Fn:=⟨1,[],8,[(.asg 1 (.comp (.call dj [(.var 2)]) (.one 2) (.seq (.attr (.var 0) 0 5)))),
  (.ret (.mk 0 [(.attr (.var 0) 0 0),(.attr (.var 0) 0 1),(.attr (.var 0) 0 2),(.attr (.var 0) 0 3),(.attr (.var 0) 0 4),(.var 1),(.attr (.var 0) 0 6)]))]⟩
noncomputable def nP:List String:=["cell", "parts"]
noncomputable def kQ:Fn:=⟨1,[],9,[(.iff (.cmp .eq (.attr (.var 0) 0 0) (.lit (.str 0))) [(.ret (.list [(.var 0)]))] []),
  (.asg 1 (.list [])),
  (.forr (.one 2) (.seq (.attr (.var 0) 0 5)) [(.ex (.meth .extend (.var 1) [(.call cK [(.var 2)])]))]),
  (.ret (.var 1))]⟩
noncomputable def kA:List String:=["cell", "found", "part"]
noncomputable def lS:Fn:=⟨1,[],7,[(.ret (.comp (.attr (.var 1) 0 6) (.one 1) (.seq (.call cK [(.var 0)]))))]⟩
noncomputable def lO:List String:=["cell"]
noncomputable def oF:Fn:=⟨2,[],10,[(.iff (.cmp .eq (.attr (.var 0) 0 0) (.lit (.str 0))) [(.ret (.ite (.cmp .eq (.attr (.var 0) 0 6) (.var 1)) (.list [(.var 0)]) (.lit .none)))] []),
  (.forr (.one 2) (.seq (.attr (.var 0) 0 5)) [(.asg 3 (.call dK [(.var 2),(.var 1)])),
  (.iff (.cmp .isnot (.var 3) (.lit .none)) [(.ret (.bin .add (.list [(.var 0)]) (.var 3)))] [])]),
  (.ret (.lit .none))]⟩
noncomputable def nK:List String:=["cell", "pane", "part", "found"]
noncomputable def oI:Fn:=⟨1,[],7,[(.ret (.ite (.var 0) (.lit (.str 1)) (.lit (.str 2))))]⟩
noncomputable def nN:List String:=["is_row"]
noncomputable def oC:Fn:=⟨2,[],8,[(.ret (.ite (.var 1) (.attr (.var 0) 0 1) (.attr (.var 0) 0 2)))]⟩
noncomputable def nI:List String:=["cell", "is_row"]
noncomputable def jx:Fn:=⟨3,[],9,[(.iff (.var 1) [(.setA (.var 0) 0 1 (.var 2))] [(.setA (.var 0) 0 2 (.var 2))])]⟩
noncomputable def jr:List String:=["cell", "is_row", "side"]
noncomputable def lT:Fn:=⟨2,[],10,[(.forr (.many [2,3]) (.enum (.var 0)) [(.iff (.cmp .is (.var 3) (.var 1)) [(.ret (.var 2))] [])]),
  (.ret (.lit .none))]⟩
noncomputable def lQ:List String:=["parts", "cell", "at", "part"]
noncomputable def oD:Fn:=⟨2,[],9,[(.iff (.cmp .eq (.attr (.var 0) 0 0) (.lit (.str 0))) [(.ret (.bin .sub (.call bZ [(.var 0),(.var 1)]) (.lit (.int 1))))] []),
  (.asg 2 (.comp (.call dJ [(.var 3),(.var 1)]) (.one 3) (.seq (.attr (.var 0) 0 5)))),
  (.ret (.ite (.cmp .eq (.attr (.var 0) 0 0) (.call dh [(.var 1)])) (.bi .sum [(.var 2)]) (.bi .min1 [(.var 2)])))]⟩
noncomputable def nJ:List String:=["cell", "is_row", "rooms"]
noncomputable def kR:Fn:=⟨3,[],10,[(.ex (.call cH [(.var 0),(.var 1),(.bin .add (.call bZ [(.var 0),(.var 1)]) (.var 2))])),
  (.iff (.cmp .ne (.attr (.var 0) 0 0) (.call dh [(.var 1)])) [(.forr (.one 3) (.seq (.attr (.var 0) 0 5)) [(.ex (.call b8 [(.var 3),(.var 1),(.var 2)]))]),
  .ret0] []),
  (.whl (.cmp .ne (.var 2) (.lit (.int 0))) [(.forr (.one 3) (.seq (.attr (.var 0) 0 5)) [(.iff (.cmp .gt (.var 2) (.lit (.int 0))) [(.ex (.call b8 [(.var 3),(.var 1),(.lit (.int 1))])),
  (.aug 2 .sub (.lit (.int 1)))] [(.iff (.and (.cmp .lt (.var 2) (.lit (.int 0))) (.cmp .gt (.call dJ [(.var 3),(.var 1)]) (.lit (.int 0)))) [(.ex (.call b8 [(.var 3),(.var 1),(.neg (.lit (.int 1)))])),
  (.aug 2 .add (.lit (.int 1)))] [])])])])]⟩
noncomputable def kB:List String:=["cell", "is_row", "change", "part"]
noncomputable def kM:Fn:=⟨3,[],10,[(.asgAA (.var 0) 0 3 (.var 0) 0 4 (.tup [(.var 1),(.var 2)])),
  (.forr (.one 3) (.seq (.attr (.var 0) 0 5)) [(.ex (.call bW [(.var 3),(.var 1),(.var 2)])),
  (.iff (.cmp .eq (.attr (.var 0) 0 0) (.lit (.str 1))) [(.aug 1 .add (.bin .add (.attr (.var 3) 0 1) (.lit (.int 1))))] [(.aug 2 .add (.bin .add (.attr (.var 3) 0 2) (.lit (.int 1))))])]),
  (.ret (.var 0))]⟩
noncomputable def kq:List String:=["cell", "x", "y", "part"]
noncomputable def jc:Fn:=⟨2,[],9,[(.iff (.cmp .eq (.bi .len [(.var 0)]) (.lit (.int 1))) [(.ret (.var 1))] []),
  (.asg 2 (.attr (.idx (.var 0) (.neg (.lit (.int 2)))) 0 5)),
  (.setI (.var 2) (.call dW [(.var 2),(.idx (.var 0) (.neg (.lit (.int 1))))]) (.var 1)),
  (.ret (.idx (.var 0) (.lit (.int 0))))]⟩
noncomputable def jb:List String:=["path", "fresh", "parts"]
noncomputable def fC:Fn:=⟨6,[.none,(.bool false)],22,[(.asg 6 (.call dK [(.call dj [(.var 0)]),(.var 1)])),
  (.iff (.or (.cmp .is (.var 6) (.lit .none)) (.cmp .inn (.var 2) (.call dU [(.var 0)]))) [(.ret (.lit .none))] []),
  (.asg 7 (.idx (.var 6) (.neg (.lit (.int 1))))),
  (.asg 8 (.call bZ [(.var 7),(.var 3)])),
  (.iff (.cmp .lt (.var 8) (.bin .add (.bin .mul (.lit (.int 2)) (.lit (.int 1))) (.lit (.int 1)))) [(.ret (.lit .none))] []),
  (.asg 9 (.ite (.cmp .is (.var 4) (.lit .none)) (.bin .sub (.bin .fdiv (.bin .add (.var 8) (.lit (.int 1))) (.lit (.int 2))) (.lit (.int 1))) (.var 4))),
  (.asg 10 (.bi .max2 [(.lit (.int 1)),(.bi .min2 [(.var 9),(.bin .sub (.bin .sub (.var 8) (.lit (.int 1))) (.lit (.int 1)))])])),
  (.asg 11 (.mk 0 [(.lit (.str 0)),(.attr (.var 7) 0 1),(.attr (.var 7) 0 2),(.lit (.int 0)),(.lit (.int 0)),(.list []),(.var 2)])),
  (.ex (.call cH [(.var 11),(.var 3),(.var 10)])),
  (.asg 12 (.ite (.var 5) (.list [(.var 11),(.var 7)]) (.list [(.var 7),(.var 11)]))),
  (.asgT [13,14] (.tup [(.call dh [(.var 3)]),(.idx (.var 6) (.lit (.int 0)))])),
  (.iff (.and (.cmp .gt (.bi .len [(.var 6)]) (.lit (.int 1))) (.cmp .eq (.attr (.idx (.var 6) (.neg (.lit (.int 2)))) 0 0) (.var 13))) [(.asg 15 (.call dW [(.attr (.idx (.var 6) (.neg (.lit (.int 2)))) 0 5),(.var 7)])),
  (.setSl (.attr (.idx (.var 6) (.neg (.lit (.int 2)))) 0 5) (.var 15) (.bin .add (.var 15) (.lit (.int 1))) (.var 12))] [(.asg 14 (.call eH [(.var 6),(.mk 0 [(.var 13),(.attr (.var 7) 0 1),(.attr (.var 7) 0 2),(.lit (.int 0)),(.lit (.int 0)),(.var 12),(.lit .none)])]))]),
  (.ex (.call cH [(.var 7),(.var 3),(.bin .sub (.bin .sub (.var 8) (.lit (.int 1))) (.var 10))])),
  (.ret (.call bW [(.var 14),(.lit (.int 0)),(.lit (.int 0))]))]⟩
noncomputable def lK:List String:=["root", "pane", "fresh", "is_row", "size", "is_before", "path", "leaf", "side", "wish", "many", "other", "both", "kind", "top", "at"]
noncomputable def kP:Fn:=⟨2,[],10,[(.asg 2 (.list [])),
  (.forr (.one 3) (.seq (.var 0)) [(.ex (.meth .extend (.var 2) [(.ite (.cmp .eq (.attr (.var 3) 0 0) (.var 1)) (.attr (.var 3) 0 5) (.list [(.var 3)]))]))]),
  (.ret (.var 2))]⟩
noncomputable def kz:List String:=["parts", "kind", "found", "part"]
noncomputable def gm:Fn:=⟨2,[],14,[(.asg 2 (.call dK [(.call dj [(.var 0)]),(.var 1)])),
  (.iff (.or (.cmp .is (.var 2) (.lit .none)) (.cmp .eq (.bi .len [(.var 2)]) (.lit (.int 1)))) [(.ret (.lit .none))] []),
  (.asgT [3,4] (.tup [(.idx (.var 2) (.neg (.lit (.int 1)))),(.idx (.var 2) (.neg (.lit (.int 2))))])),
  (.asg 5 (.cmp .eq (.attr (.var 4) 0 0) (.lit (.str 1)))),
  (.asg 6 (.call dW [(.attr (.var 4) 0 5),(.var 3)])),
  (.ex (.meth .pop (.attr (.var 4) 0 5) [(.var 6)])),
  (.ex (.call b8 [(.idx (.attr (.var 4) 0 5) (.bi .max2 [(.lit (.int 0)),(.bin .sub (.var 6) (.lit (.int 1)))])),(.var 5),(.bin .add (.call bZ [(.var 3),(.var 5)]) (.lit (.int 1)))])),
  (.iff (.cmp .gt (.bi .len [(.attr (.var 4) 0 5)]) (.lit (.int 1))) [(.ret (.call bW [(.idx (.var 2) (.lit (.int 0))),(.lit (.int 0)),(.lit (.int 0))]))] []),
  (.asg 7 (.call eH [(.slc (.var 2) (.lit .none) (.neg (.lit (.int 1)))),(.idx (.attr (.var 4) 0 5) (.lit (.int 0)))])),
  (.iff (.cmp .gt (.bi .len [(.var 2)]) (.lit (.int 2))) [(.setA (.idx (.var 2) (.neg (.lit (.int 3)))) 0 5 (.call hV [(.attr (.idx (.var 2) (.neg (.lit (.int 3)))) 0 5),(.attr (.idx (.var 2) (.neg (.lit (.int 3)))) 0 0)]))] []),
  (.ret (.call bW [(.var 7),(.lit (.int 0)),(.lit (.int 0))]))]⟩
noncomputable def pO:List String:=["root", "pane", "path", "leaf", "parent", "is_row", "at", "top"]
noncomputable def kS:Fn:=⟨2,[],11,[(.forr (.one 2) (.r3 (.bin .sub (.bi .len [(.var 0)]) (.lit (.int 1))) (.lit (.int 0)) (.neg (.lit (.int 1)))) [(.asg 3 (.idx (.var 0) (.bin .sub (.var 2) (.lit (.int 1))))),
  (.iff (.cmp .eq (.attr (.var 3) 0 0) (.call dh [(.var 1)])) [(.asg 4 (.call dW [(.attr (.var 3) 0 5),(.idx (.var 0) (.var 2))])),
  (.ret (.tup [(.attr (.var 3) 0 5),(.bi .min2 [(.var 4),(.bin .sub (.bi .len [(.attr (.var 3) 0 5)]) (.lit (.int 2)))])]))] [])]),
  (.ret (.lit .none))]⟩
noncomputable def kC:List String:=["path", "is_row", "depth", "parent", "at"]
noncomputable def fT:Fn:=⟨4,[],19,[(.asg 4 (.call dK [(.call dj [(.var 0)]),(.var 1)])),
  (.iff (.cmp .is (.var 4) (.lit .none)) [(.ret (.lit .none))] []),
  (.asg 5 (.call hY [(.var 4),(.var 2)])),
  (.iff (.cmp .is (.var 5) (.lit .none)) [(.ret (.idx (.var 4) (.lit (.int 0))))] []),
  (.asgT [6,7] (.var 5)),
  (.asgT [8,9] (.ite (.cmp .gt (.var 3) (.lit (.int 0))) (.tup [(.slc (.var 6) (.bin .add (.var 7) (.lit (.int 1))) (.lit .none)),(.idx (.var 6) (.var 7))]) (.tup [(.rev (.slc (.var 6) (.lit .none) (.bin .add (.var 7) (.lit (.int 1))))),(.idx (.var 6) (.bin .add (.var 7) (.lit (.int 1))))]))),
  (.asg 10 (.bi .abs [(.var 3)])),
  (.forr (.one 11) (.seq (.var 8)) [(.asg 12 (.bi .min2 [(.var 10),(.call dJ [(.var 11),(.var 2)])])),
  (.ex (.call b8 [(.var 11),(.var 2),(.neg (.var 12))])),
  (.ex (.call b8 [(.var 9),(.var 2),(.var 12)])),
  (.aug 10 .sub (.var 12))]),
  (.ret (.call bW [(.idx (.var 4) (.lit (.int 0))),(.lit (.int 0)),(.lit (.int 0))]))]⟩
noncomputable def nG:List String:=["root", "pane", "is_row", "change", "path", "border", "parts", "at", "givers", "taker", "left", "giver", "many"]
noncomputable def pX:Fn:=⟨3,[],13,[(.asg 3 (.call dj [(.var 0)])),
  (.forr (.many [4,5]) (.seq (.tup [(.tup [(.lit (.bool true)),(.var 1)]),(.tup [(.lit (.bool false)),(.var 2)])])) [(.asg 6 (.bi .max2 [(.bin .sub (.var 5) (.call bZ [(.var 3),(.var 4)])),(.neg (.call dJ [(.var 3),(.var 4)]))])),
  (.ex (.call b8 [(.var 3),(.var 4),(.var 6)]))]),
  (.ret (.call bW [(.var 3),(.lit (.int 0)),(.lit (.int 0))]))]⟩
noncomputable def pN:List String:=["root", "width", "height", "found", "is_row", "side", "change"]
noncomputable def rK:Fn:=⟨1,[],7,[(.ret (.call eW [(.var 0),(.lit (.int 0)),(.lit (.int 0))]))]⟩
noncomputable def q6:List String:=["root"]
noncomputable def jz:Fn:=⟨3,[],12,[(.iff (.or (.cmp .ne (.tup [(.attr (.var 0) 0 3),(.attr (.var 0) 0 4)]) (.tup [(.var 1),(.var 2)])) (.cmp .lt (.bi .min2 [(.attr (.var 0) 0 1),(.attr (.var 0) 0 2)]) (.lit (.int 1)))) [(.ret (.lit (.bool false)))] []),
  (.iff (.cmp .eq (.attr (.var 0) 0 0) (.lit (.str 0))) [(.ret (.cmp .eq (.attr (.var 0) 0 5) (.list [])))] []),
  (.asg 3 (.cmp .eq (.attr (.var 0) 0 0) (.lit (.str 1)))),
  (.iff (.cmp .lt (.bi .len [(.attr (.var 0) 0 5)]) (.lit (.int 2))) [(.ret (.lit (.bool false)))] []),
  (.forr (.one 4) (.seq (.attr (.var 0) 0 5)) [(.iff (.or (.cmp .ne (.call bZ [(.var 4),(.not (.var 3))]) (.call bZ [(.var 0),(.not (.var 3))])) (.not (.call eW [(.var 4),(.var 1),(.var 2)]))) [(.ret (.lit (.bool false)))] []),
  (.asgT [1,2] (.ite (.var 3) (.tup [(.bin .add (.bin .add (.var 1) (.attr (.var 4) 0 1)) (.lit (.int 1))),(.var 2)]) (.tup [(.var 1),(.bin .add (.bin .add (.var 2) (.attr (.var 4) 0 2)) (.lit (.int 1)))])))]),
  (.asg 5 (.bi .sum [(.comp (.call bZ [(.var 6),(.var 3)]) (.one 6) (.seq (.attr (.var 0) 0 5)))])),
  (.ret (.cmp .eq (.bin .sub (.bin .add (.var 5) (.bi .len [(.attr (.var 0) 0 5)])) (.lit (.int 1))) (.call bZ [(.var 0),(.var 3)])))]⟩
noncomputable def ju:List String:=["cell", "x", "y", "is_row", "part", "sides"]
noncomputable def kL:Fn:=⟨2,[],9,[(.asg 2 (.bin .sub (.bi .max2 [(.var 0),(.bin .sub (.bin .mul (.var 1) (.bin .add (.lit (.int 1)) (.lit (.int 1)))) (.lit (.int 1)))]) (.bin .sub (.var 1) (.lit (.int 1))))),
  (.ret (.comp (.bin .add (.bin .fdiv (.var 2) (.var 1)) (.bi .int [(.cmp .lt (.var 3) (.bin .mod (.var 2) (.var 1)))])) (.one 3) (.r1 (.var 1))))]⟩
noncomputable def kn:List String:=["side", "many", "whole"]
noncomputable def jy:Fn:=⟨2,[],13,[(.iff (.cmp .eq (.bi .len [(.var 1)]) (.lit (.int 1))) [(.ret (.idx (.var 1) (.lit (.int 0))))] []),
  (.asg 2 (.cmp .eq (.var 0) (.lit (.str 1)))),
  (.asg 3 (.bin .sub (.bin .add (.bi .sum [(.comp (.call bZ [(.var 7),(.var 2)]) (.one 7) (.seq (.var 1)))]) (.bi .len [(.var 1)])) (.lit (.int 1)))),
  (.asg 4 (.bi .max1 [(.comp (.call bZ [(.var 7),(.not (.var 2))]) (.one 7) (.seq (.var 1)))])),
  (.asgT [5,6] (.ite (.var 2) (.tup [(.var 3),(.var 4)]) (.tup [(.var 4),(.var 3)]))),
  (.ret (.mk 0 [(.var 0),(.var 5),(.var 6),(.lit (.int 0)),(.lit (.int 0)),(.var 1),(.lit .none)]))]⟩
noncomputable def jt:List String:=["kind", "parts", "is_row", "along", "across", "width", "height"]
noncomputable def oJ:Fn:=⟨4,[],14,[(.asg 4 (.list [])),
  (.forr (.many [5,6]) (.zip (.var 0) (.call fE [(.ite (.var 3) (.var 1) (.var 2)),(.bi .len [(.var 0)])])) [(.asg 7 (.call dL [(.var 5),(.var 1),(.var 2)])),
  (.ex (.call cH [(.var 7),(.var 3),(.var 6)])),
  (.ex (.meth .append (.var 4) [(.var 7)]))]),
  (.ret (.call cI [(.call dh [(.var 3)]),(.var 4)]))]⟩
noncomputable def nO:List String:=["panes", "width", "height", "is_row", "parts", "pane", "share", "part"]
noncomputable def oG:Fn:=⟨5,[],15,[(.iff (.cmp .eq (.bi .len [(.var 0)]) (.lit (.int 1))) [(.ret (.call dL [(.idx (.var 0) (.lit (.int 0))),(.var 1),(.var 2)]))] []),
  (.asg 5 (.bi .max2 [(.ite (.var 3) (.var 1) (.var 2)),(.bin .add (.bin .mul (.lit (.int 2)) (.lit (.int 1))) (.lit (.int 1)))])),
  (.asg 6 (.bi .max2 [(.lit (.int 1)),(.bi .min2 [(.ite (.cmp .is (.var 4) (.lit .none)) (.bin .fdiv (.bin .sub (.var 5) (.lit (.int 1))) (.lit (.int 2))) (.var 4)),(.bin .sub (.bin .sub (.var 5) (.lit (.int 1))) (.lit (.int 1)))])])),
  (.asg 7 (.call gq [(.slc (.var 0) (.lit (.int 1)) (.lit .none)),(.var 1),(.var 2),(.not (.var 3))])),
  (.ex (.call b8 [(.var 7),(.var 3),(.bin .sub (.bin .sub (.bin .sub (.var 5) (.lit (.int 1))) (.var 6)) (.call bZ [(.var 7),(.var 3)]))])),
  (.asg 8 (.call dL [(.idx (.var 0) (.lit (.int 0))),(.attr (.var 7) 0 1),(.attr (.var 7) 0 2)])),
  (.ex (.call cH [(.var 8),(.var 3),(.var 6)])),
  (.ret (.call cI [(.call dh [(.var 3)]),(.list [(.var 8),(.var 7)])]))]⟩
noncomputable def nL:List String:=["panes", "width", "height", "is_row", "main", "side", "first", "rest", "one"]
noncomputable def eC:Fn:=⟨3,[],18,[(.asgT [3,4] (.tup [(.lit (.int 1)),(.lit (.int 1))])),
  (.whl (.cmp .lt (.bin .mul (.var 3) (.var 4)) (.bi .len [(.var 0)])) [(.aug 3 .add (.lit (.int 1))),
  (.iff (.cmp .lt (.bin .mul (.var 3) (.var 4)) (.bi .len [(.var 0)])) [(.aug 4 .add (.lit (.int 1)))] [])]),
  (.asg 5 (.bi .max2 [(.lit (.int 1)),(.bin .fdiv (.bin .sub (.var 1) (.bin .sub (.var 4) (.lit (.int 1)))) (.var 4))])),
  (.asg 6 (.bi .max2 [(.var 1),(.bin .sub (.bin .mul (.var 4) (.bin .add (.lit (.int 1)) (.lit (.int 1)))) (.lit (.int 1)))])),
  (.asg 7 (.list [])),
  (.forr (.many [8,9]) (.zipR (.call fE [(.var 2),(.var 3)]) (.lit (.int 0)) (.bin .mul (.var 3) (.var 4)) (.var 4)) [(.asg 10 (.slc (.var 0) (.var 9) (.bin .add (.var 9) (.var 4)))),
  (.asg 11 (.comp (.call dL [(.var 12),(.var 5),(.var 8)]) (.one 12) (.seq (.var 10)))),
  (.setA (.idx (.var 11) (.neg (.lit (.int 1)))) 0 1 (.bin .sub (.var 6) (.bin .mul (.bin .add (.var 5) (.lit (.int 1))) (.bin .sub (.bi .len [(.var 10)]) (.lit (.int 1)))))),
  (.ex (.meth .append (.var 7) [(.call cI [(.lit (.str 1)),(.var 11)])]))]),
  (.ret (.call cI [(.lit (.str 2)),(.var 7)]))]⟩
noncomputable def lN:List String:=["panes", "width", "height", "rows", "columns", "each", "whole", "lines", "share", "at", "some", "parts"]
noncomputable def hU:Fn:=⟨5,[.none],12,[(.iff (.cmp .notin (.var 0) (.lit AZ)) [(.ret (.lit .none))] []),
  (.iff (.cmp .eq (.var 0) (.lit (.str 7))) [(.asg 5 (.call iG [(.var 1),(.var 2),(.var 3)]))] [(.iff (.meth .startsEven (.var 0) []) [(.asg 5 (.call gq [(.var 1),(.var 2),(.var 3),(.cmp .eq (.var 0) (.lit (.str 3)))]))] [(.asg 5 (.call jh [(.var 1),(.var 2),(.var 3),(.cmp .eq (.var 0) (.lit (.str 6))),(.var 4)]))])]),
  (.ret (.call bW [(.var 5),(.lit (.int 0)),(.lit (.int 0))]))]⟩
noncomputable def lM:List String:=["word", "panes", "width", "height", "main", "found"]
noncomputable def iC:Fn:=⟨2,[],11,[(.asg 2 (.call dj [(.var 0)])),
  (.forr (.many [3,4]) (.zip (.call cK [(.var 2)]) (.var 1)) [(.setA (.var 3) 0 6 (.var 4))]),
  (.ret (.var 2))]⟩
noncomputable def iy:List String:=["root", "numbers", "found", "leaf", "pane"]
noncomputable def pT:Fn:=⟨3,[],11,[(.asg 3 (.call dU [(.var 0)])),
  (.iff (.or (.cmp .notin (.var 1) (.var 3)) (.cmp .notin (.var 2) (.var 3))) [(.ret (.lit .none))] []),
  (.asg 4 (.dI2 (.var 1) (.var 2) (.var 2) (.var 1))),
  (.ret (.call dw [(.var 0),(.comp (.meth .get (.var 4) [(.var 5),(.var 5)]) (.one 5) (.seq (.var 3)))]))]⟩
noncomputable def pH:List String:=["root", "one", "other", "panes", "turned"]
noncomputable def hH:Fn:=⟨2,[(.bool false)],9,[(.asg 2 (.call dU [(.var 0)])),
  (.ret (.call dw [(.var 0),(.ite (.var 1) (.bin .add (.slc (.var 2) (.lit (.int 1)) (.lit .none)) (.slc (.var 2) (.lit .none) (.lit (.int 1)))) (.bin .add (.slc (.var 2) (.neg (.lit (.int 1))) (.lit .none)) (.slc (.var 2) (.lit .none) (.neg (.lit (.int 1))))))]))]⟩
noncomputable def lL:List String:=["root", "is_back", "panes"]
noncomputable def vk:Fn:=⟨3,[],10,[(.forr (.one 3) (.seq (.call cK [(.var 0)])) [(.iff (.and (.cmp2 .le .lt (.attr (.var 3) 0 4) (.var 1) (.bin .add (.attr (.var 3) 0 4) (.attr (.var 3) 0 2))) (.cmp2 .le .lt (.attr (.var 3) 0 3) (.var 2) (.bin .add (.attr (.var 3) 0 3) (.attr (.var 3) 0 1)))) [(.ret (.attr (.var 3) 0 6))] [])]),
  (.ret (.lit .none))]⟩
noncomputable def uK:List String:=["root", "row", "column", "leaf"]
noncomputable def je:Fn:=⟨3,[],15,[(.asg 3 (.call dK [(.var 0),(.var 1)])),
  (.iff (.cmp .is (.var 3) (.lit .none)) [(.ret (.lit .none))] []),
  (.asgT [4,5] (.tup [(.idx (.var 3) (.neg (.lit (.int 1)))),(.list [])])),
  (.forr (.one 6) (.seq (.call cK [(.var 0)])) [(.asg 7 (.idx (.dS [8,9,10,11] [(.cmp .eq (.bin .add (.bin .add (.attr (.var 6) 0 3) (.attr (.var 6) 0 1)) (.lit (.int 1))) (.attr (.var 4) 0 3)),(.cmp .eq (.bin .add (.bin .add (.attr (.var 4) 0 3) (.attr (.var 4) 0 1)) (.lit (.int 1))) (.attr (.var 6) 0 3)),(.cmp .eq (.bin .add (.bin .add (.attr (.var 6) 0 4) (.attr (.var 6) 0 2)) (.lit (.int 1))) (.attr (.var 4) 0 4)),(.cmp .eq (.bin .add (.bin .add (.attr (.var 4) 0 4) (.attr (.var 4) 0 2)) (.lit (.int 1))) (.attr (.var 6) 0 4))]) (.var 2))),
  (.iff (.cmp .inn (.var 2) (.tup [(.lit (.str 8)),(.lit (.str 9))])) [(.asg 8 (.and (.cmp .lt (.attr (.var 6) 0 4) (.bin .add (.attr (.var 4) 0 4) (.attr (.var 4) 0 2))) (.cmp .lt (.attr (.var 4) 0 4) (.bin .add (.attr (.var 6) 0 4) (.attr (.var 6) 0 2)))))] [(.asg 8 (.and (.cmp .lt (.attr (.var 6) 0 3) (.bin .add (.attr (.var 4) 0 3) (.attr (.var 4) 0 1))) (.cmp .lt (.attr (.var 4) 0 3) (.bin .add (.attr (.var 6) 0 3) (.attr (.var 6) 0 1)))))]),
  (.iff (.and (.var 7) (.var 8)) [(.ex (.meth .append (.var 5) [(.attr (.var 6) 0 6)]))] [])]),
  (.ret (.var 5))]⟩
noncomputable def pI:List String:=["root", "pane", "word", "path", "here", "found", "leaf", "is_beside", "meets"]
noncomputable def fD:Fn:=⟨1,[],12,[(.asg 1 .dT0),
  (.forr (.many [2,3]) (.enum (.attr (.var 0) 0 5)) [(.ex (.meth .update (.var 1) [(.call fV [(.var 3)])])),
  (.iff (.and (.cmp .lt (.bin .add (.var 2) (.lit (.int 1))) (.bi .len [(.attr (.var 0) 0 5)])) (.cmp .eq (.attr (.var 0) 0 0) (.lit (.str 1)))) [(.forr (.one 4) (.r2 (.attr (.var 0) 0 4) (.bin .add (.attr (.var 0) 0 4) (.attr (.var 0) 0 2))) [(.setI (.var 1) (.tup [(.var 4),(.bin .add (.attr (.var 3) 0 3) (.attr (.var 3) 0 1))]) (.lit (.bool true)))])] [(.iff (.cmp .lt (.bin .add (.var 2) (.lit (.int 1))) (.bi .len [(.attr (.var 0) 0 5)])) [(.forr (.one 5) (.r2 (.attr (.var 0) 0 3) (.bin .add (.attr (.var 0) 0 3) (.attr (.var 0) 0 1))) [(.setI (.var 1) (.tup [(.bin .add (.attr (.var 3) 0 4) (.attr (.var 3) 0 2)),(.var 5)]) (.lit (.bool true)))])] [])])]),
  (.ret (.var 1))]⟩
noncomputable def lP:List String:=["cell", "found", "at", "part", "row", "column"]
noncomputable def iD:Fn:=⟨1,[],12,[(.asgT [1,2] (.tup [(.call fV [(.var 0)]),(.list [])])),
  (.forr (.many [3,4]) (.seq (.bi .sorted [(.var 1)])) [(.asg 5 (.tup [(.tup [(.tup [(.bin .sub (.var 3) (.lit (.int 1))),(.var 4)]),(.lit (.int 1))]),(.tup [(.tup [(.bin .add (.var 3) (.lit (.int 1))),(.var 4)]),(.lit (.int 2))]),(.tup [(.tup [(.var 3),(.bin .sub (.var 4) (.lit (.int 1)))]),(.lit (.int 4))]),(.tup [(.tup [(.var 3),(.bin .add (.var 4) (.lit (.int 1)))]),(.lit (.int 8))])])),
  (.ex (.meth .append (.var 2) [(.tup [(.var 3),(.var 4),(.idx (.lit oq) (.bi .sum [(.compIf (.var 7) (.many [6,7]) (.seq (.var 5)) (.cmp .inn (.var 6) (.var 1)))]))])]))]),
  (.ret (.var 2))]⟩
noncomputable def nQ:List String:=["root", "lines", "found", "row", "column", "sides"]
noncomputable def pU:Fn:=⟨1,[],9,[(.asg 1 (.lit (.int 0))),
  (.forr (.one 2) (.seq (.var 0)) [(.asg 1 (.bin .band (.bin .add (.bin .add (.bin .shr (.var 1) (.lit (.int 1))) (.bin .shl (.bin .band (.var 1) (.lit (.int 1))) (.lit (.int 15)))) (.var 2)) (.lit (.int 65535))))]),
  (.ret (.var 1))]⟩
noncomputable def pK:List String:=["octets", "found", "octet"]
noncomputable def pV:Fn:=⟨1,[],7,[(.ret (.bi .bytes [(.comp (.idx (.lit Gw) (.bin .band (.bin .shr (.var 0) (.var 1)) (.lit (.int 15)))) (.one 1) (.seq (.tup [(.lit (.int 12)),(.lit (.int 8)),(.lit (.int 4)),(.lit (.int 0))])))]))]⟩
noncomputable def pL:List String:=["number"]
noncomputable def ib:Fn:=⟨1,[],10,[(.asg 1 (.bin .add (.bin .add (.call cn [(.attr (.var 0) 0 1)]) (.lit (.bytes [120]))) (.call cn [(.attr (.var 0) 0 2)]))),
  (.asg 2 (.meth .join (.lit (.bytes [44])) [(.list [(.var 1),(.call cn [(.attr (.var 0) 0 3)]),(.call cn [(.attr (.var 0) 0 4)])])])),
  (.iff (.cmp .eq (.attr (.var 0) 0 0) (.lit (.str 0))) [(.ret (.bin .add (.bin .add (.var 2) (.lit (.bytes [44]))) (.call cn [(.attr (.var 0) 0 6)])))] []),
  (.asg 3 (.meth .join (.lit (.bytes [44])) [(.comp (.call dX [(.var 4)]) (.one 4) (.seq (.attr (.var 0) 0 5)))])),
  (.ret (.ite (.cmp .eq (.attr (.var 0) 0 0) (.lit (.str 1))) (.bin .add (.bin .add (.bin .add (.var 2) (.lit (.bytes [123]))) (.var 3)) (.lit (.bytes [125]))) (.bin .add (.bin .add (.bin .add (.var 2) (.lit (.bytes [91]))) (.var 3)) (.lit (.bytes [93])))))]⟩
noncomputable def ia:List String:=["cell", "sizes", "head", "inner"]
noncomputable def kO:Fn:=⟨1,[],8,[(.asg 1 (.call dX [(.var 0)])),
  (.ret (.bin .add (.bin .add (.call eX [(.call eV [(.var 1)])]) (.lit (.bytes [44]))) (.var 1)))]⟩
noncomputable def kr:List String:=["root", "found"]
noncomputable def x5:Fn:=⟨2,[],9,[(.asg 2 (.slc (.attr (.var 0) 1 0) (.attr (.var 0) 1 1) (.bin .add (.attr (.var 0) 1 1) (.lit (.int 1))))),
  (.iff (.or (.cmp .eq (.var 2) (.lit (.bytes []))) (.cmp .notin (.var 2) (.var 1))) [.fail] []),
  (.augA (.var 0) 1 1 .add (.lit (.int 1))),
  (.ret (.var 2))]⟩
noncomputable def xG:List String:=["self", "signs", "here"]
noncomputable def tz:Fn:=⟨1,[],9,[(.asg 1 (.attr (.var 0) 1 1)),
  (.whl (.and (.cmp .lt (.var 1) (.bi .len [(.attr (.var 0) 1 0)])) (.cmp2 .le .le (.lit (.int 48)) (.idx (.attr (.var 0) 1 0) (.var 1)) (.lit (.int 57)))) [(.aug 1 .add (.lit (.int 1)))]),
  (.asg 2 (.call ly [(.slc (.attr (.var 0) 1 0) (.attr (.var 0) 1 1) (.var 1))])),
  (.iff (.or (.cmp .is (.var 2) (.lit .none)) (.cmp .ne (.call cn [(.var 2)]) (.slc (.attr (.var 0) 1 0) (.attr (.var 0) 1 1) (.var 1)))) [.fail] []),
  (.setA (.var 0) 1 1 (.var 1)),
  (.ret (.var 2))]⟩
noncomputable def sU:List String:=["self", "end", "found"]
noncomputable def fg:Fn:=⟨1,[],13,[(.asg 1 (.list [(.umeth fh (.var 0) [])])),
  (.forr (.one 2) (.seq (.tup [(.lit (.bytes [120])),(.lit (.bytes [44])),(.lit (.bytes [44]))])) [(.ex (.umeth gI (.var 0) [(.tup [(.var 2)])])),
  (.ex (.meth .append (.var 1) [(.umeth fh (.var 0) [])]))]),
  (.asg 3 (.umeth gI (.var 0) [(.tup [(.lit (.bytes [44])),(.lit (.bytes [123])),(.lit (.bytes [91]))])])),
  (.asg 4 (.mk 0 [(.lit (.str 0)),(.idx (.var 1) (.lit (.int 0))),(.idx (.var 1) (.lit (.int 1))),(.idx (.var 1) (.lit (.int 2))),(.idx (.var 1) (.lit (.int 3))),(.list []),(.lit .none)])),
  (.iff (.cmp .eq (.var 3) (.lit (.bytes [44]))) [(.setA (.var 4) 0 6 (.umeth fh (.var 0) [])),
  (.ret (.var 4))] []),
  (.iff (.cmp .ge (.attr (.var 0) 1 2) (.lit (.int 50))) [.fail] []),
  (.asgAV (.var 4) 0 0 5 (.ite (.cmp .eq (.var 3) (.lit (.bytes [123]))) (.tup [(.lit (.str 1)),(.lit (.bytes [125]))]) (.tup [(.lit (.str 2)),(.lit (.bytes [93]))]))),
  (.asg 6 (.lit (.bool true))),
  (.augA (.var 0) 1 2 .add (.lit (.int 1))),
  (.whl (.var 6) [(.ex (.meth .append (.attr (.var 4) 0 5) [(.umeth gJ (.var 0) [])])),
  (.asg 6 (.cmp .eq (.umeth gI (.var 0) [(.tup [(.lit (.bytes [44])),(.var 5)])]) (.lit (.bytes [44]))))]),
  (.augA (.var 0) 1 2 .sub (.lit (.int 1))),
  (.ret (.var 4))]⟩
noncomputable def xH:List String:=["self", "numbers", "sign", "opening", "found", "closing", "is_open"]
noncomputable def oB:Fn:=⟨1,[],10,[(.iff (.or (.cmp .ne (.slc (.var 0) (.lit (.int 4)) (.lit (.int 5))) (.lit (.bytes [44]))) (.cmp .ne (.call eX [(.call eV [(.slc (.var 0) (.lit (.int 5)) (.lit .none))])]) (.slc (.var 0) (.lit .none) (.lit (.int 4))))) [.fail] []),
  (.asg 1 (.mk 1 [(.var 0),(.lit (.int 5))])),
  (.asg 2 (.umeth gJ (.var 1) [])),
  (.iff (.cmp .lt (.attr (.var 1) 1 1) (.bi .len [(.var 0)])) [.fail] []),
  (.asg 3 (.bi .sorted [(.call dU [(.var 2)])])),
  (.iff (.or (.not (.call iH [(.var 2)])) (.cmp .ne (.compIf (.var 4) (.many [4,5]) (.zip (.var 3) (.slc (.var 3) (.lit (.int 1)) (.lit .none))) (.cmp .eq (.var 4) (.var 5))) (.list []))) [.fail] []),
  (.ret (.var 2))]⟩
noncomputable def nH:List String:=["octets", "reading", "found", "panes"]
noncomputable def rJ:Fn:=⟨0,[],6,[(.ret (.list [(.lit (.str 3)),(.lit (.str 4)),(.lit (.str 5)),(.lit (.str 6)),(.lit (.str 7))]))]⟩
noncomputable def qY:List String:=[]
noncomputable def ty:Fn:=⟨1,[],7,[(.ret (.dS [12,13] [(.comp (.bin .mod (.bi .int [(.var 1)]) (.lit (.int 1000000007))) (.one 1) (.seq (.slc (.var 0) (.lit .none) (.lit (.int 60))))),(.lit (.int 0))]))]⟩
noncomputable def sT:List String:=["script"]
noncomputable def tv:Fn:=⟨2,[],10,[(.asgT [2,3] (.tup [(.idx (.var 0) (.lit (.str 13))),(.idx (.var 0) (.lit (.str 12)))])),
  (.setI (.var 0) (.lit (.str 13)) (.bin .add (.var 2) (.lit (.int 1)))),
  (.iff (.cmp .lt (.var 2) (.bi .len [(.var 3)])) [(.ret (.bin .mod (.idx (.var 3) (.var 2)) (.var 1)))] []),
  (.iff (.cmp .eq (.var 3) (.list [])) [(.ret (.bin .mod (.bin .add (.bin .mul (.var 2) (.lit (.int 5))) (.bin .fdiv (.var 2) (.lit (.int 3)))) (.var 1)))] []),
  (.ret (.bin .mod (.bin .add (.bin .fdiv (.idx (.var 3) (.bin .mod (.var 2) (.bi .len [(.var 3)]))) (.bin .add (.var 2) (.lit (.int 1)))) (.bin .mul (.var 2) (.lit (.int 5)))) (.var 1)))]⟩
noncomputable def sQ:List String:=["deck", "below", "at", "cells"]
noncomputable def tp:Fn:=⟨1,[],7,[(.ret (.comp (.tup [(.attr (.var 1) 0 6),(.attr (.var 1) 0 3),(.attr (.var 1) 0 4),(.attr (.var 1) 0 1),(.attr (.var 1) 0 2)]) (.one 1) (.seq (.call cK [(.var 0)]))))]⟩
noncomputable def sN:List String:=["root"]
noncomputable def gV:Fn:=⟨1,[],16,[(.asgT [1,2] (.tup [.dT0,(.call cg [(.var 0)])])),
  (.forr (.many [3,4,5,6,7]) (.seq (.var 2)) [(.iff (.or (.cmp .lt (.var 6) (.lit (.int 1))) (.or (.cmp .lt (.var 7) (.lit (.int 1))) (.or (.cmp .lt (.var 4) (.lit (.int 0))) (.or (.cmp .lt (.var 5) (.lit (.int 0))) (.or (.cmp .gt (.bin .add (.var 4) (.var 6)) (.attr (.var 0) 0 1)) (.cmp .gt (.bin .add (.var 5) (.var 7)) (.attr (.var 0) 0 2))))))) [(.ret (.lit (.bool false)))] []),
  (.forr (.one 8) (.r2 (.var 5) (.bin .add (.var 5) (.var 7))) [(.forr (.one 9) (.r2 (.var 4) (.bin .add (.var 4) (.var 6))) [(.iff (.cmp .inn (.tup [(.var 8),(.var 9)]) (.var 1)) [(.ret (.lit (.bool false)))] []),
  (.setI (.var 1) (.tup [(.var 8),(.var 9)]) (.var 3))])])]),
  (.forr (.many [3,4,5,6,7]) (.seq (.var 2)) [(.forr (.one 8) (.r2 (.bi .max2 [(.lit (.int 0)),(.bin .sub (.var 5) (.lit (.int 1)))]) (.bi .min2 [(.attr (.var 0) 0 2),(.bin .add (.bin .add (.var 5) (.var 7)) (.lit (.int 1)))])) [(.forr (.one 9) (.seq (.tup [(.bin .sub (.var 4) (.lit (.int 1))),(.bin .add (.var 4) (.var 6))])) [(.iff (.cmp .inn (.tup [(.var 8),(.var 9)]) (.var 1)) [(.ret (.lit (.bool false)))] [])])])]),
  (.ret (.lit (.bool true)))]⟩
noncomputable def qZ:List String:=["root", "grid", "rows", "pane", "x", "y", "width", "height", "row", "column"]
noncomputable def tq:Fn:=⟨1,[],15,[(.asg 1 .dT0),
  (.forr (.many [2,3,4,5,6]) (.seq (.call cg [(.var 0)])) [(.forr (.one 7) (.r2 (.var 4) (.bin .add (.var 4) (.var 6))) [(.forr (.one 8) (.r2 (.var 3) (.bin .add (.var 3) (.var 5))) [(.setI (.var 1) (.tup [(.var 7),(.var 8)]) (.lit (.bool true)))])])]),
  (.ret (.comp2 (.tup [(.var 9),(.var 10)]) (.one 9) (.r1 (.attr (.var 0) 0 2)) (.one 10) (.r1 (.attr (.var 0) 0 1)) (.cmp .notin (.tup [(.var 9),(.var 10)]) (.var 1))))]⟩
noncomputable def sO:List String:=["root", "held", "pane", "x", "y", "width", "height", "row", "column"]
noncomputable def pW:Fn:=⟨3,[],22,[(.asgT [3,4,5,6,7] (.var 1)),
  (.asg 8 (.list [])),
  (.forr (.many [9,10,11,12,13]) (.seq (.var 0)) [(.asg 14 (.and (.cmp .lt (.var 11) (.bin .add (.var 5) (.var 7))) (.cmp .lt (.var 5) (.bin .add (.var 11) (.var 13))))),
  (.asg 15 (.and (.cmp .lt (.var 10) (.bin .add (.var 4) (.var 6))) (.cmp .lt (.var 4) (.bin .add (.var 10) (.var 12))))),
  (.iff (.and (.var 14) (.or (.and (.cmp .eq (.var 2) (.lit (.str 8))) (.cmp .eq (.bin .add (.bin .add (.var 10) (.var 12)) (.lit (.int 1))) (.var 4))) (.and (.cmp .eq (.var 2) (.lit (.str 9))) (.cmp .eq (.var 10) (.bin .add (.bin .add (.var 4) (.var 6)) (.lit (.int 1))))))) [(.ex (.meth .append (.var 8) [(.tup [(.var 11),(.var 9)])]))] []),
  (.iff (.and (.var 15) (.or (.and (.cmp .eq (.var 2) (.lit (.str 10))) (.cmp .eq (.bin .add (.bin .add (.var 11) (.var 13)) (.lit (.int 1))) (.var 5))) (.and (.cmp .eq (.var 2) (.lit (.str 11))) (.cmp .eq (.var 11) (.bin .add (.bin .add (.var 5) (.var 7)) (.lit (.int 1))))))) [(.ex (.meth .append (.var 8) [(.tup [(.var 10),(.var 9)])]))] [])]),
  (.ret (.comp (.idx (.var 16) (.lit (.int 1))) (.one 16) (.seq (.bi .sorted [(.var 8)]))))]⟩
noncomputable def pM:List String:=["rows", "mine", "word", "pane", "x", "y", "width", "height", "found", "other", "far_x", "far_y", "broad", "tall", "is_level", "is_above"]
noncomputable def cD:Fn:=⟨3,[],17,[(.asg 3 (.call cg [(.var 1)])),
  (.iff (.or (.not (.call iH [(.var 1)])) (.or (.not (.call lA [(.var 1)])) (.cmp .ne (.bi .sorted [(.comp (.idx (.var 11) (.lit (.int 0))) (.one 11) (.seq (.var 3)))]) (.bi .sorted [(.var 2)])))) [(.ret (.lit (.bool false)))] []),
  (.asg 4 (.call cJ [(.var 1)])),
  (.asg 5 (.call jg [(.var 4)])),
  (.iff (.or (.cmp .ne (.call cJ [(.var 5)]) (.var 4)) (.cmp .ne (.call cg [(.var 5)]) (.var 3))) [(.ret (.lit (.bool false)))] []),
  (.iff (.cmp .ne (.comp (.tup [(.var 11),(.var 12)]) (.many [11,12,13]) (.seq (.call ji [(.var 1)]))) (.call oM [(.var 1)])) [(.ret (.lit (.bool false)))] []),
  (.asgT [6,7] (.tup [(.call bY [(.var 0),(.attr (.var 1) 0 2)]),(.call bY [(.var 0),(.attr (.var 1) 0 1)])])),
  (.asg 8 (.compIf (.idx (.var 11) (.lit (.int 0))) (.one 11) (.seq (.var 3)) (.and (.cmp2 .le .lt (.idx (.var 11) (.lit (.int 2))) (.var 6) (.bin .add (.idx (.var 11) (.lit (.int 2))) (.idx (.var 11) (.lit (.int 4))))) (.cmp2 .le .lt (.idx (.var 11) (.lit (.int 1))) (.var 7) (.bin .add (.idx (.var 11) (.lit (.int 1))) (.idx (.var 11) (.lit (.int 3)))))))),
  (.iff (.cmp .ne (.call qt [(.var 1),(.var 6),(.var 7)]) (.ite (.cmp .ne (.var 8) (.list [])) (.idx (.var 8) (.lit (.int 0))) (.lit .none))) [(.ret (.lit (.bool false)))] []),
  (.asgT [9,10] (.tup [(.idx (.var 3) (.call bY [(.var 0),(.bi .len [(.var 3)])])),(.idx (.list [(.lit (.str 8)),(.lit (.str 9)),(.lit (.str 10)),(.lit (.str 11))]) (.call bY [(.var 0),(.lit (.int 4))]))])),
  (.ret (.cmp .eq (.bi .list [(.call j6 [(.var 1),(.idx (.var 9) (.lit (.int 0))),(.var 10)])]) (.call j7 [(.var 3),(.var 9),(.var 10)])))]⟩
noncomputable def q5:List String:=["deck", "root", "panes", "rows", "octets", "back", "row", "column", "here", "mine", "word"]
noncomputable def cP:Fn:=⟨4,[],27,[(.asgT [4,5] (.tup [(.cmp .eq (.call bY [(.var 0),(.lit (.int 2))]) (.lit (.int 0))),(.cmp .eq (.call bY [(.var 0),(.lit (.int 2))]) (.lit (.int 1)))])),
  (.asg 6 (.idx (.list [(.lit .none),(.lit .none),(.lit (.int 1)),(.lit (.int 3)),(.lit (.int 40))]) (.call bY [(.var 0),(.lit (.int 5))]))),
  (.asg 7 (.call cg [(.var 1)])),
  (.asg 8 (.meth .index (.comp (.idx (.var 21) (.lit (.int 0))) (.one 21) (.seq (.var 7))) [(.var 2)])),
  (.asgT [9,10,11,12] (.slc (.idx (.var 7) (.var 8)) (.lit (.int 1)) (.lit .none))),
  (.asg 13 (.ite (.var 4) (.var 11) (.var 12))),
  (.asg 14 (.call iE [(.var 1),(.var 2),(.var 3),(.var 4),(.var 6),(.var 5)])),
  (.iff (.cmp .lt (.var 13) (.lit (.int 3))) [(.ret (.tup [(.cmp .is (.var 14) (.lit .none)),(.lit .none)]))] []),
  (.iff (.cmp .is (.var 14) (.lit .none)) [(.ret (.tup [(.lit (.bool false)),(.lit .none)]))] []),
  (.asg 15 (.ite (.cmp .is (.var 6) (.lit .none)) (.bin .fdiv (.bin .sub (.var 13) (.lit (.int 1))) (.lit (.int 2))) (.bi .max2 [(.lit (.int 1)),(.bi .min2 [(.var 6),(.bin .sub (.var 13) (.lit (.int 2)))])]))),
  (.asg 16 (.ite (.var 5) (.list [(.tup [(.var 3),(.var 15)]),(.tup [(.var 2),(.bin .sub (.bin .sub (.var 13) (.lit (.int 1))) (.var 15))])]) (.list [(.tup [(.var 2),(.bin .sub (.bin .sub (.var 13) (.lit (.int 1))) (.var 15))]),(.tup [(.var 3),(.var 15)])]))),
  (.asgT [17,18] (.tup [(.list []),(.lit (.int 0))])),
  (.forr (.many [19,20]) (.seq (.var 16)) [(.ex (.meth .append (.var 17) [(.ite (.var 4) (.tup [(.var 19),(.bin .add (.var 9) (.var 18)),(.var 10),(.var 20),(.var 12)]) (.tup [(.var 19),(.var 9),(.bin .add (.var 10) (.var 18)),(.var 11),(.var 20)]))])),
  (.asg 18 (.bin .add (.bin .add (.var 18) (.var 20)) (.lit (.int 1))))]),
  (.iff (.cmp .ne (.call cg [(.var 14)]) (.bin .add (.bin .add (.slc (.var 7) (.lit .none) (.var 8)) (.var 17)) (.slc (.var 7) (.bin .add (.var 8) (.lit (.int 1))) (.lit .none)))) [(.ret (.tup [(.lit (.bool false)),(.lit .none)]))] []),
  (.iff (.and (.not (.var 5)) (.cmp .ne (.call cJ [(.call gW [(.var 14),(.var 3)])]) (.call cJ [(.var 1)]))) [(.ret (.tup [(.lit (.bool false)),(.lit .none)]))] []),
  (.ret (.tup [(.lit (.bool true)),(.var 14)]))]⟩
noncomputable def q4:List String:=["deck", "root", "pane", "fresh", "is_row", "is_before", "size", "rows", "spot", "x", "y", "width", "height", "side", "found", "more", "lots", "due", "at", "one", "part"]
noncomputable def tu:Fn:=⟨4,[],17,[(.asgT [4,5,6] (.tup [(.ite (.var 3) (.var 1) (.var 2)),(.list []),(.lit (.int 0))])),
  (.asg 7 (.bin .add (.bin .sub (.var 4) (.bi .len [(.var 0)])) (.lit (.int 1)))),
  (.forr (.many [8,9]) (.enum (.var 0)) [(.asg 10 (.bin .add (.bin .fdiv (.var 7) (.bi .len [(.var 0)])) (.bi .int [(.cmp .lt (.var 8) (.bin .mod (.var 7) (.bi .len [(.var 0)])))]))),
  (.ex (.meth .append (.var 5) [(.ite (.var 3) (.tup [(.var 9),(.var 6),(.lit (.int 0)),(.var 10),(.var 2)]) (.tup [(.var 9),(.lit (.int 0)),(.var 6),(.var 1),(.var 10)]))])),
  (.asg 6 (.bin .add (.bin .add (.var 6) (.var 10)) (.lit (.int 1))))]),
  (.ret (.var 5))]⟩
noncomputable def sP:List String:=["panes", "width", "height", "is_row", "side", "found", "at", "whole", "k", "pane", "part"]
noncomputable def db:Fn:=⟨4,[],22,[(.asgT [4,5] (.tup [(.call bY [(.var 0),(.lit (.int 7))]),(.call cg [(.var 1)])])),
  (.asg 6 (.idx (.var 2) (.call bY [(.var 0),(.bi .len [(.var 2)])]))),
  (.iff (.cmp .lt (.var 4) (.lit (.int 3))) [(.asgT [7,8] (.call lB [(.var 0),(.var 1),(.var 6),(.var 3)])),
  (.ret (.tup [(.var 7),(.ite (.cmp .is (.var 8) (.lit .none)) (.var 1) (.var 8)),(.ite (.cmp .is (.var 8) (.lit .none)) (.var 2) (.bin .add (.var 2) (.list [(.var 3)])))]))] []),
  (.iff (.cmp .eq (.var 4) (.lit (.int 3))) [(.asg 8 (.call gW [(.var 1),(.var 6)])),
  (.iff (.cmp .eq (.bi .len [(.var 2)]) (.lit (.int 1))) [(.ret (.tup [(.cmp .is (.var 8) (.lit .none)),(.var 1),(.var 2)]))] []),
  (.ret (.tup [(.cmp .eq (.tup [(.attr (.var 8) 0 1),(.attr (.var 8) 0 2)]) (.tup [(.attr (.var 1) 0 1),(.attr (.var 1) 0 2)])),(.var 8),(.compIf (.var 16) (.one 16) (.seq (.var 2)) (.cmp .ne (.var 16) (.var 6)))]))] []),
  (.iff (.cmp .eq (.var 4) (.lit (.int 4))) [(.asg 8 (.call jf [(.var 1),(.var 6),(.cmp .eq (.call bY [(.var 0),(.lit (.int 2))]) (.lit (.int 0))),(.bin .sub (.call bY [(.var 0),(.lit (.int 7))]) (.lit (.int 3)))])),
  (.ret (.tup [(.cmp .eq (.comp (.idx (.var 16) (.lit (.int 0))) (.one 16) (.seq (.call cg [(.var 8)]))) (.comp (.idx (.var 16) (.lit (.int 0))) (.one 16) (.seq (.var 5)))),(.var 8),(.var 2)]))] []),
  (.iff (.cmp .eq (.var 4) (.lit (.int 5))) [(.asgT [9,10] (.tup [(.bin .add (.attr (.var 1) 0 1) (.call bY [(.var 0),(.lit (.int 4))])),(.bin .add (.attr (.var 1) 0 2) (.call bY [(.var 0),(.lit (.int 3))]))])),
  (.asg 8 (.call j8 [(.var 1),(.var 9),(.var 10)])),
  (.asg 7 (.cmp .eq (.tup [(.attr (.var 8) 0 1),(.attr (.var 8) 0 2)]) (.tup [(.var 9),(.var 10)]))),
  (.ret (.tup [(.and (.var 7) (.cmp .eq (.comp (.idx (.var 16) (.lit (.int 0))) (.one 16) (.seq (.call cg [(.var 8)]))) (.comp (.idx (.var 16) (.lit (.int 0))) (.one 16) (.seq (.var 5))))),(.var 8),(.var 2)]))] []),
  (.asg 11 (.call bY [(.var 0),(.lit (.int 4))])),
  (.iff (.cmp .eq (.var 11) (.lit (.int 0))) [(.asg 12 (.idx (.var 2) (.call bY [(.var 0),(.bi .len [(.var 2)])]))),
  (.asg 13 (.dI2 (.var 6) (.var 12) (.var 12) (.var 6))),
  (.asg 8 (.call j5 [(.var 1),(.var 6),(.var 12)])),
  (.ret (.tup [(.cmp .eq (.call cg [(.var 8)]) (.comp (.bin .add (.tup [(.meth .get (.var 13) [(.idx (.var 16) (.lit (.int 0))),(.idx (.var 16) (.lit (.int 0)))])]) (.slc (.var 16) (.lit (.int 1)) (.lit .none))) (.one 16) (.seq (.var 5)))),(.var 8),(.var 2)]))] []),
  (.iff (.cmp .eq (.var 11) (.lit (.int 1))) [(.asgT [8,13] (.tup [(.call fU [(.var 1)]),(.comp (.idx (.var 16) (.lit (.int 0))) (.one 16) (.seq (.var 5)))])),
  (.asg 7 (.cmp .eq (.call cg [(.call fU [(.var 8),(.lit (.bool true))])]) (.var 5))),
  (.asg 14 (.comp (.bin .add (.tup [(.idx (.var 13) (.bin .sub (.var 16) (.lit (.int 1))))]) (.slc (.idx (.var 5) (.var 16)) (.lit (.int 1)) (.lit .none))) (.one 16) (.r1 (.bi .len [(.var 5)])))),
  (.ret (.tup [(.and (.var 7) (.cmp .eq (.call cg [(.var 8)]) (.var 14))),(.var 8),(.var 2)]))] []),
  (.asg 15 (.idx (.call lz []) (.call bY [(.var 0),(.lit (.int 5))]))),
  (.asg 13 (.comp (.idx (.var 16) (.lit (.int 0))) (.one 16) (.seq (.var 5)))),
  (.asg 8 (.call iF [(.var 15),(.var 13),(.lit (.int 12)),(.lit (.int 8))])),
  (.iff (.and (.cmp .inn (.var 15) (.tup [(.lit (.str 3)),(.lit (.str 4))])) (.cmp .lt (.bi .len [(.var 13)]) (.lit (.int 5)))) [(.iff (.cmp .ne (.call cg [(.var 8)]) (.call oO [(.var 13),(.lit (.int 12)),(.lit (.int 8)),(.cmp .eq (.var 15) (.lit (.str 3)))])) [(.ret (.tup [(.lit (.bool false)),(.var 8),(.var 2)]))] [])] []),
  (.ret (.tup [(.cmp .eq (.comp (.idx (.var 16) (.lit (.int 0))) (.one 16) (.seq (.call cg [(.var 8)]))) (.var 13)),(.var 8),(.var 2)]))]⟩
noncomputable def sS:List String:=["deck", "root", "panes", "fresh", "way", "rows", "pane", "is_right", "found", "width", "height", "number", "other", "names", "due", "word"]
noncomputable def A4:Fn:=⟨1,[],15,[(.asg 1 (.call oQ [(.slc (.var 0) (.lit .none) (.lit (.int 32)))])),
  (.asgT [2,3] (.tup [(.call dL [(.lit (.int 0)),(.lit (.int 12)),(.lit (.int 8))]),(.list [(.lit (.int 0))])])),
  (.forr (.one 4) (.r1 (.bin .add (.lit (.int 1)) (.call bY [(.var 1),(.lit (.int 5))]))) [(.asg 5 (.call cJ [(.var 2)])),
  (.asgT [6,7,8] (.call oP [(.var 1),(.var 2),(.var 3),(.bin .add (.var 4) (.lit (.int 1)))])),
  (.iff (.or (.not (.var 6)) (.or (.cmp .ne (.call cJ [(.var 2)]) (.var 5)) (.not (.call lC [(.var 1),(.var 7),(.var 8)])))) [(.ret (.lit (.bool false)))] []),
  (.asgT [2,3] (.tup [(.var 7),(.var 8)]))]),
  (.ret (.lit (.bool true)))]⟩
noncomputable def F0:List String:=["script", "deck", "root", "panes", "turn", "was", "is_right", "found", "names"]
noncomputable def defs:List Fn:=[jZ,rI,oH,oK,kQ,lS,oF,oI,oC,jx,lT,oD,kR,kM,jc,fC,kP,gm,kS,fT,pX,rK,jz,kL,jy,oJ,oG,eC,hU,iC,pT,hH,vk,je,fD,iD,pU,pV,ib,kO,x5,tz,fg,oB,rJ,ty,tv,tp,gV,tq,pW,cD,cP,tu,db,A4]
noncomputable def tI:List String:=["decimal_octets", "number_of", "layout_leaf", "layout_copy", "layout_leaves", "layout_panes", "layout_path", "layout_kind", "layout_side", "layout_set_side", "layout_index", "layout_room", "layout_change", "layout_placed", "layout_exchanged", "split_layout", "layout_melted", "close_pane", "layout_border", "resize_pane", "fit_layout", "is_tiling", "layout_is_right", "layout_shares", "layout_of_parts", "layout_even", "layout_main", "layout_tiled", "named_layout", "layout_renumbered", "swap_panes", "rotate_panes", "pane_at", "neighbours", "layout_lines", "border_rows", "layout_sum", "layout_hex", "layout_cell_octets", "layout_octets", "R_sign", "R_number", "R_cell", "read_layout", "_law_words", "_law_deck", "_law_draw", "_law_rows", "_law_tiles", "_law_free", "_law_beside", "_law_right", "_law_split", "_law_even", "_law_deed", "law"]
noncomputable def Bp:List (List String):=[jT,qX,nM,nP,kA,lO,nK,nN,nI,jr,lQ,nJ,kB,kq,jb,lK,kz,pO,kC,nG,pN,q6,ju,kn,jt,nO,nL,lN,lM,iy,pH,lL,uK,pI,lP,nQ,pK,pL,ia,kr,xG,sU,xH,nH,qY,sT,sQ,sN,qZ,sO,pM,q5,q4,sP,sS,F0]
end Mine.Internal
set_option backward.match.sparseCases true
namespace Mine.Internal
structure Zt where
 prog:Program
 w:World
 K:Frag
 h:Heap
 mg:PySem.Str→Option Value
 mb:PySem.Str→Option Value
noncomputable def Fb:List String:=["pane", "row", "column", "even-horizontal", "even-vertical", "main-horizontal", "main-vertical", "tiled", "left", "right", "up", "down", "cells", "at"]
noncomputable def eJ(n:Nat):PySem.Str:=PySem.Str.ofString (Fb.getD n "")
noncomputable def cQ:Nat→List PySem.Str
 | 0=>["kind", "width", "height", "x", "y", "parts", "pane"]
 | _=>["octets", "at", "depth"]
noncomputable def toS(s:String):PySem.Str:=PySem.Str.ofString s
noncomputable def g9(K:Frag)(nm:PySem.Str):Option Addr:=(nsIn K mainGlobals nm).bind λ
 | some (.ref a)=>some a
 | _=>none
noncomputable def rS(K:Frag)(c:Nat):Addr:=(g9 K (if c=0 then toS "Cell" else toS "LayoutReading")).getD 0
noncomputable abbrev Ctx:=List (Nat×PySem.Str×Bool)
noncomputable def yF(K:Frag)(a:Addr):Option (List Value):=(K.lookup a).bind λo=>match o with
 | ⟨.type c,none,.seq ⟨items⟩ 0,⟨[]⟩⟩=>if c= "tuple" then some items else none
 | _=>none
noncomputable def qB:List PySem.Str:=[toS "LAYOUT_WORDS",toS "BORDER_SIGNS"]
noncomputable def dP:PySem.Expr→Bool
 | .Starred _ _=>false
 | _=>true
noncomputable def e6:PySem.Expr→Bool
 | .Name _ _=>true
 | .Subscript _ _ _=>true
 | .Attribute _ _ _=>true
 | .Constant _ _ _=>true
 | .ListComp _ _ _ _=>true
 | _=>false
noncomputable def lE(names:List PySem.Str):Ctx:=(List.range names.length).map λi=>(i,names.getD i Str.empty,true)
structure FnQ where
 oc:Value
 od:Option Addr
 name:PySem.Str
 qual:PySem.Str
 as:List Arg
 kd:List (Option PySem.Expr)
 de:List PySem.Expr
 body:List Stmt
 sc:Scope
 dV:Value
 kV:Value
 doc:Value
 pm:Value
 an:Option Addr
 cdv:Value
 ct:Value
 osl:Array (Option Value)
noncomputable abbrev FnQ.fd(q:FnQ):FuncData:=fnOf q.name q.qual ⟨[],q.as,none,[],q.kd,none,q.de⟩ q.body q.sc q.dV q.kV q.doc q.pm q.an q.cdv q.ct
noncomputable abbrev FnQ.obj(q:FnQ):Obj:=⟨q.oc,q.od,.func q.fd,q.osl⟩
noncomputable def jR:Pat→Bool
 | .one _=>false
 | .many _=>true
noncomputable def iw:PySem.Expr→Bool
 | .Set _ _ _=>false
 | _=>true
noncomputable def oZ(sc:Scope):Env:={scope:=sc,locals:=0,globals:=0,cells:=[],qual:= "",func:=none,code:= .none,frame:=none,builtins:=0}
noncomputable def td:BOp→Bool
 | .add=>true| .sub=>true|_=>false
noncomputable def eS:Pat→List Nat
 | .one i=>[i]
 | .many is=>is
noncomputable def ti(ps:List (Nat×PySem.Str))(ctx:Ctx):Ctx:=ps.map (λp=>(p.1,p.2,true))++ctx.map (λe=>(e.1,e.2.1,false))
structure Fr where
 sc:Scope
 ctx:Ctx
 env:Env
noncomputable def jv{α β:Type}(f:α→Option β):List α→Option (List β)
 | []=>some []
 | x::r=>(f x).bind λa=>(jv f r).bind λl=>some (a::l)
structure Cx where
 sc:Scope
 ctx:Ctx
 nx:Nat
noncomputable abbrev Cx.fr(c:Cx)(env:Env):Fr:=⟨c.sc,c.ctx,env⟩
noncomputable abbrev Trn:=Cx→PySem.Expr→Option E
noncomputable def DR:List (PySem.Str×Nat):=(tI.zipIdx.filter λp=> !("R_".isPrefixOf p.1)).map λp=>(toS p.1,p.2)
noncomputable def DP:List (PySem.Str×Nat):=[(toS "sign",gI),(toS "number",fh),(toS "cell",gJ)]
noncomputable def GK:List (PySem.Str×Nat):=[(toS "Cell",0),(toS "LayoutReading",1)]
noncomputable def DQ:List (PySem.Str×V):=[(toS "LEAST_SIDE",.int 1),(toS "LAYOUT_DEEP",.int 50),(toS "LAYOUT_HEX",Gw),(toS "LAYOUT_WORDS",AZ),(toS "BORDER_SIGNS",oq)]
noncomputable def iL:List (PySem.Str×Value):=[(toS "len",.builtin "len"),(toS "sorted",.builtin "sorted"),(toS "abs",.builtin "abs"),(toS "int",.type "int"),(toS "bytes",.type "bytes"),(toS "list",.type "list"),(toS "sum",.builtin "sum"),(toS "min",.builtin "min"),(toS "max",.builtin "max"),(toS "range",.type "range"),(toS "enumerate",.type "enumerate"),(toS "zip",.type "zip")]
noncomputable def Io(nm:PySem.Str)(k:Nat):Option BI:=if nm=toS "len" then some .len else if nm=toS "sorted" then some .sorted else if nm=toS "abs" then some .abs else if nm=toS "int" then some .int else if nm=toS "bytes" then some .bytes else if nm=toS "list" then some .list
 else if nm=toS "sum" then some .sum else if nm=toS "min" then some (if k=1 then .min1 else .min2) else if nm=toS "max" then some (if k=1 then .max1 else .max2) else none
noncomputable def wy:MT→PySem.Str
 | .append=> "append" | .extend=> "extend" | .pop=> "pop" | .index=> "index" | .update=> "update" | .get=> "get" | .startsEven=> "startswith" | .join=> "join"
noncomputable def is1:MT→Bool
 | .get=>false
 | .startsEven=>false
 | _=>true
noncomputable def mt1(nm:PySem.Str):Option MT:=[MT.append,.extend,.pop,.index,.update,.join].find? λm=>wy m==nm&&is1 m
noncomputable abbrev kI(c:Cx)(nm:PySem.Str):Prop:=c.sc.names.lookup nm=some .globalImplicit∧(nm==("__debug__" :PySem.Str))=false
noncomputable def yV(s:PySem.Str):Option Nat:=(List.range 14).find? λk=>eJ k==s
noncomputable def A7(nm:PySem.Str):Option (Nat×Nat):=[(0,0),(0,1),(0,2),(0,3),(0,4),(0,5),(0,6),(1,0),(1,1),(1,2)].find? λp=>(cQ p.1)[p.2]? ==some nm
noncomputable def yC(c:Cx)(nm:PySem.Str):Option Nat:=(c.ctx.find? λe=>e.2.1==nm&&(e.2.2||c.sc.names.lookup nm !=some .local)).bind λe =>
 gd ((c.sc.names.lookup nm=some .local∨c.sc.names.lookup nm=some .cell∨c.sc.names.lookup nm=some .free)∧(nm==("__debug__" :PySem.Str))=false∧(nm==("__classdict__" :PySem.Str))=false) (some e.1)
noncomputable def mH(c:Cx)(L:Bool)(x:PySem.Str):Option Nat:=(c.ctx.find? λe=>e.2.1==x&&e.2.2).bind λe =>
 gd (c.sc.names.lookup x=some .local∨(L=false∧c.sc.names.lookup x=some .cell∧∀e∈c.ctx,e.2.2=true)) (some e.1)
noncomputable def eG:PySem.Expr→Option PySem.Str
 | .Name x _=>some x
 | _=>none
noncomputable def uf(c:Cx)(nm:PySem.Str):Option E:=match yC c nm with
 | some i=>some (.var i)
 | none=>gd (kI c nm) ((DQ.lookup nm).map .lit)
noncomputable def vU:Const→Option V
 | .none=>some .none
 | .bool b=>some (.bool b)
 | .int i=>some (.int i)
 | .str s=>(yV s).map .str
 | .bytes l=>gd (l.length≤lim) (some (.bytes (l.map λc=>(c.toNat:Int))))
 | _=>none
noncomputable def BL:PySem.Operator→Option BOp
 | .Add=>some .add| .Sub=>some .sub| .Mult=>some .mul| .FloorDiv=>some .fdiv| .Mod=>some .mod| .BitAnd=>some .band| .RShift=>some .shr| .LShift=>some .shl|_=>none
noncomputable def wY:PySem.CmpOp→COp
 | .Eq=> .eq| .NotEq=> .ne| .Lt=> .lt| .LtE=> .le| .Gt=> .gt| .GtE=> .ge| .Is=> .is| .IsNot=> .isnot| .In=> .inn| .NotIn=> .notin
section
variable(t:Trn)(c:Cx)
noncomputable def eD(x:PySem.Expr):Option E:=gd (dP x=true) (t c x)
noncomputable def iO(xs:List PySem.Expr):Option (List E):=jv (eD t c) xs
noncomputable def qI(op:PySem.BoolOp):List PySem.Expr→Option E
 | []=>none
 | y::ys=>(t c y).bind λa=>match ys with
  | []=>some a
  | _::_=>(qI op ys).bind λb=>some (match op with| .And=> .and a b| .Or=> .or a b)
noncomputable def mF:Option PySem.Expr→Option E
 | none=>some (.lit .none)
 | some x=>t c x
noncomputable def p6(l:PySem.Expr)(ops:List PySem.CmpOp)(rs:List PySem.Expr):Option E:=(t c l).bind λa=>match ops,rs with
 | [o],[r]=>(t c r).bind λb=>gd (behindInMarks o r=false) (some (.cmp (wY o) a b))
 | [o,o'],[r,q]=>(t c r).bind λb=>(t c q).bind λd=>gd (lastMarks [o,o'] [r,q]=false) (some (.cmp2 (wY o) (wY o') a b d))
 | _,_=>none
noncomputable def AH:PySem.Expr→Bool
 | .UnaryOp .USub (.Constant (.int i) _ _) _=>decide (i=1)
 | _=>false
noncomputable def iQ:PySem.Expr→Option (Option PySem.Expr×Option PySem.Expr×Option PySem.Expr)
 | .Slice l u st _=>some (l,u,st)
 | _=>none
noncomputable def En(y sl:PySem.Expr):Option E:=(t c y).bind λa=>match iQ sl with
 | some (l,u,none)=>(mF t c l).bind λlo=>(mF t c u).bind λhi=>some (.slc a lo hi)
 | some (l,u,some z)=>gd (l.isNone=true∧u.isNone=true∧AH z=true) (some (.rev a))
 | none=>(t c sl).bind λb=>some (.idx a b)
noncomputable def jJ:List (Option PySem.Expr)→Option (List Nat)
 | []=>some []
 | some (.Constant (.str s) _ _)::r=>(yV s).bind λk=>(jJ r).bind λl=>some (k::l)
 | _=>none
noncomputable def vT(keys:List (Option PySem.Expr))(xs:List PySem.Expr):Option E:=match keys,xs with
 | [some k,some k'],[v,v']=>(t c k).bind λa=>(t c v).bind λb=>(t c k').bind λd=>(t c v').bind λe=>some (.dI2 a b d e)
 | _,_=>none
noncomputable def vS(keys:List (Option PySem.Expr))(xs:List PySem.Expr):Option (List Nat)→Option E
 | some ks=>(iO t c xs).bind λes=>gd (ks.length=es.length∧ks≠[]∧ks.length≤15∧ks.Nodup) (some (.dS ks es))
 | none=>vT t c keys xs
noncomputable def yG(keys:List (Option PySem.Expr))(xs:List PySem.Expr):Option E:=match keys with
 | []=>match xs with
  | []=>some .dT0
  | _=>none
 | k::r=>vS t c (k::r) xs (jJ (k::r))
noncomputable def vV(nm:PySem.Str)(xs:List PySem.Expr):Option E:=(iO t c xs).bind λes=>gd (kI c nm) (match DR.lookup nm with
 | some f=>some (.call f es)
 | none=>match GK.lookup nm with
  | some k=>some (.mk k es)
  | none=>(Io nm es.length).bind λb=>some (.bi b es))
noncomputable def AI:PySem.Expr→Bool
 | .Constant (.str s) _ _=>decide (s=Str.ofString "even")
 | _=>false
noncomputable def G0(o:E)(nm:PySem.Str)(x:PySem.Expr):Option MT→Option E
 | some m=>(eD t c x).bind λe=>some (.meth m o [e])
 | none=>gd (nm=wy .startsEven∧AI x=true) (some (.meth .startsEven o []))
noncomputable def vW(ox:PySem.Expr)(nm:PySem.Str)(apos pos:Pos)(xs:List PySem.Expr):Option E:=(t c ox).bind λo=>gd (e6 ox=true∧(apos.endLine==pos.line)=true) (match DP.lookup nm with
 | some f=>(iO t c xs).bind λes=>gd (xs.length<30) (some (.umeth f o es))
 | none=>match xs with
  | [x]=>G0 t c o nm x (mt1 nm)
  | [x,y]=>(eD t c x).bind λe=>(eD t c y).bind λf=>gd (nm=wy .get) (some (.meth .get o [e,f]))
  | _=>none)
noncomputable def yH(f:PySem.Expr)(xs:List PySem.Expr)(kws:List Keyword)(pos:Pos):Option E:=match kws with
 | []=>match f with
  | .Name nm _=>vV t c nm xs
  | .Attribute ox nm apos=>vW t c ox nm apos pos xs
  | _=>none
 | _=>none
noncomputable def vA:PySem.Expr→Option (PySem.Expr×List PySem.Expr)
 | .Call f xs [] _=>some (f,xs)
 | _=>none
noncomputable def three:List PySem.Expr→Option (PySem.Expr×PySem.Expr×PySem.Expr)
 | [u,v,w]=>some (u,v,w)
 | _=>none
noncomputable def Fq(y:PySem.Expr):Option (PySem.Expr×PySem.Expr×PySem.Expr):=(vA y).bind λq=>(eG q.1).bind λr=>gd (kI c r∧r=toS "range") (three q.2)
noncomputable def GZ(a:E)(y:PySem.Expr):Option (PySem.Expr×PySem.Expr×PySem.Expr)→Option E
 | some q=>(eD t c q.1).bind λb=>(eD t c q.2.1).bind λd=>(eD t c q.2.2).bind λe=>some (.zipR a b d e)
 | none=>(eD t c y).bind λb=>some (.zip a b)
noncomputable def Es(tt:Bool)(nm:PySem.Str)(xs:List PySem.Expr):Option E:=gd (kI c nm∧(nm=toS "range" ∨tt=true)) (match xs with
 | [x]=>(eD t c x).bind λa=>if nm=toS "range" then some (.r1 a) else gd (nm=toS "enumerate") (some (.enum a))
 | [x,y]=>(eD t c x).bind λa=>if nm=toS "range" then(eD t c y).bind λb=>some (.r2 a b) else gd (nm=toS "zip") (GZ t c a y (Fq c y))
 | [x,y,z]=>(eD t c x).bind λa=>(eD t c y).bind λb=>(eD t c z).bind λd=>gd (nm=toS "range") (some (.r3 a b d))
 | _=>none)
noncomputable def Dm:List PySem.Str:=[toS "range",toS "enumerate",toS "zip"]
noncomputable def AD(x:PySem.Expr):Option (PySem.Str×List PySem.Expr):=(vA x).bind λq=>(eG q.1).bind λr=>gd (r∈Dm) (some (r,q.2))
noncomputable def B9(tt:Bool)(x:PySem.Expr):Option E:=match AD x with
 | some q=>Es t c tt q.1 q.2
 | none=>(t c x).bind λa=>some (.seq a)
noncomputable def mJ:PySem.Expr→Option (List PySem.Str)
 | .Name x _=>some [x]
 | .Tuple ts _ _=>jv eG ts
 | _=>none
noncomputable def zJ(L:Bool):PySem.Expr→Option Pat
 | .Name x _=>(mH c L x).bind λi=>some (.one i)
 | .Tuple ts _ _=>(jv (λy=>(eG y).bind (mH c L)) ts).bind λis=>some (.many is)
 | _=>none
noncomputable def Fw(names:List PySem.Str):List (Nat×PySem.Str):=names.zipIdx.map λp=>(c.nx+p.2,p.1)
noncomputable def inC(sc':Scope)(names:List PySem.Str):Cx:=⟨sc',ti (Fw c names) c.ctx,c.nx+names.length⟩
noncomputable def Ii(l:Ctx):Bool:=l.all λe=>l.all λe'=>(e.1 !=e'.1||e==e')&&(!e.2.2|| !e'.2.2||e.2.1 !=e'.2.1||e==e')
noncomputable def BF(sc':Scope)(ps:List (Nat×PySem.Str))(sl:List Nat):Bool:=sc'.kind== .function&&sc'.names.all (λy=>(y.2== .local&&sc'.names.lookup y.1==some .local)||(y.2== .free&&c.sc.names.lookup y.1==some .cell)||(y.2 != .cell&&y.2 != .local&&y.2 != .free))&&Ii (ti ps c.ctx)&&ps.all λq=>sl.contains q.1
noncomputable def Gh(ci:Cx)(e:E)(p:Pat)(it:E):List PySem.Expr→Option E
 | []=>some (.comp e p it)
 | [tx]=>(t ci tx).bind λq=>some (.compIf e p it q)
 | _=>none
noncomputable def Gg(ci:Cx)(e:E)(p:Pat)(it:E)(p':Pat)(it':E):List PySem.Expr→Option E
 | [tx]=>(t ci tx).bind λq=>some (.comp2 e p it p' it' q)
 | _=>none
noncomputable def rq(ci:Cx)(g:Comprehension)(k:Pat→E→Option E):Option E:=gd (g.is_async=0∧iw g.iter=true) ((zJ ci true g.target).bind λp=>(B9 t c (jR p) g.iter).bind λit=>k p it)
noncomputable def Er(elt:PySem.Expr)(g:Comprehension)(sc':Scope):Option E:=(mJ g.target).bind λnms=>(t (inC c sc' nms) elt).bind λe =>
 rq t c (inC c sc' nms) g λp it=>gd (BF c sc' (Fw c nms) (eS p)=true) (Gh t (inC c sc' nms) e p it g.ifs)
noncomputable def Ep(elt:PySem.Expr)(g g':Comprehension)(sc':Scope):Option E:=(mJ g.target).bind λnms=>(mJ g'.target).bind λnms'=>(t (inC c sc' (nms++nms')) elt).bind λe=>gd (g.ifs.isEmpty=true) (rq t c (inC c sc' (nms++nms')) g λp it =>
 rq t (inC c sc' (nms++nms')) (inC c sc' (nms++nms')) g' λp' it'=>gd (BF c sc' (Fw c (nms++nms')) (eS p++eS p')=true) (Gg t (inC c sc' (nms++nms')) e p it p' it' g'.ifs))
noncomputable def G1(elt:PySem.Expr)(gens:List Comprehension)(sc':Scope):Option E:=match gens with
 | [g]=>Er t c elt g sc'
 | [g,g']=>Ep t c elt g g' sc'
 | _=>none
noncomputable def tsE(x:PySem.Expr):Option E:=match x with
 | .Constant v _ _=>(vU v).map .lit
 | .Name nm _=>uf c nm
 | .Attribute y nm _=>(t c y).bind λa=>(A7 nm).bind λp=>gd (e6 y=true) (some (.attr a p.1 p.2))
 | .BinOp l o r _=>(BL o).bind λop=>(t c l).bind λa=>(t c r).bind λb=>some (.bin op a b)
 | .UnaryOp o y _=>(t c y).bind λa=>match o with
  | .Not=>some (.not a)
  | .USub=>some (.neg a)
  | _=>none
 | .BoolOp op ys _=>qI t c op ys
 | .Compare l ops rs _=>p6 t c l ops rs
 | .IfExp q y z _=>(t c q).bind λd=>(t c y).bind λa=>(t c z).bind λb=>some (.ite d a b)
 | .List xs _=>(iO t c xs).bind λes=>some (.list es)
 | .Tuple xs _ _=>(iO t c xs).bind λes=>some (.tup es)
 | .Dict keys xs _=>yG t c keys xs
 | .Subscript y sl _=>En t c y sl
 | .Call f xs kws pos=>yH t c f xs kws pos
 | .ListComp elt gens sc' _=>G1 t c elt gens sc'
 | _=>none
end
noncomputable def trE(n:Nat):Trn:=Nat.rec (λ_ _=>none) (λ_ t=>tsE t) n
section
variable(t:Trn)(c:Cx)
noncomputable def El:List PySem.Expr→Option (PySem.Expr×PySem.Expr)
 | [a,b]=>some (a,b)
 | _=>none
noncomputable def rT:PySem.Expr→Option (PySem.Expr×PySem.Str)
 | .Attribute y nm _=>some (y,nm)
 | _=>none
noncomputable def HZ:PySem.Expr→Bool
 | .ListComp _ _ _ _=>true
 | _=>false
noncomputable abbrev swaps(v:PySem.Expr)(tg:Option PySem.Expr)(line:Nat):Option Bool:=pureOf (swapsWith v tg line (oZ c.sc))
noncomputable def v7(is:List Nat):Option (Option (List PySem.Str))→Bool
 | some none=>true
 | some (some names)=>decide (jv (mH c false) names=some is∧is.Nodup)
 | none=>false
noncomputable def p5(q:PySem.Expr×PySem.Str):Option (E×Nat×Nat):=(t c q.1).bind λo=>(A7 q.2).bind λp=>some (o,p)
noncomputable def yJ(e:E)(o:E×Nat×Nat)(y:PySem.Expr):Option PySem.Str→Option S
 | some x=>(mH c false x).bind λi=>some (.asgAV o.1 o.2.1 o.2.2 i e)
 | none=>(rT y).bind λq=>(p5 t c q).bind λo'=>some (.asgAA o.1 o.2.1 o.2.2 o'.1 o'.2.1 o'.2.2 e)
noncomputable def yI(e:E)(ts:List PySem.Expr)(r:Option (Option (List PySem.Str))):Option (List Nat)→Option S
 | some is=>gd (v7 c is r=true) (some (.asgT is e))
 | none=>gd (r=some none) ((El ts).bind λq=>(rT q.1).bind λa=>(p5 t c a).bind λo=>yJ t c e o q.2 (eG q.2))
noncomputable def Eo(e o:E)(sl:PySem.Expr):Option (Option PySem.Expr×Option PySem.Expr×Option PySem.Expr)→Option S
 | some (l,u,none)=>(mF t c l).bind λlo=>(mF t c u).bind λhi=>some (.setSl o lo hi e)
 | some (_,_,some _)=>none
 | none=>(t c sl).bind λi=>some (.setI o i e)
noncomputable def Eu(v:PySem.Expr)(line:Nat)(e:E):PySem.Expr→Option S
 | .Name x p=>(mH c false x).bind λi=>gd (swaps c v (some (.Name x p)) line=some false∨(swaps c v (some (.Name x p)) line=some true∧HZ v=true)) (some (.asg i e))
 | .Tuple ts k p=>gd (swaps c v (some (.Tuple ts k p)) line=some false) (yI t c e ts (pureOf (swappedStores [.Tuple ts k p] v (oZ c.sc))) (jv (λy=>(eG y).bind (mH c false)) ts))
 | .Attribute y nm p=>gd (swaps c v (some (.Attribute y nm p)) line=some false) ((p5 t c (y,nm)).bind λo=>some (.setA o.1 o.2.1 o.2.2 e))
 | .Subscript y sl p=>gd (swaps c v (some (.Subscript y sl p)) line=some false) ((t c y).bind λo=>Eo t c e o sl (iQ sl))
 | _=>none
noncomputable def Et(o:BOp)(e:E):PySem.Expr→Option S
 | .Name x _=>(mH c false x).bind λi=>gd ((x==("__classdict__" :PySem.Str))=false) (some (.aug i o e))
 | .Attribute y nm _=>(p5 t c (y,nm)).bind λa=>some (.augA a.1 a.2.1 a.2.2 o e)
 | _=>none
variable(u:Cx→List Stmt→Option (List S))
noncomputable def tsS:Stmt→Option S
 | .Assign tgs v pos=>(t c v).bind λe=>match tgs with
  | [tg]=>Eu t c v pos.line e tg
  | _=>none
 | .AugAssign tg op v _=>(BL op).bind λo=>(t c v).bind λe=>gd (td o=true) (Et t c o e tg)
 | .Expr v pos=>(t c v).bind λe=>gd (swaps c v none pos.line=some false) (some (.ex e))
 | .Return v _=>match v with
  | none=>some .ret0
  | some x=>(t c x).bind λe=>some (.ret e)
 | .If x a b _=>(t c x).bind λe=>(u c a).bind λa=>(u c b).bind λb=>some (.iff e a b)
 | .For tg ix b els _=>(zJ c false tg).bind λp=>(B9 t c (jR p) ix).bind λit=>(u c b).bind λb=>gd (iw ix=true∧els.isEmpty=true) (some (.forr p it b))
 | .While x b els _=>(t c x).bind λe=>(u c b).bind λb=>gd (els.isEmpty=true) (some (.whl e b))
 | _=>some .fail
end
noncomputable def trB(n:Nat):Cx→List Stmt→Option (List S):=Nat.rec (λ_ _=>none) (λ_ u c b=>jv (tsS (trE 40) c u) b) n
noncomputable def v8:FuncBody→Option (List Stmt)
 | .stmts b=>some b
 | _=>none
noncomputable def A0:Data→Option FuncData
 | .func fd=>some fd
 | _=>none
noncomputable def Ey:Data→Option (List Value×Nat)
 | .seq items n=>some (items.toList,n)
 | _=>none
noncomputable def zu:Value→Option Addr
 | .ref a=>some a
 | _=>none
noncomputable def Gx(K:Frag)(a:Addr):Option FnQ:=(K.lookup a).bind λo=>(A0 o.data).bind λfd=>(v8 fd.body).bind λb =>
 gd ((fd.params.posonlyargs.isEmpty=true∧fd.params.vararg.isNone=true∧fd.params.kwonlyargs.isEmpty=true∧fd.params.kwarg.isNone=true)∧fd.globals=mainGlobals∧fd.builtins=builtinsNs∧fd.closure.isEmpty=true) (some ⟨o.cls,o.dict,fd.name,fd.qualname,fd.params.args,fd.params.kw_defaults,fd.params.defaults,b,fd.scope,fd.defaults,fd.kwdefaults,fd.doc,fd.pyModule,fd.annotations,fd.code,fd.closureTuple,o.slots⟩)
noncomputable def Bo(K:Frag):Value→Option (List Value)
 | .none=>some []
 | .ref T=>(K.lookup T).bind λo=>(Ey o.data).bind λq=>some q.1
 | _=>none
noncomputable def Ig:Value→Option V
 | .none=>some .none
 | .bool b=>some (.bool b)
 | _=>none
noncomputable def E7(K:Frag)(a:Addr)(nms:List PySem.Str):Option Fn:=(Gx K a).bind λp=>(Bo K p.dV).bind λD=>(jv Ig D).bind λd =>
 gd (codeIn K p.cdv p.qual=true∧p.as.map (·.arg)=nms.take p.as.length∧D.length≤p.as.length∧nms.Nodup∧p.sc.isCoroutine=false∧p.sc.isGenerator=false∧p.sc.kind= .function∧∀x∈nms,p.sc.names.lookup x=some .local∨p.sc.names.lookup x=some .cell)
  ((trB 30 ⟨p.sc,lE nms,nms.length⟩ p.body).bind λb=>some ⟨p.as.length,d,nms.length+6,b⟩)
noncomputable def ER:Stmt→Option (PySem.Expr×PySem.Expr)
 | .Assign [t] v _=>some (t,v)
 | _=>none
noncomputable def AG:PySem.Expr→Bool
 | .Constant (.int i) _ _=>decide (i=0)
 | _=>false
noncomputable def EJ(an:List PySem.Str)(sc:Scope)(j:Nat)(v:PySem.Expr):Option PySem.Str→Bool
 | some y=>decide (an[j]? =some y∧sc.names.lookup y=some .local∧(y==("__debug__" :PySem.Str))=false)
 | none=>decide (AG v=true∧an.length≤j)
noncomputable def EK(an:List PySem.Str)(sc:Scope)(f:PySem.Str)(j:Nat)(st:Stmt):Option Unit:=(ER st).bind λq=>(rT q.1).bind λy=>(eG y.1).bind λz=>gd (z=("self" :PySem.Str)∧y.2=f∧EJ an sc j q.2 (eG q.2)=true) (some ())
noncomputable def AO(an:List PySem.Str)(sc:Scope):List PySem.Str→Nat→List Stmt→Bool
 | [],_,b=>b.isEmpty
 | f::fs,j,b=>match b with
  | []=>false
  | st::r=>(EK an sc f j st).isSome&&AO an sc fs (j+1) r
noncomputable def vJ(c:Nat):List PySem.Str:=if c=0 then cQ 0 else(cQ 1).take 2
noncomputable def H1(K:Frag)(C:Addr):Option Addr:=(findIn K (.ref C) "__init__").bind λv=>v.bind zu
noncomputable abbrev It(K:Frag)(C:Addr)(c:Nat):Prop:=hasDictIn K C=true∧plainOver K C=true∧findIn K (.ref C) "__setattr__" =some (some (.builtin "object.__setattr__"))∧
 ∀nm∈cQ c,plainGet K C nm=true∧takerIn K C nm=some none∧(findIn K (.ref C) nm).elim false (noGet K)=true
noncomputable abbrev Iq(K:Frag)(fI:Addr)(c:Nat)(p:FnQ):Prop:=typeIn K (.ref fI)=some (.type "function")∧p.dV= .none∧codeIn K p.cdv p.qual=true∧p.as.map (·.arg)=("self" :PySem.Str)::vJ c∧p.sc.isCoroutine=false∧p.sc.isGenerator=false∧p.sc.kind= .function∧(∀x∈p.sc.names,x.2≠ .cell)∧
 (∀y∈("self" :PySem.Str)::vJ c,p.sc.names.lookup y=some .local)∧AO (vJ c) p.sc (cQ c) 0 p.body=true∧(("self" :PySem.Str)::vJ c).Nodup
noncomputable def Ah(K:Frag)(c:Nat):Option Unit:=(H1 K (rS K c)).bind λfI=>(Gx K fI).bind λp=>gd (makesIn K (rS K c)=true∧keepIn K (.ref (rS K c))=true∧(g9 K (if c=0 then toS "Cell" else toS "LayoutReading")).isSome=true) (gd (It K (rS K c) c) (gd (Iq K fI c p) (some ())))
noncomputable def vr1:V→Value→Bool
 | .int i,.int j _=>decide (j=i)
 | .str n,.str s _=>decide (n<14∧s=eJ n)
 | .bytes l,.bytes b _=>decide (l.length≤lim∧KBw.bInts b=l)
 | _,_=>false
noncomputable def E2:List V→List Value→Bool
 | [],[]=>true
 | a::as,b::bs=>vr1 a b&&E2 as bs
 | _,_=>false
noncomputable def Dw(K:Frag)(p:PySem.Str×V):Bool:=match gM p.2 with
 | some vs=>((g9 K p.1).bind λa=>(yF K a).bind λl=>gd (p.1∈qB∧vs.length≤lim∧E2 vs l=true) (some ())).isSome
 | none=>((nsIn K mainGlobals p.1).bind λu=>u.bind λu=>gd (vr1 p.2 u=true) (some ())).isSome
noncomputable def uP(K:Frag)(nm:PySem.Str):Option Addr:=gd (plainGet K (rS K 1) nm=true∧nm∉cQ 1) ((findIn K (.ref (rS K 1)) nm).bind λv=>v.bind λv=>(zu v).bind λa=>gd (typeIn K (.ref a)=some (.type "function")) (some a))
noncomputable def rows:List (Bool×PySem.Str×List PySem.Str):=(tI.zip Bp).map λp=>("R_".isPrefixOf p.1,if "R_".isPrefixOf p.1 then toS (p.1.drop 2).toString else toS p.1,p.2.map toS)
noncomputable def Ez(K:Frag)(r:Bool×PySem.Str×List PySem.Str):Option Fn:=(if r.1=true then uP K r.2.1 else g9 K r.2.1).bind λa=>gd (keepIn K (.ref a)=true) (E7 K a r.2.2)
noncomputable def D0(K:Frag):Option (List Fn):=(Ah K 0).bind λ_=>(Ah K 1).bind λ_=>gd ((K.lookup sysModules).isSome=true∧(∀p∈DQ,Dw K p=true)∧∀p∈iL,nsIn K mainGlobals p.1=some none) (jv (Ez K) rows)
theorem qS:∀p∈DR,(rows[p.2]?).map (λr=>(r.1,r.2.1))=some (false,p.1):=by decide +kernel
theorem Cr:∀p∈DP,(rows[p.2]?).map (λr=>(r.1,r.2.1))=some (true,p.1):=by decide +kernel
theorem w3:∀p∈iL,bootBuiltins p.1=some p.2∧p.1≠ "__name__" :=by decide +kernel
structure Run(z:Zt):Prop where
 X:z.K.In z.h
 lim:z.h.NoLimit
 g:z.h.Ns mainGlobals z.mg
 b:z.h.Ns builtinsNs z.mb
 bi:∀x:PySem.Str,x≠ "__name__" →z.mb x=bootBuiltins x
 ok:D0 z.K=some defs
noncomputable def wJ:Nat:=100
noncomputable def Pre(l:List Int):Prop:=l.length≤63
noncomputable def Concl(z:Zt):Prop:=∀(A:Around) (s:Shared) (a b:Addr) (it:Array Value) (m:Nat) (l:List Int),s.heap=z.h→s.gens= #[]→A.handled=none→A.units+8*wJ+80<cLine→A.depth+4*wJ+4<recursionLimit→
 g9 z.K (toS "law")=some b→z.h.get? a=some {cls:= .type "list",data:= .seq it m}→IntsAre it.toList l→Pre l→
 wpAny (model z.prog z.w) A (call (.ref b) [.ref a]) (λv s'=>v= .bool true∧(∀c o,s.heap.get? c=some o→s'.heap.get? c=some o)∧s'.gens=s.gens∧s'.os=s.os) (λ_ _=>False) s
noncomputable def Bad(z:Zt):Prop:=Run z∧¬Concl z
noncomputable def Z0:Zt:= @Classical.epsilon Zt ⟨⟨default,⟨λ_ _=>0,{strHash:=λ_=>0,shareClass:=λ_=>0,mergeTok:=id,idOf:=λ_=>0,idOfShared:=λ_ _=>0,followText:=λ_=>true,idOfImm:=λ_=>0}⟩,[],default,λ_=>none,λ_=>none⟩⟩ Bad
noncomputable def zp:Program:=Z0.prog
noncomputable def zw:World:=Z0.w
noncomputable def zK:Frag:=Z0.K
noncomputable def zh:Heap:=Z0.h
noncomputable def zmg:PySem.Str→Option Value:=Z0.mg
noncomputable def zmb:PySem.Str→Option Value:=Z0.mb
noncomputable abbrev M:Model:=model zp zw
noncomputable def Ex:Value→Shared→Prop:=λ_ _=>False
inductive All2 {α β:Type} (R:α→β→Prop):List α→List β→Prop
 | nil:All2 R [] []
 | cons {a:α} {b:β} {as:List α} {bs:List β}:R a b→All2 R as bs→All2 R (a::as) (b::bs)
section
variable{α β:Type}{R R':α→β→Prop}{as as':List α}{bs bs':List β}
theorem All2.mono(h:∀a b,R a b→R' a b)(r:All2 R as bs):All2 R' as bs:=by
 induction r with
 | nil=>exact .nil
 | cons h1 _ ih=>exact .cons (h _ _ h1) ih
theorem All2.length(r:All2 R as bs):as.length=bs.length:=by
 induction r with
 | nil=>rfl
 | cons _ _ ih=>exact congrArg Nat.succ ih
theorem All2.append(r:All2 R as bs)(r':All2 R as' bs'):All2 R (as++as') (bs++bs'):=by
 induction r with
 | nil=>exact r'
 | cons h1 _ ih=>exact .cons h1 ih
theorem All2.at(r:All2 R as bs):∀{i:Nat} {x:α},as[i]? =some x→∃y,bs[i]? =some y∧R x y:=by
 induction r with
 | nil=>exact λe=>ns e
 | @cons a b _ _ h1 _ ih=>exact λ{i x}=>match i with
  | 0=>λe=>⟨b,rfl,Option.some.inj e▸h1⟩
  | i+1=>λe=>ih (i:=i) e
theorem All2.take(r:All2 R as bs):∀(n:Nat),All2 R (as.take n) (bs.take n):=by
 induction r with
 | nil=>exact λn=>by rw[List.take_nil,List.take_nil];exact .nil
 | cons h1 _ ih=>exact λn=>match n with
  | 0=> .nil
  | n+1=> .cons h1 (ih n)
theorem All2.drop(r:All2 R as bs):∀(n:Nat),All2 R (as.drop n) (bs.drop n):=by
 induction r with
 | nil=>exact λn=>by rw[List.drop_nil,List.drop_nil];exact .nil
 | cons h1 h2 ih=>exact λn=>match n with
  | 0=> .cons h1 h2
  | n+1=>ih n
theorem All2.reverse(r:All2 R as bs):All2 R as.reverse bs.reverse:=by
 induction r with
 | nil=>exact .nil
 | cons h1 _ ih=>rw[List.reverse_cons,List.reverse_cons];exact ih.append (.cons h1 .nil)
theorem All2.set{x:α}{y:β}(r:All2 R as bs)(h:R x y):∀(n:Nat),All2 R (as.set n x) (bs.set n y):=by
 induction r with
 | nil=>exact λn=> .nil
 | cons h1 h2 ih=>exact λn=>match n with
  | 0=> .cons h h2
  | n+1=> .cons h1 (ih n)
theorem All2.eraseIdx(r:All2 R as bs):∀(n:Nat),All2 R (as.eraseIdx n) (bs.eraseIdx n):=by
 induction r with
 | nil=>exact λn=> .nil
 | cons h1 h2 ih=>exact λn=>match n with
  | 0=>h2
  | n+1=> .cons h1 (ih n)
theorem All2.cE{a:α}(r:All2 R (a::as) bs){G:Prop}(g:∀b bs',bs=b::bs'→R a b→All2 R as bs'→G):G:=by
 cases r with
 | cons h1 h2=>exact g _ _ rfl h1 h2
theorem All2.nE(r:All2 R [] bs):bs=[]:=by cases r;rfl
theorem All2.e1{a:α}(r:All2 R [a] bs){G:Prop}(g:∀b,bs=[b]→R a b→G):G:=r.cE λb bs' e h r=>g b (r.nE▸e) h
theorem All2.e2{a a':α}(r:All2 R [a,a'] bs){G:Prop}(g:∀b b',bs=[b,b']→R a b→R a' b'→G):G:=r.cE λb bs' e h r=>r.e1 λb' e' h'=>g b b' (e'▸e) h h'
end
structure Wd where
 objs:List (Addr×Addr):=[]
 tups:List (Addr×List Value):=[]
structure Wd.Le(W W':Wd):Prop where
 objs:W.objs<+:W'.objs
 tups:∀p∈W.tups,p∈W'.tups
theorem Wd.Le.refl(W:Wd):W.Le W:=⟨List.prefix_rfl,λ_ h=>h⟩
theorem Wd.Le.trans{W W' W'':Wd}(h:W.Le W')(h':W'.Le W''):W.Le W'':=⟨h.objs.trans h'.objs,λp hp=>h'.tups p (h.tups p hp)⟩
theorem Wd.Le.at{W W':Wd}(h:W.Le W'){i:Nat}{p:Addr×Addr}(e:W.objs[i]? =some p):W'.objs[i]? =some p:=by
 obtain⟨t,ht⟩:=h.objs
 rw[←ht,List.getElem?_append_left (aM.mp e).1];exact e
noncomputable def on(p:Addr×Addr)(b:Addr):Prop:=b=p.1∨b=p.2
noncomputable def Wd.foot(W:Wd)(b:Addr):Prop:=∃(i:Nat) (p:Addr×Addr),W.objs[i]? =some p∧on p b
theorem Wd.Le.foot{W W':Wd}(h:W.Le W'){b:Addr}:W.foot b→W'.foot b:=λ⟨i,p,e,o⟩=>⟨i,p,h.at e,o⟩
theorem iP{m n:Nat}(hm:m<14)(hn:n<14)(h:eJ m=eJ n):m=n:=by
 have key:∀i:Fin 14,∀j:Fin 14,eJ i.1=eJ j.1→i=j:=by decide +kernel
 exact congrArg Fin.val (key ⟨m,hm⟩ ⟨n,hn⟩ h)
mutual
noncomputable def VR(W:Wd):V→Value→Prop
 | .none,v=>v= .none
 | .bool b,v=>v= .bool b
 | .int i,v=>∃t,v= .int i t
 | .str n,v=>n<14∧∃t,v= .str (eJ n) t
 | .bytes l,v=>l.length≤lim∧∃b t,v= .bytes b t∧KBw.bInts b=l
 | .tup vs,v=>vs.length≤lim∧∃a items,v= .ref a∧(a,items)∈W.tups∧VRz W vs items
 | .ref i,v=>∃p,v= .ref p.1∧W.objs[i]? =some p
 | .con l,v=>l.length≤lim∧∃a items n,v= .ref a∧zh.get? a=some {cls:= .type "list",data:= .seq items n}∧IntsAre items.toList l
noncomputable def VRz(W:Wd):List V→List Value→Prop
 | [],l=>l=[]
 | x::xs,l=>∃v vs,l=v::vs∧VR W x v∧VRz W xs vs
end
noncomputable abbrev VRs(W:Wd):List V→List Value→Prop:=All2 (VR W)
theorem vrz{W:Wd}{xs:List V}:∀{vs:List Value},VRz W xs vs→VRs W xs vs:=by
 induction xs with
 | nil=>exact λh=>(show _=[] from h)▸ .nil
 | cons x xs ih=>exact λ⟨v,vs,e,h1,h2⟩=>e▸ .cons h1 (ih h2)
theorem zvr{W:Wd}{xs:List V}{vs:List Value}(r:VRs W xs vs):VRz W xs vs:=by
 induction r with
 | nil=>exact rfl
 | cons h1 h2 ih=>exact⟨_,_,rfl,h1,ih⟩
mutual
theorem VR.mono{W W':Wd}(h:W.Le W'):∀{x:V} {v:Value},VR W x v→VR W' x v
 | .none,_,r=>r
 | .bool _,_,r=>r
 | .int _,_,r=>r
 | .str _,_,r=>r
 | .bytes _,_,r=>r
 | .tup _,_,⟨hl,a,items,e,hm,hr⟩=>⟨hl,a,items,e,h.tups _ hm,VRz.mono h hr⟩
 | .ref _,_,⟨p,e,hp⟩=>⟨p,e,h.at hp⟩
 | .con _,_,r=>r
theorem VRz.mono{W W':Wd}(h:W.Le W'):∀{xs:List V} {vs:List Value},VRz W xs vs→VRz W' xs vs
 | [],_,r=>r
 | _::_,_,⟨v,vs,e,h1,h2⟩=>⟨v,vs,e,VR.mono h h1,VRz.mono h h2⟩
end
theorem VRs.mono{W W':Wd}(h:W.Le W'){xs:List V}{vs:List Value}(r:VRs W xs vs):VRs W' xs vs:=All2.mono (λ_ _=>VR.mono h) r
section
variable{W:Wd}
theorem VR.int(i:Int)(t:Tok):VR W (.int i) (.int i t):=⟨t,rfl⟩
theorem VR.bool(b:Bool):VR W (.bool b) (.bool b):=rfl
theorem VR.none:VR W .none .none:=rfl
theorem VR.bytes{l:List Int}{b:Array UInt8}(t:Tok)(e:KBw.bInts b=l)(hl:l.length≤lim):VR W (.bytes l) (.bytes b t):=⟨hl,b,t,rfl,e⟩
theorem VR.ref{i:Nat}{p:Addr×Addr}(e:W.objs[i]? =some p):VR W (.ref i) (.ref p.1):=⟨p,rfl,e⟩
theorem VR.tup{vs:List V}{a:Addr}{items:List Value}(h:(a,items)∈W.tups)(r:VRs W vs items)(hl:vs.length≤lim):VR W (.tup vs) (.ref a):=⟨hl,a,items,rfl,h,zvr r⟩
theorem VR.tupE{vs:List V}{v:Value}(h:VR W (.tup vs) v){G:Prop}(g:∀a items,v= .ref a→(a,items)∈W.tups→VRs W vs items→vs.length≤lim→G):G:=h.2.elim λa h2=>h2.elim λitems h3=>g a items h3.1 h3.2.1 (vrz h3.2.2) h.1
end
noncomputable def zc(c:Nat):Addr:=rS zK c
noncomputable abbrev lst(items:Array Value)(n:Nat):Obj:={cls:= .type "list",data:= .seq items n}
noncomputable abbrev tpl(items:List Value):Obj:={cls:= .type "tuple",data:= .seq items.toArray}
noncomputable def keyed(nm:PySem.Str)(e:DictEntry):Prop:=∃t,e.key= .str nm t
noncomputable def sR(W:Wd)(kv:Nat×V)(x:PySem.Str×Value):Prop:=(kv.1<14∧x.1=eJ kv.1)∧VR W kv.2 x.2
noncomputable def iR(W:Wd)(kv:Int×V)(x:Int×Value):Prop:=x.1=kv.1∧VR W kv.2 x.2
noncomputable def tR(W:Wd)(kv:(Int×Int)×V)(x:List Int×Addr×Value):Prop:=(x.1=[kv.1.1,kv.1.2]∧∃t u,(x.2.1,[Value.int kv.1.1 t,Value.int kv.1.2 u])∈W.tups)∧VR W kv.2 x.2.2
theorem sR.mono{W W':Wd}(h:W.Le W')(kv:Nat×V)(x:PySem.Str×Value)(r:sR W kv x):sR W' kv x:=⟨r.1,r.2.mono h⟩
theorem iR.mono{W W':Wd}(h:W.Le W')(kv:Int×V)(x:Int×Value)(r:iR W kv x):iR W' kv x:=⟨r.1,r.2.mono h⟩
theorem tR.mono{W W':Wd}(h:W.Le W')(kv:(Int×Int)×V)(x:List Int×Addr×Value)(r:tR W kv x):tR W' kv x:=⟨⟨r.1.1,r.1.2.elim λt z=>z.elim λu z=>⟨t,u,h.tups _ z⟩⟩,r.2.mono h⟩
noncomputable def lV(W:Wd)(h:Heap)(p:Addr×Addr):O→Prop
 | .list vs=>vs.length≤lim∧p.2=p.1∧∃items n,h.get? p.1=some (lst items n)∧VRs W vs items.toList
 | .dS kvs=>kvs.length≤lim∧p.2=p.1∧∃xs,h.DictOf (strKind zp zw) p.1 xs∧All2 (sR W) kvs xs
 | .dI kvs=>kvs.length≤lim∧p.2=p.1∧∃xs,h.DictOf (intKind zp zw) p.1 xs∧All2 (iR W) kvs xs
 | .dT kvs=>kvs.length≤lim∧p.2=p.1∧∃xs,(∃o es ep,h.get? p.1=some o∧o.ExactDict∧o.data= .dict es ep∧es.toList=List.map (entryOfKey (tupleKind (intKind zp zw))) xs∧(xs.map (·.1)).Nodup)∧All2 (tR W) kvs xs
 | .inst c fs=>c<2∧p.2≠p.1∧h.get? p.1=some (instObj (zc c) p.2)∧∃es n,h.get? p.2=some (dictOf es n)∧All2 keyed (cQ c) es∧VRs W fs (es.map (·.val))
structure ClsOk(C:Addr)(c:Nat):Prop where
 dict:hasDictIn zK C=true
 plain:plainOver zK C=true
 set:findIn zK (.ref C) "__setattr__" =some (some (.builtin "object.__setattr__"))
 fld:∀nm∈cQ c,plainGet zK C nm=true∧takerIn zK C nm=some none∧∃attr,findIn zK (.ref C) nm=some attr∧noGet zK attr=true
structure Bz:Prop where
 X:zK.In zh
 lim:zh.NoLimit
 sys:∃o,zh.get? sysModules=some o
 cls:∀c,c<2→ClsOk (zc c) c
 g:zh.Ns mainGlobals zmg
 b:zh.Ns builtinsNs zmb
structure Sim(W:Wd)(σ:H)(h:Heap):Prop where
 bz:Bz
 len:W.objs.length=σ.length
 obj:∀(i:Nat) (o:O) (p:Addr×Addr),σ[i]? =some o→W.objs[i]? =some p→lV W h p o
 apart:∀(i j:Nat) (p q:Addr×Addr) (b:Addr),W.objs[i]? =some p→W.objs[j]? =some q→on p b→on q b→i=j
 tup:∀t∈W.tups,h.get? t.1=some (tpl t.2)
 base:∀b o,zh.get? b=some o→h.get? b=some o
 fresh:∀b,W.foot b→zh.get? b=none
noncomputable def Kept(X:Addr→Prop)(h h':Heap):Prop:=∀b o,h.get? b=some o→¬X b→h'.get? b=some o
noncomputable def Keeps(h h':Heap):Prop:=∀b o,h.get? b=some o→h'.get? b=some o
structure C where
 W:Wd
 s:Shared
theorem lV.mono{W W':Wd}(hW:W.Le W'){h h':Heap}{p:Addr×Addr}{o:O}(k:∀b ob,on p b→h.get? b=some ob→h'.get? b=some ob)(r:lV W h p o):lV W' h' p o:=by
 have h1:=λob=>k p.1 ob (.inl rfl)
 cases o with
 | list vs=>obtain⟨hl,hp,items,n,ho,hr⟩:=r;exact⟨hl,hp,items,n,h1 _ ho,hr.mono hW⟩
 | dS kvs=>obtain⟨hl,hp,xs,⟨o,es,ep,ho,rest⟩,ha⟩:=r;exact⟨hl,hp,xs,⟨o,es,ep,h1 _ ho,rest⟩,ha.mono (sR.mono hW)⟩
 | dI kvs=>obtain⟨hl,hp,xs,⟨o,es,ep,ho,rest⟩,ha⟩:=r;exact⟨hl,hp,xs,⟨o,es,ep,h1 _ ho,rest⟩,ha.mono (iR.mono hW)⟩
 | dT kvs=>obtain⟨hl,hp,xs,⟨o,es,ep,ho,rest⟩,ha⟩:=r;exact⟨hl,hp,xs,⟨o,es,ep,h1 _ ho,rest⟩,ha.mono (tR.mono hW)⟩
 | inst c fs=>obtain⟨hc,hp,ho,es,n,hd,ha,hr⟩:=r;exact⟨hc,hp,h1 _ ho,es,n,k _ _ (.inr rfl) hd,ha,hr.mono hW⟩
noncomputable def alv(h:Heap)(b:Addr):Prop:=∃ob,h.get? b=some ob∧ob.cls≠ .type "tuple"
theorem jq{s:String}(h:(s== "tuple")=false):Value.type s≠ .type "tuple" :=λe=>beq_eq_false_iff_ne.mp h (Value.type.inj e)
theorem lV.alive{W:Wd}{h:Heap}{p:Addr×Addr}{o:O}(r:lV W h p o){b:Addr}(hb:on p b):alv h b:=by
 have at1:p.2=p.1→∀{ob:Obj},h.get? p.1=some ob→ob.cls≠ .type "tuple" →alv h b:=λhp ob ho hn=>⟨ob,hb.elim (λe=>e▸ho) λe=>(e.trans hp)▸ho,hn⟩
 have dn:∀{o:Obj},o.ExactDict→o.cls≠ .type "tuple" :=λhx=>hx.1▸jq rfl
 cases o with
 | list vs=>obtain⟨_,hp,items,n,ho,_⟩:=r;exact at1 hp ho (jq rfl)
 | dS kvs=>obtain⟨_,hp,xs,⟨o,es,ep,ho,hx,_⟩,_⟩:=r;exact at1 hp ho (dn hx)
 | dI kvs=>obtain⟨_,hp,xs,⟨o,es,ep,ho,hx,_⟩,_⟩:=r;exact at1 hp ho (dn hx)
 | dT kvs=>obtain⟨_,hp,xs,⟨o,es,ep,ho,hx,_⟩,_⟩:=r;exact at1 hp ho (dn hx)
 | inst c fs =>
  obtain⟨_,hp,ho,es,n,hd,_⟩:=r
  rcases hb with e|e
  ·rw[e];exact⟨_,ho,λz=>Value.noConfusion z⟩
  ·rw[e];exact⟨_,hd,jq rfl⟩
theorem dG{h:Heap}{b:Addr}{o:Obj}{P:Prop}(h1:h.get? b=none)(h2:h.get? b=some o):P:=ns (h1.symm.trans h2)
theorem mh{h:Heap}{b:Addr}(k:∀o,h.get? b=some o→False):h.get? b=none:=by
 cases q:h.get? b with
 | none=>rfl
 | some o=>exact(k o q).elim
theorem get?_above{h:Heap}{b:Addr}(hb:h.objs.size≤b):h.get? b=none:=mh λo q=>absurd (be (Heap.lt_size q) hb) (Nat.lt_irrefl _)
namespace Sim
variable{W:Wd}{σ:H}{h h':Heap}
theorem of(S:Sim W σ h){i:Nat}{p:Addr×Addr}(e:W.objs[i]? =some p):∃o,σ[i]? =some o∧lV W h p o:=by
 have hi:i<σ.length:=S.len▸(aM.mp e).1
 exact⟨σ[i],aW hi,S.obj i _ p (aW hi) e⟩
theorem alive(S:Sim W σ h){b:Addr}(f:W.foot b):alv h b:=by
 obtain⟨i,p,hi,hb⟩:=f
 obtain⟨o,_,r⟩:=S.of hi
 exact r.alive hb
theorem off(S:Sim W σ h){b:Addr}(e:h.get? b=none):¬W.foot b:=λf=>(S.alive f).elim λo z=>dG e z.1
theorem tupNe(S:Sim W σ h){b:Addr}(e:alv h b):∀t∈W.tups,t.1≠b:=λt ht z=>e.elim λo q=>by
 have:=S.tup t ht
 rw[z,q.1] at this
 exact q.2 (Option.some.inj this▸rfl)
theorem base_none(S:Sim W σ h){b:Addr}(e:h.get? b=none):zh.get? b=none:=mh λo q=>dG e (S.base b o q)
theorem keepX(S:Sim W σ h){X:Addr→Prop}(k:Kept X h h')(hX:∀b,X b→¬W.foot b∧(∀t∈W.tups,t.1≠b)∧zh.get? b=none):Sim W σ h' :=
 ⟨S.bz,S.len,λi o p e e'=>(S.obj i o p e e').mono (.refl _) λb ob hb q=>k _ _ q λx=>(hX _ x).1 ⟨i,p,e',hb⟩,S.apart,λt ht=>k _ _ (S.tup t ht) λx=>(hX _ x).2.1 t ht rfl,
  λb o e=>k _ _ (S.base b o e) λx=>dG (hX _ x).2.2 e,S.fresh⟩
theorem keep(S:Sim W σ h)(k:Keeps h h'):Sim W σ h':=S.keepX (X:=λ_=>False) (λb o e _=>k b o e) λ_ z=>z.elim
end Sim
structure Good(X:Addr→Prop)(c:C)(σ':H)(c':C):Prop where
 le:c.W.Le c'.W
 sim:Sim c'.W σ' c'.s.heap
 kept:Kept (λb=>c.W.foot b∨X b) c.s.heap c'.s.heap
 live:∀b o,c.s.heap.get? b=some o→∃o',c'.s.heap.get? b=some o'
 new:∀b,c'.W.foot b→c.W.foot b∨c.s.heap.get? b=none
 newT:∀t∈c'.W.tups,t∈c.W.tups∨c.s.heap.get? t.1=none
 gens:c'.s.gens=c.s.gens
 os:c'.s.os=c.s.os
noncomputable def noX:Addr→Prop:=λ_=>False
noncomputable abbrev Gd0:C→H→C→Prop:=Good noX
namespace Good
variable{X Y:Addr→Prop}{c c₁ c':C}{σ σ₁ σ':H}{s':Shared}
theorem back(g:Good X c σ' c'){b:Addr}(e:c'.s.heap.get? b=none):c.s.heap.get? b=none:=mh λo q=>(g.live b o q).elim λo' q'=>dG e q'
theorem off(g:Good X c σ' c'){b:Addr}{o:Obj}(e:c.s.heap.get? b=some o)(n:¬c.W.foot b):¬c'.W.foot b:=λf=>(g.new b f).elim n λz=>dG z e
theorem offT(g:Good X c σ' c'){b:Addr}{o:Obj}(e:c.s.heap.get? b=some o)(n:∀t∈c.W.tups,t.1≠b):∀t∈c'.W.tups,t.1≠b:=λt ht z=>(g.newT t ht).elim (λh=>n t h z) λh=>dG (z▸h) e
theorem transF(g:Good X c σ₁ c₁)(g':Good Y c₁ σ' c')(h:∀b,Y b→c.s.heap.get? b=none∨X b):Good X c σ' c' where
 le:=g.le.trans g'.le
 sim:=g'.sim
 kept b o e n:=g'.kept b o (g.kept b o e n) λz=>z.elim (g.off e λq=>n (.inl q)) λz=>(h b z).elim (λq=>dG q e) λq=>n (.inr q)
 live b o e:=(g.live b o e).elim (g'.live b)
 new b f:=(g'.new b f).elim (g.new b) λz=> .inr (g.back z)
 newT t ht:=(g'.newT t ht).elim (g.newT t) λz=> .inr (g.back z)
 gens:=g'.gens.trans g.gens
 os:=g'.os.trans g.os
theorem trans(g:Good X c σ₁ c₁)(g':Good X c₁ σ' c'):Good X c σ' c':=g.transF g' λ_ z=> .inr z
theorem then0(g:Good X c σ₁ c₁)(g':Gd0 c₁ σ' c'):Good X c σ' c':=g.transF g' λ_ z=>z.elim
theorem wider(g:Good X c σ' c')(h:∀b o,c.s.heap.get? b=some o→X b→Y b):Good Y c σ' c':=⟨g.le,g.sim,λb o e n=>g.kept b o e λz=>n (z.imp_right (h b o e)),g.live,g.new,g.newT,g.gens,g.os⟩
theorem any(g:Gd0 c σ' c'):Good X c σ' c':=g.wider λ_ _ _ z=>z.elim
theorem keepX(S:Sim c.W σ c.s.heap)(k:Kept X c.s.heap s'.heap)(hX:∀b,X b→¬c.W.foot b∧(∀t∈c.W.tups,t.1≠b)∧zh.get? b=none)(hl:∀b,X b→∃o,s'.heap.get? b=some o)(hg:s'.gens=c.s.gens)(ho:s'.os=c.s.os):Good X c σ ⟨c.W,s'⟩ :=
 ⟨.refl _,S.keepX k hX,λb o e n=>k b o e λz=>n (.inr z),λb o e=>Classical.byCases (hl b) λz=>⟨o,k b o e z⟩,λ_ h=> .inl h,λ_ h=> .inl h,hg,ho⟩
theorem keep(S:Sim c.W σ c.s.heap)(k:Keeps c.s.heap s'.heap)(hg:s'.gens=c.s.gens)(ho:s'.os=c.s.os):Gd0 c σ ⟨c.W,s'⟩:=keepX S (λb o e _=>k b o e) (λ_ z=>z.elim) (λ_ z=>z.elim) hg ho
theorem heap(S:Sim c.W σ c.s.heap){h':Heap}(k:Keeps c.s.heap h')(t:Nat):Gd0 c σ ⟨c.W,{c.s with heap:=h',toks:=t}⟩:=keep S k rfl rfl
theorem refl(S:Sim c.W σ c.s.heap):Gd0 c σ c:=keep S (λ_ _ e=>e) rfl rfl
theorem toks(g:Good X c σ' c')(t:Nat):Good X c σ' ⟨c'.W,{c'.s with toks:=t}⟩:=⟨g.le,g.sim,g.kept,g.live,g.new,g.newT,g.gens,g.os⟩
end Good
theorem eE(h:Heap)(o:Obj):Keeps h (h.push o):=λ_ _ e=>aT _ e
theorem cL(h:Heap):h.get? h.objs.size=none:=get?_above (aD _)
theorem Good.push{c:C}{σ:H}(S:Sim c.W σ c.s.heap)(o:Obj):Gd0 c σ ⟨c.W,{c.s with heap:=c.s.heap.push o}⟩:=Good.keep S (eE _ _) rfl rfl
noncomputable def Wd.addT(W:Wd)(a:Addr)(items:List Value):Wd:=⟨W.objs,(a,items)::W.tups⟩
noncomputable def Wd.addO(W:Wd)(p:Addr×Addr):Wd:=⟨W.objs++[p],W.tups⟩
theorem Wd.le_addT(W:Wd)(a:Addr)(items:List Value):W.Le (W.addT a items):=⟨List.prefix_rfl,λ_ h=>List.mem_cons_of_mem _ h⟩
theorem Wd.le_addO(W:Wd)(p:Addr×Addr):W.Le (W.addO p):=⟨List.prefix_append _ _,λ_ h=>h⟩
theorem mQ{α:Type}{l:List α}{a x:α}{i:Nat}(h:(l++[a])[i]? =some x){G:Prop}(g0:l[i]? =some x→G)(g1:i=l.length→x=a→G):G:=by
 by_cases hi:i<l.length
 ·exact g0 (by rwa [List.getElem?_append_left hi] at h)
 ·have:=(aM.mp h).1
  rw[aa] at this
  have e:i=l.length:=Nat.le_antisymm (Nat.le_of_lt_succ this) (Nat.not_lt.mp hi)
  rw[e,aX (aD _),Nat.sub_self] at h
  exact g1 e (Option.some.inj h).symm
theorem wd{α:Type}(l:List α)(a:α):(l++[a])[l.length]? =some a:=by rw[aX (aD _),Nat.sub_self];rfl
section
variable{X:Addr→Prop}{c c₁:C}{σ σ₁:H}{s':Shared}
theorem Good.addT(g:Good X c σ₁ c₁){a:Addr}{items:List Value}(ha:c.s.heap.get? a=none)(hget:c₁.s.heap.get? a=some (tpl items)):Good X c σ₁ ⟨c₁.W.addT a items,c₁.s⟩:=by
 have S:=g.sim
 have tl:∀{t},t∈(a,items)::c₁.W.tups→t=(a,items)∨t∈c₁.W.tups:=λh=>aE.mp h
 exact⟨g.le.trans (c₁.W.le_addT a items),⟨S.bz,S.len,λi o p e e'=>(S.obj i o p e e').mono (c₁.W.le_addT a items) λ_ _ _ q=>q,S.apart,λt ht=>(tl ht).elim (λe=>e▸hget) (S.tup t),S.base,λb f=>S.fresh b f⟩,g.kept,g.live,g.new,λt ht=>(tl ht).elim (λe=> .inr (e▸ha)) (g.newT t),g.gens,g.os⟩
theorem Good.addO(S:Sim c.W σ c.s.heap)(g:Good X c σ₁ c₁){p:Addr×Addr}{o:O}(h0:∀b,on p b→c.s.heap.get? b=none)(a1:∀b,on p b→alv c₁.s.heap b)(off:∀b,on p b→¬c₁.W.foot b)
  (k:Kept (on p) c₁.s.heap s'.heap) (r:lV c₁.W s'.heap p o) (hg:s'.gens=c₁.s.gens) (ho:s'.os=c₁.s.os):Good X c (σ₁++[o]) ⟨c₁.W.addO p,s'⟩:=by
 have fr:=λb hb=>S.base_none (h0 b hb)
 have S₁:=g.sim.keepX k λb hb=>⟨off b hb,g.sim.tupNe (a1 b hb),fr b hb⟩
 have le:=c₁.W.le_addO p
 have ft:∀{b},(c₁.W.addO p).foot b→c₁.W.foot b∨on p b:=λ⟨i,q,e,hb⟩=>mQ e (λe=> .inl ⟨i,q,e,hb⟩) λ_ e=> .inr (e▸hb)
 have nk:∀b o,c.s.heap.get? b=some o→¬on p b:=λb o e hb=>dG (h0 b hb) e
 refine⟨g.le.trans le,⟨S₁.bz,by rw[aa];exact(aa ..).trans (congrArg (·+1) S₁.len),λi o' q e e'=>mQ e (λe=> ?_) λi1 o1=> ?_,λi j q q' b hi hj hb hb'=>mQ hi (λhi=> ?_) λi1 q1=> ?_,S₁.tup,S₁.base,λb f=>(ft f).elim (S₁.fresh b) (fr b)⟩,
  λb ob e n=>k b ob (g.kept b ob e n) (nk b ob e),λb ob e=>(g.live b ob e).elim λo' e'=>⟨o',k b o' e' (nk b ob e)⟩,λb f=>(ft f).elim (g.new b) λhb=> .inr (h0 b hb),g.newT,hg.trans g.gens,ho.trans g.os⟩
 ·refine mQ e' (λe'=>(S₁.obj i o' q e e').mono le λ_ _ _ z=>z) λi1 _=> ?_
  have:=(aM.mp e).1
  rw[i1,S₁.len] at this
  exact absurd this (Nat.lt_irrefl _)
 ·rw[i1,←S₁.len] at e'
  rw[o1,←Option.some.inj ((wd _ _).symm.trans e')]
  exact r.mono le λ_ _ _ z=>z
 ·exact mQ hj (λhj=>S₁.apart i j q q' b hi hj hb hb') λ_ q1'=>absurd ⟨i,q,hi,hb⟩ (off b (q1'▸hb'))
 ·exact mQ hj (λhj=>absurd ⟨j,q',hj,hb'⟩ (off b (q1▸hb))) λj1 _=>i1.trans j1.symm
theorem Good.newObj(S:Sim c.W σ c.s.heap)(k:Keeps c.s.heap s'.heap){p:Addr×Addr}{o:O}(h0:∀b,on p b→c.s.heap.get? b=none)(r:lV c.W s'.heap p o)(hg:s'.gens=c.s.gens)(ho:s'.os=c.s.os):Gd0 c (σ++[o]) ⟨c.W.addO p,s'⟩ :=
 Good.addO S (c₁:=⟨c.W,s'⟩) (Good.keep S k hg ho) h0 (λb hb=>r.alive hb) (λb hb=>S.off (h0 b hb)) (λ_ _ e _=>e) r rfl rfl
theorem VR.new(S:Sim c.W σ c.s.heap)(p:Addr×Addr):VR (c.W.addO p) (.ref σ.length) (.ref p.1):=VR.ref (S.len▸wd _ _)
theorem Good.upd(S:Sim c.W σ c.s.heap){i:Nat}{p:Addr×Addr}{o:O}(hi:c.W.objs[i]? =some p)(k:Kept (on p) c.s.heap s'.heap)(r:lV c.W s'.heap p o)(hg:s'.gens=c.s.gens)(ho:s'.os=c.s.os):Gd0 c (σ.set i o) ⟨c.W,s'⟩:=by
 have hlt:i<σ.length:=S.len▸(aM.mp hi).1
 have fo:∀{b},on p b→c.W.foot b:=λhb=>⟨i,p,hi,hb⟩
 refine⟨.refl _,⟨S.bz,by rw[List.length_set];exact S.len,λj o' q e e'=> ?_,S.apart,λt ht=>k _ _ (S.tup t ht) λhb=>S.tupNe (S.alive (fo hb)) t ht rfl,λb o' e=>k _ _ (S.base b o' e) λhb=>dG (S.fresh b (fo hb)) e,S.fresh⟩,
  λb o' e n=>k b o' e λz=>n (.inl (fo z)),λb o' e=>Classical.byCases (λhb:on p b=>(r.alive hb).elim λob z=>⟨ob,z.1⟩) λz=>⟨o',k b o' e z⟩,λ_ h=> .inl h,λ_ h=> .inl h,hg,ho⟩
 by_cases hj:i=j
 ·subst hj
  rw[List.getElem?_set_self hlt] at e
  rw[←Option.some.inj e,←Option.some.inj (hi.symm.trans e')]
  exact r
 ·rw[List.getElem?_set_ne hj] at e
  exact(S.obj j o' q e e').mono (.refl _) λb ob hb z=>k _ _ z λhb'=>hj (S.apart i j p q b hi e' hb' hb)
end
structure CtxOk(ctx:Ctx):Prop where
 slot:∀e e',e∈ctx→e'∈ctx→e.1=e'.1→e=e'
 name:∀e e',e∈ctx→e'∈ctx→e.2.2=true→e'.2.2=true→e.2.1=e'.2.1→e=e'
noncomputable def dO(env:Env)(b:Addr):Prop:=b=env.locals∨∃x,env.cells.lookup x=some b
noncomputable def Fr.kin(P:Fr)(x:PySem.Str)(k:NameKind):Prop:=P.sc.names.lookup x=some k
noncomputable def Gq(env:Env)(W:Wd)(h:Heap)(x:PySem.Str)(v:V):Prop:=∃c v',env.cells.lookup x=some c∧h.IsCell c (some v')∧VR W v v'
noncomputable def celled(env:Env)(x:PySem.Str):Prop:=env.kindOf x=some .cell∨env.kindOf x=some .free
structure EnvR(P:Fr)(W:Wd)(le:Le)(h:Heap):Prop where
 ctx:CtxOk P.ctx
 fn:P.env.scope.kind= .function
 gl:P.env.globals=mainGlobals
 bi:P.env.builtins=builtinsNs
 kinds:∀x k,P.kin x k→P.env.kindOf x=some k∨(k= .free∧P.env.kindOf x=some .cell)
 ns:∃m,h.Ns P.env.locals m∧∀i x v,(i,x,true)∈P.ctx→le[i]? =some (some v)→P.env.kindOf x=some .local→∃v',m x=some v'∧VR W v v'
 cl:∀i x b v,(i,x,b)∈P.ctx→le[i]? =some (some v)→celled P.env x→Gq P.env W h x v
 cells:∀x c,P.env.cells.lookup x=some c→∃v,h.IsCell c v
 has:∀x,P.env.kindOf x=some .cell→∃c,P.env.cells.lookup x=some c
 apart:∀x y c,P.env.cells.lookup x=some c→P.env.cells.lookup y=some c→x=y
 off:∀b,dO P.env b→¬W.foot b∧zh.get? b=none
noncomputable def W0(K:Frag):Wd:=⟨[],qB.filterMap λx=>(g9 K x).bind λa=>(yF K a).map λl=>(a,l)⟩
structure Room(n:Nat)(A:Around):Prop where
 hand:A.handled=none
 units:A.units+8*n+80<cLine
 depth:A.depth+4*n+4<recursionLimit
structure At(P:Fr)(n:Nat)(A:Around)(σ:H)(le:Le)(c:C):Prop where
 sim:Sim c.W σ c.s.heap
 env:EnvR P c.W le c.s.heap
 cst:(W0 zK).Le c.W
 gens:c.s.gens= #[]
 room:Room n A
section
variable{P:Fr}{n:Nat}{A:Around}{σ σ':H}{le:Le}{c c':C}{W W':Wd}{h h':Heap}{X:Addr→Prop}{E:Value→Shared→Prop}
theorem EnvR.alive(R:EnvR P W le h){b:Addr}(hb:dO P.env b):∃o,h.get? b=some o∧∀xs n,o.data≠ .seq xs n:=by
 rcases hb with rfl|⟨x,hx⟩
 ·obtain⟨m,⟨o,es,ep,ho,hd,_⟩,_⟩:=R.ns
  exact⟨o,ho,λxs n e=>Data.noConfusion (hd.symm.trans e)⟩
 ·obtain⟨v,o,ho,hd⟩:=R.cells x b hx
  exact⟨o,ho,λxs n e=>Data.noConfusion (hd.symm.trans e)⟩
theorem EnvR.kept(R:EnvR P W le h)(ke:∀b o,dO P.env b→h.get? b=some o→h'.get? b=some o)(hle:W.Le W')(hoff:∀b,dO P.env b→¬W'.foot b):EnvR P W' le h' where
 ctx:=R.ctx
 fn:=R.fn
 gl:=R.gl
 bi:=R.bi
 kinds:=R.kinds
 ns:=R.ns.elim λm z=>⟨m,z.1.elim λo z=>z.elim λes z=>z.elim λep z=>⟨o,es,ep,ke _ _ (.inl rfl) z.1,z.2⟩,λi x v hm e hk=>(z.2 i x v hm e hk).elim λv' z=>⟨v',z.1,z.2.mono hle⟩⟩
 cl i x b v hm e hk:=(R.cl i x b v hm e hk).elim λc z=>z.elim λv' z=>⟨c,v',z.1,z.2.1.elim λo q=>⟨o,ke _ _ (.inr ⟨x,z.1⟩) q.1,q.2⟩,z.2.2.mono hle⟩
 cells x c hx:=(R.cells x c hx).elim λv z=>z.elim λo q=>⟨v,o,ke _ _ (.inr ⟨x,hx⟩) q.1,q.2⟩
 has:=R.has
 apart:=R.apart
 off b hb:=⟨hoff b hb,(R.off b hb).2⟩
theorem At.kin(a:At P n A σ le c):zK.In c.s.heap:=λb o q=>a.sim.base _ _ (a.sim.bz.X b o q)
theorem At.nextX(a:At P n A σ le c)(g:Good X c σ' c')(hX:∀b,dO P.env b→¬X b):At P n A σ' le c' :=
 ⟨g.sim,a.env.kept (λb o hb e=>g.kept b o e λz=>z.elim (a.env.off b hb).1 (hX b hb)) g.le λb hb=>(a.env.alive hb).elim λo q=>g.off q.1 (a.env.off b hb).1,a.cst.trans g.le,g.gens.trans a.gens,a.room⟩
theorem At.next(a:At P n A σ le c)(g:Gd0 c σ' c'):At P n A σ' le c':=a.nextX g λ_ _=>id
theorem At.rf(a:At P n A σ le c):Gd0 c σ c:=Good.refl a.sim
theorem At.tk(a:At P n A σ le c)(t:Nat):Gd0 c σ ⟨c.W,{c.s with toks:=t}⟩:=a.rf.toks t
theorem At.hand(a:At P n A σ le c):A.handled=none:=a.room.hand
theorem At.u64(a:At P n A σ le c):A.units+64<cLine:=ax (bq (az _ _) (by decide)) a.room.units
theorem wpX{α:Type}{m:Sem α}{Q:α→Shared→Prop}{s:Shared}(h:wpAny M A m Q Ex s):wpAny M A m Q E s:=wpAny_mono h (λ_ _ z=>z) λ_ _ z=>z.elim
noncomputable def vL(P:Fr)(i:Nat)(x:PySem.Str):Prop:=∃b,(i,x,b)∈P.ctx∧((b=true∧P.kin x .local)∨P.kin x .cell∨P.kin x .free)
theorem qj(a:At P n A σ le c){i:Nat}{x:PySem.Str}{v:V}{Q:Value→Shared→Prop}(hm:vL P i x)(hc:(x==("__classdict__" :PySem.Str))=false)(e:slot le i=some v)(h:∀v',VR c.W v v'→Q v' c.s):wpAny M A (loadName P.env x) Q Ex c.s:=by
 have R:=a.env
 have e:le[i]? =some (some v):=bE e λo e h=>e.trans (congrArg some h)
 obtain⟨b,hm,hk⟩:=hm
 have viaC:celled P.env x→wpAny M A (loadName P.env x) Q Ex c.s:=λhk'=>by
  obtain⟨d,v',hc',hcell,r⟩:=R.cl i x b v hm e hk'
  exact hk'.elim (λhk'=>wpAny_loadName_cell R.fn hk' hc' hcell (h v' r)) λhk'=>wpAny_loadName_free R.fn hk' hc' hcell (h v' r) hc
 rcases hk with⟨rfl,hk⟩|hk|hk
 ·refine(R.kinds x _ hk).elim (λhk=> ?_) λz=>NameKind.noConfusion z.1
  obtain⟨m,hn,hv⟩:=R.ns
  obtain⟨v',e',r⟩:=hv i x v hm e hk
  exact wpAny_loadName_local R.fn hk hn e' (h v' r)
 ·exact(R.kinds x _ hk).elim (λhk=>viaC (.inl hk)) λz=>viaC (.inl z.2)
 ·exact(R.kinds x _ hk).elim (λhk=>viaC (.inr hk)) λz=>viaC (.inl z.2)
structure CanStore(P:Fr)(i:Nat)(x:PySem.Str):Prop where
 mem:(i,x,true)∈P.ctx
 kind:P.kin x .local∨(P.kin x .cell∧∀e∈P.ctx,e.2.2=true)
noncomputable def uF(P:Fr):Bool→Addr→Prop
 | true=>λb=>b=P.env.locals
 | false=>dO P.env
theorem jM{le:Le}{i j:Nat}{v u:V}(e:(le.set i (some v))[j]? =some (some u)){G:Prop}(g0:j=i→u=v→G)(g1:j≠i→le[j]? =some (some u)→G):G:=by
 by_cases hj:i=j
 ·refine g0 hj.symm ?_
  rw[hj,List.getElem?_set_self (by have:=(aM.mp e).1;rwa [List.length_set] at this)] at e
  exact(Option.some.inj (Option.some.inj e)).symm
 ·rw[List.getElem?_set_ne hj] at e;exact g1 (Ne.symm hj) e
theorem e7(a:At P n A σ le c){L:Bool}{i:Nat}{x:PySem.Str}{v:V}{v':Value}{Q:Unit→Shared→Prop}(hs:CanStore P i x)(hL:L=true→P.kin x .local)(r:VR c.W v v')
  (q:∀s',Good (uF P L) c σ ⟨c.W,s'⟩→At P n A σ (le.set i (some v)) ⟨c.W,s'⟩→Q () s'):wpAny M A (storeName P.env x v') Q Ex c.s:=by
 have R:=a.env
 have CO:=R.ctx
 obtain⟨m,hn,hv⟩:=R.ns
 have good:∀{b:Addr} {h':Heap} {tk:Nat},dO P.env b→uF P L b→(∃o',h'.get? b=some o')→Heap.SameBut b c.s.heap h'→Good (uF P L) c σ ⟨c.W,{c.s with heap:=h',toks:=tk}⟩:=λ{b h' tk} hb hx hal hs =>
  (Good.keepX (X:=λz=>z=b) (s':={c.s with heap:=h',toks:=tk}) a.sim (λd o e n=>(hs.2 d n).trans e) (λd e=>e▸⟨(R.off b hb).1,λt ht z=>by
   obtain⟨o',ho',hd⟩:=R.alive hb
   have:=a.sim.tup t ht
   rw[z,ho'] at this
   exact hd _ _ (congrArg Obj.data (Option.some.inj this)),(R.off b hb).2⟩) (λd e=>e▸hal) rfl rfl).wider λz _ _ hz=>hz▸hx
 have cellNe:∀{y d},P.env.cells.lookup y=some d→d≠P.env.locals:=λ{y d} hd z=>by
  obtain⟨u,o,ho,hc⟩:=R.cells y d hd
  obtain⟨o',es,ep,ho',hd',_⟩:=hn
  rw[z,ho'] at ho
  exact Data.noConfusion (hd'.symm.trans (Option.some.inj ho▸hc))
 have hp:(P.env.scope.kind== .class||(P.env.scope.kind== .module&&P.env.locals !=P.env.globals))=false:=by rw[R.fn];rfl
 rcases hs.kind with hk|⟨hk,hall⟩
 ·have hl:=(R.kinds x _ hk).resolve_right λz=>NameKind.noConfusion z.1
  refine wpAny_storeName_local hl hn (λh' hn' hs'=> ?_) hp
  have hcell:∀{y d u},P.env.cells.lookup y=some d→c.s.heap.IsCell d u→h'.IsCell d u:=λ{y d u} hd z=>z.sameBut hs' (cellNe hd)
  have g:=good (tk:=c.s.toks+1) (.inl rfl) (show uF P L _ by cases L;exact .inl rfl;exact rfl) (let⟨o',_,_,ho',_⟩:=hn';⟨o',ho'⟩) hs'
  refine q _ g ⟨g.sim,⟨CO,R.fn,R.gl,R.bi,R.kinds,⟨_,hn',λj y u hmj e hky=>jM e (λe1 e2=> ?_) λhj e=> ?_⟩,λj y b u hmj e hky=>jM e (λe1 e2=> ?_) λhj e=> ?_,λy d hd=>(R.cells y d hd).elim λu hu=>⟨u,hcell hd hu⟩,R.has,R.apart,R.off⟩,a.cst,a.gens,a.room⟩
  ·have hyx:y=x:=congrArg (·.2.1) (CO.slot _ _ hmj hs.mem e1)
   exact⟨v',if_pos hyx,e2▸r⟩
  ·obtain⟨u',e',r'⟩:=hv j y u hmj e hky
   exact⟨u',(if_neg λhyx=>hj (congrArg (·.1) (CO.name _ _ hmj hs.mem rfl rfl hyx))).trans e',r'⟩
  ·have hyx:y=x:=congrArg (·.2.1) (CO.slot _ _ hmj hs.mem e1)
   rw[hyx] at hky
   exact hky.elim (λz=>NameKind.noConfusion (Option.some.inj (hl.symm.trans z))) λz=>NameKind.noConfusion (Option.some.inj (hl.symm.trans z))
  ·exact(R.cl j y b u hmj e hky).elim λd z=>z.elim λu' z=>⟨d,u',z.1,hcell z.1 z.2.1,z.2.2⟩
 ·have hl:P.env.kindOf x=some .cell:=(R.kinds x _ hk).elim id λz=>z.2
  obtain⟨d,hd⟩:=R.has x hl
  obtain⟨u₀,hu₀⟩:=R.cells x d hd
  refine wpAny_storeName_cell R.fn hl hd hu₀ (λh' hc' hs'=> ?_)
  have hcell:∀{y e u},y≠x→P.env.cells.lookup y=some e→c.s.heap.IsCell e u→h'.IsCell e u:=λ{y e u} hne he z=>z.sameBut hs' λq=>hne (R.apart y x d (q▸he) hd)
  obtain⟨o',es,ep,ho',hn'⟩:=hn
  have g:=good (tk:=c.s.toks) (.inr ⟨x,hd⟩) (by cases L;exact .inr ⟨x,hd⟩;exact NameKind.noConfusion (Option.some.inj ((hL rfl).symm.trans hk))) (let⟨o',ho',_⟩:=hc';⟨o',ho'⟩) hs'
  refine q _ g ⟨g.sim,⟨CO,R.fn,R.gl,R.bi,R.kinds,⟨m,⟨o',es,ep,(hs'.2 _ (cellNe hd).symm).trans ho',hn'⟩,λj y u hmj e hky=>jM e (λe1 e2=> ?_) λhj e=>hv j y u hmj e hky⟩,λj y b u hmj e hky=>jM e (λe1 e2=> ?_) λhj e=> ?_,λy f hf=> ?_,R.has,R.apart,R.off⟩,a.cst,a.gens,a.room⟩
  ·have hyx:y=x:=congrArg (·.2.1) (CO.slot _ _ hmj hs.mem e1)
   rw[hyx,hl] at hky
   exact NameKind.noConfusion (Option.some.inj hky)
  ·have hyx:y=x:=congrArg (·.2.1) (CO.slot _ _ hmj hs.mem e1)
   exact⟨d,v',hyx▸hd,hc',e2▸r⟩
  ·have hyx:y≠x:=λz=>hj (congrArg (·.1) (CO.name _ _ hmj hs.mem (hall _ hmj) rfl z))
   exact(R.cl j y b u hmj e hky).elim λf z=>z.elim λu' z=>⟨f,u',z.1,hcell hyx z.1 z.2.1,z.2.2⟩
  ·by_cases hyx:y=x
   ·rw[hyx,hd] at hf;exact⟨_,Option.some.inj hf▸hc'⟩
   ·exact(R.cells y f hf).elim λu hu=>⟨u,hcell hyx hf hu⟩
end
noncomputable def Kq{β:Type}(c:C)(k:V→H→Option β)(r:β)(Q:Value→Shared→Prop):Prop:=∀v σ' v' c',k v σ'=some r→Gd0 c σ' c'→VR c'.W v v'→Q v' c'.s
noncomputable def Jd(c:C)(a:Addr)(it:Array Value):Prop:=∃n,c.s.heap.get? a=some (lst it n)
theorem cu{n:Nat}(h:n≤lim):n≤sizeLine:=ae h (by decide)
theorem xP{n:Nat}(h:n≤lim):n<2^63:=ax h (by decide)
theorem Ec(a b:Array Value):(a.toList++b.toList).toArray=a++b:=Array.ext' (by rw[Array.toList_append])
theorem onp{p:Addr}{b:Addr}(h:on (p,p) b):b=p:=h.elim id id
section
variable{β:Type}{A:Around}{σ σ':H}{c c₁:C}{k:V→H→Option β}{r:β}{Q:Value→Shared→Prop}{x y v:V}{a b v':Value}{i:Nat}{xs:List V}
theorem Kq.up(q:Kq c k r Q)(g:Gd0 c σ c₁):Kq c₁ k r Q:=λv σ' v' c' e g' rv=>q v σ' v' c' e (g.trans g') rv
theorem Kq.same(q:Kq c k r Q)(S:Sim c.W σ c.s.heap)(e:k v σ=some r)(rv:VR c.W v v')(t:Nat):Q v' {c.s with toks:=t}:=q _ _ _ ⟨c.W,_⟩ e ((Good.refl S).toks t) rv
theorem Kq.here(q:Kq c k r Q)(S:Sim c.W σ c.s.heap)(e:k v σ=some r)(rv:VR c.W v v'):Q v' c.s:=q _ _ _ c e (Good.refl S) rv
theorem Kq.keep(q:Kq c k r Q)(S:Sim c.W σ c.s.heap)(e:k v σ=some r)(rv:VR c.W v v'){h':Heap}(kp:Keeps c.s.heap h')(t:Nat):Q v' {c.s with heap:=h',toks:=t}:=q _ _ _ ⟨c.W,_⟩ e (Good.heap S kp t) rv
theorem Kq.list(q:Kq c k r Q)(S:Sim c.W σ c.s.heap){vs:List V}{items:Array Value}(e:mkO (.list vs) σ k=some r)(rs:VRs c.W vs items.toList)(hl:vs.length≤lim){h':Heap}{d:Addr}{n:Nat}(kp:Keeps c.s.heap h')(hd:c.s.heap.get? d=none)(ho:h'.get? d=some (lst items n))(t:Nat) :
  Q (.ref d) {c.s with heap:=h',toks:=t} :=
 q _ _ _ ⟨c.W.addO (d,d),_⟩ e (Good.newObj (p:=(d,d)) S kp (λb hb=>onp hb▸hd) ⟨hl,rfl,items,n,ho,rs⟩ rfl rfl) (VR.new S (d,d))
theorem Kq.top(q:Kq c k r Q)(S:Sim c.W σ c.s.heap){vs:List V}{items:List Value}(e:mkO (.list vs) σ k=some r)(rs:VRs c.W vs items)(hl:vs.length≤lim):Q (.ref c.s.heap.objs.size) {c.s with heap:=c.s.heap.push (lst items.toArray 0)} :=
 q.list (items:=items.toArray) (n:=0) S e rs hl (eE _ _) (cL _) (aN _ rfl) c.s.toks
theorem Kq.tup(q:Kq c k r Q)(S:Sim c.W σ c.s.heap){vs:List V}{items:List Value}(e:k (.tup vs) σ=some r)(rs:VRs c.W vs items)(hl:vs.length≤lim):Q (.ref c.s.heap.objs.size) {c.s with heap:=c.s.heap.push (tpl items)} :=
 q _ _ _ ⟨c.W.addT c.s.heap.objs.size items,_⟩ e ((Good.push S (tpl items)).addT (cL _) (aN _ rfl)) (VR.tup (List.mem_cons_self ..) (rs.mono (c.W.le_addT _ _)) hl)
theorem bH(S:Sim c.W σ c.s.heap)(e:bJ σ i=some xs)(r:VR c.W (.ref i) v'){G:Prop}(g:∀d it n,v'= .ref d→c.W.objs[i]? =some (d,d)→c.s.heap.get? d=some (lst it n)→VRs c.W xs it.toList→it.size=xs.length→xs.length≤lim→G):G:=by
 obtain⟨⟨d,d'⟩,rfl,hp⟩:=r
 obtain⟨hl,hp2,items,n,ho,hr⟩:=S.obj i _ _ (bQ e) hp
 exact g d items n rfl ((show d'=d from hp2)▸hp) ho hr (by rw[←Array.length_toList];exact hr.length.symm) hl
noncomputable def rop:BOp→Operator
 | .add=> .Add| .sub=> .Sub| .mul=> .Mult| .fdiv=> .FloorDiv| .mod=> .Mod| .band=> .BitAnd| .shr=> .RShift| .shl=> .LShift
theorem tB{a b:Int}(hb:0<b):a.fdiv b=a/b:=Int.fdiv_eq_ediv_of_nonneg a (Int.le_of_lt hb)
theorem A5{a b:Int}(hb:0<b):a.fmod b=a%b:=Int.fmod_eq_emod_of_nonneg a (Int.le_of_lt hb)
theorem Ip{b:Int}{n:Nat}(h0:0≤b)(h:b<n):b.natAbs<n:=aP.mp (by rw[Int.natAbs_of_nonneg h0];exact h)
theorem Dn{s:Shared}{op:BOp}{i j z:Int}{t u:Tok}(h:iop op i j=some z)(q:∀tk k,Q (.int z tk) {s with toks:=k}):wpAny M A (binaryOp (rop op) (.int i t) (.int j u)) Q Ex s:=by
 cases op with
 | add=>exact PyProof.Rows.add_int (Option.some.inj h▸q _ _)
 | sub=>exact PyProof.Rows.sub_int (Option.some.inj h▸q _ _)
 | mul=>exact gE h λhb e=>PyProof.Rows.mul_int (Option.some.inj e▸q _ _) (IntMulOk.of_left (intBits_le hb.1))
 | fdiv=>exact gE h λhb e=>PyProof.Rows.floordiv_int (Int.ne_of_gt hb.1) (tB hb.1▸Option.some.inj e▸q _ _) (.inl (PyProof.noPylong_small (Ip (Int.le_of_lt hb.1) hb.2)))
 | mod=>exact gE h λhb e=>PyProof.Rows.mod_int' (Int.ne_of_gt hb) (A5 hb▸Option.some.inj e▸q _ _)
 | band=>exact gE h λhb e=>PyProof.Rows.and_int (PyProof.Rows.bitAnd_pp hb.1 hb.2▸Option.some.inj e▸q _ _)
 | shr=>exact gE h λhb e=>PyProof.Rows.rshift_int hb (tB (a:=i) (b:=2^j.toNat) (Int.pow_pos (by decide))▸Option.some.inj e▸q _ _)
 | shl=>exact gE h λhb e=>PyProof.Rows.lshift_int_small hb.1 (ak hb.2.1 (by decide)) hb.2.2 (Option.some.inj e▸q _ _)
theorem Eh(S:Sim c.W σ c.s.heap)(ra:VR c.W x a)(rb:VR c.W y b)(h:GU x y σ k=some r)(q:Kq c k r Q):wpAny M A (binaryOp .Add a b) Q Ex c.s:=by
 cases x with
 | int i =>
  refine bE h λj hj e=> ?_
  rw[cO hj] at rb
  obtain⟨t,rfl⟩:=ra
  obtain⟨u,rfl⟩:=rb
  exact PyProof.Rows.add_int (q.same S e (VR.int _ _) _)
 | bytes l =>
  refine bE h λm hm h=>gE h λhl e=> ?_
  rw[fY hm] at rb
  obtain⟨_,⟨b1⟩,t,rfl,rfl⟩:=ra
  obtain⟨_,⟨b2⟩,u,rfl,rfl⟩:=rb
  refine PySem.W.bytes_add_K (b:=b1) (c:=b2) (d:=b1++b2) (by rw[KBw.ints_length,KBw.ints_length] at hl;exact cu hl) rfl λt' j=>q.same S e (VR.bytes t' ?_ (by rw[aa];exact hl)) j
  rw[←KBw.ints_app rfl rfl]
  exact congrArg KBw.bInts (Array.ext' Array.toList_append.symm)
 | tup xs =>
  refine bE h λys hy h=>gE h λhl e=> ?_
  rw[eY hy] at rb
  refine ra.tupE λa1 i1 e1 m1 r1 _=>rb.tupE λa2 i2 e2 m2 r2 _=> ?_
  rw[e1,e2]
  have ne:∀{l:List Value} {ys:List V},VRs c.W ys l→0<ys.length→¬l.toArray.isEmpty=true:=λ{l ys} r h=>by
   cases r with
   | nil=>exact absurd h (Nat.lt_irrefl _)
   | cons=>exact λh=>ft h
  have hz:i1.toArray.size+i2.toArray.size=xs.length+ys.length:=by rw[List.size_toArray,List.size_toArray,r1.length,r2.length]
  refine PySem.P.add_tuple (S.tup _ m1) (S.tup _ m2) (ne r1 hl.1) (ne r2 hl.2.1) ?_ (hz▸cu hl.2.2)
  rw[show i1.toArray++i2.toArray=(i1++i2).toArray from List.append_toArray ..]
  exact q.tup S e (r1.append r2) (by rw[aa];exact hl.2.2)
 | ref i =>
  refine bE h λxs hx h=>jp h λj ys ey hy h=>gE h λhl e=> ?_
  rw[ey] at rb
  refine bH S hx ra λd it1 n1 e1 _ ho1 r1 z1 _=>bH S hy rb λd2 it2 n2 e2 _ ho2 r2 z2 _=> ?_
  rw[e1,e2]
  refine PySem.P.add_list ho1 ho2 ?_ (by rw[z1,z2,←aa];exact cu hl)
  rw[←Ec]
  exact q.top S e (r1.append r2) hl
 | _=>exact ns h
theorem yk{op:BOp}(S:Sim c.W σ c.s.heap)(ra:VR c.W x a)(rb:VR c.W y b)(h:binop op x y σ k=some r)(q:Kq c k r Q):wpAny M A (binaryOp (rop op) a b) Q Ex c.s:=by
 have rest:(intz x y λa b=>(iop op a b).bind λz=>k (.int z) σ)=some r→wpAny M A (binaryOp (rop op) a b) Q Ex c.s:=λh=>oi h λi j e1 e2 h=>bE h λz hz e=>by
  rw[e1] at ra
  rw[e2] at rb
  obtain⟨t,rfl⟩:=ra
  obtain⟨u,rfl⟩:=rb
  exact Dn hz λtk m=>q.same S e (VR.int _ _) m
 cases op with
 | add=>exact Eh S ra rb h q
 | _=>exact rest h
end
theorem Dq{i j:Int}(h:V.int i=V.int j):i=j:=Option.some.inj (congrArg b9 h)
theorem B7{i j:List V}(h:V.tup i=V.tup j):i=j:=Option.some.inj (congrArg gM h)
noncomputable def dat:V→PyData
 | .int i=> .int i
 | .tup vs=> .tuple (((cT b9 vs).getD []).map PyData.int)
 | _=> .none
theorem qW(is:List Int):cT b9 (is.map V.int)=some is:=fZ (f:=b9) (k:=V.int) (λ_=>rfl) is
theorem gX(is:List Int):dat (.tup (is.map V.int))= .tuple (is.map PyData.int):=congrArg (λo=>PyData.tuple ((Option.getD o []).map PyData.int)) (qW is)
theorem iK(is:List Int):PyData.canLayAll0 (is.map PyData.int)=true:=by
 induction is with
 | nil=>rfl
 | cons a r ih=>exact ih
theorem o6(is:List Int):PyData.depthAll (is.map PyData.int)=0:=by
 induction is with
 | nil=>rfl
 | cons a r ih=>show max 0 (PyData.depthAll (r.map PyData.int))=0;rw[ih];rfl
theorem jD(x:V):(dat x).canLay0=true:=by
 cases x with
 | tup vs=>exact iK _
 | _=>rfl
theorem qA(x:V):(dat x).depth≤1:=by
 cases x with
 | tup vs=>show PyData.depthAll (((cT b9 vs).getD []).map PyData.int)+1≤1;rw[o6];exact aD _
 | _=>exact bu _
theorem lF(xs:List V):PyData.canLayAll0 (xs.map dat)=true:=by
 induction xs with
 | nil=>rfl
 | cons a r ih=>show((dat a).canLay0&&PyData.canLayAll0 (r.map dat))=true;rw[jD,ih];rfl
theorem vt(xs:List V):PyData.depthAll (xs.map dat)≤1:=by
 induction xs with
 | nil=>exact bu _
 | cons a r ih=>exact Nat.max_le.mpr ⟨qA a,ih⟩
theorem oY(a:List Int):∀b:List Int,PyData.eqvAll (a.map PyData.int) (b.map PyData.int)=(a==b):=by
 induction a with
 | nil=>intro b;cases b <;> rfl
 | cons x a ih=>intro b;cases b with
  | nil=>rfl
  | cons y b=>exact congrArg (x==y&&·) (ih b)
theorem A8{x:V}(h:flat x=true){G:Prop}(g0:∀i,x= .int i→G)(g1:∀is:List Int,x= .tup (is.map V.int)→G):G:=by
 cases x with
 | int i=>exact g0 i rfl
 | tup vs =>
  have h:(cT b9 vs).isSome=true:=h
  cases q:cT b9 vs with
  | none=>rw[q] at h;exact ft h
  | some is=>exact g1 is (congrArg V.tup (gU q))
 | _=>exact ft h
theorem Bg{x y:V}(hx:flat x=true)(hy:flat y=true):PyData.eqv (dat x) (dat y)=true↔x=y:=by
 refine A8 hx (λi e=> ?_) λis e=> ?_ <;> refine A8 hy (λj e'=> ?_) λjs e'=> ?_ <;> rw[e,e']
 ·exact⟨λh=>congrArg V.int (bD h),λh=>bF.mpr (Dq h)⟩
 ·rw[gX];exact⟨λh=>ft h,λh=>V.noConfusion h⟩
 ·rw[gX];exact⟨λh=>ft h,λh=>V.noConfusion h⟩
 ·rw[gX,gX]
  refine⟨λh=>by rw[bD ((oY is js).symm.trans h)],λh=>(oY is js).trans (bF.mpr ?_)⟩
  have:=congrArg (cT b9) (B7 h)
  rw[qW,qW] at this
  exact Option.some.inj this
theorem x9{xs:List V}:∀{ys:List V},xs.all flat=true→ys.all flat=true→(PyData.eqvAll (xs.map dat) (ys.map dat)=true↔xs=ys):=by
 induction xs with
 | nil=>intro ys _ _;cases ys with
  | nil=>exact⟨λ_=>rfl,λ_=>rfl⟩
  | cons=>exact⟨λh=>ft h,λh=>absurd h.symm (bw _ _)⟩
 | cons x xs ih=>intro ys hx hy;cases ys with
  | nil=>exact⟨λh=>ft h,λh=>absurd h (bw _ _)⟩
  | cons y ys =>
   obtain⟨h1,h2⟩:=ar.mp hx
   obtain⟨h3,h4⟩:=ar.mp hy
   have e:PyData.eqvAll ((x::xs).map dat) ((y::ys).map dat)=(PyData.eqv (dat x) (dat y)&&PyData.eqvAll (xs.map dat) (ys.map dat)):=rfl
   rw[e,ar,Bg h1 h3,ih h2 h4]
   exact List.cons_eq_cons.symm
theorem GE{α:Type}{x y:α}{b:Bool}(h:b=true↔x=y):b=eqB x y:=by
 unfold eqB
 by_cases e:x=y
 ·rw[h.mpr e];exact(@bB _ (_) e).symm
 ·rw[@decide_eq_false _ (_) e];exact Bool.eq_false_iff.mpr λz=>e (h.mp z)
section
variable{A:Around}{σ:H}{c:C}{x y:V}{a b:Value}{d:Bool}{Q Q':Value→Shared→Prop}
theorem m7{h:Heap}{is:List Int}:∀{vs:List Value},VRs c.W (is.map V.int) vs→∃as,ReadsAll h vs (is.map PyData.int) as:=by
 induction is with
 | nil=>exact λr=>r.nE▸⟨_,.nil⟩
 | cons i is ih=>exact λr=>r.cE λv vs e h1 h2=>h1.elim λt q=>(ih h2).elim λas z=>e▸q▸⟨_,.cons (.int _ _) z⟩
theorem jn(S:Sim c.W σ c.s.heap)(f:flat x=true)(r:VR c.W x a):∃as,Reads c.s.heap a (dat x) as:=A8 f (λi e=>by
  rw[e] at r⊢
  obtain⟨t,rfl⟩:=r
  exact⟨_,.int _ _⟩) λis e=>by
  rw[e] at r⊢
  refine r.tupE λd items e hm hr _=>(m7 (h:=c.s.heap) hr).elim λas ha=> ?_
  rw[e,gX]
  exact⟨as,.tuple (S.tup _ hm) rfl rfl ha⟩
theorem lw(S:Sim c.W σ c.s.heap){xs:List V}:∀{vs:List Value},xs.all flat=true→VRs c.W xs vs→∃as,ReadsAll c.s.heap vs (xs.map dat) as:=by
 induction xs with
 | nil=>exact λ_ r=>r.nE▸⟨_,.nil⟩
 | cons x xs ih=>exact λf r=>r.cE λv vs e h1 h2=>(jn S (ar.mp f).1 h1).elim λas ha=>(ih (ar.mp f).2 h2).elim λbs hb=>e▸⟨_,.cons ha hb⟩
theorem Af{x:List UInt8}:∀{y:List UInt8},(x.map λc=>(c.toNat:Int))=(y.map λc=>(c.toNat:Int))→x=y:=by
 induction x with
 | nil=>intro y e;cases y with
  | nil=>rfl
  | cons=>exact absurd e.symm (bw _ _)
 | cons c x ih=>intro y e;cases y with
  | nil=>exact absurd e (bw _ _)
  | cons d y =>
   obtain⟨h1,h2⟩:=List.cons_eq_cons.mp e
   rw[UInt8.toNat_inj.mp (Int.ofNat.inj h1),ih h2]
theorem kf{a b:Array UInt8}:(KBw.bInts a==KBw.bInts b)=(a.toList==b.toList):=by
 rw[Bool.eq_iff_iff,bF,bF]
 exact⟨Af,λh=>by rw[show a=b from Array.ext' h]⟩
theorem rO{s:Shared}(b c:Array UInt8)(t u:Tok):SeqAt.EqAt A s (.bytes b t) (.bytes c u) (b.toList==c.toList):=by
 intro prog w E Q h
 unfold eqBool
 refine wpAny_holding (wpAny_ite_split (λhab=> ?_) λhab=> ?_)
 ·have e:b=c:=(Value.bytes.inj (bD hab)).1
  subst e
  rw[bC] at h
  exact wpAny_bind (wpAny_rule (wpAny_pure h))
 ·exact wpAny_bind (richCompare_gives (typeIs_bytes s b t) (typeIs_bytes s c u) FB.slot_bytes_eq FB.entry_bytes_eq (FB.args_bytes_eq_2 _ _) (gives_bytes_eq b c t u) (λe=>Value.noConfusion e) (wpAny_truthy_bool h))
noncomputable def Both(A:Around)(o o':CmpOp)(a b:Value)(d:Bool)(s:Shared):Prop:=(∀{Q:Value→Shared→Prop},(∀t,Q (.bool d) {s with toks:=t})→wpAny M A (compareOp o a b) Q Ex s)∧∀{Q:Value→Shared→Prop},(∀t,Q (.bool !d) {s with toks:=t})→wpAny M A (compareOp o' a b) Q Ex s
theorem wU{s:Shared}(hu:A.units+64<cLine){x y:PyData}{as bs:List Addr}(r1:Reads s.heap a x as)(r2:Reads s.heap b y bs)(c1:x.canLay0=true)(c2:y.canLay0=true)(hd:x.depth≤2)(e:PyData.eqv x y=d):Both A .Eq .NotEq a b d s:=by
 have hm:A.units+min x.depth y.depth<cLine:=ax (aB (ae (ae (Nat.min_le_left _ _) hd) (by decide)) _) hu
 exact e▸⟨λq=>SeqAt.compareEq_reads r1 r2 c1 c2 hm (q s.toks),λq=>SeqAt.compareNe_reads r1 r2 c1 c2 hm (q s.toks)⟩
theorem p9{m n:Nat}(hm:m<14)(hn:n<14):(eJ m==eJ n)=(m==n):=by
 rw[Bool.eq_iff_iff,bF,bF]
 exact⟨iP hm hn,congrArg eJ⟩
theorem Bh(S:Sim c.W σ c.s.heap)(hu:A.units+64<cLine)(h:eqV σ x y=some d)(ra:VR c.W x a)(rb:VR c.W y b):Both A .Eq .NotEq a b d c.s:=by
 cases x with
 | int i =>
  obtain⟨t,rfl⟩:=ra
  cases y with
  | int j=>obtain⟨u,rfl⟩:=rb;exact Option.some.inj h▸⟨λq=>PyProof.Rows.eq_int (q c.s.toks),λq=>PyProof.Rows.ne_int (q c.s.toks)⟩
  | none=>cases rb;exact Option.some.inj h▸⟨λq=>EqNone.eq_int_none (q c.s.toks),λq=>EqNone.ne_int_none (q c.s.toks)⟩
  | _=>exact ns h
 | none =>
  cases ra
  cases y with
  | int j=>obtain⟨u,rfl⟩:=rb;exact Option.some.inj h▸⟨λq=>EqNone.eq_none_int (q c.s.toks),λq=>EqNone.ne_none_int (q c.s.toks)⟩
  | none=>cases rb;exact Option.some.inj h▸⟨λq=>EqNone.eq_none_none (q c.s.toks),λq=>EqNone.ne_none_none (q c.s.toks)⟩
  | _=>exact ns h
 | str m =>
  refine bE h λn hn e=> ?_
  rw[pt hn] at rb
  obtain⟨h1,t,rfl⟩:=ra
  obtain⟨h2,u,rfl⟩:=rb
  rw[←Option.some.inj e,←p9 h1 h2]
  exact⟨λq=>PyProof.Rows.eq_str (q c.s.toks),λq=>PyProof.Rows.ne_str (q c.s.toks)⟩
 | bytes l =>
  refine bE h λm hm e=> ?_
  rw[fY hm] at rb
  obtain⟨_,b1,t,rfl,rfl⟩:=ra
  obtain⟨_,b2,u,rfl,rfl⟩:=rb
  rw[←Option.some.inj e,kf]
  exact⟨λq=>PySem.W.eq_bytes (q c.s.toks),λq=>PySem.W.ne_bytes (q c.s.toks)⟩
 | tup xs =>
  refine bE h λys hy h=>bE h λi1 hi1 h=>bE h λi2 hi2 e=> ?_
  rw[eY hy,gU hi2] at rb
  rw[gU hi1] at ra
  have fl:∀is:List Int,flat (.tup (is.map V.int))=true:=λis=>congrArg Option.isSome (qW is)
  obtain⟨as,r1⟩:=jn S (fl i1) ra
  obtain⟨bs,r2⟩:=jn S (fl i2) rb
  exact wU hu r1 r2 (jD _) (jD _) (aV (qA _)) (by rw[gX,gX];exact(oY i1 i2).trans (Option.some.inj e))
 | ref i =>
  refine bE h λxs hx h=>jp h λj ys ey hy h=> ?_
  rw[ey] at rb
  refine bH S hx ra λd1 it1 n1 e1 _ ho1 r1 z1 _=>bH S hy rb λd2 it2 n2 e2 _ ho2 r2 z2 _=> ?_
  rw[e1,e2]
  by_cases hne:xs.length≠ys.length
  ·rw[if_pos hne] at h
   have hs:(it1.size !=it2.size)=true:=by rw[z1,z2];exact bne_iff_ne.mpr hne
   have hu':A.units<cLine:=ax (az _ _) hu
   exact Option.some.inj h▸⟨λq=>SeqAt.eq_list_lengthsAt ⟨_,ho1,rfl,n1,rfl⟩ ⟨_,ho2,rfl,n2,rfl⟩ hs hu' (q c.s.toks),λq=>SeqAt.RcNeAt.lists_lengths ⟨_,ho1,rfl,n1,rfl⟩ ⟨_,ho2,rfl,n2,rfl⟩ hs hu' zp zw Ex _ (q c.s.toks)⟩
  ·rw[if_neg hne] at h
   refine gE h λhf e=> ?_
   obtain⟨f1,f2⟩:=ar.mp hf
   obtain⟨as,k1⟩:=lw S f1 r1
   obtain⟨bs,k2⟩:=lw S f2 r2
   exact wU hu (.list ho1 rfl rfl k1) (.list ho2 rfl rfl k2) (lF xs) (lF ys) (aA (vt xs)) ((GE (x9 f1 f2)).trans (Option.some.inj e))
 | _=>exact ns h
theorem VR.ne_none(r:VR c.W x a)(h:isNone x=false):a≠ .none:=by
 cases x with
 | none=>exact ft h.symm
 | bool b=>rw[show a=_ from r];exact λe=>Value.noConfusion e
 | int i=>obtain⟨t,rfl⟩:=r;exact λe=>Value.noConfusion e
 | str n=>obtain⟨_,t,rfl⟩:=r;exact λe=>Value.noConfusion e
 | bytes l=>obtain⟨_,b,t,rfl,_⟩:=r;exact λe=>Value.noConfusion e
 | tup vs=>obtain⟨_,a,i,rfl,_⟩:=r;exact λe=>Value.noConfusion e
 | ref i=>obtain⟨p,rfl,_⟩:=r;exact λe=>Value.noConfusion e
 | con l=>obtain⟨_,a,i,n,rfl,_⟩:=r;exact λe=>Value.noConfusion e
theorem AF(S:Sim c.W σ c.s.heap)(h:isV x y=some d)(ra:VR c.W x a)(rb:VR c.W y b):Both A .Is .IsNot a b d c.s:=by
 unfold isV at h
 cases hy:isNone y with
 | true =>
  rw[hy,if_pos rfl] at h
  cases kH hy
  rw[show b=_ from rb]
  rw[←Option.some.inj h]
  cases hx:isNone x with
  | true=>cases kH hx;rw[show a=_ from ra];exact⟨λq=>is_none_none (q c.s.toks),λq=>isnot_none_none (q c.s.toks)⟩
  | false=>exact⟨λq=>is_none_ne (ra.ne_none hx) (q c.s.toks),λq=>isnot_none_ne (ra.ne_none hx) (q c.s.toks)⟩
 | false =>
  rw[hy,if_neg Bool.false_ne_true] at h
  refine bE h λi hi h=>bE h λj hj e=> ?_
  rw[cN hi] at ra
  rw[cN hj] at rb
  obtain⟨p,rfl,hp⟩:=ra
  obtain⟨p',rfl,hq⟩:=rb
  rw[←Option.some.inj e]
  by_cases e:i=j
  ·subst e
   rw[bC,Option.some.inj (hp.symm.trans hq)]
   exact⟨λq=>wpAny_is_ref_self (q c.s.toks),λq=>wpAny_isNot_ref_self (q c.s.toks)⟩
  ·obtain⟨o1,h1,n1⟩:=S.alive ⟨i,p,hp,.inl rfl⟩
   obtain⟨o2,h2,n2⟩:=S.alive ⟨j,p',hq,.inl rfl⟩
   have hne:p.1≠p'.1:=λz=>e (S.apart i j p p' p.1 hp hq (.inl rfl) (.inl z))
   rw[beq_eq_false_iff_ne.mpr e]
   exact⟨λq=>wpAny_is_ref_other hne h1 h2 n1 (q c.s.toks),λq=>wpAny_isNot_ref_other hne h1 h2 n1 (q c.s.toks)⟩
noncomputable def hits(k:Value)(y:Value):Bool:=match k with
 | .str a _=>(match y with
  | .str b _=>b==a
  | _=>false)
 | .bytes a _=>(match y with
  | .bytes b _=>b.toList==a.toList
  | _=>false)
 | _=>false
theorem tU{α:Type} [BEq α] [LawfulBEq α]{f:V→Option α}{g:V→α}{key:α}{k:Value}(hf:∀{x a v},f x=some a→VR c.W x v→hits k v=(a==key)∧SeqAt.EqAt A.in1 c.s v k (hits k v)){xs:List V} :
  ∀{l:List α} {vs:List Value},cT f xs=some l→VRs c.W xs vs→vs.any (hits k)=l.contains key∧∀y∈vs,SeqAt.EqAt A.in1 c.s y k (hits k y):=by
 induction xs with
 | nil=>exact λe r=>r.nE▸Option.some.inj e▸⟨rfl,aj _⟩
 | cons x xs ih =>
  exact λe r=>jG e λm l' hm hl e=>r.cE λv vs ev h1 h2=>by
   obtain⟨i1,i2⟩:=ih hl h2
   obtain⟨j1,j2⟩:=hf hm h1
   subst ev e
   refine⟨?_,ao.mpr ⟨j2,i2⟩⟩
   rw[List.any_cons,i1,List.contains_cons,j1,Bool.eq_iff_iff,Bool.or_eq_true,Bool.or_eq_true,bF,bF]
   exact⟨λz=>z.imp_left Eq.symm,λz=>z.imp_left Eq.symm⟩
theorem BW(i:Int)(is:List Int):(is.map PyData.int).any (λy=>PyData.eqv y (.int i))=is.contains i:=by
 induction is with
 | nil=>rfl
 | cons a r ih =>
  rw[aR,List.any_cons,ih,List.contains_cons]
  refine congrArg (·||r.contains i) ?_
  rw[show PyData.eqv (.int a) (.int i)=(a==i) from rfl,Bool.eq_iff_iff,bF,bF];exact⟨Eq.symm,Eq.symm⟩
theorem zN{kvs:List ((Int×Int)×V)}{xs:List (List Int×Addr×Value)}(ha:All2 (tR c.W) kvs xs)(p:Int×Int):(atKey xs [p.1,p.2]).isSome=kvs.any λkv=>kv.1==p:=by
 unfold atKey
 rw[Option.isSome_map]
 induction ha with
 | nil=>rfl
 | @cons kv x kvs xs h1 h2 ih =>
  have e:decide (x.1=[p.1,p.2])=(kv.1==p):=by
   rw[h1.1.1,Bool.eq_iff_iff,decide_eq_true_iff,bF,List.cons_eq_cons,List.cons_eq_cons]
   exact⟨λz=>Prod.ext z.1 z.2.1,λz=>⟨congrArg Prod.fst z,congrArg Prod.snd z,rfl⟩⟩
  rw[List.any_cons,←ih,List.find?_cons,e]
  cases(kv.1==p) <;> rfl
theorem vR(S:Sim c.W σ c.s.heap){i j:Int}{d:Addr}{t u:Tok}(hm:(d,[Value.int i t,Value.int j u])∈c.W.tups):IsTupleKey (intKind zp zw) c.s.heap [i,j] d :=
 ⟨_,_,0,S.tup _ hm,rfl,rfl,.cons (bC i) (.cons (bC j) .nil)⟩
theorem Az(S:Sim c.W σ c.s.heap){kvs:List ((Int×Int)×V)}{xs:List (List Int×Addr×Value)}(ha:All2 (tR c.W) kvs xs):∀x∈xs,IsTupleKey (intKind zp zw) c.s.heap x.1 x.2.1:=by
 induction ha with
 | nil=>exact aj _
 | cons h1 _ ih=>exact ao.mpr ⟨h1.1.2.elim λt z=>z.elim λu hm=>h1.1.1▸vR S hm,ih⟩
theorem tH(S:Sim c.W σ c.s.heap){i:Nat}{kvs:List ((Int×Int)×V)}(e:(σ[i]?).bind p0=some kvs)(r:VR c.W (.ref i) b){G:Prop}
  (g:∀d xs,b= .ref d→c.W.objs[i]? =some (d,d)→c.s.heap.DictOfH (tupleKind (intKind zp zw)) d xs→All2 (tR c.W) kvs xs→(xs.map (·.1)).Nodup→kvs.length≤lim→G):G:=by
 obtain⟨⟨d,d'⟩,rfl,hp⟩:=r
 obtain⟨hl,hp2,xs,⟨o,es,ep,ho,hx,hd,he,hn⟩,ha⟩:=S.obj i _ _ (po (g:=O.dT) Eb e) hp
 exact g d xs rfl ((show d'=d from hp2)▸hp) ⟨o,es,ep,ho,hx,hd,he,Az S ha,hn⟩ ha hn hl
theorem wn(S:Sim c.W σ c.s.heap){p:Int×Int}(h:VR c.W (bX p) a){G:Prop}(g:∀d t u,a= .ref d→(d,[Value.int p.1 t,Value.int p.2 u])∈c.W.tups→IsTupleKey (intKind zp zw) c.s.heap [p.1,p.2] d→G):G :=
 h.tupE λd items e hm hr _=>hr.e2 λb b' e' h1 h2=>h1.elim λt et=>h2.elim λu eu=>by
  rw[et,eu] at e'
  rw[e'] at hm
  exact g d t u e hm (vR S hm)
theorem l9(S:Sim c.W σ c.s.heap){b:Addr}(f:c.W.foot b):(b==sysModules)=false:=beq_eq_false_iff_ne.mpr λe=>S.bz.sys.elim λo ho=>dG (S.fresh b f) (e▸ho)
theorem AP(S:Sim c.W σ c.s.heap){e:Addr}{items:List Value}(hm:(e,items)∈c.W.tups){k:Value}(i1:items.any (hits k)=d∧∀y∈items,SeqAt.EqAt A.in1 c.s y k (hits k y)):Both A .In .NotIn k (.ref e) d c.s:=by
 have T:c.s.heap.IsTuple e items.toArray:=⟨_,S.tup _ hm,rfl,0,rfl⟩
 have he':∀y,y∈items.toArray→SeqAt.EqAt A.in1 c.s y k (hits k y):=λy hy=>i1.2 y (List.mem_toArray.mp hy)
 rw[←i1.1,←List.any_toArray]
 exact⟨λq=>SeqAt.in_tupleAt _ T he' (q c.s.toks),λq=>SeqAt.notIn_tupleAt _ T he' (q c.s.toks)⟩
theorem AQ(S:Sim c.W σ c.s.heap)(hu:A.units+64<cLine)(h:inV σ x y=some d)(ra:VR c.W x a)(rb:VR c.W y b):Both A .In .NotIn a b d c.s:=by
 cases x with
 | int i =>
  refine jp h λj xs ey hx h=>bE h λis hi e=> ?_
  rw[ey] at rb
  obtain⟨t,rfl⟩:=ra
  refine bH S hx rb λd1 it1 n1 e1 _ ho1 r1 _ _=> ?_
  rw[gU hi] at r1
  obtain⟨as,k⟩:=m7 (h:=c.s.heap) r1
  have hm:A.units+1+min (PyData.depthAll (is.map PyData.int)) (PyData.int i).depth<cLine:=by
   rw[o6,Nat.zero_min];exact ax (aB (show 1≤64 by decide) A.units) hu
  rw[e1,←Option.some.inj e,←BW]
  exact⟨λq=>SeqAt.in_list_reads (.list ho1 rfl rfl k) (.int i t) (iK is) rfl hm (q c.s.toks),λq=>SeqAt.notIn_list_reads (.list ho1 rfl rfl k) (.int i t) (iK is) rfl hm (q c.s.toks)⟩
 | str n =>
  refine bE h λxs hx h=>bE h λl hl e=> ?_
  rw[eY hx] at rb
  obtain⟨hn,t,rfl⟩:=ra
  refine rb.tupE λd1 items e1 hm hr _=>e1▸Option.some.inj e▸AP S hm (tU (g:=λ_=>n) (key:=n) (λ{x m v} hx r=> ?_) hl hr)
  rw[pt hx] at r
  obtain⟨hm,u,rfl⟩:=r
  exact⟨p9 hm hn,SeqAt.EqAt.str_str _ _ _ _⟩
 | bytes l =>
  refine bE h λxs hx h=>bE h λl' hl e=> ?_
  rw[eY hx] at rb
  obtain⟨_,k,t,rfl,rfl⟩:=ra
  refine rb.tupE λd1 items e1 hm hr _=>e1▸Option.some.inj e▸AP S hm (tU (g:=λ_=>KBw.bInts k) (key:=KBw.bInts k) (λ{x m v} hx r=> ?_) hl hr)
  rw[fY hx] at r
  obtain⟨_,b,u,rfl,rfl⟩:=r
  exact⟨kf.symm,rO _ _ _ _⟩
 | tup vs =>
  refine bE h λp hp h=>bE h λj hj h=>bE h λkvs hk e=> ?_
  rw[k9 hp] at ra
  rw[cN hj] at rb
  refine wn S ra λd1 t u e1 hm hk'=>tH S hk rb λd2 xs e2 hp2 hd ha _ _=> ?_
  have hr:(tupleKind (intKind zp zw)).room A.in1:=tupleKind_room_in1 (ax (aB (by decide) _) hu)
  have ny:=l9 S ⟨j,_,hp2,.inl rfl⟩
  rw[e1,e2,←Option.some.inj e,←zN ha]
  exact⟨λq=>wpAny_in_heap hr hk' ny hd (q _),λq=>wpAny_notIn_heap hr hk' ny hd (q _)⟩
 | _=>exact ns h
noncomputable def cop:COp→CmpOp
 | .eq=> .Eq| .ne=> .NotEq| .lt=> .Lt| .le=> .LtE| .gt=> .Gt| .ge=> .GtE| .is=> .Is| .isnot=> .IsNot| .inn=> .In| .notin=> .NotIn
theorem jX{op:COp}(h:(intz x y λa b=>some (icmp op a b))=some d)(ra:VR c.W x a)(rb:VR c.W y b){o:CmpOp}(q:∀k,Q (.bool d) {c.s with toks:=k})(k:∀i j t u,Q (.bool (icmp op i j)) c.s→wpAny M A (compareOp o (.int i t) (.int j u)) Q Ex c.s):wpAny M A (compareOp o a b) Q Ex c.s :=
 oi h λi j e1 e2 h=>by
  rw[e1] at ra
  rw[e2] at rb
  obtain⟨t,rfl⟩:=ra
  obtain⟨u,rfl⟩:=rb
  exact k i j t u (Option.some.inj h▸q c.s.toks)
theorem i8(S:Sim c.W σ c.s.heap)(hu:A.units+64<cLine){op:COp}(h:cmpop op x y σ=some d)(ra:VR c.W x a)(rb:VR c.W y b)(q:∀k,Q (.bool d) {c.s with toks:=k}):wpAny M A (compareOp (cop op) a b) Q Ex c.s:=by
 cases op with
 | eq=>exact(Bh S hu h ra rb).1 q
 | ne=>exact bE h λd hd e=>(Bh S hu hd ra rb).2 (Option.some.inj e▸q)
 | is=>exact(AF S h ra rb).1 q
 | isnot=>exact bE h λd hd e=>(AF S hd ra rb).2 (Option.some.inj e▸q)
 | inn=>exact(AQ S hu h ra rb).1 q
 | notin=>exact bE h λd hd e=>(AQ S hu hd ra rb).2 (Option.some.inj e▸q)
 | lt=>exact jX h ra rb q λi j t u z=>PyProof.Rows.lt_int z
 | le=>exact jX h ra rb q λi j t u z=>PyProof.Rows.le_int z
 | gt=>exact jX h ra rb q λi j t u z=>PyProof.Rows.gt_int z
 | ge=>exact jX h ra rb q λi j t u z=>PyProof.Rows.ge_int z
end
theorem qg{n:Nat}{k:Int}{j:Nat}(h:place n k=some j):j<n∧k<n∧ -(n:Int)≤k∧(wrap n k).toNat=j:=gE h λh1 e=>by
 rw[←Option.some.inj e]
 rw[Bool.and_eq_true,decide_eq_true_iff,decide_eq_true_iff] at h1
 refine⟨(Int.toNat_lt h1.1).mpr h1.2,?_,?_,rfl⟩
 ·unfold wrap at h1
  by_cases h0:k<0
  ·exact aG h0 (aC n)
  ·rw[if_neg h0] at h1;exact h1.2
 ·unfold wrap at h1
  by_cases h0:k<0
  ·rw[if_pos h0] at h1;exact Int.neg_le_of_neg_le (Int.sub_nonneg.mp (by rw[Int.sub_neg,Int.add_comm];exact h1.1))
  ·exact ak (Int.neg_nonpos_of_nonneg (aC n)) (bx.mp h0)
section
variable{β:Type}{A:Around}{σ:H}{c:C}{k:V→H→Option β}{r:β}{x y v lo hi:V}{a b vl vh:Value}{Q:Value→Shared→Prop}
theorem ub{kvs:List (Nat×V)}{xs:List (PySem.Str×Value)}(ha:All2 (sR c.W) kvs xs){n:Nat}(hn:n<14)(e:kvs.lookup n=some v):∃v',valueAt xs (eJ n)=some v'∧VR c.W v v':=by
 induction ha with
 | nil=>exact ns e
 | @cons kv x kvs xs h1 h2 ih =>
  rw[List.lookup_cons] at e
  unfold valueAt
  rw[List.find?_cons,h1.1.2]
  by_cases q:n=kv.1
  ·rw[←q,bC] at e
   rw[←q,bB rfl]
   exact⟨x.2,rfl,Option.some.inj e▸h1.2⟩
  ·rw[beq_eq_false_iff_ne.mpr q] at e
   rw[decide_eq_false λz=>q (iP h1.1.1 hn z).symm]
   exact ih e
theorem yn{b:Array UInt8}{i:Nat}{x:Int}(h:(KBw.bInts b)[i]? =some x):i<b.size∧x=((b.toList.getD i 0).toNat:Int):=by
 refine⟨KBw.ints_length b▸(aM.mp h).1,?_⟩
 change (b.toList.map λc=>(c.toNat:Int))[i]? =some x at h
 rw[List.getElem?_map] at h
 obtain⟨c,hc,e⟩:=Option.map_eq_some_iff.mp h
 rw[List.getD_eq_getElem?_getD,hc,←e];rfl
theorem Ds(S:Sim c.W σ c.s.heap)(h:gD σ x y=some v)(ra:VR c.W x a)(rb:VR c.W y b)(q:∀v' t,VR c.W v v'→Q v' {c.s with toks:=t}):SubscriptOn M A a b Q Ex c.s:=by
 cases x with
 | ref i =>
  cases y with
  | int k =>
   refine bE h λxs hx h=>bE h λj hj h=> ?_
   obtain⟨t,rfl⟩:=rb
   refine bH S hx ra λd it n e _ ho r z hl=> ?_
   obtain⟨v',hv,hr⟩:=r.at h
   rw[←z] at hj hl
   obtain⟨h1,h2,h3,h4⟩:=qg hj
   have hL:c.s.heap.IsList d it:=⟨_,ho,rfl,n,rfl⟩
   have hk:k<2^63:=aG h2 (aO.mpr (bh (xP hl)))
   rw[Array.getElem?_toList,←h4] at hv
   rw[e]
   refine⟨"list",_,list_getitem_lookup,hL.typeIs,?_⟩
   unfold wrap at hv
   by_cases h0:k<0
   ·rw[if_pos h0] at hv
    exact wpAny_getItem_list_neg hL h0 h3 (ak (Int.neg_le_neg (aO.mpr (bh (xP hl)))) h3) hv (q v' c.s.toks hr)
   ·rw[if_neg h0] at hv
    exact wpAny_getItem_list hL (bx.mp h0) hk hv (q v' c.s.toks hr)
  | str n =>
   refine bE h λkvs hk h=> ?_
   obtain⟨hn,t,rfl⟩:=rb
   obtain⟨p,rfl,hp⟩:=ra
   obtain⟨hl,hp2,xs,hd,ha⟩:=S.obj i _ p (po (g:=O.dS) w7 hk) hp
   obtain⟨v',hv,hr⟩:=ub ha hn h
   exact⟨"dict",_,slot_dict_getitem.lookup,hd.typeIs,wpAny_getItem_of (strKind_is zp zw _ t) hd.mapOf hv (q v' _ hr)⟩
  | _=>exact ns h
 | tup xs =>
  refine bE h λk hk h=>bE h λj hj hx=> ?_
  rw[cO hk] at rb
  obtain⟨t,rfl⟩:=rb
  refine ra.tupE λd items e hm hr hl=> ?_
  obtain⟨v',hv,hr'⟩:=hr.at hx
  rw[hr.length] at hj hl
  obtain⟨h1,h2,h3,h4⟩:=qg hj
  have l6:=aO.mpr (bh (xP hl))
  exact e▸⟨"tuple",_,F.slot_tuple_getitem.lookup,⟨_,S.tup _ hm,rfl⟩,PySem.P.getItem_tuple (S.tup _ hm) (ak (Int.neg_le_neg l6) h3) (aG h2 l6) hj (by simpa using hv) (q v' c.s.toks hr')⟩
 | bytes l =>
  refine bE h λk hk h=>gE h λh0 h=>bE h λd hc e=> ?_
  rw[cO hk] at rb
  obtain⟨u,rfl⟩:=rb
  obtain⟨hl,⟨b⟩,t,rfl,rfl⟩:=ra
  obtain⟨h1,h2⟩:=yn hc
  rw[KBw.ints_length] at hl
  have h1:k<b.length:=(Int.toNat_lt h0).mp h1
  refine⟨"bytes",_,FB.slot_bytes_getitem.lookup,typeIs_bytes _ _ _,getItem_bytes (ae hl (by decide)) h0 h1 (q _ _ ?_)⟩
  rw[←Option.some.inj e,h2]
  exact VR.int _ _
 | _=>exact ns h
theorem l8{o:Option Int}(r:VR c.W x a)(h:part x=some o):IsPart a o:=by
 cases x with
 | none=>rw[show a=_ from r];exact Option.some.inj h▸ .none
 | int i=>obtain⟨t,rfl⟩:=r;exact Option.some.inj h▸ .int i t
 | _=>exact ns h
theorem Ih{α:Type}{l ys:List α}(h:cut l lo hi=some ys){G:Prop}(g:∀o p,part lo=some o→part hi=some p→ys=kX l o p→G):G:=bE h λo h1 h=>bE h λp h2 h=>g o p h1 h2 (Option.some.inj h).symm
theorem tK{α:Type}(l:List α)(o p:Option Int):(kX l o p).length≤l.length:=by
 unfold kX;rw[List.length_take,List.length_drop];exact ae (Nat.min_le_right _ _) (Nat.sub_le _ _)
theorem BA{xs:List V}{vs:List Value}(r:VRs c.W xs vs)(o p:Option Int):VRs c.W (kX xs o p) (kX vs o p):=by
 unfold kX;rw[r.length];exact(r.drop _).take _
theorem ss(S:Sim c.W σ c.s.heap){D d:Addr}{it:Array Value}{n:Nat}{xs ys:List V}(hs:c.s.heap.IsSliceOf D vl vh .none)(ho:c.s.heap.get? d=some (lst it n))(rs:VRs c.W xs it.toList)(hl:xs.length≤lim)(hy:cut xs lo hi=some ys)(e:mkO (.list ys) σ k=some r)(rl:VR c.W lo vl)(rh:VR c.W hi vh)(q:Kq c k r Q) :
  SubscriptOn M A (.ref d) (.ref D) Q Ex c.s:=Ih hy λo p h1 h2 ey=>by
 have hL:Heap.IsList _ d it:=⟨_,ho,rfl,n,rfl⟩
 have hz:it.size=xs.length:=by rw[←Array.length_toList];exact rs.length.symm
 refine⟨"list",_,list_getitem_lookup,hL.typeIs,wpAny_getItem_list_slice hL hs (l8 rl h1) (l8 rh h2) .none (λe=>Option.noConfusion rfl (heq_of_eq e)) ?_ (hz▸cu hl)⟩
 rw[slicePick_plain]
 exact q.top S e (ey▸(show kX it.toList o p=_ by unfold kX;rw[Array.length_toList])▸BA rs o p) (ey▸ae (tK xs o p) hl)
theorem Cn(S:Sim c.W σ c.s.heap){D:Addr}(hs:c.s.heap.IsSliceOf D vl vh .none)(ra:VR c.W x a)(rl:VR c.W lo vl)(rh:VR c.W hi vh)(h:Hf x lo hi σ k=some r)(q:Kq c k r Q):SubscriptOn M A a (.ref D) Q Ex c.s:=by
 cases x with
 | ref i=>exact bE h λxs hx h=>bE h λys hy e=>bH S hx ra λd it n e1 _ ho rs z hl=>e1▸ss S hs ho rs hl hy e rl rh q
 | con l =>
  refine bE h λys hy e=> ?_
  obtain⟨hl,d,it,n,rfl,ho,hI⟩:=ra
  have rs:VRs c.W (l.map V.int) it.toList:=by
   clear hl ho hy e h
   generalize it.toList=L at hI
   induction hI with
   | nil=>exact .nil
   | cons j t h ih=>exact .cons (VR.int _ _) ih
  exact ss S hs (S.base _ _ ho) rs (by rw[ah];exact hl) hy e rl rh q
 | bytes l =>
  refine bE h λys hy e=>Ih hy λo p h1 h2 ey=> ?_
  obtain⟨hl,b,t,rfl,rfl⟩:=ra
  refine⟨"bytes",_,FB.slot_bytes_getitem.lookup,typeIs_bytes _ _ _,getItem_meets (typeIs_bytes _ _ _) (by decide) FB.slot_bytes_getitem FB.entry_bytes_getitem (FB.args_bytes_getitem_2 _ _)
   (KBc.meets_slice2 b t _ (l8 rl h1) (l8 rh h2)) ⟨hs,ae (KBc.size_picked_le b _ _) (by rw[←KBw.ints_length b];exact cu hl),λt' j=>q.same S e (VR.bytes t' ?_ (ey▸ae (tK _ o p) hl)) j⟩⟩
  rw[KBc.ints_picked rfl];exact ey.symm
 | tup xs =>
  refine bE h λm hlo h=>gE h λhc e=> ?_
  rw[cO hlo] at rl
  rw[kH hc.1] at rh
  obtain⟨t,rfl⟩:=rl
  cases rh
  refine ra.tupE λd items e1 hm hr hl=> ?_
  obtain⟨n,rfl⟩:=bt (ak (by decide) hc.2.1)
  have hT:PyProof.Rows.IsTup c.s.heap d items.toArray:=⟨tpl items,S.tup (d,items) hm,rfl,0,rfl⟩
  have ls:=hr.length
  rw[e1]
  refine⟨"tuple",_,F.slot_tuple_getitem.lookup,⟨_,S.tup _ hm,rfl⟩,getItem_tuple_from (a:=n) hT hs (aO.mp hc.2.1) (by rw[List.size_toArray,←ls];exact aO.mp hc.2.2) ?_ (by rw[List.size_toArray,←ls];exact cu hl)⟩
  have:=q.tup S e (hr.drop n) (by rw[List.length_drop];exact ae (Nat.sub_le _ _) hl)
  simpa using this
 | _=>exact ns h
theorem Cv(S:Sim c.W σ c.s.heap){i:Nat}{xs:List V}{D:Addr}{t:Tok}(hs:c.s.heap.IsSliceOf D .none .none (.int (-1) t))(ra:VR c.W (.ref i) a)(hx:bJ σ i=some xs)(e:mkO (.list xs.reverse) σ k=some r)(q:Kq c k r Q) :
  SubscriptOn M A a (.ref D) Q Ex c.s:=bH S hx ra λd it n e1 _ ho rs z hl=>by
 rw[e1]
 have hL:Heap.IsList _ d it:=⟨_,ho,rfl,n,rfl⟩
 refine⟨"list",_,list_getitem_lookup,hL.typeIs,wpAny_getItem_list_slice hL hs .none .none (.int (-1) t) (by decide) ?_ (z▸cu hl)⟩
 rw[krv_pick]
 exact q.top S e rs.reverse (by rw[List.length_reverse];exact hl)
end
theorem jA(c:Nat):(cQ c).Nodup:=by
 cases c with
 | zero=>decide +kernel
 | succ n=>show(cQ 1).Nodup;decide +kernel
theorem tA(c:Nat):(cQ c).length≤7:=by
 cases c with
 | zero=>exact aD _
 | succ n=>exact(by decide:3≤7)
section
variable{A:Around}{σ:H}{c:C}{x v:V}{a b u:Value}{Q:Value→Shared→Prop}{R:Unit→Shared→Prop}{W:Wd}
theorem handed(r:VR W x a):handedIn a=true:=by
 cases x with
 | none=>rw[show a=_ from r];rfl
 | bool b=>rw[show a=_ from r];rfl
 | int i=>obtain⟨t,rfl⟩:=r;rfl
 | str n=>obtain⟨_,t,rfl⟩:=r;rfl
 | bytes l=>obtain⟨_,b,t,rfl,_⟩:=r;rfl
 | tup vs=>obtain⟨_,d,i,rfl,_⟩:=r;rfl
 | ref i=>obtain⟨p,rfl,_⟩:=r;rfl
 | con l=>obtain⟨_,d,i,n,rfl,_⟩:=r;rfl
theorem ve{n nm:PySem.Str}{e:DictEntry}(h:keyed n e)(hne:n≠nm):e.key.isStr nm=false∧e.refKey=false:=by
 obtain⟨t,hk⟩:=h
 refine⟨by rw[hk];exact beq_eq_false_iff_ne.mpr hne,by unfold DictEntry.refKey;rw[hk]⟩
theorem wD{n:PySem.Str}{e:DictEntry}(h:keyed n e):e.key.isStr n=true:=by
 obtain⟨t,hk⟩:=h
 rw[hk];exact bC n
theorem qm{n nm:PySem.Str}{e:DictEntry}{es:List DictEntry}(h:keyed n e)(hne:n≠nm):getL nm (e::es)=getL nm es:=by
 unfold getL
 rw[List.find?_cons,(ve h hne).1,List.any_cons,(ve h hne).2,Bool.false_or]
theorem AY{n:PySem.Str}{e:DictEntry}{es:List DictEntry}(h:keyed n e):getL n (e::es)=some (some e.val):=by
 unfold getL
 rw[List.find?_cons,wD h]
theorem qn{nms:List PySem.Str}{es:List DictEntry}{nm:PySem.Str}(ha:All2 keyed nms es)(hn:nm∉nms):getL nm es=some none:=by
 induction ha with
 | nil=>rfl
 | cons h1 _ ih=>exact(qm h1 λe=>hn (e▸ .head _)).trans (ih λh=>hn (.tail _ h))
theorem qf{n nm:PySem.Str}{hs:Int}{key w:Value}{e:DictEntry}{es:List DictEntry}(h:keyed n e)(hne:n≠nm):putL nm hs key w (e::es)=e::putL nm hs key w es:=by
 show(if e.key.isStr nm=true then _ else _)=_
 rw[(ve h hne).1,if_neg Bool.false_ne_true]
theorem zC{n:PySem.Str}{hs:Int}{key w:Value}{e:DictEntry}{es:List DictEntry}(h:keyed n e):putL n hs key w (e::es)={e with val:=w}::es:=by
 show(if e.key.isStr n=true then _ else _)=_
 rw[wD h,if_pos rfl]
theorem qr{nms:List PySem.Str}{es:List DictEntry}(ha:All2 keyed nms es):∀{fs:List V} {f:Nat} {nm:PySem.Str},nms.Nodup→VRs W fs (es.map (·.val))→nms[f]? =some nm→f<fs.length→
  (∃v',getL nm es=some (some v')∧∀v,fs[f]? =some v→VR W v v')∧∀(hs:Int) (key w':Value) (x:V),VR W x w'→All2 keyed nms (putL nm hs key w' es)∧VRs W (fs.set f x) ((putL nm hs key w' es).map (·.val)):=by
 induction ha with
 | nil=>exact λ_ _ e _=>ns e
 | @cons n en nms es h1 h2 ih =>
  intro fs f nm hd hr e hf
  obtain⟨hd1,hd2⟩:=aQ.mp hd
  cases fs with
  | nil=>exact absurd hf (Nat.not_lt_zero _)
  | cons y fs =>
   refine hr.cE λv0 vs ee r1 r2=> ?_
   obtain⟨e1,e2⟩:=List.cons_eq_cons.mp (show en.val::es.map (·.val)=v0::vs from ee)
   cases f with
   | zero =>
    cases Option.some.inj (show some n=some nm from e)
    refine⟨⟨_,AY h1,λv q=>Option.some.inj (show some y=some v from q)▸e1▸r1⟩,λhs key w' x rx=> ?_⟩
    rw[zC h1]
    exact⟨.cons h1 h2,.cons rx (e2▸r2)⟩
   | succ f =>
    have hne:n≠nm:=λz=>hd1 (z▸List.mem_of_getElem? (show nms[f]? =some nm from e))
    obtain⟨k1,k2⟩:=ih hd2 (e2▸r2) e (Nat.lt_of_succ_lt_succ hf)
    rw[qm h1 hne]
    refine⟨k1,λhs key w' x rx=> ?_⟩
    rw[qf h1 hne]
    exact⟨.cons h1 (k2 hs key w' x rx).1,.cons (show VR W y en.val from e1▸r1) (k2 hs key w' x rx).2⟩
theorem bU(S:Sim c.W σ c.s.heap){k i:Nat}{fs:List V}(e:cC σ k i=some fs)(r:VR c.W (.ref i) a){G:Prop}
  (g:∀p es n,a= .ref p.1→c.W.objs[i]? =some p→k<2→p.2≠p.1→InstAt c.s.heap p.1 (instObj (zc k) p.2) (zc k) (some (dictOf es n))→All2 keyed (cQ k) es→VRs c.W fs (es.map (·.val))→G):G:=by
 obtain⟨p,rfl,hp⟩:=r
 obtain⟨hc2,hne,ho,es,n,hd,ha,hr⟩:=S.obj i _ p (oj e) hp
 exact g p es n rfl hp hc2 hne ⟨ho,rfl,rfl,hd⟩ ha hr
theorem Sim.kin(S:Sim c.W σ c.s.heap):zK.In c.s.heap:=λd o q=>S.base _ _ (S.bz.X d o q)
theorem wI(S:Sim c.W σ c.s.heap){k i f:Nat}{fs:List V}{nm:PySem.Str}{expr:Bool}(e:cC σ k i=some fs)(hf:fs[f]? =some x)(hn:(cQ k)[f]? =some nm)(r:VR c.W (.ref i) a)(q:∀v' t,VR c.W x v'→Q v' {c.s with toks:=t}) :
  wpAny M A (getAttr a nm expr) Q Ex c.s:=bU S e r λp es n e1 hp hc hne I ha hr=>by
 obtain⟨⟨v',hg,r'⟩,_⟩:=qr ha (jA k) hr hn (aM.mp hf).1
 have hK:=S.bz.cls k hc
 obtain⟨k1,k2,attr,k3,k4⟩:=hK.fld nm (List.mem_of_getElem? hn)
 rw[e1]
 exact get_value S.kin I (plainGet_of k1).1 (findObj_own hK.dict k3 k4 (by rw[lookIn_dict];exact hg)) (handed (r' x hf)) (q v' _ (r' x hf))
theorem we{s:Shared}{y D dx:Addr}{es:List DictEntry}{n k:Nat}{nm:PySem.Str}{w:Value}(X:zK.In s.heap)(hK:ClsOk D k)(hn:nm∈cQ k)(I:InstAt s.heap y (instObj D dx) D (some (dictOf es n)))
  (hl:(getL nm es).isSome=true) (hz:(putL nm (PyData.keyHash zw.params nm) (.str nm (s.toks+1)) w es).length≤1000)
  (h:∀h',h'.get? dx=some (dictOf (putL nm (PyData.keyHash zw.params nm) (.str nm (s.toks+1)) w es) (putN nm es n))→Heap.SameBut dx s.heap h'→R () {s with heap:=h',toks:=s.toks+2}) :
  wpAny M A (setAttr (.ref y) nm w) R Ex s:=by
 obtain⟨k1,k2,attr,k3,k4⟩:=hK.fld nm hn
 refine set_plain X I hK.set (osa_open (s:={s with toks:=s.toks+1}) X I hK.plain k2 λb=> ?_)
 obtain⟨cd,hc,hd'⟩:=any_some hK.dict
 obtain⟨hx,hcl,hnc,D⟩:=I
 have D:s.heap.get? dx=some (dictOf es n):=D
 refine wpAny_bind (wpAny_pure (wpAny_bind (wpAny_bind (wpAny_loadPart hx (wpAny_bind (Looks.here (s:={s with toks:=s.toks+1}) (looks_clsIn X hc) ?_))))))
 rw[hd']
 refine wpAny_pure (a:=some dx) (wpAny_bind (wpAny_pure (wpAny_bind ?_)))
 unfold nsSet
 refine wpAny_bind (wpAny_bind (wpAny_askSetting (wpAny_pure (wpAny_bind (wpAny_mkText (wpAny_bind (wpAny_loadPart D ?_)))))))
 have c:(!es.toArray.any (·.key.isStr nm)&&es.toArray.any (·.refKey))=false:=by
  rw[←Array.any_toList,←Array.any_toList]
  show(!es.any (·.key.isStr nm)&&es.any (·.refKey))=false
  unfold getL at hl
  cases q:es.find? (·.key.isStr nm) with
  | some en =>
   have e:es.any (·.key.isStr nm)=true:=List.any_eq_true.mpr ⟨en,List.mem_of_find?_eq_some q,List.find?_some (p:=λ(x:DictEntry)=>x.key.isStr nm) q⟩
   rw[e];rfl
  | none =>
   rw[q] at hl
   cases z:es.any (·.refKey) with
   | false=>rw[Bool.and_false]
   | true=>rw[z] at hl;exact ft hl
 dsimp only
 rw[aRefKeyMayBeTheName_at,c]
 refine wpAny_updatePart D ?_
 have D':(s.heap.update dx (Obj.putName nm (PyData.keyHash zw.params nm) (.str nm (s.toks+1)) w)).get? dx=some (dictOf (putL nm (PyData.keyHash zw.params nm) (.str nm (s.toks+1)) w es) (putN nm es n)):=by
  rw[←putName_dict]
  exact Heap.get?_update_self _ D (by rw[putName_dict];rfl)
 refine wpAny_bind (wpAny_lookBehind D' (pastItsLine_dict (ae hz (by decide))) ?_)
 exact wpAny_pure (h _ D' ⟨Heap.size_update _ _ _,λb hb=>Heap.get?_update_ne _ _ _ _ hb⟩)
theorem qP(S:Sim c.W σ c.s.heap){β:Type}{k i f:Nat}{nm:PySem.Str}{K:H→Option β}{r:β}(h:setField k f i x σ K=some r)(hn:(cQ k)[f]? =some nm)(ra:VR c.W (.ref i) a)(ru:VR c.W x u)(q:∀σ' s',K σ'=some r→Gd0 c σ' ⟨c.W,s'⟩→R () s') :
  wpAny M A (setAttr a nm u) R Ex c.s:=bE h λfs hi h=>gE h λhf e=>bU S hi ra λp es n e1 hp hc hne I ha hr=>by
 obtain⟨⟨v',hg,_⟩,hP⟩:=qr ha (jA k) hr hn hf
 rw[e1]
 refine we S.kin (S.bz.cls k hc) (List.mem_of_getElem? hn) I (by rw[hg];rfl) (by rw[←(hP _ _ u x ru).1.length];exact ae (tA k) (by decide)) λh' hd hs=>q _ _ e ?_
 exact Good.upd S hp (λb o q hb=>(hs.2 b λz=>hb (.inr z)).trans q) ⟨hc,hne,(hs.2 _ (Ne.symm hne)).trans I.at_,_,_,hd,(hP _ _ u x ru).1,(hP _ _ u x ru).2⟩ rfl rfl
theorem gF(S:Sim c.W σ c.s.heap){i:Nat}{d:Addr}(hp:c.W.objs[i]? =some (d,d)){items:Array Value}{n:Nat}(ho:PySem.IsL c.s.heap d items n){f:Array Value→Array Value}{vs:List V}(hl:vs.length≤lim)(r:VRs c.W vs (f items).toList)(t:Nat) :
  Gd0 c (σ.set i (.list vs)) ⟨c.W,{c.s with heap:=c.s.heap.update d (Obj.mapSeq f),toks:=t}⟩ :=
 Good.upd (s':={c.s with heap:=c.s.heap.update d (Obj.mapSeq f),toks:=t}) S hp (λb o q hb=>(Heap.get?_update_ne _ _ _ _ λz=>hb (.inl z)).trans q) ⟨hl,rfl,f items,_,PySem.IsL.update ho f,r⟩ rfl rfl
theorem un{s:Shared}{l:Addr}{items:Array Value}{n:Nat}{k:Int}{t:Tok}{w:Value}(ho:PySem.IsL s.heap l items n)(h0:0≤k)(hfit:k<2^63)(hn:k<items.size)
  (hQ:R () {s with heap:=s.heap.update l (Obj.mapSeq (·.setIfInBounds k.toNat w))}):wpAny M A (setItem (.ref l) (.int k t) w) R Ex s:=by
 have hl:=ho.isList
 unfold setItem
 try with_reducible refine wpAny_holding ?_
 first|refine wpAny_bind (wpAny_pure ?_)|skip
 refine wpAny_bind (wpAny_sequenceKey hl.typeIs (by decide) ?_)
 refine wpAny_bind (wpAny_callSpecial?_slot (name:=Str.ofString "__setitem__") hl.typeIs slot_list_setitem
  (wpAny_call_entry slot_list_setitem hl.typeIs entry_list_setitem ?_ (args_list_setitem _ _ _)))
 show wpAny _ _ (Builtin.List.listSubscript? (.int k t)>>=_) _ _ s
 refine wpAny_bind (wpAny_listSubscript_int (fitsIndex_of h0 hfit) ?_)
 clear hfit
 obtain⟨j,rfl⟩:=bt h0
 have hj:j<items.size:=aP.mp hn
 show wpAny _ _ ((seqItemAt l j>>=λr=>pure (r.map (j,·)))>>=_) _ _ s
 refine wpAny_bind (wpAny_bind (wpAny_seqItemAt ho rfl (wpAny_pure ?_)))
 rw[Array.getElem?_eq_getElem hj]
 show wpAny _ _ (setSeqItemAt l j w>>=_) _ _ s
 refine wpAny_bind (wpAny_setSeqItemAt ho rfl ?_)
 first
  | exact wpAny_bind (wpAny_pure (wpAny_pure ⟨.none,rfl,wpAny_pure hQ⟩))
  | exact wpAny_pure ⟨.none,rfl,wpAny_pure hQ⟩
theorem sv{s:Shared}{l b sl:Addr}{items items2:Array Value}{n n2:Nat}{vl vu:Value}{lo hi:Nat}(ho:PySem.IsL s.heap l items n)(ho2:PySem.IsL s.heap b items2 n2)(hne:l≠b)
  (hs:s.heap.IsSliceOf sl vl vu .none) (pl:IsPart vl (some (lo:Int))) (pu:IsPart vu (some (hi:Int))) (h1:lo≤hi) (h2:hi≤items.size) (hz:items.size+items2.size≤sizeLine)
  (hQ:R () {s with heap:=s.heap.update l (Obj.mapSeq λxs=>xs.extract 0 lo++items2++xs.extract hi xs.size)}) :
  wpAny M A (setItem (.ref l) (.ref sl) (.ref b)) R Ex s:=by
 have hl:=ho.isList
 obtain⟨os,hos,hcs,hds⟩:=id hs
 have hTs:s.TypeIs (.ref sl) "slice" :=⟨os,hos,hcs⟩
 unfold setItem
 try with_reducible refine wpAny_holding ?_
 first|refine wpAny_bind (wpAny_pure ?_)|skip
 refine wpAny_bind (wpAny_sequenceKey hl.typeIs (by decide) ?_)
 refine wpAny_bind (wpAny_callSpecial?_slot (name:=Str.ofString "__setitem__") hl.typeIs slot_list_setitem
  (wpAny_call_entry slot_list_setitem hl.typeIs entry_list_setitem ?_ (args_list_setitem _ _ _)))
 show wpAny _ _ (Builtin.List.listSubscript? (.ref sl)>>=_) _ _ s
 refine wpAny_bind ?_
 unfold Builtin.List.listSubscript?
 refine wpAny_bind (wpAny_specialOf hTs slice_no_index ?_)
 rw[Option.isNone_none,if_pos rfl]
 refine wpAny_pure ?_
 show wpAny _ _ (typeOf (.ref sl)>>=_) _ _ s
 refine wpAny_bind (wpAny_typeOf hTs ?_)
 rw[if_neg (by decide)]
 rw[listSliceParts_eq]
 refine wpAny_bind (wpAny_bind (wpAny_field hos hds (x:= .none) rfl (wpAny_bind (wpAny_listPart .none ?_))))
 rw[if_neg (by decide)]
 refine wpAny_bind (wpAny_field hos hds (x:=vl) rfl (wpAny_bind (wpAny_listPart pl ?_)))
 refine wpAny_bind (wpAny_field hos hds (x:=vu) rfl (wpAny_bind (wpAny_listPart pu (wpAny_pure ?_))))
 rw[show Builtin.List.listSameRef (.ref l) (.ref b)=false from beq_eq_false_iff_ne.mpr hne]
 dsimp only
 have hl2:=ho2.isList
 refine wpAny_bind (m:=Builtin.List.listAllItems (.ref b) "must assign iterable to extended slice") ?_
 unfold Builtin.List.listAllItems
 refine wpAny_bind (wpAny_typeOf hl2.typeIs ?_)
 rw[if_pos (by decide)]
 unfold Builtin.List.listItems
 refine wpAny_bind (wpAny_seqItems ho2 rfl (wpAny_pure ?_))
 refine wpAny_bind (m:=Builtin.List.listItems (.ref l)) ?_
 unfold Builtin.List.listItems
 refine wpAny_bind (wpAny_seqItems ho rfl (wpAny_pure ?_))
 have eb:sliceBounds (some (lo:Int)) (some (hi:Int)) none items.size=((lo:Int),(hi:Int),1):=by
  rw[sliceBounds_plain]
  dsimp only[Option.elim]
  rw[clipAt_nat,clipAt_nat,Nat.min_eq_left h2,Nat.min_eq_left (ae h1 h2)]
 refine wpAny_bind (wpAny_of_eq (a:=((lo:Int),(hi:Int),(1:Int))) ((sliceIndices_raw (some (lo:Int)) (some (hi:Int)) none items.size (λe=>Option.noConfusion rfl (heq_of_eq e))).trans (by rw[eb])) ?_)
 dsimp only
 rw[if_pos (by decide)]
 refine wpAny_bind (wpAny_rule ?_)
 rw[if_neg (by simp [Builtin.List.listTooLong];omega)]
 dsimp only[Builtin.List.listUpdate]
 rw[Int.max_eq_right (aO.mpr h1),bg,bg]
 have hz2:(items.extract 0 lo++items2++items.extract hi items.size).size≤sizeLine:=by
  rw[Array.size_append,Array.size_append,Array.size_extract,Array.size_extract]
  refine ae (bq (aF (ae (Nat.sub_le _ _) (ae (Nat.min_le_left _ _) h1)) _) (Nat.sub_le_sub_right (Nat.min_le_left _ _) hi)) ?_
  rw[Nat.add_right_comm,Nat.add_sub_cancel' h2];exact hz
 exact wpAny_bind (wpAny_updateSeq ho rfl (wpAny_bind (wpAny_letGo (wpAny_bind (wpAny_pure (wpAny_pure ⟨.none,rfl,wpAny_pure hQ⟩))))) (ae (az _ _) hz) (aV hz2))
end
noncomputable def sE{κ β:Type} [DecidableEq κ](k:κ)(upd:β→β)(new:β):List (κ×β)→List (κ×β)
 | []=>[(k,new)]
 | x::r=>if x.1=k then(x.1,upd x.2)::r else x::sE k upd new r
theorem zD{κ β:Type} [DecidableEq κ](k:κ)(upd:β→β)(new:β)(x:κ×β)(r:List (κ×β)):sE k upd new (x::r)=if x.1=k then(x.1,upd x.2)::r else x::sE k upd new r:=rfl
theorem uB{κ:Type} [BEq κ](k:κ)(v:V)(x:κ×V)(r:List (κ×V)):d8 k v (x::r)=if x.1==k then(x.1,v)::r else x::d8 k v r:=rfl
theorem wl{κ β:Type} [DecidableEq κ]{k:κ}{upd:β→β}{new:β}{xs:List (κ×β)}(hn:(xs.map (·.1)).Nodup) :
  sE k upd new xs=if xs.any (λx=>decide (x.1=k)) then xs.map (λx=>if x.1=k then(x.1,upd x.2) else x) else xs++[(k,new)]:=by
 induction xs with
 | nil=>rfl
 | cons x r ih =>
  obtain⟨h1,h2⟩:=aQ.mp (show(x.1::r.map (·.1)).Nodup from hn)
  rw[zD,List.any_cons,aR]
  by_cases hx:x.1=k
  ·rw[if_pos hx,if_pos hx,bB hx,Bool.true_or,if_pos rfl]
   refine congrArg ((x.1,upd x.2)::·) (Eq.symm ((List.map_congr_left λy hy=> ?_).trans (List.map_id r)))
   exact if_neg λz=>h1 (by rw[hx,←z];exact aK (f:=Prod.fst) hy)
  ·rw[if_neg hx,if_neg hx,decide_eq_false hx,Bool.false_or,ih h2]
   by_cases q:r.any (λx=>decide (x.1=k))=true
   ·rw[if_pos q,if_pos q]
   ·rw[if_neg q,if_neg q];rfl
theorem All2.put{κ κ' β:Type} [BEq κ'] [DecidableEq κ]{R:κ'×V→κ×β→Prop}{i:κ'}{k:κ}{v:V}{upd:β→β}{new:β}{kvs:List (κ'×V)}{xs:List (κ×β)}(ha:All2 R kvs xs)
  (hk:∀kv x,R kv x→((kv.1==i)=true↔x.1=k)) (hu:∀kv x,R kv x→R (kv.1,v) (x.1,upd x.2)) (hn:R (i,v) (k,new)):All2 R (d8 i v kvs) (sE k upd new xs):=by
 induction ha with
 | nil=>exact .cons hn .nil
 | @cons kv x kvs xs h1 h2 ih =>
  have e:=hk _ _ h1
  rw[uB,zD]
  by_cases hx:x.1=k
  ·rw[if_pos (e.mpr hx),if_pos hx];exact .cons (hu _ _ h1) h2
  ·rw[if_neg λz=>hx (e.mp z),if_neg hx];exact .cons h1 ih
theorem nv{κ:Type} [BEq κ](k:κ)(v:V)(xs:List (κ×V)):(d8 k v xs).length≤xs.length+1:=by
 induction xs with
 | nil=>exact aD _
 | cons x r ih =>
  rw[uB]
  by_cases h:(x.1==k)=true
  ·rw[if_pos h];exact Nat.le_succ _
  ·rw[if_neg h];exact aA ih
theorem sF{κ:Type} [BEq κ] [LawfulBEq κ]{k:κ}{v:V}{xs:List (κ×V)}(h:(xs.lookup k).isSome=true):(d8 k v xs).length=xs.length:=by
 induction xs with
 | nil=>exact ft h
 | cons x r ih =>
  rw[uB]
  by_cases e:(x.1==k)=true
  ·rw[if_pos e];rfl
  ·rw[if_neg e]
   rw[List.lookup_cons,beq_eq_false_iff_ne.mpr λz=>e (bF.mpr z.symm)] at h
   exact congrArg Nat.succ (ih h)
theorem mN{κ:Type} [DecidableEq κ]{xs:List (κ×Value)}(hn:(xs.map (·.1)).Nodup)(k:κ)(v:Value):stored xs k v=sE k (λ_=>v) v xs:=by rw[wl hn];rfl
theorem yo{κ:Type} [DecidableEq κ]{xs:List (κ×Addr×Value)}(k:κ):(atKey xs k).isSome=xs.any (λx=>decide (x.1=k)):=by
 unfold atKey
 rw[Option.isSome_map]
 induction xs with
 | nil=>rfl
 | cons x r ih =>
  rw[List.find?_cons,List.any_cons,←ih]
  cases decide (x.1=k) <;> rfl
theorem lm{κ:Type} [DecidableEq κ]{xs:List (κ×Addr×Value)}(hn:(xs.map (·.1)).Nodup)(k:κ)(a:Addr)(v:Value):storedH xs k a v=sE k (λp=>(p.1,v)) (a,v) xs:=by
 rw[wl hn,←yo];rfl
section
variable{A:Around}{σ:H}{c:C}{o i x lo hi:V}{a b u vl vh:Value}{R:Unit→Shared→Prop}{β:Type}{K:H→Option β}{r:β}
noncomputable def Kh(c:C)(K:H→Option β)(r:β)(R:Unit→Shared→Prop):Prop:=∀σ' s',K σ'=some r→Gd0 c σ' ⟨c.W,s'⟩→R () s'
theorem o5(S:Sim c.W σ c.s.heap){j:Nat}{d:Addr}{ob:O}{h':Heap}(hp:c.W.objs[j]? =some (d,d))(hs:Heap.SameBut d c.s.heap h')(r:lV c.W h' (d,d) ob)(t:Nat):Gd0 c (σ.set j ob) ⟨c.W,{c.s with heap:=h',toks:=t}⟩ :=
 Good.upd (s':={c.s with heap:=h',toks:=t}) S hp (λb o q hb=>(hs.2 b λz=>hb (.inl z)).trans q) r rfl rfl
theorem sA(S:Sim c.W σ c.s.heap)(hu:A.units+64<cLine)(h:mW o i x σ K=some r)(ra:VR c.W o a)(rb:VR c.W i b)(ru:VR c.W x u)(q:Kh c K r R):wpAny M A (setItem a b u) R Ex c.s:=by
 refine bE h λj hj h=> ?_
 rw[cN hj] at ra
 cases i with
 | int k =>
  refine bE h λxs hx h=>gE h λhc e=> ?_
  obtain⟨t,rfl⟩:=rb
  refine bH S hx ra λd it n e1 hp ho rs z hl=> ?_
  have hk:k<it.size:=by rw[z];exact hc.2
  have hj:k.toNat<it.size:=(Int.toNat_lt hc.1).mpr hk
  rw[e1]
  refine un ho hc.1 (aG hk (aO.mpr (bh (xP (z▸hl))))) hk (q _ _ e (gF S hp ho (by rw[List.length_set];exact hl) ?_ _))
  rw[Array.setIfInBounds,dif_pos hj,Array.toList_set]
  exact All2.set rs ru k.toNat
 | str n =>
  refine bE h λkvs hq h=>gE h λhs e=> ?_
  obtain⟨hn,t,rfl⟩:=rb
  obtain⟨⟨d,d'⟩,rfl,hp⟩:=ra
  obtain⟨hl,hp2,xs,hd,ha⟩:=S.obj j _ _ (po (g:=O.dS) w7 hq) hp
  cases(show d'=d from hp2)
  have hnd:(xs.map (·.1)).Nodup:=hd.elim λo z=>z.elim λes z=>z.elim λep z=>z.2.2.2.2.2
  refine wpAny_setItem_pairs (strKind_is zp zw _ t) hd (λh' hd' hs'=>q _ _ e (o5 (ob:= .dS (d8 n x kvs)) S hp hs' ⟨by rw[sF hs];exact hl,rfl,_,hd',?_⟩ _)) (by rw[←ha.length];exact cu hl)
  rw[mN hnd]
  exact ha.put (λkv x hr=>by rw[hr.1.2,bF];exact⟨λz=>by rw[z],λz=>iP hr.1.1 hn z⟩) (λkv x hr=>⟨hr.1,ru⟩) ⟨⟨hn,rfl⟩,ru⟩
 | tup vs =>
  refine bE h λp hp h=>bE h λkvs hq h=>gE h λhlt e=> ?_
  rw[k9 hp] at rb
  refine wn S rb λd1 t t2 e1 hm hk=>tH S hq ra λd xs e2 hp2 hd ha hnd hl=> ?_
  rw[e1,e2]
  refine wpAny_setItem_heap (tupleKind_room_in1 (ax (aB (by decide) _) hu)) hk hd (λh' hd' hs'=> ?_) (by rw[←ha.length];exact cu hl)
  obtain⟨o',es,ep,g1,g2,g3,g4,g5,g6⟩:=hd'
  refine q _ _ e (o5 (ob:= .dT (d8 p x kvs)) S hp2 hs' ⟨ae (nv _ _ _) hlt,rfl,_,⟨o',es,ep,g1,g2,g3,g4,g6⟩,?_⟩ _)
  rw[lm hnd]
  refine ha.put (λkv x hr=> ?_) (λkv x hr=>⟨hr.1,ru⟩) ⟨⟨rfl,t,t2,hm⟩,ru⟩
  rw[hr.1.1,bF,List.cons_eq_cons,List.cons_eq_cons]
  exact⟨λz=>by rw[z];exact⟨rfl,rfl,rfl⟩,λz=>Prod.ext z.1 z.2.1⟩
 | _=>exact ns h
theorem qQ(S:Sim c.W σ c.s.heap){D:Addr}(hs:c.s.heap.IsSliceOf D vl vh .none)(h:qc o lo hi x σ K=some r)(ra:VR c.W o a)(rl:VR c.W lo vl)(rh:VR c.W hi vh)(ru:VR c.W x u)(q:Kh c K r R) :
  wpAny M A (setItem a (.ref D) u) R Ex c.s:=oi h λk l ek el h=>jp h λi xs eo hx h=>jp h λj ys ex hy h=>gE h λhc e=>by
 rw[ek] at rl
 rw[el] at rh
 rw[eo] at ra
 rw[ex] at ru
 obtain⟨c1,c2,c3,c4,c5⟩:=hc
 obtain⟨t1,rfl⟩:=rl
 obtain⟨t2,rfl⟩:=rh
 obtain⟨m,rfl⟩:=bt c2
 obtain⟨n,rfl⟩:=bt (ak c2 c3)
 refine bH S hx ra λd1 it1 n1 e1 hp ho1 r1 z1 hl1=>bH S hy ru λd2 it2 n2 e2 hq ho2 r2 z2 hl2=> ?_
 rw[e1,e2]
 have c3:=aO.mp c3
 have c4:=aO.mp c4
 refine sv (lo:=m) (hi:=n) ho1 ho2 (λz=>c1 (S.apart i j _ _ d1 hp hq (.inl rfl) (.inl z))) hs (.int _ t1) (.int _ t2) c3 (z1▸c4) (by rw[z1,z2];exact cu c5) (q _ _ e (gF S hp ho1 (f:=λxs=>xs.extract 0 m++it2++xs.extract n xs.size) ?_ ?_ _))
 ·show(xs.take m++ys++xs.drop n).length≤lim
  rw[aa,aa,List.length_take,List.length_drop]
  refine ae (aF (aF (ae (Nat.min_le_left _ _) c3) _) _) ?_
  rw[Nat.add_right_comm,Nat.add_sub_cancel' c4];exact c5
 ·rw[Array.toList_append,Array.toList_append,Array.toList_extract,Array.toList_extract]
  refine All2.append (All2.append (All2.take r1 m) r2) ?_
  have:=All2.drop r1 n
  rwa [←List.take_of_length_le (l:=it1.toList.drop n) (i:=it1.size-n) (by rw[List.length_drop,Array.length_toList];exact aD _)] at this
end
theorem oz(l:List Int):∀a:Int,a≤l.foldl max a∧(∀x∈l,x≤l.foldl max a)∧l.foldl max a∈a::l:=by
 induction l with
 | nil=>exact λa=>⟨bv _,aj _,.head _⟩
 | cons b l ih =>
  intro a
  obtain⟨h1,h2,h3⟩:=ih (max a b)
  refine⟨ak (Int.le_max_left a b) h1,ao.mpr ⟨ak (Int.le_max_right a b) h1,h2⟩,?_⟩
  show l.foldl max (max a b)∈_
  refine(aE.mp h3).elim (λh3=> ?_) λh3=> .tail _ (.tail _ h3)
  rw[h3]
  exact(Int.le_total a b).elim (λh=>by rw[Int.max_eq_right h];exact .tail _ (.head _)) λh=>by rw[Int.max_eq_left h];exact .head _
theorem oy(l:List Int):∀a:Int,l.foldl min a≤a∧(∀x∈l,l.foldl min a≤x)∧l.foldl min a∈a::l:=by
 induction l with
 | nil=>exact λa=>⟨bv _,aj _,.head _⟩
 | cons b l ih =>
  intro a
  obtain⟨h1,h2,h3⟩:=ih (min a b)
  refine⟨ak h1 (Int.min_le_left a b),ao.mpr ⟨ak h1 (Int.min_le_right a b),h2⟩,?_⟩
  show l.foldl min (min a b)∈_
  refine(aE.mp h3).elim (λh3=> ?_) λh3=> .tail _ (.tail _ h3)
  rw[h3]
  exact(Int.le_total a b).elim (λh=>by rw[Int.min_eq_left h];exact .head _) λh=>by rw[Int.min_eq_right h];exact .tail _ (.head _)
theorem C6{is:List Int}{m N:Int}(h:xN is=some m)(h1:N∈is)(h2:∀a∈is,a≤N):N=m:=by
 cases is with
 | nil=>exact ns h
 | cons a r =>
  obtain⟨k1,k2,k3⟩:=oz r a
  rw[←Option.some.inj h]
  exact Int.le_antisymm ((aE.mp h1).elim (λe=>e▸k1) (k2 _)) (h2 _ k3)
theorem C0{is:List Int}{m N:Int}(h:C2 is=some m)(h1:N∈is)(h2:∀a∈is,N≤a):N=m:=by
 cases is with
 | nil=>exact ns h
 | cons a r =>
  obtain⟨k1,k2,k3⟩:=oy r a
  rw[←Option.some.inj h]
  exact Int.le_antisymm (h2 _ k3) ((aE.mp h1).elim (λe=>e▸k1) (k2 _))
structure Tot{α:Type}(le:α→α→Bool):Prop where
 tot:∀{a b},le a b=false→le b a=true
 tr:∀{a b c},le a b=true→le b c=true→le a c=true
 anti:∀{a b},le a b=true→le b a=true→a=b
theorem AK{α:Type}{le:α→α→Bool}(T:Tot le)(a:α){l:List α}(hl:l.Pairwise (le · ·=true)):(iA le a l).Perm (a::l)∧(iA le a l).Pairwise (le · ·=true):=by
 induction l with
 | nil=>exact⟨.refl _,.cons (aj _) .nil⟩
 | cons b l ih =>
  obtain⟨q1,q2⟩:=List.pairwise_cons.mp hl
  show(if le a b=true then a::b::l else b::iA le a l).Perm _∧(if le a b=true then a::b::l else b::iA le a l).Pairwise _
  cases hab:le a b with
  | true=>exact⟨.refl _,.cons (ao.mpr ⟨hab,λx hx=>T.tr hab (q1 x hx)⟩) hl⟩
  | false =>
   obtain⟨p1,p2⟩:=ih q2
   refine⟨(p1.cons b).trans (List.Perm.swap a b l),.cons (λx hx=>(aE.mp (p1.mem_iff.mp hx)).elim (λe=>e▸T.tot hab) (q1 x)) p2⟩
theorem lW{α:Type}{le:α→α→Bool}(T:Tot le)(l:List α):(b5 le l).Perm l∧(b5 le l).Pairwise (le · ·=true):=by
 induction l with
 | nil=>exact⟨.refl _,.nil⟩
 | cons a l ih=>exact⟨(AK T a ih.2).1.trans (ih.1.cons a),(AK T a ih.2).2⟩
theorem lX{α:Type}{le:α→α→Bool}(T:Tot le){is ns:List α}(hp:ns.Perm is)(hs:ns.Pairwise (le · ·=true)):ns=b5 le is :=
 List.Perm.eq_of_pairwise (λa b _ _ h1 h2=>T.anti h1 h2) hs (lW T is).2 (hp.trans (lW T is).1.symm)
theorem G2:Tot leI where
 tot h:=bB (Int.le_of_lt (Int.not_le.mp (of_decide_eq_false h)))
 tr h k:=bB (ak (bA h) (bA k))
 anti h k:=Int.le_antisymm (bA h) (bA k)
noncomputable def bname:BI→Value
 | .len=> .builtin "len" | .sorted=> .builtin "sorted" | .abs=> .builtin "abs" | .int=> .type "int" | .bytes=> .type "bytes" | .list=> .type "list" | .sum=> .builtin "sum"
 | .min1=> .builtin "min" | .min2=> .builtin "min" | .max1=> .builtin "max" | .max2=> .builtin "max"
section
variable{A:Around}{σ:H}{c:C}{x v:V}{a b:Value}{Q:Value→Shared→Prop}{β:Type}{k:V→H→Option β}{r:β}
theorem te{is:List Int}:∀{vs:List Value},VRs c.W (is.map V.int) vs→IntsAre vs is:=by
 induction is with
 | nil=>exact λr=>r.nE▸ .nil
 | cons i is ih=>exact λr=>r.cE λv vs e h1 h2=>h1.elim λt q=>e▸q▸ .cons _ _ (ih h2)
theorem BV{W:Wd}{is:List Int}{vs:List Value}(h:IntsAre vs is):VRs W (is.map V.int) vs:=by
 induction h with
 | nil=>exact .nil
 | cons j t h ih=>exact .cons (VR.int _ _) ih
theorem jW(S:Sim c.W σ c.s.heap){α:Type}{f:List Int→Option α}{z:α}(h:onI σ x f=some z)(rv:VR c.W x a){G:Prop}
  (g:∀is d it n,f is=some z→a= .ref d→c.s.heap.get? d=some (lst it n)→IntsAre it.toList is→is.length≤lim→it.size=is.length→G):G:=Hr h λi is e hx hk=>by
 rw[e] at rv
 exact bH S hx rv λd it n e1 _ ho rs z1 hl=>g is d it n hk e1 ho (te rs) (ah (f:=V.int)▸hl) (ah (f:=V.int) (as:=is)▸z1)
theorem ta{it:Array Value}{is:List Int}(hI:IntsAre it.toList is){G:Prop}(g:∀xs:Array (Int×Tok),it=intItems xs→is=xs.toList.map (·.1)→G):G:=by
 obtain⟨xs,e⟩:=hI.allInts.items
 exact g xs (by rw[←Array.toArray_toList (xs:=it)];exact e.symm▸rfl) (by rw[←hI.numsOf,←nums_intItems,←e])
theorem tS(S:Sim c.W σ c.s.heap)(hh:A.handled=none){f:Bool}{d:Addr}{it:Array Value}{n:Nat}{is:List Int}{m:Int}(ho:c.s.heap.get? d=some (lst it n))(hI:IntsAre it.toList is)(hm:(if f then xN is else C2 is)=some m)
  (e:k (.int m) σ=some r) (q:Kq c k r Q):wpAny M A (call (.builtin (if f then "max" else "min")) [.ref d]) Q Ex c.s:=ta hI λxs e1 e2=>by
 subst e1
 have len:(xs.toList.map (·.1)).length=xs.size:=by rw[ah,Array.length_toList]
 have hsz:0<xs.size:=Nat.pos_of_ne_zero λq=>by
  have:is=[]:=e2.trans (List.eq_nil_of_length_eq_zero (len.trans q))
  subst this
  cases f <;> exact ns hm
 have hmem:∀j,j<xs.size→numAt xs j∈is:=λj hj=>by
  rw[e2,numAt_eq];exact PySem.getD_mem (by rw[len];exact hj)
 have hall:∀{P:Int→Prop},(∀j,j<xs.size→P (numAt xs j))→∀x∈is,P x:=λ{P} h x hx=>by
  rw[e2] at hx
  obtain⟨j,hj,rfl⟩:=mem_getD hx
  rw[len] at hj
  exact numAt_eq ..▸h j hj
 have lt1:∀{j},j≤xs.size-1→j<xs.size:=λh=>ax h (Nat.sub_lt hsz Nat.one_pos)
 cases f with
 | false =>
  refine min_intList hh (xs:=xs) ⟨_,ho,rfl,n,rfl⟩ hsz λv h' tk hv hk=> ?_
  obtain⟨t,rfl⟩:=intItems_at hv
  obtain⟨h1,h2⟩:=argBest_lt (numAt xs) (xs.size-1)
  rw[C0 hm (hmem _ (lt1 h1)) (hall λj hj=>h2 j (Nat.le_pred_of_lt hj))]
  exact q.keep S e (VR.int _ _) hk tk
 | true =>
  refine max_intList hh (xs:=xs) ⟨_,ho,rfl,n,rfl⟩ hsz λv h' tk hv hk=> ?_
  obtain⟨t,rfl⟩:=intItems_at hv
  obtain⟨h1,h2⟩:=argBest_gt (numAt xs) (xs.size-1)
  rw[C6 hm (hmem _ (lt1 h1)) (hall λj hj=>h2 j (Nat.le_pred_of_lt hj))]
  exact q.keep S e (VR.int _ _) hk tk
theorem BO(S:Sim c.W σ c.s.heap)(hh:A.handled=none){b:BI}{xs:List V}{vals:List Value}(hb:∀x a,sr x σ k=some r→VR c.W x a→wpAny M A (call (.builtin "sorted") [a]) Q Ex c.s)(rs:VRs c.W xs vals)(h:biop b xs σ k=some r)(q:Kq c k r Q) :
  wpAny M A (call (bname b) vals) Q Ex c.s:=by
 have one:∀{f:V→Option β},((one xs).bind f)=some r→∀{G:Prop},(∀x a,vals=[a]→VR c.W x a→f x=some r→G)→G:=λ{f} h {G} g=>bE h λx hx h=>by
  rw[nB hx] at rs
  exact rs.e1 λa e ra=>g x a e ra h
 have two:∀{f:Int→Int→Option β},((two xs).bind λp=>intz p.1 p.2 f)=some r→∀{G:Prop},(∀i j t u,vals=[.int i t,.int j u]→f i j=some r→G)→G:=λ{f} h {G} g=>bE h λp hp h=>oi h λi j ei ej h=>by
  rw[ki hp,ei,ej] at rs
  exact rs.e2 λa b e ra rb=>ra.elim λt et=>rb.elim λu eu=>g i j t u (et▸eu▸e) h
 cases b with
 | len =>
  refine one h λx a ev ra h=>bE h λi hi e=> ?_
  rw[ev]
  cases x with
  | ref j =>
   refine bE hi λys hy ei=>bH S hy ra λd it n e1 _ ho rs z hl=> ?_
   rw[←Option.some.inj ei,←z] at e
   rw[e1]
   exact Calls.call_len_list (items:=it) ⟨_,ho,rfl,n,rfl⟩ (aP.mpr (xP (z▸hl))) (q.same S e (VR.int _ _) _)
  | bytes l =>
   obtain⟨hl,b,t,rfl,rfl⟩:=ra
   rw[←Option.some.inj hi,KBw.ints_length] at e
   rw[KBw.ints_length] at hl
   exact len_bytes (ae hl (by decide)) (q.same S e (VR.int _ _) _)
  | _=>exact ns hi
 | sorted=>exact one h λx a ev ra h=>ev▸hb x a h ra
 | abs =>
  refine one h λx a ev ra h=>bE h λi hi e=> ?_
  rw[ev]
  rw[cO hi] at ra
  obtain⟨t,rfl⟩:=ra
  refine call_abs_int λu tk=> ?_
  rw[show(if i<0 then -i else i)=(i.natAbs:Int) by split <;> omega]
  exact q.same S e (VR.int _ _) _
 | int =>
  refine one h λx a ev ra h=>bE h λi hi e=> ?_
  rw[ev]
  cases x with
  | bool b=>rw[show a=_ from ra];exact call_int_bool (q.same S (Option.some.inj hi▸e) (VR.int _ _) _)
  | int j=>obtain⟨t,rfl⟩:=ra;exact call_int_int (q.here S (Option.some.inj hi▸e) (VR.int _ _))
  | _=>exact ns hi
 | bytes =>
  refine one h λx a ev ra h=>jW S h ra λis d it n h2 e1 ho hI hl hz=>gE h2 λhr e=> ?_
  have hr:∀i∈is,0≤i∧i<256:=λi hi=>(ar.mp (List.all_eq_true.mp hr i hi)).imp bA bA
  rw[ev,e1]
  exact call_bytes_ints (vs:=it.toList) (ns:=is) ⟨_,ho,rfl,n,rfl⟩ hI hr (by rw[Array.length_toList,hz];exact cu hl) hh λh' t k hk=>q.keep S e (VR.bytes t (KBa.ints_make hr) hl) hk k
 | list =>
  refine one h λx a ev ra h=>jp h λi ys ei hy e=> ?_
  rw[ei] at ra
  refine bH S hy ra λd it n e1 _ ho rs z hl=> ?_
  rw[ev,e1]
  exact call_list_seq d (.inl rfl) ho rfl rfl (λh' c hk hc=>q.list S e rs hl hk (cL _) hc _) (z▸cu hl)
 | sum =>
  refine one h λx a ev ra h=>jW S h ra λis d it n e e1 ho hI hl hz=>ta hI λxs e2 e3=> ?_
  rw[ev,e1]
  subst e2
  refine sum_intListG (xs:=xs) hh ⟨_,ho,rfl,n,rfl⟩ λh' tk t' hk=> ?_
  rw[preSum_eq,List.take_of_length_le (by rw[ah,Array.length_toList];exact aD _),←e3]
  exact q.keep S e (VR.int _ _) hk tk
 | min1=>exact one h λx a ev ra h=>jW S h ra λis d it n h2 e1 ho hI hl hz=>bE h2 λm hm e=>ev▸e1▸tS S hh (f:=false) ho hI hm e q
 | max1=>exact one h λx a ev ra h=>jW S h ra λis d it n h2 e1 ho hI hl hz=>bE h2 λm hm e=>ev▸e1▸tS S hh (f:=true) ho hI hm e q
 | min2 =>
  refine two h λi j t u ev e=>ev▸min_two_ints hh λh' tk hk=> ?_
  by_cases z:j<i
  ·rw[if_pos z];rw[Int.min_eq_right (Int.le_of_lt z)] at e;exact q.keep S e (VR.int _ _) hk tk
  ·rw[if_neg z];rw[Int.min_eq_left (bx.mp z)] at e;exact q.keep S e (VR.int _ _) hk tk
 | max2 =>
  refine two h λi j t u ev e=>ev▸max_two_ints hh λh' tk hk=> ?_
  by_cases z:j>i
  ·rw[if_pos z];rw[Int.max_eq_right (Int.le_of_lt z)] at e;exact q.keep S e (VR.int _ _) hk tk
  ·rw[if_neg z];rw[Int.max_eq_left (bx.mp z)] at e;exact q.keep S e (VR.int _ _) hk tk
end
noncomputable def bS(P:Fr)(n:Nat)(F:FT)(e:E)(x:PySem.Expr):Prop :=
 ∀{β:Type} {A:Around} {σ:H} {le:Le} {c:C} {k:V→H→Option β} {r:β} {Q:Value→Shared→Prop},At P n A σ le c→evK F e le σ k=some r→Kq c k r Q→wpAny M A (eval x P.env) Q Ex c.s
noncomputable def Kb{β:Type}(c:C)(k:V→H→Option β)(r:β)(Q:Bool→Shared→Prop):Prop:=∀v b σ' c',b6 v=some b→k v σ'=some r→Gd0 c σ' c'→Q b c'.s
noncomputable def gr(P:Fr)(n:Nat)(F:FT)(e:E)(x:PySem.Expr):Prop :=
 ∀{β:Type} {A:Around} {σ:H} {le:Le} {c:C} {k:Bool→H→Option β} {r:β} {Q:Bool→Shared→Prop},At P n A σ le c→evK F e le σ (λv σ=>(b6 v).bind λb=>k b σ)=some r→
  (∀b σ' c',k b σ'=some r→Gd0 c σ' c'→Q b c'.s)→wpAny M A (isTrue x P.env (eval x P.env)) Q Ex c.s
noncomputable def Ir(P:Fr)(n:Nat)(F:FT)(es:List E)(xs:List PySem.Expr):Prop :=
 ∀{β:Type} {A:Around} {σ:H} {le:Le} {c:C} {k:List V→H→Option β} {r:β} {Q:List Value→Shared→Prop},At P n A σ le c→ic F es le σ k=some r→
  (∀vs σ' vals c',k vs σ'=some r→Gd0 c σ' c'→VRs c'.W vs vals→Q vals c'.s)→wpAny M A (spliced (starEach xs P.env)) Q Ex c.s
section
variable{P:Fr}{n:Nat}{F:FT}
theorem VR.of_bool{W:Wd}{x:V}{b:Bool}{v:Value}(r:VR W x v)(h:b6 x=some b):v= .bool b:=by
 rw[ld h] at r;exact r
theorem gr.plain{e:E}{x:PySem.Expr}(he:isTrue x P.env (eval x P.env)=(do let v←eval x P.env;standAt x.pos;holding [v] (truthy v)))(h:bS P n F e x):gr P n F e x:=λa e q=>by
 rw[he]
 exact wpAny_bind (h a e λv σ' v' c' e g rv=>bE e λb hb e=>wpAny_bind (wpAny_standAt (wpAny_holding (rv.of_bool hb▸wpAny_truthy_bool (q b σ' c' e g)))))
theorem Fy{i:Nat}{nm:PySem.Str}{pos:Pos}(hm:vL P i nm)(hd:(nm==("__debug__" :PySem.Str))=false)(hc:(nm==("__classdict__" :PySem.Str))=false):bS P n F (.var i) (.Name nm pos):=λ{β A σ le c k r Q} a e q =>
 bE e λv hv e=>wpAny_Name (qj a hm hc hv λv' rv=>q v σ v' c e a.rf rv) hd
theorem CF{k:Nat}{pos:Pos}:bS P n F (.lit .none) (.Constant .none k pos):=λ{β A σ le c k r Q} a e q=>PyProof.Rows.Constant_none (q _ _ _ c e a.rf VR.none)
theorem CM{b:Bool}{k:Nat}{pos:Pos}:bS P n F (.lit (.bool b)) (.Constant (.bool b) k pos):=λ{β A σ le c k r Q} a e q=>PyProof.Rows.Constant_bool (q _ _ _ c e a.rf (VR.bool _))
theorem FJ{i:Int}{k:Nat}{pos:Pos}:bS P n F (.lit (.int i)) (.Constant (.int i) k pos):=λa e q=>wpAny_Constant_int (q.same a.sim e (VR.int _ _) _)
theorem FC{i:Nat}(hi:i<14){k:Nat}{pos:Pos}:bS P n F (.lit (.str i)) (.Constant (.str (eJ i)) k pos):=λa e q=>Calls.Constant_str (q.same (v:= .str i) a.sim e ⟨hi,_,rfl⟩ _)
theorem zT{l:List UInt8}{k:Nat}{pos:Pos}(hl:l.length≤lim):bS P n F (.lit (.bytes (l.map λc=>(c.toNat:Int)))) (.Constant (.bytes l) k pos):=λa e q=>Constant_bytes (q.same a.sim e (VR.bytes _ rfl (by rw[ah];exact hl)) _)
theorem FP{op:BOp}{a b:E}{l r:PySem.Expr}{pos:Pos}(h1:bS P n F a l)(h2:bS P n F b r):bS P n F (.bin op a b) (.BinOp l (rop op) r pos):=λa e q =>
 wpAny_BinOp (h1 a e λx σ₁ va c₁ e g₁ ra=>h2 (a.next g₁) e λy σ₂ vb c₂ e g₂ rb=>yk g₂.sim (ra.mono g₂.le) rb e (q.up (g₁.trans g₂)))
theorem FH{a:E}{x:PySem.Expr}{pos:Pos}(h1:bS P n F a x):bS P n F (.neg a) (.UnaryOp .USub x pos):=λa e q =>
 wpAny_UnaryOp (h1 a e λv σ₁ va c₁ e g₁ ra=>bE e λi hi e=>by
  rw[cO hi] at ra
  obtain⟨t,rfl⟩:=ra
  exact PyProof.Rows.neg_int ((q.up g₁).same g₁.sim e (VR.int _ _) _))
theorem FG{a:E}{x:PySem.Expr}{pos:Pos}(h1:bS P n F a x):bS P n F (.not a) (.UnaryOp .Not x pos):=λa e q =>
 wpAny_UnaryOp (h1 a e λv σ₁ va c₁ e g₁ ra=>bE e λi hi e=>ra.of_bool hi▸not_of (wpAny_truthy_bool (q _ _ _ c₁ e g₁ (VR.bool _))))
theorem E4{a:E}{x:PySem.Expr}{pos:Pos}(h1:gr P n F a x):gr P n F (.not a) (.UnaryOp .Not x pos):=λ{β A σ le c k r Q} a e q =>
 isTrue_not (h1 (k:=λb σ=>k (!b) σ) a e λb σ' c' e g=>q (!b) σ' c' e g)
theorem FI{c a b:E}{t x y:PySem.Expr}{pos:Pos}(h0:gr P n F c t)(h1:bS P n F a x)(h2:bS P n F b y):bS P n F (.ite c a b) (.IfExp t x y pos):=λ{β A σ le c k r Q} at_ e q =>
 wpAny_IfExp (h0 (k:=λt σ=>if t then evK F a le σ k else evK F b le σ k) at_ e λd σ₁ c₁ e g₁=>by
  cases d with
  | false=>exact h2 (at_.next g₁) e (q.up g₁)
  | true=>exact h1 (at_.next g₁) e (q.up g₁))
theorem E5{c a b:E}{t x y:PySem.Expr}{pos:Pos}(h0:gr P n F c t)(h1:gr P n F a x)(h2:gr P n F b y):gr P n F (.ite c a b) (.IfExp t x y pos):=λ{β A σ le c k r Q} at_ e q =>
 isTrue_IfExp (h0 (k:=λt σ=>if t then evK F a le σ _ else evK F b le σ _) at_ e λd σ₁ c₁ e g₁=>by
  cases d with
  | false=>exact h2 (at_.next g₁) e λb σ' c' e g=>q b σ' c' e (g₁.trans g)
  | true=>exact h1 (at_.next g₁) e λb σ' c' e g=>q b σ' c' e (g₁.trans g))
noncomputable def yw(P:Fr)(n:Nat)(F:FT)(op:BoolOp)(e:E)(ys:List PySem.Expr):Prop :=
 (∀{pos:Pos},bS P n F e (.BoolOp op ys pos))∧∀{β:Type} {A:Around} {σ:H} {le:Le} {c:C} {k:Bool→H→Option β} {r:β} {Q:Bool→Shared→Prop} {pos:Pos} {whole:Sem Value},At P n A σ le c→evK F e le σ (λv σ=>(b6 v).bind λb=>k b σ)=some r→
  (∀b σ' c',k b σ'=some r→Gd0 c σ' c'→Q b c'.s)→wpAny M A (isTrue (.BoolOp op ys pos) P.env whole) Q Ex c.s
theorem E8{op:BoolOp}{e:E}{y:PySem.Expr}(h:bS P n F e y)(t:gr P n F e y):yw P n F op e [y]:=by
 refine⟨λa e q=>BoolOp_one (h a e q),λ{β A σ le c k r Q pos whole} a e q=> ?_⟩
 cases op with
 | And=>exact isTrue_and (t a e λb σ' c' e g=>by
   cases b with
   | false=>exact q _ _ c' e g
   | true=>exact isTrue_and_nil (q _ _ c' e g))
 | Or=>exact isTrue_or (t a e λb σ' c' e g=>by
   cases b with
   | false=>exact isTrue_or_nil (q _ _ c' e g)
   | true=>exact q _ _ c' e g)
theorem E9{a b:E}{x y:PySem.Expr}{rest:List PySem.Expr}(h:bS P n F a x)(t:gr P n F a x)(l:yw P n F .And b (y::rest)):yw P n F .And (.and a b) (x::y::rest):=by
 refine⟨λ{pos β A σ le c k r Q} at_ e q=>BoolOp_and (h at_ e λv σ₁ va c₁ e g₁ ra=>bE e λd hd e=>ra.of_bool hd▸wpAny_truthy_bool ?_),λ{β A σ le c k r Q pos whole} at_ e q =>
  isTrue_and (t (k:=λd σ=>if d then evK F b le σ (λy σ=>(b6 y).bind λd=>(b6 (.bool d)).bind λb=>k b σ) else(b6 (.bool false)).bind λb=>k b σ) at_ e λd σ₁ c₁ e g₁=> ?_)⟩
 ·cases d with
  | false=>exact q _ _ _ c₁ e g₁ (VR.bool _)
  | true=>exact l.1 (at_.next g₁) e λv σ₂ v' c₂ e g₂ rv=>bE e λd hd e=>q v σ₂ v' c₂ (ld hd▸e) (g₁.trans g₂) rv
 ·cases d with
  | false=>exact q _ _ c₁ e g₁
  | true=>exact l.2 (at_.next g₁) e λb σ' c' e g=>q b σ' c' e (g₁.trans g)
theorem G5{a b:E}{x y:PySem.Expr}{rest:List PySem.Expr}(h:bS P n F a x)(t:gr P n F a x)(l:yw P n F .Or b (y::rest)):yw P n F .Or (.or a b) (x::y::rest):=by
 refine⟨λ{pos β A σ le c k r Q} at_ e q=>BoolOp_or (h at_ e λv σ₁ va c₁ e g₁ ra=>bE e λd hd e=>ra.of_bool hd▸wpAny_truthy_bool ?_),λ{β A σ le c k r Q pos whole} at_ e q =>
  isTrue_or (t (k:=λd σ=>if d then(b6 (.bool true)).bind λb=>k b σ else evK F b le σ (λy σ=>(b6 y).bind λd=>(b6 (.bool d)).bind λb=>k b σ)) at_ e λd σ₁ c₁ e g₁=> ?_)⟩
 ·cases d with
  | false=>exact l.1 (at_.next g₁) e λv σ₂ v' c₂ e g₂ rv=>bE e λd hd e=>q v σ₂ v' c₂ (ld hd▸e) (g₁.trans g₂) rv
  | true=>exact q _ _ _ c₁ e g₁ (VR.bool _)
 ·cases d with
  | false=>exact l.2 (at_.next g₁) e λb σ' c' e g=>q b σ' c' e (g₁.trans g)
  | true=>exact q _ _ c₁ e g₁
theorem FO{op:COp}{a b:E}{l r:PySem.Expr}{pos:Pos}(hm:behindInMarks (cop op) r=false)(h1:bS P n F a l)(h2:bS P n F b r):bS P n F (.cmp op a b) (.Compare l [cop op] [r] pos):=λ{β A σ le c k r Q} a e q =>
 wpAny_Compare1 (h1 a e λx σ₁ va c₁ e g₁ ra=>h2 (a.next g₁) e λy σ₂ vb c₂ e g₂ rb=>bE e λd hd e=>i8 g₂.sim a.u64 hd (ra.mono g₂.le) rb λt=>(q.up (g₁.trans g₂)).same g₂.sim e (VR.bool d) t) hm
theorem E6{op:COp}{a b:E}{l r:PySem.Expr}{pos:Pos}(hm:behindInMarks (cop op) r=false)(h1:bS P n F a l)(h2:bS P n F b r):gr P n F (.cmp op a b) (.Compare l [cop op] [r] pos):=λ{β A σ le c k z Q} a e q=>by
 rw[arm_isTrue_Compare]
 refine wpAny_bind (h1 a e λx σ₁ va c₁ e g₁ ra=> ?_)
 show wpAny _ _ (testChain pos va [cop op] [markedBehindIn (cop op) r (eval r P.env)]) _ _ _
 rw[markedBehindIn_of_false hm]
 show wpAny _ _ (do
  let rv←holding [va] (eval r P.env)
  standAt pos
  let c←operate [va,rv] (compareOp (cop op) va rv)
  holding [c] (truthy c)) _ _ _
 exact wpAny_bind (wpAny_holding (h2 (a.next g₁) e λy σ₂ vb c₂ e g₂ rb=>bE e λd hd e=>wpAny_bind (wpAny_standAt (wpAny_bind (wpAny_operateT (i8 g₂.sim a.u64 hd (ra.mono g₂.le) rb λt=>wpAny_holding (wpAny_truthy_bool (q d _ ⟨c₂.W,_⟩ e ((g₁.trans g₂).toks t)))))))))
theorem CK{op op':COp}{a b d:E}{l r q:PySem.Expr}{pos:Pos}(hm:lastMarks [cop op,cop op'] [r,q]=false)(h1:bS P n F a l)(h2:bS P n F b r)(h3:bS P n F d q):bS P n F (.cmp2 op op' a b d) (.Compare l [cop op,cop op'] [r,q] pos):=λ{β A σ le c k z Q} at_ e q =>
 Compare_chain (h1 at_ e λx σ₁ va c₁ e g₁ ra=>chain_link (h2 (at_.next g₁) e λy σ₂ vb c₂ e g₂ rb=>bE e λt hd e=>i8 g₂.sim at_.u64 hd (ra.mono g₂.le) rb λj=>wpAny_truthy_bool (by
  have g₃:=(g₁.trans g₂).toks j
  cases t with
  | false=>exact q _ _ _ ⟨c₂.W,_⟩ e g₃ (VR.bool _)
  | true=>exact chain_last (h3 (at_.next g₃) e λw σ₄ vc c₄ e g₄ rc=>bE e λt hc e=>i8 g₄.sim at_.u64 hc (rb.mono g₄.le) rc λj=>(q.up (g₃.trans g₄)).same g₄.sim e (VR.bool _) j)))) hm
theorem B8{op op':COp}{a b d:E}{l r q:PySem.Expr}{pos:Pos}(hm:lastMarks [cop op,cop op'] [r,q]=false)(h1:bS P n F a l)(h2:bS P n F b r)(h3:bS P n F d q):gr P n F (.cmp2 op op' a b d) (.Compare l [cop op,cop op'] [r,q] pos):=λ{β A σ le c k z Q} at_ e q =>
 isTrue_chain (h1 at_ e λx σ₁ va c₁ e g₁ ra=>test_link (h2 (at_.next g₁) e λy σ₂ vb c₂ e g₂ rb=>bE e λt hd e=>i8 g₂.sim at_.u64 hd (ra.mono g₂.le) rb λj=>wpAny_truthy_bool (by
  have g₃:=(g₁.trans g₂).toks j
  cases t with
  | false=>exact q _ _ ⟨c₂.W,_⟩ e g₃
  | true=>exact test_last (h3 (at_.next g₃) e λw σ₄ vc c₄ e g₄ rc=>bE e λt hc e=>i8 g₄.sim at_.u64 hc (rb.mono g₄.le) rc λj=>wpAny_truthy_bool (q t _ ⟨c₄.W,_⟩ e ((g₃.trans g₄).toks j)))))) hm
end
theorem w5{o:PySem.Expr}(h:e6 o=true)(a:PySem.Str)(env:Env)(t:Sem Value):attributeBase o a env t=t:=by
 cases o with
 | Name=>rfl
 | Subscript=>rfl
 | Attribute=>rfl
 | Constant=>rfl
 | ListComp=>rfl
 | _=>exact ft h
theorem c8{e:PySem.Expr}(h:dP e=true)(rest:List PySem.Expr)(env:Env):starEach (e::rest) env=(false,eval e env)::starEach rest env:=by
 cases e with
 | Starred=>exact ft h
 | _=>rfl
theorem cS(pos:Pos)(env:Env)(xs:List PySem.Expr)(h:xs.all dP=true):backTo pos (starEach xs env)=starEach xs env:=by
 induction xs with
 | nil=>rfl
 | cons x xs ih =>
  obtain⟨h1,h2⟩:=ar.mp h
  rw[c8 h1]
  exact congrArg ((false,eval x env)::·) (ih h2)
theorem fO(env:Env)(xs:List PySem.Expr)(h:xs.all dP=true):(starEach xs env).any (·.1)=false:=by
 induction xs with
 | nil=>rfl
 | cons x xs ih =>
  obtain⟨h1,h2⟩:=ar.mp h
  rw[c8 h1,List.any_cons,ih h2];rfl
section
variable{P:Fr}{n:Nat}{F:FT}
theorem mK{A:Around}{s:Shared}{value slice:PySem.Expr}{o i:Value}{Q:Value→Shared→Prop}(h:SubscriptOn M A o i Q Ex s):wpAny M A (subscriptTail value slice o i) Q Ex s:=by
 obtain⟨T,id,hl,hT,hg⟩:=h
 unfold subscriptTail
 refine wpAny_bind ?_
 rw[getitemInPython_of_ne hT.not_modules]
 refine wpAny_bind (wpAny_specialOf hT hl ?_)
 have h1:∀vs,wpAny M A (operate vs (getItem o i)) (λr s₃=>wpAny M A (letTemporaryGo value o r>>=λ_=>pure r) Q Ex s₃) Ex s:=λvs =>
  wpAny_operateT (wpAny_mono hg (λr s₃ h₃=>wpAny_bind (wpAny_letTemporaryGo (wpAny_pure h₃))) λ_ _ x=>x)
 have fin:wpAny M A (subscripted slice false o i) (λr s₃=>wpAny M A (letTemporaryGo value o r>>=λ_=>pure r) Q Ex s₃) Ex s:=by
  cases slice with
  | Slice l u t p=>cases u <;> cases t <;> exact h1 _
  | _=>exact h1 _
 first
  | exact wpAny_pure (wpAny_bind fin)
  | exact wpAny_bind (wpAny_pure (wpAny_bind fin))
  | exact wpAny_bind fin
theorem FK{a b:E}{x y:PySem.Expr}{pos:Pos}(h1:bS P n F a x)(h2:bS P n F b y):bS P n F (.idx a b) (.Subscript x y pos):=λat_ e q =>
 Subscript_ (h1 at_ e λu σ₁ va c₁ e g₁ ra=>h2 (at_.next g₁) e λz σ₂ vb c₂ e g₂ rb=>bE e λv hv e=>mK (Ds g₂.sim hv (ra.mono g₂.le) rb λv' t rv=>(q.up (g₁.trans g₂)).same g₂.sim e rv t))
noncomputable def vM(P:Fr)(n:Nat)(F:FT)(e:E)(x:Option PySem.Expr):Prop :=
 ∀{β:Type} {A:Around} {σ:H} {le:Le} {c:C} {k:V→H→Option β} {r:β} {Q:Value→Shared→Prop},At P n A σ le c→evK F e le σ k=some r→Kq c k r Q→wpAny M A (evalPart x P.env) Q Ex c.s
theorem CB:vM P n F (.lit .none) none:=λ{β A σ le c k r Q} a e q=>wpAny_evalPart_none (q _ _ _ c e a.rf VR.none)
theorem CA{e:E}{x:PySem.Expr}(h:bS P n F e x):vM P n F e (some x):=λa e q=>wpAny_evalPart_some (h a e q)
theorem FD{a lo hi:E}{x:PySem.Expr}{l u:Option PySem.Expr}{p pos:Pos}(h1:bS P n F a x)(h2:vM P n F lo l)(h3:vM P n F hi u):bS P n F (.slc a lo hi) (.Subscript x (.Slice l u none p) pos):=λat_ e q =>
 Subscript_ (h1 at_ e λb σ₁ va c₁ e g₁ ra=>wpAny_Slice (h2 (at_.next g₁) e λd σ₂ vb c₂ e g₂ rb=>h3 (at_.next (g₁.trans g₂)) e λf σ₃ vc c₃ e g₃ rc=>wpAny_evalPart_none (mK
  (Cn (c:=⟨c₃.W,_⟩) (Good.push g₃.sim _).sim (Heap.IsSliceOf.new ..) ((ra.mono g₂.le).mono g₃.le) (rb.mono g₃.le) rc e (q.up (((g₁.trans g₂).trans g₃).trans (Good.push g₃.sim _)))))))
theorem FE{a:E}{x:PySem.Expr}{k:Nat}{p₁ p₂ p pos:Pos}(h1:bS P n F a x):bS P n F (.rev a) (.Subscript x (.Slice none none (some (.UnaryOp .USub (.Constant (.int 1) k p₁) p₂)) p) pos):=λat_ e q =>
 Subscript_ (h1 at_ e λb σ₁ va c₁ e g₁ ra=>jp e λi xs hb hx e=>wpAny_Slice (wpAny_evalPart_none (wpAny_evalPart_none (wpAny_evalPart_some (wpAny_UnaryOp (wpAny_Constant_int (PyProof.Rows.neg_int (mK (
  have g:=(g₁.toks (c₁.s.toks+1+1)).trans (Good.push (g₁.toks (c₁.s.toks+1+1)).sim _)
  Cv (c:=⟨c₁.W,_⟩) g.sim (Heap.IsSliceOf.new ..) (hb▸ra) hx e (q.up g))))))))))
theorem CN{a:E}{c f:Nat}{x:PySem.Expr}{nm:PySem.Str}{pos:Pos}(hn:(cQ c)[f]? =some nm)(hs:e6 x=true)(h1:bS P n F a x):bS P n F (.attr a c f) (.Attribute x nm pos):=λat_ e q=>by
 rw[arm_eval_Attribute,w5 hs]
 exact wpAny_bind (h1 at_ e λv σ₁ va c₁ e g₁ ra=>bE e λi hi e=>bE e λfs hf e=>bE e λu hu e=>wpAny_bind (wpAny_standAt (wpAny_bind (wpAny_holding
  (wI g₁.sim hf hu hn (cN hi▸ra) λv' t rv=>wpAny_bind (wpAny_letTemporaryGo (wpAny_pure ((q.up g₁).same g₁.sim e rv t))))))))
noncomputable def EvE(P:Fr)(n:Nat)(F:FT)(e:E)(x:PySem.Expr):Prop:=bS P n F e x∧dP x=true
theorem fj{es:List E}{xs:List PySem.Expr}(h:All2 (EvE P n F) es xs):xs.all dP=true:=by
 induction h with
 | nil=>rfl
 | cons h1 _ ih=>exact ar.mpr ⟨h1.2,ih⟩
theorem vo{es:List E}{xs:List PySem.Expr}(h:All2 (EvE P n F) es xs):Ir P n F es xs:=by
 induction h with
 | nil=>exact λ{β A σ le c k r Q} at_ e q=>Calls.spliced_nil (q _ _ _ c e at_.rf .nil)
 | @cons e x es xs h1 h2 ih =>
  refine λ{β A σ le c k r Q} at_ e q=> ?_
  rw[c8 h1.2]
  exact Calls.spliced_cons (h1.1 at_ e λu σ₁ va c₁ e g₁ ra=>ih (at_.next g₁) e λus σ₂ vals c₂ e g₂ rs=>q _ _ _ c₂ e (g₁.trans g₂) (.cons (ra.mono g₂.le) rs))
theorem CG{es:List E}{xs:List PySem.Expr}{pos:Pos}(h:All2 (EvE P n F) es xs):bS P n F (.list es) (.List xs pos):=λat_ e q=>wpAny_List (by
 rw[cS _ _ _ (fj h)]
 exact vo h at_ e λvs σ₁ vals c₁ e g₁ rs=>gE e λhl e=>⟨rs.length▸cu hl,(q.up g₁).top g₁.sim e rs hl⟩)
theorem Fz{es:List E}{xs:List PySem.Expr}{k:Nat}{pos:Pos}(h:All2 (EvE P n F) es xs):bS P n F (.tup es) (.Tuple xs k pos):=λat_ e q=>wpAny_Tuple (by
 rw[cS _ _ _ (fj h)]
 exact vo h at_ e λvs σ₁ vals c₁ e g₁ rs=>gE e λhl e=>⟨rs.length▸cu hl,(q.up g₁).tup g₁.sim e rs hl⟩)
noncomputable abbrev dct:Obj:={cls:= .type "dict",data:= .dict #[]}
theorem FM{pos:Pos}:bS P n F .dT0 (.Dict [] [] pos):=λ{β A σ le c k r Q} at_ e q =>
 wpAny_Dict_empty (q _ _ _ ⟨c.W.addO (c.s.heap.objs.size,c.s.heap.objs.size),_⟩ e (Good.newObj (p:=(c.s.heap.objs.size,c.s.heap.objs.size)) (s':={c.s with heap:=c.s.heap.push dct}) at_.sim (eE _ _) (λb hb=>onp hb▸cL _)
  ⟨bu _,rfl,[],⟨_, #[],0,aN _ rfl,⟨rfl,rfl,rfl⟩,rfl,rfl,.nil⟩,.nil⟩ rfl rfl) (VR.new at_.sim _))
theorem Kq.dict{β:Type}{X:Addr→Prop}{σ σ₁:H}{c c₁:C}{k:V→H→Option β}{r:β}{Q:Value→Shared→Prop}{ob:O}{h':Heap}(q:Kq c k r Q)(S:Sim c.W σ c.s.heap)(g:Gd0 ⟨c.W,{c.s with heap:=c.s.heap.push dct}⟩ σ₁ c₁)(e:mkO ob σ₁ k=some r)
  (hs:Heap.SameBut c.s.heap.objs.size c₁.s.heap h') (ro:lV c₁.W h' (c.s.heap.objs.size,c.s.heap.objs.size) ob) (t:Nat):Q (.ref c.s.heap.objs.size) {c₁.s with heap:=h',toks:=t}:=by
 have hp:(c.s.heap.push dct).get? c.s.heap.objs.size=some dct:=aN _ rfl
 have nf:¬c.W.foot c.s.heap.objs.size:=S.off (cL _)
 have hd:=g.kept _ _ hp λz=>z.elim nf id
 exact q _ _ _ ⟨c₁.W.addO (c.s.heap.objs.size,c.s.heap.objs.size),_⟩ e (Good.addO (s':={c₁.s with heap:=h',toks:=t}) S ((Good.push S dct).trans g) (p:=(c.s.heap.objs.size,c.s.heap.objs.size)) (λb hb=>onp hb▸cL _)
  (λb hb=>onp hb▸⟨_,hd,jq rfl⟩) (λb hb=>onp hb▸g.off hp nf) (λb o q hb=>(hs.2 b λz=>hb (.inl z)).trans q) ro rfl rfl) (VR.new (c:=c₁) g.sim _)
theorem n0{σ:H}{c c₁:C}{σ₁:H}(S:Sim c.W σ c.s.heap)(g:Gd0 ⟨c.W,{c.s with heap:=c.s.heap.push dct}⟩ σ₁ c₁):c₁.s.heap.get? c.s.heap.objs.size=some dct :=
 g.kept _ _ (aN _ rfl) λz=>z.elim (S.off (cL _)) id
theorem Aa{p:Program}{w:World}{κ:Type} [DecidableEq κ](k:PySem.KeyKind p w κ):PySem.KeysOf k #[]:=λe he=>absurd he (Array.not_mem_empty e)
inductive Words:List Nat→List (Option PySem.Expr)→Prop
 | nil:Words [] []
 | cons {k kk:Nat} {pp:Pos} {ks:List Nat} {keys:List (Option PySem.Expr)} (h:k<14) (r:Words ks keys):Words (k::ks) (some (.Constant (.str (eJ k)) kk pp)::keys)
theorem zL{es:List E}{xs:List PySem.Expr}{pos:Pos}(h:All2 (EvE P n F) es xs):∀{ks:List Nat} {keys:List (Option PySem.Expr)},Words ks keys→ks.length=es.length→
  ∀{β:Type} {A:Around} {σ:H} {le:Le} {c:C} {k:List V→H→Option β} {r:β} {Q:List (Value×Value)→Shared→Prop},At P n A σ le c→ic F es le σ k=some r→
  (∀vs σ' prs c' (kvs:List (PySem.Str×Value)),k vs σ'=some r→Gd0 c σ' c'→Carries (strKind zp zw) prs kvs→All2 (sR c'.W) (ks.zip vs) kvs→kvs.map (·.1)=ks.map eJ→Q prs c'.s)→wpAny M A (evalPairs (pairTrees keys xs P.env pos)) Q Ex c.s:=by
 induction h with
 | nil =>
  intro ks keys w hl β A σ le c k r Q at_ e q
  cases w with
  | nil=>exact evalPairs_nil (q _ _ _ c [] e at_.rf trivial .nil rfl)
  | cons=>exact absurd hl (Nat.succ_ne_zero _)
 | @cons e x es xs h1 h2 ih =>
  intro ks keys w hl β A σ le c k r Q at_ e q
  cases w with
  | nil=>exact absurd hl.symm (Nat.succ_ne_zero _)
  | cons h14 w=>exact pairTrees_cons_walk (Calls.Constant_str (h1.1 (c:=⟨c.W,_⟩) (at_.next (at_.tk _)) e λv σ₁ va c₁ e g₁ ra=>ih w (Nat.succ.inj hl) (at_.next ((at_.tk _).trans g₁)) e λvs σ₂ prs c₂ kvs e g₂ hc ha hm =>
     q _ _ _ c₂ ((_,va)::kvs) e (((at_.tk _).trans g₁).trans g₂) ⟨strKind_is _ _ _ _,rfl,hc⟩ (.cons ⟨⟨h14,rfl⟩,ra.mono g₂.le⟩ ha) (congrArg (_::·) hm)))
theorem Words.spec{ks:List Nat}{keys:List (Option PySem.Expr)}(w:Words ks keys):keys.all (·.isSome)=true∧keys.length=ks.length∧∀k∈ks,k<14:=by
 induction w with
 | nil=>exact⟨rfl,rfl,aj _⟩
 | cons h w ih=>exact⟨ih.1,congrArg Nat.succ ih.2.1,ao.mpr ⟨h,ih.2.2⟩⟩
theorem sL{ks:List Nat}(hn:ks.Nodup)(hk:∀k∈ks,k<14):(ks.map eJ).Nodup:=by
 induction ks with
 | nil=>exact .nil
 | cons k ks ih =>
  obtain⟨n1,n2⟩:=aQ.mp hn
  obtain⟨k1,k2⟩:=ao.mp hk
  refine aQ.mpr ⟨λhm=> ?_,ih n2 k2⟩
  obtain⟨j,hj,e⟩:=bb.mp hm
  exact n1 (iP (k2 j hj) k1 e▸hj)
theorem Ht{ks:List Nat}{keys:List (Option PySem.Expr)}{es:List E}{xs:List PySem.Expr}{pos:Pos}(w:Words ks keys)(hl:ks.length=es.length)(hne:ks≠[])(h15:ks.length≤15)(hnd:ks.Nodup)(h:All2 (EvE P n F) es xs):bS P n F (.dS ks es) (.Dict keys xs pos):=λ{β A σ le c k r Q} at_ e q=>by
 obtain⟨k1,k2,k3⟩:=w.spec
 refine wpAny_Dict_walk (knd:=strKind zp zw) k1 (k2.trans (hl.trans h.length)) (λz=>hne (List.length_eq_zero_iff.mp (k2.symm.trans (congrArg List.length z)))) (k2▸h15) ?_
 refine zL (c:=⟨c.W,{c.s with heap:=c.s.heap.push dct}⟩) h w hl (at_.next (Good.push at_.sim dct)) e λvs σ₁ prs c₁ kvs e g₁ hcar ha hm=>gE e λhc e=> ?_
 have hnd':(kvs.map (·.1)).Nodup:=by rw[hm];exact sL hnd k3
 refine⟨kvs,hcar,⟨_, #[],0,n0 at_.sim g₁,⟨rfl,rfl,rfl⟩,rfl,Aa _,.nil,.nil⟩,λh' hd' hs'=> ?_⟩
 rw[merged_nil_of_nodup _ hnd'] at hd'
 exact q.dict (X:=noX) at_.sim g₁ e hs' ⟨by rw[List.length_zip];exact ae (Nat.min_le_right _ _) hc.2,rfl,kvs,hd',ha⟩ _
theorem FN{i v j w:E}{kx vx kx' vx':PySem.Expr}{pos:Pos}(h1:bS P n F i kx)(h2:bS P n F v vx)(h3:bS P n F j kx')(h4:bS P n F w vx'):bS P n F (.dI2 i v j w) (.Dict [some kx,some kx'] [vx,vx'] pos):=λ{β A σ le c k r Q} at_ e q=>by
 refine wpAny_Dict_walk (knd:=intKind zp zw) rfl rfl (bw _ _) (show 2≤15 by decide) ?_
 refine pairTrees_cons_walk (h1 (c:=⟨c.W,{c.s with heap:=c.s.heap.push dct}⟩) (at_.next (Good.push at_.sim dct)) e λx σ₁ va c₁ e g₁ ra=>h2 (at_.next ((Good.push at_.sim dct).trans g₁)) e λy σ₂ vb c₂ e g₂ rb =>
  pairTrees_cons_walk (h3 (at_.next ((Good.push at_.sim dct).trans (g₁.trans g₂))) e λz σ₃ vc c₃ e g₃ rc=>h4 (at_.next ((Good.push at_.sim dct).trans ((g₁.trans g₂).trans g₃))) e λu σ₄ vd c₄ e g₄ rd=>pairTrees_nil_walk (oi e λi j ei ej e=> ?_)))
 rw[ei] at ra
 rw[ej] at rc
 obtain⟨t,rfl⟩:=ra
 obtain⟨t',rfl⟩:=rc
 have g:=((g₁.trans g₂).trans g₃).trans g₄
 refine⟨[(i,vb),(j,vd)],⟨intKind_is _ _ _ _,rfl,intKind_is _ _ _ _,rfl,trivial⟩,⟨_, #[],0,n0 at_.sim g,⟨rfl,rfl,rfl⟩,rfl,Aa _,.nil,.nil⟩,λh' hd' hs'=> ?_⟩
 have hm:merged ([]:List (Int×Value)) [(i,vb),(j,vd)]=sE j (λ_=>vd) vd [(i,vb)]:=mN (xs:=[(i,vb)]) (aQ.mpr ⟨bm,.nil⟩) j vd
 rw[hm] at hd'
 exact q.dict (X:=noX) at_.sim g e hs' ⟨ae (nv _ _ _) (show 2≤lim by decide),rfl,_,hd',All2.put (R:=iR c₄.W) (.cons ⟨rfl,(rb.mono g₃.le).mono g₄.le⟩ .nil) (λkv x hr=>by rw[hr.1,bF]) (λkv x hr=>⟨hr.1,rd⟩) ⟨rfl,rd⟩⟩ _
end
theorem i9{M:Model}{A:Around}{E:Value→Shared→Prop}{s:Shared}{α:Type}{c:Prop} [d:Decidable c]{x y:Sem α}{Q:α→Shared→Prop}(h:¬c)(k:wpAny M A y Q E s):wpAny M A (if c then x else y) Q E s:=by
 cases d with
 | isTrue q=>exact absurd q h
 | isFalse _=>exact k
theorem De{x:PySem.Str}{b c:List (PySem.Str×Value)}(h:x∉b.map (·.1)):(b++c).lookup x=c.lookup x:=by
 induction b with
 | nil=>rfl
 | cons y b ih =>
  rw[List.cons_append,List.lookup_cons,beq_eq_false_iff_ne.mpr (λe=>h (aE.mpr (.inl e)))]
  exact ih λz=>h (.tail _ z)
theorem DB{l b:List (PySem.Str×Value)}{f:PySem.Str×Value→List (PySem.Str×Value)→Sem (ForInStep (List (PySem.Str×Value)))}
  (hf:∀x b,f x b=if(b.lookup x.1).isNone=true then pure (.yield (b++[(x.1,x.2)])) else pure (.yield b)) (h:∀x∈l,(b.lookup x.1).isSome=true):forIn l b f=pure b:=by
 induction l with
 | nil=>exact List.forIn_nil
 | cons x l ih =>
  obtain⟨h1,h2⟩:=ao.mp h
  rw[List.forIn_cons,hf,if_neg λe=>by rw[Option.isNone_iff_eq_none] at e;rw[e] at h1;exact ft h1,pure_bind]
  exact ih h2
theorem A9{l:List (PySem.Str×Value)}{f:PySem.Str×Value→List (PySem.Str×Value)→Sem (ForInStep (List (PySem.Str×Value)))}
  (hf:∀x b,f x b=if(b.lookup x.1).isNone=true then pure (.yield (b++[(x.1,x.2)])) else pure (.yield b)):∀{b:List (PySem.Str×Value)},((b++l).map (·.1)).Nodup→forIn l b f=pure (b++l):=by
 induction l with
 | nil=>exact λ_=>by rw[aw];exact List.forIn_nil
 | cons x l ih =>
  intro b h
  have hx:x.1∉b.map (·.1):=λhm=>by
   rw[au,List.nodup_append] at h
   exact h.2.2 _ hm _ (aK (.head _)) rfl
  have e:=De (c:=[]) hx
  rw[aw] at e
  have ap:b++[x]++l=b++x::l:=af ..
  rw[List.forIn_cons,hf,if_pos (by rw[e];rfl),pure_bind,←ap]
  exact ih (by rw[ap];exact h)
theorem An{names:List PySem.Str}:∀{vals:List Value} {x:PySem.Str},x∈names.take vals.length→((names.zip vals).lookup x).isSome=true:=by
 induction names with
 | nil=>intro vals x h;rw[List.take_nil] at h;exact absurd h bm
 | cons n names ih=>intro vals x h;cases vals with
  | nil=>exact absurd h bm
  | cons v vals =>
   rw[List.zip_cons_cons,List.lookup_cons]
   cases q:x==n with
   | true=>rfl
   | false=>exact(aE.mp h).elim (λe=>absurd e (beq_eq_false_iff_ne.mp q)) ih
theorem H9{l:List (PySem.Str×Value)}(h:(l.map (·.1)).Nodup):(l.map (·.1)).filterMap (λn=>(l.lookup n).map (n,·))=l:=by
 induction l with
 | nil=>rfl
 | cons x l ih =>
  obtain⟨h1,h2⟩:=aQ.mp (show(x.1::l.map (·.1)).Nodup from h)
  have fm:∀{f g:PySem.Str→Option (PySem.Str×Value)} (m:List PySem.Str),(∀y∈m,f y=g y)→m.filterMap f=m.filterMap g:=λ{f g} m=>by
   induction m with
   | nil=>exact λ_=>rfl
   | cons y m ih=>exact λh=>by rw[List.filterMap_cons,List.filterMap_cons,h y (.head _),ih λz hz=>h z (.tail _ hz)]
  have e:=(fm (f:=λn=>(List.lookup n (x::l)).map (n,·)) (l.map (·.1)) λy hy=>by rw[List.lookup_cons,beq_eq_false_iff_ne.mpr (λ(z:y=x.1)=>h1 (z▸hy))]).trans (ih h2)
  rw[aR,List.filterMap_cons,List.lookup_cons,bC,Option.map_some,e]
theorem rG{α β:Type}(l:List α):∀(m:List β),(l.zip m).map (·.1)=l.take m.length:=by
 induction l with
 | nil=>intro m;rw[List.take_nil];rfl
 | cons a l ih=>intro m;cases m with
  | nil=>rfl
  | cons b m=>exact congrArg (a::·) (ih m)
theorem p4{α β:Type}(l:List α):∀(m d:List β),m.length≤l.length→l.zip m++(l.drop m.length).zip d=l.zip (m++d):=by
 induction l with
 | nil=>intro m d h;cases m with
  | nil=>rfl
  | cons=>exact absurd h (Nat.not_succ_le_zero _)
 | cons a l ih=>intro m d h;cases m with
  | nil=>rfl
  | cons b m=>exact congrArg ((a,b)::·) (ih m d (Nat.le_of_succ_le_succ h))
theorem lI{M:Model}{A:Around}{E:Value→Shared→Prop}{s:Shared}{fd:FuncData}{as:List Arg}{kd:List (Option PySem.Expr)}{de:List PySem.Expr}{vals D:List Value}(hp:fd.params=⟨[],as,none,[],kd,none,de⟩)
  (hn:(as.map (·.arg)).Nodup) (hl:(vals.length=as.length∧D.length≤as.length)∨vals.length+D.length=as.length)
  {Q:List (PySem.Str×Value)→Shared→Prop} (hseq:∀Q':Option (Array Value)→Shared→Prop,(∀o,(o.getD #[]).toList=D→Q' o s)→wpAny M A (seqItems? fd.defaults) Q' E s)
  (h:Q ((as.map (·.arg)).zip (if vals.length=as.length then vals else vals++D)) s):wpAny M A (bindArgs fd ⟨vals,[]⟩) Q E s:=by
 unfold bindArgs
 rw[hp]
 generalize hnm:as.map (·.arg)=names at h hn
 have hln:names.length=as.length:=by rw[←hnm,ah]
 rw[←hln] at hl h
 clear hln
 dsimp only
 rw[hnm]
 refine wpAny_bind (wpAny_of_eq List.forIn_nil (wpAny_bind (hseq _ λo ho=> ?_)))
 clear hnm hp
 have hle:vals.length≤names.length:=hl.elim (λe=>aZ e.1) λe=>e▸az _ _
 have hD:D.length≤names.length:=hl.elim (λe=>e.2) λe=>e▸bk _ _
 have hd:(o.getD #[]).toList.drop ((o.getD #[]).toList.length-names.length)=D:=by rw[ho,Nat.sub_eq_zero_of_le hD];rfl
 have hlk:∀x∈names.take vals.length,((names.zip vals).lookup x).isSome=true:=λx hx=>An hx
 have hk:∀{vs:List Value},vs.length=names.length→(names.zip vs).map (·.1)=names:=λ{vs} e=>by rw[rG,e,List.take_length]
 refine i9 (λz=>absurd (bA (ar.mp z).1) (Nat.not_lt.mpr hle)) (i9 (λz=> ?_) (wpAny_bind (wpAny_of_eq (a:=names.zip (if vals.length=names.length then vals else vals++D)) ?_ (wpAny_bind (wpAny_of_eq List.forIn_nil (i9 (λz=>ft z) (wpAny_pure ?_)))))))
 ·have e:∀{p:PySem.Str→Bool} {m:List PySem.Str},(∀x∈m,p x=false)→¬(!(m.filter p).isEmpty)=true:=λ{p m} h=>by
   rw[List.filter_eq_nil_iff.mpr λx hx q=>ft ((h x hx).symm.trans q)];exact Bool.noConfusion
  refine e (m:=names.take (names.length-((o.getD #[]).toList.drop ((o.getD #[]).toList.length-names.length)).length)) (λx hx=> ?_) z
  rw[hd] at hx
  have hx:=hlk x (List.take_subset_take_left names (hl.elim (λe=>e.1▸Nat.sub_le _ _) λe=>by rw[←e,Nat.add_sub_cancel];exact aD _) hx)
  exact(Option.not_isSome _).symm.trans (congrArg (!·) hx)
 ·refine Eq.trans (b:=forIn ((names.drop (names.length-D.length)).zip D) (names.zip vals) _) (by rw[←hd];rfl) ?_
  by_cases hc:vals.length=names.length
  ·rw[if_pos hc]
   exact DB (λ_ _=>rfl) λx hx=>hlk _ (by rw[hc,List.take_length];exact List.mem_of_mem_drop (List.of_mem_zip hx).1)
  ·have e:=hl.resolve_left λz=>hc z.1
   rw[if_neg hc,←p4 names vals D hle,←e,Nat.add_sub_cancel]
   refine A9 (λ_ _=>rfl) ?_
   rw[p4 names vals D hle,hk (by rw[aa];exact e)];exact hn
 ·have e:(if vals.length=names.length then vals else vals++D).length=names.length:=by
   by_cases hc:vals.length=names.length
   ·rw[if_pos hc];exact hc
   ·rw[if_neg hc,aa];exact hl.resolve_left λz=>hc z.1
  have:=H9 (l:=names.zip (if vals.length=names.length then vals else vals++D)) (by rw[hk e];exact hn)
  rw[hk e] at this
  rw[←(congrArg (List.filterMap _) (aw names)).trans this] at h
  exact h
noncomputable def FlR(W:Wd):Fl→Flow→Prop
 | .next,f=>f= .next
 | .ret v,f=>∃v',f= .ret v'∧VR W v v'
noncomputable def Kf{β:Type}(P:Fr)(n:Nat)(A:Around)(c:C)(k:Fl→Le→H→Option β)(r:β)(Q:Flow→Shared→Prop):Prop :=
 ∀fl le' σ' f c',k fl le' σ'=some r→Good (dO P.env) c σ' c'→At P n A σ' le' c'→FlR c'.W fl f→Q f c'.s
noncomputable def gY(P:Fr)(n:Nat)(F:FT)(st:S)(m:Sem Flow):Prop :=
 ∀{β:Type} {A:Around} {σ:H} {le:Le} {c:C} {k:Fl→Le→H→Option β} {r:β} {Q:Flow→Shared→Prop},At P n A σ le c→exK F st le σ k=some r→Kf P n A c k r Q→wpAny M A m Q Ex c.s
noncomputable def rX(P:Fr)(n:Nat)(F:FT)(b:List S)(m:Sem Flow):Prop :=
 ∀{β:Type} {A:Around} {σ:H} {le:Le} {c:C} {k:Fl→Le→H→Option β} {r:β} {Q:Flow→Shared→Prop},At P n A σ le c→bT F b le σ k=some r→Kf P n A c k r Q→wpAny M A m Q Ex c.s
noncomputable def jI(n:Nat)(F:FT)(f:Nat)(a:Addr):Prop :=
 ∀{A:Around} {σ:H} {c:C} {r:V×H} {args:List V} {vals:List Value} {Q:Value→Shared→Prop},Room n A→Sim c.W σ c.s.heap→(W0 zK).Le c.W→c.s.gens= #[]→F f args σ=some r→VRs c.W args vals→
  (∀v' c',Gd0 c r.2 c'→VR c'.W r.1 v'→Q v' c'.s)→wpAny M A (call (.ref a) vals) Q Ex c.s
theorem yl{kind:PySem.Str→Option NameKind}{x:PySem.Str}{binds:List (PySem.Str×Value)}:∀{m:PySem.Str→Option Value},x∉binds.map (·.1)→bindL kind binds m x=m x:=by
 induction binds with
 | nil=>exact λ_=>rfl
 | cons y r ih =>
  intro m h
  show bindL kind r (if kind y.1=some .local then λz=>if z=y.1 then some y.2 else m z else m) x=m x
  rw[ih λz=>h (.tail _ z)]
  by_cases q:kind y.1=some .local
  ·rw[if_pos q];exact if_neg λe=>h (aE.mpr (.inl e))
  ·rw[if_neg q]
theorem BP{kind:PySem.Str→Option NameKind}{x:PySem.Str}{v:Value}(hk:kind x=some .local){binds:List (PySem.Str×Value)}:∀{m:PySem.Str→Option Value},(binds.map (·.1)).Nodup→(x,v)∈binds→bindL kind binds m x=some v:=by
 induction binds with
 | nil=>exact λ_ h=>absurd h bm
 | cons y r ih =>
  intro m hn hm
  obtain⟨h1,h2⟩:=aQ.mp (show(y.1::r.map (·.1)).Nodup from hn)
  refine(aE.mp hm).elim (λe=> ?_) (ih h2)
  show bindL kind r (if kind y.1=some .local then λz=>if z=y.1 then some y.2 else m z else m) x=_
  rw[←e] at h1⊢
  rw[yl h1,if_pos hk,if_pos rfl]
theorem ym{kind:PySem.Str→Option NameKind}{x:PySem.Str}{binds:List (PySem.Str×Value)}:∀{m:PySem.Str→Option Value},x∉binds.map (·.1)→bindC kind binds m x=m x:=by
 induction binds with
 | nil=>exact λ_=>rfl
 | cons y r ih =>
  intro m h
  show bindC kind r (if kind y.1=some .local then m else λz=>if z=y.1 then some y.2 else m z) x=m x
  rw[ih λz=>h (.tail _ z)]
  by_cases q:kind y.1=some .local
  ·rw[if_pos q]
  ·rw[if_neg q];exact if_neg λe=>h (aE.mpr (.inl e))
theorem BQ{kind:PySem.Str→Option NameKind}{x:PySem.Str}{v:Value}(hk:kind x≠some .local){binds:List (PySem.Str×Value)}:∀{m:PySem.Str→Option Value},(binds.map (·.1)).Nodup→(x,v)∈binds→bindC kind binds m x=some v:=by
 induction binds with
 | nil=>exact λ_ h=>absurd h bm
 | cons y r ih =>
  intro m hn hm
  obtain⟨h1,h2⟩:=aQ.mp (show(y.1::r.map (·.1)).Nodup from hn)
  refine(aE.mp hm).elim (λe=> ?_) (ih h2)
  show bindC kind r (if kind y.1=some .local then m else λz=>if z=y.1 then some y.2 else m z) x=_
  rw[←e] at h1⊢
  rw[ym h1,if_neg hk,if_pos rfl]
theorem pZ{x:PySem.Str}{names:List (PySem.Str×NameKind)}:∀{n:Nat} {acc:List (PySem.Str×Addr)},(x,NameKind.cell)∈names∨(∃c,(x,c)∈acc)→∃c,(x,c)∈cellsFrom n names acc:=by
 induction names with
 | nil=>exact λh=>h.elim (λh=>absurd h bm) id
 | cons y r ih =>
  intro n acc h
  show∃c,(x,c)∈(if(y.2== .cell)=true then cellsFrom (n+1) r ((y.1,n)::acc) else cellsFrom n r acc)
  by_cases hk:(y.2== .cell)=true
  ·rw[if_pos hk]
   exact ih (h.elim (λh=>(aE.mp h).elim (λe=> .inr ⟨n,e▸ .head _⟩) .inl) λ⟨c,h⟩=> .inr ⟨c,.tail _ h⟩)
  ·rw[if_neg hk]
   exact ih (h.imp_left λh=>(aE.mp h).elim (λe=>absurd (bF.mpr (congrArg Prod.snd e).symm) hk) id)
theorem jw{α:Type}{x:PySem.Str}{l:List (PySem.Str×α)}{c:α}(h:(x,c)∈l):∃c,l.lookup x=some c:=by
 induction l with
 | nil=>exact absurd h bm
 | cons y r ih =>
  rw[List.lookup_cons]
  cases q:x==y.1 with
  | true=>exact⟨_,rfl⟩
  | false=>exact ih ((aE.mp h).resolve_left λe=>beq_eq_false_iff_ne.mp q (congrArg Prod.fst e))
theorem fJ{names:List PySem.Str}{i:Nat}{x:PySem.Str}{b:Bool}(h:(i,x,b)∈lE names):names[i]? =some x∧b=true:=by
 obtain⟨j,hj,e⟩:=bb.mp h
 obtain⟨e1,e2⟩:=Prod.mk.inj e
 obtain⟨e2,e3⟩:=Prod.mk.inj e2
 rw[←e1,←e2,List.getD_eq_getElem?_getD,aW (List.mem_range.mp hj)]
 exact⟨rfl,e3.symm⟩
theorem BB{names:List PySem.Str}(hn:names.Nodup):CtxOk (lE names):=by
 have out:∀{e e':Nat×PySem.Str×Bool},e∈lE names→e'∈lE names→e.1=e'.1→e=e':=λ{e e'} h h' q=>by
  obtain⟨i,x,b⟩:=e
  obtain⟨j,y,d⟩:=e'
  cases(show i=j from q)
  obtain⟨h1,h2⟩:=fJ h
  obtain⟨h3,h4⟩:=fJ h'
  rw[h2,h4,Option.some.inj (h1.symm.trans h3)]
 refine⟨λe e' h h' q=>out h h' q,λe e' h h' _ _ q=>out h h' ?_⟩
 have h1:=(fJ (i:=e.1) (x:=e.2.1) (b:=e.2.2) h).1
 exact(List.getElem?_inj (aM.mp h1).1 hn).mp (h1.trans (q▸(fJ (i:=e'.1) (x:=e'.2.1) (b:=e'.2.2) h').1.symm))
structure FnAt(a:Addr)(fn:Fn)(names:List PySem.Str)(q:FnQ):Prop where
 lk:zK.lookup a=some q.obj
 code:codeIn zK q.cdv q.qual=true
 args:q.as.map (·.arg)=names.take fn.nargs
 len:q.as.length=fn.nargs
 dfl:∃D,D.length≤q.as.length∧VRs (W0 zK) fn.dflt D∧(q.dV= .none∧D=[]∨∃T oT nT,q.dV= .ref T∧zK.lookup T=some oT∧oT.data= .seq D.toArray nT)
 nodup:names.Nodup
 co:q.sc.isCoroutine=false
 gen:q.sc.isGenerator=false
 kind:q.sc.kind= .function
 own:∀x∈names,q.sc.names.lookup x=some .local∨q.sc.names.lookup x=some .cell
theorem lq{l:List V}{k i:Nat}{v:V}(h:(l.map some++List.replicate k none)[i]? =some (some v)):l[i]? =some v:=by
 by_cases hi:i<l.length
 ·rw[List.getElem?_append_left (by rw[ah];exact hi),List.getElem?_map] at h
  obtain⟨u,hu,e⟩:=Option.map_eq_some_iff.mp h
  exact hu.trans e
 ·rw[aX (by rw[ah];exact Nat.not_lt.mp hi),List.getElem?_replicate] at h
  by_cases q:i-(l.map some).length<k
  ·rw[if_pos q] at h;exact ns (Option.some.inj h)
  ·rw[if_neg q] at h;exact ns h
theorem xm{fn:Fn}{args:List V}{le:Le}(h:gP fn args=some le){G:Prop}(g0:args.length=fn.nargs→le=args.map some++List.replicate (fn.nslots-fn.nargs) none→G)
  (g1:args.length≠fn.nargs→args.length+fn.dflt.length=fn.nargs→le=(args++fn.dflt).map some++List.replicate (fn.nslots-fn.nargs) none→G):G:=by
 unfold gP at h
 by_cases q:args.length=fn.nargs
 ·rw[if_pos q] at h;exact g0 q (Option.some.inj h).symm
 ·rw[if_neg q] at h;exact gE h λh1 e=>g1 q h1 (Option.some.inj e).symm
theorem yh{n f:Nat}{a:Addr}{fn:Fn}{names:List PySem.Str}{fq:FnQ}{defs:List Fn}(hf:defs[f]? =some fn)(FA:FnAt a fn names fq)
  (hb:∀env,env.scope=fq.sc→rX ⟨fq.sc,lE names,env⟩ n (lH defs n) fn.body (execs fq.body env)):jI (n+1) (lH defs (n+1)) f a:=λ{A σ c r args vals Q} rm S hW0 hgens e rs q=>by
 have e:(defs[f]?).bind (λfn=>(gP fn args).bind λle=>bT (lH defs n) fn.body le σ dt)=some r:=e
 rw[hf,Option.bind_some] at e
 refine bE e λle hle hex=> ?_
 obtain⟨D,hDl,hD,hdV⟩:=FA.dfl
 have hobj:=FA.lk
 have hcd:=FA.code
 have hnames:=FA.args
 have hlen:=FA.len
 have k₀:Keeps zh c.s.heap:=S.base
 have X:=S.kin
 obtain⟨allV,all,hall,hslot,hlenV,hl,hz⟩:∃(allV:List V) (all:List Value),VRs c.W allV all∧(∀(i:Nat) (v:V),le[i]? =some (some v)→allV[i]? =some v)∧allV.length=fn.nargs∧
   ((vals.length=fq.as.length∧D.length≤fq.as.length)∨vals.length+D.length=fq.as.length)∧(if vals.length=fq.as.length then vals else vals++D)=all:=by
  have hv:=rs.length
  have hd:=hD.length
  rw[hlen,←hv,←hd]
  refine xm hle (λh1 h2=> ?_) λh0 h1 h2=> ?_
  ·exact⟨args,vals,rs,λi v q=>lq (h2▸q),h1,.inl ⟨h1,by rw[hd,←hlen];exact hDl⟩,if_pos h1⟩
  ·exact⟨args++fn.dflt,vals++D,rs.append (hD.mono hW0),λi v q=>lq (h2▸q),(aa ..).trans h1,.inr h1,if_neg h0⟩
 have hlenA:all.length=fn.nargs:=by rw[←hall.length,hlenV]
 have hnb:(fq.as.map (·.arg)).Nodup:=by rw[hnames];exact List.Sublist.nodup (List.take_sublist _ _) FA.nodup
 have hbk:(((fq.as.map (·.arg)).zip all).map (·.1))=fq.as.map (·.arg):=by rw[rG,hlenA,←hlen,←ah (f:=λ(a:Arg)=>a.arg),List.take_length]
 refine wpAny_call (codeAny_call_function (ax (az _ _) (ax (az _ 4) rm.depth)) (X _ _ hobj) rfl FA.co FA.gen rfl ((codeRec_of S.bz.X hcd).keeps k₀) ?_)
 refine lI rfl hnb hl (λQ' hQ'=> ?_) ?_
 ·show wpAny M _ (seqItems? fq.dV) _ _ _
  rcases hdV with⟨e,rfl⟩|⟨T,oT,nT,e,hT,hTd⟩
  ·rw[e]
   exact wpAny_bind (wpAny_pure (wpAny_pure (hQ' none rfl)))
  ·rw[e]
   exact wpAny_seqItems (X _ _ hT) hTd (hQ' (some D.toArray) rfl)
 rw[hz]
 have hasC:∀{x} {m:Nat},fq.sc.names.lookup x=some .cell→∃c,(cellsFrom m fq.sc.names []).lookup x=some c:=λ{x m} h=>by
  obtain⟨d,hd⟩:=pZ (n:=m) (acc:=[]) (.inl (mem_of_lookup h))
  exact jw hd
 refine wpAny_newFunctionEnv_cells FA.kind (λx hx=> ?_) λenv he s₁ x=> ?_
 ·have hx':x.1∈names:=List.mem_of_mem_take (hnames▸hbk▸aK (f:=Prod.fst) hx)
  exact(FA.own _ hx').imp id λh=>⟨h,(hasC h).elim λd hd=>hd▸rfl⟩
 have hL:env.locals=c.s.heap.objs.size:=by rw[he];rfl
 have hk:∀y,env.kindOf y=fq.sc.names.lookup y:=λy=>by rw[he];rfl
 have hc:∀{y},fq.sc.names.lookup y=some .cell→∃d,env.cells.lookup y=some d:=λh=>by rw[he];exact hasC h
 have above:∀b,dO env b→c.s.heap.get? b=none:=λb hb=>get?_above (hb.elim (λz=>aZ (z.trans hL).symm) λ⟨y,hy⟩=>hL▸bh (x.above y b (mem_of_lookup hy)))
 obtain⟨hh,tk,hs₁⟩:=x.toInCall.same
 have g0:Gd0 c σ ⟨c.W,s₁⟩:=Good.keep S x.toInCall.keep (by rw[hs₁]) (by rw[hs₁])
 have bound:∀{i y v},names[i]? =some y→le[i]? =some (some v)→∃v',(y,v')∈(fq.as.map (·.arg)).zip all∧VR c.W v v':=λ{i y v} hi hv=>by
  have hv':=hslot i v hv
  obtain⟨v',hv1,hr⟩:=hall.at hv'
  refine⟨v',List.mem_of_getElem? (i:=i) ?_,hr⟩
  rw[List.getElem?_zip_eq_some,hnames,List.getElem?_take,if_pos (hlenV▸(aM.mp hv').1)]
  exact⟨hi,hv1⟩
 have hEnv:EnvR ⟨fq.sc,lE names,env⟩ c.W le s₁.heap:=by
  refine⟨BB FA.nodup,by rw[he];exact FA.kind,by rw[he];rfl,by rw[he];rfl,λy k hy=> .inl ((hk y).trans hy),⟨_,x.toInCall.ns,λi y v hm hv hkl=> ?_⟩,λi y b v hm hv hkc=> ?_,λy d hd=>⟨_,x.cell y d hd⟩,λy hy=>hc ((hk y).symm.trans hy),λy z d hy hz=>name_of_addr x.apart (mem_of_lookup hy) (mem_of_lookup hz),λb hb=>⟨S.off (above b hb),S.base_none (above b hb)⟩⟩
  ·exact(bound (fJ hm).1 hv).elim λv' z=>⟨v',BP hkl (by rw[hbk];exact hnb) z.1,z.2⟩
  ·have hi:=(fJ hm).1
   have hkc':fq.sc.names.lookup y=some .cell:=(FA.own y (List.mem_of_getElem? hi)).resolve_left λh=>hkc.elim (λz=>NameKind.noConfusion (Option.some.inj ((h.symm.trans (hk y).symm).trans z))) λz=>NameKind.noConfusion (Option.some.inj ((h.symm.trans (hk y).symm).trans z))
   obtain⟨d,hd⟩:=hc hkc'
   obtain⟨v',hm',hr⟩:=bound hi hv
   have:=x.cell y d hd
   rw[BQ (λz=>NameKind.noConfusion (Option.some.inj ((hkc'.symm.trans (hk y).symm).trans z))) (by rw[hbk];exact hnb) hm'] at this
   exact⟨d,v',hd,this,hr⟩
 refine⟨(S.bz.lim.keeps k₀).keeps x.toInCall.keep,codeAny_func ?_⟩
 have rm':Room n (A.deeper env):=⟨rm.hand,by have:=rm.units;show A.units+3+8*n+80<cLine;exact ax (aF (by rw[Nat.mul_succ,bo,bn 3];exact aB (aB (by decide) _) _) 80) this,by
  have:=rm.depth
  show A.depth+1+4*n+4<recursionLimit
  exact ax (aF (by rw[Nat.mul_succ,bo,bn 1];exact aB (aB (by decide) _) _) 4) this⟩
 refine wpX (hb env (by rw[he];rfl) (c:=⟨c.W,s₁⟩) ⟨g0.sim,hEnv,hW0,g0.gens.trans hgens,rm'⟩ hex λfl le' σ' fv c' ek g a' hfl=> ?_)
 have gn:Gd0 c σ' c':=g0.transF g λb hb=> .inl (above b hb)
 cases fl with
 | next =>
  cases(show fv= .next from hfl)
  have ek:=Option.some.inj (show some (V.none,σ')=some r from ek)
  exact q _ c' (ek▸gn) (ek▸VR.none)
 | ret u =>
  obtain⟨v',rfl,hr⟩:=hfl
  have ek:=Option.some.inj (show some (u,σ')=some r from ek)
  exact q _ c' (ek▸gn) (ek▸hr)
section
variable{P:Fr}{n:Nat}{F:FT}{A:Around}{σ:H}{le:Le}{c:C}{Q:Value→Shared→Prop}{β:Type}{r:β}
noncomputable def Glob(P:Fr)(x:PySem.Str)(v:Value):Prop:=P.kin x .globalImplicit∧(x==("__debug__" :PySem.Str))=false∧(zmg x=some v∨(zmg x=none∧zmb x=some v))
theorem kU{x:PySem.Str}{pos:Pos}{v:Value}(a:At P n A σ le c)(g:Glob P x v)(h:Q v c.s):wpAny M A (eval (.Name x pos) P.env) Q Ex c.s:=by
 obtain⟨hk,hd,hv⟩:=g
 have hk':=(a.env.kinds x _ hk).resolve_right λz=>NameKind.noConfusion z.1
 have hg:c.s.heap.Ns P.env.globals zmg:=by rw[a.env.gl];exact a.sim.bz.g.keeps a.sim.base
 refine Calls.Name_function_global a.env.fn hk' (hv.elim (λhv=>Calls.loadGlobal_global hg hv h) λhv=>Calls.loadGlobal_builtin hg hv.1 ?_ hv.2 h) hd
 rw[a.env.bi];exact a.sim.bz.b.keeps a.sim.base
theorem CI{v:V}{x:PySem.Str}{pos:Pos}{u:Value}(g:Glob P x u)(hr:VR (W0 zK) v u):bS P n F (.lit v) (.Name x pos):=λ{β A σ le c k r Q} a e q=>kU a g (q _ _ _ c e a.rf (hr.mono a.cst))
theorem Ed{es:List E}{xs:List PySem.Expr}(h:All2 (EvE P n F) es xs){f:Value}{k:List V→H→Option β}(a:At P n A σ le c)(e:ic F es le σ k=some r){Q:Args→Shared→Prop}
  (q:∀vs σ' vals c',k vs σ'=some r→Gd0 c σ' c'→VRs c'.W vs vals→Q ⟨vals,[]⟩ c'.s) {pos:Pos}:wpAny M A (evalArgs f true (backTo pos (starEach xs P.env)) []) Q Ex c.s:=by
 have hE:=vo h a e (Q:=λvals s'=>Q ⟨vals,[]⟩ s') q
 rw[cS _ _ _ (fj h)]
 cases h with
 | nil=>exact PySem.evalArgs_none (q [] σ [] c e a.rf .nil)
 | cons h1 h2 =>
  rw[c8 h1.2] at hE⊢
  exact Calls.evalArgs_plain hE
theorem f9{es:List E}{xs:List PySem.Expr}(h:All2 (EvE P n F) es xs){k:List V→H→Option β}{f:Value}{first:List Value}(a:At P n A σ le c)(e:ic F es le σ k=some r){pos:Pos}(hk:(∀b,f≠ .ref b)∨keepIn zK f=true)
  (q:∀vs σ' vals c',k vs σ'=some r→Gd0 c σ' c'→VRs c'.W vs vals→wpAny M A (call f (first++vals)) Q Ex c'.s):wpAny M A (callWith pos f first (backTo pos (starEach xs P.env)) []) Q Ex c.s:=by
 have hany:(backTo pos (starEach xs P.env)).any (·.1)=false:=by rw[cS _ _ _ (fj h)];exact fO _ _ (fj h)
 refine callWith_of (P:=λhh=>zK.In hh) (by rw[hany];rfl) (λhh hX=> ?_) (Ed h a e λvs σ' vals c' e g rs=>⟨g.sim.kin,q vs σ' vals c' e g rs⟩)
 rcases hk with hk|hk
 ·refine⟨.machine,.inr (.inl rfl),Looks.of_pure ?_⟩
  cases f with
  | ref b=>exact absurd rfl (hk b)
  | _=>rfl
 ·exact keeps_K hk hh hX
theorem eL{nm:PySem.Str}{f:Value}{es:List E}{xs:List PySem.Expr}{p pos:Pos}(g:Glob P nm f)(hk:(∀b,f≠ .ref b)∨keepIn zK f=true)(h:All2 (EvE P n F) es xs){k:List V→H→Option β}(a:At P n A σ le c)(e:ic F es le σ k=some r)
  (q:∀vs σ' vals c',k vs σ'=some r→Gd0 c σ' c'→VRs c'.W vs vals→wpAny M A (call f vals) Q Ex c'.s):wpAny M A (eval (.Call (.Name nm p) xs [] pos) P.env) Q Ex c.s :=
 wpAny_Call_Name_kw (kU a g (f9 (first:=[]) h a e hk q))
noncomputable def bstr:BI→PySem.Str
 | .len=> "len" | .sorted=> "sorted" | .abs=> "abs" | .int=> "int" | .bytes=> "bytes" | .list=> "list" | .sum=> "sum" | .min1=> "min" | .min2=> "min" | .max1=> "max" | .max2=> "max"
theorem BN(b:BI)(d:Addr):bname b≠ .ref d:=by cases b <;> exact λh=>Value.noConfusion h
noncomputable def tV:Prop:=∀{A:Around} {σ:H} {c:C} {x:V} {a:Value} {β:Type} {k:V→H→Option β} {r:β} {Q:Value→Shared→Prop},A.handled=none→A.units+64<cLine→Sim c.W σ c.s.heap→sr x σ k=some r→VR c.W x a→Kq c k r Q→wpAny M A (call (.builtin "sorted") [a]) Q Ex c.s
theorem Hu(hS:tV){b:BI}{es:List E}{xs:List PySem.Expr}{p pos:Pos}(g:Glob P (bstr b) (bname b))(h:All2 (EvE P n F) es xs):bS P n F (.bi b es) (.Call (.Name (bstr b) p) xs [] pos):=λa e q =>
 eL g (.inl (BN b)) h a e λvs σ' vals c' e g rs=>BO g.sim a.hand (λx v e rx=>hS a.hand a.u64 g.sim e rx (q.up g)) rs e (q.up g)
theorem CL{f:Nat}{a:Addr}{nm:PySem.Str}{es:List E}{xs:List PySem.Expr}{p pos:Pos}(g:Glob P nm (.ref a))(hkeep:keepIn zK (.ref a)=true)(hc:jI n F f a)(h:All2 (EvE P n F) es xs):bS P n F (.call f es) (.Call (.Name nm p) xs [] pos):=λat_ e q =>
 eL g (.inr hkeep) h at_ e λvs σ' vals c' e g rs=>bE e λy hy e=>hc at_.room g.sim (at_.cst.trans g.le) (g.gens.trans at_.gens) hy rs λv' c'' g' rv=>q _ _ v' c'' e (g.trans g') rv
theorem x6{xs:List PySem.Expr}(hst:xs.all dP=true)(h30:xs.length<30)(pos:Pos):methodCallForm (xs.length+([]:List Keyword).length) (backTo pos (starEach xs P.env)) (backToKw pos (keywordEach [] P.env))=true:=by
 unfold methodCallForm
 rw[cS _ _ _ hst,List.all_eq_not_any_not]
 simp only[Bool.not_not]
 rw[fO P.env xs hst]
 exact bB h30
theorem q8{o:E}{ox:PySem.Expr}{xs:List PySem.Expr}{name:PySem.Str}{apos pos:Pos}(hs:e6 ox=true)(h30:xs.length<30)(hst:xs.all dP=true)(hline:(apos.endLine==pos.line)=true)(ho:bS P n F o ox){k:V→H→Option β}(a:At P n A σ le c)(e:evK F o le σ k=some r)
  (q:∀v σ' ov c',k v σ'=some r→Gd0 c σ' c'→VR c'.W v ov→wpAny M A (calleeOf true ox P.env ov name) (λm s'=>wpAny M A (callWith pos m.1 m.2 (backTo pos (starEach xs P.env)) []) Q Ex s') Ex c'.s) :
  wpAny M A (eval (.Call (.Attribute ox name apos) xs [] pos) P.env) Q Ex c.s:=by
 rw[arm_eval_Call,w5 hs]
 refine wpAny_bind (ho a e λv σ₁ ov c₁ e g ra=>wpAny_bind (wpAny_standAt ?_))
 unfold methodCall
 rw[x6 hst h30]
 exact wpAny_bind (wpAny_holding (wpAny_mono (q v σ₁ ov c₁ e g ra) (λm s' h=>wpAny_bind (wpAny_of_eq (if_pos hline) h)) λ_ _ z=>z))
theorem mw{o:E}{ox:PySem.Expr}{xs:List PySem.Expr}{name:PySem.Str}{apos pos:Pos}{T id:String}(hs:e6 ox=true)(h30:xs.length<30)(hst:xs.all dP=true)(hline:(apos.endLine==pos.line)=true)(ho:bS P n F o ox)(pa:PlainAttrs T)(slot:Slot T name id)(hty:typeOf (.builtin id)=pure (.type "method_descriptor"))
  {k:V→H→Option β} (a:At P n A σ le c) (e:evK F o le σ k=some r)
  (q:∀v σ' ov c',k v σ'=some r→Gd0 c σ' c'→VR c'.W v ov→c'.s.TypeIs ov T∧(∀d,ov= .ref d→∃ob,c'.s.heap.get? d=some ob∧ob.dict=none)∧wpAny M A (callWith pos (.builtin id) [ov] (backTo pos (starEach xs P.env)) []) Q Ex c'.s) :
  wpAny M A (eval (.Call (.Attribute ox name apos) xs [] pos) P.env) Q Ex c.s :=
 q8 hs h30 hst hline ho a e λv σ' ov c' e g rv=>getMethod_builtin (q v σ' ov c' e g rv).1 pa slot hty (q v σ' ov c' e g rv).2.1 (q v σ' ov c' e g rv).2.2
theorem p7{x:PySem.Expr}(h:dP x=true)(pos:Pos):backTo pos (starEach [x] P.env)=[(false,eval x P.env)]:=by
 rw[cS pos P.env [x] (by rw[List.all_cons,h];rfl),c8 h];rfl
theorem gy{x:PySem.Expr}(h:dP x=true):[x].all dP=true:=by rw[List.all_cons,h];rfl
theorem iX{m:MT}{o e:E}{ox x:PySem.Expr}{name:PySem.Str}{apos pos:Pos}{id:String}{T:Addr→(Value→Shared→Prop)→Value→Shared→Prop}(hs:e6 ox=true)(hline:(apos.endLine==pos.line)=true)(ho:bS P n F o ox)(h:EvE P n F e x)
  (slot:Slot "list" name id) (hty:typeOf (.builtin id)=pure (.type "method_descriptor")) (hm:∀{σ v},im m σ v=((d5 v).bind (bJ σ)).isSome)
  (hT:∀{d:Addr} {A:Around} {s:Shared} {Q:Value→Shared→Prop},wpAny M A (eval x P.env) (T d Q) Ex s→wpAny M A (callWith pos (.builtin id) [.ref d] [(false,eval x P.env)] []) Q Ex s)
  (hq:∀{β:Type} {σ:H} {c:C} {k:V→H→Option β} {r:β} {Q:Value→Shared→Prop} {i:Nat} {d:Addr} {y:V} {yv:Value},Sim c.W σ c.s.heap→c.W.objs[i]? =some (d,d)→VR c.W y yv→metop m (.ref i) [y] σ k=some r→Kq c k r Q→T d Q yv c.s) :
  bS P n F (.meth m o [e]) (.Call (.Attribute ox name apos) [x] [] pos):=λ{β A σ le c k r Q} a ek q =>
 mw hs (show 1<30 by decide) (gy h.2) hline ho PySem.F.plainAttrs_list slot hty a ek λv σ₁ ov c₁ ek g₁ rv=>gE ek λhr ek=>by
  rw[hm] at hr
  obtain⟨xs,hx⟩:=Option.isSome_iff_exists.mp hr
  refine bE hx λi hi hx=> ?_
  rw[cN hi] at rv ek
  refine bH g₁.sim hx rv λd it j e1 hp ho1 r1 z hl=> ?_
  rw[e1,p7 h.2]
  exact⟨⟨_,ho1,rfl⟩,λd' e=>Value.ref.inj e▸⟨_,ho1,rfl⟩,hT (h.1 (a.next g₁) ek λy σ₂ yv c₂ ek g₂ ry=>hq g₂.sim (g₂.le.at hp) ry ek (q.up (g₁.trans g₂)))⟩
theorem re(S:Sim c.W σ c.s.heap){i:Nat}{xs:List V}{d:Addr}(hx:bJ σ i=some xs)(hp:c.W.objs[i]? =some (d,d)){G:Prop}(g:∀it n,PySem.IsL c.s.heap d it n→VRs c.W xs it.toList→it.size=xs.length→xs.length≤lim→G):G :=
 bH S hx (VR.ref hp) λd' it n e _ ho r z hl=>g it n ((show d=d' from Value.ref.inj e)▸ho) r z hl
theorem xE{o e:E}{ox x:PySem.Expr}{apos pos:Pos}(hs:e6 ox=true)(hline:(apos.endLine==pos.line)=true)(ho:bS P n F o ox)(h:EvE P n F e x):bS P n F (.meth .append o [e]) (.Call (.Attribute ox "append" apos) [x] [] pos) :=
 iX (m:= .append) hs hline ho h PySem.F.slot_list_append PySem.F.type_list_append rfl PySem.P.append_list λS hp ry e q=>bE e λxs hx e=>gE e λhl e=>by
  exact re S hx hp λit n ho r z hl2=>⟨it,n,z▸cu hl2,ho,q _ _ _ _ e (gF S hp ho (by rw[aa];exact hl) (by rw[Array.toList_push];exact All2.append r (.cons ry .nil)) _) VR.none⟩
theorem xD{o e:E}{ox x:PySem.Expr}{apos pos:Pos}(hs:e6 ox=true)(hline:(apos.endLine==pos.line)=true)(ho:bS P n F o ox)(h:EvE P n F e x):bS P n F (.meth .extend o [e]) (.Call (.Attribute ox "extend" apos) [x] [] pos) :=
 iX (m:= .extend) hs hline ho h PySem.F.slot_list_extend PySem.F.type_list_extend rfl PySem.P.extend_list λS hp ry e q=>bE e λxs hx e=>jp e λj ys ej hy e=>gE e λhc e=>by
  rw[ej] at ry
  refine re S hx hp λit n ho r1 z hl2=>bH S hy ry λd2 it2 n2 e2 _ ho2 r2 z2 _=> ?_
  have hz:it.size+it2.size≤sizeLine:=by rw[z,z2];exact cu hc.2
  exact⟨d2,it,it2,n,n2,ae (az _ _) hz,aV hz,λh=>absurd (decide_eq_true_iff.mp (ar.mp h).2) (Nat.not_lt.mpr hz),e2,ho,ho2,
   q _ _ _ _ e (gF S hp ho (by rw[aa];exact hc.2) (by rw[Array.toList_append];exact All2.append r1 r2) _) VR.none⟩
theorem FF{o e:E}{ox x:PySem.Expr}{apos pos:Pos}(hs:e6 ox=true)(hline:(apos.endLine==pos.line)=true)(ho:bS P n F o ox)(h:EvE P n F e x):bS P n F (.meth .pop o [e]) (.Call (.Attribute ox "pop" apos) [x] [] pos) :=
 iX (m:= .pop) hs hline ho h PySem.F.slot_list_pop PySem.F.type_list_pop rfl PySem.P.pop_at_list λS hp ry e q=>bE e λj hj e=>jp e λi' xs ei hx e=>gE e λhc e=>bE e λu hu e=>by
  cases ei
  rw[cO hj] at ry
  obtain⟨t,rfl⟩:=ry
  refine re S hx hp λit n ho r1 z hl2=> ?_
  obtain⟨v',hv1,hvr⟩:=r1.at hu
  obtain⟨m,rfl⟩:=bt hc.1
  have hm:m<it.size:=by rw[z];exact aP.mp hc.2
  have hs:it.size≤lim:=z▸hl2
  have h63:(m:Int)<2^63:=aP.mpr (be hm (bh (xP hs)))
  refine⟨it,n,m,t,m,v',cu hs,rfl,ho,?_,?_,(Array.getElem?_toList ..).symm.trans hv1,q _ _ _ _ e (gF S hp ho (ae (List.length_eraseIdx_le _ _) hl2) ?_ _) hvr⟩
  ·exact ar.mpr ⟨bB (ak (by decide) (aC m)),bB h63⟩
  ·unfold seqIndex?
   rw[if_neg (bx.mpr (aC m)),if_pos (by rw[bB (aC m),bB (aP.mpr hm)];rfl)];rfl
  ·unfold Array.eraseIdxIfInBounds
   rw[dif_pos hm,Array.toList_eraseIdx]
   exact All2.eraseIdx r1 m
noncomputable def IZ(k:Int):Value→Bool
 | .int a _=>a==k
 | _=>false
theorem zS{o e:E}{ox x:PySem.Expr}{apos pos:Pos}(hs:e6 ox=true)(hline:(apos.endLine==pos.line)=true)(ho:bS P n F o ox)(h:EvE P n F e x):bS P n F (.meth .index o [e]) (.Call (.Attribute ox "index" apos) [x] [] pos) :=
 iX (m:= .index) hs hline ho h PySem.F.slot_list_index PySem.F.type_list_index rfl PySem.P.index_list λS hp ry e q=>bE e λj hj e=>Hr e λi' is ei hx e=>bE e λm hm e=>by
  cases ei
  rw[cO hj] at ry
  obtain⟨t,rfl⟩:=ry
  refine re S hx hp λit n ho r1 z hl2=> ?_
  rw[ah] at z
  obtain⟨hj1,hj2,hj3⟩:=List.findIdx?_eq_some_iff_getElem.mp hm
  have getI:∀m (hm:m<is.length),∃t,it[m]'(z▸hm)= .int is[m] t:=λm hm=>by
   obtain⟨v',e1,t,e2⟩:=r1.at (i:=m) (x:= .int is[m]) (by rw[List.getElem?_map,aW hm];rfl)
   rw[Array.getElem?_toList,Array.getElem?_eq_getElem (z▸hm)] at e1
   exact⟨t,(Option.some.inj e1).trans e2⟩
  have hj4:m<it.size:=z▸hj1
  refine⟨it,n,IZ j,m,hj4,ho,λy hy=> ?_,aG (aP.mpr (be hj4 (by rw[ah] at hl2;exact z▸hl2:it.size≤lim))) (by decide),?_,λm' hm' hlt=> ?_,q.same S e (VR.int _ _) _⟩
  ·obtain⟨m',hm',e⟩:=Array.mem_iff_getElem.mp hy
   obtain⟨t',e'⟩:=getI m' (z▸hm')
   rw[←e,e']
   exact MeetsSeq.EqGives.int _ _ _ _
  ·obtain⟨t',e'⟩:=getI m hj1
   rw[e'];exact hj2
  ·obtain⟨t',e'⟩:=getI m' (z▸hm')
   rw[e']
   exact Bool.eq_false_iff.mpr (hj3 m' hlt)
theorem uc{W:Wd}{kvs:List (Int×V)}{xs:List (Int×Value)}(ha:All2 (iR W) kvs xs)(k:Int){d:V}{d':Value}(rd:VR W d d'):VR W ((kvs.lookup k).getD d) ((valueAt xs k).getD d'):=by
 unfold valueAt
 induction ha with
 | nil=>exact rd
 | @cons kv x kvs xs h1 h2 ih =>
  rw[List.lookup_cons,List.find?_cons,h1.1]
  by_cases q:k=kv.1
  ·rw[q,bC,bB rfl];exact h1.2
  ·rw[beq_eq_false_iff_ne.mpr q,decide_eq_false λz=>q z.symm];exact ih
theorem FL{o e f:E}{ox x y:PySem.Expr}{apos pos:Pos}(hs:e6 ox=true)(hline:(apos.endLine==pos.line)=true)(ho:bS P n F o ox)(h:EvE P n F e x)(h':EvE P n F f y):bS P n F (.meth .get o [e,f]) (.Call (.Attribute ox "get" apos) [x,y] [] pos):=λ{β A σ le c k r Q} a ek q =>
 have hst:[x,y].all dP=true:=by rw[List.all_cons,h.2];exact gy h'.2
 mw hs (show 2<30 by decide) hst hline ho PySem.F.plainAttrs_dict PySem.F.slot_dict_get PySem.F.type_dict_get a ek λv σ₁ ov c₁ ek g₁ rv=>gE ek λhr ek=>by
  obtain⟨kvs',hk'⟩:=Option.isSome_iff_exists.mp hr
  refine bE hk' λi hi hk'=> ?_
  rw[cN hi] at rv ek
  obtain⟨⟨d,d'⟩,rfl,hp⟩:=rv
  obtain⟨_,_,xs₀,⟨od,es,ep,ho,hx0,_⟩,_⟩:=g₁.sim.obj i _ _ (po (g:=O.dI) w9 hk') hp
  refine⟨⟨od,ho,hx0.1⟩,λd' e=>Value.ref.inj e▸⟨od,ho,hx0.2.1⟩,?_⟩
  rw[cS _ _ _ hst,c8 h.2,c8 h'.2]
  refine wpAny_dict_get2 (knd:=intKind zp zw) (l9 g₁.sim ⟨i,_,hp,.inl rfl⟩) (h.1 (a.next g₁) ek λy σ₂ yv c₂ ek g₂ ry=>h'.1 (a.next (g₁.trans g₂)) ek λz σ₃ zv c₃ ek g₃ rz=>bE ek λj hj ek=>bE ek λi' hi' ek=>bE ek λkvs hk eF=> ?_)
  cases Option.some.inj hi'
  have hj:b9 y=some j:=hj
  rw[cO hj] at ry
  obtain⟨t,rfl⟩:=ry
  obtain⟨_,_,xs,hd,ha⟩:=g₃.sim.obj i _ _ (po (g:=O.dI) w9 hk) (g₃.le.at (g₂.le.at hp))
  exact⟨j,_,intKind_is _ _ _ _,hd.mapOf,(q.up ((g₁.trans g₂).trans g₃)).same g₃.sim eF (uc ha j rz) _⟩
theorem sn:∀i:Fin 14,3≤i.1→i.1≤7→Txt.startswith (eJ i.1) (Str.ofString "even")=(i.1==3||i.1==4):=by decide +kernel
theorem DC{A:Around}{s:Shared}{i:Nat}{t:Tok}{pos cp:Pos}{kk:Nat}{env:Env}(hi:i<14)(hc:3≤i∧i≤7)(h:∀t,Q (.bool (i==3||i==4)) {s with toks:=t}) :
  MethodOnS zp zw A Ex "startswith" (.str (eJ i) t) pos [(false,eval (.Constant (.str (Str.ofString "even")) kk cp) env)] Q s:=by
 refine SB.startswith (Calls.Constant_str ⟨_,_,rfl,?_⟩)
 rw[sn ⟨i,hi⟩ hc.1 hc.2]
 exact h _
theorem Ai{o:E}{ox x:PySem.Expr}{name:PySem.Str}{apos pos:Pos}(hs:e6 ox=true)(hx:dP x=true)(hline:(apos.endLine==pos.line)=true)(ho:bS P n F o ox){k:V→H→Option β}(a:At P n A σ le c)(e:evK F o le σ k=some r)
  (q:∀v σ' ov c',k v σ'=some r→Gd0 c σ' c'→VR c'.W v ov→MethodOnS zp zw A Ex name ov pos [(false,eval x P.env)] Q c'.s):wpAny M A (eval (.Call (.Attribute ox name apos) [x] [] pos) P.env) Q Ex c.s :=
 q8 hs (show 1<30 by decide) (gy hx) hline ho a e λv σ₁ ov c₁ e g₁ rv=>by
  obtain⟨T,id,pa,slot,hty,hT,hd,hm⟩:=q v σ₁ ov c₁ e g₁ rv
  refine getMethod_builtin hT pa slot hty hd ?_
  rw[p7 hx]
  exact hm
theorem CJ{o:E}{ox:PySem.Expr}{apos pos:Pos}{kk:Nat}{cp:Pos}(hs:e6 ox=true)(hline:(apos.endLine==pos.line)=true)(ho:bS P n F o ox):bS P n F (.meth .startsEven o []) (.Call (.Attribute ox "startswith" apos) [.Constant (.str (Str.ofString "even")) kk cp] [] pos):=λ{β A σ le c k r Q} a ek q =>
 Ai hs rfl hline ho a ek λv σ₁ ov c₁ ek g₁ rv=>gE ek λhr ek=>bE ek λi hi ek=>gE ek λhc ek=>by
  rw[pt hi] at rv
  obtain⟨h14,t,rfl⟩:=rv
  exact DC h14 hc λt=>(q.up g₁).same g₁.sim ek (VR.bool _) t
theorem zR{f:Nat}{d:Addr}{o:E}{es:List E}{ox:PySem.Expr}{xs:List PySem.Expr}{name:PySem.Str}{apos pos:Pos}(hs:e6 ox=true)(h30:xs.length<30)(hline:(apos.endLine==pos.line)=true)(ho:bS P n F o ox)(h:All2 (EvE P n F) es xs)
  (hga:plainGet zK (zc 1) name=true) (hf:findIn zK (.ref (zc 1)) name=some (some (.ref d))) (hty:typeIn zK (.ref d)=some (.type "function")) (hkeep:keepIn zK (.ref d)=true) (hn:name∉cQ 1)
  (hc:jI n F f d):bS P n F (.umeth f o es) (.Call (.Attribute ox name apos) xs [] pos):=λ{β A σ le c k r Q} a ek q =>
 q8 hs h30 (fj h) hline ho a ek λv σ₁ ov c₁ ek g₁ rv=>bE ek λi hi ek=>bE ek λfs hfs ek=>by
  have rv':=rv
  rw[cN hi] at rv'
  refine bU g₁.sim hfs rv' λp en j e1 hp hc2 hne I ha hr=> ?_
  rw[e1]
  refine method_fn g₁.sim.kin I (plainGet_of hga).1 (plainGet_of hga).2 hf hty ?_ ?_
  ·show(lookIn name (dictOf en j)).map _=_
   rw[lookIn_dict,qn ha hn];rfl
  ·exact f9 h (a.next g₁) ek (.inr hkeep) λvs σ₂ vals c₂ ek g₂ rs=>bE ek λy hy ek=>hc a.room g₂.sim ((a.next g₁).cst.trans g₂.le) ((g₁.trans g₂).gens.trans a.gens) hy (.cons (e1▸rv.mono g₂.le) rs) λv' c'' g' rv=>q _ _ v' c'' ek ((g₁.trans g₂).trans g') rv
end
inductive InitB (an:List PySem.Str) (sc:Scope):List PySem.Str→Nat→List Stmt→Prop
 | nil {j:Nat}:InitB an sc [] j []
 | arg {f y:PySem.Str} {fs:List PySem.Str} {j:Nat} {r:List Stmt} {sp ap yp pos:Pos} (h:an[j]? =some y) (hl:sc.names.lookup y=some .local) (hd:(y==("__debug__" :PySem.Str))=false) (hr:InitB an sc fs (j+1) r) :
   InitB an sc (f::fs) j (.Assign [.Attribute (.Name ("self" :PySem.Str) sp) f ap] (.Name y yp) pos::r)
 | zero {f:PySem.Str} {fs:List PySem.Str} {j k:Nat} {r:List Stmt} {sp ap pp pos:Pos} (h:an.length≤j) (hr:InitB an sc fs (j+1) r):InitB an sc (f::fs) j (.Assign [.Attribute (.Name ("self" :PySem.Str) sp) f ap] (.Constant (.int 0) k pp) pos::r)
theorem nt{nm:PySem.Str}{hs:Int}{key v:Value}{nms:List PySem.Str}{es:List DictEntry}(ha:All2 keyed nms es)(hn:nm∉nms):putL nm hs key v es=es++[⟨hs,key,v⟩]:=by
 induction ha with
 | nil=>rfl
 | cons h1 _ ih=>rw[qf h1 λe=>hn (e▸ .head _),ih λh=>hn (.tail _ h)];rfl
theorem uW{x:PySem.Str}{v:Value}{l:List (PySem.Str×Value)}(hn:(l.map (·.1)).Nodup)(hm:(x,v)∈l):l.lookup x=some v:=by
 induction l with
 | nil=>exact absurd hm bm
 | cons y r ih =>
  obtain⟨h1,h2⟩:=aQ.mp (show(y.1::r.map (·.1)).Nodup from hn)
  rw[List.lookup_cons]
  refine(aE.mp hm).elim (λe=> ?_) λhm=> ?_
  ·rw[←e,bC]
  ·rw[beq_eq_false_iff_ne.mpr λ(e:x=y.1)=>h1 (e▸aK (f:=Prod.fst) hm)]
   exact ih h2 hm
theorem sY{x:PySem.Str}{v:Value}{l:List (PySem.Str×Value)}(hn:(l.map (·.1)).Nodup)(hm:(x,v)∈l):l.reverse.lookup x=some v :=
 uW (by rw[List.map_reverse];exact List.pairwise_reverse.mpr (List.Pairwise.imp Ne.symm hn)) (List.mem_reverse.mpr hm)
structure InitAt(W:Wd)(fs:List V)(nms:List PySem.Str)(dx:Addr)(s₀ s:Shared)(j:Nat):Prop where
 dict:∃es k,s.heap.get? dx=some (dictOf es k)∧All2 keyed (nms.take j) es∧VRs W (fs.take j) (es.map (·.val))
 kept:∀b o,b≠dx→s₀.heap.get? b=some o→s.heap.get? b=some o
 gens:s.gens=s₀.gens
 os:s.os=s₀.os
structure InitC(W:Wd)(an:List PySem.Str)(env:Env)(sc:Scope)(m:PySem.Str→Option Value)(D x dx:Addr)(c:Nat)(fs:List V)(s₀:Shared):Prop where
 cls:ClsOk D c
 fn:env.scope.kind= .function
 kind:∀y k,sc.names.lookup y=some k→env.kindOf y=some k
 self:sc.names.lookup ("self" :PySem.Str)=some .local
 hx:s₀.heap.get? x=some (instObj D dx)
 ns:s₀.heap.Ns env.locals m
 ne:env.locals≠dx
 xd:x≠dx
 X:zK.In s₀.heap
 Xd:∀a o,zK.lookup a=some o→a≠dx
 mS:m ("self" :PySem.Str)=some (.ref x)
 args:∀(j:Nat) (y:PySem.Str),an[j]? =some y→∃v u,m y=some v∧fs[j]? =some u∧VR W u v
 zero:∀(j:Nat),an.length≤j→j<fs.length→fs[j]? =some (.int 0)
 len:fs.length=(cQ c).length
section
variable{W:Wd}{A:Around}{an:List PySem.Str}{env:Env}{sc:Scope}{m:PySem.Str→Option Value}{D x dx:Addr}{c:Nat}{fs:List V}{s₀:Shared}
theorem AN(Z:InitC W an env sc m D x dx c fs s₀){todo:List PySem.Str}{body:List Stmt}{j:Nat}(h:InitB an sc todo j body):∀{s:Shared} {Q:Flow→Shared→Prop},(cQ c).drop j=todo→InitAt W fs (cQ c) dx s₀ s j→
  (∀s',InitAt W fs (cQ c) dx s₀ s' (cQ c).length→Q .next s')→wpAny M A (execs body env) Q Ex s:=by
 have store:∀{f:PySem.Str} {todo:List PySem.Str} {j:Nat} {r:List Stmt} {sp:Pos} (ih:∀{s:Shared} {Q:Flow→Shared→Prop},(cQ c).drop (j+1)=todo→InitAt W fs (cQ c) dx s₀ s (j+1)→(∀s',InitAt W fs (cQ c) dx s₀ s' (cQ c).length→Q .next s')→wpAny M A (execs r env) Q Ex s)
   {s:Shared} {Q:Flow→Shared→Prop} (hd:(cQ c).drop j=f::todo) (I:InitAt W fs (cQ c) dx s₀ s j) (q:∀s',InitAt W fs (cQ c) dx s₀ s' (cQ c).length→Q .next s') (val:Value) (u:V) (tk:Nat),fs[j]? =some u→VR W u val→
   wpAny M A (eval (.Name ("self" :PySem.Str) sp) env) (λov s₂=>wpAny M A (setAttr ov f val) (λ_ s₃=>wpAny M A (execs r env) Q Ex s₃) Ex s₂) Ex {s with toks:=tk}:=by
  intro f todo j r sp ih s Q hd I q val u tk hu hr
  have hf:(cQ c)[j]? =some f:=by rw[←Nat.add_zero j,←List.getElem?_drop,hd];rfl
  have hj:=(aM.mp hf).1
  have hd':(cQ c).drop (j+1)=todo:=by rw[←List.drop_drop,hd];rfl
  obtain⟨⟨es,k,hdx,ha,hvr⟩,k1,k2,k3⟩:=I
  have hnot:f∉(cQ c).take j:=λhm=>by
   obtain⟨i,hi⟩:=List.mem_iff_getElem?.mp hm
   have hij:=(aM.mp hi).1
   rw[List.length_take] at hij
   have hij:=be hij (Nat.min_le_left _ _)
   rw[List.getElem?_take,if_pos hij] at hi
   exact absurd ((List.getElem?_inj (aM.mp hi).1 (jA c)).mp (hi.trans hf.symm)) (Nat.ne_of_lt hij)
  have kN:s.heap.Ns env.locals m:=Z.ns.elim λo z=>z.elim λes z=>z.elim λep z=>⟨o,es,ep,k1 _ _ Z.ne z.1,z.2⟩
  refine wpAny_Name (wpAny_loadName_local Z.fn (Z.kind _ _ Z.self) kN Z.mS ?_) (by decide +kernel)
  refine we (k:=c) (λa o q=>k1 a o (Z.Xd a o q) (Z.X a o q)) Z.cls (List.mem_of_getElem? hf) ⟨k1 x _ Z.xd Z.hx,rfl,rfl,hdx⟩ (by rw[qn ha hnot];rfl) ?_ λh' hd2 hs2=> ?_
  ·rw[nt ha hnot,aa,←ha.length]
   exact ae (aF (ae (List.length_take_le _ _) (ae (bh hj) (tA c))) 1) (by decide)
  ·refine ih hd' ⟨⟨_,_,hd2,?_,?_⟩,λb o hb q=>(hs2.2 b hb).trans (k1 b o hb q),k2,k3⟩ q
   ·rw[nt ha hnot,List.take_add_one,hf]
    exact ha.append (.cons ⟨_,rfl⟩ .nil)
   ·rw[nt ha hnot,List.take_add_one,hu,au]
    exact All2.append hvr (.cons hr .nil)
 induction h with
 | nil =>
  intro s Q hd I q
  have hj:(cQ c).length≤_:=List.drop_eq_nil_iff.mp hd
  refine wpAny_execs_nil (q s ?_)
  obtain⟨⟨es,k,h1,h2,h3⟩,k1,k2,k3⟩:=I
  refine⟨⟨es,k,h1,?_,?_⟩,k1,k2,k3⟩
  ·rw[List.take_length];rwa [List.take_of_length_le hj] at h2
  ·rw[←Z.len,List.take_length];rwa [List.take_of_length_le (Z.len▸hj)] at h3
 | arg h hl hd hr ih =>
  intro s Q hd0 I q
  obtain⟨val,u,hm,hu,hvr'⟩:=Z.args _ _ h
  refine wpAny_execs_cons (plainObj_wpAny_Assign_Attribute (wpAny_Name (wpAny_loadName_local Z.fn (Z.kind _ _ hl) (Z.ns.elim λo z=>z.elim λes z=>z.elim λep z=>⟨o,es,ep,I.kept _ _ Z.ne z.1,z.2⟩) hm (store ih hd0 I q val u s.toks hu hvr')) hd) rfl)
 | @zero f fs' j k r sp ap pp pos h hr ih =>
  intro s Q hd0 I q
  have hj:j<fs.length:=by
   rw[Z.len]
   exact Nat.lt_of_not_le λz=>absurd (hd0.symm.trans (List.drop_eq_nil_iff.mpr z)) (bw _ _)
  exact wpAny_execs_cons (plainObj_wpAny_Assign_Attribute (wpAny_Constant_int (store ih hd0 I q _ (.int 0) (s.toks+1) (Z.zero j h hj) (VR.int 0 _))) rfl)
end
structure InitFn(fI:Addr)(c:Nat)(an:List PySem.Str)(q:FnQ):Prop where
 lk:zK.lookup fI=some q.obj
 dV:q.dV= .none
 code:codeIn zK q.cdv q.qual=true
 args:q.as.map (·.arg)=("self" :PySem.Str)::an
 co:q.sc.isCoroutine=false
 gen:q.sc.isGenerator=false
 kind:q.sc.kind= .function
 cell:∀x∈q.sc.names,x.2≠ .cell
 loc:∀y∈("self" :PySem.Str)::an,q.sc.names.lookup y=some .local
 body:InitB an q.sc (cQ c) 0 q.body
 nodup:(("self" :PySem.Str)::an).Nodup
structure MkAt(c:Nat)(an:List PySem.Str):Prop where
 makes:makesIn zK (zc c)=true
 init:∃fI,findIn zK (.ref (zc c)) "__init__" =some (some (.ref fI))∧typeIn zK (.ref fI)=some (.type "function")∧∃q,InitFn fI c an q
 keep:keepIn zK (.ref (zc c))=true
theorem F4{A:Around}{σ:H}{k:C}{c:Nat}{an:List PySem.Str}{args fs:List V}{vals:List Value}{β:Type}{K:V→H→Option β}{r:β}{Q:Value→Shared→Prop}(hc:c<2)(Mk:MkAt c an)(rm:A.depth+4<recursionLimit)(S:Sim k.W σ k.s.heap)
  (rs:VRs k.W args vals) (hal:args.length=an.length) (hle:an.length≤(cQ c).length) (hfs:fs=args++List.replicate ((cQ c).length-an.length) (.int 0)) (e:mkO (.inst c fs) σ K=some r) (q:Kq k K r Q) :
  wpAny M A (call (.ref (zc c)) vals) Q Ex k.s:=by
 obtain⟨fI,hi,hty,fq,IF⟩:=Mk.init
 have hobj:=IF.lk
 have has:=IF.args
 have hloc:=IF.loc
 have hnd:=IF.nodup
 obtain⟨W,⟨hh,g,d,t,os⟩⟩:=k
 have X:zK.In hh:=S.kin
 have rdep:A.depth<recursionLimit:=ax (az _ _) rm
 refine wpAny_call (make_core (makes_of X Mk.makes) (looks_findIn X hi) (λself=>bind_fn X self hty) (.inl rfl) ?_)
 have k2:Keeps hh ((hh.push emptyDict).push (instObj (zc c) hh.objs.size)):=λb o e=>eE _ _ b o (eE _ _ b o e)
 have hdx:((hh.push emptyDict).push (instObj (zc c) hh.objs.size)).get? hh.objs.size=some emptyDict:=eE _ _ _ _ (aN _ rfl)
 have hx:((hh.push emptyDict).push (instObj (zc c) hh.objs.size)).get? (hh.objs.size+1)=some (instObj (zc c) hh.objs.size):=by
  have:=aN (o:=instObj (zc c) hh.objs.size) (hh.push emptyDict) rfl
  rwa [Heap.size_push] at this
 have hL:((hh.push emptyDict).push (instObj (zc c) hh.objs.size)).objs.size=hh.objs.size+2:=by rw[Heap.size_push,Heap.size_push]
 generalize((hh.push emptyDict).push (instObj (zc c) hh.objs.size))=h2 at k2 hdx hx hL⊢
 have hbk:((("self" :PySem.Str)::an).zip (Value.ref (hh.objs.size+1)::vals)).map (·.1)=("self" :PySem.Str)::an:=by
  rw[rG,bc,←rs.length,hal];exact List.take_length (l:=("self" :PySem.Str)::an)
 refine codeAny_call_def (binds:=(("self" :PySem.Str)::an).zip (.ref (hh.objs.size+1)::vals)) (ax (aB (show Code.weight (.builtin "type.__call__" ⟨.ref (zc c)::vals,[]⟩)≤4 from ae (aZ (rfl:_=1)) (by decide)) A.depth) rm) (k2 _ _ (X _ _ hobj)) rfl ((S.bz.lim.keeps S.base).keeps k2) (((codeRec_of S.bz.X IF.code).keeps S.base).keeps k2) rfl (λM A E Q q=> ?_) IF.cell (λy hy=>hloc _ (by rw[←hbk];exact aK (f:=Prod.fst) hy)) (λh₁ hns hkeep=> ?_) IF.co IF.gen IF.kind
 ·refine lI (D:=[]) rfl (by rw[has];exact hnd) (.inr (by rw[←ah (f:=λ(a:Arg)=>a.arg),has];exact congrArg Nat.succ (rs.length.symm.trans hal))) (λQ' hQ'=>by
   show wpAny M _ (seqItems? fq.dV) _ _ _
   rw[IF.dV]
   exact wpAny_bind (wpAny_pure (wpAny_pure (hQ' none rfl)))) ?_
  rw[has,aw,ite_self]
  exact q
 have kk:Keeps hh h₁:=λb o e=>hkeep _ _ (k2 b o e)
 have hfl:fs.length=(cQ c).length:=by rw[hfs,aa,List.length_replicate,hal,Nat.add_sub_cancel' hle]
 have hnx:hh.get? (hh.objs.size+1)=none:=get?_above (Nat.le_succ _)
 have hn0:∀b,on (hh.objs.size+1,hh.objs.size) b→hh.get? b=none:=λb hb=>hb.elim (λe=>e▸hnx) λe=>e▸cL hh
 have hx1:=hkeep _ _ hx
 have hdx1:=hkeep _ _ hdx
 have Z:InitC W an (callEnv fq.fd h2.objs.size fI) fq.sc (λy=>((("self" :PySem.Str)::an).zip (Value.ref (hh.objs.size+1)::vals)).reverse.lookup y) (zc c) (hh.objs.size+1) hh.objs.size c fs
   ⟨h₁,g,d,t+((("self" :PySem.Str)::an).zip (Value.ref (hh.objs.size+1)::vals)).length,os⟩ :=
  {cls:=S.bz.cls c hc,fn:=IF.kind,kind:=λy k hy=>hy,self:=hloc _ (.head _),hx:=hx1,ns:=hns,ne:=λz=>absurd (hL.symm.trans z) (Nat.ne_of_gt (Nat.lt_succ_of_lt (Nat.lt_succ_self _))),xd:=Nat.succ_ne_self _
   X:=λa o q=>kk _ _ (X a o q),Xd:=λa o q=>Nat.ne_of_lt (Heap.lt_size (X a o q)),mS:=sY (by rw[hbk];exact hnd) (.head _),len:=hfl
   args:=λj y hy=>by
    have hj:j<args.length:=hal▸(aM.mp hy).1
    obtain⟨v,hv,ra⟩:=rs.at (aW hj)
    refine⟨v,args[j],sY (by rw[hbk];exact hnd) (List.mem_of_getElem? (i:=j+1) ?_),by rw[hfs,List.getElem?_append_left hj];exact aW hj,ra⟩
    rw[List.zip_cons_cons,List.getElem?_cons_succ,List.getElem?_zip_eq_some]
    exact⟨hy,hv⟩
   zero:=λj hj hjl=>by
    rw[hfs,aX (hal▸hj),List.getElem?_replicate,if_pos]
    rw[hal]
    exact Nat.sub_lt_sub_right hj (hfl▸hjl)}
 refine wpX (AN Z IF.body rfl ⟨⟨[],0,hdx1,.nil,.nil⟩,λb o _ q=>q,rfl,rfl⟩ λs' I=>⟨rfl,?_⟩)
 obtain⟨⟨es,k,h1,h3,h4⟩,q1,q2,q3⟩:=I
 rw[List.take_length] at h3
 rw[←hfl,List.take_length] at h4
 have off:=λb hb=>S.off (hn0 b hb)
 exact q _ _ _ ⟨W.addO (hh.objs.size+1,hh.objs.size),s'⟩ e (Good.addO S (Good.keep (s':=⟨h₁,g,d,t+((("self" :PySem.Str)::an).zip (Value.ref (hh.objs.size+1)::vals)).length,os⟩) S kk rfl rfl) hn0
  (λb hb=>hb.elim (λe=>e▸⟨_,hx1,λz=>Value.noConfusion z⟩) λe=>e▸⟨_,hdx1,jq rfl⟩) off (λb o q hb=>q1 b o (λz=>hb (.inr z)) q) ⟨hc,(Nat.succ_ne_self _).symm,q1 _ _ (Nat.succ_ne_self _) hx1,es,k,h1,h3,h4⟩ q2 q3) (VR.new S _)
section
variable{P:Fr}{n:Nat}{F:FT}
theorem Hs{c:Nat}{an:List PySem.Str}{nm:PySem.Str}{es:List E}{xs:List PySem.Expr}{p pos:Pos}(hc:c<2)(Mk:MkAt c an)(han:an.length=if c=0 then 7 else 2)(g:Glob P nm (.ref (zc c)))(h:All2 (EvE P n F) es xs):bS P n F (.mk c es) (.Call (.Name nm p) xs [] pos):=λ{β A σ le k K r Q} a e q =>
 eL g (.inr Mk.keep) h a e λvs σ₁ vals c₁ e g₁ rs=>by
  have rm:A.depth+4<recursionLimit:=ax (aF (az _ _) 4) a.room.depth
  have go:∀fs,an.length≤(cQ c).length→vs.length=an.length→fs=vs++List.replicate ((cQ c).length-an.length) (.int 0)→mkO (.inst c fs) σ₁ K=some r→wpAny M A (call (.ref (zc c)) vals) Q Ex c₁.s:=λfs h1 h2 h3 e=>F4 hc Mk rm g₁.sim rs h2 h1 h3 e (q.up g₁)
  by_cases h0:c=0∧vs.length=7
  ·have eF:mkO (.inst 0 vs) σ₁ K=some r:=(if_pos h0).symm.trans e
   obtain⟨rfl,h7⟩:=h0
   exact go vs (han▸aD 7) (h7.trans han.symm) (by rw[han];exact(aw vs).symm) eF
  ·refine gE ((if_neg h0).symm.trans e) λh1 eF=> ?_
   obtain⟨rfl,h2⟩:=h1
   exact go _ (han▸(show 2≤3 by decide)) (h2.trans han.symm) (by rw[han];rfl) eF
end
theorem io(x c:Int)(m:Nat):e8 x c (m+1)= .int x::e8 (x+c) c m:=by
 unfold e8
 rw[List.range_succ_eq_map,aR,aY]
 refine List.cons_eq_cons.mpr ⟨congrArg V.int (by rw[Int.natCast_zero,Int.mul_zero,Int.add_zero]),List.map_congr_left λk _=>congrArg V.int ?_⟩
 show x+c*((k+1:Nat):Int)=x+c+c*(k:Int)
 rw[Int.natCast_succ,Int.mul_add,Int.mul_one,Int.add_assoc,Int.add_comm c]
theorem gK{α:Type}{xs:List α}{k:Nat}{x:α}(h:xs[k]? =some x):xs.drop k=x::xs.drop (k+1):=by
 obtain⟨hk,e⟩:=aM.mp h
 rw[List.drop_eq_getElem_cons hk,e]
theorem gL{α:Type}{xs:List α}{k:Nat}(h:xs[k]? =none):xs.drop k=[]:=List.drop_eq_nil_of_le (List.getElem?_eq_none_iff.mp h)
section
variable{A:Around}{E:Value→Shared→Prop}{s:Shared}{W W':Wd}{h h':Heap}{g g1 g2:Gd}{i i1 i2 z TI TO:Addr}{items:List V}
theorem jV{it:Addr}{x left step:Int}{Q:Value→Shared→Prop}(hit:IsRangeIter s.heap it x left step)(hleft:0<left)
  (hQ:∀h',IsRangeIter h' it (x+step) (left-1) step→Heap.SameBut it s.heap h'→Q (.int x s.toks) {s with heap:=h',toks:=s.toks+1}):wpAny M A (Builtin.SmallTypes.nextOf (.ref it)) Q E s:=by
 have hT:s.TypeIs (.ref it) "range_iterator" :=⟨_,hit,rfl⟩
 unfold Builtin.SmallTypes.nextOf
 refine wpAny_bind (wpAny_callSpecial?_slot (name:=Str.ofString "__next__") hT F.slot_range_iterator_next
  (call_meets F.slot_range_iterator_next hT F.entry_range_iterator_next (F.args_range_iterator_next_1 _) (AutoRange.range_iterator___next___range_iterator_1 it x left step (Int.not_le.mpr hleft)) ⟨hit,?_⟩))
 exact wpAny_pure (hQ _ (Heap.get?_update_self _ (Heap.get?_update_self _ hit rfl) rfl) ((Heap.SameBut.update ..).trans (Heap.SameBut.update ..)))
noncomputable def Stop(h':Heap)(e:Addr):Prop:=∃o,h'.get? e=some o∧o.cls= .type "StopIteration"
theorem kD{it:Addr}{x left step:Int}{Q:Value→Shared→Prop}(hh:A.handled=none)(hit:IsRangeIter s.heap it x left step)(hleft:left≤0)
  (hE:∀h' e,Heap.ExtBut it s.heap h'→Stop h' e→E (.ref e) {s with heap:=h'}):wpAny M A (Builtin.SmallTypes.nextOf (.ref it)) Q E s:=by
 have hT:s.TypeIs (.ref it) "range_iterator" :=⟨_,hit,rfl⟩
 unfold Builtin.SmallTypes.nextOf
 refine wpAny_bind (wpAny_callSpecial?_slot (name:=Str.ofString "__next__") hT F.slot_range_iterator_next
  (wpAny_call_entry F.slot_range_iterator_next hT F.entry_range_iterator_next ?_ (F.args_range_iterator_next_1 _)))
 show wpAny _ _ (field (.ref it) 0>>=_) _ _ s
 refine wpAny_bind (wpAny_field hit rfl (x:=rawInt x) rfl ?_)
 show wpAny _ _ (field (.ref it) 1>>=_) _ _ s
 refine wpAny_bind (wpAny_field hit rfl (x:=rawInt left) rfl ?_)
 show wpAny _ _ (field (.ref it) 2>>=_) _ _ s
 refine wpAny_bind (wpAny_field hit rfl (x:=rawInt step) rfl ?_)
 show wpAny _ _ (if left≤0 then _ else _) _ _ s
 rw[if_pos hleft]
 refine wpAny_bind (wpAny_rule (wpAny_bind ?_))
 show wpAny _ _ (newExc (.type "StopIteration") []>>=_) _ _ _
 refine wpAny_bind ?_
 simp only[newExc,newTuple]
 refine wpAny_bind (wpAny_newObj_type ?_ (by size_fits))
 refine wpAny_bind (m:=firstArgMember _ _) (wpAny_of_eq (a:=Value.none) (by first|rfl|(simp only[firstArgMember];rfl)) ?_)
 refine wpAny_newObj_type ?_ (by size_fits)
 simp only[raiseNew]
 refine wpAny_bind (wpAny_handled ?_)
 first|rw[show A.in1.handled=none from hh]|rw[hh]
 refine wpAny_bind (wpAny_pure (wpAny_throw ?_))
 exact hE _ _ (((Heap.ExtBut.refl it s.heap).push _).push _) ⟨_,aN _ rfl,rfl⟩
inductive In1 (W:Wd) (h:Heap) (i:Addr):Gd→List V→Prop
 | list {a:Nat} {d:Addr} {k:Nat} {xs:List V} (hp:W.objs[a]? =some (d,d)) (hi:h.IsListIter i d k):In1 W h i [(a,xs)] (xs.drop k)
 | range {x c:Int} {m:Nat} (hi:IsRangeIter h i x (m:Int) c):In1 W h i [] (e8 x c m)
noncomputable def rZ(W:Wd)(h:Heap)(g:Gd):Prop:=∀p∈g,∀d,W.objs[p.1]? =some (d,d)→∃it n,h.get? d=some (lst it n)∧VRs W p.2 it.toList
theorem In1.mono(hW:W.Le W')(k:∀o,h.get? i=some o→h'.get? i=some o)(I:In1 W h i g items):In1 W' h' i g items:=by
 cases I with
 | list hp hi=>exact .list (hW.at hp) (hi.elim λo z=>⟨o,k o z.1,z.2⟩)
 | range hi=>exact .range (k _ hi)
theorem rZ.mono(k:∀b o,W.foot b→h.get? b=some o→h'.get? b=some o)(L:rZ W h g):rZ W h' g:=λp hp d hd=>(L p hp d hd).elim λit z=>z.elim λn z=>⟨it,n,k d _ ⟨p.1,_,hd,.inl rfl⟩ z.1,z.2⟩
theorem In1.alive(I:In1 W h i g items):∃o,h.get? i=some o:=by
 cases I with
 | list hp hi=>exact hi.elim λo z=>⟨o,z.1⟩
 | range hi=>exact⟨_,hi⟩
theorem In1.next(hh:A.handled=none)(I:In1 W s.heap i g items)(L:rZ W s.heap g){Q:Value→Shared→Prop}(ho:¬W.foot i)
  (q:∀x r,items=x::r→∀h' tk v,In1 W h' i g r→Heap.SameBut i s.heap h'→VR W x v→Q v {s with heap:=h',toks:=tk})
  (e:items=[]→∀h' b,Heap.ExtBut i s.heap h'→Stop h' b→E (.ref b) {s with heap:=h'}):wpAny M A (Builtin.SmallTypes.nextOf (.ref i)) Q E s:=by
 cases I with
 | @list a d k xs hp hi =>
  obtain⟨it,n,hd,rs⟩:=L _ (.head _) d hp
  have hL:s.heap.IsList d it:=⟨_,hd,rfl,n,rfl⟩
  cases hx:xs[k]? with
  | none=>exact wpAny_nextOf_list_end hh hi hL (by rw[←Array.getElem?_toList];exact List.getElem?_eq_none_iff.mpr (rs.length▸List.getElem?_eq_none_iff.mp hx)) λh' b hs hb=>e (gL hx) h' b hs hb
  | some x =>
   obtain⟨v,hv,rv⟩:=rs.at hx
   exact wpAny_nextOf_list_item hi hL (by rw[←Array.getElem?_toList];exact hv) λh' hi' hs=>q x _ (gK hx) h' s.toks v (.list hp hi') hs rv
 | @range x c m hi =>
  cases m with
  | zero=>exact kD hh hi (bv 0) λh' b hs hb=>e rfl h' b hs hb
  | succ m=>exact jV hi (Int.natCast_pos.mpr (Nat.succ_pos m)) λh' hi' hs=>q (.int x) _ (io x c m) h' _ _ (.range (by rwa [Int.natCast_succ,bj] at hi')) hs (VR.int _ _)
structure ZApart(z TI TO i1 i2:Addr):Prop where
 nd:[z,TI,TO,i1,i2].Nodup
 TIz:TI≠z
 TOz:TO≠z
 i1z:i1≠z
 i2z:i2≠z
 TITO:TI≠TO
 TIi1:TI≠i1
 TIi2:TI≠i2
 TOi1:TO≠i1
 TOi2:TO≠i2
 i12:i1≠i2
theorem ZApart.of(hd:[z,TI,TO,i1,i2].Nodup):ZApart z TI TO i1 i2:=by
 have h:=hd
 simp only[aQ,aE,not_or,bm,not_false_eq_true,and_true] at hd
 obtain⟨⟨a1,a2,a3,a4⟩,⟨b1,b2,b3⟩,⟨c1,c2⟩,d1,_⟩:=hd
 exact⟨h,Ne.symm a1,Ne.symm a2,Ne.symm a3,Ne.symm a4,b1,b2,b3,c1,c2,d1⟩
noncomputable def zX(z TO i1 i2 b:Addr):Prop:=b=z∨b=TO∨b=i1∨b=i2
theorem yx(hh:A.handled=none)(D:ZApart z TI TO i1 i2)(off:∀b,W.foot b→b≠z∧b≠TI∧b≠TO∧b≠i1∧b≠i2){a b:Value}{xs ys:List V}{Q:Fin→Shared→Prop}
  (hz:IsZip s.heap z TI TO .none) (hTI:IsPair s.heap TI (.ref i1) (.ref i2)) (hTO:IsPair s.heap TO a b) (I1:In1 W s.heap i1 g1 xs) (I2:In1 W s.heap i2 g2 ys) (L1:rZ W s.heap g1) (L2:rZ W s.heap g2)
  (q:∀x xr y yr,xs=x::xr→ys=y::yr→∀h' tk xv yv,IsZip h' z TI TO (rawInt s.heap.objs.size)→IsPair h' TO xv yv→In1 W h' i1 g1 xr→In1 W h' i2 g2 yr→IsPair h' s.heap.objs.size xv yv→VR W x xv→VR W y yv→Kept (zX z TO i1 i2) s.heap h'→
   Q (.done (.ret (.ref s.heap.objs.size))) {s with heap:=h',toks:=tk})
  (e:xs=[]∨ys=[]→∀h' tk c,Kept (zX z TO i1 i2) s.heap h'→Stop h' c→E (.ref c) {s with heap:=h',toks:=tk}):wpAny M A (Builtin.«zip.__next__» ⟨[.ref z],[]⟩) Q E s:=by
 show wpAny _ _ (field (.ref z) 2>>=_) _ _ _
 refine wpAny_bind (wpAny_field hz rfl (x:= .bool false) rfl ?_)
 show wpAny _ _ (field (.ref z) 3>>=_) _ _ _
 refine wpAny_bind (wpAny_field hz rfl (x:= .ref TI) rfl ?_)
 refine wpAny_bind (wpAny_seqItems hTI rfl ?_)
 show wpAny _ _ (Builtin.SmallTypes.ownedTupleIsFree (.ref z)>>=_) _ _ _
 refine wpAny_bind ?_
 unfold Builtin.SmallTypes.ownedTupleIsFree
 refine wpAny_bind (wpAny_field hz rfl (x:= .none) rfl (wpAny_pure ?_))
 rw[if_pos rfl]
 refine wpAny_bind (wpAny_rule ?_)
 refine wpAny_bind (wpAny_field hz rfl (x:= .ref TO) rfl ?_)
 refine wpAny_bind (wpAny_setField_rec hz (show 0<5 by decide) λh₁ hz₁ hs₁=> ?_)
 replace hz₁:IsZip h₁ z TI TO .ellipsis:=hz₁
 refine wpAny_bind ?_
 simp only[List.zipIdx_cons,List.zipIdx_nil,List.forIn_cons,List.forIn_nil]
 refine wpAny_bind (wpAny_bind (wpAny_onRaise ?_))
 show wpAny _ _ (Builtin.SmallTypes.nextOf (.ref i1)>>=_) _ _ _
 have stopNe:∀{h':Heap} {c:Addr},IsZip h' z TI TO .ellipsis→Stop h' c→c≠z:=λ{h' c} hz' ⟨oe,hoe,hce⟩ x=>by
  rw[x,show h'.get? z=_ from hz'] at hoe
  rw[←Option.some.inj hoe] at hce
  exact absurd (Value.type.inj hce) (by decide)
 refine wpAny_bind (In1.next hh (I1.mono (.refl _) λo=>hs₁.extBut _ o D.i1z) (L1.mono λb o f=>hs₁.extBut b o (off b f).1) (λf=>(off _ f).2.2.2.1 rfl) (λx xr ex h₂ tk₂ xv I1₂ hs₂ rx=>wpAny_pure ?_) λex h₂ c hs₂ hc=> ?_)
 ·have hTO₂:IsPair h₂ TO a b:=hs₂.extBut _ _ D.TOi1 (hs₁.extBut _ _ D.TOz hTO)
  refine wpAny_bind (wpAny_seqItems hTO₂ rfl ?_)
  refine wpAny_bind (wpAny_updateSeq_pair hTO₂ λh₃ hTO₃ hs₃=> ?_)
  replace hTO₃:IsPair h₃ TO xv b:=hTO₃
  refine wpAny_bind (wpAny_letGo (wpAny_pure ?_))
  refine wpAny_bind (wpAny_bind (wpAny_onRaise ?_))
  show wpAny _ _ (Builtin.SmallTypes.nextOf (.ref i2)>>=_) _ _ _
  have up3:∀c o,c≠z→c≠i1→c≠TO→s.heap.get? c=some o→h₃.get? c=some o:=λc o c1 c2 c3 x=>hs₃.extBut _ _ c3 (hs₂.extBut _ _ c2 (hs₁.extBut _ _ c1 x))
  have hz₃:IsZip h₃ z TI TO .ellipsis:=hs₃.extBut _ _ D.TOz.symm (hs₂.extBut _ _ D.i1z.symm hz₁)
  refine wpAny_bind (In1.next hh (I2.mono (.refl _) λo=>up3 _ o D.i2z D.i12.symm D.TOi2.symm) (L2.mono λb o f=>up3 b o (off b f).1 (off b f).2.2.2.1 (off b f).2.2.1) (λf=>(off _ f).2.2.2.2 rfl) (λy yr ey h₄ tk₄ yv I2₄ hs₄ ry=>wpAny_pure ?_) λey h₄ c hs₄ hc=> ?_)
  ·have hTO₄:IsPair h₄ TO xv b:=hs₄.extBut _ _ D.TOi2 hTO₃
   refine wpAny_bind (wpAny_seqItems hTO₄ rfl ?_)
   refine wpAny_bind (wpAny_updateSeq_pair hTO₄ λh₅ hTO₅ hs₅=> ?_)
   replace hTO₅:IsPair h₅ TO xv yv:=hTO₅
   refine wpAny_bind (wpAny_letGo (wpAny_pure (wpAny_pure ?_)))
   refine wpAny_bind (wpAny_seqItems hTO₅ rfl ?_)
   refine wpAny_bind (wpAny_newTuple ?_)
   have hsz:h₅.objs.size=s.heap.objs.size:=by rw[hs₅.1,hs₄.1,hs₃.1,hs₂.1,hs₁.1]
   have up5:∀c o,c≠i2→c≠TO→h₃.get? c=some o→h₅.get? c=some o:=λc o c1 c2 x=>hs₅.extBut _ _ c2 (hs₄.extBut _ _ c1 x)
   have hz₅:IsZip h₅ z TI TO .ellipsis:=up5 _ _ D.i2z.symm D.TOz.symm hz₃
   have hzlt:z<h₅.objs.size:=Heap.lt_size hz₅
   show wpAny _ _ (Builtin.SmallTypes.ownedTupleHandOut (.ref z) (.ref h₅.objs.size)>>=_) _ _ _
   refine wpAny_bind ?_
   unfold Builtin.SmallTypes.ownedTupleHandOut
   have hz₆:IsZip (h₅.push (tpl [xv,yv])) z TI TO .ellipsis:=aT _ hz₅
   refine wpAny_bind (wpAny_setField_rec hz₆ (show 0<5 by decide) λh₇ hz₇ hs₇=> ?_)
   replace hz₇:IsZip h₇ z TI TO (rawInt h₅.objs.size):=hz₇
   refine wpAny_setField_rec hz₇ (show 1<5 by decide) λh₈ hz₈ hs₈=> ?_
   replace hz₈:IsZip h₈ z TI TO (rawInt h₅.objs.size):=hz₈
   have up8:∀c o,c≠z→h₅.get? c=some o→h₈.get? c=some o:=λc o c1 x=>hs₈.extBut _ _ c1 (hs₇.extBut _ _ c1 (aT _ x))
   have hT₈:IsPair h₈ h₅.objs.size xv yv:=hs₈.extBut _ _ (Nat.ne_of_gt hzlt) (hs₇.extBut _ _ (Nat.ne_of_gt hzlt) (aN _ rfl))
   rw[hsz] at hz₈ hT₈
   refine wpAny_pure ?_
   show Q (.done (.ret (.ref h₅.objs.size))) _
   rw[hsz]
   exact q x xr y yr ex ey h₈ _ xv yv hz₈ (up8 _ _ D.TOz hTO₅) (I1₂.mono (.refl _) λo x=>up8 _ o D.i1z (up5 _ o D.i12 D.TOi1.symm (hs₃.extBut _ _ D.TOi1.symm x))) (I2₄.mono (.refl _) λo x=>up8 _ o D.i2z (hs₅.extBut _ _ D.TOi2.symm x)) hT₈ rx ry
    λc o x n=>up8 c o (λz=>n (.inl z)) (up5 c o (λz=>n (.inr (.inr (.inr z)))) (λz=>n (.inr (.inl z))) (up3 c o (λz=>n (.inl z)) (λz=>n (.inr (.inr (.inl z)))) (λz=>n (.inr (.inl z))) x))
  ·have hz₄:IsZip h₄ z TI TO .ellipsis:=hs₄ _ _ D.i2z.symm hz₃
   refine wpAny_setField_rec hz₄ (show 0<5 by decide) λh₅ _ hs₅=>e (.inr ey) h₅ _ c (λd o x n=>hs₅.extBut _ _ (λz=>n (.inl z)) (hs₄ _ _ (λz=>n (.inr (.inr (.inr z)))) (up3 d o (λz=>n (.inl z)) (λz=>n (.inr (.inr (.inl z)))) (λz=>n (.inr (.inl z))) x))) (hc.elim λoe z=>⟨oe,hs₅.extBut _ _ (stopNe hz₄ hc) z.1,z.2⟩)
 ·have hz₂:IsZip h₂ z TI TO .ellipsis:=hs₂ _ _ D.i1z.symm hz₁
  refine wpAny_setField_rec hz₂ (show 0<5 by decide) λh₃ _ hs₃=>e (.inl ex) h₃ _ c (λd o x n=>hs₃.extBut _ _ (λz=>n (.inl z)) (hs₂ _ _ (λz=>n (.inr (.inr (.inl z)))) (hs₁.extBut _ _ (λz=>n (.inl z)) x))) (hc.elim λoe z=>⟨oe,hs₃.extBut _ _ (stopNe hz₂ hc) z.1,z.2⟩)
theorem uA(hh:A.handled=none)(D:ZApart z TI TO i1 i2)(off:∀b,W.foot b→b≠z∧b≠TI∧b≠TO∧b≠i1∧b≠i2){a b:Value}{xs ys:List V}{Q:Option Value→Shared→Prop}
  (hz:IsZip s.heap z TI TO .none) (hTI:IsPair s.heap TI (.ref i1) (.ref i2)) (hTO:IsPair s.heap TO a b) (I1:In1 W s.heap i1 g1 xs) (I2:In1 W s.heap i2 g2 ys) (L1:rZ W s.heap g1) (L2:rZ W s.heap g2)
  (q:∀x xr y yr,xs=x::xr→ys=y::yr→∀h' tk xv yv,IsZip h' z TI TO (rawInt s.heap.objs.size)→IsPair h' TO xv yv→In1 W h' i1 g1 xr→In1 W h' i2 g2 yr→IsPair h' s.heap.objs.size xv yv→VR W x xv→VR W y yv→Kept (zX z TO i1 i2) s.heap h'→
   Q (some (.ref s.heap.objs.size)) {s with heap:=h',toks:=tk})
  (e:xs=[]∨ys=[]→∀h' tk,Kept (zX z TO i1 i2) s.heap h'→Q none {s with heap:=h',toks:=tk}):wpAny M A (pyNext (.ref z)) Q E s:=by
 have hT:s.TypeIs (.ref z) "zip" :=⟨_,hz,rfl⟩
 unfold pyNext
 refine wpAny_bind (wpAny_attempt (wpAny_callSpecial?_slot (name:=Str.ofString "__next__") hT F.slot_zip_next
  (wpAny_call_entry F.slot_zip_next hT F.entry_zip_next (yx (A:=A.in1) hh D off hz hTI hTO I1 I2 L1 L2 (λx xr y yr ex ey h' tk xv yv a1 a2 a3 a4 a5 a6 a7 a8=>⟨_,rfl,wpAny_pure (q x xr y yr ex ey h' tk xv yv a1 a2 a3 a4 a5 a6 a7 a8)⟩) λee h' tk c hk hc=> ?_) (F.args_zip_next_1 _))))
 exact wpAny_bind (wpAny_isInstance (T:= "StopIteration") (b:=true) hc isSubtype_stop (wpAny_pure (e ee _ _ hk)))
end
structure Fp(W:Wd)(h:Heap)(fp:List Addr):Prop where
 live:∀b∈fp,∃o,h.get? b=some o
 off:∀b∈fp,¬W.foot b∧(∀t∈W.tups,t.1≠b)∧zh.get? b=none
theorem HT{W:Wd}{σ:H}{h:Heap}{g:Gd}(S:Sim W σ h)(hG:cY σ g):rZ W h g:=λp hp d hd=>by
 obtain⟨_,_,items,n,ho,hr⟩:=S.obj p.1 _ _ (hG p hp) hd
 exact⟨items,n,ho,hr⟩
inductive ItAt (W:Wd) (h:Heap):Bool→Value→List Addr→Gd→List V→Prop
 | one {tt:Bool} {i:Addr} {g:Gd} {items:List V} (I:In1 W h i g items):ItAt W h tt (.ref i) [i] g items
 | tup {tt:Bool} {i t:Addr} {items:List Value} {k:Nat} {xs:List V} (hm:(t,items)∈W.tups) (hr:VRs W xs items) (hi:h.IsTupleIter i t k):ItAt W h tt (.ref i) [i] [] (xs.drop k)
 | bytes {tt:Bool} {i:Addr} {b:Array UInt8} {t:Tok} {k:Nat} (hi:KBw.IsBytesIter h i b t k):ItAt W h tt (.ref i) [i] [] (((KBw.bInts b).map V.int).drop k)
 | enum {e i:Addr} {a:Nat} {d:Addr} {k:Nat} {xs:List V} {old:Value} (hp:W.objs[a]? =some (d,d)) (hne:e≠i) (he:IsEnum h e i k old) (hi:h.IsListIter i d k):ItAt W h true (.ref e) [e,i] [(a,xs)] (qu (xs.drop k) k)
 | zip {z TI TO i1 i2:Addr} {g1 g2:Gd} {xs ys:List V} {u v:Value} (D:ZApart z TI TO i1 i2) (hz:IsZip h z TI TO .none) (hTI:IsPair h TI (.ref i1) (.ref i2)) (hTO:IsPair h TO u v) (I1:In1 W h i1 g1 xs) (I2:In1 W h i2 g2 ys) :
   ItAt W h true (.ref z) [z,TI,TO,i1,i2] (g1++g2) (gN xs ys)
theorem F5{P:Addr→Prop}{z a b d e:Addr}(h1:P z)(h2:P a)(h3:P b)(h4:P d)(h5:P e):∀x∈[z,a,b,d,e],P x:=ao.mpr ⟨h1,ao.mpr ⟨h2,ao.mpr ⟨h3,ao.mpr ⟨h4,ao.mpr ⟨h5,aj _⟩⟩⟩⟩⟩
theorem ItAt.mono{W W':Wd}{h h':Heap}{fp:List Addr}{tt:Bool}{it:Value}{g:Gd}{items:List V}(hW:W.Le W')(k:∀b o,b∈fp→h.get? b=some o→h'.get? b=some o)(I:ItAt W h tt it fp g items):ItAt W' h' tt it fp g items:=by
 have k2:∀{i b:Addr} {fp':List Addr} {o:Obj},fp=i::b::fp'→h.get? b=some o→h'.get? b=some o:=λe q=>k _ _ (e▸ .tail _ (.head _)) q
 cases I with
 | one I=>exact .one (I.mono hW λo=>k _ o (.head _))
 | tup hm hr hi=>exact .tup (hW.tups _ hm) (hr.mono hW) (hi.elim λo z=>⟨o,k _ _ (.head _) z.1,z.2⟩)
 | bytes hi=>exact .bytes (hi.elim λo z=>⟨o,k _ _ (.head _) z.1,z.2⟩)
 | enum hp hne he hi=>exact .enum (hW.at hp) hne (k _ _ (.head _) he) (hi.elim λo z=>⟨o,k _ _ (.tail _ (.head _)) z.1,z.2⟩)
 | zip D hz hTI hTO I1 I2=>exact .zip D (k _ _ (.head _) hz) (k _ _ (.tail _ (.head _)) hTI) (k _ _ (.tail _ (.tail _ (.head _))) hTO) (I1.mono hW λo=>k _ o (.tail _ (.tail _ (.tail _ (.head _))))) (I2.mono hW λo=>k _ o (.tail _ (.tail _ (.tail _ (.tail _ (.head _))))))
noncomputable def r9(tt:Bool)(t:PySem.Expr):Prop:=if tt then∃e k p,t= .Tuple e k p else∃x p,t= .Name x p
section
variable{A:Around}{σ σ':H}{c c':C}{X:Addr→Prop}{fp:List Addr}{tt:Bool}{target:PySem.Expr}
theorem Fp.good(f:Fp c.W c.s.heap fp)(g:Good X c σ' c'):Fp c'.W c'.s.heap fp :=
 ⟨λb hb=>(f.live b hb).elim (g.live b),λb hb=>(f.live b hb).elim λo ho=>⟨g.off ho (f.off b hb).1,g.offT ho (f.off b hb).2.1,(f.off b hb).2.2⟩⟩
theorem Fp.step(f:Fp c.W c.s.heap fp)(S:Sim c.W σ c.s.heap){h':Heap}{tk:Nat}(k:Kept (·∈fp) c.s.heap h')(live:∀b∈fp,∃o,h'.get? b=some o):Good (·∈fp) c σ ⟨c.W,{c.s with heap:=h',toks:=tk}⟩ :=
 Good.keepX (s':={c.s with heap:=h',toks:=tk}) S k (λb hb=>f.off b hb) live rfl rfl
noncomputable def owned:List String:=["enumerate", "zip", "dict_itemiterator", "dict_reverseitemiterator", "odict_iterator", "itertools.zip_longest", "itertools.pairwise"]
theorem s6{n:String}{s:Shared}{I:Addr}{v:Value}{o:Obj}{Q:Unit→Shared→Prop}(ht:r9 tt target)(ho:s.heap.get? I=some o)(hc:o.cls= .type n)(hn:owned.contains n=false)(h:Q () s) :
  wpAny M A (letOwnedTupleGo target (.ref I) v) Q Ex s:=by
 unfold r9 at ht
 cases tt with
 | false=>obtain⟨x,p,rfl⟩:=ht;exact wpAny_pure h
 | true =>
  obtain⟨e,k,p,rfl⟩:=ht
  cases v with
  | ref a =>
   refine wpAny_bind (wpAny_load ho ?_)
   obtain⟨cls,dict,data,slots⟩:=o
   cases hc
   cases data with
   | fields vs=>exact i9 (λz=>ft (hn.symm.trans (ar.mp z).1)) (wpAny_pure h)
   | _=>exact wpAny_pure h
  | _=>exact wpAny_pure h
theorem GW{x y:V}{xs ys:List V}:gN (x::xs) (y::ys)= .tup [x,y]::gN xs ys:=rfl
theorem yA{xs ys:List V}(h:xs=[]∨ys=[]):gN xs ys=[]:=by
 cases xs with
 | nil=>rfl
 | cons x xs=>cases ys with
  | nil=>rfl
  | cons y ys=>exact h.elim (λe=>absurd e (bw _ _)) λe=>absurd e (bw _ _)
noncomputable def Turn(c:C)(σ:H)(tt:Bool)(it:Value)(fp:List Addr)(g:Gd)(A:Around)(target:PySem.Expr)(Q:Option Value→Shared→Prop)(x:V)(r:List V):Prop :=
 ∀v s₁,(∀Q':Unit→Shared→Prop,(∀c',Good (·∈fp) c σ c'→ItAt c'.W c'.s.heap tt it fp g r→VR c'.W x v→Q' () c'.s)→wpAny M A (letOwnedTupleGo target it v) Q' Ex s₁)→Q (some v) s₁
theorem jU(S:Sim c.W σ c.s.heap)(ht:r9 tt target){n:String}(hn:owned.contains n=false){i:Addr}{g:Gd}(f:Fp c.W c.s.heap [i]){Q:Option Value→Shared→Prop}{x:V}{r:List V}(q:Turn c σ tt (.ref i) [i] g A target Q x r){h':Heap}{tk:Nat}{v:Value}
  (hi:∃o,h'.get? i=some o∧o.cls= .type n) (hs:Heap.SameBut i c.s.heap h') (I:ItAt c.W h' tt (.ref i) [i] g r) (rv:VR c.W x v):Q (some v) {c.s with heap:=h',toks:=tk} :=
 q v _ λQ' q'=>hi.elim λo z=>s6 (s:={c.s with heap:=h',toks:=tk}) ht z.1 z.2 hn
  (q' ⟨c.W,_⟩ (f.step S (λb o e n=>hs.extBut b o (λz=>n (z▸ .head _)) e) λb hb=>aI.mp hb▸⟨o,z.1⟩) I rv)
theorem wG(hh:A.handled=none)(ht:r9 tt target)(S:Sim c.W σ c.s.heap)(f:Fp c.W c.s.heap fp){it:Value}{g:Gd}{items:List V}(hG:cY σ g)(I:ItAt c.W c.s.heap tt it fp g items){Q:Option Value→Shared→Prop}
  (q:∀x r,items=x::r→Turn c σ tt it fp g A target Q x r) (e:items=[]→∀h' tk,Kept (·∈fp) c.s.heap h'→Q none {c.s with heap:=h',toks:=tk}):wpAny M A (pyNext it) Q Ex c.s:=by
 have one:∀{b i:Addr},¬b∈[i]→b≠i:=λn z=>n (z▸ .head _)
 have L:=HT S hG
 cases I with
 | one I =>
  cases I with
  | @list a d k xs hp hi =>
   obtain⟨it,n,hd,rs⟩:=L _ (.head _) d hp
   have hL:c.s.heap.IsList d it:=⟨_,hd,rfl,n,rfl⟩
   cases hx:xs[k]? with
   | none=>exact wpAny_pyNext_list_end hh hi hL (by rw[←Array.getElem?_toList];exact List.getElem?_eq_none_iff.mpr (rs.length▸List.getElem?_eq_none_iff.mp hx)) λh' he=>e (gL hx) h' c.s.toks λb o z n=>he b o (one n) z
   | some x =>
    obtain⟨v,hv,rv⟩:=rs.at hx
    exact wpAny_pyNext_list_item hi hL (by rw[←Array.getElem?_toList];exact hv) λh' hi' hs=>jU S ht (n:= "list_iterator") (by decide) f (q x _ (gK hx)) (hi'.elim λo z=>⟨o,z.1,z.2.1⟩) hs (.one (.list hp hi')) rv
  | @range x d m hi =>
   cases m with
   | zero=>exact wpAny_pyNext_range_end hh hi (bv 0) λh' he=>e rfl h' c.s.toks λb o z n=>he b o (one n) z
   | succ m=>exact wpAny_pyNext_range_item hi (Int.natCast_pos.mpr (Nat.succ_pos m)) λh' hi' hs=>jU S ht (n:= "range_iterator") (by decide) f (q (.int x) _ (io x d m)) ⟨_,hi',rfl⟩ hs (.one (.range (by rwa [Int.natCast_succ,bj] at hi'))) (VR.int _ _)
 | tup hm hr hi =>
  rename_i i t items k xs
  have hT:c.s.heap.IsTuple t items.toArray:=⟨_,S.tup _ hm,rfl,0,rfl⟩
  cases hx:xs[k]? with
  | none=>exact wpAny_pyNext_tuple_end hh hi hT (by rw[List.getElem?_toArray];exact List.getElem?_eq_none_iff.mpr (hr.length▸List.getElem?_eq_none_iff.mp hx)) λh' he=>e (gL hx) h' c.s.toks λb o z n=>he b o (one n) z
  | some x =>
   obtain⟨v,hv,rv⟩:=hr.at hx
   exact wpAny_pyNext_tuple_item hi hT (by rw[List.getElem?_toArray];exact hv) λh' hi' hs=>jU S ht (n:= "tuple_iterator") (by decide) f (q x _ (gK hx)) (hi'.elim λo z=>⟨o,z.1,z.2.1⟩) hs (.tup hm hr hi') rv
 | bytes hi =>
  rename_i i b t k
  have em:((KBw.bInts b).map V.int)[k]? =(b[k]?).map λc=>V.int (c.toNat:Int):=by
   show((b.toList.map λc=>(c.toNat:Int)).map V.int)[k]? =_
   rw[List.getElem?_map,List.getElem?_map,Array.getElem?_toList,Option.map_map];rfl
  cases hx:b[k]? with
  | none=>exact KBw.next_end hh hi hx λh' he=>e (gL (em.trans (by rw[hx];rfl))) h' c.s.toks λb o z n=>he b o (one n) z
  | some y=>exact KBw.next_item hi hx λh' hi' hs=>jU S ht (n:= "bytes_iterator") (by decide) f (q _ _ (gK (em.trans (by rw[hx];rfl)))) (hi'.elim λo z=>⟨o,z.1,z.2.1⟩) hs (.bytes hi') (VR.int _ _)
 | enum hp hne he hi =>
  rename_i b i a d k xs old
  obtain⟨it,n,hd,rs⟩:=L _ (.head _) d hp
  have hL:c.s.heap.IsList d it:=⟨_,hd,rfl,n,rfl⟩
  have two:∀{z:Addr},¬z∈[b,i]→z≠b∧z≠i:=λn=>⟨λe=>n (e▸ .head _),λe=>n (e▸ .tail _ (.head _))⟩
  cases hx:xs[k]? with
  | none=>exact wpAny_pyNext_enum_end hh he hi hL (by rw[←Array.getElem?_toList];exact List.getElem?_eq_none_iff.mpr (rs.length▸List.getElem?_eq_none_iff.mp hx)) λh' hE=>e (by rw[gL hx];rfl) h' c.s.toks λb o z n=>hE b o (two n).2 z
  | some x =>
   obtain⟨v,hv,rv⟩:=rs.at hx
   refine wpAny_pyNext_enum_item he hi hL (by rw[←Array.getElem?_toList];exact hv) hne λh' he' hi' hT hsz hs=>q (.tup [.int k,x]) (qu (xs.drop (k+1)) (k+1)) (by rw[gK hx];rfl) _ _ λQ' q'=> ?_
   obtain⟨el,kk,pp,rfl⟩:∃e k p,target= .Tuple e k p:=ht
   refine wpAny_letOwnedTupleGo_enum he' λh'' he'' hs'=> ?_
   have hTe:c.s.heap.objs.size≠b:=λz=>dG (cL c.s.heap) (z▸he)
   have hi2:h''.IsListIter i d (k+1):=hi'.elim λo z=>⟨o,(hs'.2 _ (Ne.symm hne)).trans z.1,z.2⟩
   have g1:=f.step S (h':=h'') (tk:=c.s.toks+1) (λz o ee nz=>(hs'.2 z (two nz).1).trans (hs z o (two nz).1 (two nz).2 ee)) (ao.mpr ⟨⟨_,he''⟩,ao.mpr ⟨hi2.elim λo z=>⟨o,z.1⟩,aj _⟩⟩)
   exact q' _ (g1.addT (items:=[.int k c.s.toks,v]) (cL _) ((hs'.2 _ hTe).trans hT)) (.enum ((c.W.le_addT _ _).at hp) hne he'' hi2) (VR.tup (List.mem_cons_self ..) (.cons (VR.int _ _) (.cons (rv.mono (c.W.le_addT _ _)) .nil)) (show 2≤lim by decide))
 | zip D hz hTI hTO I1 I2 =>
  rename_i z TI TO i1 i2 g1 g2 xs ys u v
  have ne5:∀{b:Addr},¬b∈[z,TI,TO,i1,i2]→b≠z∧¬zX z TO i1 i2 b:=λn=>⟨λe=>n (e▸ .head _),λk=>k.elim (λe=>n (e▸ .head _)) λk=>k.elim (λe=>n (e▸ .tail _ (.tail _ (.head _)))) λk=>k.elim (λe=>n (e▸ .tail _ (.tail _ (.tail _ (.head _))))) λe=>n (e▸ .tail _ (.tail _ (.tail _ (.tail _ (.head _)))))⟩
  have offB:∀{b:Addr},c.W.foot b→¬b∈[z,TI,TO,i1,i2]:=λfb hb=>(f.off _ hb).1 fb
  refine uA hh D (λb fb=>⟨λe=>offB fb (e▸ .head _),λe=>offB fb (e▸ .tail _ (.head _)),λe=>offB fb (e▸ .tail _ (.tail _ (.head _))),λe=>offB fb (e▸ .tail _ (.tail _ (.tail _ (.head _)))),λe=>offB fb (e▸ .tail _ (.tail _ (.tail _ (.tail _ (.head _)))))⟩) hz hTI hTO I1 I2
   (λp hp=>L p (aL _ hp)) (λp hp=>L p (ay _ hp)) (λx xr y yr ex ey h' tk xv yv a1 a2 a3 a4 a5 rx ry hk=>q (.tup [x,y]) (gN xr yr) (by rw[ex,ey];rfl) _ _ λQ' q'=> ?_) λen h' tk hk=>e (yA en) h' tk λb o x n=>hk b o x (ne5 n).2
  obtain⟨el,kk,pp,rfl⟩:∃e k p,target= .Tuple e k p:=ht
  refine wpAny_letOwnedTupleGo_zip a1 λh'' w1 w2=> ?_
  have hTz:c.s.heap.objs.size≠z:=λe=>dG (cL c.s.heap) (e▸hz)
  have hTI':IsPair h'' TI (.ref i1) (.ref i2):=(w2.2 _ D.TIz).trans (hk _ _ hTI λk=>k.elim D.TIz λk=>k.elim D.TITO λk=>k.elim D.TIi1 D.TIi2)
  have hTO':IsPair h'' TO xv yv:=(w2.2 _ D.TOz).trans a2
  have I1':=a3.mono (.refl _) λo x=>(w2.2 _ D.i1z).trans x
  have I2':=a4.mono (.refl _) λo x=>(w2.2 _ D.i2z).trans x
  have g1:=f.step S (h':=h'') (tk:=tk) (λb o ee nb=>(w2.2 b (ne5 nb).1).trans (hk b o ee (ne5 nb).2)) (F5 ⟨_,w1⟩ ⟨_,hTI'⟩ ⟨_,hTO'⟩ I1'.alive I2'.alive)
  have le:=c.W.le_addT c.s.heap.objs.size [xv,yv]
  exact q' _ (g1.addT (items:=[xv,yv]) (cL _) ((w2.2 _ hTz).trans a5)) (.zip D w1 hTI' hTO' (I1'.mono le λ_ z=>z) (I2'.mono le λ_ z=>z)) (VR.tup (List.mem_cons_self ..) (.cons (rx.mono le) (.cons (ry.mono le) .nil)) (show 2≤lim by decide))
end
noncomputable def Ki{β:Type}(c:C)(tt:Bool)(k:List V→Gd→H→Option β)(r:β)(Q:Value→Shared→Prop):Prop :=
 ∀items g σ' fp it c',k items g σ'=some r→Gd0 c σ' c'→cY σ' g→Fp c'.W c'.s.heap fp→ItAt c'.W c'.s.heap tt it fp g items→(∀b∈fp,c.s.heap.get? b=none)→Q it c'.s
noncomputable def jH(P:Fr)(n:Nat)(F:FT)(tt:Bool)(e:E)(x:PySem.Expr):Prop :=
 ∀{β:Type} {A:Around} {σ:H} {le:Le} {c:C} {k:List V→Gd→H→Option β} {r:β} {Q:Value→Shared→Prop},At P n A σ le c→fz F e le σ k=some r→Ki c tt k r Q→wpAny M A (eval x P.env) (λv s=>wpAny M A (pyIter v) Q Ex s) Ex c.s
noncomputable def thr{α:Type}(vs:List V)(k:V→V→V→Option α):Option α:=match vs with
 | x::r=>(two r).bind λp=>k x p.1 p.2
 | []=>none
theorem Ix{α:Type}{vs:List V}{k:V→V→V→Option α}{r:α}{G:Prop}(h:thr vs k=some r)(g:∀x y z,vs=[x,y,z]→k x y z=some r→G):G:=by
 cases vs with
 | nil=>exact ns h
 | cons x l=>exact bE h λp hp h=>g x p.1 p.2 (ki hp▸rfl) h
section
variable{P:Fr}{n:Nat}{F:FT}{tt:Bool}{A:Around}{σ:H}{le:Le}{c c₁:C}{β:Type}{k:List V→Gd→H→Option β}{r:β}{Q:Value→Shared→Prop}{items:List V}{g:Gd}{fp:List Addr}{it:Value}{h':Heap}
theorem Ki.up(q:Ki c tt k r Q)(g:Gd0 c σ c₁):Ki c₁ tt k r Q:=λitems gd σ' fp it c' e g' hG f I hn=>q items gd σ' fp it c' e (g.trans g') hG f I λb hb=>g.back (hn b hb)
theorem ItAt.alive{W:Wd}{h:Heap}(I:ItAt W h tt it fp g items):∀b∈fp,∃o,h.get? b=some o:=by
 have one:∀{i:Addr},(∃o,h.get? i=some o)→∀b∈[i],∃o,h.get? b=some o:=λhi b hb=>aI.mp hb▸hi
 cases I with
 | one I=>exact one I.alive
 | tup hm hr hi=>exact one (hi.elim λo z=>⟨o,z.1⟩)
 | bytes hi=>exact one (hi.elim λo z=>⟨o,z.1⟩)
 | enum hp hne he hi=>exact ao.mpr ⟨⟨_,he⟩,one (hi.elim λo z=>⟨o,z.1⟩)⟩
 | zip D hz hTI hTO I1 I2=>exact F5 ⟨_,hz⟩ ⟨_,hTI⟩ ⟨_,hTO⟩ I1.alive I2.alive
theorem Ki.make(q:Ki c tt k r Q)(S:Sim c.W σ c.s.heap)(e:k items g σ=some r)(hG:cY σ g)(kp:Keeps c.s.heap h')(I:ItAt c.W h' tt it fp g items)(h0:∀b∈fp,c.s.heap.get? b=none)(t:Nat):Q it {c.s with heap:=h',toks:=t} :=
 q _ _ _ _ _ ⟨c.W,_⟩ e (Good.heap S kp t) hG ⟨I.alive,λb hb=>⟨S.off (h0 b hb),λu hu z=>dG (h0 b hb) (z▸S.tup u hu),S.base_none (h0 b hb)⟩⟩ I h0
theorem Ki.push(q:Ki c tt k r Q)(S:Sim c.W σ c.s.heap)(e:k items g σ=some r)(hG:cY σ g){o:Obj}(I:ItAt c.W (c.s.heap.push o) tt (.ref c.s.heap.objs.size) [c.s.heap.objs.size] g items):Q (.ref c.s.heap.objs.size) {c.s with heap:=c.s.heap.push o} :=
 q.make S e hG (eE _ _) I (λb hb=>aI.mp hb▸cL _) c.s.toks
theorem rF{a:Nat}{xs:List V}(h:bJ σ a=some xs):cY σ [(a,xs)]:=ao.mpr ⟨bQ h,aj _⟩
theorem rB{e:E}{x:PySem.Expr}(h:bS P n F e x):jH P n F tt (.seq e) x:=λ{β A σ le c k r Q} a ek q =>
 h a ek λv σ₁ ov c₁ ek g₁ ra=>bE ek λy hy eF=>by
  clear ek
  have hy:vf σ₁ v=some y:=hy
  have q:=q.up g₁
  cases v with
  | ref i =>
   refine bE hy λxs hx hz=> ?_
   cases hz
   refine bH g₁.sim hx ra λd it j e1 hp ho r z hl=> ?_
   rw[e1]
   exact wpAny_pyIter_list (items:=it) ⟨_,ho,rfl,j,rfl⟩ (q.push g₁.sim eF (rF hx) (.one (.list (k:=0) (xs:=xs) hp ⟨_,aN c₁.s.heap rfl,rfl,rfl⟩)))
  | tup xs =>
   cases hy
   refine ra.tupE λt its e1 hm hr hl=> ?_
   rw[e1]
   exact wpAny_pyIter_tuple (items:=its.toArray) ⟨_,g₁.sim.tup _ hm,rfl,0,rfl⟩ (q.push g₁.sim eF (aj _) (.tup (k:=0) hm hr ⟨_,aN c₁.s.heap rfl,rfl,rfl⟩))
  | bytes l =>
   cases hy
   obtain⟨hl,b,t,rfl,rfl⟩:=ra
   exact KBw.pyIter_bytes (q.push g₁.sim eF (aj _) (.bytes (k:=0) ⟨_,aN c₁.s.heap rfl,rfl,rfl⟩))
  | _=>exact ns hy
theorem uz{a b d:Int}{l:List V}(h:ce a b d=some l){G:Prop}(g:∀m:Nat,d≠0→d.natAbs<1073741824→Builtin.Range.small a b d=true→Builtin.Range.rangeSize a b d=(m:Int)→l=e8 a d m→G):G :=
 gE h λhc e=>g _ hc.1 hc.2.1 hc.2.2.1 (Int.toNat_of_nonneg hc.2.2.2).symm (Option.some.inj e).symm
theorem jo{a b d:Int}{t u v:Tok}{l:List V}{o:Obj}{tk:Nat}(S:Sim c.W σ c.s.heap)(ho:IsRange (c.s.heap.push o) c.s.heap.objs.size a b d t u v)(h:ce a b d=some l)(e:k l [] σ=some r)(q:Ki c tt k r Q) :
  wpAny M A (pyIter (.ref c.s.heap.objs.size)) Q Ex {c.s with heap:=c.s.heap.push o,toks:=tk}:=uz h λm h1 h2 h3 h4 h5=>by
 have gp:=(Good.push S o).toks tk
 have q:=q.up gp
 refine wpAny_pyIter_range ho h3 (q.push gp.sim e (aj _) ?_)
 rw[h4,h5]
 exact .one (.range (aN _ rfl))
theorem rng:(("range" :PySem.Str)==("__debug__" :PySem.Str))=false:=by decide +kernel
theorem wF{e:E}{x:PySem.Expr}{p pos:Pos}(gl:Glob P "range" (.type "range"))(h:EvE P n F e x):jH P n F tt (.r1 e) (.Call (.Name ("range" :PySem.Str) p) [x] [] pos):=λ{β A σ le c k r Q} a ek q =>
 eL gl (.inl λ_ h=>Value.noConfusion h) (.cons h .nil) (k:=λvs σ=>(one vs).bind λy=>(b9 y).bind λj=>(ce 0 j 1).bind λl=>k l [] σ) a ek λvs σ₁ vals c₁ ek g₁ rs=>bE ek λy h1 ek=>bE ek λj hj ek=>bE ek λl hl ek=>by
  rw[nB h1,cO hj] at rs
  refine rs.e1 λv e1 ⟨t,e2⟩=> ?_
  rw[e1,e2]
  exact call_range_1 (jo g₁.sim (aN _ rfl) hl ek (q.up g₁))
theorem tc{e f:E}{x y:PySem.Expr}{p pos:Pos}(gl:Glob P "range" (.type "range"))(h:EvE P n F e x)(h':EvE P n F f y):jH P n F tt (.r2 e f) (.Call (.Name ("range" :PySem.Str) p) [x,y] [] pos):=λ{β A σ le c k r Q} a ek q =>
 eL gl (.inl λ_ h=>Value.noConfusion h) (.cons h (.cons h' .nil)) (k:=λvs σ=>(two vs).bind λp=>intz p.1 p.2 λi j=>(ce i j 1).bind λl=>k l [] σ) a ek λvs σ₁ vals c₁ ek g₁ rs=>bE ek λp h1 ek=>oi ek λi j e1 e2 ek=>bE ek λl hl ek=>by
  rw[ki h1,e1,e2] at rs
  refine rs.e2 λv u e1 ⟨t,e2⟩ ⟨t',e3⟩=> ?_
  rw[e1,e2,e3]
  exact call_range_2 (jo g₁.sim (aN _ rfl) hl ek (q.up g₁))
theorem zA{e f d:E}{x y z:PySem.Expr}{p pos:Pos}(gl:Glob P "range" (.type "range"))(h:EvE P n F e x)(h':EvE P n F f y)(h'':EvE P n F d z){k:List V→H→Option β}(a:At P n A σ le c)
  (ek:evK F e le σ (λx σ=>evK F f le σ λy σ=>evK F d le σ λz σ=>intz x y λi j=>(b9 z).bind λd=>(ce i j d).bind λl=>k l σ)=some r)
  (q:∀l m i j d t u v σ' c',k l σ'=some r→Gd0 c σ' c'→ce i j d=some l→c'.s.heap.get? c'.s.heap.objs.size=none→IsRange (c'.s.heap.push m) c'.s.heap.objs.size i j d t u v→Q (.ref c'.s.heap.objs.size) {c'.s with heap:=c'.s.heap.push m}) :
  wpAny M A (eval (.Call (.Name ("range" :PySem.Str) p) [x,y,z] [] pos) P.env) Q Ex c.s :=
 eL gl (.inl λ_ h=>Value.noConfusion h) (.cons h (.cons h' (.cons h'' .nil))) (k:=λvs σ=>thr vs λx y z=>intz x y λi j=>(b9 z).bind λd=>(ce i j d).bind λl=>k l σ) a ek λvs σ₁ vals c₁ ek g₁ rs=>Ix ek λx y z h1 ek=>oi ek λi j e1 e2 ek=>bE ek λd hd ek=>bE ek λl hl ek=>by
  rw[h1,e1,e2,cO hd] at rs
  refine rs.cE λv vs1 e1 ⟨t,e2⟩ rs=>rs.e2 λv u e3 ⟨t',e4⟩ ⟨t'',e5⟩=> ?_
  rw[e1,e2,e3,e4,e5]
  exact uz hl λm h1 h2 _ _ _=>call_range_3 h1 (q _ _ _ _ _ _ _ _ _ c₁ ek g₁ hl (cL _) (aN _ rfl)) (.inl (PyProof.noPylong_small h2))
theorem HY{e f d:E}{x y z:PySem.Expr}{p pos:Pos}(gl:Glob P "range" (.type "range"))(h:EvE P n F e x)(h':EvE P n F f y)(h'':EvE P n F d z):jH P n F tt (.r3 e f d) (.Call (.Name ("range" :PySem.Str) p) [x,y,z] [] pos):=λ{β A σ le c k r Q} a ek q =>
 zA gl h h' h'' (k:=λl σ=>k l [] σ) a ek λl m i j d t u v σ' c' ek g hl _ hr=>jo (tk:=c'.s.toks) g.sim hr hl ek (q.up g)
theorem Dl{e:E}{x:PySem.Expr}{p pos:Pos}(gl:Glob P "enumerate" (.type "enumerate"))(h:EvE P n F e x):jH P n F true (.enum e) (.Call (.Name ("enumerate" :PySem.Str) p) [x] [] pos):=λ{β A σ le c k r Q} a ek q =>
 eL gl (.inl λ_ h=>Value.noConfusion h) (.cons h .nil) (k:=λvs σ=>(one vs).bind λx=>onL σ x λa xs=>k (qu xs 0) [(a,xs)] σ) a ek λvs σ₁ vals c₁ ek g₁ rs=>bE ek λy h1 ek=>jp ek λi xs ei hx ek=>by
  rw[nB h1,ei] at rs
  refine rs.e1 λv e1 ra=>bH g₁.sim hx ra λd it j e2 hp ho r z hl=> ?_
  rw[e1,e2]
  refine call_enumerate_1 ho λh' he hi hsz hk'=>wpAny_pyIter_enum (s:={c₁.s with heap:=h'}) he ?_
  exact(q.up g₁).make g₁.sim ek (rF hx) hk' (.enum (k:=0) (xs:=xs) hp (Nat.succ_ne_self _) he hi) (ao.mpr ⟨get?_above (Nat.le_succ _),ao.mpr ⟨cL _,aj _⟩⟩) c₁.s.toks
theorem zapart(N:Nat):ZApart (N+4) (N+2) (N+3) N (N+1):= .of (List.Pairwise.map (N+·) (λa b h e=>h (Nat.add_left_cancel e)) (show [4,2,3,0,1].Nodup by decide))
theorem G3(h:Heap):∀b∈[h.objs.size+4,h.objs.size+2,h.objs.size+3,h.objs.size,h.objs.size+1],h.get? b=none :=
 have up:∀j,h.get? (h.objs.size+j)=none:=λj=>get?_above (az _ _)
 F5 (up 4) (up 2) (up 3) (up 0) (up 1)
theorem Gm{e f:E}{x y:PySem.Expr}{p pos:Pos}(gl:Glob P "zip" (.type "zip"))(h:EvE P n F e x)(h':EvE P n F f y):jH P n F true (.zip e f) (.Call (.Name ("zip" :PySem.Str) p) [x,y] [] pos):=λ{β A σ le c k r Q} a ek q =>
 eL gl (.inl λ_ h=>Value.noConfusion h) (.cons h (.cons h' .nil)) (k:=λvs σ=>(two vs).bind λp=>onL σ p.1 λi xs=>onL σ p.2 λj ys=>k (gN xs ys) [(i,xs),(j,ys)] σ) a ek λvs σ₁ vals c₁ ek g₁ rs=>bE ek λp h1 ek=>jp ek λi xs ei hx ek=>jp ek λj ys ej hy ek=>by
  rw[ki h1,ei,ej] at rs
  refine rs.e2 λv u e1 ra rb=>bH g₁.sim hx ra λd it n1 e2 hp ho _ _ _=>bH g₁.sim hy rb λd' it' n2 e3 hp' ho' _ _ _=> ?_
  rw[e1,e2,e3]
  refine call_zip_2 (xs:=it) (ys:=it') ⟨_,ho,rfl,n1,rfl⟩ ⟨_,ho',rfl,n2,rfl⟩ λh' hz hTI hTO hi1 hi2 hsz hk'=>wpAny_pyIter_zip (s:={c₁.s with heap:=h'}) hz ?_
  exact(q.up g₁).make g₁.sim ek (ao.mpr ⟨bQ hx,rF hy⟩) hk' (.zip (zapart _) hz hTI hTO (.list (k:=0) (xs:=xs) hp hi1) (.list (k:=0) (xs:=ys) hp' hi2)) (G3 _) c₁.s.toks
end
noncomputable abbrev Iv(a b c:Int):Obj:={cls:= .type "range_iterator",data:= .fields #[rawInt a,rawInt (Builtin.Range.rangeSize a b c),rawInt c]}
noncomputable abbrev EW(h:Heap)(l1:Addr)(a b c:Int):Heap:=(zipH1 h l1).push (Iv a b c)
noncomputable abbrev EV(h:Heap)(l1:Addr)(a b c:Int):Heap:=(EW h l1 a b c).push {cls:= .type "tuple",data:= .seq #[.ref h.objs.size,.ref (zipH1 h l1).objs.size]}
noncomputable abbrev EU(h:Heap)(l1:Addr)(a b c:Int):Heap:=(EV h l1 a b c).push {cls:= .type "tuple",data:= .seq #[.none,.none]}
noncomputable abbrev Iw(h:Heap)(l1:Addr)(a b c:Int):Heap:=(EU h l1 a b c).push {cls:= .type "zip",data:= .fields #[.none,.bool false,.bool false,.ref (EW h l1 a b c).objs.size,.ref (EV h l1 a b c).objs.size]}
theorem Ak(l1 r:Addr)(xs:Array Value)(a b c:Int)(t u v:Tok)(hsmall:Builtin.Range.small a b c=true) :
  Meets (Builtin.«zip.__new__» ⟨[.type "zip",.ref l1,.ref r],[]⟩) (λ_ R s=>s.heap.IsList l1 xs∧IsRange s.heap r a b c t u v∧R (.ok (.ret (.ref (EU s.heap l1 a b c).objs.size))) {s with heap:=Iw s.heap l1 a b c}) :=
 .of_wp λprog w A R s h=>by
  obtain⟨hp,g,d,tk,os⟩:=s;obtain⟨hl1,hr,h⟩:=h
  have hsub:=sub_zip
  have hL1:Heap.IsList (Shared.heap ⟨hp,g,d,tk,os⟩) l1 xs:=hl1
  have hL2:IsRange (Shared.heap ⟨hp.push {cls:= .type "list_iterator",data:= .fields #[.ref l1,.int 0 0]},g,d,tk,os⟩) r a b c t u v:=aT _ hr
  wp_walk using wpAny_pyIter_list hL1,wpAny_pyIter_range hL2 hsmall
  exact⟨_,rfl,h⟩
section
variable{A:Around}{s:Shared}
theorem gx{h:Heap}{n:Nat}{o:Obj}(e:h.objs.size=n)(f:o.isFreed=false):(h.push o).get? n=some o:=e▸aN _ f
theorem D6{l1 r:Addr}{xs:Array Value}{a b d:Int}{t u v:Tok}{Q:Value→Shared→Prop}(hsmall:Builtin.Range.small a b d=true)(hl1:s.heap.IsList l1 xs)(hr:IsRange s.heap r a b d t u v)
  (h:∀h',IsZip h' (s.heap.objs.size+4) (s.heap.objs.size+2) (s.heap.objs.size+3) .none→IsPair h' (s.heap.objs.size+2) (.ref s.heap.objs.size) (.ref (s.heap.objs.size+1))→
   IsPair h' (s.heap.objs.size+3) .none .none→h'.IsListIter s.heap.objs.size l1 0→IsRangeIter h' (s.heap.objs.size+1) a (Builtin.Range.rangeSize a b d) d→Keeps s.heap h'→Q (.ref (s.heap.objs.size+4)) {s with heap:=h'}) :
  wpAny M A (call (.type "zip") [.ref l1,.ref r]) Q Ex s:=by
 refine callType_new F.called_zip (by decide) (F.typeCall_zip_2 _ _) (F.newCall_zip_2 _ _) (λobj=>F.args_object_init_3 obj _ _) F.entry_zip_new (Ak l1 r xs a b d t u v hsmall) ⟨hl1,hr,?_⟩
 have z1:(zipH1 s.heap l1).objs.size=s.heap.objs.size+1:=Heap.size_push ..
 have z2:(EW s.heap l1 a b d).objs.size=s.heap.objs.size+2:=by rw[Heap.size_push,z1]
 have z3:(EV s.heap l1 a b d).objs.size=s.heap.objs.size+3:=by rw[Heap.size_push,z2]
 have z4:(EU s.heap l1 a b d).objs.size=s.heap.objs.size+4:=by rw[Heap.size_push,z3]
 have up:∀{h:Heap} {o:Obj} {b:Addr} {x:Obj},h.get? b=some x→(h.push o).get? b=some x:=λe=>aT _ e
 show _∧_
 rw[z4]
 exact⟨⟨_,gx z4 rfl,rfl⟩,h _ (z2▸z3▸gx z4 rfl) (up (up (z1▸gx z2 rfl))) (up (gx z3 rfl)) ⟨_,up (up (up (up (aN _ rfl)))),rfl,rfl⟩ (up (up (up (gx z1 rfl)))) λc o x=>up (up (up (up (up x))))⟩
end
section
variable{P:Fr}{n:Nat}{F:FT}
theorem yE{x y:PySem.Expr}(hx:dP x=true)(hy:dP y=true){A:Around}{s:Shared}{f:Value}{pos:Pos}{Q:Args→Shared→Prop}
  (h:wpAny M A (eval x P.env) (λa s₁=>wpAny M A (eval y P.env) (λb s₂=>Q ⟨[a,b],[]⟩ s₂) Ex s₁) Ex s):wpAny M A (evalArgs f true (backTo pos (starEach [x,y] P.env)) []) Q Ex s:=by
 rw[cS _ _ _ (by rw[List.all_cons,hx];exact gy hy),c8 hx]
 exact Calls.evalArgs_plain (Calls.spliced_cons (wpAny_mono h (λa s₁ h1=>by
  rw[c8 hy]
  exact Calls.spliced_cons (wpAny_mono h1 (λb s₂ h2=>Calls.spliced_nil h2) λ_ _ z=>z)) λ_ _ z=>z))
theorem Di{e f d u:E}{x y z t:PySem.Expr}{p pos p' pos':Pos}(gl:Glob P "zip" (.type "zip"))(gl':Glob P "range" (.type "range"))(h:EvE P n F e x)(h1:EvE P n F f y)(h2:EvE P n F d z)(h3:EvE P n F u t) :
  jH P n F true (.zipR e f d u) (.Call (.Name ("zip" :PySem.Str) p) [x,.Call (.Name ("range" :PySem.Str) p') [y,z,t] [] pos'] [] pos):=λ{β A σ le c k r Q} a ek q=>by
 refine wpAny_Call_Name_kw (kU a gl ?_)
 have hst:[x,PySem.Expr.Call (.Name ("range" :PySem.Str) p') [y,z,t] [] pos'].all dP=true:=by rw[List.all_cons,h.2];rfl
 have hany:(backTo pos (starEach [x,.Call (.Name ("range" :PySem.Str) p') [y,z,t] [] pos'] P.env)).any (·.1)=false:=by rw[cS _ _ _ hst];exact fO _ _ hst
 refine callWith_of (P:=λhh=>zK.In hh) (by rw[hany];rfl) (λhh hX=>⟨.machine,.inr (.inl rfl),Looks.of_pure rfl⟩) (yE h.2 rfl ?_)
 refine h.1 (k:=λx σ=>evK F f le σ λy σ=>evK F d le σ λz σ=>evK F u le σ λw σ=>intz y z λj m=>(b9 w).bind λl=>(ce j m l).bind λys=>onL σ x λi xs=>k (gN xs ys) [(i,xs)] σ) a ek λv σ₁ av c₁ ek g₁ ra =>
  zA gl' h1 h2 h3 (k:=λys σ=>onL σ v λi xs=>k (gN xs ys) [(i,xs)] σ) (a.next g₁) ek λl o i j d t u w σ' c' ek g hl _ hr=>jp ek λi1 xs ei hx ek=> ?_
 have gp:=Good.push g.sim o
 refine⟨λb o z=>gp.sim.base b o (g.sim.bz.X b o z),?_⟩
 rw[ei] at ra
 refine bH gp.sim hx (ra.mono g.le) λdd it n1 e2 hp ho _ _ _=>uz hl λm h1 _ hsm hsz hlx=> ?_
 rw[e2]
 refine D6 (xs:=it) (s:={c'.s with heap:=c'.s.heap.push o}) hsm ⟨_,ho,rfl,n1,rfl⟩ hr λh' hz hTI hTO hi1 hi2 hk'=>wpAny_pyIter_zip (s:={c'.s with heap:=h'}) hz ?_
 rw[hsz] at hi2
 exact(q.up ((g₁.trans g).trans gp)).make gp.sim (hlx▸ek) (rF hx) hk' (.zip (zapart _) hz hTI hTO (.list (k:=0) (xs:=xs) hp hi1) (.range hi2)) (G3 _) c'.s.toks
end
noncomputable def Place(P:Fr)(L:Bool)(i:Nat)(x:PySem.Str):Prop:=CanStore P i x∧(L=true→P.kin x .local)
inductive Tgt (P:Fr) (L:Bool):PySem.Expr→Pat→Prop
 | one {i:Nat} {x:PySem.Str} {p:Pos} (h:Place P L i x):Tgt P L (.Name x p) (.one i)
 | many {is:List Nat} {ts:List PySem.Expr} {k:Nat} {p:Pos} (h:All2 (λi t=>∃x p,t=PySem.Expr.Name x p∧Place P L i x) is ts):Tgt P L (.Tuple ts k p) (.many is)
noncomputable def py(P:Fr)(n:Nat)(L:Bool)(i:Nat)(m:Value→Sem Unit):Prop:=∀{A:Around} {σ:H} {le:Le} {c:C} {v:V} {v':Value} {Q:Unit→Shared→Prop},At P n A σ le c→VR c.W v v'→
 (∀s',Good (uF P L) c σ ⟨c.W,s'⟩→At P n A σ (le.set i (some v)) ⟨c.W,s'⟩→Q () s')→wpAny M A (m v') Q Ex c.s
noncomputable def Ks(P:Fr)(n:Nat)(A:Around)(L:Bool)(c:C)(σ:H)(le:Le)(Q:Unit→Shared→Prop):Prop:=∀s',Good (uF P L) c σ ⟨c.W,s'⟩→At P n A σ le ⟨c.W,s'⟩→Q () s'
section
variable{P:Fr}{n:Nat}{F:FT}{L:Bool}{A:Around}{σ:H}{le le':Le}{c:C}{Q:Unit→Shared→Prop}
theorem Tgt.is{t:PySem.Expr}{p:Pat}(h:Tgt P L t p):r9 (jR p) t:=by
 cases h with
 | one h=>exact⟨_,_,rfl⟩
 | many h=>exact⟨_,_,_,rfl⟩
theorem Place.bind{i:Nat}{x:PySem.Str}(h:Place P L i x):py P n L i (λv=>bindName P.env x v):=λa r q=>wpAny_bindName (e7 a h.1 h.2 r q)
theorem Place.assign{i:Nat}{x:PySem.Str}{p:Pos}(h:Place P L i x):py P n L i (λv=>PySem.assign (.Name x p) P.env v):=λa r q=>wpAny_assign_Name (e7 a h.1 h.2 r q)
theorem qa{is:List Nat}{ms:List (Value→Sem Unit)}(h:All2 (py P n L) is ms):∀{vs:List V} {vals:List Value} {le:Le} {c:C},At P n A σ le c→VRs c.W vs vals→is.length=vs.length→Ks P n A L c σ (fP le is vs) Q→wpAny M A (assignInOrder ms vals) Q Ex c.s:=by
 induction h with
 | nil =>
  intro vs vals le c a r hl q
  cases vs with
  | cons=>exact absurd hl.symm (Nat.succ_ne_zero _)
  | nil=>exact r.nE▸wpAny_assignInOrder_none (q c.s (Good.refl a.sim).any a)
 | @cons i m is ms h1 h2 ih =>
  intro vs vals le c a r hl q
  cases vs with
  | nil=>exact absurd hl (Nat.succ_ne_zero _)
  | cons v vs =>
   refine r.cE λv' vals' e r1 r2=> ?_
   rw[e]
   exact wpAny_assignInOrder_more (h1 a r1 λs₁ g₁ a₁=>ih a₁ r2 (Nat.succ.inj hl) λs' g a'=>q s' (g₁.trans g) a')
theorem vp{is:List Nat}{ts:List PySem.Expr}(h:All2 (λi t=>∃x p,t=PySem.Expr.Name x p∧Place P L i x) is ts):All2 (py P n L) is ((assignEach ts P.env).map (·.2))∧(assignEach ts P.env).length=is.length∧(assignEach ts P.env).findIdx? (·.1)=none:=by
 induction h with
 | nil=>exact⟨.nil,rfl,rfl⟩
 | cons h1 h2 ih =>
  obtain⟨x,p,rfl,h⟩:=h1
  exact⟨.cons h.assign ih.1,congrArg Nat.succ ih.2.1,by show(List.findIdx? _ ((false,_)::_))=_;rw[List.findIdx?_cons,ih.2.2];rfl⟩
theorem kT{h h':Heap}(hx:Heap.ExtBut h.objs.size h h'):Keeps h h':=λb o e=>hx b o (Nat.ne_of_lt (Heap.lt_size e)) e
theorem jE{t:PySem.Expr}{p:Pat}(ht:Tgt P L t p)(a:At P n A σ le c){v:V}{v':Value}(hb:fu p v le=some le')(r:VR c.W v v')(q:Ks P n A L c σ le' Q):wpAny M A (assign t P.env v') Q Ex c.s:=by
 cases ht with
 | one h=>exact h.assign a r (Option.some.inj hb▸q)
 | many h =>
  refine bE hb λvs hv hb=>gE hb λhl hb=> ?_
  rw[eY hv] at r
  refine r.tupE λd items e hm hr _=> ?_
  obtain⟨e1,e2,e3⟩:=vp (n:=n) h
  rw[e]
  refine wpAny_assign_Tuple (items:=items.toArray) a.hand ⟨_,a.sim.tup _ hm,rfl,0,rfl⟩ (by rw[e2,hl,List.size_toArray,hr.length]) e3 λh' hx=> ?_
  have g0:=Good.heap a.sim (kT hx) c.s.toks
  exact qa e1 (a.next g0) hr hl λs' g a'=>q s' (g0.any.trans g) (Option.some.inj hb▸a')
end
theorem kK{e:PySem.Expr}(h:iw e=true)(env:Env)(x:Value):foldedSetIterable e env x=pure x:=by
 cases e with
 | Set=>exact ft h
 | _=>rfl
structure LoopAt(P:Fr)(n:Nat)(A:Around)(X:Addr→Prop)(tt:Bool)(it:Value)(fp:List Addr)(g:Gd)(c₀:C)(σ:H)(le:Le)(c:C)(items:List V):Prop where
 at_:At P n A σ le c
 good:Good X c₀ σ c
 fpr:Fp c.W c.s.heap fp
 iter:ItAt c.W c.s.heap tt it fp g items
 guard:cY σ g
 new:∀b∈fp,c₀.s.heap.get? b=none
 own:∀b,dO P.env b→¬b∈fp
section
variable{P:Fr}{n:Nat}{F:FT}{A:Around}{X:Addr→Prop}{tt:Bool}{it:Value}{fp:List Addr}{g:Gd}{c₀ c c':C}{σ σ':H}{le le':Le}{items r:List V}
theorem LoopAt.start(a:At P n A σ le c₀)(g₁:Gd0 c₀ σ' c)(hG:cY σ' g)(f:Fp c.W c.s.heap fp)(I:ItAt c.W c.s.heap tt it fp g items)(hn:∀b∈fp,c₀.s.heap.get? b=none):LoopAt P n A X tt it fp g c₀ σ' le c items :=
 ⟨a.next g₁,g₁.any,f,I,hG,hn,λb hb hm=>(a.env.alive hb).elim λo z=>dG (hn b hm) z.1⟩
theorem Good.drop(g:Good X c₀ σ c)(f:Fp c.W c.s.heap fp)(hn:∀b∈fp,c₀.s.heap.get? b=none){h':Heap}{tk:Nat}(k:Kept (·∈fp) c.s.heap h'):Good X c₀ σ ⟨c.W,{c.s with heap:=h',toks:=tk}⟩ :=
 have nf:∀{b o},c₀.s.heap.get? b=some o→¬b∈fp:=λe hb=>dG (hn _ hb) e
 ⟨g.le,g.sim.keepX k f.off,λb o e n=>k b o (g.kept b o e n) (nf e),λb o e=>(g.live b o e).elim λo' e'=>⟨o',k b o' e' (nf e)⟩,g.new,g.newT,g.gens,g.os⟩
theorem At.drop(a:At P n A σ le c)(f:Fp c.W c.s.heap fp)(ho:∀b,dO P.env b→¬b∈fp){h':Heap}{tk:Nat}(k:Kept (·∈fp) c.s.heap h'):At P n A σ le ⟨c.W,{c.s with heap:=h',toks:=tk}⟩ :=
 ⟨a.sim.keepX k f.off,a.env.kept (λb o hb e=>k b o e (ho b hb)) (.refl _) λb hb=>(a.env.off b hb).1,a.cst,a.gens,a.room⟩
theorem LoopAt.done(l:LoopAt P n A X tt it fp g c₀ σ le c items){h':Heap}{tk:Nat}(k:Kept (·∈fp) c.s.heap h'):Good X c₀ σ ⟨c.W,{c.s with heap:=h',toks:=tk}⟩∧At P n A σ le ⟨c.W,{c.s with heap:=h',toks:=tk}⟩ :=
 ⟨l.good.drop l.fpr l.new k,l.at_.drop l.fpr l.own k⟩
theorem LoopAt.step(l:LoopAt P n A X tt it fp g c₀ σ le c items)(g':Good (·∈fp) c σ c')(I:ItAt c'.W c'.s.heap tt it fp g r):LoopAt P n A X tt it fp g c₀ σ le c' r :=
 ⟨l.at_.nextX g' l.own,l.good.transF g' λb hb=> .inl (l.new b hb),l.fpr.good g',I,l.guard,l.new,l.own⟩
theorem LoopAt.body(l:LoopAt P n A X tt it fp g c₀ σ le c r)(hX:∀b,X b→¬b∈fp)(g':Good X c σ' c')(a':At P n A σ' le' c')(hg:cY σ' g):LoopAt P n A X tt it fp g c₀ σ' le' c' r :=
 ⟨a',l.good.trans g',l.fpr.good g',l.iter.mono g'.le λb o hb e=>g'.kept b o e λz=>z.elim (l.fpr.off b hb).1 λz=>hX b z hb,hg,l.new,l.own⟩
theorem Ff{p:Pat}{it:E}{b:List S}{target ix:PySem.Expr}{body:List Stmt}{pos:Pos}(ht:Tgt P false target p)(hI:jH P n F (jR p) it ix)(hset:iw ix=true)(hb:rX P n F b (execs body P.env)) :
  gY P n F (.forr p it b) (exec (.For target ix body [] pos) P.env):=λ{β A σ le c k r Q} a e q=>by
 refine wpAny_For (hI a e λitems g σ₁ fp iv c₁ e g₁ hG hf I hn=>bE e λy hy e=> ?_) (λx=>kK hset _ x)
 refine codeAny_forLoop_any (I:=λm sx=>∃r σ₂ le₂ c₂,sx=c₂.s∧r.length=m∧LoopAt P n A (dO P.env) (jR p) iv fp g c σ₂ le₂ c₂ r∧jY p g (λle σ=>bT F b le σ gv) r le₂ σ₂=some y) (λm sx hm=> ?_) items.length ⟨items,σ₁,le,c₁,rfl,rfl,.start a g₁ hG hf I hn,hy⟩
 obtain⟨r,σ₂,le₂,c₂,rfl,rfl,l,hr⟩:=hm
 refine wpX (wG a.hand ht.is l.at_.sim l.fpr l.guard l.iter (λx r' er v s₄ hgo=> ?_) λer h' tk hk=> ?_)
 ·rw[er] at hr
  refine bE hr λle₁ hbp hr=>bE hr λz hz hr=> ?_
  refine wpX (hgo _ λc₅ g5 I5 r5=>wpX (jE ht (l.step g5 I5).at_ hbp r5 λs₆ g6 a6=> ?_))
  have l6:=(l.step g5 I5).body l.own g6 a6 l.guard
  refine wpX (hb (c:=⟨c₅.W,s₆⟩) a6 hz λfl le' σ' fv c₇ ez g7 a7 hf=> ?_)
  cases(show some (fl,le',σ')=some z from ez)
  cases fl with
  | next =>
   cases(show fv= .next from hf)
   exact gpE hr λhg hr=>⟨r'.length,by rw[er];exact Nat.lt_succ_self _,r',σ',le',c₇,rfl,rfl,l6.body l.own g7 a7 hg,hr⟩
  | ret u =>
   obtain⟨v',rfl,hv⟩:=hf
   cases(show some (Fl.ret u,le',σ')=some y from hr)
   exact q _ _ _ _ c₇ e (l6.good.trans g7) a7 ⟨v',rfl,hv⟩
 ·rw[er] at hr
  cases(show some (Fl.next,le₂,σ₂)=some y from hr)
  have d:=l.done (tk:=tk) hk
  exact wpAny_execs_nil (q _ _ _ _ ⟨c₂.W,_⟩ e d.1 d.2 rfl)
end
theorem uq{i:Nat}{x:Option V}{is:List Nat}:∀{le:Le} {vs:List V},i∉is→fP (le.set i x) is vs=(fP le is vs).set i x:=by
 induction is with
 | nil=>exact λ_=>rfl
 | cons j is ih=>intro le vs h;cases vs with
  | nil=>rfl
  | cons v vs=>exact(congrArg (fP · is vs) (List.set_comm _ _ λe:i=j=>h (aE.mpr (.inl e)))).trans (ih λq=>h (.tail _ q))
theorem ur{i:Nat}{x:V}{is:List Nat}:∀{le:Le} {vs:List V},is.length=vs.length→fP le (is++[i]) (vs++[x])=(fP le is vs).set i (some x):=by
 induction is with
 | nil=>intro le vs h;cases vs with
  | nil=>rfl
  | cons=>exact absurd h.symm (Nat.succ_ne_zero _)
 | cons j is ih=>intro le vs h;cases vs with
  | nil=>exact absurd h (Nat.succ_ne_zero _)
  | cons v vs=>exact ih (Nat.succ.inj h)
theorem uo{is:List Nat}:∀{le:Le} {vs:List V},is.Nodup→is.length=vs.length→fP le is.reverse vs.reverse=fP le is vs:=by
 induction is with
 | nil=>exact λ_ _=>rfl
 | cons j is ih=>intro le vs hn h;cases vs with
  | nil=>exact absurd h (Nat.succ_ne_zero _)
  | cons v vs =>
   obtain⟨n1,n2⟩:=aQ.mp hn
   rw[List.reverse_cons,List.reverse_cons,ur (by rw[List.length_reverse,List.length_reverse];exact Nat.succ.inj h),ih n2 (Nat.succ.inj h)]
   exact(uq n1).symm
section
variable{P:Fr}{n:Nat}{F:FT}{A:Around}{β:Type}{c c₁:C}{k:Fl→Le→H→Option β}{r:β}{Q:Flow→Shared→Prop}{σ σ':H}{le:Le}
theorem Kf.next(q:Kf P n A c k r Q){X:Addr→Prop}(e:k .next le σ'=some r)(g:Good X c σ' c₁)(hX:∀b,X b→dO P.env b)(a:At P n A σ' le c₁):Q .next c₁.s:=q _ _ _ _ c₁ e (g.wider λb _ _=>hX b) a rfl
theorem Kf.here(q:Kf P n A c k r Q)(e:k .next le σ'=some r)(g:Gd0 c σ' c₁)(a:At P n A σ le c):Q .next c₁.s:=q.next e g (λ_ z=>z.elim) (a.next g)
theorem Kf.up(q:Kf P n A c k r Q){X:Addr→Prop}(hX:∀b,X b→dO P.env b)(g:Good X c σ c₁):Kf P n A c₁ k r Q:=λfl le' σ' f c' e g' a hf=>q fl le' σ' f c' e ((g.wider λb _ _=>hX b).trans g') a hf
theorem Kf.up0(q:Kf P n A c k r Q)(g:Gd0 c σ c₁):Kf P n A c₁ k r Q:=q.up (λ_ z=>z.elim) g
theorem Kf.stored(q:Kf P n A c k r Q)(g₁:Gd0 c σ c₁){le:Le}(e:k .next le σ=some r):Ks P n A false c₁ σ le (λ_ s=>Q .next s):=λs' g a=>q _ _ _ _ ⟨c₁.W,s'⟩ e (g₁.any.trans g) a rfl
noncomputable def gi(sc:Scope)(value:PySem.Expr)(t:Option PySem.Expr)(line:Nat):Prop:=swapsWith value t line (oZ sc)=pure false
theorem gi.at{sc:Scope}{value:PySem.Expr}{t:Option PySem.Expr}{line:Nat}(h:gi sc value t line){env:Env}(hs:env.scope=sc):swapsWith value t line env=pure false:=by
 subst hs;exact h
theorem Fh(hs:P.env.scope=P.sc){i:Nat}{e:E}{x:PySem.Str}{p pos:Pos}{value:PySem.Expr}(hw:gi P.sc value (some (.Name x p)) pos.line)(hc:CanStore P i x)(h:bS P n F e value):gY P n F (.asg i e) (exec (.Assign [.Name x p] value pos) P.env):=λa e q =>
 wpAny_Assign_Name (h a e λv σ₁ ov c₁ e g₁ ra=>e7 (L:=false) (a.next g₁) hc Bool.noConfusion ra (q.stored g₁ e)) (hw.at hs)
theorem Ci(hs:P.env.scope=P.sc){is:List Nat}{e:E}{ts:List PySem.Expr}{kk:Nat}{p pos:Pos}{value:PySem.Expr}(hw:gi P.sc value (some (.Tuple ts kk p)) pos.line)
  (hm:swappedStores [.Tuple ts kk p] value (oZ P.sc)=pure none∨∃names,swappedStores [.Tuple ts kk p] value (oZ P.sc)=pure (some names)∧All2 (CanStore P) is names∧is.Nodup)
  (ht:Tgt P false (.Tuple ts kk p) (.many is)) (h:bS P n F e value):gY P n F (.asgT is e) (exec (.Assign [.Tuple ts kk p] value pos) P.env):=λ{β A σ le c k r Q} a e q=>by
 have sole:swapsWithSole [.Tuple ts kk p] value pos.line P.env=pure false:=hw.at hs
 have se:∀{y},swappedStores [.Tuple ts kk p] value (oZ P.sc)=y→swappedStores [.Tuple ts kk p] value P.env=y:=λh=>by
  rw[←h,←hs];rfl
 rcases hm with hm|⟨names,hm,hn,hnd⟩
 ·exact wpAny_Assign_stores (h a e λv σ₁ ov c₁ e g₁ ra=>bE e λle' hb e=>jE ht (a.next g₁) hb ra (q.stored g₁ e)) sole (se hm)
 ·rw[exec_Assign_arm]
  refine wpAny_bind (wpAny_standAt ?_)
  rw[sole]
  refine wpAny_bind (wpAny_pure (i9 (λz=>ft z) ?_))
  refine wpAny_bind (h a e λv σ₁ ov c₁ e g₁ ra=>bE e λle' hb e=>bE hb λvs hv hb=>gE hb λhl hb=> ?_)
  rw[se hm]
  refine wpAny_bind (wpAny_pure ?_)
  rw[eY hv] at ra
  refine ra.tupE λd items ed hmm hr _=> ?_
  rw[ed]
  refine wpAny_bind (wpAny_rule ?_)
  rw[show names.length=items.toArray.size by rw[List.size_toArray,←hr.length,←hl,hn.length]]
  refine wpAny_bind (wpAny_unpackItems_tuple (items:=items.toArray) a.hand ⟨_,g₁.sim.tup _ hmm,rfl,0,rfl⟩ λh' hx=> ?_)
  have g0:=Good.heap g₁.sim (kT hx) c₁.s.toks
  have hst:∀{is names},All2 (CanStore P) is names→All2 (py P n false) is (names.map λx=>bindName P.env x):=λh=>by
   induction h with
   | nil=>exact .nil
   | cons h _ ih=>exact .cons (Place.bind ⟨h,Bool.noConfusion⟩) ih
  refine wpAny_bind (qa (c:=⟨c₁.W,_⟩) (hst hn.reverse) ((a.next g₁).next g0) hr.reverse (by rw[List.length_reverse,List.length_reverse];exact hl) λs' g a'=>wpAny_pure ?_)
  rw[uo hnd hl,Option.some.inj hb] at a'
  exact q _ _ _ _ ⟨c₁.W,s'⟩ e ((g₁.trans g0).any.trans g) a' rfl
theorem Hc(hs:P.env.scope=P.sc){e:E}{x:PySem.Expr}{pos:Pos}(hw:gi P.sc x none pos.line)(h:bS P n F e x):gY P n F (.ex e) (exec (.Expr x pos) P.env):=λa e q =>
 wpAny_Expr_any (h a e λv σ₁ ov c₁ e g₁ ra=>q.here e g₁ a) (by unfold interactive;rw[a.env.fn];rfl) (hw.at hs)
theorem Fc{e:E}{x:PySem.Expr}{pos:Pos}(h:bS P n F e x):gY P n F (.ret e) (exec (.Return (some x) pos) P.env):=λa e q =>
 wpAny_Return_some (h a e λv σ₁ ov c₁ e g₁ ra=>q _ _ _ _ c₁ e g₁.any (a.next g₁) ⟨ov,rfl,ra⟩)
theorem Ce{pos:Pos}:gY P n F .ret0 (exec (.Return none pos) P.env):=λ{β A σ le c k r Q} a e q=>wpAny_Return_none (q _ _ _ _ c e a.rf.any a ⟨_,rfl,VR.none⟩)
theorem Cf{m:Sem Flow}:gY P n F .fail m:=λa e q=>ns e
theorem Hb{t:E}{a b:List S}{x:PySem.Expr}{body orelse:List Stmt}{pos:Pos}(h0:gr P n F t x)(h1:rX P n F a (execs body P.env))(h2:rX P n F b (execs orelse P.env)):gY P n F (.iff t a b) (exec (.If x body orelse pos) P.env):=λ{β A σ le c k r Q} at_ e q =>
 wpAny_If (h0 (k:=λt σ=>if t then bT F a le σ k else bT F b le σ k) at_ e λd σ₁ c₁ e g₁=>by
  cases d with
  | false=>exact h2 (at_.next g₁) e (q.up0 g₁)
  | true=>exact h1 (at_.next g₁) e (q.up0 g₁))
theorem Fe:rX P n F [] (execs [] P.env):=λ{β A σ le c k r Q} a e q=>wpAny_execs_nil (q.here e a.rf a)
theorem Cg{st:S}{b:List S}{t:Stmt}{rest:List Stmt}(h1:gY P n F st (exec t P.env))(h2:rX P n F b (execs rest P.env)):rX P n F (st::b) (execs (t::rest) P.env):=λ{β A σ le c k r Q} a e q =>
 wpAny_execs_cons (h1 a e λfl le' σ' f c' e g a' hf=>by
  cases fl with
  | next =>
   cases(show f= .next from hf)
   exact h2 a' e (q.up (λ_=>id) g)
  | ret v =>
   obtain⟨v',rfl,hv⟩:=hf
   exact q _ _ _ _ c' e g a' ⟨v',rfl,hv⟩)
theorem yW{t:E}{b:List S}{x:PySem.Expr}{body:List Stmt}{pos:Pos}(h0:gr P n F t x)(hb:rX P n F b (execs body P.env)):gY P n F (.whl t b) (exec (.While x body [] pos) P.env):=λ{β A σ le c k r Q} a e q=>bE e λy hy e=>by
 refine wpAny_While (codeAny_whileLoop (I:=λm sx=>∃σ₂ le₂ c₂,sx=c₂.s∧At P n A σ₂ le₂ c₂∧Good (dO P.env) c σ₂ c₂∧mD (λle σ=>evK F t le σ λv σ=>(b6 v).bind λb=>some (b,σ)) (λle σ=>bT F b le σ gv) m le₂ σ₂=some y) (λm sx hm=> ?_) wfuel ⟨σ,le,c,rfl,a,a.rf.any,hy⟩)
 obtain⟨σ₂,le₂,c₂,rfl,a₂,g₂,hw⟩:=hm
 cases m with
 | zero=>exact ns hw
 | succ m =>
  refine bE hw λz hz hw=>wpX (h0 (k:=λb σ=>some (b,σ)) a₂ hz λd σ₃ c₃ ez g₃=> ?_)
  cases(show some (d,σ₃)=some z from ez)
  cases d with
  | false =>
   cases(show some (Fl.next,le₂,σ₃)=some y from hw)
   exact wpAny_execs_nil (q _ _ _ _ c₃ e (g₂.trans g₃.any) (a₂.next g₃) rfl)
  | true =>
   refine bE hw λz hz hw=>wpX (hb (a₂.next g₃) hz λfl le' σ' fv c₇ ez g7 a7 hf=> ?_)
   cases(show some (fl,le',σ')=some z from ez)
   have g:=(g₂.trans g₃.any).trans g7
   cases fl with
   | next =>
    cases(show fv= .next from hf)
    exact⟨m,Nat.lt_succ_self _,σ',le',c₇,rfl,a7,g,hw⟩
   | ret u =>
    obtain⟨v',rfl,hv⟩:=hf
    cases(show some (Fl.ret u,le',σ')=some y from hw)
    exact q _ _ _ _ c₇ e g a7 ⟨v',rfl,hv⟩
theorem iM{cl f i:Nat}{x:V}{nm:PySem.Str}{o:Mine.Internal.E}{ox:PySem.Expr}{p:Pos}{v:Value}{K:H→Option β}{R:Unit→Shared→Prop}(ho:bS P n F o ox)(hn:(cQ cl)[f]? =some nm)(a:At P n A σ le c)(e:(evK F o le σ λy σ=>(d5 y).bind λa=>setField cl f a x σ K)=some r)
  (rv:VR c.W x v) (q:∀σ' c',K σ'=some r→Gd0 c σ' c'→R () c'.s):wpAny M A (assign (.Attribute ox nm p) P.env v) R Ex c.s:=by
 rw[arm_assign_Attribute]
 exact wpAny_bind (wpAny_holding (ho a e λy σ₁ ov c₁ e g₁ ra=>bE e λi hi e=>wpAny_bind (wpAny_standAt (wpAny_bind (wpAny_holding (qP g₁.sim e hn (cN hi▸ra) (rv.mono g₁.le) λσ' s' e g=>wpAny_release' (q σ' ⟨c₁.W,s'⟩ e (g₁.trans g))))))))
theorem pq{t t':PySem.Expr}{kk:Nat}{p:Pos}{x:V}{pr:V×V}{ov:Value}{R:Unit→Shared→Prop}(hx:(gM x).bind two=some pr)(a:At P n A σ le c)(ra:VR c.W x ov)(hf:(assignEach [t,t'] P.env).findIdx? (·.1)=none)(he:(assignEach [t,t'] P.env).map (·.2)=[assign t P.env,assign t' P.env])
  (q:∀u u' h',Keeps c.s.heap h'→VR c.W pr.1 u→VR c.W pr.2 u'→wpAny M A (assign t P.env u) (λ_ s=>wpAny M A (assign t' P.env u') R Ex s) Ex {c.s with heap:=h'}):wpAny M A (assign (.Tuple [t,t'] kk p) P.env ov) R Ex c.s:=bE hx λvs hv h2=>by
 rw[eY hv,ki h2] at ra
 refine ra.tupE λd items e hm hr _=>hr.e2 λu u' e1 r1 r2=> ?_
 rw[e]
 refine wpAny_assign_Tuple (items:=items.toArray) a.hand ⟨_,a.sim.tup _ hm,rfl,0,rfl⟩ (by rw[e1,←ah (f:=(·.2)),he];rfl) hf λh' hx=> ?_
 rw[he,e1]
 exact wpAny_assignInOrder_more (wpAny_mono (q u u' h' (kT hx) r1 r2) (λ_ s h=>wpAny_assignInOrder_more (wpAny_mono h (λ_ s h=>wpAny_assignInOrder_none h) λ_ _ z=>z)) λ_ _ z=>z)
theorem yZ(hs:P.env.scope=P.sc){o o' e:E}{cl f cl' f':Nat}{ox ox' value:PySem.Expr}{nm nm':PySem.Str}{p₁ p₂ p pos:Pos}{kk:Nat}(hw:gi P.sc value (some (.Tuple [.Attribute ox nm p₁,.Attribute ox' nm' p₂] kk p)) pos.line)
  (hm:swappedStores [.Tuple [.Attribute ox nm p₁,.Attribute ox' nm' p₂] kk p] value (oZ P.sc)=pure none) (hn:(cQ cl)[f]? =some nm) (hn':(cQ cl')[f']? =some nm') (ho:bS P n F o ox) (ho':bS P n F o' ox') (h:bS P n F e value) :
  gY P n F (.asgAA o cl f o' cl' f' e) (exec (.Assign [.Tuple [.Attribute ox nm p₁,.Attribute ox' nm' p₂] kk p] value pos) P.env):=λ{β A σ le c k r Q} a e q =>
 wpAny_Assign_stores (h a e λx σ₁ ov c₁ e g₁ ra=>bE e λpr hx e=>pq (kk:=kk) hx (a.next g₁) ra rfl rfl λu u' h' hk r1 r2=>by
  have g2:=g₁.trans (Good.heap g₁.sim hk c₁.s.toks)
  exact iM (i:=0) (c:=⟨c₁.W,_⟩) ho hn (a.next g2) e r1 λσ' c' e g=>iM (i:=0) ho' hn' (a.next (g2.trans g)) e (r2.mono g.le) λσ' c' e g'=>q.here e ((g2.trans g).trans g') a) (hw.at hs) (by rw[←hm,←hs];rfl)
theorem yY(hs:P.env.scope=P.sc){o e:E}{cl f i:Nat}{ox value:PySem.Expr}{nm x:PySem.Str}{p₁ p₂ p pos:Pos}{kk:Nat}(hw:gi P.sc value (some (.Tuple [.Attribute ox nm p₁,.Name x p₂] kk p)) pos.line)
  (hm:swappedStores [.Tuple [.Attribute ox nm p₁,.Name x p₂] kk p] value (oZ P.sc)=pure none) (hn:(cQ cl)[f]? =some nm) (hc:CanStore P i x) (ho:bS P n F o ox) (h:bS P n F e value) :
  gY P n F (.asgAV o cl f i e) (exec (.Assign [.Tuple [.Attribute ox nm p₁,.Name x p₂] kk p] value pos) P.env):=λ{β A σ le c k r Q} a e q =>
 wpAny_Assign_stores (h a e λx σ₁ ov c₁ e g₁ ra=>bE e λpr hx e=>pq (kk:=kk) hx (a.next g₁) ra rfl rfl λu u' h' hk r1 r2=>by
  have g2:=g₁.trans (Good.heap g₁.sim hk c₁.s.toks)
  exact iM (i:=0) (c:=⟨c₁.W,_⟩) ho hn (a.next g2) e r1 λσ' c' e g=>wpAny_assign_Name (e7 (L:=false) (a.next (g2.trans g)) hc Bool.noConfusion (r2.mono g.le) (q.stored (g2.trans g) e))) (hw.at hs) (by rw[←hm,←hs];rfl)
theorem Cd(hs:P.env.scope=P.sc){o e:E}{cl f:Nat}{ox value:PySem.Expr}{nm:PySem.Str}{p pos:Pos}(hw:gi P.sc value (some (.Attribute ox nm p)) pos.line)(hn:(cQ cl)[f]? =some nm)
  (ho:bS P n F o ox) (h:bS P n F e value):gY P n F (.setA o cl f e) (exec (.Assign [.Attribute ox nm p] value pos) P.env):=λ{β A σ le c k r Q} a e q =>
 plainObj_wpAny_Assign_Attribute (h a e λx σ₁ xv c₁ e g₁ rx=>ho (a.next g₁) e λy σ₂ ov c₂ e g₂ ra=>bE e λi hi e=>qP g₂.sim e hn (cN hi▸ra) (rx.mono g₂.le) λσ' s' e g=>q.here (c₁:=⟨c₂.W,s'⟩) e ((g₁.trans g₂).trans g) a) (hw.at hs)
theorem Cc(hs:P.env.scope=P.sc){o i e:E}{ox ix value:PySem.Expr}{p pos:Pos}(hw:gi P.sc value (some (.Subscript ox ix p)) pos.line)(ho:bS P n F o ox)(hi:bS P n F i ix)(h:bS P n F e value) :
  gY P n F (.setI o i e) (exec (.Assign [.Subscript ox ix p] value pos) P.env):=λ{β A σ le c k r Q} a e q =>
 wpAny_Assign_Subscript (h a e λx σ₁ xv c₁ e g₁ rx=>ho (a.next g₁) e λy σ₂ ov c₂ e g₂ ra=>hi (a.next (g₁.trans g₂)) e λz σ₃ iv c₃ e g₃ ri=>sA g₃.sim a.u64 e (ra.mono g₃.le) ri ((rx.mono g₂.le).mono g₃.le) λσ' s' e g=>q.here (c₁:=⟨c₃.W,s'⟩) e (((g₁.trans g₂).trans g₃).trans g) a) (hw.at hs)
theorem yX(hs:P.env.scope=P.sc){o lo hi e:E}{ox value:PySem.Expr}{l u:Option PySem.Expr}{sp p pos:Pos}(hw:gi P.sc value (some (.Subscript ox (.Slice l u none sp) p)) pos.line)(ho:bS P n F o ox)(hl:vM P n F lo l)(hh:vM P n F hi u)(h:bS P n F e value) :
  gY P n F (.setSl o lo hi e) (exec (.Assign [.Subscript ox (.Slice l u none sp) p] value pos) P.env):=λ{β A σ le c k r Q} a e q =>
 wpAny_Assign_Subscript (h a e λx σ₁ xv c₁ e g₁ rx=>ho (a.next g₁) e λy σ₂ ov c₂ e g₂ ra=>wpAny_Slice (hl (a.next (g₁.trans g₂)) e λz σ₃ lv c₃ e g₃ rl=>hh (a.next ((g₁.trans g₂).trans g₃)) e λw σ₄ hv c₄ e g₄ rh=>wpAny_evalPart_none (
  have gp:=Good.push g₄.sim _
  qQ (c:=⟨c₄.W,_⟩) gp.sim (Heap.IsSliceOf.new ..) e ((ra.mono g₃.le).mono g₄.le) (rl.mono g₄.le) rh (((rx.mono g₂.le).mono g₃.le).mono g₄.le) λσ' s' e g=>q.here (c₁:=⟨c₄.W,s'⟩) e ((((g₁.trans g₂).trans g₃).trans g₄).trans (gp.trans g)) a))) (hw.at hs)
theorem lx{op:BOp}(ha:td op=true){W:Wd}{x y:V}{i j z:Int}{a b:Value}{s:Shared}{R:Value→Shared→Prop}(h:iop op i j=some z)(ex:b9 x=some i)(ey:b9 y=some j)(ra:VR W x a)(rb:VR W y b)(q:∀t tk,R (.int z t) {s with toks:=tk}) :
  wpAny M A (inplaceOp (rop op) a b) R Ex s:=by
 rw[cO ex] at ra
 rw[cO ey] at rb
 obtain⟨t,rfl⟩:=ra
 obtain⟨u,rfl⟩:=rb
 cases op with
 | add=>exact AutoIntOps.iadd_0 (Option.some.inj h▸q _ _)
 | sub=>exact AutoIntOps.isub_0 (Option.some.inj h▸q _ _)
 | _=>exact ft ha
theorem Fg{i:Nat}{op:BOp}(ha:td op=true){e:E}{x:PySem.Str}{value:PySem.Expr}{p pos:Pos}(hc:CanStore P i x)(hcd:(x==("__classdict__" :PySem.Str))=false)(h:bS P n F e value) :
  gY P n F (.aug i op e) (exec (.AugAssign (.Name x p) (rop op) value pos) P.env):=λ{β A σ le c k r Q} a e q=>bE e λu hu e=>bE e λm hm e =>
 wpAny_AugAssign_Name (qj a ⟨true,hc.mem,hc.kind.imp (λh=>⟨rfl,h⟩) λh=> .inl h.1⟩ hcd hu λold ro=>h a e λy σ₁ vv c₁ e g₁ rv=>bE e λj hj e=>bE e λz hz e=>lx ha hz hm hj (ro.mono g₁.le) rv λt tk =>
  have g:=g₁.toks tk
  e7 (L:=false) (c:=⟨c₁.W,_⟩) (a.next g) hc Bool.noConfusion (VR.int z t) (q.stored g e))
theorem Ch{o e:E}{cl f:Nat}{op:BOp}(ha:td op=true){ox value:PySem.Expr}{nm:PySem.Str}{p pos:Pos}(hn:(cQ cl)[f]? =some nm)(ho:bS P n F o ox)(h:bS P n F e value) :
  gY P n F (.augA o cl f op e) (exec (.AugAssign (.Attribute ox nm p) (rop op) value pos) P.env):=λ{β A σ le c k r Q} a e q =>
 wpAny_AugAssign_AttributeAny (ho a e λy σ₁ ov c₁ e g₁ ra=>bE e λi hi e=>bE e λfs hfs e=>bE e λu hu e=>bE e λm hm e=>wI g₁.sim hfs hu hn (cN hi▸ra) λold t ro=>by
  have g:=g₁.toks t
  refine h (c:=⟨c₁.W,_⟩) (a.next g) e λy σ₂ vv c₂ e g₂ rv=>bE e λj hj e=>bE e λz hz e=>lx ha hz hm hj (ro.mono g₂.le) rv λt tk=> ?_
  have g':=(g.trans g₂).toks tk
  exact qP (c:=⟨c₂.W,_⟩) g'.sim e hn ((cN hi▸ra).mono g₂.le) (VR.int z t) λσ' s' e g3=>q.here (c₁:=⟨c₂.W,s'⟩) e (g'.trans g3) a)
end
noncomputable def cX(P:Fr)(D:Addr):Addr→Prop:=λb=>b=P.env.locals∨b=D
structure Acc(P:Fr)(c:C)(D:Addr)(done:List V):Prop where
 fp:Fp c.W c.s.heap [D]
 list:∃vals,VRs c.W done vals∧c.s.heap.PlainList D vals.toArray
 own:∀b,dO P.env b→¬b=D
noncomputable def Sub(le₀ le:Le):Prop:=∀(i:Nat) (v:V),le₀[i]? =some (some v)→le[i]? =some (some v)
noncomputable def li(P:Fr)(n:Nat)(D:Addr)(f:Le→H→Option (List V×H))(rest:Sem PySem.Fin)(ag:Code):Prop :=
 ∀{A:Around} {σ:H} {le:Le} {c:C} {done:List V} {y:List V×H} {Q:PySem.Fin→Shared→Prop},At P n A σ le c→Acc P c D done→f le σ=some y→done.length+y.1.length≤lim→
  (∀c',Good (cX P D) c y.2 c'→At P n A y.2 le c'→Acc P c' D (done++y.1)→Q (.again ag) c'.s)→wpAny M A rest Q Ex c.s
noncomputable def Em(ip:Pos)(it:Value)(target:PySem.Expr)(env:Env)(rest:Sem PySem.Fin):Sem PySem.Fin:=standAt ip>>=λ_=>pyNext it>>=λr=>match r with
 | none=>pure (.done .next)
 | some v=>letOwnedTupleGo target it v>>=λ_=>assign target env v>>=λ_=>rest
noncomputable def Bk(ifs:List PySem.Expr)(elt:PySem.Expr)(acc:Value)(env:Env)(ag:Code):Sem PySem.Fin:=do
 let mut ok:=true
 for c in ifs do
  if ok then ok←isTrue c env (eval c env)
 if ok then
  (do let _←call (.builtin "list.append") [acc,←eval elt env])
 again ag
noncomputable def AM(e ix:PySem.Expr)(acc:Value)(env:Env)(ag:Code):Sem PySem.Fin :=
 eval ix env>>=λx=>standAt ix.pos>>=λ_=>foldedSetIterable ix env x>>=λx=>holding [x] (pyIter x)>>=λit2=>runOwn (.compStart e 1 it2 acc env) env>>=λ_=>again ag
section
variable{P:Fr}{n:Nat}{F:FT}{A:Around}{X:Addr→Prop}{D:Addr}{c c' c₀:C}{σ σ':H}{le le' le₀:Le}{done:List V}{p:Pat}
theorem Acc.good(a:Acc P c D done)(g:Good X c σ' c')(hX:¬X D):Acc P c' D done :=
 ⟨a.fp.good g,a.list.elim λvals z=>⟨vals,z.1.mono g.le,z.2.elim λm hp=>⟨m,g.kept _ _ hp λz=>z.elim (a.fp.off D (.head _)).1 hX⟩⟩,a.own⟩
theorem At.sub(a:At P n A σ le c)(h:Sub le₀ le):At P n A σ le₀ c:=by
 have R:=a.env
 exact⟨a.sim,⟨R.ctx,R.fn,R.gl,R.bi,R.kinds,R.ns.elim λm z=>⟨m,z.1,λi x v hc e=>z.2 i x v hc (h _ _ e)⟩,λi x b v hc e=>R.cl i x b v hc (h _ _ e),R.cells,R.has,R.apart,R.off⟩,a.cst,a.gens,a.room⟩
theorem qR{i:Nat}{is:List Nat}:∀{le:Le} {vs:List V},i∉is→(fP le is vs)[i]? =le[i]? :=by
 induction is with
 | nil=>exact λ_=>rfl
 | cons j is ih=>intro le vs h;cases vs with
  | nil=>rfl
  | cons v vs=>exact(ih λq=>h (.tail _ q)).trans (List.getElem?_set_ne λe:j=i=>h (aE.mpr (.inl e.symm)))
theorem fS(h:cw p le=true):∀i∈eS p,le[i]? =some none:=by
 have one:∀{i},gG le i=true→le[i]? =some none:=λ{i} h=>by
  unfold gG at h
  cases e:le[i]? with
  | none=>rw[e] at h;exact ft h
  | some o=>cases o with
   | none=>rfl
   | some v=>rw[e] at h;exact ft h
 cases p with
 | one i=>exact λj hj=>aI.mp hj▸one h
 | many is=>exact λj hj=>one (List.all_eq_true.mp h j hj)
theorem yU(hf:cw p le₀=true){x:V}(h:Sub le₀ le)(hb:fu p x le=some le'):Sub le₀ le':=λi v e=>by
 have ni:i∉eS p:=λhi=>ns ((Option.some.inj ((fS hf i hi).symm.trans e)))
 have:le'[i]? =le[i]? :=by
  cases p with
  | one j=>exact Option.some.inj hb▸List.getElem?_set_ne λe:j=i=>ni (e▸ .head _)
  | many is=>exact bE hb λvs hv hb=>gE hb λhl hb=>Option.some.inj hb▸qR ni
 exact this.trans (h i v e)
theorem qF{u:V}{x:Value}{Q:Value→Shared→Prop}(a:At P n A σ le c)(ac:Acc P c D done)(r:VR c.W u x)(hl:done.length+1≤lim)(q:∀c',Good (cX P D) c σ c'→At P n A σ le c'→Acc P c' D (done++[u])→Q .none c'.s) :
  wpAny M A (call (.builtin "list.append") [.ref D,x]) Q Ex c.s:=by
 obtain⟨vals,hv,hp⟩:=ac.list
 refine wpAny_list_append_plain hp (λh' hp' hs=> ?_) (by rw[List.size_toArray,←hv.length];exact cu (bf hl))
 have g:=ac.fp.step a.sim (h':=h') (tk:=c.s.toks) (λb o e n=>hs.extBut b o (λz=>n (z▸ .head _)) e) λb hb=>aI.mp hb▸hp'.elim λm z=>⟨_,z⟩
 exact q ⟨c.W,_⟩ (g.wider λb o _ hb=> .inr (aI.mp hb)) (a.nextX g λb hb z=>ac.own b hb (aI.mp z)) ⟨ac.fp.good g,⟨vals++[x],hv.append (.cons r .nil),by rw[←List.push_toArray];exact hp'⟩,ac.own⟩
theorem GM(hl:∀b,dO P.env b→¬b=D){X:Addr→Prop}(h1:¬X P.env.locals)(h2:¬X D):∀b,cX P D b→¬X b:=λb z=>z.elim (λe=>e▸h1) λe=>e▸h2
theorem Bj{e:E}{elt:PySem.Expr}{ag:Code}(h:bS P n F e elt):li P n D (λle σ=>evK F e le σ λv σ=>some ([v],σ)) (Bk [] elt (.ref D) P.env ag) ag:=λ{A σ le c done y Q} a ac e hl q=>by
 refine wpAny_bind (wpAny_tests_nil ?_)
 refine wpAny_bind (wpAny_bind (h a e λv σ' v' c' ey g rv=> ?_))
 cases(show some ([v],σ')=some y from ey)
 exact wpAny_bind (qF (a.next g) (ac.good g id) rv hl λc'' g' a' ac'=>wpAny_pure (wpAny_pure (q c'' (g.any.trans g') a' ac')))
theorem wV{e t:E}{elt cx:PySem.Expr}{ag:Code}(h0:gr P n F t cx)(h:bS P n F e elt) :
  li P n D (λle σ=>evK F t le σ λt σ=>(b6 t).bind λb=>if b then evK F e le σ λv σ=>some ([v],σ) else some ([],σ)) (Bk [cx] elt (.ref D) P.env ag) ag:=λ{A σ le c done y Q} a ac e hl q=>by
 refine wpAny_bind (wpAny_tests_one (h0 (k:=λb σ=>if b then evK F _ le σ λv σ=>some ([v],σ) else some ([],σ)) a e λb σ₁ c₁ e g₁=> ?_))
 cases b with
 | false =>
  cases(show some ([],σ₁)=some y from e)
  exact wpAny_pure (q c₁ g₁.any (a.next g₁) ((aw done).symm▸ac.good g₁ id))
 | true =>
  refine wpAny_bind (wpAny_bind (h (a.next g₁) e λv σ' v' c' ey g rv=> ?_))
  cases(show some ([v],σ')=some y from ey)
  have g:=g₁.trans g
  exact wpAny_bind (qF (a.next g) (ac.good g id) rv hl λc'' g' a' ac'=>wpAny_pure (wpAny_pure (q c'' (g.any.trans g') a' ac')))
structure CompI(P:Fr)(n:Nat)(A:Around)(D:Addr)(p:Pat)(f:Le→H→Option (List V×H))(iv:Value)(fp:List Addr)(g:Gd)(c₀:C)(le₀:Le)(zs:List V)(σe:H)(σ:H)(le:Le)(c:C)(r done ys:List V):Prop where
 loop:LoopAt P n A (cX P D) (jR p) iv fp g c₀ σ le c r
 acc:Acc P c D done
 sub:Sub le₀ le
 run:cy p g f r le σ=some (ys,σe)
 all:done++ys=zs
noncomputable abbrev lcE(elt:PySem.Expr)(gens:List Comprehension)(sc:Scope)(pos:Pos):PySem.Expr:= .ListComp elt gens sc pos
theorem qC{elt target:PySem.Expr}{gens:List Comprehension}{sc:Scope}{pos:Pos}{j:Nat}{iv:Value}{ip:Pos}{rest:Sem PySem.Fin}{f:Le→H→Option (List V×H)}{fp:List Addr}{g:Gd}{items zs ys:List V}{σe:H}{R:Result→Shared→Prop}(hT:compTurn (lcE elt gens sc pos) j iv (.ref D) P.env=Em ip iv target P.env rest)(ht:Tgt P true target p)
  (hR:li P n D f rest (.compLoop (lcE elt gens sc pos) j iv (.ref D) P.env)) (hfree:cw p le₀=true) (hD:¬D∈fp) (hl:zs.length≤lim) (hI:CompI P n A D p f iv fp g c₀ le₀ zs σe σ le c items done ys)
  (q:∀c',Good (cX P D) c₀ σe c'→At P n A σe le₀ c'→Acc P c' D zs→R (.ok .next) c'.s):codeAny M A (.compLoop (lcE elt gens sc pos) j iv (.ref D) P.env) R c.s:=by
 refine codeAny_loop rfl (λm sx=>∃σ₂ le₂ c₂ r done₂ ys₂,CompI P n A D p f iv fp g c₀ le₀ zs σe σ₂ le₂ c₂ r done₂ ys₂∧r.length=m∧sx=c₂.s) (λm sx hm=> ?_) items.length ⟨σ,le,c,items,done,ys,hI,rfl,rfl⟩
 obtain⟨σ₂,le₂,c₂,r,done₂,ys₂,I,rfl,rfl⟩:=hm
 show wpAny _ A ((compTurn (lcE elt gens sc pos) j iv (.ref D) P.env).onRaise (λx=>do noteFrame x P.env;theTreesLotGoes x)) _ _ c₂.s
 refine wpAny_noted ?_
 rw[hT]
 have l:=I.loop
 have hr:=I.run
 have nX:∀b,cX P D b→¬b∈fp:=GM I.acc.own (l.own _ (.inl rfl)) hD
 refine wpAny_bind (wpAny_standAt (wpAny_bind (wpX (wG l.at_.hand ht.is l.at_.sim l.fpr l.guard l.iter (λx r' er v s₄ hgo=> ?_) λer h' tk hk=> ?_))))
 ·rw[er] at hr
  refine bE hr λle₁ hbp hr=>bE hr λy hy hr=>gpE hr λhg hr=>bE hr λz hz hr=> ?_
  refine wpAny_bind (wpX (hgo _ λc₅ g5 I5 r5=>wpAny_bind (wpX (jE ht (l.step g5 I5).at_ hbp r5 λs₆ g6 a6=> ?_))))
  have g6':Good (cX P D) c₅ σ₂ ⟨c₅.W,s₆⟩:=g6.wider λb o _ hb=> .inl hb
  have l6:=(l.step g5 I5).body nX g6' a6 l.guard
  have ac6:=(I.acc.good g5 hD).good (c':=⟨c₅.W,s₆⟩) g6 λz=>I.acc.own _ (.inl rfl) (z:D=P.env.locals).symm
  have hys:y.1++z.1=ys₂:=congrArg Prod.fst (Option.some.inj hr)
  have hσ:z.2=σe:=congrArg Prod.snd (Option.some.inj hr)
  have hall:(done₂++y.1)++z.1=zs:=by rw[af,hys];exact I.all
  refine wpX (hR (c:=⟨c₅.W,s₆⟩) a6 ac6 hy ?_ λc₇ g7 a7 ac7=>⟨rfl,r'.length,by rw[er];exact Nat.lt_succ_self _,y.2,le₁,c₇,r',done₂++y.1,z.1,⟨l6.body nX g7 a7 hg,ac7,yU hfree I.sub hbp,hσ▸hz,hall⟩,rfl,rfl⟩)
  rw[←aa]
  exact ae (ae (az _ _) (aZ (aa ..).symm)) (hall▸hl)
 ·rw[er] at hr
  cases(show some ([],σ₂)=some (ys₂,σe) from hr)
  have d:=l.done (tk:=tk) hk
  have e:=I.all
  rw[aw] at e
  have ac:Acc P ⟨c₂.W,{c₂.s with heap:=h',toks:=tk}⟩ D done₂:=⟨⟨λb hb=>aI.mp hb▸I.acc.list.elim λvals z=>z.2.elim λm hp=>⟨_,hk _ _ hp hD⟩,I.acc.fp.off⟩,I.acc.list.elim λvals z=>⟨vals,z.1,z.2.elim λm hp=>⟨m,hk _ _ hp hD⟩⟩,I.acc.own⟩
  exact wpAny_pure (q ⟨c₂.W,_⟩ d.1 (d.2.sub I.sub) (e▸ac))
theorem Dj{W:Wd}{tt:Bool}{it:Value}{fp:List Addr}{g:Gd}{items:List V}{s:Shared}{Q:Value→Shared→Prop}(I:ItAt W s.heap tt it fp g items)(h:Q it s):wpAny M A (pyIter it) Q Ex s:=by
 cases I with
 | one I=>cases I with
  | list hp hi=>exact wpAny_pyIter_listiter hi h
  | range hi=>exact wpAny_pyIter_rangeiter hi h
 | tup hm hr hi=>exact wpAny_pyIter_tupleiter hi h
 | bytes hi=>exact KBw.pyIter_self hi h
 | enum hp hne he hi=>exact wpAny_pyIter_enum he h
 | zip D hz hTI hTO I1 I2=>exact wpAny_pyIter_zip hz h
theorem pi{elt target ix:PySem.Expr}{ifs:List PySem.Expr}{gens:List Comprehension}{sc:Scope}{pos:Pos}{j:Nat}{W:Wd}{tt:Bool}{it acc:Value}{env:Env}{fp:List Addr}{g:Gd}{items:List V}{s:Shared}{R:Result→Shared→Prop}(hg:gens[j]? =some ⟨target,ix,ifs,0⟩)
  (I:ItAt W s.heap tt it fp g items) (h:codeAny M A (.compLoop (lcE elt gens sc pos) j it acc env) R s):codeAny M A (.compStart (lcE elt gens sc pos) j it acc env) R s:=by
 refine codeAny_of_tree ?_
 show wpAny _ _ ((compStart (lcE elt gens sc pos) j it acc env).onRaise (λx=>do noteFrame x env;standAt theWindowsPlace)) _ _ s
 refine wpAny_notedAt ?_
 have e:(clausesOf (lcE elt gens sc pos))[j]? =some ⟨target,ix,ifs,0⟩:=hg
 unfold compStart
 rw[e]
 show wpAny _ _ (ask>>=_) _ _ s
 refine wpAny_bind (wpAny_askSetting (wpAny_ite ?_))
 have fin:∀{c:Code} {X:Value→Shared→Prop},codeAny M A c R s→c.quiet=true→wpAny M A (again c) (λfin s'=>match fin with| .done f=>R (.ok f) s'| .again c'=>c'.quiet=true∧codeAny M A c' R s') X s:=λh q=>wpAny_pure ⟨q,h⟩
 split
 ·exact fin h rfl
 ·exact wpAny_bind (wpAny_rule (wpAny_bind (wpAny_standAt (wpAny_bind (wpX (Dj I (fin h rfl)))))))
theorem AL{elt t0 ix0 target ix:PySem.Expr}{ifs:List PySem.Expr}{sc:Scope}{pos:Pos}{it:E}{f:Le→H→Option (List V×H)}{ag:Code}(ht:Tgt P true target p)(hset:iw ix=true)(hI:jH P n F (jR p) it ix)
  (hR:∀iv,li P n D f (Bk ifs elt (.ref D) P.env (.compLoop (lcE elt [⟨t0,ix0,[],0⟩,⟨target,ix,ifs,0⟩] sc pos) 1 iv (.ref D) P.env)) (.compLoop (lcE elt [⟨t0,ix0,[],0⟩,⟨target,ix,ifs,0⟩] sc pos) 1 iv (.ref D) P.env)) :
  li P n D (λle σ=>fz F it le σ λxs g σ=>gd (cw p le=true) (cy p g f xs le σ)) (AM (lcE elt [⟨t0,ix0,[],0⟩,⟨target,ix,ifs,0⟩] sc pos) ix (.ref D) P.env ag) ag:=λ{A σ le c done y Q} a ac e hl q=>by
 refine wpAny_bind (wpAny_mono (hI (k:=λxs g σ=>gd (cw p le=true) (cy p g f xs le σ)) (Q:=λiv s=>wpAny M A (runOwn (.compStart (lcE elt [⟨t0,ix0,[],0⟩,⟨target,ix,ifs,0⟩] sc pos) 1 iv (.ref D) P.env) P.env) (λ_ s=>Q (.again ag) s) Ex s) a e λitems g σ₁ fp iv c₁ e g₁ hG hf I hn=>gE e λhfree e=> ?_) (λx s₁ h₁=>wpAny_bind (wpAny_standAt ?_)) λ_ _ z=>z)
 ·have ac₁:=ac.good g₁ id
  have hD:¬D∈fp:=λhm=>ac.list.elim λvals z=>z.2.elim λm hp=>dG (hn _ hm) hp
  exact wpAny_runOwn (pi rfl I (qC (zs:=done++y.1) rfl ht (hR iv) hfree hD (by rw[aa];exact hl) ⟨.start a g₁ hG hf I hn,ac₁,λ_ _ z=>z,e,rfl⟩ λc' g' a' ac'=>q c' g' a' ac'))
 ·rw[kK hset]
  exact wpAny_bind (wpAny_pure (wpAny_bind (wpAny_holding (wpAny_mono h₁ (λit2 s₄ h₄=>wpAny_bind (wpAny_mono h₄ (λ_ s h=>wpAny_pure h) λ_ _ z=>z)) λ_ _ z=>z))))
end
noncomputable def gj(P:Fr)(sc':Scope)(ps:List (Nat×PySem.Str))(env':Env):Fr:=⟨sc',ti ps P.ctx,env'⟩
structure CompSc(P:Fr)(sc':Scope)(ps:List (Nat×PySem.Str))(p:List Nat):Prop where
 kind:sc'.kind= .function
 cell:∀y∈sc'.names,y.2≠ .cell
 loc:∀y∈sc'.names,y.2= .local→sc'.names.lookup y.1=some .local
 free:∀y∈sc'.names,y.2= .free→P.kin y.1 .cell
 ctx:CtxOk (ti ps P.ctx)
 own:∀q∈ps,q.1∈p
theorem uV{g:PySem.Str→NameKind→NameKind}{f:PySem.Str×NameKind→PySem.Str×NameKind}(hf:∀y,f y=(y.1,g y.1 y.2)){x:PySem.Str}{l:List (PySem.Str×NameKind)}:(l.map f).lookup x=(l.lookup x).map (g x):=by
 induction l with
 | nil=>rfl
 | cons y l ih =>
  rw[aR,hf,List.lookup_cons,List.lookup_cons]
  cases q:x==y.1 with
  | true=>rw[bF.mp q];rfl
  | false=>exact ih
structure Clo(env:Env)(names:List (PySem.Str×NameKind))(cl:List (PySem.Str×Addr)):Prop where
 from_:∀p∈cl,env.cells.lookup p.1=some p.2
 has:∀y∈names,y.2= .free→∃c,(y.1,c)∈cl
theorem vz{sc:Scope}{env:Env}(h:∀y∈sc.names,y.2= .free→∃c,env.cells.lookup y.1=some c):∃cl,closureFor sc env=pure cl∧Clo env sc.names cl:=by
 have go:∀{f:PySem.Str×NameKind→List (PySem.Str×Addr)→Sem (ForInStep (List (PySem.Str×Addr)))} (hf:∀y acc,f y acc=if y.2== .free then(do let c←cellOf env y.1;pure (.yield ((y.1,c)::acc))) else pure (.yield acc)) {names:List (PySem.Str×NameKind)},
   (∀y∈names,y.2= .free→∃c,env.cells.lookup y.1=some c)→∀{acc},(∀p∈acc,env.cells.lookup p.1=some p.2)→∃cl,forIn names acc f=pure cl∧Clo env names cl∧∀p∈acc,p∈cl:=λ{f} hf {names}=>by
  induction names with
  | nil=>exact λ_ {acc} ha=>⟨acc,List.forIn_nil,⟨ha,aj _⟩,λ_ h=>h⟩
  | cons y r ih =>
   intro hn acc ha
   obtain⟨n1,n2⟩:=ao.mp hn
   rw[List.forIn_cons,hf]
   by_cases hk:(y.2== .free)=true
   ·obtain⟨c,hc⟩:=n1 (bF.mp hk)
    obtain⟨cl,e,k,s⟩:=ih n2 (acc:=(y.1,c)::acc) (ao.mpr ⟨hc,ha⟩)
    refine⟨cl,?_,⟨k.from_,ao.mpr ⟨λ_=>⟨c,s _ (.head _)⟩,k.has⟩⟩,λp hp=>s p (.tail _ hp)⟩
    rw[if_pos hk]
    unfold cellOf
    rw[hc,pure_bind,pure_bind]
    exact e
   ·obtain⟨cl,e,k,s⟩:=ih n2 ha
    refine⟨cl,?_,⟨k.from_,ao.mpr ⟨λz=>absurd (bF.mpr z) hk,k.has⟩⟩,s⟩
    rw[if_neg hk,pure_bind]
    exact e
 obtain⟨cl,e,k,_⟩:=go (f:=λy acc=>if y.2== .free then(do let c←cellOf env y.1;pure (.yield ((y.1,c)::acc))) else pure (.yield acc)) (λ_ _=>rfl) h (acc:=[]) (aj _)
 refine⟨cl,?_,k⟩
 show(forIn sc.names ([]:List (PySem.Str×Addr)) _>>=λs=>pure s)=_
 exact(congrArg (·>>=λs=>pure s) e).trans (pure_bind ..)
section
variable{P:Fr}{n:Nat}{F:FT}{A:Around}{D Cl:Addr}{c:C}{σ:H}{le:Le}{sc':Scope}{ps:List (Nat×PySem.Str)}{cl:List (PySem.Str×Addr)}{sl:List Nat}
theorem pj(a:At P n A σ le c)(CS:CompSc P sc' ps sl):∀y∈sc'.names,y.2= .free→P.env.kindOf y.1=some .cell:=λy hy hf=>(a.env.kinds y.1 _ (CS.free y hy hf)).elim id λz=>z.2
theorem xX(a:At P n A σ le c)(CS:CompSc P sc' ps sl)(K:Clo P.env sc'.names cl)(hC:¬c.W.foot Cl∧zh.get? Cl=none)(hns:∃m,c.s.heap.Ns Cl m)(hps:∀i∈sl,le[i]? =some none) :
  EnvR (gj P sc' ps (compEnvC sc' cl Cl P.env)) c.W le c.s.heap∧∀b,dO (compEnvC sc' cl Cl P.env) b→b=Cl∨dO P.env b:=by
 have R:=a.env
 have clook:∀{x d},cl.lookup x=some d→P.env.cells.lookup x=some d:=λh=>K.from_ _ (mem_of_lookup h)
 have kk:∀x,(compEnvC sc' cl Cl P.env).kindOf x=(sc'.names.lookup x).map λk=>if(k== .free&&P.env.scope.kind== .function&&P.env.kindOf x==some .cell)=true then NameKind.cell else k:=λx =>
  uV (g:=λx k=>if(k== .free&&P.env.scope.kind== .function&&P.env.kindOf x==some .cell)=true then NameKind.cell else k) λy=>(apply_ite (λk=>(y.1,k)) ..).symm
 have kfree:∀{x},celled (compEnvC sc' cl Cl P.env) x→(x,NameKind.free)∈sc'.names:=λ{x} hx=>by
  unfold celled at hx
  rw[kk] at hx
  cases q:sc'.names.lookup x with
  | none=>rw[q] at hx;exact hx.elim (λz=>ns z) λz=>ns z
  | some k =>
   rw[q] at hx
   have m:=mem_of_lookup q
   cases k with
   | free=>exact m
   | cell=>exact absurd rfl (CS.cell _ m)
   | _=>exact hx.elim (λz=>NameKind.noConfusion (Option.some.inj z)) λz=>NameKind.noConfusion (Option.some.inj z)
 have own:∀b,dO (compEnvC sc' cl Cl P.env) b→b=Cl∨dO P.env b:=λb hb=>hb.imp id λ⟨x,hx⟩=> .inr ⟨x,clook hx⟩
 have unset:∀{i x b v} {G:Prop},(i,x,b)∈ti ps P.ctx→le[i]? =some (some v)→(∀b',(i,x,b')∈P.ctx→b=false→G)→G:=λ{i x b v G} hm e g=>(List.mem_append.mp hm).elim
  (λhm=>(bb.mp hm).elim λp z=>by
   have e1:p.1=i:=congrArg (·.1) z.2
   exact ns (Option.some.inj ((hps i (e1▸CS.own p z.1)).symm.trans e)))
  λhm=>(bb.mp hm).elim λp z=>by
   obtain⟨i0,x0,b0⟩:=p
   cases(show(i0,x0,false)=(i,x,b) from z.2)
   exact g b0 z.1 rfl
 obtain⟨m,hm⟩:=hns
 refine⟨⟨CS.ctx,CS.kind,R.gl,R.bi,λx k hx=> ?_,⟨m,hm,λi x v hmem e _=>unset hmem e λ_ _ z=>Bool.noConfusion z⟩,λi x b v hmem e hk=>unset hmem e λb' hmem _=> ?_,λx d hd=>R.cells x d (clook hd),λx hx=> ?_,λx y d hx hy=>R.apart x y d (clook hx) (clook hy),λb hb=>(own b hb).elim (λe=>e▸hC) (R.off b)⟩,own⟩
 ·have e:(compEnvC sc' cl Cl P.env).kindOf x=_:=kk x
  rw[show sc'.names.lookup x=some k from hx,Option.map_some] at e
  by_cases h:(k== .free&&P.env.scope.kind== .function&&P.env.kindOf x==some .cell)=true
  ·rw[if_pos h] at e
   exact .inr ⟨bF.mp (ar.mp (ar.mp h).1).1,e⟩
  ·rw[if_neg h] at e;exact .inl e
 ·have hf:=kfree hk
  obtain⟨d,v',hd,hcl,hr⟩:=R.cl i x b' v hmem e (.inl (pj a CS _ hf rfl))
  obtain⟨d',hd'⟩:=K.has _ hf rfl
  obtain⟨d'',hd''⟩:=jw hd'
  exact⟨d,v',hd''.trans ((clook hd'').symm.trans hd),hcl,hr⟩
 ·exact(K.has _ (kfree (.inl hx)) rfl).elim λd hd=>jw hd
structure CompH(P:Fr)(n:Nat)(F:FT)(sc':Scope)(ps:List (Nat×PySem.Str))(sl:List Nat)(p:Pat)(it:E)(f:Le→H→Option (List V×H))(elt target ix:PySem.Expr)(ifs:List PySem.Expr)(rest:List Comprehension)(pos:Pos):Prop where
 sc:CompSc P sc' ps sl
 tgt:∀env',Tgt (gj P sc' ps env') true target p
 it:jH P n F (jR p) it ix
 set:iw ix=true
 turn:∀env' D iv,∃rs,compTurn (lcE elt (⟨target,ix,ifs,0⟩::rest) sc' pos) 0 iv (.ref D) env'=Em ix.pos iv target env' rs∧li (gj P sc' ps env') n D f rs (.compLoop (lcE elt (⟨target,ix,ifs,0⟩::rest) sc' pos) 0 iv (.ref D) env')
theorem tN{p:Pat}{it:E}{f:Le→H→Option (List V×H)}{elt target ix:PySem.Expr}{ifs:List PySem.Expr}{rest:List Comprehension}{pos ipos:Pos}(H:CompH P n F sc' ps sl p it f elt target ix ifs rest pos)(hfree:cw p le=true)(hsl:∀i∈sl,le[i]? =some none){β:Type}{k:V→Mine.Internal.H→Option β}{r:β}(a:At P n A σ le c)
  (e:fz F it le σ (λxs g σ=>(cy p g f xs le σ).bind λz=>pP z.1 z.2 k)=some r) {use:Option (Value→Sem Unit)} {Q:Value→Shared→Prop}
  (q:∀v σ' D Cl c',k v σ'=some r→Gd0 c σ' c'→VR c'.W v (.ref D)→c.s.heap.get? Cl=none→Fp c'.W c'.s.heap [Cl]→(∃m,c'.s.heap.Ns Cl m)→compPost M A Ex use Q (.ref D) Cl (.ok .next) c'.s) :
  wpAny M A (comprehension (lcE elt (⟨target,ix,ifs,0⟩::rest) sc' pos) sc' P.env ipos (PySem.newList []) false (eval ix P.env) use) Q Ex c.s:=by
 obtain⟨cl,hclos,K⟩:=vz (sc:=sc') (env:=P.env) λy hy hf=>a.env.has y.1 (pj a H.sc y hy hf)
 refine wpAny_comprehension_free (cl:=cl) rfl (λx=>kK H.set _ x) hclos H.sc.kind H.sc.loc (H.it a e λitems g σ₁ fp iv c₁ ek g₁ hG hf I hn=>bE ek λz hz ek=>gE ek λhl ek=> ?_)
 refine wpAny_newObj_type (wpAny_newFunctionEnv H.sc.cell (aj _) (λh₁ hns₁ hsb₁=> ?_) H.sc.kind)
 generalize hH2:c₁.s.heap.push {cls:= .type "list",dict:=none,data:= .seq ([]:List Value).toArray}=H2 at hns₁ hsb₁⊢
 have hC:H2.objs.size=c₁.s.heap.objs.size+1:=by rw[←hH2,Heap.size_push]
 have hD0:c₁.s.heap.get? c₁.s.heap.objs.size=none:=cL _
 have hC0:c₁.s.heap.get? H2.objs.size=none:=get?_above (hC▸Nat.le_succ _)
 have hDC:c₁.s.heap.objs.size≠H2.objs.size:=hC▸Nat.ne_of_lt (Nat.lt_succ_self _)
 have up:∀{b o},H2.get? b=some o→h₁.get? b=some o:=λ{b o} e=>hsb₁.extBut b o (Nat.ne_of_lt (Heap.lt_size e)) (aT _ e)
 have old:Keeps c₁.s.heap h₁:=λb o e=>up (hH2▸aT _ e)
 have gk:=Good.heap g₁.sim old (c₁.s.toks+([]:List (PySem.Str×Value)).length)
 have a₁:=a.next (g₁.trans gk)
 obtain⟨hE,hown⟩:=xX (Cl:=H2.objs.size) a₁ H.sc K ⟨g₁.sim.off hC0,g₁.sim.base_none hC0⟩ ⟨_,hns₁⟩ hsl
 generalize hcl:compEnvC sc' cl H2.objs.size P.env=env' at hE hown
 have hloc:env'.locals=H2.objs.size:=by rw[←hcl];rfl
 have live:∀b,dO P.env b→∀{b'},c₁.s.heap.get? b'=none→¬b=b':=λb hb {b'} h0 z=>(a.env.alive hb).elim λo w=>(g₁.live b o w.1).elim λo' w'=>dG h0 (z▸w')
 have ac:Acc (gj P sc' ps env') ⟨c₁.W,{c₁.s with heap:=h₁,toks:=c₁.s.toks+([]:List (PySem.Str×Value)).length}⟩ c₁.s.heap.objs.size []:=by
  have hp:=up (hH2▸aN c₁.s.heap rfl)
  exact⟨⟨λb hb=>aI.mp hb▸⟨_,hp⟩,λb hb=>aI.mp hb▸⟨g₁.sim.off hD0,λt ht z=>dG hD0 (z▸g₁.sim.tup t ht),g₁.sim.base_none hD0⟩⟩,⟨[],.nil,_,hp⟩,λb hb=>(hown b hb).elim (λe z=>hDC (z.symm.trans e)) λh=>live b h hD0⟩
 have hfpD:¬c₁.s.heap.objs.size∈fp:=λhm=>(hf.live _ hm).elim λo w=>dG hD0 w
 have lp:LoopAt (gj P sc' ps env') n A (cX (gj P sc' ps env') c₁.s.heap.objs.size) (jR p) iv fp g c σ₁ le ⟨c₁.W,{c₁.s with heap:=h₁,toks:=c₁.s.toks+([]:List (PySem.Str×Value)).length}⟩ items :=
  ⟨⟨gk.sim,hE,a₁.cst,a₁.gens,a₁.room⟩,(g₁.trans gk).any,hf.good gk,I.mono (.refl _) λb o _ e=>old b o e,hG,hn,λb hb hm=>(hown b hb).elim (λe=>(hf.live b hm).elim λo w=>dG hC0 (e▸w)) λh=>(a.env.alive h).elim λo w=>dG (hn b hm) w.1⟩
 obtain⟨rs,hT,hR⟩:=H.turn env' c₁.s.heap.objs.size iv
 have fin:=qC (zs:=z.1) (σe:=z.2) (R:=compPost M A Ex use Q (.ref c₁.s.heap.objs.size) H2.objs.size) hT (H.tgt env') hR hfree hfpD hl ⟨lp,ac,λ_ _ z=>z,hz,rfl⟩ λc' g' a' ac'=> ?_
 ·subst hcl
  exact pi (elt:=elt) (gens:=⟨target,ix,ifs,0⟩::rest) rfl lp.iter fin
 ·have hCl:(gj P sc' ps env').env.locals=H2.objs.size:=hloc
  obtain⟨vals,hv,n',hp⟩:=ac'.list
  have off:=ac'.fp.off _ (.head _)
  have k:=Good.addO (p:=(c₁.s.heap.objs.size,c₁.s.heap.objs.size)) (o:= .list z.1) (s':=c'.s) a.sim g' (λb hb=>onp hb▸g₁.back hD0) (λb hb=>onp hb▸⟨_,hp,jq rfl⟩) (λb hb=>onp hb▸off.1) (λ_ _ e _=>e) ⟨hl,rfl,vals.toArray,n',hp,hv⟩ rfl rfl
  obtain⟨m,hm,_⟩:=a'.env.ns
  obtain⟨oc,hoc,hns⟩:=a'.env.alive (.inl rfl)
  obtain⟨e1,e2⟩:=a'.env.off _ (.inl rfl)
  rw[hCl] at hm hoc e1 e2
  refine q _ _ _ _ ⟨c'.W.addO (c₁.s.heap.objs.size,c₁.s.heap.objs.size),c'.s⟩ ek (k.wider λb o e z=>z.elim (λw=>dG (g₁.back hC0) ((w.trans hCl)▸e)) λw=>dG (g₁.back hD0) (w▸e)) (VR.new (c:=c') a'.sim (c₁.s.heap.objs.size,c₁.s.heap.objs.size)) (g₁.back hC0) ⟨λb hb=>aI.mp hb▸⟨oc,hoc⟩,λb hb=>aI.mp hb▸⟨λ⟨i,p,hi,w⟩=> ?_,λt ht w=> ?_,e2⟩⟩ ⟨m,hm⟩
  ·exact mQ hi (λhi=>e1 ⟨i,p,hi,w⟩) λ_ ep=>hDC (by rw[ep] at w;exact(onp w).symm)
  ·have:=a'.sim.tup t ht
   rw[w,hoc] at this
   exact hns _ _ (congrArg Obj.data (Option.some.inj this))
end
inductive LcOk (P:Fr) (n:Nat) (F:FT) (e0:E):PySem.Expr→Prop
 | mk {sc':Scope} {ps:List (Nat×PySem.Str)} {sl:List Nat} {p:Pat} {it:E} {f:Le→H→Option (List V×H)} {elt target ix:PySem.Expr} {ifs:List PySem.Expr} {rest:List Comprehension} {pos:Pos} (h:CompH P n F sc' ps sl p it f elt target ix ifs rest pos)
   (run:∀{β:Type} {le:Le} {σ:H} {k:V→H→Option β} {r:β},evK F e0 le σ k=some r→(cw p le=true∧∀i∈sl,le[i]? =some none)∧fz F it le σ (λxs g σ=>(cy p g f xs le σ).bind λz=>pP z.1 z.2 k)=some r) :
   LcOk P n F e0 (lcE elt (⟨target,ix,ifs,0⟩::rest) sc' pos)
section
variable{P:Fr}{n:Nat}{F:FT}{e0:E}{x:PySem.Expr}
theorem LcOk.ok(h:LcOk P n F e0 x):bS P n F e0 x:=λ{β A σ le c k r Q} a e q=>by
 cases h with
 | mk h run =>
  obtain⟨hf,ek⟩:=run e
  refine(tN h hf.1 hf.2 a ek λv σ' D Cl c' ek g rv h0 hfp hm=>hm.elim λm hm=>⟨m,hm,λh' hs=> ?_⟩:wpAny M A (comprehension _ _ P.env _ (PySem.newList []) false (eval _ P.env) none) Q Ex c.s)
  exact q v σ' _ ⟨c'.W,_⟩ ek (g.drop (tk:=c'.s.toks) hfp (λb hb=>aI.mp hb▸h0) λb o e n=>hs.extBut b o (λz=>n (z▸ .head _)) e) rv
theorem LcOk.used(h:LcOk P n F e0 x)(hs:P.env.scope=P.sc){i:Nat}{nm:PySem.Str}{px ap:Pos}(hw:swapsWith x (some (.Name nm px)) ap.line (oZ P.sc)=pure true)(hc:CanStore P i nm):gY P n F (.asg i e0) (exec (.Assign [.Name nm px] x ap) P.env):=λ{β A σ le c k r Q} a e q=>by
 cases h with
 | @mk sc' ps sl p it f elt target ix ifs rest pos h run =>
  obtain⟨hf,ek⟩:=run (k:=λv σ=>k .next (le.set i (some v)) σ) e
  rw[exec_Assign_Name_used _ _ _ _ (by rw[←hw,←hs];rfl)]
  refine wpAny_bind (wpAny_standAt (wpAny_bind ?_))
  show wpAny _ A (do let _←comprehension (lcE elt (⟨target,ix,ifs,0⟩::rest) sc' pos) sc' P.env _ (PySem.newList []) false (eval ix P.env) (some (assign (.Name nm px) P.env))) _ _ c.s
  refine wpAny_bind (tN h hf.1 hf.2 a ek λv σ' D Cl c' ek g rv h0 hfp hm=>wpAny_assign_Name (e7 (L:=false) (a.next g) hc Bool.noConfusion rv λs₂ g₂ a₂=> ?_))
  have hno:∀b,dO P.env b→¬b∈[Cl]:=λb hb z=>(a.env.alive hb).elim λo w=>dG h0 (aI.mp z▸w.1)
  obtain⟨m,o,es,ep,ho,hd⟩:=hm
  have ho2:=g₂.kept _ _ ho λz=>z.elim (hfp.off _ (.head _)).1 λz=>hno _ z (.head _)
  refine⟨m,⟨o,es,ep,ho2,hd⟩,λh' hs=>wpAny_pure (wpAny_pure ?_)⟩
  have kp:Kept (·∈[Cl]) s₂.heap h':=λb o e n=>hs.extBut b o (λz=>n (z▸ .head _)) e
  have hfp2:=hfp.good g₂
  have gg:Good (uF P false) c σ' ⟨c'.W,s₂⟩:=g.any.trans g₂
  exact q _ _ _ _ ⟨c'.W,{s₂ with heap:=h',toks:=s₂.toks}⟩ ek (gg.drop hfp2 (λb hb=>aI.mp hb▸h0) kp) (a₂.drop hfp2 hno kp) rfl
section
variable{sc':Scope}{ps:List (Nat×PySem.Str)}{p:Pat}{e it t:E}{elt target ix tx:PySem.Expr}{pos:Pos}
theorem Dg(hc:CompSc P sc' ps (eS p))(ht:∀env',Tgt (gj P sc' ps env') true target p)(hI:jH P n F (jR p) it ix)(hset:iw ix=true)(he:∀env',bS (gj P sc' ps env') n F e elt) :
  LcOk P n F (.comp e p it) (lcE elt [⟨target,ix,[],0⟩] sc' pos) :=
 .mk ⟨hc,ht,hI,hset,λenv' D iv=>⟨_,rfl,Bj (P:=gj P sc' ps env') (he env')⟩⟩ λe=>gE e λhf e=>⟨⟨hf,fS hf⟩,e⟩
theorem xS(hc:CompSc P sc' ps (eS p))(ht:∀env',Tgt (gj P sc' ps env') true target p)(hI:jH P n F (jR p) it ix)(hset:iw ix=true)(he:∀env',bS (gj P sc' ps env') n F e elt)(h0:∀env',gr (gj P sc' ps env') n F t tx) :
  LcOk P n F (.compIf e p it t) (lcE elt [⟨target,ix,[tx],0⟩] sc' pos) :=
 .mk ⟨hc,ht,hI,hset,λenv' D iv=>⟨_,rfl,wV (P:=gj P sc' ps env') (h0 env') (he env')⟩⟩ λe=>gE e λhf e=>⟨⟨hf,fS hf⟩,e⟩
theorem Au{p':Pat}{it':E}{target' ix':PySem.Expr}(hc:CompSc P sc' ps (eS p++eS p'))(ht:∀env',Tgt (gj P sc' ps env') true target p)(hI:jH P n F (jR p) it ix)(hset:iw ix=true)
  (ht':∀env',Tgt (gj P sc' ps env') true target' p') (hI':∀env',jH (gj P sc' ps env') n F (jR p') it' ix') (hset':iw ix'=true) (he:∀env',bS (gj P sc' ps env') n F e elt) (h0:∀env',gr (gj P sc' ps env') n F t tx) :
  LcOk P n F (.comp2 e p it p' it' t) (lcE elt [⟨target,ix,[],0⟩,⟨target',ix',[tx],0⟩] sc' pos) :=
 .mk ⟨hc,ht,hI,hset,λenv' D iv=>⟨AM _ ix' (.ref D) env' _,rfl,AL (P:=gj P sc' ps env') (ht' env') hset' (hI' env') λiv=>wV (P:=gj P sc' ps env') (h0 env') (he env')⟩⟩
  λe=>gE e λhf e=>⟨⟨(ar.mp hf).1,aH.mpr ⟨fS (ar.mp hf).1,fS (ar.mp hf).2⟩⟩,e⟩
end
end
noncomputable def IsP(N:Nat)(p:Array Nat):Prop:=p.Perm (List.toArray (List.range N))
structure Lt(N:Nat)(L:Nat→Nat→Bool):Prop where
 tot:∀{i j},i<N→j<N→i≠j→L i j=false→L j i=true
 tr:∀{i j k},L i j=true→L j k=true→L i k=true
noncomputable abbrev gA(p:Array Nat)(i:Nat):Nat:=p.getD i 0
noncomputable def qH(cmp:Nat→Nat→(Bool→Shared→Prop)→Shared→Prop)(s:Shared)(L:Nat→Nat→Bool)(N:Nat):Prop:=∀i j (C:Bool→Shared→Prop),i<N→j<N→C (L i j) s→cmp i j C s
noncomputable def Asc(L:Nat→Nat→Bool)(p:Array Nat)(m:Nat):Prop:=∀i,i+1<m→L (gA p i) (gA p (i+1))=true
noncomputable def Dsc(L:Nat→Nat→Bool)(p:Array Nat)(m:Nat):Prop:=∀i,i+1<m→L (gA p (i+1)) (gA p i)=true
section
variable{cmp:Nat→Nat→(Bool→Shared→Prop)→Shared→Prop}{s:Shared}{L:Nat→Nat→Bool}{N:Nat}{p:Array Nat}
theorem IsP.size(h:IsP N p):p.size=N:=by rw[Array.Perm.size_eq h,List.size_toArray,List.length_range]
theorem ow{i:Nat}(h:i<p.size):gA p i=p[i]:=by unfold gA;rw[Array.getD_eq_getD_getElem?,Array.getElem?_eq_getElem h];rfl
theorem IsP.at(h:IsP N p){i:Nat}(hi:i<N):gA p i<N:=by
 have hi':i<p.size:=h.size▸hi
 rw[ow hi']
 exact List.mem_range.mp (List.mem_toArray.mp ((Array.Perm.mem_iff h).mp (Array.getElem_mem hi')))
theorem IsP.inj(h:IsP N p){i j:Nat}(hi:i<N)(hj:j<N)(hne:i≠j):gA p i≠gA p j:=by
 have nd:p.toList.Nodup:=(Array.perm_iff_toList_perm.mp h).nodup_iff.mpr List.nodup_range
 have hi':i<p.size:=h.size▸hi
 have hj':j<p.size:=h.size▸hj
 rw[ow hi',ow hj',←Array.getElem_toList,←Array.getElem_toList]
 exact λe=>hne ((List.getElem?_inj (l:=p.toList) hi' nd).mp (by rw[aW (l:=p.toList) hi',aW (l:=p.toList) hj',e]))
theorem zr(h:IsP N p){m:Nat}(hm:m+1≤N){k:Nat}(hk:k≤m):gA (kas_rev p 0 (m+1)) k=gA p (m-k):=by
 unfold gA kas_rev
 rw[Array.getD_eq_getD_getElem?,getElem?_mirror_all (by rw[h.size];exact hm),if_pos ⟨bu _,Nat.lt_succ_of_le hk⟩,Nat.zero_add,Nat.add_sub_cancel,Array.getD_eq_getD_getElem?]
theorem GO(h:IsP N p){k d:Nat}(hk:k<N)(hd:d≤k)(i:Nat):gA (bubble p k d) i=if i=k-d then gA p k else if k-d<i∧i≤k then gA p (i-1) else gA p i:=by
 unfold gA
 rw[Array.getD_eq_getD_getElem?,getElem?_bubble (by rw[h.size];exact hk) d hd,apply_ite (Option.getD · 0),apply_ite (Option.getD · 0),Array.getD_eq_getD_getElem?,Array.getD_eq_getD_getElem?,Array.getD_eq_getD_getElem?]
theorem Ea{n:Nat}(h:Asc L p (n+1))(e:L (gA p n) (gA p (n+1))=true):Asc L p (n+2):=λi hi=>(Nat.lt_succ_iff_lt_or_eq.mp (Nat.lt_of_succ_lt_succ hi)).elim (λq=>h i (Nat.succ_lt_succ q)) λq=>q▸e
theorem tT(T:Lt N L){m:Nat}(h:Asc L p m){i:Nat}:∀{d:Nat},i+d+1<m→L (gA p i) (gA p (i+d+1))=true
 | 0,hd=>h i hd
 | d+1,hd=>T.tr (tT T h (Nat.lt_of_succ_lt hd)) (h _ hd)
theorem rU(T:Lt N L){m:Nat}(h:Asc L p m){i j:Nat}(hij:i<j)(hj:j<m):L (gA p i) (gA p j)=true:=by
 obtain⟨d,rfl⟩:=Nat.exists_eq_add_of_lt hij
 exact tT T h hj
theorem n4{n f:Nat}(h:n+1+(f+1)=N):n+1<N:=h▸Nat.lt_add_of_pos_right (Nat.succ_pos f)
theorem vI(T:Lt N L)(H:qH cmp s L N)(hp:IsP N p){Q:Nat→Shared→Prop}:∀f n,n+1+f=N→Asc L p (n+1)→(∀m,m+1≤N→Asc L p (m+1)→(m+1<N→L (gA p (m+1)) (gA p m)=true)→Q (m+1) s)→(kas_asc p f (n+1)).kasWp cmp Q s
 | 0,n,h1,ha,q=>q n (aZ h1) ha λh=>absurd (h1▸h) (Nat.lt_irrefl _)
 | f+1,n,h1,ha,q=>by
  have hn:=n4 h1
  show cmp (gA p (n+1)) (gA p n) _ s
  refine H _ _ _ (hp.at hn) (hp.at (Nat.lt_of_succ_lt hn)) ?_
  cases hL:L (gA p (n+1)) (gA p n) with
  | true=>exact q n (bh hn) ha λ_=>hL
  | false=>exact vI T H hp f (n+1) ((Nat.succ_add (n+1) f).trans h1) (Ea ha (T.tot (hp.at hn) (hp.at (Nat.lt_of_succ_lt hn)) (hp.inj hn (Nat.lt_of_succ_lt hn) (Nat.succ_ne_self _)) hL)) q
theorem wW(T:Lt N L)(H:qH cmp s L N)(hp:IsP N p){Q:Array Nat×Nat×Nat→Shared→Prop}:∀f n,n+1+f=N→Dsc L p (n+1)→(∀m,m+1≤N→Dsc L p (m+1)→Q (p,m+1,0) s)→(kas_desc f p (n+1) 0).kasWp cmp Q s
 | 0,n,h1,hd,q=>q n (aZ h1) hd
 | f+1,n,h1,hd,q=>by
  have hn:=n4 h1
  have hn':=Nat.lt_of_succ_lt hn
  show cmp (gA p (n+1)) (gA p n) _ s
  refine H _ _ _ (hp.at hn) (hp.at hn') ?_
  cases hL:L (gA p (n+1)) (gA p n) with
  | true=>exact wW T H hp f (n+1) ((Nat.succ_add (n+1) f).trans h1) (λi hi=>(Nat.lt_succ_iff_lt_or_eq.mp (Nat.lt_of_succ_lt_succ hi)).elim (λq=>hd i (Nat.succ_lt_succ q)) λq=>q▸hL) q
  | false =>
   show cmp (gA p n) (gA p (n+1)) _ s
   refine H _ _ _ (hp.at hn') (hp.at hn) ?_
   rw[T.tot (hp.at hn) (hp.at hn') (hp.inj hn hn' (Nat.succ_ne_self _)) hL]
   exact q n (bh hn) hd
theorem Cw(hp:IsP N p){n:Nat}(hn:n+1≤N)(hd:Dsc L p (n+1)):Asc L (kas_rev p 0 (n+1)) (n+1):=λi hi=>by
 have hi':i+1≤n:=Nat.le_of_lt_succ hi
 rw[zr hp hn (bf hi'),zr hp hn hi']
 obtain⟨d,rfl⟩:=Nat.exists_eq_add_of_le hi'
 rw[Nat.add_sub_cancel_left,bo,Nat.add_sub_cancel_left,bn 1 d]
 exact hd d (Nat.succ_lt_succ (Nat.lt_add_of_pos_left (Nat.succ_pos i)))
theorem BD(T:Lt (N+1) L)(H:qH cmp s L (N+1))(hp:IsP (N+1) p){Q:Nat×Array Nat→Shared→Prop}(q:∀m p',m+1≤N+1→IsP (N+1) p'→Asc L p' (m+1)→Q (m+1,p') s):(kas_count (N+1) p).kasWp cmp Q s:=by
 unfold kas_count
 rw[KasT.kasWp_bind]
 refine vI T H hp N 0 (bn _ _) (λi hi=>absurd (Nat.lt_of_succ_lt_succ hi) (Nat.not_lt_zero _)) λm h1 h2 h3=> ?_
 by_cases e:(m+1==N+1)=true
 ·rw[if_pos e];exact q m p h1 hp h2
 ·rw[if_neg e]
  have hlt:m+1<N+1:=Nat.lt_of_le_of_ne h1 λz=>e (bF.mpr z)
  cases m with
  | succ k =>
   show cmp (gA p 0) (gA p (k+1)) _ s
   refine H _ _ _ (hp.at (Nat.succ_pos _)) (hp.at (Nat.lt_of_succ_lt hlt)) ?_
   rw[rU T h2 (Nat.succ_pos k) (Nat.lt_succ_self _)]
   exact q _ p h1 hp h2
  | zero =>
   show(kas_descPart 1 (N+1) p).kasWp cmp Q s
   unfold kas_descPart
   rw[KasT.kasWp_bind]
   obtain⟨d,rfl⟩:∃d,N=d+1:=Nat.exists_eq_succ_of_ne_zero λz=>absurd (z▸hlt) (Nat.lt_irrefl _)
   refine wW T H hp d 1 (bn _ _) (λi hi=>(Nat.lt_one_iff.mp (Nat.lt_of_succ_lt_succ hi))▸h3 hlt) λm h4 h5=> ?_
   show(kas_tail3 (m+1) (d+1+1) p).kasWp cmp Q s
   unfold kas_tail3
   rw[KasT.kasWp_bind]
   exact vI T H ((mirror_perm _ _ _ _).trans hp) _ m (Nat.add_sub_cancel' h4) (Cw hp h4 h5) λk h6 h7 _=>q k _ h6 ((mirror_perm _ _ _ _).trans hp) h7
theorem nA(T:Lt N L)(H:qH cmp s L N)(hp:IsP N p){k:Nat}(hk:k<N)(ha:Asc L p k){Q:Nat→Shared→Prop}(q:∀l,l≤k→(∀i,i<l→L (gA p i) (gA p k)=true)→(∀i,l≤i→i<k→L (gA p k) (gA p i)=true)→Q l s):∀f l u,u≤l+f→l≤u→u≤k→
  (∀i,i<l→L (gA p i) (gA p k)=true)→(∀i,u≤i→i<k→L (gA p k) (gA p i)=true)→(kas_place p k f l u).kasWp cmp Q s
 | 0,l,u,h1,h2,h3,h4,h5=>q l (ae h2 h3) h4 λi hi=>h5 i (ae h1 hi)
 | f+1,l,u,h1,h2,h3,h4,h5=>by
  unfold kas_place
  by_cases hlu:l≥u
  ·rw[if_pos hlu]
   exact q l (ae h2 h3) h4 λi hi=>h5 i (ae hlu hi)
  ·rw[if_neg hlu]
   obtain⟨m1,m2,m3,m4⟩:l≤(l+u)/2∧(l+u)/2<u∧(l+u)/2≤l+f∧u≤(l+u)/2+1+f:=by lia
   have mk:=be m2 h3
   generalize(l+u)/2=m at m1 m2 m3 m4 mk⊢
   have hm:=Nat.lt_trans mk hk
   refine H _ _ _ (hp.at hk) (hp.at hm) ?_
   cases hL:L (gA p k) (gA p m) with
   | true=>exact nA T H hp hk ha q f l m m3 m1 (bh mk) h4 λi hi hik=>(Nat.eq_or_lt_of_le hi).elim (λe=>e▸hL) λe=>T.tr hL (rU T ha e hik)
   | false =>
    have hL':=T.tot (hp.at hk) (hp.at hm) (hp.inj hk hm (Nat.ne_of_gt mk)) hL
    exact nA T H hp hk ha q f (m+1) u m4 m2 h3 (λi hi=>(Nat.lt_succ_iff_lt_or_eq.mp hi).elim (λe=>T.tr (rU T ha e mk) hL') λe=>e▸hL') h5
theorem BR(T:Lt N L)(H:qH cmp s L N){Q:Array Nat→Shared→Prop}(q:∀p',IsP N p'→Asc L p' N→Q p' s):∀f p k,IsP N p→k+f=N→Asc L p k→(kas_bin f p k).kasWp cmp Q s
 | 0,p,k,hp,h2,ha=>q p hp (h2▸ha)
 | f+1,p,k,hp,h2,ha=>by
  unfold kas_bin
  rw[KasT.kasWp_bind]
  have hk:k<N:=h2▸Nat.lt_add_of_pos_right (Nat.succ_pos f)
  refine nA T H hp hk ha (λl hl h3 h4=> ?_) k 0 k (aZ (Nat.zero_add _).symm) (bu _) (aD _) (λi hi=>absurd hi (Nat.not_lt_zero _)) (λi hi hi'=>absurd (ax hi hi') (Nat.lt_irrefl _))
  refine BR T H q f _ (k+1) ((bubble_perm _ _ _).trans hp) ((Nat.succ_add k f).trans h2) λi hi=> ?_
  have e:∀i,gA (bubble p k (k-l)) i=if i=l then gA p k else if l<i∧i≤k then gA p (i-1) else gA p i:=λi=>by rw[GO hp hk (Nat.sub_le _ _),Nat.sub_sub_self hl]
  have hik:i<k:=Nat.lt_of_succ_lt_succ hi
  rw[e,e]
  rcases Nat.lt_trichotomy i l with h|h|h
  ·rw[if_neg (Nat.ne_of_lt h),if_neg λz=>absurd (Nat.lt_trans z.1 h) (Nat.lt_irrefl _)]
   by_cases h':i+1=l
   ·rw[if_pos h'];exact h3 i h
   ·rw[if_neg h',if_neg λz=>absurd (be z.1 h) (Nat.lt_irrefl _)]
    exact ha i (be (Nat.lt_of_le_of_ne h h') hl)
  ·rw[if_pos h,if_neg (h▸Nat.succ_ne_self _),if_pos ⟨h▸Nat.lt_succ_self _,hik⟩]
   exact h4 i (h▸aD _) hik
  ·rw[if_neg (Nat.ne_of_gt h),if_pos ⟨h,bh hik⟩,if_neg (Nat.ne_of_gt (Nat.lt_succ_of_lt h)),if_pos ⟨Nat.lt_succ_of_lt h,hik⟩]
   obtain⟨d,rfl⟩:∃d,i=d+1:=Nat.exists_eq_succ_of_ne_zero λz=>absurd (z▸h) (Nat.not_lt_zero _)
   exact ha d hik
theorem Cm(T:Lt (N+1) L)(H:qH cmp s L (N+1)){Q:Array Nat→Shared→Prop}(q:∀p',IsP (N+1) p'→Asc L p' (N+1)→Q p' s):(kas_sort (N+1)).kasWp cmp Q s:=by
 unfold kas_sort
 rw[KasT.kasWp_bind]
 refine BD T H (Array.Perm.refl _) λm p' a1 a2 a3=> ?_
 show(if m+1<N+1 then kas_bin (N+1-max (m+1) 1) p' (max (m+1) 1) else .ret p').kasWp cmp Q s
 rw[Nat.max_eq_left (aA (bu m))]
 by_cases h:m+1<N+1
 ·rw[if_pos h]
  exact BR T H q _ p' (m+1) a2 (Nat.add_sub_cancel' a1) a3
 ·rw[if_neg h]
  exact q p' a2 (Nat.le_antisymm a1 (Nat.not_lt.mp h)▸a3)
end
theorem cv{a b:Int×Int}:leP a b=true↔a.1<b.1∨(a.1=b.1∧a.2≤b.2):=by
 unfold leP
 rw[Bool.or_eq_true_iff,ar,decide_eq_true_iff,decide_eq_true_iff,decide_eq_true_iff]
theorem nF{b:Bool}(h:b=false):¬b=true:=λe=>ft (h.symm.trans e)
theorem yM:Tot leP where
 tot {a b} h:=cv.mpr ((Int.lt_trichotomy a.1 b.1).elim (λk=>absurd (cv.mpr (.inl k)) (nF h)) λk=>k.elim (λk=> .inr ⟨k.symm,Int.le_of_lt (Int.not_le.mp λz=>nF h (cv.mpr (.inr ⟨k,z⟩)))⟩) .inl)
 tr {a b c} h k:=cv.mpr ((cv.mp h).elim (λh=>(cv.mp k).elim (λk=> .inl (Int.lt_trans h k)) λk=> .inl (k.1▸h)) λh=>(cv.mp k).elim (λk=> .inl (h.1▸k)) λk=> .inr ⟨h.1.trans k.1,ak h.2 k.2⟩)
 anti {a b} h k:=(cv.mp h).elim (λh=>(cv.mp k).elim (λk=>absurd (Int.lt_trans h k) (aS _)) λk=>absurd (k.1▸h) (aS _)) λh=>(cv.mp k).elim (λk=>absurd (h.1▸k) (aS _)) λk=>Prod.ext h.1 (Int.le_antisymm h.2 k.2)
noncomputable def ltP(a b:Int×Int):Bool:= !leP b a
theorem Am{a b:Int×Int}(h:ltP a b=true):leP a b=true:=yM.tot (Bool.not_eq_true' _▸h:leP b a=false)
theorem F8{a b c:Int×Int}(h:ltP a b=true)(k:ltP b c=true):ltP a c=true:=by
 unfold ltP
 cases e:leP c a with
 | false=>rfl
 | true=>exact absurd (yM.tr e (Am h)) (nF (Bool.not_eq_true' _▸k:leP c b=false))
theorem Db{a b:Int×Int}(hne:a≠b)(h:ltP a b=false):ltP b a=true:=by
 have hb:leP b a=true:=(Bool.not_eq_false' _▸h:leP b a=true)
 unfold ltP
 cases e:leP a b with
 | false=>rfl
 | true=>exact absurd (yM.anti e hb) hne
theorem uU{a b:Int×Int}{t:Bool}(h:t=true↔¬(b.1<a.1∨(b.1=a.1∧b.2≤a.2))):ltP a b=t :=
 Bool.eq_iff_iff.mpr (by rw[h,←cv];unfold ltP;rw[Bool.not_eq_true',Bool.not_eq_true])
noncomputable def rY(h:Heap)(v:Value)(p:Int×Int):Prop:=∃d t u,v= .ref d∧h.get? d=some {cls:= .type "tuple",data:= .seq #[.int p.1 t,.int p.2 u]}
section
variable{A:Around}{s:Shared}{W:Wd}
theorem CE{x y:Value}{p q:Int×Int}{Q:Bool→Shared→Prop}(hx:rY s.heap x p)(hy:rY s.heap y q)(h:Q (ltP p q) s):wpAny M A (keyLt' (tuples' true) x y) Q (λ_ _=>False) s:=by
 obtain⟨d,t,u,rfl,hd⟩:=hx
 obtain⟨e,t',u',rfl,he⟩:=hy
 refine kat_lt hd rfl he rfl ?_
 show KatLex zp zw A true _ Q [(.int p.1 t,.int q.1 t'),(.int p.2 u,.int q.2 u')] 0 s
 refine kat_cons (wpAny_eqBool_int ?_)
 by_cases h1:p.1=q.1
 ·rw[bF.mpr h1]
  refine kat_yes (kat_cons (wpAny_eqBool_int ?_))
  by_cases h2:p.2=q.2
  ·rw[bF.mpr h2]
   rw[uU (t:=false) ⟨λz=>ft z,λz=>absurd (.inr ⟨h1.symm,Int.le_of_eq h2.symm⟩) z⟩] at h
   exact kat_yes (kat_nil h)
  ·rw[beq_eq_false_iff_ne.mpr h2]
   refine kat_no (kat_one _ _ (PyProof.Rows.lt_int ?_))
   exact uU (t:=decide (p.2<q.2)) ⟨λz k=>k.elim (λk=>absurd (h1▸k) (aS _)) λk=>absurd (aG (bA z) k.2) (aS _),λz=>bB (Int.not_le.mp λk=>z (.inr ⟨h1.symm,k⟩))⟩▸h
 ·rw[beq_eq_false_iff_ne.mpr h1]
  refine kat_no (oneLt_int ?_)
  exact uU (t:=decide (p.1<q.1)) ⟨λz k=>k.elim (λk=>absurd (Int.lt_trans (bA z) k) (aS _)) λk=>h1 k.1.symm,λz=>bB (Int.not_le.mp λk=>z ((Int.lt_or_eq_of_le k).imp_right λe=>absurd e.symm h1))⟩▸h
theorem xB{h:Heap}{vs:List Value}{ps:List (Int×Int)}(r:All2 (rY h) vs ps):∃fs,KatTups h vs fs∧fs.length=vs.length∧∀v∈fs,∃i t,v=Value.int i t:=by
 induction r with
 | nil=>exact⟨[],trivial,rfl,aj _⟩
 | cons h1 _ ih =>
  obtain⟨d,t,u,rfl,hd⟩:=h1
  obtain⟨fs,k,hl,hv⟩:=ih
  exact⟨_::fs,KatTups.cons hd rfl rfl rfl k,congrArg Nat.succ hl,ao.mpr ⟨⟨_,_,rfl⟩,hv⟩⟩
theorem zM{h:Heap}(hT:∀t∈W.tups,h.get? t.1=some (tpl t.2)){ps:List (Int×Int)}:∀{vs:List Value},VRs W (ps.map bX) vs→All2 (rY h) vs ps:=by
 induction ps with
 | nil=>exact λr=>r.nE▸ .nil
 | cons p ps ih=>exact λr=>r.cE λv vs e h1 h2=>e▸ .cons (h1.tupE λd items e hm hr _=>hr.e2 λa b e' ⟨t,ea⟩ ⟨u,eb⟩=>⟨d,t,u,e,by rw[hT _ hm,e',ea,eb]⟩) (ih h2)
theorem i7{α:Type}{l:List α}{d:α}{i:Nat}(h:i<l.length):l.getD i d=l[i]:=by rw[List.getD_eq_getElem?_getD,aW h];rfl
theorem All2.getD{α β:Type}{R:α→β→Prop}{a0:α}{b0:β}{as:List α}{bs:List β}(r:All2 R as bs){i:Nat}(hi:i<as.length):R (as.getD i a0) (bs.getD i b0):=by
 obtain⟨y,hy,h⟩:=r.at (aW hi)
 rw[i7 hi,List.getD_eq_getElem?_getD,hy];exact h
theorem getmap{α:Type}{d:α}(l:List α):(List.range l.length).map (λi=>l.getD i d)=l :=
 List.ext_getElem (by rw[ah,List.length_range]) λi h1 h2=>by rw[List.getElem_map,List.getElem_range,i7 h2]
theorem picked{R:V→Value→Prop}{xs:List V}{vs:List Value}(r:All2 R xs vs){q:List Nat}(hq:∀i∈q,i<xs.length):All2 R (q.map λi=>xs.getD i .none) (q.map λi=>vs.getD i Value.none):=by
 induction q with
 | nil=>exact .nil
 | cons i q ih=>obtain⟨h1,h2⟩:=ao.mp hq;exact .cons (r.getD h1) (ih h2)
theorem uj{ps:List (Int×Int)}{p:Array Nat}(hn:ps.Nodup)(hp:IsP ps.length p)(ha:Asc (λi j=>ltP (ps.getD i (0,0)) (ps.getD j (0,0))) p ps.length)(T:Lt ps.length λi j=>ltP (ps.getD i (0,0)) (ps.getD j (0,0))) :
  p.toList.map (λi=>(ps.map bX).getD i .none)=(b5 leP ps).map bX:=by
 have hpl:p.toList.Perm (List.range ps.length):=Array.perm_iff_toList_perm.mp hp
 have hlt:∀i∈p.toList,i<ps.length:=λi hi=>List.mem_range.mp (hpl.mem_iff.mp hi)
 have e:p.toList.map (λi=>ps.getD i (0,0))=b5 leP ps:=by
  refine lX yM (Eq.subst (motive:=λl=>(p.toList.map λi=>ps.getD i (0,0)).Perm l) (getmap ps) (hpl.map _)) ?_
  rw[List.pairwise_map,List.pairwise_iff_getElem]
  intro i j hi hj hij
  have hj':j<p.size:=hj
  have:=rU T ha hij (hp.size▸hj')
  rw[ow hj',ow (Nat.lt_trans hij hj')] at this
  exact Am this
 rw[←e,aY]
 exact List.map_congr_left λi hi=>by
  rw[i7 (by rw[ah];exact hlt i hi),List.getElem_map]
  exact congrArg bX (i7 (hlt i hi)).symm
theorem ltL{ps:List (Int×Int)}(hn:ps.Nodup):Lt ps.length λi j=>ltP (ps.getD i (0,0)) (ps.getD j (0,0)) where
 tot {i j} hi hj hne h:=Db (by
  rw[i7 hi,i7 hj]
  exact λe=>hne ((List.getElem?_inj hi hn).mp (by rw[aW hi,aW hj,e]))) h
 tr h k:=F8 h k
theorem lR{a:Addr}{vs:List Value}{ps:List (Int×Int)}{n:Nat}{P:PySem.Fin→Shared→Prop}(hT:∀t∈W.tups,s.heap.get? t.1=some (tpl t.2))(ho:s.heap.get? a=some (seqObj "list" vs.toArray n))(rs:VRs W (ps.map bX) vs)(hn:ps.Nodup)(h64:ps.length<64)
  (h:∀os:List Value,VRs W ((b5 leP ps).map bX) os→P (.done (.ret .none)) {s with heap:=sortedHeap s.heap a vs os.toArray}):wpAny M A (Builtin.«list.sort» ⟨[.ref a],[]⟩) P Ex s:=by
 have ha:a<s.heap.objs.size:=Heap.lt_size ho
 have hps:vs.length=ps.length:=rs.length.symm.trans (ah ..)
 have hz:∀{l:List Value},l.length=ps.length→l.toArray.size≤sizeLine:=λ{l} e=>by
  rw[List.size_toArray,e];exact cu (ae (bh h64) (by decide))
 obtain⟨e1,ho1⟩:∃e1,(s.heap.update a (Obj.mapSeq λ_=>(#[]:Array Value))).get? a=some (seqObj "list" #[] e1):=⟨_,get?_update_seq ho λ_=> #[]⟩
 have keep:∀{b o},s.heap.get? b=some o→b≠a→(((s.heap.update a (Obj.mapSeq λ_=> #[])).push (seqObj "tuple" vs.toArray 0)).push (seqObj "list" #[] 0)).get? b=some o:=λe hb=>aT _ (aT _ ((Heap.get?_update_ne _ _ _ _ hb).trans e))
 have ho6:(((s.heap.update a (Obj.mapSeq λ_=> #[])).push (seqObj "tuple" vs.toArray 0)).push (seqObj "list" #[] 0)).get? a=some (seqObj "list" #[] e1):=aT _ (aT _ ho1)
 have hI6:=zM (h:=((s.heap.update a (Obj.mapSeq λ_=> #[])).push (seqObj "tuple" vs.toArray 0)).push (seqObj "list" #[] 0)) (λt ht=>keep (hT t ht) λz=>by
  have:=(hT t ht).symm.trans (z▸ho)
  exact jq (s:= "list") rfl (congrArg Obj.cls (Option.some.inj this)).symm) rs
 rw[list_sort_plain]
 refine wpAny_bind (listItems_at ho rfl ?_)
 refine wpAny_bind (listUpdate_at ho rfl ?_ (hz hps) (bu _))
 refine wpAny_bind (seqEpoch_at ho1 rfl ?_)
 refine wpAny_bind (wpAny_newTuple ?_ (hz hps))
 refine wpAny_bind (wpAny_newList ?_ (bu _))
 refine wpAny_holding ?_
 show wpAny M A _ P Ex {s with heap:=((s.heap.update a (Obj.mapSeq λ_=>(#[]:Array Value))).push (seqObj "tuple" vs.toArray 0)).push (seqObj "list" #[] 0)}
 dsimp only
 by_cases h2:vs.toArray.size<2
 ·rw[if_pos h2,if_pos h2]
  refine wpAny_bind (wpAny_pure ?_)
  rw[StateT.run_pure]
  refine wpAny_bind (wpAny_pure (wpAny_bind (seqEpoch_at ho6 rfl ?_)))
  have hmm:(arrOf (SortSt.mk' general' (vs.toArray.zip vs.toArray) #[] 7 none)).map (·.2)=vs.toArray:=by
   show(vs.toArray.zip vs.toArray).map (·.2)=vs.toArray
   apply Array.toList_inj.mp
   rw[Array.toList_map,Array.toList_zip]
   exact List.map_snd_zip (aD _)
  rw[hmm]
  refine wpAny_bind (listUpdate_at ho6 rfl ?_ (bu _) (aV (hz hps)))
  refine i9 (λz=>ft ((bne_self_eq_false _).symm.trans z)) (wpAny_pure (h vs ?_))
  have e:b5 leP ps=ps:=by
   cases ps with
   | nil=>rfl
   | cons p ps=>cases ps with
    | nil=>rfl
    | cons p' ps=>exact absurd (Eq.subst (motive:=(·<2)) hps h2:ps.length+2<2) (Nat.not_lt.mpr (bk _ _))
  rw[e];exact rs
 ·rw[if_neg h2,if_neg h2]
  have h2:2≤vs.length:=Nat.not_lt.mp h2
  obtain⟨fs,kt,hfl,hfs⟩:=xB hI6
  refine wpAny_bind (kat_kind (T:= .type "int") kt (hfl▸be Nat.two_pos h2) (λv hv=>by obtain⟨i,t,rfl⟩:=hfs v hv;exact Looks.of_pure rfl) rfl ?_)
  refine wpAny_bind (wpAny_mono (kat_run (ks:=vs) (Q:=λst' s'=>∃p:Array Nat,arrOf st'=p.map (kas_item (vs.toArray.zip vs.toArray))∧failedOf st'=none∧(IsP ps.length p∧Asc (λi j=>ltP (ps.getD i (0,0)) (ps.getD j (0,0))) p ps.length)∧s'={s with heap:=((s.heap.update a (Obj.mapSeq λ_=>(#[]:Array Value))).push (seqObj "tuple" vs.toArray 0)).push (seqObj "list" #[] 0)})
   (G:=λp s'=>(IsP ps.length p∧Asc (λi j=>ltP (ps.getD i (0,0)) (ps.getD j (0,0))) p ps.length)∧s'={s with heap:=((s.heap.update a (Obj.mapSeq λ_=>(#[]:Array Value))).push (seqObj "tuple" vs.toArray 0)).push (seqObj "list" #[] 0)}) rfl h2 (hps▸h64) (λp st' s' _ a2 a3 a4=>⟨p,a2,a3,a4⟩) ?_) ?_ λ_ _ e=>e)
  ·obtain⟨N,hN⟩:∃N,ps.length=N+1:=Nat.exists_eq_succ_of_ne_zero λz=>absurd (hps.trans z▸h2:2≤0) (Nat.not_succ_le_zero _)
   have T:=ltL hn
   rw[hps]
   rw[hN] at T⊢
   refine Cm T (λi j C hi hj hC=> ?_) λp' hp' ha'=>⟨⟨hp',ha'⟩,rfl⟩
   unfold kas_ask
   exact CE (hI6.getD (b0:=(0,0)) (by rw[hps,hN];exact hi)) (hI6.getD (b0:=(0,0)) (by rw[hps,hN];exact hj)) hC
  ·rintro ⟨⟨⟩,st'⟩ s' ⟨p,har,hf,⟨hP,hA⟩,rfl⟩
   dsimp only at har hf⊢
   refine wpAny_bind (seqEpoch_at ho6 rfl ?_)
   rw[kat_snds (ks:=vs) (vs:=vs) rfl har]
   refine wpAny_bind (listUpdate_at ho6 rfl ?_ (bu _) (aV (hz ((ah ..).trans hP.size))))
   rw[hf]
   refine i9 (λz=>ft ((bne_self_eq_false _).symm.trans z)) (wpAny_pure (h (p.toList.map λi=>vs.getD i Value.none) ?_))
   rw[←uj hn hP hA (ltL hn)]
   exact picked rs λi hi=>by rw[ah];exact List.mem_range.mp ((Array.perm_iff_toList_perm.mp hP).mem_iff.mp hi)
end
noncomputable def lj(h:Heap)(d:Addr)(es:Array DictEntry)(ep:Nat):Prop:=∃o,h.get? d=some o∧o.ExactDict∧o.data= .dict es ep
theorem lj.at{h h':Heap}{d:Addr}{es:Array DictEntry}{ep:Nat}(x:lj h d es ep)(k:∀o,h.get? d=some o→h'.get? d=some o):lj h' d es ep:=let⟨o,ho,r⟩:=x;⟨o,k o ho,r⟩
theorem lj.typeIs{s:Shared}{d:Addr}{es:Array DictEntry}{ep:Nat}(x:lj s.heap d es ep):s.TypeIs (.ref d) "dict" :=let⟨o,ho,hc,_⟩:=x;⟨o,ho,hc.1⟩
theorem lj.lt{h:Heap}{d:Addr}{es:Array DictEntry}{ep:Nat}(x:lj h d es ep):d<h.objs.size:=let⟨_,ho,_⟩:=x;Heap.lt_size ho
section
variable{A:Around}{E:Value→Shared→Prop}{s:Shared}
theorem xV{d:Addr}{es:Array DictEntry}{ep:Nat}{Q:Value→Shared→Prop}(hd:(d==sysModules)=false)(hm:lj s.heap d es ep)
  (hQ:Q (.ref s.heap.objs.size) {s with heap:=s.heap.push {cls:= .type "dict_keyiterator",data:= .fields #[.ref d,.int 0 0,.int es.size 0,.int ep 0]}}) :
  wpAny M A (pyIter (.ref d)) Q E s:=by
 obtain⟨o,ho,hc,hdat⟩:=id hm
 have hT:s.TypeIs (.ref d) "dict" :=hm.typeIs
 refine wpAny_pyIter_slot hT PySem.F.slot_dict_iter (wpAny_call_entry PySem.F.slot_dict_iter hT PySem.F.entry_dict_iter ?_ (PySem.F.args_dict_iter_1 _))
 unfold Builtin.«dict.__iter__»
 refine wpAny_bind ?_
 unfold Builtin.Dict.dictSlotNone
 refine wpAny_bind (wpAny_notOrdered_dict hT ?_)
 show wpAny _ _ (pure (Value.ref d)) _ _ s
 refine wpAny_pure ?_
 show wpAny _ _ (Builtin.Dict.showsAll d>>=_) _ _ s
 unfold Builtin.Dict.showsAll
 rw[if_neg (by rw[hd];exact Bool.false_ne_true)]
 refine wpAny_bind (wpAny_pure ?_)
 refine wpAny_bind (wpAny_dictEntries ho hdat (wpAny_bind (wpAny_dictEpoch ho hdat ?_)))
 exact wpAny_bind (wpAny_newObj_type (wpAny_pure ⟨_,rfl, "dict_keyiterator",_,⟨_,aN _ rfl,rfl⟩,PySem.F.slot_dict_keyiterator_next.lookup,hQ⟩))
theorem xI{it d:Addr}{i ep:Nat}{es:Array DictEntry}{e:DictEntry}{Q:Option Value→Shared→Prop}(hit:s.heap.IsKeyIter it d i es.size ep)(hm:lj s.heap d es ep)(hx:es[i]? =some e)
  (hQ:∀h',h'.IsKeyIter it d (i+1) es.size ep→Heap.SameBut it s.heap h'→Q (some e.key) {s with heap:=h'}):wpAny M A (pyNext (.ref it)) Q E s:=by
 obtain⟨o,ho,hc,hd⟩:=id hit
 obtain⟨od,hod,hcd,hdd⟩:=id hm
 unfold pyNext
 refine wpAny_bind (wpAny_attempt (wpAny_callSpecial?_slot (name:=Str.ofString "__next__") hit.typeIs PySem.F.slot_dict_keyiterator_next
  (wpAny_call_entry PySem.F.slot_dict_keyiterator_next hit.typeIs PySem.F.entry_dict_keyiterator_next ?_ (PySem.F.args_dict_keyiterator_next_1 _))))
 refine wpAny_bind (wpAny_pure (wpAny_bind (wpAny_bind ?_)))
 first|refine wpAny_bind (wpAny_typeNameOfWhole_keyiter hit.typeIs (wpAny_pure ?_))|refine wpAny_bind (wpAny_typeNameOf_keyiter hit.typeIs (wpAny_pure ?_))
 refine wpAny_bind (wpAny_fieldsOf ho hd ?_)
 refine i9 (λz=>ft z) ?_
 refine wpAny_bind (wpAny_pure (wpAny_bind (wpAny_dictEntries hod hdd ?_)))
 rw[if_neg (by simp)]
 refine wpAny_bind (wpAny_pure (wpAny_bind (wpAny_dictEpoch hod hdd ?_)))
 rw[if_neg (by simp)]
 refine wpAny_pure ?_
 dsimp only
 rw[if_neg (bx.mpr (aC i)),bg,hx]
 refine wpAny_bind ?_
 first|refine wpAny_bind (wpAny_typeNameOfWhole_keyiter hit.typeIs (wpAny_pure ?_))|refine wpAny_bind (wpAny_typeNameOf_keyiter hit.typeIs (wpAny_pure ?_))
 refine wpAny_bind (wpAny_isOneOf_keyiter hit.typeIs ?_)
 show wpAny _ _ (PySem.setField (.ref it) 1 (rawInt ((i:Int)+1))>>=_) _ _ s
 refine wpAny_bind (wpAny_setField ho hd (by simp) ?_)
 have hit':(s.heap.update it (Obj.mapFields (·.setIfInBounds 1 (rawInt ((i:Int)+1))))).IsKeyIter it d (i+1) es.size ep :=
  ⟨_,Heap.get?_update_self _ ho (Obj.isFreed_of_fields (Obj.data_mapFields hd _)),(Obj.cls_mapFields ..).trans hc,by rw[Obj.data_mapFields hd];simp [rawInt]⟩
 refine wpAny_bind (wpAny_holding ?_)
 refine wpAny_bind (wpAny_isOneOf_keyiter (s:={s with heap:=s.heap.update it (Obj.mapFields (·.setIfInBounds 1 (rawInt ((i:Int)+1))))}) hit'.typeIs ?_)
 show wpAny _ _ (pure e.key) _ _ _
 exact wpAny_pure (wpAny_pure ⟨_,rfl,wpAny_pure (hQ _ hit' (Heap.SameBut.update ..))⟩)
theorem Bi{it d:Addr}{i ep:Nat}{es:Array DictEntry}{Q:Option Value→Shared→Prop}(hh:A.handled=none)(hit:s.heap.IsKeyIter it d i es.size ep)(hm:lj s.heap d es ep)(hx:es[i]? =none)
  (hQ:∀h',Heap.ExtBut it s.heap h'→Q none {s with heap:=h'}):wpAny M A (pyNext (.ref it)) Q E s:=by
 obtain⟨o,ho,hc,hd⟩:=id hit
 obtain⟨od,hod,hcd,hdd⟩:=id hm
 unfold pyNext
 refine wpAny_bind (wpAny_attempt (wpAny_callSpecial?_slot (name:=Str.ofString "__next__") hit.typeIs PySem.F.slot_dict_keyiterator_next
  (wpAny_call_entry PySem.F.slot_dict_keyiterator_next hit.typeIs PySem.F.entry_dict_keyiterator_next ?_ (PySem.F.args_dict_keyiterator_next_1 _))))
 refine wpAny_bind (wpAny_pure (wpAny_bind (wpAny_bind ?_)))
 first|refine wpAny_bind (wpAny_typeNameOfWhole_keyiter hit.typeIs (wpAny_pure ?_))|refine wpAny_bind (wpAny_typeNameOf_keyiter hit.typeIs (wpAny_pure ?_))
 refine wpAny_bind (wpAny_fieldsOf ho hd ?_)
 refine i9 (λz=>ft z) ?_
 refine wpAny_bind (wpAny_pure (wpAny_bind (wpAny_dictEntries hod hdd ?_)))
 rw[if_neg (by simp)]
 refine wpAny_bind (wpAny_pure (wpAny_bind (wpAny_dictEpoch hod hdd ?_)))
 rw[if_neg (by simp)]
 refine wpAny_pure ?_
 dsimp only
 rw[if_neg (bx.mpr (aC i)),bg,hx]
 refine wpAny_bind ?_
 first|refine wpAny_bind (wpAny_typeNameOfWhole_keyiter hit.typeIs (wpAny_pure ?_))|refine wpAny_bind (wpAny_typeNameOf_keyiter hit.typeIs (wpAny_pure ?_))
 show wpAny _ _ (PySem.setField (.ref it) 0 .none>>=_) _ _ s
 refine wpAny_bind (wpAny_setField ho hd (by simp) ?_)
 show wpAny _ _ (newExc (.type "StopIteration") []>>=_) _ _ _
 refine wpAny_bind ?_
 simp only[newExc,newTuple]
 refine wpAny_bind (wpAny_newObj_type ?_ (by size_fits))
 refine wpAny_bind (m:=firstArgMember _ _) (wpAny_of_eq (a:=Value.none) (by first|rfl|(simp only[firstArgMember];rfl)) ?_)
 refine wpAny_newObj_type ?_ (by size_fits)
 simp only[raiseNew]
 refine wpAny_bind (wpAny_handled ?_)
 rw[show A.in1.handled=none from hh]
 refine wpAny_bind (wpAny_pure (wpAny_throw ?_))
 refine wpAny_bind (wpAny_isInstance (T:= "StopIteration") (b:=true) ⟨_,aN _ rfl,rfl⟩ isSubtype_stop ?_)
 exact wpAny_pure (hQ _ (((Heap.SameBut.update ..).extBut.push _).push _))
theorem t9(hh:A.handled=none)(I d:Addr)(hne:d≠I)(es:Array DictEntry)(ep:Nat) :
  Walks zp zw A I [I,d] [I] es.size (λi v=>∃e,es[i]? =some e∧v=e.key) (λi h=>h.IsKeyIter I d i es.size ep∧lj h d es ep) where
 sub:=λb hb=>by simp at hb;simp [hb]
 frame:=λ_ _ _ st hk=>⟨st.1.at λo e=>hk I (by simp) o e,st.2.at λo e=>hk d (by simp) o e⟩
 item:=λi s Q E hi st hQ=>by
  have hx:es[i]? =some es[i]:=Array.getElem?_eq_getElem hi
  refine xI st.1 st.2 hx λh' hit' hs'=> ?_
  exact hQ _ h' s.toks ⟨_,hx,rfl⟩ ⟨hit',st.2.at λo e=>hs'.extBut d o hne e⟩ λb o hb e=>hs'.extBut b o (λh=>hb (by simp [h])) e
 done:=λs Q E st hQ=>Bi hh st.1 st.2 (by simp) λh' he'=>hQ h' s.toks λb o hb e=>he' b o (λh=>hb (by simp [h])) e
 self:=λ_ _ _ _ st hQ=>wpAny_pyIter_keyiter st.1 hQ
theorem y0{d:Addr}{es:Array DictEntry}{ep:Nat}(lo:(d==sysModules)=false):KdlSrc zp zw "dict" d d es.size (λi v=>∃e,es[i]? =some e∧v=e.key) (λh=>lj h d es ep) where
 type:=λ_ hm=>hm.typeIs
 there:=λ_ hm=>⟨hm.lt,hm.lt⟩
 keep:=λ_ _ hm hk=>hm.at λo e=>hk d (.inl rfl) o e
 notList:=by decide
 notTuple:=by decide
 hint:=λ_ _ _ _ hm hq=>kdl_hint_dict hm.typeIs hq
 iter:=λ_ s hh hm=>⟨_,_,(λ_ _ hq=>xV lo hm hq),t9 hh _ d (Nat.ne_of_lt hm.lt) es ep,⟨⟨_,aN _ rfl,rfl,rfl⟩,hm.at λo e=>aT _ e⟩⟩
theorem mP{h:Heap}{a:Addr}{vs:List Value}{out:Array Value}{b:Addr}{o:Obj}(hb:b≠a)(e:h.get? b=some o):(sortedHeap h a vs out).get? b=some o:=by
 unfold sortedHeap
 rw[Heap.get?_update_ne _ _ _ _ hb]
 exact aT _ (aT _ ((Heap.get?_update_ne _ _ _ _ hb).trans e))
theorem pE{h:Heap}{a:Addr}{vs:List Value}{out:Array Value}{xs:Array Value}{n:Nat}(ho:h.get? a=some (seqObj "list" xs n)):∃e,(sortedHeap h a vs out).get? a=some (seqObj "list" out e):=by
 obtain⟨e1,h1⟩:∃e1,(h.update a (Obj.mapSeq λ_=>(#[]:Array Value))).get? a=some (seqObj "list" #[] e1):=⟨_,get?_update_seq ho λ_=> #[]⟩
 unfold sortedHeap
 have h2:=aT (seqObj "list" #[] 0) (aT (seqObj "tuple" vs.toArray 0) h1)
 exact⟨_,get?_update_seq h2 λ_=>out⟩
theorem qb{W:Wd}{h₀ h':Heap}{tk:Nat}{vs:List Value}{ps:List (Int×Int)}{Q:Value→Shared→Prop}(hT:∀t∈W.tups,h₀.get? t.1=some (tpl t.2))(hk:Keeps h₀ h')(rs:VRs W (ps.map bX) vs)(hn:ps.Nodup)(h64:ps.length<64)
  (h:∀(h'':Heap) D c os,Keeps h₀ h''→h₀.get? D=none→VRs W ((b5 leP ps).map bX) os→h''.get? D=some (seqObj "list" os.toArray c)→Q (.ref D) {s with heap:=h'',toks:=tk}) :
  wpAny M A (newList vs>>=λl=>holding [l] (call (.builtin "list.sort") [l])>>=λ_=>ret l) (λf s'=>∃v,f= .done (.ret v)∧Q v s') E {s with heap:=h',toks:=tk}:=by
 have hz:vs.toArray.size≤sizeLine:=by
  rw[List.size_toArray,←rs.length,ah];exact cu (ae (bh h64) (by decide))
 refine wpAny_bind (wpAny_newList ?_ hz)
 have hoL:(h'.push (seqObj "list" vs.toArray 0)).get? h'.objs.size=some (seqObj "list" vs.toArray 0):=aN _ rfl
 have keep:Keeps h₀ (h'.push (seqObj "list" vs.toArray 0)):=λb o e=>aT _ (hk b o e)
 have hD:h₀.get? h'.objs.size=none:=mh λo q=>absurd (Heap.lt_size (hk _ _ q)) (Nat.lt_irrefl _)
 show wpAny _ _ _ _ _ {s with heap:=h'.push (seqObj "list" vs.toArray 0),toks:=tk}
 refine wpAny_bind (wpAny_holding (wpAny_call_entry slot_list_sort ⟨_,hoL,rfl⟩ entry_list_sort (wpX (lR (s:={s with heap:=h'.push (seqObj "list" vs.toArray 0),toks:=tk}) (λt ht=>keep _ _ (hT t ht)) hoL rs hn h64 λos ro=>⟨_,rfl,?_⟩)) (args_list_sort _)))
 obtain⟨c,hc⟩:=pE (vs:=vs) (out:=os.toArray) hoL
 exact wpAny_pure ⟨_,rfl,h _ _ c os (λb o e=>mP (λz=>dG hD (z▸e)) (keep _ _ e)) hD ro hc⟩
theorem qK{W:Wd}{l:Addr}{vs:List Value}{ps:List (Int×Int)}{Q:Value→Shared→Prop}(hT:∀t∈W.tups,s.heap.get? t.1=some (tpl t.2))(hl:s.heap.IsList l vs.toArray)(rs:VRs W (ps.map bX) vs)(hn:ps.Nodup)(h64:ps.length<64)
  (h:∀(h'':Heap) D c os,Keeps s.heap h''→s.heap.get? D=none→VRs W ((b5 leP ps).map bX) os→h''.get? D=some (seqObj "list" os.toArray c)→Q (.ref D) {s with heap:=h''}):wpAny M A (call (.builtin "sorted") [.ref l]) Q E s:=by
 have hz:vs.toArray.size≤sizeLine:=by
  rw[List.size_toArray,←rs.length,ah];exact cu (ae (bh h64) (by decide))
 refine Calls.call_function_entry kind_sorted plain_sorted entry_sorted (args_sorted1 _) ?_
 unfold Builtin.«sorted»
 refine wpAny_bind (m:=checkCount "sorted" 1 1 _) (wpAny_pure ?_)
 refine wpAny_bind (collect_list hl ?_ hz)
 refine qb (s:=s) (tk:=s.toks) hT (λb o q=> ?_) rs hn h64 h
 have hlt:b<s.heap.objs.size:=Heap.lt_size q
 rw[Heap.get?_update_ne _ _ _ _ (Nat.ne_of_lt hlt),Heap.get?_push_ne _ _ _ (Nat.ne_of_lt hlt)]
 exact q
theorem qM{W:Wd}{d:Addr}{es:Array DictEntry}{ep:Nat}{ps:List (Int×Int)}{Q:Value→Shared→Prop}(hT:∀t∈W.tups,s.heap.get? t.1=some (tpl t.2))(lo:(d==sysModules)=false)(hh:A.handled=none)(hd:lj s.heap d es ep)(rs:VRs W (ps.map bX) (es.toList.map (·.key)))(hn:ps.Nodup)(h64:ps.length<64)
  (h:∀(h'':Heap) tk D c os,Keeps s.heap h''→s.heap.get? D=none→VRs W ((b5 leP ps).map bX) os→h''.get? D=some (seqObj "list" os.toArray c)→Q (.ref D) {s with heap:=h'',toks:=tk}):wpAny M A (call (.builtin "sorted") [.ref d]) Q E s:=by
 have hl:es.size=ps.length:=((Array.length_toList).symm.trans (ah (f:=(·.key)) (as:=es.toList)).symm).trans (rs.length.symm.trans (ah ..))
 have hz:es.size≤sizeLine:=hl▸cu (ae (bh h64) (by decide))
 refine Calls.call_function_entry kind_sorted plain_sorted entry_sorted (args_sorted1 _) ?_
 unfold Builtin.«sorted»
 refine wpAny_bind (m:=checkCount "sorted" 1 1 _) (wpAny_pure ?_)
 refine wpAny_bind (kdu_collect (A:=A.in1) (y0 lo) hh hd hz λh' tk acc hk hacc=> ?_)
 have hvs:acc.toList=es.toList.map (·.key):=List.ext_getElem (by rw[ah,Array.length_toList,Array.length_toList,hacc.1]) λi h1 h2=>by
  obtain⟨e,he,hv⟩:=hacc.2 i _ (Array.getElem?_eq_getElem h1)
  rw[List.getElem_map,Array.getElem_toList,Array.getElem_toList,hv]
  exact congrArg DictEntry.key (Option.some.inj (he.symm.trans (Array.getElem?_eq_getElem (by rwa [ah] at h2))))
 rw[hvs]
 exact qb (s:=s) (tk:=tk) hT hk rs hn h64 λh'' D c os=>h h'' tk D c os
end
theorem Ay{W:Wd}{kvs:List ((Int×Int)×V)}{xs:List (List Int×Addr×Value)}(ha:All2 (tR W) kvs xs):VRs W ((kvs.map (·.1)).map bX) ((xs.map (entryOfKey (tupleKind (intKind zp zw)))).map (·.key)):=by
 induction ha with
 | nil=>exact .nil
 | cons h1 _ ih =>
  obtain⟨⟨_,t,u,hm⟩,_⟩:=h1
  exact .cons (VR.tup hm (.cons (VR.int _ _) (.cons (VR.int _ _) .nil)) (show 2≤lim by decide)) ih
theorem uZ{W:Wd}{kvs:List ((Int×Int)×V)}{xs:List (List Int×Addr×Value)}(ha:All2 (tR W) kvs xs):(xs.map (·.1)).Nodup→(kvs.map (·.1)).Nodup:=by
 have e:xs.map (·.1)=(kvs.map (·.1)).map λp=>[p.1,p.2]:=by
  induction ha with
  | nil=>rfl
  | cons h1 _ ih=>rw[aR,aR,aR,ih,h1.1.1]
 rw[e]
 exact List.Pairwise.of_map _ λ_ _ h e=>h (congrArg (λp:Int×Int=>[p.1,p.2]) e)
theorem y5:tV:=λ{A σ c x a β k r Q} hh hu S h0 rx q=>bE h0 λi hi h=>bE h λob ho hF=>by
 clear h h0
 rw[cN hi] at rx
 have len:∀{ps:List (Int×Int)},ps.length<64→((b5 leP ps).map bX).length≤lim:=λ{ps} h=>by
  rw[ah,(lW yM ps).1.length_eq];exact ae (bh h) (by decide)
 cases ob with
 | list vs =>
  have hF:y7 vs σ k=some r:=hF
  refine gE hF λhl hF=> ?_
  have hx:bJ σ i=some vs:=by unfold bJ;rw[ho];rfl
  refine bH S hx rx λd it n e1 _ hd rs z hlim=> ?_
  rw[e1]
  cases hi:cT b9 vs with
  | some is =>
   rw[hi] at hF
   have hv:=gU hi
   rw[hv] at rs hl hlim
   rw[ah] at hl hlim
   refine sorted_ints ⟨_,hd,rfl,n,rfl⟩ (te rs) (by rw[←rs.length,ah];exact hl) λout ns' a1 a2 a3=> ?_
   obtain⟨e,he⟩:=sortedAll_at c.s.heap it.toList out
   have hs:ns'=b5 leI is:=lX G2 a2 (a3.imp λh=>bB h)
   exact q.list S hF (hs▸BV a1) (by rw[ah,(lW G2 is).1.length_eq];exact hlim) (λ_ _=>sortedAll_old) (get?_above (Nat.le_succ _)) he c.s.toks
  | none =>
   rw[hi] at hF
   refine bE hF λps hp hF=>gpE hF λhn hF=> ?_
   rw[qG k9 hp] at rs hl
   rw[ah] at hl
   exact qK (vs:=it.toList) S.tup ⟨_,hd,rfl,n,rfl⟩ rs hn hl λh'' D c' os hk hD ro hg=>q.list (items:=os.toArray) S hF ro (len hl) hk hD hg c.s.toks
 | dT kvs =>
  have hF:gd (kvs.length<64) (mkO (.list ((b5 leP (kvs.map (·.1))).map bX)) σ k)=some r:=hF
  refine gE hF λhl hF=> ?_
  have hl:(kvs.map (·.1)).length<64:=(ah ..).symm▸hl
  obtain⟨p,rfl,hp⟩:=rx
  obtain⟨_,_,xs,⟨o,es,ep,hd,hex,hdt,hes,hnd⟩,ha⟩:=S.obj i _ _ ho hp
  refine qM S.tup (l9 S ⟨i,_,hp,.inl rfl⟩) hh ⟨o,hd,hex,hdt⟩ (by rw[hes];exact Ay ha) (uZ ha hnd) hl λh'' tk D c' os hk hD ro hg=>q.list (items:=os.toArray) S hF ro (len hl) hk hD hg tk
 | _=>exact ns hF
inductive Tr where|leaf|node (l:Tr) (k:Int) (r:Tr)
noncomputable def Tr.ins(x:Int):Tr→Tr
 | .leaf=> .node .leaf x .leaf
 | .node l k r=>if x<k then .node (l.ins x) k r else .node l k (r.ins x)
noncomputable def Tr.list:Tr→List Int
 | .leaf=>[]
 | .node l k r=>l.list++k::r.list
theorem Tr.ins_perm(x:Int)(t:Tr):(t.ins x).list.Perm (x::t.list):=by
 induction t with
 | leaf=>exact .refl _
 | node l k r hl hr =>
  show(if x<k then Tr.node (l.ins x) k r else .node l k (r.ins x)).list.Perm (x::(l.list++k::r.list))
  by_cases h:x<k
  ·rw[if_pos h]
   exact hl.append_right (k::r.list)
  ·rw[if_neg h]
   exact((hr.cons k).append_left l.list).trans (((List.Perm.swap x k r.list).append_left l.list).trans List.perm_middle)
noncomputable def Tr.all(t:Tr):List Int→Tr
 | []=>t
 | x::r=>Tr.all (t.ins x) r
theorem Tr.all_perm(l:List Int):∀t:Tr,(t.all l).list.Perm (l++t.list):=by
 induction l with
 | nil=>exact λt=> .refl _
 | cons x r ih=>exact λt=>(ih (t.ins x)).trans (((t.ins_perm x).append_left r).trans List.perm_middle)
noncomputable def rising:List Int→Bool
 | []=>true
 | x::r=>(match r with|[]=>true|y::_=>decide (x<y))&&rising r
theorem xw{l:List Int}:rising l=true→l.Pairwise (·<·):=by
 induction l with
 | nil=>exact λ_=> .nil
 | cons x r ih =>
  intro h
  obtain⟨h1,h2⟩:=ar.mp h
  have ih:=ih h2
  cases r with
  | nil=>exact .cons (aj _) .nil
  | cons y r=>exact .cons (ao.mpr ⟨bA h1,λz hz=>Int.lt_trans (bA h1) ((List.pairwise_cons.mp ih).1 z hz)⟩) ih
noncomputable def hk(a b:Nat):Int:=reduceHash (PySem.Builtin.Tuple.tupleHashOf [hashInt a,hashInt b])
noncomputable def side:Nat:=32
noncomputable def hks:List Int:=(List.range (side*side)).map λi=>hk (i/side) (i%side)
theorem xZ:hks.Nodup:=by
 have p:=Tr.all_perm hks .leaf
 rw[show hks++Tr.leaf.list=hks from aw _] at p
 exact p.nodup ((xw (by decide +kernel:rising (Tr.all .leaf hks).list=true)).imp λh=>Int.ne_of_lt h)
theorem Gr{a b c d:Nat}(ha:a<side)(hb:b<side)(hc:c<side)(hd:d<side)(h:hk a b=hk c d):a=c∧b=d:=by
 have s0:0<side:=by decide
 have lt:∀{x y:Nat},x<side→y<side→side*x+y<side*side:=λ{x y} hx hy=>be (Nat.add_lt_add_left hy _) (Nat.mul_le_mul_left side (Nat.succ_le_of_lt hx))
 have dv:∀{x y:Nat},y<side→(side*x+y)/side=x∧(side*x+y)%side=y:=λ{x y} hy=>⟨by rw[Nat.mul_add_div s0,Nat.div_eq_of_lt hy];rfl,by rw[Nat.mul_add_mod,Nat.mod_eq_of_lt hy]⟩
 have at_:∀{x y:Nat},x<side→y<side→hks[side*x+y]? =some (hk x y):=λ{x y} hx hy=>by
  unfold hks
  rw[List.getElem?_map,List.getElem?_range (lt hx hy),Option.map_some,(dv hy).1,(dv hy).2]
 have e:=(List.getElem?_inj (l:=hks) (by unfold hks;rw[ah,List.length_range];exact lt ha hb) xZ).mp ((at_ ha hb).trans ((congrArg some h).trans (at_ hc hd).symm))
 exact⟨by rw[←(dv (x:=a) hb).1,e,(dv hd).1],by rw[←(dv (x:=a) hb).2,e,(dv hd).2]⟩
noncomputable abbrev T2:HeapKind zp zw (List Int):=tupleKind (intKind zp zw)
noncomputable abbrev Px:=List (List Int×Addr×Value)
noncomputable def fk(xs more:Px):Px:=more.foldl (λacc x=>storedH acc x.1 x.2.1 x.2.2) xs
theorem q9(xs pre:Px)(x:List Int×Addr×Value):fk xs (pre++[x])=storedH (fk xs pre) x.1 x.2.1 x.2.2:=List.foldl_append ..
theorem sk(xs:Px)(k:List Int)(a:Addr)(v:Value):(storedH xs k a v).length≤xs.length+1:=by
 unfold storedH
 by_cases h:(atKey xs k).isSome=true
 ·rw[if_pos h,ah];exact Nat.le_succ _
 ·rw[if_neg h,aa];exact aD _
theorem sW(more:Px):∀xs:Px,(fk xs more).length≤xs.length+more.length:=by
 induction more with
 | nil=>exact λxs=>aD _
 | cons x r ih=>exact λxs=>ae (ih (storedH xs x.1 x.2.1 x.2.2)) (ae (aF (sk ..) _) (aZ (by rw[bc,bo,bn 1])))
theorem gf{xs:Px}{k:List Int}{a:Addr}{v:Value}(hn:(xs.map (·.1)).Nodup):((storedH xs k a v).map (·.1)).Nodup:=by
 unfold storedH
 by_cases h:(atKey xs k).isSome=true
 ·rw[if_pos h,keys_map_putAt];exact hn
 ·rw[if_neg h,au,List.nodup_append]
  refine⟨hn,aQ.mpr ⟨bm,.nil⟩,λx hx y hy e=>h ?_⟩
  rw[aI.mp hy] at e
  obtain⟨z,hz,hz'⟩:=bb.mp hx
  obtain⟨i,hi⟩:=List.mem_iff_getElem?.mp hz
  rw[atKey_of_get (p:=z.2) hn (i:=i) (k:=k) (by rw[hi,←(show x=k from e),←hz'])];rfl
theorem pQ(more:Px):∀acc:Px,((acc++more).map (·.1)).Nodup→fk acc more=acc++more:=by
 induction more with
 | nil=>exact λacc _=>(aw acc).symm
 | cons x r ih =>
  intro acc hn
  have hf:atKey acc x.1=none:=atKey_none_of_get λj p hj=>by
   rw[au,aR,List.nodup_append] at hn
   exact hn.2.2 x.1 (bb.mpr ⟨_,List.mem_of_getElem? hj,rfl⟩) x.1 (.head _) rfl
  have e:acc++[x]++r=acc++x::r:=af ..
  show fk (storedH acc x.1 x.2.1 x.2.2) r=_
  rw[storedH_new hf,ih (acc++[x]) (e▸hn),e]
section
variable{A:Around}{E:Value→Shared→Prop}{s:Shared}
theorem zE{h:Heap}{xs:Px}{k:List Int}{v:Value}(h1:∀x∈xs,T2.is h x.1 x.2.1):∀x∈xs.map (putAt k v),T2.is h x.1 x.2.1:=λx hx=>by
 obtain⟨y,hy,rfl⟩:=bb.mp hx
 unfold putAt
 by_cases q:y.1=k
 ·rw[if_pos q];exact q▸h1 y hy
 ·rw[if_neg q];exact h1 y hy
theorem mX{d a:Addr}{xs:Px}{k:List Int}{v:Value}{Q:Unit→Shared→Prop}(hu:T2.room A)(hkey:T2.is s.heap k a)(hm:s.heap.DictOfH T2 d xs)
  (hQ:∀h',h'.DictOfH T2 d (storedH xs k a v)→Heap.SameBut d s.heap h'→Q () {s with heap:=h'}) (hsz:xs.length≤sizeLine):wpAny M A (dictSetHashed d (.ref a) (T2.hash k) v) Q E s:=by
 obtain⟨o,es,ep,ho,hc,hd,he,his,hn⟩:=hm
 have kp:∀{h'} {x:List Int×Addr×Value},Heap.SameBut d s.heap h'→T2.is s.heap x.1 x.2.1→T2.is h' x.1 x.2.1:=λhs x=>T2.keeps x ho hd hs
 unfold dictSetHashed
 try with_reducible refine wpAny_holding ?_
 refine wpAny_bind (wpAny_dictFind_heap hu hkey ho hd he his hn (λhno=> ?_) λj p hj=> ?_)
 ·have e:=storedH_new (atKey_none_of_get hno) a v
  refine wpAny_bind (wpAny_rule (wpAny_updateDictKeys (hz:=(size_of_entries he).symm▸hsz) ho hd (hQ _ ⟨_,_,ep+1,Heap.get?_update_self _ ho (Obj.isFreed_of_dict (Obj.data_mapDictKeys hd _)),hc.mapDictKeys _,Obj.data_mapDictKeys hd _,?_,?_,gf hn⟩ (Heap.SameBut.update ..))))
  ·rw[e,Array.toList_push,he,au];rfl
  ·rw[e]
   exact aH.mpr ⟨λx hx=>kp (Heap.SameBut.update ..) (his x hx),ao.mpr ⟨kp (x:=(k,a,v)) (Heap.SameBut.update ..) hkey,aj _⟩⟩
 ·have e:=storedH_old (atKey_of_get hn hj) a v
  refine wpAny_bind (wpAny_rule (wpAny_bind (wpAny_updateDict ho hd (wpAny_point (hQ _ ⟨_,_,ep,Heap.get?_update_self _ ho (Obj.isFreed_of_dict (Obj.data_mapDict hd _)),hc.mapDict _,Obj.data_mapDict hd _,?_,?_,gf hn⟩ (Heap.SameBut.update ..))))))
  ·rw[e,←modify_map_putAt (entryOfKey T2) (λe:DictEntry=>{e with val:=v}) k v (λ_ _=>rfl) hn hj,←he,Array.toList_modify]
  ·rw[e];exact zE λx hx=>kp (Heap.SameBut.update ..) (his x hx)
theorem ka{id:String}{d:Addr}{o:Obj}{es:Array DictEntry}{ep:Nat}{Q:Array DictEntry→Shared→Prop}(ho:s.heap.get? d=some o)(hd:o.data= .dict es ep)
  (hk:∀e∈es.toList,(∃a,e.key= .ref a∧s.TypeIs (.ref a) "tuple")∧¬(es.filter (·.hash==e.hash)).size>1) (h:Q es s):wpAny M A (Builtin.Dict.entriesForEmpty id d) Q E s:=by
 unfold Builtin.Dict.entriesForEmpty
 refine wpAny_bind (wpAny_dictEntries ho hd (wpAny_bind ?_))
 rw[←Array.forIn_toList]
 refine wpAny_forIn_list _ (λrest _ s'=>s'=s∧∀e∈rest,e∈es.toList) _ (λe rest b s' hI=> ?_) (λb s' hI=>wpAny_pure (hI.1▸h)) _ _ ⟨rfl,λ_ z=>z⟩
 obtain⟨rfl,hr⟩:=hI
 obtain⟨r1,r2⟩:=ao.mp hr
 obtain⟨⟨a,hka,hT⟩,hf⟩:=hk e r1
 have hq:wpAny M A (Builtin.Dict.quietEq e.key) (λq s₁=>q=false∧s₁=s') E s':=by
  rw[hka]
  show wpAny M A (do return (←specialOf (.ref a) "__eq__")==some (.builtin "object.__eq__")) _ E s'
  exact wpAny_bind (wpAny_specialOf hT PySem.F.slot_tuple_eq.lookup (wpAny_pure ⟨by decide,rfl⟩))
 refine wpAny_bind (wpAny_mono hq (λq s₁ z=> ?_) λ_ _ z=>z)
 obtain⟨rfl,rfl⟩:=z
 rw[if_pos (by rfl)]
 exact i9 hf (wpAny_pure ⟨rfl,r2⟩)
end
section
variable{A:Around}{E:Value→Shared→Prop}{s:Shared}
theorem zP{x:List Int×Addr×Value}{more:Px}(hn:(more.map (·.1)).Nodup)(hinj:∀y∈more,T2.hash y.1=T2.hash x.1→y.1=x.1):(more.filter λy=>T2.hash y.1==T2.hash x.1).length≤1:=by
 have k:∀y∈more.filter (λy=>T2.hash y.1==T2.hash x.1),y.1=x.1:=λy hy=>hinj y (List.mem_filter.mp hy).1 (bF.mp (List.mem_filter.mp hy).2)
 have hnd:((more.filter λy=>T2.hash y.1==T2.hash x.1).map (·.1)).Nodup:=List.Sublist.nodup (List.Sublist.map _ List.filter_sublist) hn
 generalize more.filter (λy=>T2.hash y.1==T2.hash x.1)=l at k hnd⊢
 cases l with
 | nil=>exact bu _
 | cons a l=>cases l with
  | nil=>exact aD _
  | cons b l=>exact absurd (aE.mpr (.inl ((k a (.head _)).trans (k b (.tail _ (.head _))).symm))) (aQ.mp hnd).1
theorem nW{nm:String}{d o:Addr}{xs more:Px}{Q:Unit→Shared→Prop}(hu:T2.room A)(hdo:d≠o)(hoS:(o==sysModules)=false)(hd:s.heap.DictOfH T2 d xs)(ho:s.heap.DictOfH T2 o more)
  (hT:∀x∈more,s.TypeIs (.ref x.2.1) "tuple") (hinj:∀x∈more,∀y∈more,T2.hash y.1=T2.hash x.1→y.1=x.1)
  (hQ:∀h',h'.DictOfH T2 d (fk xs more)→Heap.SameBut d s.heap h'→Q () {s with heap:=h'}) (hsz:xs.length+more.length≤sizeLine):wpAny M A (Builtin.Dict.mergeDict nm d o) Q E s:=by
 obtain⟨od,esd,epd,hod,hcd,hdd,hed,hid,hnd⟩:=id hd
 obtain⟨oo,eso,epo,hoo,hco,hdo',heo,hio,hno⟩:=id ho
 have kp:∀{h'} {x:List Int×Addr×Value},Heap.SameBut d s.heap h'→x∈more→T2.is h' x.1 x.2.1:=λhs hx=>T2.keeps (hio _ hx) hod hdd hs
 have hlen:eso.size=more.length:=size_of_entries heo
 have ent:∀{e:DictEntry},e∈eso.toList→∃x∈more,e=entryOfKey T2 x:=λ{e} he=>(bb.mp (heo▸he)).elim λx z=>⟨x,z.1,z.2.symm⟩
 unfold Builtin.Dict.mergeDict
 refine i9 (λz=>hdo (bF.mp z)) ?_
 unfold Builtin.Dict.showsAll
 rw[if_neg (by rw[hoS];exact Bool.false_ne_true)]
 refine wpAny_bind (wpAny_pure (wpAny_bind (wpAny_dictEntries hoo hdo' ?_)))
 have loop:wpAny M A (do
   let epoch←dictEpoch o
   let l←dictEntries o
   forIn [:l.size] PUnit.unit λi (_:PUnit)=>(do
     let l'←dictEntries o
     match l'[i]? with
      | some e=>do
       holding [e.key,e.val] (dictSetHashed d e.key e.hash e.val)
       let ep'←dictEpoch o
       if(ep' !=epoch)=true then do
         (unsupported (toString nm++toString ":source-changed-during-callback"):Sem PUnit)
         pure (ForInStep.yield PUnit.unit)
        else pure (ForInStep.yield PUnit.unit)
      | _=>do
       (unsupported "internal:dict-merge" :Sem PUnit)
       pure (ForInStep.yield PUnit.unit):Sem (ForInStep PUnit))
   pure ()) Q E s:=by
  refine wpAny_bind (wpAny_dictEpoch hoo hdo' (wpAny_bind (wpAny_dictEntries hoo hdo' (wpAny_bind ?_))))
  rw[Std.Legacy.Range.forIn_eq_forIn_range',show Std.Legacy.Range.size [:eso.size]=eso.size from by show(eso.size-0+1-1)/1=_;rw[Nat.div_one];rfl,hlen]
  refine wpAny_forIn_list _
   (λrest _ s'=>∃h' pre tl,s'={s with heap:=h'}∧rest=List.range' pre.length tl.length∧more=pre++tl∧h'.DictOfH T2 d (fk xs pre)∧h'.get? o=some oo∧Heap.SameBut d s.heap h')
   _ (λx rest b s' hI=> ?_) (λb s' hI=> ?_) _ _ ⟨s.heap,[],more,rfl,rfl,rfl,hd,hoo,Heap.SameBut.refl _ _⟩
  ·obtain⟨h',pre,tl,rfl,hr,hm,hd',hoo',hs'⟩:=hI
   cases tl with
   | nil=>exact absurd hr (bw _ _)
   | cons kv tl =>
    obtain⟨e1,e2⟩:=List.cons_eq_cons.mp (show x::rest=pre.length::List.range' (pre.length+1) tl.length from hr)
    have hmem:kv∈more:=hm▸ay _ (.head _)
    have hx:eso[x]? =some (entryOfKey T2 kv):=by
     rw[entry_at heo,hm,e1,aX (aD _),Nat.sub_self];rfl
    refine wpAny_bind (wpAny_dictEntries hoo' hdo' ?_)
    rw[hx]
    have hml:pre.length≤more.length:=by rw[hm,aa];exact az _ _
    show wpAny _ _ (holding [.ref kv.2.1,kv.2.2] (dictSetHashed d (.ref kv.2.1) (T2.hash kv.1) kv.2.2)>>=_) _ _ _
    refine wpAny_bind (wpAny_holding (mX (s:={s with heap:=h'}) hu (kp hs' hmem) hd' (λh'' hd'' hs''=> ?_) (ae (sW pre xs) (ae (aB hml _) hsz))))
    have hoo'':h''.get? o=some oo:=(hs''.2 o (Ne.symm hdo)).trans hoo'
    refine wpAny_bind (wpAny_dictEpoch hoo'' hdo' ?_)
    refine i9 (λz=>ft ((bne_self_eq_false _).symm.trans z)) (wpAny_pure ⟨h'',pre++[kv],tl,rfl,?_,?_,by rw[q9];exact hd'',hoo'',hs'.trans hs''⟩)
    ·rw[aa];exact e2
    ·rw[hm,af];rfl
  ·obtain⟨h',pre,tl,rfl,hr,hm,hd',hoo',hs'⟩:=hI
   cases tl with
   | cons kv tl=>exact absurd hr.symm (bw _ _)
   | nil=>exact wpAny_pure (hQ h' (by rw[hm,aw];exact hd') hs')
 dsimp only
 refine wpAny_ite_split (λ_=> ?_) (λ_=>loop)
 refine wpAny_bind (wpAny_dictEntries hod hdd (wpAny_ite_split (λhemp=> ?_) λ_=>loop))
 have hxs:xs=[]:=by
  have:=size_of_entries hed
  rw[Array.isEmpty_iff.mp hemp] at this
  exact List.length_eq_zero_iff.mp this.symm
 subst hxs
 have hmer:fk [] more=more:=pQ more [] hno
 refine wpAny_bind (ka hoo hdo' (λe he=> ?_) ?_)
 ·obtain⟨x,hx,rfl⟩:=ent he
  refine⟨⟨_,rfl,hT x hx⟩,Nat.not_lt.mpr ?_⟩
  rw[←Array.length_toList,Array.toList_filter,heo,List.filter_map,ah]
  exact zP hno (hinj x hx)
 rw[hmer] at hQ
 refine wpAny_ite_split (λ_=> ?_) (λhne=> ?_)
 ·exact wpAny_bind (wpAny_updateDictKeysTo hod hdd (wpAny_pure (hQ _ ⟨_,_,epd+1,Heap.get?_update_self _ hod (Obj.isFreed_of_dict (Obj.data_mapDictKeys hdd _)),hcd.mapDictKeys _,
   Obj.data_mapDictKeys hdd _,heo,λx hx=>kp (Heap.SameBut.update ..) hx,hno⟩ (Heap.SameBut.update ..))) (hlen▸aV (Nat.zero_add more.length▸hsz)))
 ·have h0:eso= #[]:=Array.isEmpty_iff.mp (by
   cases q:eso.isEmpty with
   | true=>rfl
   | false=>rw[q] at hne;exact absurd rfl hne)
  have hm0:more=[]:=List.length_eq_zero_iff.mp (by rw[←hlen,h0];rfl)
  subst hm0
  exact wpAny_pure (hQ _ hd (Heap.SameBut.refl _ _))
theorem r8{d o:Addr}{xs more:Px}{Q:PySem.Fin→Shared→Prop}(hu:T2.room A)(hdo:d≠o)(hoS:(o==sysModules)=false)(hd:s.heap.DictOfH T2 d xs)(ho:s.heap.DictOfH T2 o more)
  (hT:∀x∈more,s.TypeIs (.ref x.2.1) "tuple") (hinj:∀x∈more,∀y∈more,T2.hash y.1=T2.hash x.1→y.1=x.1)
  (hQ:∀h',h'.DictOfH T2 d (fk xs more)→Heap.SameBut d s.heap h'→Q (.done (.ret .none)) {s with heap:=h'}) (hsz:xs.length+more.length≤sizeLine):wpAny M A (Builtin.«dict.update» ⟨[.ref d,.ref o],[]⟩) Q E s:=by
 unfold Builtin.«dict.update»
 refine wpAny_bind ?_
 unfold Builtin.Dict.selfAndRest
 refine wpAny_bind (wpAny_notOrdered_dict hd.typeIs ?_)
 show wpAny _ _ (pure (d,[Value.ref o])) _ _ s
 refine wpAny_pure ?_
 show wpAny _ _ (Builtin.Dict.updateFrom "dict.update" d (.ref o) [] .none) _ _ s
 unfold Builtin.Dict.updateFrom
 refine wpAny_bind (wpAny_typeOf ho.typeIs (i9 (by decide) (wpAny_bind ?_)))
 unfold Builtin.Dict.merge
 refine wpAny_bind ?_
 unfold Builtin.Dict.readDirectly
 refine wpAny_bind (wpAny_isInstance ho.typeIs isSubtype_dict_dict (i9 (λz=>ft z) ?_))
 refine wpAny_bind (wpAny_specialOf ho.typeIs PySem.F.slot_dict_iter.lookup (wpAny_pure ?_))
 refine wpAny_ite_split (λ_=> ?_) (λz=>absurd rfl z)
 refine wpAny_bind (wpAny_pure (nW hu hdo hoS hd ho hT hinj (λh' hd' hs'=> ?_) hsz))
 show wpAny _ _ (Builtin.Dict.addKeywords d []>>=_) _ _ _
 exact wpAny_bind (wpAny_pure (wpAny_pure (hQ h' hd' hs')))
end
theorem uS{κ:Type} [BEq κ](e:List (κ×V)):∀d:List (κ×V),(nY d e).length≤d.length+e.length:=by
 induction e with
 | nil=>exact λd=>aD _
 | cons x e ih=>exact λd=>ae (ih (d8 x.1 x.2 d)) (ae (aF (nv ..) _) (aZ (by rw[bc,bo,bn 1])))
theorem uR{W:Wd}{e:List ((Int×Int)×V)}{more:Px}(he:All2 (tR W) e more):∀{d:List ((Int×Int)×V)} {xs:Px},All2 (tR W) d xs→(xs.map (·.1)).Nodup→All2 (tR W) (nY d e) (fk xs more):=by
 induction he with
 | nil=>exact λhd _=>hd
 | @cons kv x e more h1 h2 ih =>
  intro d xs hd hn
  refine ih (d:=d8 kv.1 kv.2 d) (xs:=storedH xs x.1 x.2.1 x.2.2) ?_ (gf hn)
  rw[lm hn]
  refine hd.put (λkv' x' hr=> ?_) (λkv' x' hr=>⟨hr.1,h1.2⟩) h1
  rw[hr.1.1,h1.1.1,bF,List.cons_eq_cons,List.cons_eq_cons]
  exact⟨λz=>by rw[z];exact⟨rfl,rfl,rfl⟩,λz=>Prod.ext z.1 z.2.1⟩
theorem mR{e:List ((Int×Int)×V)}(h:e.all qN=true){kv:(Int×Int)×V}(hm:kv∈e):∃a b:Nat,kv.1=((a:Int),(b:Int))∧a<side∧b<side:=by
 obtain⟨h,h4⟩:=ar.mp (List.all_eq_true.mp h kv hm)
 obtain⟨h,h3⟩:=ar.mp h
 obtain⟨h1,h2⟩:=ar.mp h
 obtain⟨a,ha⟩:=bt (bA h1)
 obtain⟨b,hb⟩:=bt (bA h3)
 exact⟨a,b,Prod.ext ha hb,aP.mp (ha▸bA h2),aP.mp (hb▸bA h4)⟩
theorem All2.memR{α β:Type}{R:α→β→Prop}{as:List α}{bs:List β}(r:All2 R as bs):∀b∈bs,∃a∈as,R a b:=by
 induction r with
 | nil=>exact aj _
 | cons h _ ih=>exact ao.mpr ⟨⟨_,.head _,h⟩,λb hb=>(ih b hb).elim λa z=>⟨a,.tail _ z.1,z.2⟩⟩
section
variable{P:Fr}{n:Nat}{F:FT}
theorem xC{o e:E}{ox x:PySem.Expr}{apos pos:Pos}(hs:e6 ox=true)(hline:(apos.endLine==pos.line)=true)(ho:bS P n F o ox)(h:EvE P n F e x):bS P n F (.meth .update o [e]) (.Call (.Attribute ox "update" apos) [x] [] pos):=λ{β A σ le c k r Q} a ek q =>
 mw hs (show 1<30 by decide) (gy h.2) hline ho PySem.F.plainAttrs_dict PySem.F.slot_dict_update PySem.F.type_dict_update a ek λv σ₁ ov c₁ ek g₁ rv=>gE ek λhr ek=>by
  obtain⟨kvs',hk'⟩:=Option.isSome_iff_exists.mp hr
  refine bE hk' λi hi hk'=> ?_
  rw[cN hi] at rv ek
  refine tH g₁.sim hk' rv λd xs0 e1 hp hd0 _ _ _=> ?_
  rw[e1] at rv⊢
  obtain⟨od,esd,epd,hod,hcd,_⟩:=hd0
  refine⟨⟨od,hod,hcd.1⟩,λd' e=>Value.ref.inj e▸⟨od,hod,hcd.2.1⟩,?_⟩
  refine f9 (.cons h .nil) (a.next g₁) ek (.inl λ_ h=>Value.noConfusion h) λvs σ₂ vals c₂ ek g₂ rs=>bE ek λy hy ek=>bE ek λi' hi' ek=>bE ek λj hj ek=>bE ek λkd hkd ek=>bE ek λke hke ek=>gE ek λhc eF=> ?_
  cases Option.some.inj hi'
  rw[nB hy,cN hj] at rs
  refine rs.e1 λyv ev ry=> ?_
  rw[ev]
  have S:=g₂.sim
  refine tH S hkd (rv.mono g₂.le) λd1 xs ed hp1 hd ha hnd _=>tH S hke ry λd2 more ey hp2 hd2 ha2 _ _=> ?_
  cases Value.ref.inj ed
  rw[ey]
  have hne:d≠d2:=λz=>hc.1 (S.apart _ _ _ _ d hp1 hp2 (.inl rfl) (.inl z))
  have tups:∀x∈more,∃kv∈ke,tR c₂.W kv x:=ha2.memR
  refine wpAny_call_entry PySem.F.slot_dict_update hd.typeIs PySem.F.entry_dict_update (r8 (tupleKind_room_in1 (ax (aB (by decide) _) a.u64)) hne (l9 S ⟨j,_,hp2,.inl rfl⟩) hd hd2 (λx hx=> ?_) (λx hx y hy he=> ?_) (λh' hd' hs'=>⟨.none,rfl,?_⟩) (by rw[←ha.length,←ha2.length];exact cu hc.2.1)) (PySem.F.args_dict_update_2 _ _)
  ·obtain⟨kv,_,⟨_,t,u,hm⟩,_⟩:=tups x hx
   exact⟨_,S.tup _ hm,rfl⟩
  ·obtain⟨kv,hkv,⟨e1,_⟩,_⟩:=tups x hx
   obtain⟨kv',hkv',⟨e2,_⟩,_⟩:=tups y hy
   obtain⟨a,b,k1,h1,h2⟩:=mR hc.2.2 hkv
   obtain⟨a',b',k2,h3,h4⟩:=mR hc.2.2 hkv'
   rw[e1,e2,k1,k2] at he⊢
   obtain⟨rfl,rfl⟩:=Gr h3 h4 h1 h2 he
   rfl
  ·obtain⟨o',es,ep,k1,k2,k3,k4,k5,k6⟩:=hd'
   exact q _ _ _ ⟨c₂.W,_⟩ eF ((g₁.trans g₂).trans (o5 (ob:= .dT (nY kd ke)) S hp1 hs' ⟨ae (uS _ _) hc.2.1,rfl,_,⟨o',es,ep,k1,k2,k3,k4,k6⟩,uR ha2 ha hnd⟩ c₂.s.toks)) VR.none
end
theorem gZ:Slot "bytes" "join" "bytes.join" :=
 .of (owner:= "bytes") (n:= "join") (by rw[typeLookup_type,builtinLookup_eq_fast];kernel_rfl) (by decide +kernel) (by decide +kernel) (by decide +kernel)
  (by first|exact .inl (by decide +kernel)|exact .inr (by decide +kernel)) (by rw[isSubtype_type];kernel_rfl)
theorem lJ:typeOf (.builtin "bytes.join")=pure (.type "method_descriptor"):=by show builtinType _=_;rw[builtinType_eq_fast];kernel_rfl
theorem kW:entryFor table "bytes.join" =some Builtin.«bytes.join»:=by first|exact entryFor_of_tree (by kernel_rfl)|exact entryFor_of_fast (by kernel_rfl)
theorem lU(a b:Value):argsOk "bytes.join" ⟨[a,b],[]⟩:=by
 unfold argsOk;rw[signature?_of (id:= "bytes.join") (n:=['n','i','o','j']) (o:=['s','e','t','y','b']) (by kernel_rfl) FB.owner_bytes];kernel_rfl
theorem GN{id:String}{b:Array UInt8}{t:Tok}{fl:Bool}:PySem.Builtin.Bytes.buffer? id (.bytes b t) fl=pure (some b):=by
 unfold PySem.Builtin.Bytes.buffer?
 rw[KBy.special_eq KBy.look_buffer,KBy.own_buffer,KBy.own_release]
 kernel_rfl
theorem vX{id:String}{b:Array UInt8}{t:Tok}:PySem.Builtin.Bytes.takeBufferQuiet? id (.bytes b t) 0=pure (some (b,none)):=by
 have h1:PySem.Builtin.Bytes.takeBuffer? id (.bytes b t) 0=pure (some (b,none)):=by
  unfold PySem.Builtin.Bytes.takeBuffer?
  rw[KBy.special_eq KBy.look_buffer,KBy.own_buffer]
  rw[GN]
  kernel_rfl
 unfold PySem.Builtin.Bytes.takeBufferQuiet?
 rw[h1]
 rfl
noncomputable def IsB(v:Value)(c:Array UInt8):Prop:=∃u,v=Value.bytes c u
section
variable{A:Around}{E:Value→Shared→Prop}{s:Shared}
theorem oa(taken:List (Value×Option Value)):∀{keep:List Value} {Q:Unit→Shared→Prop},(∀p∈taken,p.2=none)→Q () s→wpAny M A (PySem.Builtin.Bytes.joinLetGo taken keep) Q E s:=by
 induction taken with
 | nil=>exact λ_ h=>wpAny_pure h
 | cons p r ih =>
  intro keep Q hn h
  obtain⟨e,hr⟩:=ao.mp hn
  obtain⟨x,o⟩:=p
  cases(show o=none from e)
  unfold PySem.Builtin.Bytes.joinLetGo
  exact wpAny_bind (wpAny_letGo (ih hr h))
theorem vN{M:Model}{α:Type}{c:Prop} [d:Decidable c]{x y:Sem α}{Q:α→Shared→Prop}(h:c)(k:wpAny M A x Q E s):wpAny M A (if c then x else y) Q E s:=by
 cases d with
 | isTrue _=>exact k
 | isFalse q=>exact absurd h q
noncomputable def JI(s:Shared)(vals:List Value)(bs:List (Array UInt8))(rest:List Nat)(st:Array (Array UInt8)×List (Value×Option Value))(s':Shared):Prop :=
 ∃pre tl pb tb,(s'=s∧rest=List.range' pre.length tl.length)∧(vals=pre++tl∧bs=pb++tb)∧All2 IsB tl tb∧st=(pb.toArray,pre.map λv=>(v,(none:Option Value)))
theorem JI.next{vals:List Value}{bs:List (Array UInt8)}{x:Nat}{rest:List Nat}{st:Array (Array UInt8)×List (Value×Option Value)}{s':Shared}(h:JI s vals bs (x::rest) st s'){G:Prop}
  (k:∀(pre:List Value) (pb:List (Array UInt8)) c u,s'=s→st=(pb.toArray,pre.map λv=>(v,(none:Option Value)))→vals.toArray.getD x Value.none= .bytes c u→(∀{st},st=(pb.toArray.push c,(pre.map λv=>(v,(none:Option Value)))++[(.bytes c u,none)])→JI s vals bs rest st s)→G):G:=by
 obtain⟨pre,tl,pb,tb,⟨rfl,hr⟩,⟨hm,hm2⟩,hv',rfl⟩:=h
 cases hv' with
 | nil=>exact absurd hr (bw _ _)
 | @cons v c tl tb hb hv' =>
  obtain⟨e1,e2⟩:=List.cons_eq_cons.mp (show x::rest=pre.length::List.range' (pre.length+1) tl.length from hr)
  obtain⟨u,rfl⟩:=hb
  refine k pre pb c u rfl rfl ?_ λ{st} e=>⟨pre++[.bytes c u],tl,pb++[c],tb,⟨rfl,by rw[aa];exact e2⟩,⟨by rw[hm,af];rfl,by rw[hm2,af];rfl⟩,hv',by rw[e,List.push_toArray,au];rfl⟩
  rw[Array.getD_eq_getD_getElem?,List.getElem?_toArray,hm,e1,aX (aD _),Nat.sub_self];rfl
theorem JI.fin{vals:List Value}{bs:List (Array UInt8)}{st:Array (Array UInt8)×List (Value×Option Value)}{s':Shared}(h:JI s vals bs [] st s'){G:Prop}
  (k:s'=s→st=(bs.toArray,vals.map λv=>(v,(none:Option Value)))→G):G:=by
 obtain⟨pre,tl,pb,tb,⟨rfl,hr⟩,⟨hm,hm2⟩,hv',rfl⟩:=h
 cases hv' with
 | cons=>exact absurd hr.symm (bw _ _)
 | nil =>
  rw[aw] at hm hm2
  subst hm hm2
  exact k rfl rfl
theorem B6{vals:List Value}{bs:List (Array UInt8)}(hv:All2 IsB vals bs)(h0:0<bs.length){G:Prop}(k1:∀c u,vals=[.bytes c u]→bs=[c]→G)(k2:∀v w vs,vals=v::w::vs→G):G:=by
 cases hv with
 | nil=>exact absurd h0 (Nat.lt_irrefl _)
 | cons hb hv =>
  cases hv with
  | nil =>
   obtain⟨u,rfl⟩:=hb
   exact k1 _ _ rfl rfl
  | cons hb' hv=>exact k2 _ _ _ rfl
theorem xU{l:Addr}{o:Obj}{vals:List Value}{bs:List (Array UInt8)}{n:Nat}{b:Array UInt8}{t:Tok}{P:PySem.Fin→Shared→Prop}(ho:s.heap.get? l=some o)(hc:o.cls= .type "list")(hd:o.data= .seq vals.toArray n)
  (hv:All2 IsB vals bs) (h0:0<bs.length) (hl:bs.foldl (λm c=>m+c.size) (b.size*(bs.length-1))≤16777216) (hz:(PySem.Builtin.Bytes.joined b bs).size≤16777216)
  (h1:∀c u,bs=[c]→P (.done (.ret (.bytes c u))) s) (h:P (.done (.ret (.bytes (PySem.Builtin.Bytes.joined b bs) s.toks))) {s with toks:=s.toks+1}) :
  wpAny M A (Builtin.«bytes.join» ⟨[.bytes b t,.ref l],[]⟩) P E s:=by
 have hT:s.TypeIs (.ref l) "list" :=⟨o,ho,hc⟩
 unfold Builtin.«bytes.join» PySem.Builtin.Bytes.joinM
 refine wpAny_bind (wpAny_pure (vN (by rfl) ?_))
 refine wpAny_bind ?_
 unfold PySem.Builtin.Bytes.joinItems
 refine wpAny_bind (wpAny_typeOf hT (vN (by rfl) ?_))
 refine wpAny_pure (wpAny_bind (wpAny_seqItems ho hd (vN (by rfl) ?_)))
 refine B6 hv h0 (λc u e1 e2=> ?_) λv w vs e=> ?_
 ·subst e1
  refine(?_:wpAny _ _ (typeOf (.bytes _ u)>>=_) _ _ _)
  exact wpAny_bind (wpAny_typeOf (typeIs_bytes s _ u) (vN (by rfl) (wpAny_bind (wpAny_rule (wpAny_pure (h1 _ _ e2))))))
 ·subst e
  refine(?_:wpAny _ _ (forIn [:_] ((#[]:Array (Array UInt8)),([]:List (Value×Option Value))) _>>=_) _ _ _)
  generalize v::w::vs=vals at *
  refine wpAny_bind ?_
  rw[Std.Legacy.Range.forIn_eq_forIn_range',show Std.Legacy.Range.size [:vals.toArray.size]=vals.length from by show(vals.toArray.size-0+1-1)/1=_;rw[Nat.div_one];rfl]
  refine wpAny_forIn_list _ (JI s vals bs) _ (λx rest st s' hI=> ?_) (λst s' hI=> ?_) _ _ ⟨[],vals,[],bs,⟨rfl,rfl⟩,⟨rfl,rfl⟩,hv,rfl⟩
  ·refine hI.next λpre pb c u e1 e2 ex fin=> ?_
   subst e1 e2
   refine wpAny_bind (wpAny_seqItems ho hd ?_)
   dsimp only
   rw[ex]
   refine wpAny_ite_split (λ_=> ?_) (λ_=> ?_)
   ·exact wpAny_bind (wpAny_of_eq (KBy.special_eq KBy.look_buffer) (wpAny_bind (wpAny_holding (wpAny_of_eq vX (wpAny_bind (wpAny_seqItems ho hd (i9 (λz=>ft ((bne_self_eq_false _).symm.trans z)) (wpAny_pure (fin rfl)))))))))
   ·exact wpAny_bind (wpAny_holding (wpAny_of_eq vX (wpAny_bind (wpAny_seqItems ho hd (i9 (λz=>ft ((bne_self_eq_false _).symm.trans z)) (wpAny_pure (fin rfl)))))))
  ·refine hI.fin λe1 e2=> ?_
   subst e1 e2
   refine wpAny_bind (wpAny_of_eq (a:=b) rfl ?_)
   have htl:PySem.Builtin.Bytes.tooLong (Array.foldl (λx1 x2=>x1+x2.size) (b.size*(bs.toArray.size-1)) bs.toArray)=false:=by
    refine KBy.tooLong_not ?_
    rw[List.foldl_toArray,List.size_toArray];exact hl
   dsimp only
   rw[htl]
   refine wpAny_bind ?_
   show wpAny _ _ (mkBytes (PySem.Builtin.Bytes.joined b bs)) _ _ _
   refine wpAny_mkBytes (wpAny_bind (wpAny_holding (wpAny_point (wpAny_bind (oa _ (λp hp=> ?_) (wpAny_pure h)))))) (by rw[sizeLine_eq];exact hz)
   obtain⟨v,_,rfl⟩:=bb.mp hp
   rfl
end
theorem yi{W:Wd}{xs:List V}:∀{bs:List (List Int)} {vals:List Value},cT fw xs=some bs→VRs W xs vals→∃cs,All2 IsB vals cs∧bs=cs.map KBw.bInts:=by
 induction xs with
 | nil=>exact λe r=>⟨[],r.nE▸ .nil,(Option.some.inj e).symm⟩
 | cons x xs ih =>
   refine λe r=>r.cE λv vs ev h1 h2=>jG e λa l ha hl er=> ?_
   rw[fY ha] at h1
   obtain⟨_,c,t,hc,rfl⟩:=h1
   obtain⟨cs,k1,k2⟩:=ih hl h2
   exact⟨c::cs,ev▸ .cons ⟨t,hc⟩ k1,by rw[er,k2];rfl⟩
theorem vG(a b:Array UInt8):KBw.bInts (a++b)=KBw.bInts a++KBw.bInts b:=by
 show(a++b).toList.map _=_
 rw[Array.toList_append,au];rfl
theorem xT(sep:Array UInt8)(cs:List (Array UInt8)):∀(out:Array UInt8) (k:Nat),KBw.bInts ((cs.zipIdx (k+1)).foldl (λout (p:Array UInt8×Nat)=>(if p.2>0 then out++sep else out)++p.1) out)=KBw.bInts out++(cs.map λc=>KBw.bInts sep++KBw.bInts c).flatten:=by
 induction cs with
 | nil=>exact λout k=>(aw _).symm
 | cons c cs ih=>intro out k;rw[List.zipIdx_cons,List.foldl_cons,ih,if_pos (Nat.succ_pos k),vG,vG,aR,List.flatten_cons,af,af,af]
theorem og(sep c:List Int)(cs:List (List Int)):dM sep (c::cs)=c++(cs.map λc=>sep++c).flatten:=by
 induction cs generalizing c with
 | nil=>exact(aw _).symm
 | cons d cs ih=>show c++sep++dM sep (d::cs)=_;rw[ih,aR,List.flatten_cons,af,af]
theorem ql(sep:Array UInt8)(cs:List (Array UInt8)):KBw.bInts (PySem.Builtin.Bytes.joined sep cs)=dM (KBw.bInts sep) (cs.map KBw.bInts):=by
 unfold PySem.Builtin.Bytes.joined
 cases cs with
 | nil=>rfl
 | cons c cs =>
  rw[List.zipIdx_cons,List.foldl_cons,aR,og,aY]
  refine(xT sep cs _ 0).trans ?_
  show KBw.bInts (#[]++c)++_=_
  rw[vG];rfl
theorem n8(sep:Array UInt8)(cs:List (Array UInt8)):cs.foldl (λm c=>m+c.size) (sep.size*(cs.length-1))=(dM (KBw.bInts sep) (cs.map KBw.bInts)).length:=by
 cases cs with
 | nil=>rfl
 | cons c cs =>
  rw[aR,og,aa,KBw.ints_length,List.foldl_cons]
  show cs.foldl (λm c=>m+c.size) (sep.size*cs.length+c.size)=_
  rw[bn]
  generalize c.size=m
  induction cs generalizing m with
  | nil=>rfl
  | cons d cs ih =>
   rw[List.foldl_cons,aR,aR,List.flatten_cons,aa,aa,KBw.ints_length,KBw.ints_length,bc,Nat.mul_succ]
   have e:m+(sep.size*cs.length+sep.size)+d.size=(m+(sep.size+d.size))+sep.size*cs.length:=by lia
   rw[e,ih,bo]
section
variable{P:Fr}{n:Nat}{F:FT}
theorem CH{o e:E}{ox x:PySem.Expr}{apos pos:Pos}(hs:e6 ox=true)(hline:(apos.endLine==pos.line)=true)(ho:bS P n F o ox)(h:EvE P n F e x):bS P n F (.meth .join o [e]) (.Call (.Attribute ox "join" apos) [x] [] pos):=λ{β A σ le c k r Q} a ek q =>
 mw hs (show 1<30 by decide) (gy h.2) hline ho FB.plainAttrs_bytes gZ lJ a ek λv σ₁ ov c₁ ek g₁ rv=>gE ek λhr ek=>by
  obtain⟨sep,hsep⟩:=Option.isSome_iff_exists.mp hr
  rw[fY hsep] at rv ek
  obtain⟨_,b,t,rfl,rfl⟩:=rv
  refine⟨typeIs_bytes _ b t,λ_ h=>Value.noConfusion h,f9 (.cons h .nil) (a.next g₁) ek (.inl λ_ h=>Value.noConfusion h) λvs σ₂ vals c₂ ek g₂ rs=>bE ek λy hy ek=>bE ek λsep' hs' ek=>jp ek λi xs ei hx ek=>bE ek λbs hb ek=>gE ek λhc eF=> ?_⟩
  cases Option.some.inj hs'
  rw[nB hy,ei] at rs
  refine rs.e1 λyv ev ry=>bH g₂.sim hx ry λd it n e1 _ ho2 r _ _=> ?_
  rw[ev,e1]
  obtain⟨cs,hcs,rfl⟩:=yi hb r
  have q:=q.up (g₁.trans g₂)
  have hlen:(dM (KBw.bInts b) (cs.map KBw.bInts)).length≤16777216:=ae hc.2 (by decide)
  refine wpAny_call_entry gZ (typeIs_bytes _ b t) kW (xU (vals:=it.toList) (bs:=cs) (n:=n) ho2 rfl rfl hcs (Nat.lt_of_lt_of_eq hc.1 (ah ..)) ?_ ?_ (λc u' hv=>⟨_,rfl,?_⟩) ⟨_,rfl,?_⟩) (lU _ _)
  ·rw[n8];exact hlen
  ·rw[←KBw.ints_length,ql];exact hlen
  ·subst hv
   exact q.here g₂.sim eF (VR.bytes u' rfl hc.2)
  ·exact q.same g₂.sim eF (VR.bytes _ (ql b cs) hc.2) _
end
theorem gB{α β:Type}{f:α→Option β}{R:β→α→Prop}(h:∀{x a},f x=some a→R a x){xs:List α}:∀{as:List β},jv f xs=some as→All2 R as xs:=by
 induction xs with
 | nil=>exact λe=>Option.some.inj e▸ .nil
 | cons x xs ih=>exact λe=>bE e λa ha e=>bE e λl hl e=>Option.some.inj e▸ .cons (h ha) (ih hl)
structure SE1(P:Fr)(n:Nat)(F:FT)(e:E)(x:PySem.Expr):Prop where
 ok:bS P n F e x
 ts:gr P n F e x
 lc:∀elt gens sc' pos,x= .ListComp elt gens sc' pos→LcOk P n F e x
structure Gf(n:Nat)(F:FT):Prop where
 fn:∀p∈DR,∃a,zmg p.1=some (.ref a)∧keepIn zK (.ref a)=true∧jI n F p.2 a
 me:∀p∈DP,∃a,plainGet zK (zc 1) p.1=true∧findIn zK (.ref (zc 1)) p.1=some (some (.ref a))∧typeIn zK (.ref a)=some (.type "function")∧keepIn zK (.ref a)=true∧p.1∉cQ 1∧jI n F p.2 a
 cl:∀p∈GK,p.2<2∧zmg p.1=some (.ref (zc p.2))∧∃an,MkAt p.2 an∧an.length=if p.2=0 then 7 else 2
 gc:∀p∈DQ,∃u,zmg p.1=some u∧VR (W0 zK) p.2 u
 bi:∀p∈iL,zmg p.1=none∧zmb p.1=some p.2
structure Ev1(P:Fr)(n:Nat)(F:FT)(e:E)(x:PySem.Expr):Prop where
 ok:bS P n F e x
section
variable{n:Nat}{F:FT}{c:Cx}{e:E}{x:PySem.Expr}{env:Env}{nm:PySem.Str}
theorem SE1.pl{P:Fr}(h:bS P n F e x)(hr:isTrue x P.env (eval x P.env)=(do let v←eval x P.env;standAt x.pos;holding [v] (truthy v)))(hl:∀elt gens sc' pos,x= .ListComp elt gens sc' pos→LcOk P n F e x):SE1 P n F e x:=⟨h,gr.plain hr h,hl⟩
theorem fK{α:Type}{p:α→Bool}{l:List α}{a:α}(h:l.find? p=some a):p a=true∧a∈l:=⟨List.find?_some h,List.mem_of_find?_eq_some h⟩
theorem mM{s:PySem.Str}{k:Nat}(h:yV s=some k):k<14∧eJ k=s:=⟨List.mem_range.mp (fK h).2,bF.mp (fK h).1⟩
theorem oL{p:Nat×Nat}(h:A7 nm=some p):(cQ p.1)[p.2]? =some nm:=bF.mp (fK h).1
theorem ua{i:Nat}(h:yC c nm=some i)(env:Env):vL (c.fr env) i nm∧(nm==("__debug__" :PySem.Str))=false∧(nm==("__classdict__" :PySem.Str))=false:=bE h λe he h=>gE h λhc h=>by
 obtain⟨h1,hm⟩:=fK he
 obtain⟨h1,h2⟩:=ar.mp h1
 obtain⟨i',x',b⟩:=e
 cases(show i'=i from Option.some.inj h)
 cases(show x'=nm from bF.mp h1)
 refine⟨⟨b,hm,hc.1.elim (λk=> .inl ⟨(Bool.or_eq_true_iff.mp h2).elim id λz=> ?_,k⟩) .inr⟩,hc.2⟩
 rw[k] at z
 exact ft ((bne_self_eq_false _).symm.trans z)
theorem eI{L:Bool}{i:Nat}{x:PySem.Str}(h:mH c L x=some i)(env:Env):Place (c.fr env) L i x:=bE h λe he h=>gE h λhc h=>by
 obtain⟨h1,hm⟩:=fK he
 obtain⟨h1,h2⟩:=ar.mp h1
 obtain⟨i',x',b⟩:=e
 cases(show i'=i from Option.some.inj h)
 cases(show x'=x from bF.mp h1)
 cases(show b=true from h2)
 exact⟨⟨hm,hc.imp id λk=>k.2⟩,λhL=>hc.elim id λk=>Bool.noConfusion (k.1.symm.trans hL)⟩
theorem i6(h:kI c nm)(env:Env){v:Value}(hv:zmg nm=some v∨(zmg nm=none∧zmb nm=some v)):Glob (c.fr env) nm v:=⟨h.1,h.2,hv⟩
theorem xO{α β:Type}{f:α→β}{o:Option α}{b:β}(h:o.map f=some b){G:Prop}(g:∀a,o=some a→b=f a→G):G:=by
 cases o with
 | none=>exact ns h
 | some a=>exact g a rfl (Option.some.inj h).symm
theorem tP{o:PySem.Operator}{op:BOp}(h:BL o=some op):rop op=o:=by
 cases o <;> first|exact ns h|(cases h;rfl)
theorem pf(o:PySem.CmpOp):cop (wY o)=o:=by cases o <;> rfl
theorem vy{P:Fr}{k:Const}{v:V}{kk:Nat}{pos:Pos}(h:vU k=some v):bS P n F (.lit v) (.Constant k kk pos):=by
 cases k with
 | none=>cases h;exact CF
 | bool b=>cases h;exact CM
 | int i=>cases h;exact FJ
 | str s =>
   refine xO h λi hi e=> ?_
   obtain⟨h1,rfl⟩:=mM hi
   exact e▸FC h1
 | bytes l=>exact gE h λhl h=>Option.some.inj h▸zT hl
 | _=>exact ns h
theorem tW{keys:List (Option PySem.Expr)}:∀{ks:List Nat},jJ keys=some ks→Words ks keys:=by
 induction keys with
 | nil=>exact λh=>Option.some.inj h▸ .nil
 | cons k r ih=>cases k with
  | none=>exact λh=>ns h
  | some k=>cases k with
   | Constant v kk p=>cases v with
    | str s =>
      refine λh=>bE h λi hi h=>bE h λl hl hF=> ?_
      obtain⟨h1,rfl⟩:=mM hi
      exact Option.some.inj hF▸ .cons h1 (ih hl)
    | _=>exact λh=>ns h
   | _=>exact λh=>ns h
theorem xJ(h:AH x=true):∃k p₁ p₂,x= .UnaryOp .USub (.Constant (.int 1) k p₁) p₂:=by
 cases x with
 | UnaryOp o y p=>cases o with
  | USub=>cases y with
   | Constant v k p'=>cases v with
    | int i=>exact⟨k,p',p,by rw[bA (show decide (i=1)=true from h)]⟩
    | _=>exact ft h
   | _=>exact ft h
  | _=>exact ft h
 | _=>exact ft h
theorem x8(h:AI x=true):∃k p,x= .Constant (.str (Str.ofString "even")) k p:=by
 cases x with
 | Constant v k p=>cases v with
  | str s=>exact⟨k,p,by rw[bA (show decide (s=Str.ofString "even")=true from h)]⟩
  | _=>exact ft h
 | _=>exact ft h
variable{t:Trn}(ht:∀{c x e},t c x=some e→∀env,SE1 (c.fr env) n F e x)(G:Gf n F)
include ht
theorem ck(h:eD t c x=some e)(env:Env):EvE (c.fr env) n F e x:=gE h λhs h=>⟨(ht h env).ok,hs⟩
theorem fN{xs:List PySem.Expr}{es:List E}(h:iO t c xs=some es)(env:Env):All2 (EvE (c.fr env) n F) es xs:=gB (λh=>ck ht h env) h
theorem pn{op:PySem.BoolOp}{ys:List PySem.Expr}:∀{e:E},qI t c op ys=some e→yw (c.fr env) n F op e ys:=by
 induction ys with
 | nil=>exact λh=>ns h
 | cons y ys ih =>
   refine λh=>bE h λa ha h=> ?_
   have s:=ht ha env
   cases ys with
   | nil=>exact Option.some.inj h▸E8 s.ok s.ts
   | cons z ys =>
    refine bE h λb hb h=> ?_
    cases op with
    | And=>exact Option.some.inj h▸E9 s.ok s.ts (ih hb)
    | Or=>exact Option.some.inj h▸G5 s.ok s.ts (ih hb)
theorem iU{x:Option PySem.Expr}(h:mF t c x=some e)(env:Env):vM (c.fr env) n F e x:=by
 cases x with
 | none=>exact Option.some.inj h▸CB
 | some x=>exact CA (ht h env).ok
theorem rQ{l:PySem.Expr}{ops:List PySem.CmpOp}{rs:List PySem.Expr}{pos:Pos}(h:p6 t c l ops rs=some e)(env:Env):SE1 (c.fr env) n F e (.Compare l ops rs pos):=bE h λa ha h=>by
 have sa:=ht ha env
 cases ops with
 | nil=>exact ns h
 | cons o ops=>cases ops with
  | nil=>cases rs with
   | nil=>exact ns h
   | cons r rs=>cases rs with
    | nil =>
      refine bE h λb hb h=>gE h λhm h=> ?_
      rw[←pf o] at hm⊢
      exact Option.some.inj h▸⟨FO hm sa.ok (ht hb env).ok,E6 hm sa.ok (ht hb env).ok,λ_ _ _ _ e=>PySem.Expr.noConfusion e⟩
    | cons=>exact ns h
  | cons o' ops=>cases ops with
   | nil=>cases rs with
    | nil=>exact ns h
    | cons r rs=>cases rs with
     | nil=>exact ns h
     | cons q rs=>cases rs with
      | nil =>
        refine bE h λb hb h=>bE h λd hd h=>gE h λhm h=> ?_
        rw[←pf o,←pf o'] at hm⊢
        exact Option.some.inj h▸⟨CK hm sa.ok (ht hb env).ok (ht hd env).ok,B8 hm sa.ok (ht hb env).ok (ht hd env).ok,λ_ _ _ _ e=>PySem.Expr.noConfusion e⟩
      | cons=>exact ns h
   | cons=>exact ns h
omit ht in
theorem mU{y:Option PySem.Expr×Option PySem.Expr×Option PySem.Expr}(h:iQ x=some y):∃p,x= .Slice y.1 y.2.1 y.2.2 p:=by
 cases x with
 | Slice l u st p=>exact⟨p,Option.some.inj h▸rfl⟩
 | _=>exact ns h
theorem yR{y sl:PySem.Expr}{pos:Pos}(h:En t c y sl=some e)(env:Env):Ev1 (c.fr env) n F e (.Subscript y sl pos):=bE h λa ha h=>by
 have sa:=ht ha env
 cases hs:iQ sl with
 | none =>
  rw[hs] at h
  exact bE h λb hb h=>Option.some.inj h▸⟨FK sa.ok (ht hb env).ok⟩
 | some q =>
  obtain⟨p,rfl⟩:=mU hs
  obtain⟨l,u,st⟩:=q
  rw[hs] at h
  cases st with
  | none=>exact bE h λlo hlo h=>bE h λhi hhi h=>Option.some.inj h▸⟨FD sa.ok (iU ht hlo env) (iU ht hhi env)⟩
  | some z =>
   refine gE h λhc h=> ?_
   obtain⟨k,p₁,p₂,rfl⟩:=xJ hc.2.2
   cases l with
   | some=>exact ft hc.1
   | none=>cases u with
    | some=>exact ft hc.2.1
    | none=>exact Option.some.inj h▸⟨FE sa.ok⟩
theorem vr{keys:List (Option PySem.Expr)}{xs:List PySem.Expr}{pos:Pos}(h:vT t c keys xs=some e)(env:Env):Ev1 (c.fr env) n F e (.Dict keys xs pos):=by
 cases keys with
 | nil=>exact ns h
 | cons k0 keys=>cases k0 with
  | none=>exact ns h
  | some k=>cases keys with
   | nil=>exact ns h
   | cons k' keys=>cases k' with
    | none=>exact ns h
    | some k'=>cases keys with
     | cons=>exact ns h
     | nil=>cases xs with
      | nil=>exact ns h
      | cons v xs=>cases xs with
       | nil=>exact ns h
       | cons v' xs=>cases xs with
        | cons=>exact ns h
        | nil=>exact bE h λa ha h=>bE h λb hb h=>bE h λd hd h=>bE h λe he h=>Option.some.inj h▸⟨FN (ht ha env).ok (ht hb env).ok (ht hd env).ok (ht he env).ok⟩
theorem ya{keys:List (Option PySem.Expr)}{xs:List PySem.Expr}{pos:Pos}(h:yG t c keys xs=some e)(env:Env):Ev1 (c.fr env) n F e (.Dict keys xs pos):=by
 cases keys with
 | nil=>cases xs with
  | nil=>exact Option.some.inj h▸⟨FM⟩
  | cons=>exact ns h
 | cons k0 keys =>
  have h:vS t c (k0::keys) xs (jJ (k0::keys))=some e:=h
  cases hw:jJ (k0::keys) with
  | some ks =>
   rw[hw] at h
   exact bE h λes hes h=>gE h λhc h=>Option.some.inj h▸⟨Ht (tW hw) hc.1 hc.2.1 hc.2.2.1 hc.2.2.2 (fN ht hes env)⟩
  | none =>
   rw[hw] at h
   exact vr ht h env
end
section
variable{n:Nat}{F:FT}{c:Cx}{e:E}{x:PySem.Expr}{nm:PySem.Str}{tt:Bool}
theorem ifE{α:Type}{p:Prop} [d:Decidable p]{x y:Option α}{r:α}{G:Prop}(h:(if p then x else y)=some r)(g0:p→x=some r→G)(g1:¬p→y=some r→G):G:=by
 cases d with
 | isTrue q=>exact g0 q h
 | isFalse q=>exact g1 q h
theorem Iu{α:Type}{es:List α}(h:es.length=1):∃e,es=[e]:=List.length_eq_one_iff.mp h
theorem D9{k:Nat}{b:BI}(h:Io nm k=some b):nm=bstr b∧(bstr b,bname b)∈iL:=by
 refine ifE h (λq e=> ?_) λ_ h=>ifE h (λq e=> ?_) λ_ h=>ifE h (λq e=> ?_) λ_ h=>ifE h (λq e=> ?_) λ_ h=>ifE h (λq e=> ?_) λ_ h=>ifE h (λq e=> ?_) λ_ h=>ifE h (λq e=> ?_) λ_ h=>ifE h (λq e=> ?_) λ_ h=>ifE h (λq e=> ?_) λ_ h=>ns h
 ·exact Option.some.inj e▸⟨q,.head _⟩
 ·exact Option.some.inj e▸⟨q,.tail _ (.head _)⟩
 ·exact Option.some.inj e▸⟨q,.tail _ (.tail _ (.head _))⟩
 ·exact Option.some.inj e▸⟨q,.tail _ (.tail _ (.tail _ (.head _)))⟩
 ·exact Option.some.inj e▸⟨q,.tail _ (.tail _ (.tail _ (.tail _ (.head _))))⟩
 ·exact Option.some.inj e▸⟨q,.tail _ (.tail _ (.tail _ (.tail _ (.tail _ (.head _)))))⟩
 ·exact Option.some.inj e▸⟨q,.tail _ (.tail _ (.tail _ (.tail _ (.tail _ (.tail _ (.head _))))))⟩
 ·have:(toS "min",Value.builtin "min")∈iL:= .tail _ (.tail _ (.tail _ (.tail _ (.tail _ (.tail _ (.tail _ (.head _)))))))
  rw[←Option.some.inj e]
  by_cases z:k=1
  ·rw[if_pos z];exact⟨q,this⟩
  ·rw[if_neg z];exact⟨q,this⟩
 ·have:(toS "max",Value.builtin "max")∈iL:= .tail _ (.tail _ (.tail _ (.tail _ (.tail _ (.tail _ (.tail _ (.tail _ (.head _))))))))
  rw[←Option.some.inj e]
  by_cases z:k=1
  ·rw[if_pos z];exact⟨q,this⟩
  ·rw[if_neg z];exact⟨q,this⟩
variable{t:Trn}(ht:∀{c x e},t c x=some e→∀env,SE1 (c.fr env) n F e x)(G:Gf n F)
include ht G
theorem vB{xs:List PySem.Expr}{p pos:Pos}(h:vV t c nm xs=some e)(env:Env):Ev1 (c.fr env) n F e (.Call (.Name nm p) xs [] pos):=bE h λes hes h=>gE h λhg h=>by
 have hs:=fN ht hes env
 cases hf:DR.lookup nm with
 | some f =>
  rw[hf] at h
  obtain⟨a,k1,k2,k3⟩:=G.fn _ (mem_of_lookup hf)
  exact Option.some.inj h▸⟨CL (i6 hg env (.inl k1)) k2 k3 hs⟩
 | none =>
  rw[hf] at h
  cases hk:GK.lookup nm with
  | some k =>
   rw[hk] at h
   obtain⟨k1,k2,an,k3,k4⟩:=G.cl _ (mem_of_lookup hk)
   exact Option.some.inj h▸⟨Hs k1 k3 k4 (i6 hg env (.inl k2)) hs⟩
  | none =>
   rw[hk] at h
   refine bE h λb hb h=> ?_
   obtain⟨k1,k2⟩:=D9 hb
   rw[k1] at hg⊢
   exact Option.some.inj h▸⟨Hu y5 (i6 hg env (.inr (G.bi _ k2))) hs⟩
omit ht G in
theorem uQ{m:MT}(hm:is1 m=true){o e:E}{ox x:PySem.Expr}{env:Env}{apos pos:Pos}(hs:e6 ox=true)(hl:(apos.endLine==pos.line)=true)(ho:bS (c.fr env) n F o ox)(h:EvE (c.fr env) n F e x) :
  Ev1 (c.fr env) n F (.meth m o [e]) (.Call (.Attribute ox (wy m) apos) [x] [] pos):=by
 cases m with
 | append=>exact⟨xE hs hl ho h⟩
 | extend=>exact⟨xD hs hl ho h⟩
 | pop=>exact⟨FF hs hl ho h⟩
 | index=>exact⟨zS hs hl ho h⟩
 | update=>exact⟨xC hs hl ho h⟩
 | join=>exact⟨CH hs hl ho h⟩
 | get=>exact ft hm
 | startsEven=>exact ft hm
theorem vC{ox:PySem.Expr}{apos pos:Pos}{xs:List PySem.Expr}(h:vW t c ox nm apos pos xs=some e)(env:Env):Ev1 (c.fr env) n F e (.Call (.Attribute ox nm apos) xs [] pos):=bE h λo ho h=>gE h λhc h=>by
 have so:=ht ho env
 cases hf:DP.lookup nm with
 | some f =>
  rw[hf] at h
  refine bE h λes hes h=>gE h λh30 h=> ?_
  obtain⟨a,k1,k2,k3,k4,k5,k6⟩:=G.me _ (mem_of_lookup hf)
  exact Option.some.inj h▸⟨zR hc.1 h30 hc.2 so.ok (fN ht hes env) k1 k2 k3 k4 k5 k6⟩
 | none =>
  rw[hf] at h
  cases xs with
  | nil=>exact ns h
  | cons x xs=>cases xs with
   | nil =>
    have h:G0 t c o nm x (mt1 nm)=some e:=h
    cases hm:mt1 nm with
    | some m =>
     rw[hm] at h
     refine bE h λa ha h=> ?_
     obtain⟨k,k'⟩:=ar.mp (fK hm).1
     rw[←bF.mp k]
     exact Option.some.inj h▸uQ k' hc.1 hc.2 so.ok (ck ht ha env)
    | none =>
     rw[hm] at h
     refine gE h λhh hF=> ?_
     obtain⟨k,p,rfl⟩:=x8 hh.2
     rw[hh.1]
     exact Option.some.inj hF▸⟨CJ hc.1 hc.2 so.ok⟩
   | cons y xs=>cases xs with
    | nil =>
     refine bE h λa ha h=>bE h λb hb h=>gE h λhh h=> ?_
     rw[hh]
     exact Option.some.inj h▸⟨FL hc.1 hc.2 so.ok (ck ht ha env) (ck ht hb env)⟩
    | cons=>exact ns h
theorem yg{f:PySem.Expr}{xs:List PySem.Expr}{kws:List Keyword}{pos:Pos}(h:yH t c f xs kws pos=some e)(env:Env):Ev1 (c.fr env) n F e (.Call f xs kws pos):=by
 cases kws with
 | cons=>exact ns h
 | nil=>cases f with
  | Name nm p=>exact vB ht G h env
  | Attribute ox nm apos=>exact vC ht G h env
  | _=>exact ns h
omit ht G in
theorem ff{x:PySem.Expr}{r:PySem.Str}(h:eG x=some r):∃p,x= .Name r p:=by
 cases x with
 | Name s p=>exact⟨p,Option.some.inj h▸rfl⟩
 | _=>exact ns h
omit ht G in
theorem lG{x:PySem.Expr}{q:PySem.Expr×List PySem.Expr}(h:vA x=some q):∃pos,x= .Call q.1 q.2 [] pos:=by
 cases x with
 | Call f xs kws pos=>cases kws with
  | nil=>exact⟨pos,Option.some.inj h▸rfl⟩
  | cons=>exact ns h
 | _=>exact ns h
omit ht G in
theorem uh{xs:List PySem.Expr}{q:PySem.Expr×PySem.Expr×PySem.Expr}(h:three xs=some q):xs=[q.1,q.2.1,q.2.2]:=by
 cases xs with
 | nil=>exact ns h
 | cons u xs=>cases xs with
  | nil=>exact ns h
  | cons v xs=>cases xs with
   | nil=>exact ns h
   | cons w xs=>cases xs with
    | nil=>exact Option.some.inj h▸rfl
    | cons=>exact ns h
omit ht G in
theorem xu{y:PySem.Expr}{q:PySem.Expr×PySem.Expr×PySem.Expr}(h:Fq c y=some q):∃p pos,y= .Call (.Name (toS "range") p) [q.1,q.2.1,q.2.2] [] pos∧kI c (toS "range"):=bE h λz hz h=>bE h λr hr h=>gE h λhg h4=>by
 obtain⟨pos,rfl⟩:=lG hz
 obtain⟨f,xs⟩:=z
 obtain⟨p,e⟩:=ff hr
 exact⟨p,pos,by rw[show f=_ from e,hg.2,show xs=_ from uh h4],hg.2▸hg.1⟩
structure It1(P:Fr)(n:Nat)(F:FT)(tt:Bool)(e:E)(x:PySem.Expr):Prop where
 ok:jH P n F tt e x
theorem AE{xs:List PySem.Expr}{p pos:Pos}(h:Es t c tt nm xs=some e)(env:Env):It1 (c.fr env) n F tt e (.Call (.Name nm p) xs [] pos):=gE h λhg h=>by
 have gl:∀{nm':PySem.Str} {v:Value},nm=nm'→(nm',v)∈iL→Glob (c.fr env) nm' v:=λe hv=>i6 (e▸hg.1) env (.inr (G.bi _ hv))
 have rg:(toS "range",Value.type "range")∈iL:= .tail _ (.tail _ (.tail _ (.tail _ (.tail _ (.tail _ (.tail _ (.tail _ (.tail _ (.head _)))))))))
 have en:(toS "enumerate",Value.type "enumerate")∈iL:= .tail _ (.tail _ (.tail _ (.tail _ (.tail _ (.tail _ (.tail _ (.tail _ (.tail _ (.tail _ (.head _))))))))))
 have zi:(toS "zip",Value.type "zip")∈iL:= .tail _ (.tail _ (.tail _ (.tail _ (.tail _ (.tail _ (.tail _ (.tail _ (.tail _ (.tail _ (.tail _ (.head _)))))))))))
 have tr:nm≠toS "range" →tt=true:=λk=>hg.2.resolve_left k
 cases xs with
 | nil=>exact ns h
 | cons x xs=>cases xs with
  | nil=>exact bE h λa ha h=>ifE h (λq h=>q▸Option.some.inj h▸⟨wF (gl q rg) (ck ht ha env)⟩) λk h=>gE h λq h=>tr k▸q▸Option.some.inj h▸⟨Dl (gl q en) (ck ht ha env)⟩
  | cons y xs=>cases xs with
   | nil =>
    refine bE h λa ha h=>ifE h (λq h=>bE h λb hb h=>q▸Option.some.inj h▸⟨tc (gl q rg) (ck ht ha env) (ck ht hb env)⟩) λk h=>gE h λq h=> ?_
    rw[tr k,q]
    cases hr:Fq c y with
    | none =>
     rw[hr] at h
     exact bE h λb hb h=>Option.some.inj h▸⟨Gm (gl q zi) (ck ht ha env) (ck ht hb env)⟩
    | some y3 =>
     rw[hr] at h
     obtain⟨p',pos',rfl,hg'⟩:=xu hr
     exact bE h λb hb h=>bE h λd hd h=>bE h λe he h=>Option.some.inj h▸⟨Di (gl q zi) (i6 hg' env (.inr (G.bi _ rg))) (ck ht ha env) (ck ht hb env) (ck ht hd env) (ck ht he env)⟩
   | cons z xs=>cases xs with
    | nil=>exact bE h λa ha h=>bE h λb hb h=>bE h λd hd h=>gE h λq h=>q▸Option.some.inj h▸⟨HY (gl q rg) (ck ht ha env) (ck ht hb env) (ck ht hd env)⟩
    | cons=>exact ns h
theorem wE(h:B9 t c tt x=some e)(env:Env):It1 (c.fr env) n F tt e x:=by
 unfold B9 at h
 cases hx:AD x with
 | none =>
  rw[hx] at h
  exact bE h λa ha h=>Option.some.inj h▸⟨rB (ht ha env).ok⟩
 | some q =>
  rw[hx] at h
  refine bE hx λz hz hx=>bE hx λr hr hx=>gE hx λ_ hF=> ?_
  obtain⟨pos,rfl⟩:=lG hz
  obtain⟨f,xs⟩:=z
  obtain⟨p,e'⟩:=ff hr
  rw[show f=_ from e']
  rw[←Option.some.inj hF] at h
  exact AE ht G h env
omit ht G in
theorem DV{l:Ctx}(h:Ii l=true):CtxOk l:=by
 have k:∀{e e'},e∈l→e'∈l→_:=λ{e e'} he he'=>ar.mp (List.all_eq_true.mp (List.all_eq_true.mp h e he) e' he')
 have no:∀{α:Type} [BEq α] [LawfulBEq α] {a b:α},a=b→¬(a !=b)=true:=λe z=>ft ((e▸bne_self_eq_false _:_=false).symm.trans z)
 refine⟨λe e' he he' q=>bF.mp ((Bool.or_eq_true_iff.mp (k he he').1).resolve_left (no q)),λe e' he he' b b' q=> ?_⟩
 refine bF.mp ((Bool.or_eq_true_iff.mp (k he he').2).resolve_left λz=>(Bool.or_eq_true_iff.mp z).elim (λz=>(Bool.or_eq_true_iff.mp z).elim (λz=> ?_) λz=> ?_) (no q))
 ·rw[b] at z;exact ft z
 ·rw[b'] at z;exact ft z
omit ht G in
theorem kY{sc':Scope}{ps:List (Nat×PySem.Str)}{sl:List Nat}(h:BF c sc' ps sl=true)(env:Env):CompSc (c.fr env) sc' ps sl:=by
 obtain⟨h,h4⟩:=ar.mp h
 obtain⟨h,h3⟩:=ar.mp h
 obtain⟨h1,h2⟩:=ar.mp h
 have ne:∀{α:Type} [BEq α] [LawfulBEq α] {a b:α},(a !=b)=true→a≠b:=λh=>bne_iff_ne.mp h
 have k:∀y∈sc'.names,(y.2= .local∧sc'.names.lookup y.1=some .local)∨(y.2= .free∧c.sc.names.lookup y.1=some .cell)∨(y.2≠ .cell∧y.2≠ .local∧y.2≠ .free):=λy hy =>
  (Bool.or_eq_true_iff.mp (List.all_eq_true.mp h2 y hy)).elim (λz=>(Bool.or_eq_true_iff.mp z).elim (λz=> .inl ((ar.mp z).imp bF.mp bF.mp)) λz=> .inr (.inl ((ar.mp z).imp bF.mp bF.mp)))
   λz=> .inr (.inr ((ar.mp z).elim λz z3=>(ar.mp z).elim λz1 z2=>⟨ne z1,ne z2,ne z3⟩))
 have nk:∀{a b:NameKind},a=b→(a==b)=false→False:=λe h=>ft (h.symm.trans (bF.mpr e))
 exact⟨bF.mp h1,λy hy e=>(k y hy).elim (λz=>NameKind.noConfusion (z.1.symm.trans e)) λz=>z.elim (λz=>NameKind.noConfusion (z.1.symm.trans e)) λz=>z.1 e,
  λy hy e=>(k y hy).elim (λz=>z.2) λz=>z.elim (λz=>NameKind.noConfusion (z.1.symm.trans e)) λz=>absurd e z.2.1,
  λy hy e=>(k y hy).elim (λz=>NameKind.noConfusion (z.1.symm.trans e)) λz=>z.elim (λz=>z.2) λz=>absurd e z.2.2,
  DV h3,λq hq=>List.contains_iff_mem.mp (List.all_eq_true.mp h4 q hq)⟩
omit ht G in
theorem sH{L:Bool}{p:Pat}(h:zJ c L x=some p)(env:Env):Tgt (c.fr env) L x p:=by
 cases x with
 | Name s p=>exact bE h λi hi h=>Option.some.inj h▸ .one (eI hi env)
 | Tuple ts k p=>exact bE h λis his h=>Option.some.inj h▸ .many (gB (λ{y i} h=>bE h λr hr h=>(ff hr).elim λp e=>⟨r,p,e,eI h env⟩) his)
 | _=>exact ns h
end
section
variable{n:Nat}{F:FT}{c:Cx}{e:E}{x:PySem.Expr}
variable{t:Trn}(ht:∀{c x e},t c x=some e→∀env,SE1 (c.fr env) n F e x)(G:Gf n F)
include ht G
omit ht G in
theorem Gu{g:Comprehension}(h:g.is_async=0):g=⟨g.target,g.iter,g.ifs,0⟩:=by
 obtain⟨a,b,d,i⟩:=g
 exact congrArg (Comprehension.mk a b d) h
theorem kJ{ci:Cx}{g:Comprehension}{k:Pat→E→Option E}(h:rq t c ci g k=some e){R:Prop}(r:∀p it,g=⟨g.target,g.iter,g.ifs,0⟩→iw g.iter=true→(∀env',Tgt (ci.fr env') true g.target p)→(∀env,It1 (c.fr env) n F (jR p) it g.iter)→k p it=some e→R):R :=
 gE h λhc h=>bE h λp hp h=>bE h λit hit h=>r p it (Gu hc.1) hc.2 (sH hp) (wE ht G hit) h
theorem Aw{elt:PySem.Expr}{g:Comprehension}{sc':Scope}{pos:Pos}(h:Er t c elt g sc'=some e)(env:Env):LcOk (c.fr env) n F e (lcE elt [g] sc' pos):=bE h λnms hns h=>bE h λa ha h=>kJ ht G h λp it eg hs tg si h=>gE h λhc h=>by
 rw[eg]
 generalize g.ifs=ifs at h⊢
 cases ifs with
 | nil=>exact Option.some.inj h▸Dg (kY hc env) tg (si env).ok hs λenv'=>(ht ha env').ok
 | cons tx ifs=>cases ifs with
  | nil=>exact bE h λq hq h=>Option.some.inj h▸xS (kY hc env) tg (si env).ok hs (λenv'=>(ht ha env').ok) λenv'=>(ht hq env').ts
  | cons=>exact ns h
theorem Av{elt:PySem.Expr}{g g':Comprehension}{sc':Scope}{pos:Pos}(h:Ep t c elt g g' sc'=some e)(env:Env):LcOk (c.fr env) n F e (lcE elt [g,g'] sc' pos):=bE h λnms hns h=>bE h λnms' hns' h=>bE h λa ha h=>gE h λhe h=>kJ ht G h λp it eg hs tg si h=>kJ ht G h λp' it' eg' hs' tg' si' h=>gE h λhc h=>by
 rw[eg,eg',List.isEmpty_iff.mp he]
 generalize g'.ifs=ifs at h⊢
 cases ifs with
 | nil=>exact ns h
 | cons tx ifs=>cases ifs with
  | nil=>exact bE h λq hq h=>Option.some.inj h▸Au (kY hc env) tg (si env).ok hs tg' (λenv'=>(si' env').ok) hs' (λenv'=>(ht ha env').ok) λenv'=>(ht hq env').ts
  | cons=>exact ns h
theorem wC{elt:PySem.Expr}{gens:List Comprehension}{sc':Scope}{pos:Pos}(h:G1 t c elt gens sc'=some e)(env:Env):LcOk (c.fr env) n F e (.ListComp elt gens sc' pos):=by
 cases gens with
 | nil=>exact ns h
 | cons g gens=>cases gens with
  | nil=>exact Aw ht G h env
  | cons g' gens=>cases gens with
   | nil=>exact Av ht G h env
   | cons=>exact ns h
omit ht in
theorem CV{nm:PySem.Str}{p:Pos}(h:uf c nm=some e)(env:Env):Ev1 (c.fr env) n F e (.Name nm p):=by
 unfold uf at h
 cases hv:yC c nm with
 | some i =>
  rw[hv] at h
  obtain⟨k1,k2,k3⟩:=ua hv env
  exact Option.some.inj h▸⟨Fy k1 k2 k3⟩
 | none =>
  rw[hv] at h
  refine gE h λhg h=>xO h λv hl e=> ?_
  obtain⟨u,k1,k2⟩:=G.gc _ (mem_of_lookup hl)
  exact e▸⟨CI (i6 hg env (.inl k1)) k2⟩
theorem x7(h:tsE t c x=some e)(env:Env):SE1 (c.fr env) n F e x:=by
 cases x with
 | Constant v k p=>exact xO h λa ha e=>e▸ .pl (vy ha) rfl λ_ _ _ _ e=>PySem.Expr.noConfusion e
 | Name nm p =>
  exact .pl (CV G h env).ok rfl λ_ _ _ _ e=>PySem.Expr.noConfusion e
 | Attribute y nm p=>exact bE h λa ha h=>bE h λq hq h=>gE h λhs h=>Option.some.inj h▸ .pl (CN (oL hq) hs (ht ha env).ok) rfl λ_ _ _ _ e=>PySem.Expr.noConfusion e
 | BinOp l o r p=>exact bE h λop ho h=>bE h λa ha h=>bE h λb hb h=>tP ho▸Option.some.inj h▸ .pl (FP (ht ha env).ok (ht hb env).ok) rfl λ_ _ _ _ e=>PySem.Expr.noConfusion e
 | UnaryOp o y p =>
  refine bE h λa ha h=> ?_
  cases o with
  | Not=>exact Option.some.inj h▸⟨FG (ht ha env).ok,E4 (ht ha env).ts,λ_ _ _ _ e=>PySem.Expr.noConfusion e⟩
  | USub=>exact Option.some.inj h▸ .pl (FH (ht ha env).ok) rfl λ_ _ _ _ e=>PySem.Expr.noConfusion e
  | _=>exact ns h
 | BoolOp op ys p=>exact⟨(pn ht h).1,λa e q=>(pn ht h).2 a e q,λ_ _ _ _ e=>PySem.Expr.noConfusion e⟩
 | Compare l ops rs p=>exact rQ ht h env
 | IfExp q y z p=>exact bE h λd hd h=>bE h λa ha h=>bE h λb hb h=>Option.some.inj h▸⟨FI (ht hd env).ts (ht ha env).ok (ht hb env).ok,E5 (ht hd env).ts (ht ha env).ts (ht hb env).ts,λ_ _ _ _ e=>PySem.Expr.noConfusion e⟩
 | List xs p=>exact bE h λes hes h=>Option.some.inj h▸ .pl (CG (fN ht hes env)) rfl λ_ _ _ _ e=>PySem.Expr.noConfusion e
 | Tuple xs k p=>exact bE h λes hes h=>Option.some.inj h▸ .pl (Fz (fN ht hes env)) rfl λ_ _ _ _ e=>PySem.Expr.noConfusion e
 | Dict keys xs p=>exact .pl (ya ht h env).ok rfl λ_ _ _ _ e=>PySem.Expr.noConfusion e
 | Subscript y sl p=>exact .pl (yR ht h env).ok rfl λ_ _ _ _ e=>PySem.Expr.noConfusion e
 | Call f xs kws p=>exact .pl (yg ht G h env).ok rfl λ_ _ _ _ e=>PySem.Expr.noConfusion e
 | ListComp elt gens sc' p =>
  refine .pl (wC ht G h env).ok rfl λ_ _ _ _ e=> ?_
  exact wC ht G h env
 | _=>exact ns h
end
theorem yK{n:Nat}{F:FT}(G:Gf n F)(m:Nat):∀{c:Cx} {x:PySem.Expr} {e:E},trE m c x=some e→∀env,SE1 (c.fr env) n F e x:=by
 induction m with
 | zero=>exact λh=>ns h
 | succ m ih=>exact λh=>x7 ih G h
structure St1(P:Fr)(n:Nat)(F:FT)(s:S)(m:Sem Flow):Prop where
 ok:gY P n F s m
structure Ss1(P:Fr)(n:Nat)(F:FT)(s:List S)(m:Sem Flow):Prop where
 ok:rX P n F s m
section
variable{n:Nat}{F:FT}{c:Cx}{s:S}{e:E}
theorem kZ{x:PySem.Expr}{q:PySem.Expr×PySem.Str}(h:rT x=some q):∃p,x= .Attribute q.1 q.2 p:=by
 cases x with
 | Attribute y nm p=>exact⟨p,Option.some.inj h▸rfl⟩
 | _=>exact ns h
theorem xW{x:PySem.Expr}(h:HZ x=true):∃elt gens sc' pos,x= .ListComp elt gens sc' pos:=by
 cases x with
 | ListComp elt gens sc' pos=>exact⟨_,_,_,_,rfl⟩
 | _=>exact ft h
theorem ud{xs:List PySem.Expr}{q:PySem.Expr×PySem.Expr}(h:El xs=some q):xs=[q.1,q.2]:=by
 cases xs with
 | nil=>exact ns h
 | cons a xs=>cases xs with
  | nil=>exact ns h
  | cons b xs=>cases xs with
   | nil=>exact Option.some.inj h▸rfl
   | cons=>exact ns h
theorem sj{is:List Nat}{r:Option (Option (List PySem.Str))}(h:v7 c is r=true)(env:Env):r=some none∨∃names,r=some (some names)∧All2 (CanStore (c.fr env)) is names∧is.Nodup:=by
 cases r with
 | none=>exact ft h
 | some r=>cases r with
  | none=>exact .inl rfl
  | some names =>
   obtain⟨h1,h2⟩:=bA (show decide (jv (mH c false) names=some is∧is.Nodup)=true from h)
   exact .inr ⟨names,rfl,gB (λh=>(eI h env).1) h1,h2⟩
variable{t:Trn}(ht:∀{c x e},t c x=some e→∀env,SE1 (c.fr env) n F e x)(G:Gf n F)
include ht
theorem gH{q:PySem.Expr×PySem.Str}{o:E×Nat×Nat}(h:p5 t c q=some o):(cQ o.2.1)[o.2.2]? =some q.2∧∀env,SE1 (c.fr env) n F o.1 q.1:=bE h λa ha h=>bE h λp hp h=>Option.some.inj h▸⟨oL hp,ht ha⟩
omit ht in
theorem stE{P:Fr}{s':S}{m:Sem Flow}(h:some s'=some s)(k:St1 P n F s' m):St1 P n F s m:=Option.some.inj h▸k
omit ht in
theorem stM{P:Fr}{m m':Sem Flow}(em:m=m')(k:St1 P n F s m'):St1 P n F s m:=em▸k
theorem yt{v:PySem.Expr}{e:E}{env:Env}(hv:bS (c.fr env) n F e v)(hs:env.scope=c.sc){o:E×Nat×Nat}{y:PySem.Expr×PySem.Str}{p₁ p pos:Pos}{kk:Nat}{z:PySem.Expr}(ho:p5 t c y=some o)
  (hw:swaps c v (some (.Tuple [.Attribute y.1 y.2 p₁,z] kk p)) pos.line=some false) (hr:pureOf (swappedStores [.Tuple [.Attribute y.1 y.2 p₁,z] kk p] v (oZ c.sc))=some none) (h:yJ t c e o z (eG z)=some s) :
  St1 (c.fr env) n F s (exec (.Assign [.Tuple [.Attribute y.1 y.2 p₁,z] kk p] v pos) env):=by
 obtain⟨k1,k2⟩:=gH ht ho
 cases hx:eG z with
 | some x =>
  rw[hx] at h
  obtain⟨p2,rfl⟩:=ff hx
  exact bE h λi hi h=>stE h ⟨yY hs (of_pureOf hw) (of_pureOf hr) k1 (eI hi env).1 (k2 env).ok hv⟩
 | none =>
  rw[hx] at h
  refine bE h λq hq h=>bE h λo' ho' hF=> ?_
  obtain⟨p2,rfl⟩:=kZ hq
  obtain⟨k3,k4⟩:=gH ht ho'
  exact stE hF ⟨yZ hs (of_pureOf hw) (of_pureOf hr) k1 k3 (k2 env).ok (k4 env).ok hv⟩
theorem yq{v:PySem.Expr}{e:E}{env:Env}(hv:bS (c.fr env) n F e v)(hs:env.scope=c.sc){ts:List PySem.Expr}{p pos:Pos}{kk:Nat}(hw:swaps c v (some (.Tuple ts kk p)) pos.line=some false)
  (h:yI t c e ts (pureOf (swappedStores [.Tuple ts kk p] v (oZ c.sc))) (jv (λy=>(eG y).bind (mH c false)) ts)=some s):St1 (c.fr env) n F s (exec (.Assign [.Tuple ts kk p] v pos) env):=by
 cases hm:jv (λy=>(eG y).bind (mH c false)) ts with
 | some is =>
  rw[hm] at h
  exact gE h λhst h=>stE h ⟨Ci hs (of_pureOf hw) ((sj hst env).imp of_pureOf λ⟨names,k1,k2⟩=>⟨names,of_pureOf k1,k2⟩) (.many (gB (λ{y i} h=>bE h λr hr h=>(ff hr).elim λp e=>⟨r,p,e,eI h env⟩) hm)) hv⟩
 | none =>
  rw[hm] at h
  refine gE h λhr h=>bE h λq hq h=>bE h λa ha h=>bE h λo ho hF=> ?_
  obtain⟨t1,t2⟩:=q
  cases ud hq
  obtain⟨p1,e1⟩:=kZ ha
  cases(show t1=_ from e1)
  exact yt ht hv hs ho hw hr hF
theorem zj{v y sl:PySem.Expr}{e o:E}{env:Env}(hv:bS (c.fr env) n F e v)(hs:env.scope=c.sc){p pos:Pos}(hw:swaps c v (some (.Subscript y sl p)) pos.line=some false)(ho:bS (c.fr env) n F o y)
  (h:Eo t c e o sl (iQ sl)=some s):St1 (c.fr env) n F s (exec (.Assign [.Subscript y sl p] v pos) env):=by
 cases hx:iQ sl with
 | none =>
  rw[hx] at h
  exact bE h λi hi h=>stE h ⟨Cc hs (of_pureOf hw) ho (ht hi env).ok hv⟩
 | some q =>
  rw[hx] at h
  obtain⟨p',rfl⟩:=mU hx
  obtain⟨l,u,st⟩:=q
  cases st with
  | some=>exact ns h
  | none=>exact bE h λlo hlo h=>bE h λhi hhi h=>stE h ⟨yX hs (of_pureOf hw) ho (iU ht hlo env) (iU ht hhi env) hv⟩
set_option maxHeartbeats 2000000 in
theorem BU{v tg:PySem.Expr}{pos:Pos}{env:Env}(hv:SE1 (c.fr env) n F e v)(hs:env.scope=c.sc):∀{m:Sem Flow},Eu t c v pos.line e tg=some s→m=exec (.Assign [tg] v pos) env→St1 (c.fr env) n F s m:=by
 cases tg with
 | Name x p=>exact λh em=>bE h λi hi h=>gE h λhw h=>stE h (stM em (hw.elim (λhw=>⟨Fh hs (of_pureOf hw) (eI hi env).1 hv.ok⟩) λhw=>(xW hw.2).elim λa z=>z.elim λb z=>z.elim λd z=>z.elim λf e'=>⟨(hv.lc _ _ _ _ e').used hs (of_pureOf hw.1) (eI hi env).1⟩))
 | Tuple ts k p=>exact λh em=>gE h λhw h=>stM em (yq ht hv.ok hs hw h)
 | Attribute y nm p=>exact λh em=>gE h λhw h=>bE h λo ho h=>stE h (stM em ⟨Cd hs (of_pureOf hw) (gH ht ho).1 ((gH ht ho).2 env).ok hv.ok⟩)
 | Subscript y sl p=>exact λh em=>gE h λhw h=>bE h λo ho h=>stM em (zj ht hv.ok hs hw (ht ho env).ok h)
 | _=>exact λh _=>ns h
theorem BS{v tg:PySem.Expr}{op:BOp}(ha:td op=true){pos:Pos}{env:Env}(hv:bS (c.fr env) n F e v):∀{m:Sem Flow},Et t c op e tg=some s→m=exec (.AugAssign tg (rop op) v pos) env→St1 (c.fr env) n F s m:=by
 cases tg with
 | Name x p=>exact λh em=>bE h λi hi h=>gE h λhc h=>stE h (stM em ⟨Fg ha (eI hi env).1 hc hv⟩)
 | Attribute y nm p=>exact λh em=>bE h λo ho h=>stE h (stM em ⟨Ch ha (gH ht ho).1 ((gH ht ho).2 env).ok hv⟩)
 | _=>exact λh _=>ns h
include G
theorem xl{u:Cx→List Stmt→Option (List S)}(hu:∀{c b s},u c b=some s→∀env,env.scope=c.sc→Ss1 (c.fr env) n F s (execs b env)){st:Stmt}{env:Env}(hs:env.scope=c.sc):∀{m:Sem Flow},tsS t c u st=some s→m=exec st env→St1 (c.fr env) n F s m:=by
 cases st with
 | Assign tgs v pos =>
  refine λh em=>bE h λe he h=> ?_
  cases tgs with
  | nil=>exact ns h
  | cons tg tgs=>cases tgs with
   | nil=>exact BU ht (ht he env) hs h em
   | cons=>exact ns h
 | AugAssign tg op v pos=>exact λh em=>bE h λo ho h=>bE h λe he h=>gE h λha h=>BS ht ha (ht he env).ok h (tP ho▸em)
 | Expr v pos=>exact λh em=>bE h λe he h=>gE h λhw h=>stE h (stM em ⟨Hc hs (of_pureOf hw) (ht he env).ok⟩)
 | Return v pos=>cases v with
  | none=>exact λh em=>stE h (stM em ⟨Ce⟩)
  | some x=>exact λh em=>bE h λe he h=>stE h (stM em ⟨Fc (ht he env).ok⟩)
 | If x a b pos=>exact λh em=>bE h λe he h=>bE h λa ha h=>bE h λb hb h=>stE h (stM em ⟨Hb (ht he env).ts (hu ha env hs).ok (hu hb env hs).ok⟩)
 | For tg ix b els pos =>
  refine λh em=>bE h λp hp h=>bE h λit hit h=>bE h λb hb h=>gE h λhc h=>stE h ?_
  rw[em,List.isEmpty_iff.mp hc.2]
  exact⟨Ff (sH hp env) (wE ht G hit env).ok hc.1 (hu hb env hs).ok⟩
 | While x b els pos =>
  refine λh em=>bE h λe he h=>bE h λb hb h=>gE h λhc h=>stE h ?_
  rw[em,List.isEmpty_iff.mp hc]
  exact⟨yW (ht he env).ts (hu hb env hs).ok⟩
 | _=>exact λh _=>stE h ⟨Cf⟩
end
theorem yL{n:Nat}{F:FT}(G:Gf n F)(m:Nat):∀{c:Cx} {b:List Stmt} {s:List S},trB m c b=some s→∀env,env.scope=c.sc→Ss1 (c.fr env) n F s (execs b env):=by
 induction m with
 | zero=>exact λh=>ns h
 | succ m ih =>
  intro c b
  induction b with
  | nil=>exact λh env hs=>Option.some.inj h▸⟨Fe⟩
  | cons st b ihb=>exact λh env hs=>bE h λs hst h=>bE h λr hr h=>Option.some.inj h▸⟨Cg (xl (yK G 40) G ih hs hst rfl).ok (ihb hr env hs).ok⟩
theorem tj{d:Data}{fd:FuncData}(h:A0 d=some fd):d= .func fd:=by
 cases d with
 | func=>exact Option.some.inj h▸rfl
 | _=>exact ns h
theorem ut{d:Data}{q:List Value×Nat}(h:Ey d=some q):d= .seq q.1.toArray q.2:=by
 cases d with
 | seq items n=>exact Option.some.inj h▸rfl
 | _=>exact ns h
theorem m6{v:Value}{a:Addr}(h:zu v=some a):v= .ref a:=by
 cases v with
 | ref=>exact Option.some.inj h▸rfl
 | _=>exact ns h
theorem Ee{a:Arguments}(h:a.posonlyargs.isEmpty=true∧a.vararg.isNone=true∧a.kwonlyargs.isEmpty=true∧a.kwarg.isNone=true):a=⟨[],a.args,none,[],a.kw_defaults,none,a.defaults⟩:=by
 obtain⟨pa,as,va,ko,kd,kw,de⟩:=a
 obtain⟨h1,h2,h3,h4⟩:=h
 cases List.isEmpty_iff.mp h1
 cases Option.isNone_iff_eq_none.mp h2
 cases List.isEmpty_iff.mp h3
 cases Option.isNone_iff_eq_none.mp h4
 rfl
theorem ui{x:FuncBody}{b:List Stmt}(h:v8 x=some b):x= .stmts b:=by
 cases x with
 | stmts=>exact Option.some.inj h▸rfl
 | _=>exact ns h
theorem qp{K:Frag}{a:Addr}{q:FnQ}(h:Gx K a=some q):K.lookup a=some q.obj :=
 bE h λo ho h=>bE h λfd hfd h=>bE h λb hb h=>gE h λhc h=>by
  rw[←Option.some.inj h]
  refine ho.trans (congrArg some ?_)
  show Obj.mk o.cls o.dict o.data o.slots=_
  rw[tj hfd]
  show _=Obj.mk o.cls o.dict (.func (fnOf _ _ _ b _ _ _ _ _ _ _ _)) o.slots
  refine congrArg (λfd=>Obj.mk o.cls o.dict (.func fd) o.slots) ?_
  show FuncData.mk fd.name fd.qualname fd.params fd.body fd.scope fd.globals fd.closure fd.defaults fd.kwdefaults fd.doc fd.pyModule fd.annotations fd.code fd.closureTuple fd.builtins=_
  rw[ui hb,hc.2.1,hc.2.2.1,List.isEmpty_iff.mp hc.2.2.2]
  exact congrArg (λz=>FuncData.mk fd.name fd.qualname z (.stmts b) fd.scope mainGlobals [] fd.defaults fd.kwdefaults fd.doc fd.pyModule fd.annotations fd.code fd.closureTuple builtinsNs) (Ee hc.1)
theorem yb{K:Frag}{dV:Value}{D:List Value}(h:Bo K dV=some D):dV= .none∧D=[]∨∃T oT nT,dV= .ref T∧K.lookup T=some oT∧oT.data= .seq D.toArray nT:=by
 cases dV with
 | none=>exact .inl ⟨rfl,(Option.some.inj h).symm⟩
 | ref T=>exact bE h λo ho h=>bE h λq hq h=> .inr ⟨T,o,q.2,rfl,ho,Option.some.inj h▸ut hq⟩
 | _=>exact ns h
theorem yc{W:Wd}{v:Value}{d:V}(h:Ig v=some d):VR W d v:=by
 cases v with
 | none=>exact Option.some.inj h▸VR.none
 | bool b=>exact Option.some.inj h▸VR.bool b
 | _=>exact ns h
theorem xg{a:Addr}{nms:List PySem.Str}{fn:Fn}(h:E7 zK a nms=some fn):∃q,FnAt a fn nms q∧trB 30 ⟨q.sc,lE nms,nms.length⟩ q.body=some fn.body :=
 bE h λp hp h=>bE h λD hD h=>bE h λd hd h=>gE h λhc h=>bE h λb hb h=>Option.some.inj h▸
  ⟨p,⟨qp hp,hc.1,hc.2.1,rfl,⟨D,hc.2.2.1,gB yc hd,yb hD⟩,hc.2.2.2.1,hc.2.2.2.2.1,hc.2.2.2.2.2.1,hc.2.2.2.2.2.2.1,hc.2.2.2.2.2.2.2⟩,hb⟩
theorem xa{x:PySem.Expr}(h:AG x=true):∃k p,x= .Constant (.int 0) k p:=by
 cases x with
 | Constant v k p=>cases v with
  | int i=>exact⟨k,p,by rw[bA (show decide (i=0)=true from h)]⟩
  | _=>exact ft h
 | _=>exact ft h
theorem vH{s:Stmt}{q:PySem.Expr×PySem.Expr}(h:ER s=some q):∃pos,s= .Assign [q.1] q.2 pos:=by
 cases s with
 | Assign ts v pos=>cases ts with
  | nil=>exact ns h
  | cons t ts=>cases ts with
   | nil=>exact⟨pos,Option.some.inj h▸rfl⟩
   | cons=>exact ns h
 | _=>exact ns h
theorem vg{an:List PySem.Str}{sc:Scope}{f:PySem.Str}{j:Nat}{st:Stmt}{u:Unit}(h:EK an sc f j st=some u):∃sp ap v pos,st= .Assign [.Attribute (.Name ("self" :PySem.Str) sp) f ap] v pos∧EJ an sc j v (eG v)=true :=
 bE h λq hq h=>bE h λy hy h=>bE h λz hz h=>gE h λhc _=>by
  obtain⟨pos,e0⟩:=vH hq
  obtain⟨p1,e1⟩:=kZ hy
  obtain⟨p2,e2⟩:=ff hz
  exact⟨p2,p1,q.2,pos,by rw[e0,e1,e2,hc.1,hc.2.1],hc.2.2⟩
theorem vi{an:List PySem.Str}{sc:Scope}{fs:List PySem.Str}:∀{j:Nat} {b:List Stmt},AO an sc fs j b=true→InitB an sc fs j b:=by
 induction fs with
 | nil=>exact λh=>List.isEmpty_iff.mp h▸ .nil
 | cons f fs ih =>
  intro j b h
  cases b with
  | nil=>exact ft h
  | cons st r =>
   obtain⟨h1,h2⟩:=ar.mp h
   obtain⟨u,hu⟩:=Option.isSome_iff_exists.mp h1
   obtain⟨sp,ap,v,pos,rfl,k3⟩:=vg hu
   cases hv:eG v with
   | some y =>
    rw[hv] at k3
    obtain⟨p3,rfl⟩:=ff hv
    have hc:=bA k3
    exact .arg hc.1 hc.2.1 hc.2.2 (ih h2)
   | none =>
    rw[hv] at k3
    have hc:=bA k3
    obtain⟨k,p3,rfl⟩:=xa hc.1
    exact .zero hc.2 (ih h2)
theorem BG{C:Addr}{c:Nat}(h:It zK C c):ClsOk C c:=⟨h.1,h.2.1,h.2.2.1,λnm hn=>⟨(h.2.2.2 nm hn).1,(h.2.2.2 nm hn).2.1,by
 have j3:=(h.2.2.2 nm hn).2.2
 cases hf:findIn zK (.ref C) nm with
 | none=>rw[hf] at j3;exact ft j3
 | some attr=>rw[hf] at j3;exact⟨attr,rfl,j3⟩⟩⟩
theorem ww{c:Nat}{u:Unit}(h:Ah zK c=some u):ClsOk (zc c) c∧MkAt c (vJ c)∧g9 zK (if c=0 then toS "Cell" else toS "LayoutReading")=some (zc c):=bE h λfI hI h=>bE h λp hp h=>gE h λh1 h=>gE h λh2 h=>gE h λh3 _=>by
 refine⟨BG h2,⟨h1.1,⟨fI,?_,h3.1,p,qp hp,h3.2.1,h3.2.2.1,h3.2.2.2.1,h3.2.2.2.2.1,h3.2.2.2.2.2.1,h3.2.2.2.2.2.2.1,h3.2.2.2.2.2.2.2.1,h3.2.2.2.2.2.2.2.2.1,vi h3.2.2.2.2.2.2.2.2.2.1,h3.2.2.2.2.2.2.2.2.2.2⟩,h1.2.1⟩,?_⟩
 ·exact bE hI λv hv hr=>bE hr λw hw hr=>hv.trans (by rw[hw,m6 hr])
 ·obtain⟨a,ha⟩:=Option.isSome_iff_exists.mp h1.2.2
  rw[ha]
  exact congrArg some (show a=rS zK c by unfold rS;rw[ha];rfl)
theorem r7{W:Wd}{v:V}{u:Value}(h:vr1 v u=true):VR W v u:=by
 cases v with
 | int i=>cases u with
  | int j t=>exact bA (show decide (j=i)=true from h)▸VR.int _ _
  | _=>exact ft h
 | str k=>cases u with
  | str s t =>
   obtain⟨h1,rfl⟩:=bA (show decide (k<14∧s=eJ k)=true from h)
   exact⟨h1,t,rfl⟩
  | _=>exact ft h
 | bytes l=>cases u with
  | bytes b t =>
   obtain⟨h1,h2⟩:=bA (show decide (l.length≤lim∧KBw.bInts b=l)=true from h)
   exact VR.bytes t h2 h1
  | _=>exact ft h
 | _=>exact ft h
theorem xe{W:Wd}{vs:List V}:∀{us:List Value},E2 vs us=true→VRs W vs us:=by
 induction vs with
 | nil=>intro us h;cases us with
  | nil=>exact .nil
  | cons=>exact ft h
 | cons a vs ih=>intro us h;cases us with
  | nil=>exact ft h
  | cons b us=>exact .cons (r7 (ar.mp h).1) (ih (ar.mp h).2)
theorem iB{K:Frag}{nm:PySem.Str}{a:Addr}(h:g9 K nm=some a):nsIn K mainGlobals nm=some (some (.ref a)):=bE h λu hu h=>by
 cases u with
 | none=>exact ns h
 | some v=>cases v with
  | ref b=>exact Option.some.inj h▸hu
  | _=>exact ns h
theorem Dv{p:PySem.Str×V}(h:Dw zK p=true):∃u,nsIn zK mainGlobals p.1=some (some u)∧VR (W0 zK) p.2 u:=by
 unfold Dw at h
 cases hv:gM p.2 with
 | some vs =>
  rw[hv] at h
  obtain⟨u,hu⟩:=Option.isSome_iff_exists.mp h
  refine bE hu λa ha hu=>bE hu λl hl hu=>gE hu λhc _=>⟨_,iB ha,?_⟩
  rw[eY hv]
  exact VR.tup (List.mem_filterMap.mpr ⟨p.1,hc.1,by rw[ha,Option.bind_some,hl];rfl⟩) (xe hc.2.2) hc.2.1
 | none =>
  rw[hv] at h
  obtain⟨u,hu⟩:=Option.isSome_iff_exists.mp h
  exact bE hu λw hw hu=>bE hu λv hv' hu=>gE hu λhc _=>⟨v,hv'▸hw,r7 hc⟩
theorem wA{α β:Type}{f:α→Option β}{xs:List α}:∀{as:List β},jv f xs=some as→∀{i:Nat} {x:α},xs[i]? =some x→∃a,as[i]? =some a∧f x=some a:=by
 induction xs with
 | nil=>exact λ_ _ _ e=>ns e
 | cons y xs ih =>
  intro as h i x e
  refine bE h λa ha h=>bE h λl hl h=> ?_
  cases(Option.some.inj h).symm
  cases i with
  | zero=>exact⟨a,rfl,Option.some.inj e▸ha⟩
  | succ i=>exact ih hl (i:=i) e
section
variable(R:Run Z0)
include R
theorem uv{G:Prop}(g:(ClsOk (zc 0) 0∧MkAt 0 (vJ 0)∧g9 zK (toS "Cell")=some (zc 0))→(ClsOk (zc 1) 1∧MkAt 1 (vJ 1)∧g9 zK (toS "LayoutReading")=some (zc 1))→(∃o,zh.get? sysModules=some o)→(∀p∈DQ,Dw zK p=true)→(∀p∈iL,nsIn zK mainGlobals p.1=some none)→jv (Ez zK) rows=some defs→G):G :=
 bE R.ok λu hu h=>bE h λu' hu' h=>gE h λhc h=>g (ww hu) (ww hu') ((Option.isSome_iff_exists.mp hc.1).elim λo ho=>⟨o,R.X _ _ ho⟩) hc.2.1 hc.2.2 h
theorem Im:Bz:=uv R λk0 k1 ks kg kb km=>⟨R.X,R.lim,ks,λc hc=>by
 cases c with
 | zero=>exact k0.1
 | succ c=>cases c with
  | zero=>exact k1.1
  | succ c=>exact absurd hc (Nat.not_lt.mpr (bk 2 c)),R.g,R.b⟩
noncomputable def Lies(f:Nat)(a:Addr):Prop:=∃fn nms,defs[f]? =some fn∧E7 zK a nms=some fn
theorem mY{f:Nat}{b:Bool}{nm:PySem.Str}(h:(rows[f]?).map (λr=>(r.1,r.2.1))=some (b,nm)):∃a,(if b=true then uP zK nm else g9 zK nm)=some a∧keepIn zK (.ref a)=true∧Lies f a:=uv R λ_ _ _ _ _ km=>xO h λr hr e=>by
 obtain⟨fn,hfn,hrow⟩:=wA km hr
 cases(show b=r.1 from congrArg Prod.fst e)
 cases(show nm=r.2.1 from congrArg Prod.snd e)
 exact bE hrow λa ha h=>gE h λhk h=>⟨a,ha,hk,fn,r.2.2,hfn,h⟩
theorem H3{n:Nat}{F:FT}(hf:∀f a,Lies f a→jI n F f a):Gf n F:=uv R λk0 k1 _ kg kb _=>by
 have mg:∀{x v},nsIn zK mainGlobals x=some (some v)→zmg x=some v:=λh=>mg_of R.X R.g h
 refine⟨λp hp=> ?_,λp hp=> ?_,λp hp=> ?_,λp hp=> ?_,λp hp=> ?_⟩
 ·obtain⟨a,h1,h2,h3⟩:=mY R (qS p hp)
  exact⟨a,mg (iB h1),h2,hf _ _ h3⟩
 ·obtain⟨a,h1,h2,h3⟩:=mY R (Cr p hp)
  exact gE (show uP zK p.1=some a from h1) λhc h=>bE h λv hv h=>bE h λw hw h=>bE h λb hb h=>gE h λht h=>by
   cases(Option.some.inj h)
   exact⟨_,hc.1,hv.trans (by rw[hw,m6 hb]),ht,h2,hc.2,hf _ _ h3⟩
 ·refine(aE.mp hp).elim (λe=>e▸⟨Nat.zero_lt_two,mg (iB k0.2.2),_,k0.2.1,rfl⟩) λhp=> ?_
  rw[aI.mp hp]
  exact⟨Nat.one_lt_two,mg (iB k1.2.2),_,k1.2.1,rfl⟩
 ·obtain⟨u,h1,h2⟩:=Dv (kg p hp)
  exact⟨u,mg h1,h2⟩
 ·exact⟨mg_none_of R.X R.g (kb p hp),(R.bi _ (w3 p hp).2).trans (w3 p hp).1⟩
theorem BJ(n:Nat):∀f a,Lies f a→jI n (lH defs n) f a:=by
 induction n with
 | zero=>exact λf a _ {A σ c r args vals Q} _ _ _ _ e=>ns e
 | succ n ih =>
  intro f a h
  obtain⟨fn,nms,h1,h2⟩:=h
  obtain⟨q,h3,h4⟩:=xg h2
  exact yh h1 h3 λenv he=>(yL (H3 R ih) 30 h4 env he).ok
end
theorem ue{K:Frag}{a:Addr}{l:List Value}(h:yF K a=some l):K.lookup a=some (tpl l):=bE h λo ho h=>by
 obtain⟨cls,dict,data,slots⟩:=o
 cases cls with
 | type c=>cases dict with
  | some=>exact ns h
  | none=>cases data with
   | seq items n=>cases n with
    | succ=>exact ns h
    | zero =>
     obtain⟨items⟩:=items
     obtain⟨slots⟩:=slots
     cases slots with
     | cons=>exact ns h
     | nil=>exact ifE h (λe h=>by rw[ho,e,←Option.some.inj h]) λ_ h=>ns h
   | _=>exact ns h
 | _=>exact ns h
theorem Iz(R:Run Z0):Sim (W0 zK) [] zh:=by
 refine⟨Im R,rfl,λ_ _ _ e=>ns e,λ_ _ _ _ _ e=>ns e,λt ht=> ?_,λ_ _ e=>e,λ_ ⟨_,_,e,_⟩=>ns e⟩
 obtain⟨x,hx,h⟩:=List.mem_filterMap.mp ht
 exact bE h λa ha h=>xO h λl hl e=>by
  rw[e]
  exact R.X _ _ (ue hl)
noncomputable def kh:Prop:=∀l,Pre l→∃σ',lH defs wJ tD [.con l] []=some (.bool true,σ')
theorem BE(L:kh)(R:Run Z0):Concl Z0:=λA s a b it m l hs hg h1 h2 h3 hb ha hI hp=>by
 obtain⟨σ',e⟩:=L l hp
 obtain⟨b',hb',_,lies⟩:=mY R (b:=false) (qS (toS "law",tD) (by decide +kernel))
 cases Option.some.inj (hb.symm.trans hb')
 refine BJ R wJ tD b lies (c:=⟨W0 zK,s⟩) ⟨h1,h2,h3⟩ (hs▸Iz R) (.refl _) hg e (.cons ⟨ae hp (by decide),a,it,m,rfl,ha,hI⟩ .nil) λv' c' g rv=>⟨rv,λc o q=>g.sim.base c o ((congrArg (λh:Heap=>h.get? c) hs.symm).trans q),g.gens,g.os⟩
theorem Cp(L:kh){z:Zt}(R:Run z):Concl z:=Classical.byContradiction λn =>
 have k:Bad Z0:=Classical.epsilon_spec (p:=Bad) ⟨z,R,n⟩
 k.2 (BE L k.1)
end Mine.Internal
set_option backward.match.sparseCases false
namespace Mine.Internal.L
noncomputable def Ok{α:Type}(o:Option α)(Q:α→Prop):Prop:=∃x,o=some x∧Q x
theorem okR{α:Type}{x:α}{Q:α→Prop}(h:Q x):Ok (some x) Q:=⟨x,rfl,h⟩
theorem okE{α:Type}{o:Option α}{x:α}{Q:α→Prop}(e:o=some x)(h:Q x):Ok o Q:=⟨x,e,h⟩
theorem okM{α:Type}{o:Option α}{P Q:α→Prop}(h:Ok o P)(k:∀x,P x→Q x):Ok o Q:=h.elim λx y=>⟨x,y.1,k x y.2⟩
theorem okB{α β:Type}{o:Option α}{f:α→Option β}{Q:β→Prop}(h:Ok o λx=>Ok (f x) Q):Ok (o.bind f) Q:=by
 obtain⟨x,rfl,h⟩:=h;exact h
theorem c7{α β:Type}{o:Option α}{x:α}{f:α→Option β}{Q:β→Prop}(e:o=some x)(h:Ok (f x) Q):Ok (o.bind f) Q:=okB (okE e h)
@[irreducible] noncomputable def cf(n:Nat):FT:=lH defs n
theorem cf_eq(n:Nat):cf n=lH defs n:=by delta cf;rfl
theorem okF{n f:Nat}{args:List V}{σ:H}{fn:Fn}{le:Le}{Q:V×H→Prop}(hf:defs[f]? =some fn)(hl:gP fn args=some le)
  (h:Ok (bT (cf n) fn.body le σ dt) Q):Ok (cf (n+1) f args σ) Q:=by
 obtain⟨x,e,h⟩:=h
 rw[cf_eq] at e
 refine⟨x,?_,h⟩
 rw[cf_eq]
 show(defs[f]?).bind _=_
 rw[hf]
 show(gP fn args).bind _=_
 rw[hl]
 exact e
section
variable{β:Type}{σ:H}{Q:β→Prop}
theorem okI{c a:Nat}{fs:List V}{f:List V→Option β}(h:cC σ c a=some fs)(k:Ok (f fs) Q):Ok ((cC σ c a).bind f) Q:=c7 h k
theorem okL{a:Nat}{fs:List V}{f:List V→Option β}(h:bJ σ a=some fs)(k:Ok (f fs) Q):Ok ((bJ σ a).bind f) Q:=c7 h k
theorem okC{n g:Nat}{args:List V}{f:V×H→Option β}(h:Ok (cf n g args σ) λx=>Ok (f x) Q):Ok ((cf n g args σ).bind f) Q:=okB h
theorem fB{b:Bool}{x y:Option β}(h1:b=true→Ok x Q)(h2:b=false→Ok y Q):Ok (if b=true then x else y) Q:=by
 cases b with
 | true=>exact h1 rfl
 | false=>exact h2 rfl
theorem okT{b:Bool}{x y:Option β}(h:b=true)(k:Ok x Q):Ok (if b=true then x else y) Q:=by subst h;exact k
theorem okN{b:Bool}{x y:Option β}(h:b=false)(k:Ok y Q):Ok (if b=true then x else y) Q:=by subst h;exact k
theorem okG{c:Prop} [d:Decidable c]{x:Option β}(h:c)(k:Ok x Q):Ok (gd c x) Q:=by
 cases d with
 | isTrue=>exact k
 | isFalse n=>exact absurd h n
theorem uG{c:Prop}{x:Option β}(h:c)(k:Ok x Q):Ok (gp c x) Q:= @okG β Q c (Classical.propDecidable c) x h k
theorem okX{x y v:V}{f:V→Option β}(h:gD σ x y=some v)(k:Ok (f v) Q):Ok ((gD σ x y).bind f) Q:=c7 h k
theorem iu{op:COp}{x y:V}{v:Bool}{f:Bool→Option β}(h:cmpop op x y σ=some v)(k:Ok (f v) Q):Ok ((cmpop op x y σ).bind f) Q:=c7 h k
theorem dN{a:Nat}{xs:List V}{f:List V×Gd→Option β}(h:bJ σ a=some xs)(k:Ok (f (xs,[(a,xs)])) Q):Ok ((vf σ (.ref a)).bind f) Q:=c7 (by show(bJ σ a).bind _=_;rw[h];rfl) k
theorem fG{a:Nat}{xs:List V}{f:Int→Option β}(h:bJ σ a=some xs)(k:Ok (f xs.length) Q):Ok ((Ap σ (.ref a)).bind f) Q:=c7 (by show(bJ σ a).bind _=_;rw[h];rfl) k
theorem qV{is:List Int}{f:List Int→Option β}(k:Ok (f is) Q):Ok ((cT b9 (is.map V.int)).bind f) Q:=c7 (fZ (k:=V.int) (λ_=>rfl) is) k
theorem okJ{F:FT}{A B:E}{le:Le}{k:V→H→Option β}{b:Bool}(v:V)(σ':H)(h1:b=true→∀k:V→H→Option β,evK F A le σ k=k v σ')(h2:b=false→∀k:V→H→Option β,evK F B le σ k=k v σ')(h:Ok (k v σ') Q) :
  Ok (if b=true then evK F A le σ k else evK F B le σ k) Q:=fB (λe=>(h1 e k).symm▸h) λe=>(h2 e k).symm▸h
theorem Hy{F:FT}{c:E}{A B:List S}{le:Le}{k:Fl→Le→H→Option β}(t:Bool)(σ':H)(h:∀k:V→H→Option β,evK F c le σ k=k (.bool t) σ')(h1:t=true→Ok (bT F A le σ' k) Q)(h2:t=false→Ok (bT F B le σ' k) Q):Ok (exK F (.iff c A B) le σ k) Q:=by
 show Ok (evK F c le σ _) Q
 rw[h]
 exact fB h1 h2
theorem bnd{α:Type}{o:Option α}{x:α}{f:α→Option β}(h:o=some x):o.bind f=f x:=by rw[h];rfl
noncomputable def Own(σ:H)(L:List (Nat×O)):Prop:=(∀q∈L,σ[q.1]? =some q.2)∧(L.map Prod.fst).Nodup
noncomputable def Tr(X:List (Nat×O))(σ:H)(X':List (Nat×O))(σ':H):Prop:=∀L,Own σ (X++L)→Own σ' (X'++L)
noncomputable abbrev Kp(σ σ':H):Prop:=Tr [] σ [] σ'
noncomputable abbrev New(σ:H)(X:List (Nat×O))(σ':H):Prop:=Tr [] σ X σ'
theorem d9{σ:H}{L L':List (Nat×O)}(p:L.Perm L')(h:Own σ L):Own σ L':=⟨λq m=>h.1 q ((List.Perm.mem_iff p).mpr m),(p.map Prod.fst).nodup_iff.mp h.2⟩
theorem b7{σ:H}{X L:List (Nat×O)}(h:Own σ (X++L)):Own σ L:=⟨λq m=>h.1 q (ay _ m),(List.nodup_append.mp (au▸h.2)).2.1⟩
theorem eK{σ:H}{X L:List (Nat×O)}(h:Own σ (X++L)):Own σ X:=b7 (d9 ba h)
theorem pG{σ:H}{a:Nat}{o:O}(h:σ[a]? =some o):Own σ [(a,o)]:=⟨λq m=>by cases aI.mp m;exact h,aQ.mpr ⟨bm,.nil⟩⟩
theorem uE{σ:H}{L:List (Nat×O)}(h:Own σ L):∀a∈L.map Prod.fst,a<σ.length:=λa m=>by
 obtain⟨q,mq,rfl⟩:=bb.mp m
 exact(aM.mp (h.1 q mq)).1
theorem bM(σ:H)(o:O):New σ [(σ.length,o)] (σ++[o]):=λL h=>by
 refine⟨λq m=> ?_,aQ.mpr ⟨λm=>Nat.lt_irrefl _ (uE h _ m),h.2⟩⟩
 rcases aE.mp m with rfl|m
 ·exact List.getElem?_concat_length
 ·exact(List.getElem?_append_left (uE h q.1 (aK m))).trans (h.1 q m)
theorem dm{σ:H}{a:Nat}{o o':O}:Tr [(a,o)] σ [(a,o')] (σ.set a o'):=λL h=>by
 have n:=aQ.mp h.2
 refine⟨λq m=> ?_,h.2⟩
 rcases aE.mp m with rfl|m
 ·exact List.getElem?_set_self (uE h a (.head _))
 ·exact(List.getElem?_set_ne (λe=>n.1 (show a∈L.map Prod.fst from(show q.1=a from e.symm)▸(aK m:q.1∈L.map Prod.fst)))).trans (h.1 q (.tail _ m))
theorem Tr.trans{X Y Z:List (Nat×O)}{a b c:H}(h:Tr X a Y b)(k:Tr Y b Z c):Tr X a Z c:=λL o=>k L (h L o)
theorem Tr.rfl{X:List (Nat×O)}{a:H}:Tr X a X a:=λL o=>o
theorem Tr.perm{X X' Y Y':List (Nat×O)}{a b:H}(h:Tr X a Y b)(p:X'.Perm X)(q:Y.Perm Y'):Tr X' a Y' b:=λL o=>d9 (q.append_right L) (h L (d9 (p.append_right L) o))
theorem Tr.mid{X Y:List (Nat×O)}{a b:H}(h:Tr X a Y b)(A B:List (Nat×O)):Tr (A++(X++B)) a (A++(Y++B)) b:=λL o=>by
 have e:∀Z:List (Nat×O),(Z++(A++(B++L))).Perm ((A++(Z++B))++L):=λZ=>by
  rw[af,af]
  refine(ba (l₁:=Z)).trans ?_
  rw[af]
  exact ba.append_left A
 exact d9 (e Y) (h _ (d9 (e X).symm o))
theorem Tr.fr{X Y:List (Nat×O)}{a b:H}(h:Tr X a Y b)(B:List (Nat×O)):Tr (X++B) a (Y++B) b:=h.mid [] B
theorem Tr.dr{X Y Z:List (Nat×O)}{a b:H}(h:Tr X a (Y++Z) b):Tr X a Z b:=λL o=>b7 (X:=Y) (af Y Z L▸h L o)
theorem Tr.dl{X Y Z:List (Nat×O)}{a b:H}(h:Tr X a (Y++Z) b):Tr X a Y b:=λL o=>eK (L:=Z) (d9 (by rw[af,af];exact ba.append_left Y) (h L o))
theorem Tr.kp{X Y:List (Nat×O)}{a b c:H}(h:Tr X a Y b)(k:Tr [] b [] c):Tr X a Y c:=λL o=>k _ (h L o)
theorem Tr.and{X Y Z:List (Nat×O)}{a b c:H}(h:Tr X a Y b)(k:New b Z c):Tr X a (Z++Y) c:=λL o=>af Z Y L▸k _ (h L o)
theorem bI{X:List (Nat×O)}{σ σ':H}(h:New σ X σ'):Kp σ σ':=Tr.dr (Y:=X) (Z:=[]) (by rw[aw];exact h)
theorem Tr.get{X X':List (Nat×O)}{σ σ':H}(h:Tr X σ X' σ')(o:Own σ X):Own σ' X':=by
 have k:=h [] (by rw[aw];exact o)
 rwa [aw] at k
theorem cj{σ σ':H}(h:Kp σ σ'){a:Nat}{o:O}(e:σ[a]? =some o):σ'[a]? =some o:=(h _ (pG e)).1 _ (.head _)
theorem bH{a:Nat}{l:List V}(h:σ[a]? =some (.list l)):bJ σ a=some l:=by show(σ[a]?).bind asL=_;rw[h];rfl
theorem bU{a c:Nat}{l:List V}(h:σ[a]? =some (.inst c l)):cC σ c a=some l:=by
 show(σ[a]?).bind (asI c)=_
 rw[h]
 exact if_pos _root_.rfl
theorem bL{σ':H}(h:Kp σ σ'){a:Nat}{o:List V}(e:bJ σ a=some o):bJ σ' a=some o:=bH (cj h (bQ e))
theorem dE{σ':H}(h:Kp σ σ'){c a:Nat}{o:List V}(e:cC σ c a=some o):cC σ' c a=some o:=bU (cj h (oj e))
theorem bK{σ σ':H}{a:Nat}{o:O}{X:List (Nat×O)}(h:New σ ((a,o)::X) σ'):σ'[a]? =some o:=(h [] ⟨aj _,.nil⟩).1 _ (.head _)
theorem nR{σ':H}{a b:Nat}{o o':O}{X:List (Nat×O)}(h:New σ ((a,o)::X) σ')(e:σ[b]? =some o'):a≠b:=λq =>
 (aQ.mp (h _ (pG e)).2).1 (bb.mpr ⟨(b,o'),ay X (.head _),q.symm⟩)
theorem rcv{a:Nat}{xs:List V}(h:bJ σ a=some xs):im .append σ (.ref a)=true:=by show((bJ σ a).isSome)=true;rw[h];rfl
theorem Hm{a:Nat}{xs:List V}(h:bJ σ a=some xs):im .extend σ (.ref a)=true:=rcv h
noncomputable abbrev nn(k:Nat):Le:=List.replicate k none
theorem dq{α S:Type}{v:α→V}{p:Pat}{g:Gd}{f:Le→H→St}(lev:S→Le)(I:S→List α→H→Prop){Q:Fl×Le×H→Prop}
  (st:∀s x xs σ,I s (x::xs) σ→∃le1,fu p (v x) (lev s)=some le1∧∀Q':Fl×Le×H→Prop,(∀s' σ',cY σ' g→I s' xs σ'→Q' (.next,lev s',σ'))→(∀w le' σ',Q (.ret w,le',σ')→Q' (.ret w,le',σ'))→Ok (f le1 σ) Q')
  (fin:∀s σ,I s [] σ→Q (.next,lev s,σ)) {xs:List α} {s:S} {σ:H} (h:I s xs σ):Ok (jY p g f (xs.map v) (lev s) σ) Q:=by
 induction xs generalizing s σ with
 | nil=>exact okR (fin s σ h)
 | cons x xs ih =>
  obtain⟨le1,e,k⟩:=st s x xs σ h
  exact c7 e (okB (k _ (λs2 σ2 q1 q2=>uG q1 (ih q2)) λw le2 σ2 q=>okR q))
theorem ir{p:Pat}{g:Gd}{f:Le→H→St}{Q:Fl×Le×H→Prop}{l l':List V}{le:Le}{σ:H}(e:l=l')(h:Ok (jY p g f l' le σ) Q):Ok (jY p g f l le σ) Q:=e▸h
theorem wu{α S:Type}{v:α→V}{p:Pat}{g:Gd}{f:Le→H→Option (List V×H)}{Q:List V×H→Prop}(lev:S→Le)(I:S→List α→List V→H→Prop)
  (st:∀s x xs acc σ,I s (x::xs) acc σ→∃s1,fu p (v x) (lev s)=some (lev s1)∧∀Q':List V×H→Prop,(∀l σ' s',cY σ' g→lev s'=lev s1→I s' xs (acc++l) σ'→Q' (l,σ'))→Ok (f (lev s1) σ) Q')
  (fin:∀s l σ,I s [] l σ→Q (l,σ)) {xs:List α} {s:S} {σ:H} (h:I s xs [] σ):Ok (cy p g f (xs.map v) (lev s) σ) Q:=by
 suffices k:∀xs acc s σ,I s xs acc σ→Ok (cy p g f (xs.map v) (lev s) σ) λy=>Q (acc++y.1,y.2) from k xs [] s σ h
 intro xs
 induction xs with
 | nil=>exact λacc s σ h=>okR ((aw acc).symm▸fin s acc σ h)
 | cons x xs ih =>
  intro acc s σ h
  obtain⟨s1,e,k⟩:=st s x xs acc σ h
  refine c7 e (okB (k _ λl σ2 s2 q1 q2 q3=>uG q1 (okB (q2▸okM (ih _ s2 σ2 q3) λz qz=>okR ?_))))
  rw[←af]
  exact qz
theorem dB{α S:Type}{v:α→V}{p:Pat}{g:Gd}{f:Le→H→Option (List V×H)}{Q:List V×H→Prop}(lev:S→Le)(F:α→List V){xs:List α}{s:S}{σ:H}
  (hg:cY σ g) (st:∀x∈xs,∀s σ',Kp σ σ'→∃s1,fu p (v x) (lev s)=some (lev s1)∧∀Q':List V×H→Prop,(∀σ2,Kp σ' σ2→Q' (F x,σ2))→Ok (f (lev s1) σ') Q') (fin:∀σ',Kp σ σ'→Q (xs.flatMap F,σ')) :
  Ok (cy p g f (xs.map v) (lev s) σ) Q:=by
 refine wu lev (λs r acc σ'=>Kp σ σ'∧(∀x∈r,x∈xs)∧acc++r.flatMap F=xs.flatMap F) (λs x r acc σ' h=> ?_) (λs l σ' h=> ?_) ⟨.rfl,λ_ m=>m,rfl⟩
 ·obtain⟨k,m,e⟩:=h
  obtain⟨s1,e1,h1⟩:=st x (m x (.head _)) s σ' k
  refine⟨s1,e1,λR K1=>h1 _ λσ2 k2=> ?_⟩
  have k2:=k.trans k2
  exact K1 _ _ s1 (λq hq=>cj k2 (hg q hq)) rfl ⟨k2,λy my=>m y (.tail _ my),(af _ _ _).trans e⟩
 ·have e:=h.2.2
  rw[List.flatMap_nil,aw] at e
  exact e▸fin σ' h.1
theorem zU{S:Type}{c:Le→H→Option (Bool×H)}{f:Le→H→St}{Q:Fl×Le×H→Prop}(lev:S→Le)(I:Nat→S→H→Prop)
  (st:∀m s σ,I m s σ→∀R:Bool×H→Prop,(∀σ',(∀R2:Fl×Le×H→Prop,(∀m' s' σ2,m'<m→I m' s' σ2→R2 (.next,lev s',σ2))→Ok (f (lev s) σ') R2)→R (true,σ'))→(∀σ',Q (.next,lev s,σ')→R (false,σ'))→Ok (c (lev s) σ) R)
  {n m:Nat} {s:S} {σ:H} (h:I m s σ) (l:m<n):Ok (mD c f n (lev s) σ) Q:=by
 induction n generalizing m s σ with
 | zero=>exact absurd l (Nat.not_lt_zero _)
 | succ n ih=>exact okB (st m s σ h _ (λσ1 k=>okB (k _ λm' s' σ2 l' i=>ih i (be l' (Nat.le_of_lt_succ l)))) λσ1 q=>okR q)
variable{F:FT}{e:E}{rest A B:List S}{le:Le}{K:Fl→Le→H→Option β}{i:Nat}
theorem oA(h:∀k:V→H→Option β,(∀v σ',Ok (bT F rest (le.set i (some v)) σ' K) Q→Ok (k v σ') Q)→Ok (evK F e le σ k) Q):Ok (bT F (.asg i e::rest) le σ K) Q:=h _ λ_ _ x=>x
theorem oT{is:List Nat}(h:∀k:V→H→Option β,(∀v le' σ',fu (.many is) v le=some le'→Ok (bT F rest le' σ' K) Q→Ok (k v σ') Q)→Ok (evK F e le σ k) Q):Ok (bT F (.asgT is e::rest) le σ K) Q:=h _ λ_ _ _ e x=>c7 e x
theorem oE(h:∀k:V→H→Option β,(∀v σ',Ok (bT F rest le σ' K) Q→Ok (k v σ') Q)→Ok (evK F e le σ k) Q):Ok (bT F (.ex e::rest) le σ K) Q:=h _ λ_ _ x=>x
theorem oR(h:∀k:V→H→Option β,(∀v σ',Ok (K (.ret v) le σ') Q→Ok (k v σ') Q)→Ok (evK F e le σ k) Q):Ok (bT F (.ret e::rest) le σ K) Q:=h _ λ_ _ x=>x
noncomputable def nxt(F:FT)(rest:List S)(K:Fl→Le→H→Option β)(fl:Fl)(le:Le)(σ:H):Option β:=zQ fl (λv=>K (.ret v) le σ) (bT F rest le σ K)
theorem oIf(h:∀k:V→H→Option β,(∀b σ',(b=true→Ok (bT F A le σ' (nxt F rest K)) Q)→(b=false→Ok (bT F B le σ' (nxt F rest K)) Q)→Ok (k (.bool b) σ') Q)→Ok (evK F e le σ k) Q):Ok (bT F (.iff e A B::rest) le σ K) Q:=h _ λ_ _ x y=>fB x y
theorem oIr{e2:E}(h:∀k:V→H→Option β,(∀b σ',(b=true→Ok (evK F e2 le σ' λv σ=>K (.ret v) le σ) Q)→(b=false→Ok (bT F rest le σ' K) Q)→Ok (k (.bool b) σ') Q)→Ok (evK F e le σ k) Q):Ok (bT F (.iff e [.ret e2] []::rest) le σ K) Q:=h _ λ_ _ x y=>fB x y
theorem oFo{p:Pat}(h:∀k:List V→Gd→H→Option β,(∀xs g σ',Ok (jY p g (λle σ=>bT F A le σ gv) xs le σ') (λy=>Ok (nxt F rest K y.1 y.2.1 y.2.2) Q)→Ok (k xs g σ') Q)→Ok (fz F e le σ k) Q):Ok (bT F (.forr p e A::rest) le σ K) Q:=h _ λ_ _ _ x=>okB x
theorem oN(h:Ok (bT F rest le σ K) Q):Ok (bT F [] le σ (nxt F rest K)) Q:=h
end
set_option genCtorIdx true in
inductive K where|pane (p:Int)|box (r:Bool)
noncomputable def K.n:K→Nat
 | .pane _=>0
 | .box r=>(match r with|true=>0|false=>1)+1
noncomputable def K.v:K→V
 | .pane p=> .int p
 | .box _=> .none
noncomputable def K.p:K→Int
 | .pane p=>p
 | .box _=>0
noncomputable def K.r:K→Bool
 | .pane _=>false
 | .box r=>r
inductive T where|mk (k:K) (w h:Int) (ps:List T)
noncomputable def T.k:T→K| .mk k _ _ _=>k
noncomputable def T.w:T→Int| .mk _ w _ _=>w
noncomputable def T.h:T→Int| .mk _ _ h _=>h
noncomputable def T.ps:T→List T| .mk _ _ _ ps=>ps
theorem T.ind{P:T→Prop}(H:∀k w h ps,(∀t∈ps,P t)→P (.mk k w h ps))(t:T):P t :=
 T.rec (motive_1:=P) (motive_2:=λps=>∀t∈ps,P t) (λk w h ps ih=>H k w h ps ih) (aj _) (λt ts h1 h2=>ao.mpr ⟨h1,h2⟩) t
inductive D where|mk (a b:Nat) (x y:Int) (k:K) (w h:Int) (ps:List D)
noncomputable def D.a:D→Nat| .mk a _ _ _ _ _ _ _=>a
noncomputable def D.b:D→Nat| .mk _ b _ _ _ _ _ _=>b
noncomputable def D.x:D→Int| .mk _ _ x _ _ _ _ _=>x
noncomputable def D.y:D→Int| .mk _ _ _ y _ _ _ _=>y
noncomputable def D.k:D→K| .mk _ _ _ _ k _ _ _=>k
noncomputable def D.w:D→Int| .mk _ _ _ _ _ w _ _=>w
noncomputable def D.h:D→Int| .mk _ _ _ _ _ _ h _=>h
noncomputable def D.ps:D→List D| .mk _ _ _ _ _ _ _ ps=>ps
theorem D.ind{P:D→Prop}(H:∀a b x y k w h ps,(∀t∈ps,P t)→P (.mk a b x y k w h ps))(t:D):P t :=
 D.rec (motive_1:=P) (motive_2:=λps=>∀t∈ps,P t) (λa b x y k w h ps ih=>H a b x y k w h ps ih) (aj _) (λt ts h1 h2=>ao.mpr ⟨h1,h2⟩) t
mutual
noncomputable def D.t:D→T| .mk _ _ _ _ k w h ps=> .mk k w h (tL ps)
noncomputable def tL:List D→List T
 | []=>[]
 | d::ds=>d.t::tL ds
end
theorem eZ(ds:List D):tL ds=ds.map D.t:=by
 induction ds with
 | nil=>rfl
 | cons d ds ih=>exact congrArg (d.t::·) ih
theorem t_k(d:D):d.t.k=d.k:=by cases d;rfl
theorem t_w(d:D):d.t.w=d.w:=by cases d;rfl
theorem t_h(d:D):d.t.h=d.h:=by cases d;rfl
theorem hZ(d:D):d.t.ps=d.ps.map D.t:=by cases d;exact eZ _
noncomputable def rf(d:D):V:= .ref d.a
noncomputable def refs(ds:List D):List V:=ds.map rf
theorem dZ(l:List D)(d:D):refs (l++[d])=refs l++[rf d]:=au
theorem bV(l:List D):(refs l).length=l.length:=ah _
noncomputable def flds(d:D):List V:=[.str d.k.n,.int d.w,.int d.h,.int d.x,.int d.y,.ref d.b,d.k.v]
mutual
noncomputable def objs:D→List (Nat×O)| .mk a b x y k w h ps=>(a,.inst 0 (flds (.mk a b x y k w h ps)))::(b,.list (refs ps))::bO ps
noncomputable def bO:List D→List (Nat×O)
 | []=>[]
 | d::ds=>objs d++bO ds
end
theorem eT(d:D):objs d=(d.a,.inst 0 (flds d))::(d.b,.list (refs d.ps))::bO d.ps:=by cases d;rfl
theorem dC(l r:List D):bO (l++r)=bO l++bO r:=by
 induction l with
 | nil=>rfl
 | cons d ds ih=>exact(congrArg (objs d++·) ih).trans (af _ _ _).symm
theorem gz{d:D}{ds:List D}(h:d∈ds):∀q∈objs d,q∈bO ds:=λq m=>by
 induction h with
 | head=>exact aL _ m
 | tail _ _ ih=>exact ay _ ih
noncomputable def At(σ:H)(d:D):Prop:=∀q∈objs d,σ[q.1]? =some q.2
section
variable{σ σ':H}{d:D}
theorem At.c(h:At σ d):cC σ 0 d.a=some (flds d):=bU (h (d.a,_) (eT d▸ .head _))
theorem At.l(h:At σ d):bJ σ d.b=some (refs d.ps):=bH (h (d.b,_) (eT d▸ .tail _ (.head _)))
theorem At.kp(h:At σ d)(k:Kp σ σ'):At σ' d:=λq m=>cj k (h q m)
theorem At.ps(h:At σ d):∀e∈d.ps,At σ e:=λe m q mq=>h q (eT d▸ .tail _ (.tail _ (gz m q mq)))
theorem I8{L:List (Nat×O)}(h:Own σ (objs d++L)):At σ d:=λq m=>h.1 q (aL _ m)
end
noncomputable def Dp:Nat→T→Prop
 | 0,_=>False
 | n+1,t=>t.ps.length≤99∧∀s∈t.ps,Dp n s
theorem jC{n:Nat}{d:D}(h:Dp (n+1) d.t):d.ps.length≤99:=by
 have:=h.1
 rwa [hZ,ah] at this
theorem kc{n:Nat}{d:D}(h:Dp (n+1) d.t):∀e∈d.ps,Dp n e.t:=λe m=>h.2 e.t (hZ d▸aK m)
mutual
noncomputable def names:T→List Int
 | .mk (.pane p) _ _ _=>[p]
 | .mk (.box _) _ _ ps=>cb ps
noncomputable def cb:List T→List Int
 | []=>[]
 | t::ts=>names t++cb ts
end
structure Row where
 p:Int
 x:Int
 y:Int
 w:Int
 h:Int
noncomputable def Row.v(r:Row):V:= .tup [.int r.p,.int r.x,.int r.y,.int r.w,.int r.h]
noncomputable def nx(r:Bool)(x w:Int):Int:=match r with
 | true=>x+(w+1)
 | false=>x
mutual
noncomputable def rows:T→Int→Int→List Row
 | .mk (.pane p) w h _,x,y=>[⟨p,x,y,w,h⟩]
 | .mk (.box r) _ _ ps,x,y=>cZ r ps x y
noncomputable def cZ(r:Bool):List T→Int→Int→List Row
 | [],_,_=>[]
 | t::ts,x,y=>rows t x y++cZ r ts (nx r x t.w) (nx (!r) y t.h)
end
mutual
noncomputable def Pl:D→Int→Int→Prop| .mk _ _ x' y' k _ _ ps,x,y=>(x'=x∧y'=y)∧PlL k.r ps x y
noncomputable def PlL(r:Bool):List D→Int→Int→Prop
 | [],_,_=>True
 | d::ds,x,y=>Pl d x y∧PlL r ds (nx r x d.w) (nx (!r) y d.h)
end
mutual
noncomputable def lv:D→List D
 | .mk a b x y (.pane p) w h ps=>[.mk a b x y (.pane p) w h ps]
 | .mk _ _ _ _ (.box _) _ _ ps=>lvL ps
noncomputable def lvL:List D→List D
 | []=>[]
 | d::ds=>lv d++lvL ds
end
noncomputable def D.row(d:D):Row:=⟨d.k.p,d.x,d.y,d.w,d.h⟩
theorem qi{σ:H}(d:D):At σ d→∀e∈lv d,At σ e∧e.k= .pane e.k.p:=by
 induction d using D.ind with
 | H a b x y k w h ps ih =>
  intro hd
  cases k with
  | pane p=>exact ai.mpr ⟨hd,rfl⟩
  | box r =>
   suffices ∀l:List D,(∀d∈l,d∈ps)→∀e∈lvL l,At σ e∧e.k= .pane e.k.p from this ps λ_ m=>m
   intro l
   induction l with
   | nil=>exact λ_=>aj _
   | cons c cs ih2=>exact λm=>aH.mpr ⟨ih c (m c (.head _)) (hd.ps c (m c (.head _))),ih2 λd md=>m d (.tail _ md)⟩
theorem cV(d:D):(lv d).map (·.k.p)=names d.t:=by
 induction d using D.ind with
 | H a b x y k w h ps ih =>
  cases k with
  | pane p=>rfl
  | box r =>
   show(lvL ps).map _=cb (tL ps)
   induction ps with
   | nil=>rfl
   | cons c cs ih2=>exact au.trans (congr (congrArg _ (ih c (.head _))) (ih2 λd m=>ih d (.tail _ m)))
theorem gT(d:D):∀x y,Pl d x y→(lv d).map D.row=rows d.t x y:=by
 induction d using D.ind with
 | H a b x' y' k w h ps ih =>
  intro x y hp
  cases k with
  | pane p =>
   obtain⟨⟨e1,e2⟩,_⟩:=hp
   subst e1 e2
   rfl
  | box r =>
   show(lvL ps).map _=cZ r (tL ps) x y
   have hp:PlL r ps x y:=hp.2
   suffices ∀l:List D,(∀d∈l,d∈ps)→∀x y,PlL r l x y→(lvL l).map D.row=cZ r (tL l) x y from this ps (λ_ m=>m) x y hp
   intro l
   induction l with
   | nil=>exact λ_ _ _ _=>rfl
   | cons c cs ih2 =>
    intro m x y hp
    refine au.trans (congr (congrArg _ (ih c (m c (.head _)) x y hp.1)) ((ih2 (λd md=>m d (.tail _ md)) _ _ hp.2).trans ?_))
    rw[←t_w,←t_h]
noncomputable def sd(r:Bool)(w h:Int):Int:=match r with
 | true=>w
 | false=>h
noncomputable def D.sd(r:Bool)(d:D):Int:=L.sd r d.w d.h
noncomputable def T.sd(r:Bool)(t:T):Int:=L.sd r t.w t.h
theorem fA(r:Bool)(d:D):d.t.sd r=d.sd r:=by cases d;rfl
section
variable{n:Nat}{σ:H}{Q:V×H→Prop}{d:D}{r:Bool}
theorem gC(k:Q (.str (K.box r).n,σ)):Ok (cf (n+1) dh [.bool r] σ) Q:=by
 refine okF rfl rfl ?_
 cases r <;> exact okR k
theorem dy(h:At σ d)(k:Q (.int (d.sd r),σ)):Ok (cf (n+1) bZ [.ref d.a,.bool r] σ) Q:=by
 refine okF rfl rfl ?_
 cases r
 ·exact okI h.c (okR k)
 ·exact okI h.c (okR k)
noncomputable def cell(d:D):Nat×O:=(d.a,.inst 0 (flds d))
noncomputable def D.set(r:Bool)(s:Int):D→D| .mk a b x y k w h ps=>match r with
 | true=> .mk a b x y k s h ps
 | false=> .mk a b x y k w s ps
theorem jN{s:Int}(h:At σ d)(k:∀σ',Tr [cell d] σ [cell (d.set r s)] σ'→Q (.none,σ')):Ok (cf (n+1) cH [.ref d.a,.bool r,.int s] σ) Q:=by
 refine okF rfl rfl ?_
 obtain⟨a,b,x,y,kk,w,h',ps⟩:=d
 cases r
 ·exact okI h.c (okR (k _ dm))
 ·exact okI h.c (okR (k _ dm))
theorem iz{p w h:Int}(k:∀a b σ',New σ (objs (.mk a b 0 0 (.pane p) w h [])) σ'→Q (.ref a,σ')):Ok (cf (n+1) dL [.int p,.int w,.int h] σ) Q:=by
 refine okF rfl rfl ?_
 exact okR (k _ _ _ ((bM _ _).and (bM _ _)))
theorem n5{k:K}(h:(k.n==0)=true):k= .pane k.p:=by
 cases k with
 | pane p=>rfl
 | box r=>exact Bool.noConfusion h
theorem s9{k:K}(h:(k.n==0)=false):k= .box k.r:=by
 cases k with
 | pane p=>exact Bool.noConfusion h
 | box r=>rfl
theorem HS(h:d.k= .pane d.k.p):lv d=[d]:=by
 obtain⟨a,b,x,y,k,w,h',ps⟩:=d
 cases k with
 | pane=>rfl
 | box=>exact nomatch h
theorem IO(h:d.k= .box r):lv d=lvL d.ps:=by
 obtain⟨a,b,x,y,k,w,h',ps⟩:=d
 cases k with
 | box=>rfl
 | pane=>exact nomatch h
theorem fQ{n:Nat}{d:D}{σ:H}{Q:V×H→Prop}(hd:Dp n d.t)(h:At σ d)(hl:(lv d).length≤lim)(K:∀a σ',New σ [(a,.list (refs (lv d)))] σ'→Q (.ref a,σ')):Ok (cf n cK [.ref d.a] σ) Q:=by
 induction n generalizing d σ Q with
 | zero=>exact hd.elim
 | succ n ih =>
  refine okF (le:=some (.ref d.a)::nn 8) rfl rfl (okI h.c (fB (λe=>okR (K _ _ ?_)) λe=> ?_))
  ·rw[HS (n5 e)]
   exact bM _ _
  rw[IO (s9 e)] at hl K
  refine okI (dE (bI (bM _ _)) h.c) (dN (bL (bI (bM _ _)) h.l) ?_)
  refine okB (dq (S:=Option V×List D) (λs=>some (.ref d.a)::some (.ref σ.length)::s.1::nn 6) (λs todo σ'=>∀G:Prop,((∀e∈todo,e∈d.ps)→New σ [(σ.length,.list (refs s.2))] σ'→s.2++lvL todo=lvL d.ps→G)→G) ?_ ?_ (s:=(none,[])) λG k=>k (λ_ m=>m) (bM _ _) rfl)
  ·intro s x xs σ1 hI
   refine⟨_,rfl,λR K1 _=>hI _ λm t e1=> ?_⟩
   have hx:=m x (.head _)
   have hf:=bK t
   have e2:(refs s.2).length+(refs (lv x)).length≤lim:=by
    rw[bV,bV]
    refine ae (aB (az _ (lvL xs).length) _) ?_
    rw[←aa,←aa]
    exact e1▸hl
   refine okG (Hm (bH hf)) (okC (ih (kc hd x hx) ((h.ps x hx).kp (bI t)) (bV (lv x)▸ae (bk _ _) e2) λa σ2 t2=> ?_))
   have t3:=((t.kp (bI t2)).trans dm:New σ [(σ.length,.list (refs s.2++refs (lv x)))] _)
   refine okL (bL (bI t2) (bH hf)) (okL (bH (bK t2)) (okG ⟨(nR t2 hf).symm,e2⟩ (okR (K1 (_,s.2++lv x) _ ?_ λG k=>k (λe me=>m e (.tail _ me)) ?_ ((af _ _ _).trans e1)))))
   ·exact ai.mpr (cj (bI t3) (bQ h.l))
   ·exact(au (f:=rf)).symm▸t3
  ·exact λs σ1 hI=>hI _ λm t e1=>okR (K _ _ (e1▸(aw s.2).symm▸t))
end
mutual
noncomputable def D.q:D→D| .mk _ _ x y k w h ps=> .mk 0 0 x y k w h (qL ps)
noncomputable def qL:List D→List D
 | []=>[]
 | d::ds=>d.q::qL ds
end
theorem zB(l r:List D):qL (l++r)=qL l++qL r:=by
 induction l with
 | nil=>rfl
 | cons d ds ih=>exact congrArg (d.q::·) ih
theorem q_t(d:D):d.q.t=d.t:=by
 induction d using D.ind with
 | H a b x y k w h ps ih =>
  refine congrArg (T.mk k w h) ?_
  show tL (qL ps)=tL ps
  induction ps with
  | nil=>rfl
  | cons c cs ih2=>exact(congr (congrArg List.cons (ih c (.head _))) (ih2 λd m=>ih d (.tail _ m)):c.q.t::tL (qL cs)=c.t::tL cs)
theorem q_w(d:D):d.q.w=d.w:=by cases d;rfl
theorem q_h(d:D):d.q.h=d.h:=by cases d;rfl
theorem Hn(d:D):∀x y,Pl d.q x y=Pl d x y:=by
 induction d using D.ind with
 | H a b x' y' k w h ps ih =>
  intro x y
  refine congrArg (And _) ?_
  suffices ∀l:List D,(∀d∈l,d∈ps)→∀x y,PlL k.r (qL l) x y=PlL k.r l x y from this ps (λ_ m=>m) x y
  intro l
  induction l with
  | nil=>exact λ_ _ _=>rfl
  | cons c cs ih2 =>
   intro m x y
   show(Pl c.q x y∧PlL k.r (qL cs) (nx k.r x c.q.w) (nx (!k.r) y c.q.h))=_
   rw[q_w,q_h,ih c (m c (.head _)),ih2 λd md=>m d (.tail _ md)]
   rfl
theorem ie{d e:D}(h:d.q=e.q):d.t=e.t:=(q_t d).symm.trans ((congrArg D.t h).trans (q_t e))
theorem wm{d e:D}(h:d.q=e.q){x y:Int}(p:Pl e x y):Pl d x y:=by
 rw[←Hn,h,Hn]
 exact p
theorem gR(l:List D)(d:D):(bO (l++[d])).Perm (objs d++bO l):=by
 rw[dC]
 exact ba.trans (by rw[show bO [d]=objs d from aw _])
section
variable{σ:H}{d:D}{r:Bool}
theorem iJ{n:Nat}{Q:V×H→Prop}(hd:Dp n d.t)(h:At σ d)(K:∀d' σ',d'.q=d.q→New σ (objs d') σ'→Q (.ref d'.a,σ')):Ok (cf n dj [.ref d.a] σ) Q:=by
 induction n generalizing d σ Q with
 | zero=>exact hd.elim
 | succ n ih =>
  refine okF (le:=some (.ref d.a)::nn 7) rfl rfl (okI h.c (dN h.l ?_))
  refine okB (wu (S:=Option V×List D×List D) (λs=>some (.ref d.a)::none::s.1::nn 5) (λs todo acc σ'=>∀G:Prop,(acc=refs s.2.1→New σ (bO s.2.1) σ'→qL s.2.1=qL s.2.2→s.2.2++todo=d.ps→G)→G) ?_ ?_ (s:=(none,[],[])) (λG k=>k rfl .rfl rfl rfl))
  ·intro s x xs acc σ1 hI
   refine⟨(some (rf x),s.2),rfl,λR K1=>hI _ λea t e1 e2=> ?_⟩
   have hx:x∈d.ps:=e2▸ay _ (.head _)
   refine okC (ih (kc hd x hx) ((h.ps x hx).kp (bI t)) λd' σ2 q t2=>okR (K1 _ _ (_,s.2.1++[d'],s.2.2++[x]) ?_ rfl λG k=>k ?_ ?_ ?_ ?_))
   ·exact ai.mpr (cj ((bI t).trans (bI t2)) (bQ h.l))
   ·rw[dZ,ea]
    rfl
   ·exact(t.and t2).perm (.refl _) (gR _ d').symm
   ·rw[zB,zB,e1]
    exact congrArg (qL s.2.2++[·]) q
   ·rw[af]
    exact e2
  ·intro s acc σ1 hI
   refine hI _ λea t e1 e2=> ?_
   have e2:=(aw _).symm.trans e2
   have el:s.2.1.length=d.ps.length:=by
    have:∀l,(qL l).length=l.length:=λl=>by
     induction l with
     | nil=>rfl
     | cons d ds ih=>exact congrArg Nat.succ ih
    rw[←e2,←this s.2.1,e1,this]
   subst ea
   refine okG (by
    show(refs s.2.1).length≤lim
    rw[bV,el]
    exact ae (jC hd) (by decide)) ?_
   have t2:=t.and (bM σ1 (.list (refs s.2.1)))
   have k:=(bI t).trans (bI (bM σ1 (.list (refs s.2.1))))
   have hc:=dE k h.c
   refine okI hc (okI hc (okI hc (okI hc (okI hc (okI hc ?_)))))
   refine okR (K (.mk _ _ d.x d.y d.k d.w d.h s.2.1) _ ?_ (t2.and (bM _ _)))
   cases d
   exact congrArg (D.mk 0 0 _ _ _ _ _) (e1.trans (congrArg qL e2))
end
theorem fe(ts:List T):cb ts=ts.flatMap names:=by
 induction ts with
 | nil=>rfl
 | cons t ts ih=>exact congrArg (names t++·) ih
noncomputable def mn:List Int→Int
 | []=>0
 | a::r=>r.foldl min a
mutual
noncomputable def room(r:Bool):T→Int
 | .mk (.pane _) w h _=>sd r w h-1
 | .mk (.box r') _ _ ps=>bif r'==r then(qd r ps).sum else mn (qd r ps)
noncomputable def qd(r:Bool):List T→List Int
 | []=>[]
 | t::ts=>room r t::qd r ts
end
theorem sC(r:Bool)(ts:List T):qd r ts=ts.map (room r):=by
 induction ts with
 | nil=>rfl
 | cons t ts ih=>exact congrArg (room r t::·) ih
inductive WF:T→Prop
 | pane {t:T} {p:Int}:t.k= .pane p→1≤t.w→1≤t.h→t.ps=[]→WF t
 | box {t:T} {r:Bool}:t.k= .box r→2≤t.ps.length→(∀s∈t.ps,WF s)→(∀s∈t.ps,s.sd (!r)=t.sd (!r))→(∀s∈t.ps,s.k≠ .box r)→(t.ps.map (T.sd r)).sum+t.ps.length-1=t.sd r→WF t
theorem pB{t:T}{p:Int}{G:Prop}(h:WF t)(e:t.k= .pane p)(k:1≤t.w→1≤t.h→t.ps=[]→G):G:=by
 cases h with
 | pane _ h1 h2 h3=>exact k h1 h2 h3
 | box e2=>exact nomatch e.symm.trans e2
theorem jK{t:T}{r:Bool}{G:Prop}(h:WF t)(e:t.k= .box r)(k:2≤t.ps.length→(∀s∈t.ps,WF s)→(∀s∈t.ps,s.sd (!r)=t.sd (!r))→(∀s∈t.ps,s.k≠ .box r)→(t.ps.map (T.sd r)).sum+t.ps.length-1=t.sd r→G):G:=by
 cases h with
 | pane e2=>exact nomatch e.symm.trans e2
 | box e2 h1 h2 h3 h4 h5=>cases e.symm.trans e2;exact k h1 h2 h3 h4 h5
theorem Ej{t:T}(h:WF t):∀s∈t.ps,WF s:=by
 cases h with
 | pane _ _ _ e=>exact e▸aj _
 | box _ _ h=>exact h
theorem xc{d:D}(h:WF d.t):∀e∈d.ps,WF e.t:=λe m=>Ej h _ (hZ d▸aK m)
theorem s8(a b:Bool):((K.box a).n==(K.box b).n)=(a==b):=by cases a <;> cases b <;> rfl
theorem vO{d:D}{r:Bool}(h:WF d.t)(e:d.k= .box r):d.ps≠[]:=λq=>jK h ((t_k d).trans e) λh _ _ _ _=>by
 rw[hZ,q] at h
 exact absurd h (Nat.not_le_of_lt Nat.two_pos)
theorem k_v{k:K}(h:k= .pane k.p):k.v= .int k.p:=by
 cases k with
 | pane=>rfl
 | box=>exact nomatch h
theorem uw{d:D}{r:Bool}(h:d.k= .pane d.k.p):room r d.t=d.sd r-1:=by
 obtain⟨a,b,x,y,k,w,h',ps⟩:=d
 cases k with
 | pane=>rfl
 | box=>exact nomatch h
theorem ij{d:D}{r q:Bool}(h:d.k= .box q):room r d.t=bif q==r then(d.ps.map λe=>room r e.t).sum else mn (d.ps.map λe=>room r e.t):=by
 obtain⟨a,b,x,y,k,w,h',ps⟩:=d
 cases k with
 | pane=>exact nomatch h
 | box=>cases h;exact(congrArg (λl:List Int=>bif q==r then l.sum else mn l) (((congrArg (qd r) (eZ ps)).trans (sC r _)).trans aY) :)
theorem C1{l:List Int}(h:l≠[]):C2 l=some (mn l):=by
 cases l with
 | nil=>exact absurd rfl h
 | cons a l=>rfl
theorem fm1{α:Type}(f:α→Int)(l:List α):(l.flatMap λe=>[V.int (f e)])=(l.map f).map V.int:=by rw[aY,List.map_eq_flatMap];rfl
structure G where
 a:Nat
 b:Nat
 x:Int
 y:Int
 r:Bool
 w:Int
 h:Int
 l:List D
 rs:List D
noncomputable def G.up(g:G)(d:D):D:= .mk g.a g.b g.x g.y (.box g.r) g.w g.h (g.l++d::g.rs)
noncomputable def cF:List G→D→D
 | [],d=>d
 | g::c,d=>cF c (g.up d)
theorem uD(c:List G)(g:G):∀d,cF (c++[g]) d=g.up (cF c d):=by
 induction c with
 | nil=>exact λ_=>rfl
 | cons f c ih=>exact λd=>ih (f.up d)
noncomputable def pr(c:List G)(d:D):List V:=(c.map λg=>V.ref g.a).reverse++[rf d]
theorem CC(c:List G)(g:G)(d:D):pr (c++[g]) d= .ref g.a::pr c d:=by
 show((c++[g]).map _).reverse++_=_
 rw[au,List.reverse_append]
 rfl
theorem uC(c:List G)(d:D):(pr c d).length=c.length+1:=by
 show((c.map _).reverse++_).length=_
 rw[aa,List.length_reverse,ah]
 rfl
section
variable{σ:H}{d:D}{r:Bool}
theorem iV{n:Nat}{Q:V×H→Prop}(hd:Dp n d.t)(h:At σ d)(hl:(names d.t).length≤lim)(K:∀a σ',New σ [(a,.list ((names d.t).map .int))] σ'→Q (.ref a,σ')):Ok (cf (n+1) dU [.ref d.a] σ) Q:=by
 rw[←cV,ah] at hl
 refine okF (le:=some (.ref d.a)::nn 6) rfl rfl (okC (fQ hd h hl λa σ1 t=> ?_))
 have hv:=bK t
 refine dN (bH hv) (okB (dB (S:=Option V) (λs=>some (.ref d.a)::s::nn 5) (λe:D=>[V.int e.k.p]) (s:=none) (ai.mpr hv) ?_ λσ2 k=> ?_))
 ·intro x hx s σ2 k
  have hx:=qi d h x hx
  refine⟨_,rfl,λR K1=>okI ((hx.1.kp (bI t)).kp k).c (okR ?_)⟩
  exact k_v hx.2▸K1 _ .rfl
 ·rw[fm1,cV]
  refine okG ?_ (okR (K _ _ ((bI t).trans (k.trans (bM _ _)))))
  rw[ah,←cV,ah]
  exact hl
theorem jO{n:Nat}{Q:V×H→Prop}(hd:Dp n d.t)(h:At σ d)(wf:WF d.t)(K:∀σ',Kp σ σ'→Q (.int (room r d.t),σ')):Ok (cf (n+1) dJ [.ref d.a,.bool r] σ) Q:=by
 induction n generalizing d σ Q with
 | zero=>exact hd.elim
 | succ n ih =>
  refine okF (le:=some (.ref d.a)::some (.bool r)::nn 7) rfl rfl (okI h.c (fB (λe=> ?_) λe=> ?_))
  ·exact okC (dy h (okR (uw (n5 e)▸K _ .rfl)))
  ·refine okI h.c (dN h.l (okB (dB (S:=Option V) (λs=>some (.ref d.a)::some (.bool r)::none::s::nn 5) (λe:D=>[V.int (room r e.t)]) (s:=none) (ai.mpr (bQ h.l)) ?_ λσ1 k1=> ?_)))
   ·exact λx hx s σ2 k=>⟨_,rfl,λR K1=>okC (ih (kc hd x hx) ((h.ps x hx).kp k) (xc wf x hx) λσ3 k3=>okR (K1 _ k3))⟩
   ·have e:=s9 e
    rw[fm1]
    refine okG ?_ ?_
    ·show(List.map _ _).length≤lim
     rw[ah,ah]
     exact ae (jC hd) (by decide)
    have k:=k1.trans (bI (bM σ1 (.list ((d.ps.map λe=>room r e.t).map V.int))))
    refine okI (dE k h.c) (okC (gC (fB (λe2=> ?_) λe2=> ?_)))
    ·refine okL (bH (bK (bM _ _))) (qV (okR ?_))
     have K:=K _ k
     rw[ij e,show(d.k.r==r)=true from(s8 _ _).symm.trans (e▸e2)] at K
     exact K
    ·refine okL (bH (bK (bM _ _))) (qV (c7 (C1 λe3=>vO wf e (List.map_eq_nil_iff.mp e3)) (okR ?_)))
     have K:=K _ k
     rw[ij e,show(d.k.r==r)=false from(s8 _ _).symm.trans (e▸e2)] at K
     exact K
end
noncomputable def Fst(p:Int)(c:List G):Prop:=∀g∈c,∀e∈g.l,p∉names e.t
theorem gS{d:D}{r:Bool}(h:d.k= .box r):names d.t=(d.ps.map D.t).flatMap names:=by
 obtain⟨a,b,x,y,k,w,h',ps⟩:=d
 cases k with
 | pane=>exact nomatch h
 | box=>exact(congrArg cb (eZ ps)).trans (fe _)
theorem q7{d:D}(h:d.k= .pane d.k.p):names d.t=[d.k.p]:=by
 obtain⟨a,b,x,y,k,w,h',ps⟩:=d
 cases k with
 | box=>exact nomatch h
 | pane=>rfl
theorem I0{d x:D}{r:Bool}{l rs:List D}(h:d.k= .box r)(e:l++x::rs=d.ps):d=G.up ⟨d.a,d.b,d.x,d.y,r,d.w,d.h,l,rs⟩ x:=by
 obtain⟨a,b,x,y,k,w,h',ps⟩:=d
 cases(show k=_ from h)
 cases(show _=ps from e)
 rfl
theorem o0{α:Type}(f:α→V)(xs:List α):∀n,qu (xs.map f) n=(xs.zipIdx n).map λp=> .tup [.int p.2,f p.1]:=by
 induction xs with
 | nil=>exact λ_=>rfl
 | cons x xs ih=>exact λn=>congrArg (V.tup [.int n,f x]::·) (ih (n+1))
noncomputable def Fd(a m:Nat):List (D×Nat)→Prop
 | []=>False
 | y::ys=>(y.1.a=a∧y.2=m)∨(y.1.a≠a∧Fd a m ys)
theorem Ia{d:D}{rs l:List D}(h:∀e∈l,e.a≠d.a):∀k,Fd d.a (k+l.length) ((l++d::rs).zipIdx k):=by
 induction l with
 | nil=>exact λk=> .inl ⟨rfl,rfl⟩
 | cons e l ih=>exact λk=> .inr ⟨h e (.head _),(Nat.add_right_comm k 1 l.length)▸ih (λf m=>h f (.tail _ m)) (k+1)⟩
section
variable{σ:H}{d:D}{r:Bool}
theorem jQ{n:Nat}{Q:V×H→Prop}{p:Int}(hn:n≤99)(hd:Dp n d.t)(h:At σ d)(K1:p∉names d.t→∀σ',Kp σ σ'→Q (.none,σ'))
  (K2:∀c leaf,d=cF c leaf→leaf.k= .pane p→Fst p c→c.length<n→∀a σ',New σ [(a,.list (pr c leaf))] σ'→Q (.ref a,σ')):Ok (cf n dK [.ref d.a,.int p] σ) Q:=by
 induction n generalizing d σ Q with
 | zero=>exact hd.elim
 | succ n ih =>
  refine okF (le:=some (.ref d.a)::some (.int p)::nn 8) rfl rfl (okI h.c (fB (λe=> ?_) λe=> ?_))
  ·have e:=n5 e
   refine okI h.c ?_
   rw[show flds d=[.str d.k.n,.int d.w,.int d.h,.int d.x,.int d.y,.ref d.b,.int d.k.p] from congrArg (λv=>[V.str d.k.n,.int d.w,.int d.h,.int d.x,.int d.y,.ref d.b,v]) (k_v e)]
   refine fB (λe2=>okR (K2 [] d rfl (bD e2▸e) (aj _) (Nat.succ_pos n) _ _ (bM _ _))) λe2=>okR (K1 (λm=> ?_) _ .rfl)
   rw[q7 e] at m
   exact absurd (bF.mpr (aI.mp m).symm) (by rw[show(d.k.p==p)=false from e2];exact Bool.noConfusion)
  ·have e:=s9 e
   refine okI h.c (dN h.l (okB (dq (S:=Option V×Option V×List D) (λs=>some (.ref d.a)::some (.int p)::s.1::s.2.1::nn 6)
    (λs todo σ'=>Kp σ σ'∧s.2.2++todo=d.ps∧∀e∈s.2.2,p∉names e.t) ?_ ?_ (s:=(none,none,[])) ⟨.rfl,rfl,aj _⟩)))
   ·intro s x xs σ1 hI
    have hx:x∈d.ps:=hI.2.1▸ay _ (.head _)
    refine⟨_,rfl,λR K3 K4=>okC (ih (bf hn) (kc hd x hx) ((h.ps x hx).kp hI.1) (λm σ2 k=> ?_) λc leaf ed el ef ec a σ2 t=> ?_)⟩
    ·refine okR (K3 (_,_,s.2.2++[x]) _ (ai.mpr (cj (hI.1.trans k) (bQ h.l))) ⟨hI.1.trans k,(af _ _ _).trans hI.2.1,aH.mpr ⟨hI.2.2,ai.mpr m⟩⟩)
    ·have t2:=(t.and (bM σ2 (.list [.ref d.a])))
     have l2:=bH ((bK t2))
     refine okL l2 (okL (bH (cj (bI (bM _ _)) (bK t))) (okG ?_ (okR (K4 _ _ _ (okR (K2 (c++[⟨d.a,d.b,d.x,d.y,d.k.r,d.w,d.h,s.2.2,xs⟩]) leaf ?_ el ?_ ?_ _ _ ?_))))))
     ·show([V.ref d.a]++pr c leaf).length≤lim
      rw[aa,uC]
      exact ae (aB (ae ec (bf hn)) _) (show 1+99≤lim by decide)
     ·rw[uD,←ed]
      exact I0 e hI.2.1
     ·exact aH.mpr ⟨ef,ai.mpr hI.2.2⟩
     ·rw[aa]
      exact Nat.succ_lt_succ ec
     ·rw[CC]
      exact(hI.1.trans (bI t2)).trans (bM _ _)
   ·intro s σ1 hI
    refine okR (K1 (λm=> ?_) _ hI.1)
    rw[gS e,←hI.2.1,aw] at m
    obtain⟨t,mt,m⟩:=List.mem_flatMap.mp m
    obtain⟨e,me,rfl⟩:=bb.mp mt
    exact hI.2.2 e me m
theorem i4{n:Nat}{Q:V×H→Prop}{b:Nat}{l rs:List D}(h:bJ σ b=some (refs (l++d::rs)))(hd:∀e∈l,e.a≠d.a)(K:∀σ',Kp σ σ'→Q (.int l.length,σ')):Ok (cf (n+1) dW [.ref b,.ref d.a] σ) Q:=by
 refine okF (le:=some (.ref b)::some (.ref d.a)::nn 8) rfl rfl (okL h ?_)
 refine okB (ir (o0 rf _ 0) (dq (S:=Option V×Option V) (λs=>some (.ref b)::some (.ref d.a)::s.1::s.2::nn 6)
  (λs todo σ'=>Kp σ σ'∧Fd d.a l.length todo) ?_ (λs σ1 hI=>hI.2.elim) (s:=(none,none)) ⟨.rfl,Nat.zero_add l.length▸Ia hd 0⟩))
 refine λs x xs σ1 hI=>⟨_,rfl,λR K3 K4=>fB (λe=>okR (K4 _ _ _ ?_)) λe=>okR (K3 (_,_) _ (ai.mpr (cj hI.1 (bQ h))) ⟨hI.1,hI.2.elim (λq=>absurd (bF.mpr q.1) (ne_true_of_eq_false e)) And.right⟩)⟩
 exact okR ((hI.2.elim And.right λq=>absurd (bD e) q.1:x.2=l.length)▸K _ hI.1)
end
theorem HW{k:K}(h:(k.n==1)=true):k.r=true:=by
 cases k with
 | pane=>exact Bool.noConfusion h
 | box r =>
  cases r with
  | true=>rfl
  | false=>exact Bool.noConfusion h
theorem HX{k:K}(h:(k.n==1)=false):k.r=false:=by
 cases k with
 | pane=>rfl
 | box r =>
  cases r with
  | false=>rfl
  | true=>exact Bool.noConfusion h
theorem zO{σ:H}{d:D}(h:Own σ (objs d)):Own σ [cell d]:=eK (X:=[cell d]) (L:=(d.b,.list (refs d.ps))::bO d.ps) (by rw[eT] at h;exact h)
theorem qJ{d:D}{σ σ':H}{Y:List (Nat×O)}(h:Tr (cell d::(d.b,.list (refs d.ps))::bO d.ps) σ Y σ'):Tr (objs d) σ Y σ':=by
 rw[eT]
 exact h
theorem cq{σ:H}{d:D}(h:Own σ (objs d)):At σ d:=h.1
noncomputable def hd(d:D)(l:List D):List (Nat×O):=cell d::(d.b,.list (refs d.ps))::bO l
theorem rE(d e:D)(l r:List D):hd d (l++[e])++bO r=hd d l++(objs e++bO r):=by
 show cell d::(d.b,_)::(bO (l++[e])++bO r)=cell d::(d.b,_)::(bO l++(objs e++bO r))
 rw[dC,af]
 exact congrArg (λz=>_::_::(bO l++z)) (congrArg (·++bO r) (aw (objs e)))
theorem AW{a b:Nat}{x y w h:Int}{k:K}{ps l:List D}(e:refs l=refs ps):hd (.mk a b x y k w h ps) l++bO []=objs (.mk a b x y k w h l) :=
 (aw _).trans (congrArg (λz=>cell (.mk a b x y k w h l)::(b,O.list z)::bO l) e.symm)
theorem jS{σ:H}{A X B:List (Nat×O)}(h:Own σ (A++(X++B))):Own σ X:=eK (b7 h)
section
variable{σ:H}{d:D}
theorem e9{n:Nat}{Q:V×H→Prop}{x y:Int}(hdp:Dp n d.t)(h:Own σ (objs d))(K:∀d' σ',d'.a=d.a→d'.t=d.t→Pl d' x y→Tr (objs d) σ (objs d') σ'→Q (.ref d.a,σ')):Ok (cf n bW [.ref d.a,.int x,.int y] σ) Q:=by
 induction n generalizing d σ Q x y with
 | zero=>exact hdp.elim
 | succ n ih =>
  refine okF (le:=some (.ref d.a)::some (.int x)::some (.int y)::nn 7) rfl rfl (okI (cq h).c ?_)
  have t0:=(dm:Tr [cell d] σ [(d.a,.inst 0 ((flds d).set 3 (.int x)))] _)
  refine okI (bU ((t0.get (zO h)).1 _ (.head _))) ?_
  have t1:=qJ ((t0.trans (dm (o':= .inst 0 (((flds d).set 3 (.int x)).set 4 (.int y))))).fr ((d.b,.list (refs d.ps))::bO d.ps))
  have l1:=bH ((t1.get h).1 (d.b,.list (refs d.ps)) (.tail _ (.head _)))
  refine okI (bU ((t1.get h).1 _ (.head _))) (dN l1 ?_)
  refine okB (dq (S:=Int×Int×Option V×List D) (λs=>some (.ref d.a)::some (.int s.1)::some (.int s.2.1)::s.2.2.1::nn 6)
   (λs todo σ'=>∀G:Prop,(Tr (objs d) σ (hd (.mk d.a d.b x y d.k d.w d.h d.ps) s.2.2.2++bO todo) σ'→refs s.2.2.2++refs todo=refs d.ps→tL s.2.2.2++tL todo=tL d.ps→(∀e∈todo,e∈d.ps)→(∀l,PlL d.k.r l s.1 s.2.1→PlL d.k.r (s.2.2.2++l) x y)→G)→G) ?_ ?_ (s:=(x,y,none,[])) λG k=>k t1 rfl rfl (λ_ m=>m) λ_ p=>p)
  ·intro s e xs σ1 hI
   refine⟨_,rfl,λR K1 _=>hI _ λt e1 e2 m pl=> ?_⟩
   have o1:=jS (t.get h)
   refine okC (ih (kc hdp e (m e (.head _))) o1 λe' σ2 ea et pe t2=> ?_)
   have t3:=rE _ e' _ _▸t.trans (t2.mid _ (bO xs))
   have o2:=t3.get h
   have c1:=bU (o2.1 (cell (.mk d.a d.b x y d.k d.w d.h d.ps)) (.head _))
   have c2:cC σ2 0 e.a=some (flds e'):=ea▸(cq (jS (t.trans (t2.mid _ (bO xs)) |>.get h))).c
   have g:∀σ',Kp σ2 σ'→cY σ' [(d.b,refs d.ps)]:=λσ' k=>ai.mpr (cj k (o2.1 (d.b,.list (refs d.ps)) (.tail _ (.head _))))
   have e1':refs (s.2.2.2++[e'])++refs xs=refs d.ps:=by
    rw[dZ,rf,ea,af]
    exact e1
   have e2':tL (s.2.2.2++[e'])++tL xs=tL d.ps:=by
    rw[eZ,au,←eZ,af,List.map_singleton,et]
    exact e2
   refine okI c1 (fB (λk=>okI c2 (okR (K1 (_,_,_,s.2.2.2++[e']) _ (g _ .rfl) λG k2=>k2 t3 e1' e2' (λf mf=>m f (.tail _ mf)) ?_))) λk=>okI c2 (okR (K1 (_,_,_,s.2.2.2++[e']) _ (g _ .rfl) λG k2=>k2 t3 e1' e2' (λf mf=>m f (.tail _ mf)) ?_)))
   ·refine λl p=>(af s.2.2.2 [e'] l).symm▸pl _ ⟨pe,?_⟩
    have q:d.k.r=true:=HW k
    rw[q] at p⊢
    exact p
   ·refine λl p=>(af s.2.2.2 [e'] l).symm▸pl _ ⟨pe,?_⟩
    have q:d.k.r=false:=HX k
    rw[q] at p⊢
    exact p
  ·intro s σ1 hI
   refine hI _ λt e1 e2 m pl=> ?_
   have e1:=(aw _).symm.trans e1
   refine okR (K (.mk d.a d.b x y d.k d.w d.h s.2.2.2) _ rfl ?_ ⟨⟨rfl,rfl⟩,aw s.2.2.2▸pl [] trivial⟩ ?_)
   ·cases d
    exact congrArg (T.mk _ _ _) ((aw _).symm.trans e2)
   ·exact AW e1▸t
end
theorem jL(l m:List Int):(l++m).sum=l.sum+m.sum:=by
 induction l with
 | nil=>exact(Int.zero_add _).symm
 | cons a l ih =>
  show a+(l++m).sum=a+l.sum+m.sum
  rw[ih,Int.add_assoc]
theorem yQ{l:List Int}(h:∀x∈l,0≤x):0≤l.sum:=by
 induction l with
 | nil=>exact bv 0
 | cons a l ih=>exact Int.add_nonneg (h a (.head _)) (ih λx m=>h x (.tail _ m))
theorem Fa{l:List Int}(h:∀x∈l,x≤0):l.sum≤0:=by
 induction l with
 | nil=>exact bv 0
 | cons a l ih=>exact Int.add_nonpos (h a (.head _)) (ih λx m=>h x (.tail _ m))
theorem HN{l:List Int}(h:∀x∈l,0≤x):0≤mn l:=by
 suffices k:∀(l:List Int) (a:Int),0≤a→(∀x∈l,0≤x)→0≤l.foldl min a by
  cases l with
  | nil=>exact bv 0
  | cons a l=>exact k l a (h a (.head _)) λx m=>h x (.tail _ m)
 intro l
 induction l with
 | nil=>exact λ_ h _=>h
 | cons b l ih=>exact λa h k=>ih _ (Int.le_min.mpr ⟨h,k b (.head _)⟩) λx m=>k x (.tail _ m)
theorem HO{l:List Int}:∀x∈l,mn l≤x:=by
 suffices k:∀(l:List Int) (a:Int),l.foldl min a≤a∧∀x∈l,l.foldl min a≤x by
  cases l with
  | nil=>exact aj _
  | cons a l=>exact ao.mpr (k l a)
 intro l
 induction l with
 | nil=>exact λ_=>⟨bv _,aj _⟩
 | cons b l ih=>exact λa=>⟨ak (ih _).1 (Int.min_le_left a b),ao.mpr ⟨ak (ih _).1 (Int.min_le_right a b),(ih _).2⟩⟩
theorem F3{l:List Int}(c:Int)(h:l≠[]):mn (l.map (·+c))=mn l+c:=by
 suffices k:∀(l:List Int) (a:Int),(l.map (·+c)).foldl min (a+c)=l.foldl min a+c by
  cases l with
  | nil=>exact absurd rfl h
  | cons a l=>exact k l a
 intro l
 induction l with
 | nil=>exact λ_=>rfl
 | cons b l ih =>
  intro a
  show(l.map (·+c)).foldl min (min (a+c) (b+c))=_
  rw[show min (a+c) (b+c)=min a b+c from(Int.le_total a b).elim (λh=>by rw[Int.min_eq_left h,Int.min_eq_left (br h c)]) λh=>by rw[Int.min_eq_right h,Int.min_eq_right (br h c)]]
  exact ih _
theorem eP{r:Bool}{t:T}(h:WF t):0≤room r t:=by
 induction h with
 | @pane t p e h1 h2 h3 =>
  cases t
  cases e
  cases r
  ·exact Int.sub_nonneg_of_le h2
  ·exact Int.sub_nonneg_of_le h1
 | @box t q e h1 h2 h3 h4 h5 ih =>
  cases t with
  | mk k w h ps =>
   cases e
   have k:∀x∈qd r ps,0≤x:=λx m=>by
    rw[sC] at m
    obtain⟨s,ms,rfl⟩:=bb.mp m
    exact ih s ms
   show 0≤bif q==r then _ else _
   cases q==r
   ·exact HN k
   ·exact yQ k
structure Res(r:Bool)(c:Int)(t t':T):Prop where
 wf:WF t'
 k:t'.k=t.k
 s:t'.sd r=t.sd r+c
 o:t'.sd (!r)=t.sd (!r)
 n:names t'=names t
 m:room r t'=room r t+c
noncomputable def key(e:D):Nat×List Int:=(e.a,names e.t)
structure Aln(r:Bool)(A:Int)(ky:List (Nat×List Int))(S R:Int)(l:List D):Prop where
 all:∀e∈l,WF e.t∧e.t.sd (!r)=A∧e.t.k≠ .box r
 ky:l.map key=ky
 s:(l.map λe=>e.t.sd r).sum=S
 m:(l.map λe=>room r e.t).sum=R
theorem v6{f:D→Int}{l m:List D}{x y:D}{S c:Int}(h:((l++x::m).map f).sum=S)(e:f y=f x+c):((l++y::m).map f).sum=S+c:=by
 rw[au,jL] at h⊢
 have h:(l.map f).sum+(f x+(m.map f).sum)=S:=h
 show(l.map f).sum+(f y+(m.map f).sum)=S+c
 rw[e,←h]
 lia
theorem rW{r:Bool}{A S R c:Int}{ky:List (Nat×List Int)}{l m:List D}{x y:D}(h:Aln r A ky S R (l++x::m))(k:Res r c x.t y.t)(e:y.a=x.a):Aln r A ky (S+c) (R+c) (l++y::m) where
 all:=by
  have a:=aH.mp h.all
  have b:=ao.mp a.2
  exact aH.mpr ⟨a.1,ao.mpr ⟨⟨k.wf,k.o.trans b.1.2.1,λq=>b.1.2.2 (k.k.symm.trans q)⟩,b.2⟩⟩
 ky:=by
  rw[←h.ky,au,au]
  exact congrArg (λz=>l.map key++z::m.map key) (show(y.a,names y.t)=(x.a,names x.t) from congr (congrArg Prod.mk e) k.n)
 s:=v6 h.s k.s
 m:=v6 h.m k.m
noncomputable def D.with(d:D)(w h:Int)(ps:List D):D:= .mk d.a d.b d.x d.y d.k w h ps
theorem Gb{l m:List D}(h:l.map key=m.map key):l.length=m.length:=by
 have:=congrArg List.length h
 rwa [ah,ah] at this
theorem iS{l m:List D}(h:l.map key=m.map key):refs l=refs m:=by
 have e:∀z:List D,refs z=(z.map key).map λp=>V.ref p.1:=λz=>by rw[aY];rfl
 rw[e,e,h]
theorem nV{l m:List D}(h:l.map key=m.map key):(l.map D.t).flatMap names=(m.map D.t).flatMap names:=by
 have e:∀z:List D,(z.map D.t).flatMap names=(z.map key).flatMap λp=>p.2:=λz=>by rw[List.flatMap_map,List.flatMap_map];rfl
 rw[e,e,h]
theorem mapt{β:Type}(f:T→β)(l:List D):((l.map D.t).map f)=l.map λe=>f e.t:=by
 rw[aY]
 rfl
theorem vK{r:Bool}{d:D}{l:List D}{w h S R:Int}(e:d.k= .box r)(hd:WF d.t)(al:Aln r (sd (!r) w h) (d.ps.map key) S R l)(es:S+d.ps.length-1=sd r w h):WF (d.with w h l).t:=by
 obtain⟨a,b,x,y,k,w',h',ps⟩:=d
 cases(show k=_ from e)
 refine jK hd rfl λh1 _ _ _ _=> ?_
 rw[hZ,ah] at h1
 have el:=Gb al.ky
 have all:∀s∈tL l,WF s∧s.sd (!r)=sd (!r) w h∧s.k≠ .box r:=λs m=>by
  rw[eZ] at m
  obtain⟨e,me,rfl⟩:=bb.mp m
  exact al.all e me
 refine .box rfl ?_ (λs m=>(all s m).1) (λs m=>(all s m).2.1) (λs m=>(all s m).2.2) ?_
 ·show 2≤(tL l).length
  rw[eZ,ah,el]
  exact h1
 ·show((tL l).map _).sum+(tL l).length-1=sd r w h
  rw[eZ,mapt,al.s,ah,el]
  exact es
theorem t8{r:Bool}{d:D}(e:d.k= .box r)(hd:WF d.t):Aln r (d.sd (!r)) (d.ps.map key) (d.sd r-d.ps.length+1) (d.ps.map λe=>room r e.t).sum d.ps:=jK hd ((t_k d).trans e) λ_ h2 h3 h4 h5=>by
 rw[hZ] at h2 h3 h4 h5
 rw[mapt,ah,fA] at h5
 refine⟨λs m=> ?_,rfl,?_,rfl⟩
 ·have m:=aK (f:=D.t) m
  exact⟨h2 _ m,(h3 _ m).trans (fA _ d),h4 _ m⟩
 ·rw[←h5,Int.sub_sub,Int.add_comm 1,←Int.sub_sub,bj,Int.sub_add_cancel]
theorem Fk(r:Bool)(c:Int)(d:D):(d.set r c).sd r=c∧(d.set r c).sd (!r)=d.sd (!r):=by
 cases d
 cases r
 ·exact⟨rfl,rfl⟩
 ·exact⟨rfl,rfl⟩
theorem Fm(r:Bool)(c:Int)(d:D):d.set r c=d.with (d.set r c).w (d.set r c).h d.ps:=by
 cases d
 cases r
 ·rfl
 ·rfl
noncomputable def D.to(d:D)(r:Bool)(s:Int)(l:List D):D:=d.with (d.set r s).w (d.set r s).h l
theorem mG(r:Bool)(c:Int)(d:D)(l:List D):(d.to r c l).t.sd r=c∧(d.to r c l).t.sd (!r)=d.t.sd (!r):=by
 cases d
 cases r
 ·exact⟨rfl,rfl⟩
 ·exact⟨rfl,rfl⟩
theorem Ef{r:Bool}{d:D}{l:List D}{c:Int}(e:d.k= .box r)(hd:WF d.t)(al:Aln r (d.sd (!r)) (d.ps.map key) (d.sd r-d.ps.length+1+c) ((d.ps.map λe=>room r e.t).sum+c) l):Res r c d.t (d.to r (d.sd r+c) l).t where
 wf:=by
  obtain⟨e1,e2⟩:=Fk r (d.sd r+c) d
  refine vK e hd (e2.symm▸al:Aln r (sd (!r) (d.set r (d.sd r+c)).w (d.set r (d.sd r+c)).h) _ _ _ _) (.trans ?_ e1.symm)
  lia
 k:=(t_k d).symm
 s:=(mG r _ d l).1.trans (congrArg (·+c) (fA r d).symm)
 o:=(mG r _ d l).2
 n:=by rw[gS e,gS (show(d.to r _ l).k= .box r from e)];exact nV al.ky
 m:=by
  rw[ij e,ij (show(d.to r _ l).k= .box r from e),bC]
  exact al.m
noncomputable def ph(r:Bool)(c:Int)(e:D):(Nat×List Int)×Int×Int:=(key e,e.t.sd (!r),room r e.t+c)
theorem Ei{r:Bool}{d:D}{l:List D}{c:Int}(e:d.k≠ .box r)(hd:WF d.t)(c0:0≤room r d.t+c)(hl:l.map (ph r 0)=d.ps.map (ph r c))(al:∀e∈l,WF e.t∧e.t.sd r=d.sd r+c∧e.t.k≠ .box (!r)):Res r c d.t (d.to r (d.sd r+c) l).t where
 wf:=by
  have ek:l.map key=d.ps.map key:=by
   have:=congrArg (List.map Prod.fst) hl
   rwa [aY,aY] at this
  cases q:d.k with
  | pane p =>
   refine pB hd ((t_k d).trans q) λh1 h2 h3=> ?_
   rw[hZ] at h3
   cases List.map_eq_nil_iff.mp (ek.trans (congrArg (List.map key) (List.map_eq_nil_iff.mp h3)))
   obtain⟨a,b,x,y,k,w,h,ps⟩:=d
   cases(show k=_ from q)
   cases r
   ·exact .pane rfl h1 (show 1≤h+c from by have:0≤h-1+c:=c0;lia) rfl
   ·exact .pane rfl (show 1≤w+c from by have:0≤w-1+c:=c0;lia) h2 rfl
  | box q2 =>
   have e2:q2= !r:=by
    cases q2 <;> cases r
    ·exact absurd q e
    ·rfl
    ·rfl
    ·exact absurd q e
   subst e2
   have w:=t8 q hd
   refine vK q hd (S:=d.sd (!r)-d.ps.length+1) (R:=(l.map λe=>room (!r) e.t).sum) ⟨λs m=> ?_,ek,?_,rfl⟩ ?_
   ·obtain⟨h1,h2,h3⟩:=al s m
    rw[Bool.not_not]
    refine⟨h1,h2.trans ?_,h3⟩
    have:=(mG r (d.sd r+c) d l).1
    rw[fA] at this
    exact this.symm
   ·rw[←w.s]
    have:=congrArg (λz=>(z.map λp=>p.2.1).sum) hl
    rw[aY,aY] at this
    exact this
   ·have:=(mG r (d.sd r+c) d l).2
    rw[fA,fA] at this
    refine .trans ?_ this.symm
    lia
 k:=(t_k d).symm
 s:=(mG r _ d l).1.trans (congrArg (·+c) (fA r d).symm)
 o:=(mG r _ d l).2
 n:=by
  have ek:l.map key=d.ps.map key:=by
   have:=congrArg (List.map Prod.fst) hl
   rwa [aY,aY] at this
  cases q:d.k with
  | pane p =>
   have q1:d.k= .pane d.k.p:=by rw[q];rfl
   rw[q7 q1,q7 (show(d.to r _ l).k= .pane (d.to r _ l).k.p from q1)]
   rfl
  | box q2=>rw[gS q,gS (show(d.to r _ l).k= .box q2 from q)];exact nV ek
 m:=by
  cases q:d.k with
  | pane p =>
   have q1:d.k= .pane d.k.p:=by rw[q];rfl
   rw[uw q1,uw (show(d.to r _ l).k= .pane (d.to r _ l).k.p from q1),←fA,(mG r _ d l).1]
   lia
  | box q2 =>
   have e2:(q2==r)=false:=beq_eq_false_iff_ne.mpr λq3=>e (q3▸q)
   rw[ij q,ij (show(d.to r _ l).k= .box q2 from q),e2]
   have:=congrArg (List.map λp=>p.2.2) hl
   rw[aY,aY] at this
   have e3:(l.map λe=>room r e.t)=(d.ps.map λe=>room r e.t).map (·+c):=by
    rw[aY]
    refine .trans (List.map_congr_left λe _=>(Int.add_zero _).symm) this
   show mn _=mn _+c
   rw[show(d.to r (d.sd r+c) l).ps=l from rfl,e3]
   exact F3 c λz=>vO hd q (List.map_eq_nil_iff.mp z)
noncomputable def Pg(r:Bool)(c c':Int)(l:List D):Prop:=(c'=c∧(0<c→l=[])∧(c<0→∀e∈l,room r e.t≤0))∨c'.natAbs<c.natAbs
theorem mi{t:T}{r:Bool}(h:t.k= .box r):names t=t.ps.flatMap names:=by
 cases t with
 | mk k w h' ps =>
  cases k with
  | pane=>exact nomatch h
  | box=>exact fe ps
theorem vm{ps:List T}(h:∀s∈ps,1≤(names s).length):ps.length≤(ps.flatMap names).length:=by
 induction ps with
 | nil=>exact aD 0
 | cons a l ih =>
  rw[List.flatMap_cons,aa,bc,bn]
  exact bq (h a (.head _)) (ih λs m=>h s (.tail _ m))
theorem Gy{ps:List T}(h:∀s∈ps,1≤(names s).length):∀s∈ps,(names s).length+ps.length≤(ps.flatMap names).length+1:=by
 induction ps with
 | nil=>exact aj _
 | cons a l ih =>
  have k:=vm λs m=>h s (.tail _ m)
  rw[List.flatMap_cons,aa,bc]
  refine ao.mpr ⟨aA (aB k _),λs m=> ?_⟩
  have:=ih (λs m=>h s (.tail _ m)) s m
  have:=h a (.head _)
  lia
theorem dH{t:T}(h:WF t):1≤(names t).length:=by
 induction h with
 | @pane t p e =>
  cases t
  cases e
  exact aD 1
 | @box t r e h1 _ _ _ _ ih =>
  rw[mi e]
  exact ae (bf h1) (vm ih)
theorem EF{t:T}{n:Nat}(h:WF t)(hn:(names t).length≤n+1):∀s∈t.ps,(names s).length≤n:=by
 cases h with
 | pane _ _ _ e=>exact e▸aj _
 | box e h1 h2 =>
  rw[mi e] at hn
  intro s m
  have:=Gy (λs m=>dH (h2 s m)) s m
  lia
theorem fH{n:Nat}(h9:n≤99):∀{t:T},WF t→(names t).length≤n→Dp n t:=by
 induction n with
 | zero=>exact λh k=>absurd (dH h) (Nat.not_le_of_lt (ax k Nat.one_pos))
 | succ n ih =>
  intro t h k
  refine⟨?_,λs m=>ih (bf h9) (Ej h s m) (EF h k s m)⟩
  cases h with
  | pane _ _ _ e=>exact e▸bu _
  | box e h1 h2 =>
   rw[mi e] at k
   exact ae (vm λs m=>dH (h2 s m)) (ae k h9)
theorem Ac{d:D}{n:Nat}(h:WF d.t)(hn:(names d.t).length≤n+1):∀e∈d.ps,(names e.t).length≤n:=λe m=>EF h hn _ (hZ d▸aK m)
theorem uL{n:Nat}{l m:List D}(h:l.map key=m.map key)(hm:∀e∈m,(names e.t).length≤n):∀e∈l,(names e.t).length≤n:=λe me=>by
 obtain⟨f,mf,q⟩:=bb.mp (h▸aK (f:=key) me)
 have q:names f.t=names e.t:=congrArg Prod.snd q
 exact q▸hm f mf
theorem EI{k:K}{r:Bool}(h:(!(k.n==(K.box r).n))=true):k≠ .box r:=λe=>by
 rw[e,bC] at h
 exact Bool.noConfusion h
theorem AA{k:K}{r:Bool}(h:(!(k.n==(K.box r).n))=false):k= .box r:=by
 cases k with
 | pane=>cases r <;> exact Bool.noConfusion h
 | box q =>
  rw[s8] at h
  exact congrArg K.box (bD (by rw[←Bool.not_not (q==r),h];rfl))
theorem BY{r:Bool}{c:Int}{l m:List D}(h:l.map (ph r 0)=m.map (ph r c)):refs l=refs m:=iS (by
 have:=congrArg (List.map Prod.fst) h
 rwa [aY,aY] at this)
theorem GV{r:Bool}{d:D}{c:Int}(e:d.k≠ .box r)(wf:WF d.t)(c0:0≤room r d.t+c):∀x∈d.ps,0≤room r x.t+c∧x.t.sd r=d.sd r∧x.t.k≠ .box (!r):=λx hx=>by
 cases q:d.k with
 | pane p=>exact pB wf ((t_k d).trans q) λ_ _ h=>absurd (List.map_eq_nil_iff.mp ((hZ d).symm.trans h)) (List.ne_nil_of_mem hx)
 | box q2 =>
  have e2:q2= !r:=by
   cases q2 <;> cases r
   ·exact absurd q e
   ·rfl
   ·rfl
   ·exact absurd q e
  subst e2
  have m:=aK (f:=D.t) hx
  refine jK wf ((t_k d).trans q) λ_ _ h3 h4 _=> ?_
  rw[hZ,Bool.not_not,fA] at h3
  rw[hZ] at h4
  refine⟨?_,h3 _ m,h4 _ m⟩
  rw[ij q,show((!r)==r)=false by cases r <;> rfl] at c0
  exact ak c0 (br (HO _ (aK hx)) c)
theorem ad(a c c' δ:Int):a+(c-c')+δ=a+(c-(c'-δ)):=by lia
theorem EL{d:D}{r:Bool}{s:Int}{l:List D}(e:refs l=refs d.ps):hd (d.to r s d.ps) l++bO []=objs (d.to r s l):=AW e
theorem AV{d:D}{r:Bool}{s:Int}{l:List D}(e:refs l=refs d.ps):hd (d.to r s d.ps) []++bO l=objs (d.to r s l):=congrArg (λz=>cell (d.to r s l)::(d.b,O.list z)::bO l) e.symm
theorem Ho{r:Bool}{c c':Int}{l:List D}{x:D}(h:Pg r c c' l)(e:0<c'):Pg r c (c'-1) (l++[x]):= .inr (h.elim (λh=>h.1▸uO e) λh=>Nat.lt_trans (uO e) h)
theorem Hq{r:Bool}{c c':Int}{l:List D}{x:D}(h:Pg r c c' l)(e:c'<0):Pg r c (c'- -1) (l++[x]):= .inr (h.elim (λh=>h.1▸Ag e) λh=>Nat.lt_trans (Ag e) h)
theorem Hp{r:Bool}{c c':Int}{l:List D}{x:D}(h:Pg r c c' l)(c0:c≠0)(e:c'≤0)(hr:c'<0→room r x.t≤0):Pg r c c' (l++[x]):=h.elim (λh=> .inl ⟨h.1,λq=>absurd (h.1▸q) (bx.mpr e),λq=>aH.mpr ⟨h.2.2 q,ai.mpr (hr (h.1.symm▸q))⟩⟩) .inr
section
variable{σ:H}{d:D}{r:Bool}{c:Int}
theorem fX{n:Nat}{Q:V×H→Prop}(h9:n≤99)(hn:(names d.t).length≤n)(h:Own σ (objs d))(wf:WF d.t)(c0:0≤room r d.t+c)(hc:c.natAbs<wfuel)(K:∀d' σ',d'.a=d.a→Res r c d.t d'.t→Tr (objs d) σ (objs d') σ'→Q (.none,σ')):Ok (cf (n+1) b8 [.ref d.a,.bool r,.int c] σ) Q:=by
 induction n generalizing d σ Q c with
 | zero=>exact(Nat.not_le_of_lt (dH wf) hn).elim
 | succ n ih =>
  have h9:=bf h9
  refine okF (le:=some (.ref d.a)::some (.bool r)::some (.int c)::nn 7) rfl rfl (okC (dy (cq h) (okC (jN (cq h) λσ1 t1=> ?_))))
  have t1:=qJ (t1.fr ((d.b,.list (refs d.ps))::bO d.ps))
  have t1:Tr (objs d) σ (hd (d.to r (d.sd r+c) d.ps) []++bO d.ps) σ1:=by
   rw[Fm] at t1
   exact t1
  have o1:=t1.get h
  have c1:=bU (o1.1 (cell (d.to r (d.sd r+c) d.ps)) (.head _))
  have l1:=bH (o1.1 (d.b,.list (refs d.ps)) (.tail _ (.head _)))
  refine okI c1 (okC (gC ?_))
  refine fB (λe=> ?_) λe=> ?_
  ·have e:d.k≠ .box r:=EI e
   refine okI c1 (dN l1 ?_)
   refine okB (dq (S:=Option V×List D) (λs=>some (.ref d.a)::some (.bool r)::some (.int c)::s.1::nn 6)
    (λs todo σ'=>∀G:Prop,(Tr (objs d) σ (hd (d.to r (d.sd r+c) d.ps) s.2++bO todo) σ'→s.2.map (ph r 0)++todo.map (ph r c)=d.ps.map (ph r c)→(∀e∈todo,e∈d.ps)→(∀e∈s.2,WF e.t∧e.t.sd r=d.sd r+c∧e.t.k≠ .box (!r))→G)→G) ?_ ?_ (s:=(none,[])) λG k=>k t1 rfl (λ_ m=>m) (aj _))
   ·intro s x xs σ2 hI
    refine⟨_,rfl,λR K1 _=>hI _ λt e1 m al=> ?_⟩
    have hx:=m x (.head _)
    have o2:=t.get h
    obtain⟨cx,ex,kx⟩:=GV e wf c0 x hx
    refine okC (ih h9 (Ac wf hn x hx) (jS o2) (xc wf x hx) cx hc λx' σ3 ea rs t2=> ?_)
    have t3:=rE _ x' _ _▸t.trans (t2.mid _ (bO xs))
    refine okR (K1 (_,s.2++[x']) _ (ai.mpr ((t3.get h).1 (d.b,.list (refs d.ps)) (.tail _ (.head _)))) λG k=>k t3 ?_ (λe me=>m e (.tail _ me)) (aH.mpr ⟨al,ai.mpr ⟨rs.wf,?_,?_⟩⟩))
    ·rw[←e1,au,af]
     refine congrArg (λz=>_++z::xs.map _) ?_
     show((x'.a,names x'.t),x'.t.sd (!r),room r x'.t+0)=((x.a,names x.t),x.t.sd (!r),room r x.t+c)
     rw[ea,rs.n,rs.o,rs.m,Int.add_zero]
    ·rw[rs.s,ex]
    ·rw[rs.k]
     exact kx
   ·intro s σ2 hI
    refine hI _ λt e1 m al=> ?_
    have er:=Ei e wf c0 ((aw _).symm.trans e1) al
    exact okR (K (d.to r (d.sd r+c) s.2) _ rfl er (EL (BY ((aw _).symm.trans e1))▸t))
  ·have e:d.k= .box r:=AA e
   have al0:=t8 e wf
   have cR:0≤(d.ps.map λe=>room r e.t).sum+c:=by
    rw[ij e,bC] at c0
    exact c0
   have ln:d.ps≠[]:=vO wf e
   refine okB (zU (S:=Int×Option V×List D) (λs=>some (.ref d.a)::some (.bool r)::some (.int s.1)::s.2.1::nn 6)
    (λm s σ'=>∀G:Prop,(m=s.1.natAbs→Tr (objs d) σ (hd (d.to r (d.sd r+c) d.ps) []++bO s.2.2) σ'→Aln r (d.sd (!r)) (d.ps.map key) (d.sd r-d.ps.length+1+(c-s.1)) ((d.ps.map λe=>room r e.t).sum+(c-s.1)) s.2.2→G)→G) ?_ (m:=c.natAbs) (s:=(c,none,d.ps)) (λG k=>k rfl t1 (by rw[Int.sub_self,Int.add_zero,Int.add_zero];exact al0)) ?_)
   ·intro m s σ2 hI R K1 K2
    refine hI _ λem t al=> ?_
    cases ec:s.1==0 with
    | true =>
     refine okR ?_
     rw[ec]
     refine K2 _ (okR (K (d.to r (d.sd r+c) s.2.2) _ rfl ?_ ?_))
     ·rw[bD ec,Int.sub_zero] at al
      exact Ef e wf al
     ·exact AV (iS al.ky)▸t
    | false =>
     refine okR ?_
     rw[ec]
     have ec:s.1≠0:=ne_of_beq_false ec
     refine K1 _ λR2 K3=> ?_
     have o2:=t.get h
     refine okI (bU (o2.1 (cell (d.to r (d.sd r+c) d.ps)) (.head _))) (dN (bH (o2.1 (d.b,.list (refs d.ps)) (.tail _ (.head _)))) ?_)
     refine okB (ir (iS al.ky).symm (dq (S:=Int×Option V×List D) (λs=>some (.ref d.a)::some (.bool r)::some (.int s.1)::s.2.1::nn 6)
      (λs' todo σ'=>∀G:Prop,(Tr (objs d) σ (hd (d.to r (d.sd r+c) d.ps) s'.2.2++bO todo) σ'→Aln r (d.sd (!r)) (d.ps.map key) (d.sd r-d.ps.length+1+(c-s'.1)) ((d.ps.map λe=>room r e.t).sum+(c-s'.1)) (s'.2.2++todo)→Pg r s.1 s'.1 s'.2.2→G)→G) ?_ ?_ (s:=(s.1,s.2.1,[])) λG k=>k t al (.inl ⟨rfl,λ_=>rfl,λ_=>aj _⟩)))
     ·intro s2 x xs σ3 hI
      refine⟨_,rfl,λR K1 _=>hI _ λt al pg=> ?_⟩
      have hx:=al.all x (ay _ (.head _))
      have nx:=uL al.ky (Ac wf hn) x (ay _ (.head _))
      have ox:=jS (t.get h)
      have fin:∀{δ:Int} {x':D} {σ4 σ5:H},x'.a=x.a→Res r δ x.t x'.t→Kp σ3 σ4→Tr (objs x) σ4 (objs x') σ5→Pg r s.1 (s2.1-δ) (s2.2.2++[x'])→R (.next,some (.ref d.a)::some (.bool r)::some (.int (s2.1-δ))::some (rf x)::nn 6,σ5):=λ{δ x' σ4 σ5} ea rs k4 t2 pg2=>by
       have t3:=rE _ x' _ _▸(t.kp k4).trans (t2.mid _ (bO xs))
       refine K1 (s2.1-δ,some (rf x),s2.2.2++[x']) _ (ai.mpr ((t3.get h).1 (d.b,.list (refs d.ps)) (.tail _ (.head _)))) λG k=>k t3 ?_ pg2
       have:=rW al rs ea
       rw[ad,ad,List.append_cons] at this
       exact this
      refine fB (λe1=> ?_) λe1=> ?_
      ·have e1:0<s2.1:=bA e1
       exact okC (ih h9 nx ox hx.1 (Int.le_add_one (eP hx.1)) (by decide) λx' σ4 ea rs t2=>okR (fin ea rs .rfl t2 (Ho pg e1)))
      ·have e1:s2.1≤0:=bx.mp (of_decide_eq_false e1)
       have no:∀σ4,Kp σ3 σ4→(s2.1<0→room r x.t≤0)→R (.next,some (.ref d.a)::some (.bool r)::some (.int s2.1)::some (rf x)::nn 6,σ4):=λσ4 k4 hr=>by
        have:=fin (x':=x) (δ:=0) rfl ⟨hx.1,rfl,(Int.add_zero _).symm,rfl,rfl,(Int.add_zero _).symm⟩ k4 .rfl ((Int.sub_zero s2.1).symm▸Hp pg ec e1 hr)
        rwa [Int.sub_zero] at this
       refine fB (λe2=> ?_) λe2=>okR (no _ .rfl λq=>absurd q (of_decide_eq_false e2))
       have e2:s2.1<0:=bA e2
       refine okC (jO (fH h9 hx.1 nx) (cq ox) hx.1 λσ4 k4=>fB (λe3=> ?_) λe3=>okR (no _ k4 λ_=>bx.mp (of_decide_eq_false e3)))
       have e3:0<room r x.t:=bA e3
       exact okC (ih h9 nx (jS ((t.kp k4).get h)) hx.1 (Int.le_sub_one_of_lt e3) (by decide) λx' σ5 ea rs t2=>okR (fin ea rs k4 t2 (Hq pg e2)))
     ·intro s2 σ3 hI
      refine hI _ λt al pg=> ?_
      rw[aw] at al
      refine okR (K3 s2.1.natAbs (s2.1,s2.2.1,s2.2.2) _ (em▸pg.elim (λpg=> ?_) λq=>q) λG k=>k rfl ?_ al)
      ·rcases Int.lt_or_gt_of_ne ec with q|q
       ·have h1:=Fa (l:=s2.2.2.map λe=>room r e.t) λz m=>by
         obtain⟨e,me,rfl⟩:=bb.mp m
         exact pg.2.2 q e me
        rw[al.m,pg.1] at h1
        lia
       ·have:=al.ky
        rw[pg.2.1 q] at this
        exact absurd (List.map_eq_nil_iff.mp this.symm) ln
      ·rw[AV (iS al.ky),←EL (iS al.ky)]
       exact t
   ·exact hc
end
theorem pm{α:Type}(A X B:List α):(A++(X++B)).Perm (X++(A++B)):=by
 rw[←af,←af]
 exact ba.append_right B
noncomputable def G.fl(g:G):List V:=[.str (K.box g.r).n,.int g.w,.int g.h,.int g.x,.int g.y,.ref g.b,.none]
noncomputable def rng(g:G)(m:List V):List (Nat×O):=(g.a,.inst 0 g.fl)::(g.b,.list (refs g.l++(m++refs g.rs)))::(bO g.l++bO g.rs)
noncomputable def G.fill(g:G)(m:List D):D:= .mk g.a g.b g.x g.y (.box g.r) g.w g.h (g.l++(m++g.rs))
noncomputable def cU:List G→Nat→List (Nat×O)
 | [],_=>[]
 | g::c,a=>rng g [.ref a]++cU c g.a
theorem dA(l m:List D):refs (l++m)=refs l++refs m:=au
theorem qq(g:G)(m:List D):(objs (g.fill m)).Perm (bO m++rng g (refs m)):=by
 show((g.a,O.inst 0 g.fl)::(g.b,.list (refs (g.l++(m++g.rs))))::bO (g.l++(m++g.rs))).Perm _
 rw[dA,dA,dC,dC]
 exact pm ((g.a,O.inst 0 g.fl)::(g.b,.list (refs g.l++(refs m++refs g.rs)))::bO g.l) (bO m) (bO g.rs)
theorem vQ(g:G)(d:D):(objs (g.up d)).Perm (objs d++rng g [.ref d.a]):=by
 have:=qq g [d]
 rwa [show bO [d]=objs d from aw _] at this
theorem d0(c:List G):∀d,(objs (cF c d)).Perm (objs d++cU c d.a):=by
 induction c with
 | nil=>exact λd=>by rw[show cU [] d.a=[] from rfl,aw];exact .refl _
 | cons g c ih=>exact λd=>(ih (g.up d)).trans (by rw[show cU (g::c) d.a=rng g [.ref d.a]++cU c g.a from rfl,←af];exact(vQ g d).append_right _)
noncomputable def kj:List G→Nat→Nat
 | [],a=>a
 | g::c,_=>kj c g.a
theorem iq(c:List G):∀d,(cF c d).a=kj c d.a:=by
 induction c with
 | nil=>exact λ_=>rfl
 | cons g c ih=>exact λd=>ih (g.up d)
noncomputable def pra(c:List G)(a:Nat):List V:=(c.map λg=>V.ref g.a).reverse++[.ref a]
theorem c9(g:G)(c:List G)(a:Nat):pra (g::c) a=pra c g.a++[.ref a]:=by
 show((V.ref g.a)::c.map _).reverse++_=_
 rw[List.reverse_cons]
 rfl
theorem lZ(c:List G):∀a,∃l,pra c a= .ref (kj c a)::l:=by
 induction c with
 | nil=>exact λa=>⟨[],rfl⟩
 | cons g c ih=>exact λa=>(ih g.a).elim λl e=>⟨l++[.ref a],by rw[c9,e];rfl⟩
section
variable{σ:H}{a:Nat}
theorem f7{P Q:List V}{v:V}{k:Int}(h:bJ σ a=some (P++v::Q))(hk:k= -((Q.length:Int)+1)):gD σ (.ref a) (.int k)=some v:=by
 show(bJ σ a).bind _=_
 rw[h]
 show(gd _ _).bind _=_
 have e:wrap (P++v::Q).length k=(P.length:Int):=by
  rw[wrap,if_pos (by omega),aa,bc]
  lia
 rw[e,gd,if_pos (by rw[aa,bc,Bool.and_eq_true,decide_eq_true_eq,decide_eq_true_eq];lia)]
 show(P++v::Q)[P.length]? =_
 rw[aX (aD _),Nat.sub_self]
 rfl
theorem dQ{P Q:List V}{v:V}{k:Int}(h:bJ σ a=some (P++v::Q))(hk:k=P.length):gD σ (.ref a) (.int k)=some v:=by
 show(bJ σ a).bind _=_
 rw[h]
 show(gd _ _).bind _=_
 have e:wrap (P++v::Q).length k=(P.length:Int):=by
  rw[wrap,if_neg (by lia),hk]
 rw[e,gd,if_pos (by rw[aa,bc,Bool.and_eq_true,decide_eq_true_eq,decide_eq_true_eq];lia)]
 show(P++v::Q)[P.length]? =_
 rw[aX (aD _),Nat.sub_self]
 rfl
theorem qT{g:G}{m:List V}(m':List V):Tr (rng g m) σ (rng g m') (σ.set g.b (.list (refs g.l++(m'++refs g.rs)))):=dm.mid [(g.a,.inst 0 g.fl)] (bO g.l++bO g.rs)
theorem qU{X Y:List (Nat×O)}(h:Own σ (X++Y)){b:Nat}(ma:a∈X.map Prod.fst)(mb:b∈Y.map Prod.fst):a≠b:=(List.nodup_append.mp (au▸h.2)).2.2 a ma b mb
theorem kE{e:D}{l:List D}(h:e∈l):e.a∈(bO l).map Prod.fst:=bb.mpr ⟨(e.a,.inst 0 (flds e)),gz h _ (by rw[eT];exact .head _),rfl⟩
theorem jk{n:Nat}{Q:V×H→Prop}{c:List G}{p f:Nat}{X:List (Nat×O)}(h:Own σ (cU c a++X))(ha:a∈X.map Prod.fst)(mp:(p,.list (pra c a))∈X)(K:∀σ',Tr (cU c a) σ (cU c f) σ'→Q (.ref (kj c f),σ')):Ok (cf (n+2) eH [.ref p,.ref f] σ) Q:=by
 have hp:=bH ((b7 h).1 (p,_) mp)
 refine okF (le:=some (.ref p)::some (.ref f)::nn 7) rfl rfl (fG hp ?_)
 cases c with
 | nil=>exact okR (K σ .rfl)
 | cons g c =>
  have l0:(pra (g::c) a).length=c.length+2:=by
   show(List.reverse _++_).length=_
   rw[aa,List.length_reverse,ah]
   rfl
  have hp2:=hp
  rw[c9] at hp2
  have hp3:bJ σ p=some ((c.map λg=>V.ref g.a).reverse++ .ref g.a::[.ref a]):=by
   rw[hp2,pra,af]
   rfl
  have o1:Own σ (rng g [.ref a]++cU c g.a):=eK h
  have lg:=bH (o1.1 (g.b,_) (.tail _ (.head _)))
  refine okN (beq_eq_false_iff_ne.mpr (by rw[l0];lia)) (okX (f7 hp3 rfl) (okI (bU (o1.1 (g.a,_) (.head _))) ?_))
  have o2:Own σ (rng g [.ref a]):=eK o1
  refine okX (f7 (P:=pra c g.a) (Q:=[]) hp2 rfl) (okC (i4 (d:= .mk a 0 0 0 (.pane 0) 0 0 []) (l:=g.l) (rs:=g.rs) (by rw[dA];exact lg) (λe me=>qU h ?_ ha) λσ1 k1=>okL (bL k1 lg) (okG ⟨aC _,?_⟩ ?_)))
  ·show e.a∈(rng g [.ref a]++cU c g.a).map Prod.fst
   rw[au,rng,aR,aR,au]
   exact aL _ (.tail _ (.tail _ (aL _ (kE me))))
  ·rw[aa,bV]
   exact aP.mpr (Nat.lt_add_of_pos_right (Nat.succ_pos (refs g.rs).length))
  ·have e:(refs g.l++([V.ref a]++refs g.rs)).set (Int.toNat g.l.length) (.ref f)=refs g.l++([.ref f]++refs g.rs):=by
    rw[bg,List.set_append_right _ _ (aZ (bV g.l)),bV,Nat.sub_self]
    rfl
   have t:Tr (cU (g::c) a) σ (cU (g::c) f) (σ1.set g.b (.list (refs g.l++([.ref f]++refs g.rs)))):=(Tr.kp .rfl k1).trans ((qT (g:=g) (m:=[.ref a]) [.ref f]).fr (cU c g.a))
   rw[e]
   obtain⟨l,et⟩:=lZ (g::c) a
   have hp4:=bH ((b7 (t _ h)).1 (p,_) mp)
   rw[et] at hp4
   exact okX (dQ (P:=[]) hp4 rfl) (okR (K _ t))
end
noncomputable def bl{α:Type}:List (List α)→List α
 | []=>[]
 | A::As=>match As with
  | []=>A
  | _::_=>A++bl As
theorem w0{α:Type}(L:List (List α)):bl L=L.flatten:=by
 induction L with
 | nil=>rfl
 | cons A As ih =>
  cases As with
  | nil=>exact(aw A).symm
  | cons B Bs=>exact congrArg (A++·) ih
theorem eM{α:Type}(n:Nat)(L:List (List α))(is:List Nat)(h:is.Perm (List.range n))(hn:n=L.length):(bl (is.map λi=>L[i]?.getD [])).Perm (bl L):=by
 subst hn
 rw[w0,w0]
 have e:(List.range L.length).map (λi=>L[i]?.getD [])=L:=by
  apply List.ext_getElem
  ·rw[ah,List.length_range]
  ·intro i h1 h2
   rw[List.getElem_map,List.getElem_range,aW h2]
   rfl
 exact(h.map λi=>L[i]?.getD []).flatten.trans (by rw[e])
example (A B C:List Nat):(C++(A++B)).Perm (A++(B++C)):=eM 3 [A,B,C] [2,0,1] (by decide) rfl
structure F where
 r:Bool
 w:Int
 h:Int
 l:List T
 rs:List T
noncomputable def F.fill(f:F)(m:List T):T:= .mk (.box f.r) f.w f.h (f.l++(m++f.rs))
noncomputable def plug:List F→T→T
 | [],t=>t
 | f::c,t=>plug c (f.fill [t])
noncomputable def G.f(g:G):F:=⟨g.r,g.w,g.h,tL g.l,tL g.rs⟩
theorem gb(l m:List D):tL (l++m)=tL l++tL m:=by rw[eZ,eZ,eZ,au]
theorem vn(g:G)(m:List D):(g.fill m).t=g.f.fill (tL m):=by
 show T.mk _ _ _ (tL _)=T.mk _ _ _ _
 rw[gb,gb]
 rfl
theorem gQ(c:List G):∀d,(cF c d).t=plug (c.map G.f) d.t:=by
 induction c with
 | nil=>exact λ_=>rfl
 | cons g c ih=>exact λd=>(ih (g.up d)).trans (congrArg (plug _) (vn g [d]))
noncomputable def Fs(p:Int)(c:List F):Prop:=∀f∈c,∀t∈f.l,p∉names t
theorem wK{p:Int}{c:List G}(h:Fst p c):Fs p (c.map G.f):=λf m t mt=>by
 obtain⟨g,mg,rfl⟩:=bb.mp m
 have mt:t∈tL g.l:=mt
 rw[eZ] at mt
 obtain⟨e,me,rfl⟩:=bb.mp mt
 exact h g mg e me
noncomputable def T.set(r:Bool)(s:Int):T→T| .mk k w h ps=>match r with
 | true=> .mk k s h ps
 | false=> .mk k w s ps
theorem sb(r:Bool)(s:Int)(d:D):(d.set r s).t=d.t.set r s:=by
 cases d
 cases r <;> rfl
noncomputable def wish(sz:Option Int)(side:Int):Int:=match sz with
 | none=>(side+1)/2-1
 | some s=>s
noncomputable def many(sz:Option Int)(side:Int):Int:=max 1 (min (wish sz side) (side-1-1))
noncomputable def szV:Option Int→V
 | none=> .none
 | some s=> .int s
noncomputable def duo(b:Bool){α:Type}(x y:α):List α:=match b with
 | true=>[y,x]
 | false=>[x,y]
noncomputable def eN(r b:Bool)(fr m:Int)(t:T):List F→T
 | []=> .mk (.box r) t.w t.h (duo b (t.set r (t.sd r-1-m)) ((T.mk (.pane fr) t.w t.h []).set r m))
 | f::c=>if f.r=r then plug c (f.fill (duo b (t.set r (t.sd r-1-m)) ((T.mk (.pane fr) t.w t.h []).set r m)))
  else plug (f::c) (.mk (.box r) t.w t.h (duo b (t.set r (t.sd r-1-m)) ((T.mk (.pane fr) t.w t.h []).set r m)))
theorem bP{σ σ':H}{X:List (Nat×O)}(h:New σ X σ'):Own σ' X:=h.get (X:=[]) ⟨aj _,.nil⟩
theorem Gk{σ σ':H}(h:Kp σ σ'){L:List (Nat×O)}(o:Own σ L):Own σ' L:=h L o
theorem tf{σ:H}{a:Nat}{l:List Int}{i:Int}(h:bJ σ a=some (l.map V.int)):cmpop .inn (.int i) (.ref a) σ=some (l.contains i):=by
 show(bJ σ a).bind _=_
 rw[h]
 show(cT b9 (l.map V.int)).bind _=_
 rw[fZ (k:=V.int) λ_=>rfl]
 rfl
theorem FY{l:List Int}{i:Int}(h:i∉l):l.contains i=false:=by
 cases e:l.contains i with
 | false=>rfl
 | true=>exact absurd (List.contains_iff_mem.mp e) h
theorem ifT{β:Type}{b:Bool}{x y:β}(h:b=true):(if b=true then x else y)=x:=if_pos h
theorem ii{d:D}{r:Bool}{s:Int}{σ σ':H}(h:Tr [cell d] σ [cell (d.set r s)] σ'):Tr (objs d) σ (objs (d.set r s)) σ':=by
 have e:objs (d.set r s)=cell (d.set r s)::(d.b,.list (refs d.ps))::bO d.ps:=by cases d;cases r <;> rfl
 rw[e]
 exact qJ (h.fr _)
theorem sy(r:Bool)(s:Int)(d:D):(d.set r s).a=d.a:=by cases d;cases r <;> rfl
section
variable{σ:H}{r b:Bool}
noncomputable def Cs(r:Bool):List G→Bool
 | []=>false
 | g::_=>g.r==r
theorem sX{e:D}{g:G}{m:List V}{X:List (Nat×O)}(h:e∈g.l):e.a∈(rng g m++X).map Prod.fst:=by
 rw[au,rng,aR,aR,au]
 exact aL _ (.tail _ (.tail _ (aL _ (kE h))))
theorem za{P Q B:List V}{x:V}{n:Nat}(h:P.length=n):(P++([x]++Q)).take (Int.toNat (n:Int))++B++(P++([x]++Q)).drop (Int.toNat ((n:Int)+1))=P++(B++Q):=by
 subst h
 rw[bg,show((P.length:Int)+1).toNat=P.length+1 from rfl,List.take_left,List.drop_append,List.drop_of_length_le (Nat.le_succ _),Nat.add_sub_cancel_left,af]
 rfl
theorem GG(c:List G):∀n d,Dp n (cF c d).t→∃m,Dp m d.t:=by
 induction c with
 | nil=>exact λn d h=>⟨n,h⟩
 | cons g c ih =>
  intro n d h
  obtain⟨m,hm⟩:=ih n (g.up d) h
  cases m with
  | zero=>exact hm.elim
  | succ m=>exact⟨m,kc hm d (ay _ (.head _))⟩
theorem DL{n:Nat}{d:D}(g:G)(c:List G)(h:Dp n (cF (g::c) d).t):g.l.length+(g.rs.length+1)≤99:=by
 obtain⟨m,hm⟩:=GG c n (g.up d) h
 cases m with
 | zero=>exact hm.elim
 | succ m =>
  have:(g.l++d::g.rs).length≤99:=jC hm
  rwa [aa] at this
theorem tG(b:Bool)(x y:D):(bO (duo b x y)).Perm (objs x++objs y):=by
 cases b
 ·show(objs x++(objs y++[])).Perm _
  rw[aw]
 ·show(objs y++(objs x++[])).Perm _
  rw[aw]
  exact ba
theorem jd(c:List G)(g:G)(m:List D):(objs (cF c (g.fill m))).Perm (bO m++(rng g (refs m)++cU c g.a)):=(d0 c _).trans ((af _ _ _)▸(qq g m).append_right _)
noncomputable def leS(u0 u1 u4 u9:V)(fr s m:Int)(r b:Bool)(pl l:Nat):Le:=some u0::some u1::some (.int fr)::some (.bool r)::some u4::some (.bool b)::some (.ref pl)::some (.ref l)::some (.int s)::some u9::some (.int m)::nn 11
noncomputable def IW(u0 u1 u2 u4 u5 u6 u9 u11 u12 u13:V)(u15:Option V)(s m:Int)(r:Bool)(l t:Nat):Le:=some u0::some u1::some u2::some (.bool r)::some u4::some u5::some u6::some (.ref l)::some (.int s)::some u9::some (.int m)::some u11::some u12::some u13::some (.ref t)::u15::nn 6
theorem mO{n:Nat}{Q:V×H→Prop}{leaf dF:D}{σ0:H}{m:Int}{Y Z Z':List (Nat×O)}{u0 u1 u2 u4 u5 u6 u9 u11 u12 u13:V}{u15:Option V}(o:Own σ0 Y)(t:Tr Y σ0 (objs leaf++Z) σ)(pz:(objs (leaf.set r (leaf.sd r-1-m))++Z).Perm (objs dF++Z'))(hdp:Dp (n+2) dF.t)
  (K:∀d' σ',d'.t=dF.t→Pl d' 0 0→Tr Y σ0 (objs d') σ'→Q (.ref d'.a,σ')) :
  Ok (bT (cf (n+2)) (fC.body.drop 12) (IW u0 u1 u2 u4 u5 u6 u9 u11 u12 u13 u15 (leaf.sd r) m r leaf.a dF.a) σ dt) Q:=by
 refine okC (jN (cq (eK (t.get o))) λσ1 t1=> ?_)
 have t2:=((t.trans ((ii t1).fr Z)).perm (.refl _) pz).dl
 refine okC (e9 hdp (t2.get o) λd' σ' ea et pl t3=>okR (ea▸K d' σ' et pl (t2.trans t3)))
theorem sp1{α:Type}(A O R C L P:List α):(A++(O++((R++C)++(L++P)))).Perm (R++(A++(O++(C++(L++P))))):=by
 rw[af R]
 exact eM 6 [R,A,O,C,L,P] [1,2,0,3,4,5] (by decide) rfl
theorem sp2{α:Type}(R A O C L P:List α):(R++(A++(O++(C++(L++P))))).Perm (L++(R++(A++(O++(C++P))))):=eM 6 [L,R,A,O,C,P] [1,2,3,4,0,5] (by decide) rfl
theorem sp3{α:Type}(L R A O C P:List α):(L++(R++(A++(O++(C++P))))).Perm ((L++O)++(R++C)++(A++P)):=by
 rw[af,af,af]
 exact eM 6 [L,O,R,C,A,P] [0,2,4,1,3,5] (by decide) rfl
theorem EQ{leaf ot:D}{b r:Bool}{fr m:Int}(h:ot.t= .mk (.pane fr) leaf.w leaf.h []):tL (duo b (leaf.set r (leaf.sd r-1-m)) (ot.set r m))=duo b (leaf.t.set r (leaf.t.sd r-1-m)) ((T.mk (.pane fr) leaf.t.w leaf.t.h []).set r m):=by
 have e:∀x y:D,tL (duo b x y)=duo b x.t y.t:=λx y=>by cases b <;> rfl
 rw[e,sb,sb,h,fA,t_w,t_h]
theorem xp{r b:Bool}{fr m:Int}{t:T}{c:List G}(h:Cs r c=false):eN r b fr m t (c.map G.f)=plug (c.map G.f) (.mk (.box r) t.w t.h (duo b (t.set r (t.sd r-1-m)) ((T.mk (.pane fr) t.w t.h []).set r m))):=by
 cases c with
 | nil=>rfl
 | cons g c=>exact if_neg λe:g.r=r=>by rw[Cs,e,bC] at h;exact Bool.noConfusion h
theorem sp4{α:Type}(N A O C L P:List α):(N++(A++(O++(C++(L++P))))).Perm (C++(N++(A++(O++(L++P))))):=eM 6 [C,N,A,O,L,P] [1,2,3,0,4,5] (by decide) rfl
theorem sp5{α:Type}(C N A O L P:List α):(C++(N++(A++(O++(L++P))))).Perm (L++(C++(N++(A++(O++P))))):=eM 6 [L,C,N,A,O,P] [1,2,3,4,0,5] (by decide) rfl
theorem sp6{α:Type}(L C N A O P:List α):(L++(C++(N++(A++(O++P))))).Perm ((N++(A++(L++O))++C)++P):=by
 rw[af,af,af,af]
 exact eM 6 [N,A,L,O,C,P] [2,4,0,1,3,5] (by decide) rfl
theorem xo{n:Nat}{Q:V×H→Prop}{c:List G}{leaf:D}{pl:Nat}{fr m:Int}{u0 u1 u4 u9:V}(o:Own σ (cU c leaf.a++(objs leaf++[(pl,.list (pra c leaf.a))])))
  (hdo:∃n,Dp n (cF c leaf).t) (hdp:Dp (n+2) (eN r b fr m leaf.t (c.map G.f))) (K:∀d' σ',d'.t=eN r b fr m leaf.t (c.map G.f)→Pl d' 0 0→Tr (cU c leaf.a++(objs leaf++[(pl,.list (pra c leaf.a))])) σ (objs d') σ'→Q (.ref d'.a,σ')) :
  Ok (bT (cf (n+2)) (fC.body.drop 7) (leS u0 u1 u4 u9 fr (leaf.sd r) m r b pl leaf.a) σ dt) Q:=by
 have ol:=cq (eK (b7 o))
 refine okI ol.c (okI ol.c (okC (jN (d:= .mk (σ++[O.list []]).length σ.length 0 0 (.pane fr) leaf.w leaf.h []) (s:=m) (bP ((bM _ _).and (bM _ _))).1 λσ1 t1=> ?_)))
 have t1:=((bM σ (O.list [])).and (bM (σ++[O.list []]) _)).trans (ii t1)
 generalize eo:D.mk (σ++[O.list []]).length σ.length 0 0 (.pane fr) leaf.w leaf.h []=ot at t1
 refine okJ (.ref σ1.length) (σ1++[.list (refs (duo b leaf ot))]) (λe k=> ?_) (λe k=> ?_) ?_
 ·subst eo;cases e;rfl
 ·subst eo;cases e;rfl
 have tn:=bM σ1 (O.list (refs (duo b leaf ot)))
 generalize σ1++[O.list (refs (duo b leaf ot))]=σ2 at tn⊢
 generalize σ1.length=bp at tn⊢
 have o2:=tn _ (t1 _ o)
 have k2:=(bI t1).trans (bI tn)
 have lp:bJ σ2 pl=some (pra c leaf.a):=bH (cj k2 ((b7 (b7 o)).1 _ (.head _)))
 obtain⟨l0,e0⟩:=lZ c leaf.a
 refine okC (gC (okX (dQ (P:=[]) (e0▸lp) rfl) (Hy (Cs r c) σ2 (λk=> ?_) (λec=> ?_) λec=> ?_)))
 ·refine(bnd (?_:Ap σ2 (.ref pl)=some ((pra c leaf.a).length:Int))).trans ?_
  ·show(bJ _ pl).bind _=_
   rw[lp]
   rfl
  cases c with
  | nil=>rfl
  | cons g c =>
   have lp3:bJ σ2 pl=some ((c.map λg=>V.ref g.a).reverse++ .ref g.a::[.ref leaf.a]):=by
    rw[lp,c9,pra,af]
    rfl
   have hg:=bU (cj k2 (o.1 (g.a,.inst 0 g.fl) (.head _)))
   have hl:icmp COp.gt ((pra (g::c) leaf.a).length:Int) 1=true:=by
    rw[c9,aa]
    refine bB (aP.mpr (Nat.succ_lt_succ ?_))
    rw[pra,aa]
    exact be Nat.one_pos (bk _ _)
   refine(ifT (b:=icmp COp.gt ((pra (g::c) leaf.a).length:Int) 1) hl).trans ((bnd (f7 lp3 rfl)).trans ((bnd hg).trans ?_))
   show k (.bool ((L.K.box g.r).n==(L.K.box r).n)) σ2=_
   rw[s8]
   rfl
 ·cases c with
  | nil=>exact Bool.noConfusion ec
  | cons g c =>
   have eg:g.r=r:=bD ec
   have lp3:bJ σ2 pl=some ((c.map λg=>V.ref g.a).reverse++ .ref g.a::[.ref leaf.a]):=by
    rw[lp,c9,pra,af]
    rfl
   have hg:=bU (cj k2 (o.1 (g.a,.inst 0 g.fl) (.head _)))
   have lg:=bH (cj k2 (o.1 (g.b,.list (refs g.l++([.ref leaf.a]++refs g.rs))) (.tail _ (.head _))))
   refine okX (f7 lp3 rfl) (okI hg (okC (i4 (d:=leaf) (l:=g.l) (rs:=g.rs) (by rw[dA];exact lg) (λe me=> ?_) λσ3 k3=> ?_)))
   ·exact qU o (sX me) (by rw[au,eT];exact .head _)
   have kx:=bL k3 lg
   refine okX (f7 (bL k3 lp3) rfl) (okI (dE k3 hg) (okL kx (okL (bL k3 (bH (o2.1 (bp,_) (.head _)))) (okG ?_ ?_))))
   ·obtain⟨n',hn'⟩:=hdo
    have h1:=DL g c hn'
    have h2:(refs (duo b leaf ot)).length=2:=by cases b <;> rfl
    have h3:(refs g.l++([V.ref leaf.a]++refs g.rs)).length=g.l.length+(1+g.rs.length):=by rw[aa,bV,aa,bV];rfl
    rw[h2,h3]
    exact⟨(nR tn (cj (bI t1) (o.1 (g.b,_) (.tail _ (.head _))))).symm,aC _,Int.le_add_one (bv _),aO.mpr (aB (az 1 _) _),ae (show _≤101 by lia) (by decide)⟩
   ·rw[za (bV g.l)]
    have t3:=((t1.fr (cU (g::c) leaf.a++(objs leaf++[(pl,.list (pra (g::c) leaf.a))]))).and tn).kp k3
    have e5:refs (duo b leaf ot)=refs (duo b (leaf.set r (leaf.sd r-1-m)) (ot.set r m)):=by cases b <;> simp only[refs,duo,List.map,rf,sy]
    have t4:=(t3.perm (.refl _) (sp1 _ (objs (ot.set r m)) (rng g [.ref leaf.a]) (cU c g.a) (objs leaf) _)).trans ((qT (refs (duo b leaf ot))).fr _)
    have eF:(cF c (g.fill (duo b (leaf.set r (leaf.sd r-1-m)) (ot.set r m)))).t=eN r b fr m leaf.t ((g::c).map G.f):=(gQ c _).trans (((congrArg _ (vn g _)).trans (congrArg (λz=>plug (c.map G.f) (g.f.fill z)) (EQ (eo▸rfl)))).trans (if_pos eg).symm)
    have pF:=(jd c g (duo b (leaf.set r (leaf.sd r-1-m)) (ot.set r m))).trans ((tG b _ _).append_right _)
    have at':(cF c (g.fill (duo b (leaf.set r (leaf.sd r-1-m)) (ot.set r m)))).a=kj (g::c) leaf.a:=iq c _
    rw[←e5] at pF
    have:=mO (n:=n) (Q:=Q) (u0:=u0) (u1:=u1) (u2:= .int fr) (u4:=u4) (u5:= .bool b) (u6:= .ref pl) (u9:=u9) (u11:= .ref (σ++[O.list []]).length) (u12:= .ref bp) (u13:= .str (L.K.box r).n) (u15:=some (.int g.l.length)) o (t4.perm (.refl _) (sp2 _ _ _ _ _ _)) ((sp3 _ _ _ _ _ _).trans (pF.symm.append_right _)) (eF▸hdp) λd' σ' et pl t=>K d' σ' (et.trans eF) pl t
    rw[at'] at this
    exact this
 ·have l2:=(cq (eK (b7 o))).kp k2
  refine okI l2.c (okI l2.c ?_)
  have t3:=((t1.fr (cU c leaf.a++(objs leaf++[(pl,.list (pra c leaf.a))]))).and tn).and (bM σ2 (.inst 0 [.str (L.K.box r).n,.int leaf.w,.int leaf.h,.int 0,.int 0,.ref bp,.none]))
  have t4:=t3.perm (.refl _) (sp4 [_] [_] (objs (ot.set r m)) (cU c leaf.a) (objs leaf) [_])
  refine okC (jk (c:=c) (a:=leaf.a) (X:=objs leaf++[(pl,.list (pra c leaf.a))]) (b7 (b7 (b7 (t3.get o)))) (by rw[au,eT];exact .head _) (ay _ (.head _)) λσ4 t5=> ?_)
  have t6:=t4.trans (t5.fr _)
  have eF:(cF c (.mk σ2.length bp 0 0 (.box r) leaf.w leaf.h (duo b (leaf.set r (leaf.sd r-1-m)) (ot.set r m)))).t=eN r b fr m leaf.t (c.map G.f):=by
   refine(gQ c _).trans (.trans (congrArg (plug _) ?_) (xp ec).symm)
   show T.mk _ _ _ (tL _)=_
   rw[EQ (show ot.t= .mk (.pane fr) leaf.w leaf.h [] from eo▸rfl),t_w,t_h]
  have e5:refs (duo b leaf ot)=refs (duo b (leaf.set r (leaf.sd r-1-m)) (ot.set r m)):=by cases b <;> simp only[refs,duo,List.map,rf,sy]
  have pF:=(d0 c (.mk σ2.length bp 0 0 (.box r) leaf.w leaf.h (duo b (leaf.set r (leaf.sd r-1-m)) (ot.set r m)))).trans (.append_right _ (((tG b _ _).append_left [(bp,O.list (refs (duo b (leaf.set r (leaf.sd r-1-m)) (ot.set r m))))]).append_left [(σ2.length,O.inst 0 [.str (L.K.box r).n,.int leaf.w,.int leaf.h,.int 0,.int 0,.ref bp,.none])]))
  rw[←e5] at pF
  have at':=iq c (.mk σ2.length bp 0 0 (.box r) leaf.w leaf.h (duo b (leaf.set r (leaf.sd r-1-m)) (ot.set r m)))
  have:=mO (n:=n) (Q:=Q) (u0:=u0) (u1:=u1) (u2:= .int fr) (u4:=u4) (u5:= .bool b) (u6:= .ref pl) (u9:=u9) (u11:= .ref (σ++[O.list []]).length) (u12:= .ref bp) (u13:= .str (L.K.box r).n) (u15:=none) o (t6.perm (.refl _) (sp5 _ _ _ _ _ _)) ((sp6 _ _ _ _ _ _).trans (pF.symm.append_right _)) (eF▸hdp) λd' σ' et pl t=>K d' σ' (et.trans eF) pl t
  rw[at'] at this
  exact this
end
section
variable{σ:H}{d:D}{r b:Bool}
theorem xn{n:Nat}{Q:V×H→Prop}{p fr:Int}{sz:Option Int}(h9:n≤96)(wf:WF d.t)(hn:(names d.t).length≤n)(h:At σ d)(hp:p∈names d.t)(hf:fr∉names d.t)
  (hdp:∀c t,d.t=plug c t→t.k= .pane p→3≤t.sd r→Dp (n+2) (eN r b fr (many sz (t.sd r)) t c))
  (K0:∀c t,d.t=plug c t→t.k= .pane p→Fs p c→t.sd r<3→∀σ',Kp σ σ'→Q (.none,σ'))
  (K:∀c t,d.t=plug c t→t.k= .pane p→Fs p c→3≤t.sd r→∀d' σ',d'.t=eN r b fr (many sz (t.sd r)) t c→Pl d' 0 0→New σ (objs d') σ'→Q (.ref d'.a,σ')) :
  Ok (cf (n+3) iE [.ref d.a,.int p,.int fr,.bool r,szV sz,.bool b] σ) Q:=by
 have hd2:Dp (n+2) d.t:=fH (ae (aF h9 2) (by decide)) wf (ae hn (az n 2))
 refine okF (le:=some (.ref d.a)::some (.int p)::some (.int fr)::some (.bool r)::some (szV sz)::some (.bool b)::nn 16) rfl rfl ?_
 refine okC (iJ hd2 h λd1 σ1 q1 t1=> ?_)
 have et:=ie q1
 refine okC (jQ (p:=p) (ae (aF h9 2) (by decide)) (et▸hd2) (bP t1).1 (λm=>absurd (et▸hp) m) λc leaf ec lk fs _ pl σ2 t2=> ?_)
 subst ec
 have t2:=t1.and t2
 refine okC (iV (fH (n:=n+1) (ae (aA h9) (by decide)) wf (aV hn)) (h.kp (bI t2)) (ae hn (ae h9 (by decide))) λa3 σ3 t3=>c7 (tf (bH (bK t3))) (okN (FY hf) ?_))
 have k3:=bI t3
 have lp:bJ σ3 pl=some ((c.map λg=>V.ref g.a).reverse++V.ref leaf.a::[]):=bL k3 (bH (bK t2))
 have o3:=Gk k3 (bP t2)
 have ol:Own σ3 (objs leaf):=eK (d9 (d0 c leaf) (b7 (X:=[(pl,_)]) o3))
 refine okX (f7 lp rfl) (okC (dy (cq ol) ?_))
 have e1:(cF c leaf).t=plug (c.map G.f) leaf.t:=gQ c leaf
 have K0:=K0 _ _ (et.symm.trans e1) ((t_k leaf).trans lk) (wK fs)
 have K:=K _ _ (et.symm.trans e1) ((t_k leaf).trans lk) (wK fs)
 have hdp:=hdp _ _ (et.symm.trans e1) ((t_k leaf).trans lk)
 rw[fA] at K0 K hdp
 refine fB (λe=>okR (K0 (bA e) _ ((bI t2).trans k3))) λe=> ?_
 have e:3≤leaf.sd r:=bx.mp (of_decide_eq_false e)
 have K:=K e
 have hdp:=hdp e
 refine okJ (.int (wish sz (leaf.sd r))) σ3 (λe k=> ?_) (λe k=> ?_) ?_
 ·cases sz with
  | none=>rfl
  | some=>exact Bool.noConfusion e
 ·cases sz with
  | none=>exact Bool.noConfusion e
  | some=>rfl
 have t4:=(t2.kp k3).perm (.refl _) (((d0 c leaf).append_left _).trans (eM 3 [cU c leaf.a,objs leaf,[(pl,.list (pra c leaf.a))]] [2,1,0] (by decide) rfl))
 exact xo (n:=n) (bP t4) ⟨_,et.symm▸hd2⟩ hdp λd' σ' et pl t=>K d' σ' et pl (t4.trans t)
end
theorem Gj(r:Bool):((K.box r).n==1)=r:=by cases r <;> rfl
noncomputable def Nb{α:Type}(l rs l0:List α)(q:α)(r0:List α):Prop:=(l=l0++[q]∧r0=rs)∨(l=[]∧l0=[]∧rs=q::r0)
theorem HM{α:Type}{l rs:List α}(h:1≤l.length+rs.length):∃l0 q r0,Nb l rs l0 q r0:=by
 rcases List.eq_nil_or_concat l with rfl|⟨l0,q,rfl⟩
 ·cases rs with
  | nil=>exact absurd h (Nat.not_succ_le_zero 0)
  | cons q r0=>exact⟨[],q,r0,.inr ⟨rfl,rfl,rfl⟩⟩
 ·exact⟨l0,q,rs,.inl ⟨List.concat_eq_append,rfl⟩⟩
theorem Ae{α:Type}{l rs l0:List α}{q:α}{r0:List α}(h:Nb l rs l0 q r0):l++rs=l0++q::r0:=by
 rcases h with⟨rfl,rfl⟩|⟨rfl,rfl,rfl⟩
 ·exact af _ _ _
 ·rfl
theorem HL{α:Type}{l rs l0:List α}{q:α}{r0:List α}(h:Nb l rs l0 q r0):max (0:Int) ((l.length:Int)-1)=(l0.length:Int):=by
 rcases h with⟨rfl,rfl⟩|⟨rfl,rfl,rfl⟩
 ·rw[aa]
  show max (0:Int) (((l0.length+1:Nat):Int)-1)=_
  lia
 ·rfl
noncomputable def melt(r:Bool)(q:D):List D:=if(q.k.n==(K.box r).n)=true then q.ps else [q]
theorem uT{n:Nat}{σ:H}{Q:V×H→Prop}{b:Nat}{l:List D}{r:Bool}(h:bJ σ b=some (refs l))(ha:∀e∈l,At σ e)(hn:(l.flatMap (melt r)).length≤lim)
  (K:∀a σ',New σ [(a,.list (refs (l.flatMap (melt r))))] σ'→Q (.ref a,σ')):Ok (cf (n+1) hV [.ref b,.str (L.K.box r).n] σ) Q:=by
 refine okF (le:=some (.ref b)::some (.str (L.K.box r).n)::nn 8) rfl rfl ?_
 refine dN (bL (bI (bM σ (.list []))) h) (okB (dq (S:=Option V×List D) (λs=>some (.ref b)::some (.str (L.K.box r).n)::some (.ref σ.length)::s.1::nn 6)
  (λs todo σ'=>(∀e∈todo,e∈l)∧New σ [(σ.length,.list (refs s.2))] σ'∧s.2++todo.flatMap (melt r)=l.flatMap (melt r)) ?_ ?_ (s:=(none,[])) ⟨λ_ m=>m,bM _ _,rfl⟩))
 ·intro s x xs σ1 hI
  have kx:=(ha x (hI.1 x (.head _))).kp (bI hI.2.1)
  have hf:=bK hI.2.1
  have e3:s.2++melt r x++xs.flatMap (melt r)=l.flatMap (melt r):=(af _ _ _).trans hI.2.2
  have e2:(refs s.2).length+(refs (melt r x)).length≤lim:=by
   rw[bV,bV,←aa]
   refine ae (az _ (xs.flatMap (melt r)).length) ?_
   rw[←aa,e3]
   exact hn
  have go:∀{σ2:H} {R:Fl×Le×H→Prop},Kp σ1 σ2→(∀(s':Option V×List D) (σ':H),cY σ' [(b,refs l)]→((∀e∈xs,e∈l)∧New σ [(σ.length,.list (refs s'.2))] σ'∧s'.2++xs.flatMap (melt r)=l.flatMap (melt r))→R (.next,some (.ref b)::some (.str (L.K.box r).n)::some (.ref σ.length)::s'.1::nn 6,σ'))→R (.next,some (.ref b)::some (.str (L.K.box r).n)::some (.ref σ.length)::some (rf x)::nn 6,σ2.set σ.length (.list (refs s.2++refs (melt r x)))):=λ{σ2 R} k K1=>by
   have t3:=((hI.2.1.kp k).trans dm:New σ [(σ.length,.list (refs s.2++refs (melt r x)))] _)
   exact K1 (some (rf x),s.2++melt r x) _ (ai.mpr (cj (bI t3) (bQ h))) ⟨λe me=>hI.1 e (.tail _ me),(dA _ _).symm▸t3,e3⟩
  refine⟨_,rfl,λR K1 _=>okG (Hm (bH hf)) (okI kx.c (fB (λe=> ?_) λe=> ?_))⟩
  ·rw[show melt r x=x.ps from if_pos e] at e2 go
   exact okI kx.c (okL (bH hf) (okL kx.l (okG ⟨nR hI.2.1 (bQ (ha x (hI.1 x (.head _))).l),e2⟩ (okR (go .rfl K1)))))
  ·rw[show melt r x=[x] from if_neg (ne_true_of_eq_false e)] at e2 go
   exact okL (bL (bI (bM _ _)) (bH hf)) (okL (bH (bK (bM _ _))) (okG ⟨(nR (bM _ (.list (refs [x]))) hf).symm,e2⟩ (okR (go (bI (bM _ _)) K1))))
 ·exact λs σ1 hI=>okR (K _ _ (hI.2.2▸(aw s.2).symm▸hI.2.1))
noncomputable def g8(r:Bool)(q:T):List T:=if(q.k.n==(K.box r).n)=true then q.ps else [q]
noncomputable def pk:List F→T→T
 | [],q=>q
 | f::c,q=>plug c (f.fill (g8 f.r q))
noncomputable def leC(u0 u1 u3 u5 u6:V)(pl p:Nat):Le:=some u0::some u1::some (.ref pl)::some u3::some (.ref p)::some u5::some u6::nn 7
theorem F6(r:Bool)(q:D):tL (melt r q)=g8 r q.t:=by
 rw[melt,g8,t_k,hZ]
 split
 ·exact eZ _
 ·rfl
theorem wz{r:Bool}{l:List D}(h:∀e∈l,e.k≠ .box r):l.flatMap (melt r)=l:=by
 induction l with
 | nil=>rfl
 | cons a l ih =>
  have e:melt r a=[a]:=if_neg λe=>h a (.head _) (AA (by rw[e];rfl))
  rw[List.flatMap_cons,e,ih λe m=>h e (.tail _ m)]
  rfl
theorem xL(r:Bool)(q:D):∃J,(objs q).Perm (bO (melt r q)++J):=by
 rw[melt]
 split
 ·exact⟨[cell q,(q.b,.list (refs q.ps))],(eT q)▸ba (l₁:=[cell q,(q.b,.list (refs q.ps))])⟩
 ·exact⟨[],by rw[aw];exact(aw (objs q))▸ .refl _⟩
theorem cp1{α:Type}(P Q C R:List α):(P++(Q++(C++R))).Perm (C++(P++(Q++R))):=eM 4 [C,P,Q,R] [1,2,0,3] (by decide) rfl
theorem cp2{α:Type}(C P Q R:List α):(C++(P++(Q++R))).Perm (Q++(C++(P++R))):=eM 4 [Q,C,P,R] [1,2,0,3] (by decide) rfl
theorem cp3{α:Type}(M O J A B L C W:List α):(M++((O++J)++(((A++(B++L))++C)++W))).Perm (A++(O++(M++(L++(C++(J++(B++W))))))):=by
 rw[af,af,af,af]
 exact eM 8 [A,O,M,L,C,J,B,W] [2,1,5,0,6,3,4,7] (by decide) rfl
theorem cp4{α:Type}(A O M L C Z:List α):(A++(O++(M++(L++(C++Z))))).Perm ((O++((A++(M++L))++C))++Z):=by
 rw[af,af,af,af]
 exact eM 6 [O,A,M,L,C,Z] [1,0,2,3,4,5] (by decide) rfl
section
variable{σ:H}
theorem By{P:List V}{x:V}:cut (P++[x]) .none (.int (-1))=some P:=by
 show some (kX (P++[x]) none (some (-1)))=_
 have e:clip (P++[x]).length (-1)=P.length:=by
  rw[clip,wrap,if_pos (by decide),aa]
  show(max 0 (min (-1+((P.length+1:Nat):Int)) ((P.length+1:Nat):Int))).toNat=_
  rw[show(-1:Int)+((P.length+1:Nat):Int)=P.length by lia,Int.min_eq_left (aO.mpr (Nat.le_succ _)),Int.max_eq_right (aC _),bg]
 rw[kX]
 show some ((List.drop 0 (P++[x])).take (clip (P++[x]).length (-1)-0))=_
 rw[e,Nat.sub_zero,List.drop_zero,List.take_left]
theorem DY{n:Nat}{Q:V×H→Prop}{c:List G}{g:G}{q:D}{pl la:Nat}{u0 u1 u3 u5 u6:V}(o:Own σ (objs q++(cU c g.a++[(g.a,.inst 0 g.fl),(g.b,.list [rf q]),(pl,.list (pra (g::c) la))])))
  (hk:∀g2∈c,(∀e∈g2.l++g2.rs,e.k≠ .box g2.r)∧g2.l.length+(q.ps.length+(g2.rs.length+1))≤999) (hdp:Dp (n+2) (pk (c.map G.f) q.t))
  (K:∀d' σ',d'.t=pk (c.map G.f) q.t→Pl d' 0 0→Tr (objs q++(cU c g.a++[(g.a,.inst 0 g.fl),(g.b,.list [rf q]),(pl,.list (pra (g::c) la))])) σ (objs d') σ'→Q (.ref d'.a,σ')) :
  Ok (bT (cf (n+2)) (gm.body.drop 8) (leC u0 u1 u3 u5 u6 pl g.a) σ dt) Q:=by
 have oX:=b7 (b7 o)
 have lp:=bH (oX.1 (pl,_) (.tail _ (.tail _ (.head _))))
 have lp':=c9 g c la▸lp
 refine okL lp (c7 (c9 g c la▸By) ?_)
 refine okI (dE (bI (bM _ _)) (bU (oX.1 (g.a,_) (.head _)))) (okX (dQ (P:=[]) (bL (bI (bM _ _)) (bH (oX.1 (g.b,_) (.tail _ (.head _))))) rfl) ?_)
 have t1:=(Tr.rfl.and (bM σ (.list (pra c g.a)))).perm (.refl _) (cp1 _ (objs q) (cU c g.a) [(g.a,.inst 0 g.fl),(g.b,.list [rf q]),(pl,.list (pra (g::c) la))])
 refine okC (jk (f:=q.a) (c:=c) (t1.get o) (aK (f:=Prod.fst) (a:=(g.a,.inst 0 g.fl)) (.tail _ (ay (objs q) (.head _)))) (.head _) λσ2 t2=> ?_)
 have t3:=(t1.trans (t2.fr _)).perm (.refl _) (cp2 _ _ (objs q) _)
 have lp3:=bH ((b7 (b7 (t3.get o))).1 (pl,_) (.tail _ (.tail _ (.tail _ (.head _)))))
 have fin:∀{dF:D} {Z:List (Nat×O)} {σ3:H},dF.t=pk (c.map G.f) q.t→dF.a=kj c q.a→Tr (objs q++(cU c g.a++[(g.a,.inst 0 g.fl),(g.b,.list [rf q]),(pl,.list (pra (g::c) la))])) σ (objs dF++Z) σ3→
   Ok (cf (n+2) bW [.ref (kj c q.a),.int 0,.int 0] σ3) Q:=λ{dF Z σ3} e1 e2 t=>e2▸e9 (e1▸hdp) (eK (t.get o)) λd' σ' ea et pl t2=>ea▸K d' σ' (et.trans e1) pl (t.dl.trans t2)
 refine fG lp3 ?_
 cases c with
 | nil=>exact okC (okM (fin (dF:=q) rfl rfl t3) λx qx=>okR qx)
 | cons g2 c2 =>
  obtain⟨hk,hl⟩:=hk g2 (.head _)
  have lp4:bJ σ2 pl=some ((c2.map λg=>V.ref g.a).reverse++ .ref g2.a::[.ref g.a,.ref la]):=lp3.trans (by rw[c9,c9,pra,af,af];rfl)
  have o3:=eK (b7 (t3.get o))
  have hg:=bU (o3.1 (g2.a,.inst 0 g2.fl) (.head _))
  have lg:bJ σ2 g2.b=some (refs (g2.l++q::g2.rs)):=(dA g2.l (q::g2.rs))▸bH (o3.1 (g2.b,_) (.tail _ (.head _)))
  have em:(g2.l++q::g2.rs).flatMap (melt g2.r)=g2.l++(melt g2.r q++g2.rs):=by
   rw[List.flatMap_append,List.flatMap_cons,wz λe m=>hk e (aL _ m),wz λe m=>hk e (ay _ m)]
  have eml:(melt g2.r q).length≤q.ps.length+1:=by
   rw[melt]
   split
   ·exact Nat.le_succ _
   ·exact aA (bu _)
  refine okT (bB ?_) (okX (f7 lp4 rfl) (okI hg (okX (f7 lp4 rfl) (okI hg (okC (uT lg ?_ ?_ λm σ3 t4=> ?_))))))
  ·rw[c9,c9,aa,aa]
   exact aP.mpr (Nat.succ_lt_succ (Nat.succ_lt_succ (by rw[pra,aa];exact be Nat.one_pos (bk _ _))))
  ·exact aH.mpr ⟨λe me z mz=>o3.1 z (aL _ (.tail _ (.tail _ (aL _ (gz me z mz))))),ao.mpr ⟨cq (eK (t3.get o)),λe me z mz=>o3.1 z (aL _ (.tail _ (.tail _ (ay _ (gz me z mz)))))⟩⟩
  ·rw[em,aa,aa]
   exact ae (show _≤1000 by lia) (by decide)
  rw[em,dA,dA] at t4
  have k4:=bI t4
  refine okX (f7 (bL k4 lp4) rfl) (okI (dE k4 hg) ?_)
  obtain⟨J,pJ⟩:=xL g2.r q
  have t5:=(t3.and t4).perm (.refl _) (((pJ.append_right _).append_left _).trans (cp3 _ _ J [(g2.a,_)] [(g2.b,_)] _ (cU c2 g2.a) _))
  have t6:=t5.trans ((dm (o':= .inst 0 (g2.fl.set 5 (.ref m)))).fr _)
  have pF:=jd c2 {g2 with b:=m} (melt g2.r q)
  refine okC (okM (fin (dF:=cF c2 (G.fill {g2 with b:=m} (melt g2.r q))) ?_ (iq c2 _) (t6.perm (.refl _) ((cp4 [(g2.a,O.inst 0 (g2.fl.set 5 (.ref m)))] _ [(m,_)] _ _ _).trans (pF.symm.append_right _)))) λx qx=>okR qx)
  exact(gQ c2 _).trans (congrArg (plug _) ((vn _ _).trans (congrArg (F.fill _) (F6 g2.r q))))
end
noncomputable def ig(c:List F)(f:F)(l0 r0:List T)(q:T):T:=if l0.length+r0.length=0 then pk c q else plug c (F.fill ⟨f.r,f.w,f.h,l0,r0⟩ [q])
noncomputable def leB(u0 u1:V)(pl:Nat):Le:=some u0::some u1::some (.ref pl)::nn 11
theorem Ew{l rs l0 r0:List D}{q:D}(h:Nb l rs l0 q r0):Nb (tL l) (tL rs) (tL l0) q.t (tL r0):=by
 rcases h with⟨rfl,rfl⟩|⟨rfl,rfl,rfl⟩
 ·exact .inl ⟨gb _ _,rfl⟩
 ·exact .inr ⟨rfl,rfl,rfl⟩
theorem gO(l:List D):(tL l).length=l.length:=by rw[eZ,ah]
theorem CZ{g:G}{l0 r0:List D}{q:D}(h:Nb g.l g.rs l0 q r0):(rng g []).Perm (objs q++rng {g with l:=l0,rs:=r0} [rf q]):=by
 have e:bO g.l++bO g.rs=bO l0++(objs q++bO r0):=by
  rw[←dC,Ae h,dC]
  rfl
 have e2:refs g.l++([]++refs g.rs)=refs l0++([rf q]++refs r0):=by
  rw[List.nil_append,←dA,Ae h,dA]
  rfl
 rw[rng,e,e2]
 exact pm ((g.a,O.inst 0 g.fl)::(g.b,.list (refs l0++([rf q]++refs r0)))::bO l0) (objs q) (bO r0)
theorem nC{β:Type}{k:V→H→Option β}{b b':Bool}{σ:H}{Q:β→Prop}(e:b=b')(h:Ok (k (.bool b') σ) Q):Ok (k (.bool b) σ) Q:=e▸h
theorem HQ{d:D}{X:List (Nat×O)}:d.a∈(objs d++X).map Prod.fst:=by
 rw[au,eT]
 exact .head _
theorem mL(c:List G){n:Nat}:∀d,WF (cF c d).t→(names (cF c d).t).length≤n→WF d.t∧(names d.t).length≤n:=by
 induction c with
 | nil=>exact λd h k=>⟨h,k⟩
 | cons g c ih =>
  intro d h k
  obtain⟨h,k⟩:=ih (g.up d) h k
  have m:d∈(g.up d).ps:=ay _ (.head _)
  exact⟨xc h d m,Ac h (aV k) d m⟩
theorem vP(g:G){d:D}{n:Nat}(h9:n≤99)(h:WF (g.up d).t)(k:(names (g.up d).t).length≤n):(∀e∈g.l++d::g.rs,e.k≠ .box g.r)∧g.l.length+(g.rs.length+1)≤99∧1≤g.l.length+g.rs.length:=jK (r:=g.r) h (t_k _) λh1 _ _ h4 _=>by
 have e:((g.up d).t.ps).length=g.l.length+(g.rs.length+1):=by
  rw[hZ,ah]
  exact aa
 have hl:=jC (d:=g.up d) (n:=98) (fH (by decide) h (ae k h9))
 have hl:(g.l++d::g.rs).length≤99:=hl
 rw[aa] at hl
 rw[e] at h1
 refine⟨λx m=> ?_,hl,Nat.le_of_succ_le_succ h1⟩
 have:=h4 x.t (by rw[hZ];exact aK m)
 rwa [t_k] at this
theorem EZ(c:List G){n:Nat}(h9:n≤99):∀d,WF (cF c d).t→(names (cF c d).t).length≤n→∀g∈c,(∀e∈g.l++g.rs,e.k≠ .box g.r)∧g.l.length+(g.rs.length+1)≤99:=by
 induction c with
 | nil=>exact λd h k=>aj _
 | cons g c ih =>
  intro d h k
  obtain⟨h1,k1⟩:=mL c (g.up d) h k
  obtain⟨w1,w2,_⟩:=vP g h9 h1 k1
  exact ao.mpr ⟨⟨λe m=>w1 e ((List.mem_append.mp m).elim (aL _) λm=>ay _ (.tail _ m)),w2⟩,ih _ h k⟩
theorem F2{α:Type}{l rs l0 r0:List α}{q:α}(h:Nb l rs l0 q r0)(x:α):q∈l++x::rs:=by
 rcases h with⟨rfl,rfl⟩|⟨rfl,rfl,rfl⟩
 ·exact aL _ (ay _ (.head _))
 ·exact .tail _ (.head _)
theorem cp5{α:Type}(O R C L P:List α):(((O++R)++C)++(L++P)).Perm (O++(R++(C++(L++P)))):=by
 rw[af,af]
theorem cp6{α:Type}(O R C L P:List α):(O++(R++(C++(L++P)))).Perm ((O++(C++(R++P)))++L):=by
 rw[af,af,af]
 exact eM 5 [O,C,R,P,L] [0,2,1,4,3] (by decide) rfl
theorem cp7{α:Type}(O R C W:List α):(O++(R++(C++W))).Perm ((O++(R++C))++W):=by
 rw[af,af]
section
variable{σ:H}
theorem Bf{P Q:List V}{x:V}{n:Nat}(h:P.length=n):(P++([x]++Q)).eraseIdx (Int.toNat (n:Int))=P++([]++Q):=by
 subst h
 rw[bg,List.eraseIdx_append_of_length_le (aD _),Nat.sub_self]
 rfl
theorem DZ{n:Nat}{Q:V×H→Prop}{c:List G}{g:G}{leaf:D}{pl:Nat}{u0 u1:V}(h9:n≤96)(o:Own σ (cU (g::c) leaf.a++(objs leaf++[(pl,.list (pra (g::c) leaf.a))])))(wf:WF (cF (g::c) leaf).t)(hn:(names (cF (g::c) leaf).t).length≤n)
  (hw:leaf.sd g.r+1<4000∧0<leaf.sd g.r)
  (K:∀l0 q r0 q' d' σ',Nb (tL g.l) (tL g.rs) l0 q r0→Res g.r (leaf.sd g.r+1) q q'→d'.t=ig (c.map G.f) g.f l0 r0 q'→Pl d' 0 0→Tr (cU (g::c) leaf.a++(objs leaf++[(pl,.list (pra (g::c) leaf.a))])) σ (objs d') σ'→Q (.ref d'.a,σ'))
  (hdp:∀l0 q r0 q',Nb (tL g.l) (tL g.rs) l0 q r0→Res g.r (leaf.sd g.r+1) q q'→Dp (n+2) (ig (c.map G.f) g.f l0 r0 q')) :
  Ok (bT (cf (n+2)) (gm.body.drop 2) (leB u0 u1 pl) σ dt) Q:=by
 have lp3:bJ σ pl=some ((c.map λg=>V.ref g.a).reverse++ .ref g.a::[.ref leaf.a]):=by
  refine(bH ((b7 (b7 o)).1 (pl,_) (.head _))).trans ?_
  rw[c9,pra,af]
  rfl
 have lp2:bJ σ pl=some (((c.map λg=>V.ref g.a).reverse++[.ref g.a])++ .ref leaf.a::[]):=lp3.trans (by rw[af];rfl)
 have hg:=bU (o.1 (g.a,.inst 0 g.fl) (.head _))
 have lg:=bH (o.1 (g.b,.list (refs g.l++([.ref leaf.a]++refs g.rs))) (.tail _ (.head _)))
 refine oT λk H=>okX (f7 lp2 rfl) (okX (f7 lp3 rfl) (H _ _ _ rfl ?_))
 refine oA λk H=>okI hg (nC (Gj g.r) (H _ _ ?_))
 refine oA λk H=>okI hg (okC (i4 (d:=leaf) (l:=g.l) (rs:=g.rs) (by rw[dA];exact lg) (λe me=>qU o (sX me) HQ) λσ1 k1=>H _ _ ?_))
 have hg:=dE k1 hg
 have lg:=bL k1 lg
 refine oE λk H=>okI hg (okG (rcv lg) (okL lg (okG ⟨aC _,?_⟩ (c7 (x:= .ref leaf.a) ?_ (H _ _ ?_)))))
 ·exact aP.mpr (by rw[aa,bV];exact Nat.lt_add_of_pos_right (Nat.succ_pos (refs g.rs).length))
 ·rw[bg,←bV g.l,aX (aD _),Nat.sub_self]
  rfl
 rw[Bf (bV g.l)]
 obtain⟨wf1,hn1⟩:=mL c (g.up leaf) wf hn
 obtain⟨al,hl,h1⟩:=vP g (ae h9 (by decide)) wf1 hn1
 obtain⟨l0,q,r0,hnb⟩:=HM h1
 have hq:=F2 hnb leaf
 have t2:=((Tr.rfl.kp k1).trans (((qT (g:=g) (m:=[.ref leaf.a]) []).fr (cU c g.a)).fr (objs leaf++[(pl,.list (pra (g::c) leaf.a))]))).perm (.refl _) ((((CZ hnb).append_right _).append_right _).trans (cp5 _ _ _ _ _))
 generalize σ1.set g.b _=σ2 at t2⊢
 have o2:=t2.get o
 have hg2:=bU ((b7 o2).1 (g.a,.inst 0 g.fl) (.head _))
 have lg2:=bH ((b7 o2).1 (g.b,.list (refs l0++([rf q]++refs r0))) (.tail _ (.head _)))
 have wq:=xc wf1 q hq
 have nq:=Ac wf1 (aV hn1) q hq
 refine oE λk H=>okI hg2 (okX (dQ lg2 ((HL hnb).trans (congrArg Int.ofNat (bV l0).symm))) (okC (dy (cq (eK (b7 (b7 (b7 o2))))) (okC (fX (n:=n+1) (ae (aA h9) (by decide)) (aV nq) (eK o2) wq (Int.add_nonneg (eP wq) (Int.le_of_lt (Int.lt_add_one_of_le (Int.le_of_lt hw.2)))) (na5 (Int.le_of_lt (Int.lt_add_one_of_le (Int.le_of_lt hw.2))) hw.1) λq' σ3 ea rs t3=>H _ _ ?_)))))
 have t4:=t2.trans (t3.fr _)
 rw[show rf q=rf q' from congrArg V.ref ea.symm] at t4
 have o4:=t4.get o
 have K:=λd' σ'=>K (tL l0) q.t (tL r0) q'.t d' σ' (Ew hnb) rs
 have hdp:=hdp (tL l0) q.t (tL r0) q'.t (Ew hnb) rs
 have hg4:=bU ((b7 o4).1 (g.a,.inst 0 g.fl) (.head _))
 have lg4:=bH ((b7 o4).1 (g.b,.list (refs l0++([rf q']++refs r0))) (.tail _ (.head _)))
 have lp4:=bH ((b7 (b7 (b7 (b7 o4)))).1 (pl,.list (pra (g::c) leaf.a)) (.head _))
 have ll:(refs l0++([rf q']++refs r0)).length=l0.length+r0.length+1:=by
  rw[aa,aa,bV,bV]
  exact Nat.add_left_comm _ _ _ |>.trans (bn _ _)
 obtain⟨z,ez⟩:=lZ (g::c) leaf.a
 refine oIr λk H=>okI hg4 (fG lg4 (H _ _ (λe=> ?_) λe=> ?_))
 ·rw[ll] at e
  have e:1<((l0.length+r0.length+1:Nat):Int):=bA e
  have pF:=d0 ({g with l:=l0,rs:=r0}::c) q'
  have t5:=(t4.perm (.refl _) ((cp7 _ _ _ _).trans (pF.symm.append_right _))).dl
  have eF:(cF ({g with l:=l0,rs:=r0}::c) q').t=ig (c.map G.f) g.f (tL l0) (tL r0) q'.t:=(gQ ({g with l:=l0,rs:=r0}::c) q').trans (if_neg (by rw[gO,gO];exact λz=>by rw[z] at e;exact absurd e (by decide))).symm
  refine okX (dQ (P:=[]) (ez▸lp4) rfl) (okC (iq ({g with l:=l0,rs:=r0}::c) q'▸e9 (eF▸hdp) (t5.get o) λd' σ' ea' et pl t6=>okR (ea'▸K d' σ' (et.trans eF) pl (t5.trans t6))))
 ·rw[ll] at e
  have e:¬(1<((l0.length+r0.length+1:Nat):Int)):=of_decide_eq_false e
  have e0:l0.length=0∧r0.length=0 :=
   have z:=Nat.le_zero.mp (Nat.le_of_succ_le_succ (aO.mp (bx.mp e)))
   ⟨Nat.eq_zero_of_add_eq_zero_right z,Nat.eq_zero_of_add_eq_zero_left z⟩
  cases List.eq_nil_of_length_eq_zero e0.1
  cases List.eq_nil_of_length_eq_zero e0.2
  have t5:=(t4.perm (.refl _) (cp6 _ _ _ _ _)).dl
  refine DY (n:=n) (u0:=u0) (u1:=u1) (u3:= .ref leaf.a) (u5:= .bool g.r) (u6:= .int g.l.length) (t5.get o) (λg2 m2=> ?_) hdp λd' σ' et pl t=>K d' σ' et pl (t5.trans t)
  obtain⟨a1,a2⟩:=EZ c (ae h9 (by decide)) (g.up leaf) wf hn g2 m2
  have:=jC (d:=q') (n:=98) (fH (by decide) rs.wf (by rw[rs.n];exact ae nq (ae h9 (by decide))))
  exact⟨a1,ae (aZ (Nat.add_left_comm _ _ _)) (ae (bq this a2) (by decide))⟩
end
theorem fits{x:Int}(h1: -20000≤x)(h2:x≤20000):PySem.Builtin.Range.rangeFitsLong x=true :=
 ar.mpr ⟨bB (ak (by decide: -(2^63:Int)≤ -20000) h1),bB (Int.lt_of_le_of_lt h2 (by decide))⟩
noncomputable def Sm(x:Int):Prop:= -5000≤x∧x≤5000
theorem EM{x y:Int}(h:Sm x)(k:Sm y)(z:Int)(hz: -5000≤z)(h5:z≤5000):PySem.Builtin.Range.rangeFitsLong (x+(y+z))=true :=
 fits (ak (by decide: -20000≤(-5000:Int)+(-5000+ -5000)) (Int.add_le_add h.1 (Int.add_le_add k.1 hz))) (ak (Int.add_le_add h.2 (Int.add_le_add k.2 h5)) (by decide:(5000:Int)+(5000+5000)≤20000))
theorem wM{x:Int}(h:Sm x):PySem.Builtin.Range.rangeFitsLong x=true:=fits (ak (by decide) h.1) (ak h.2 (by decide))
theorem Iy{c:Int}(h:Sm c):c.natAbs<1073741824:=by
 cases c with
 | ofNat n=>exact ax (aO.mp h.2) (by decide)
 | negSucc n=>exact ax (aO.mp (Int.neg_le_neg h.1)) (by decide)
theorem ng{a b c:Int}{m:Nat}(ha:Sm a)(hb:Sm b)(hc:c≠0)(h4:Sm c)(e:PySem.Builtin.Range.rangeSize a b c=(m:Int))(hm:m≤5000):ce a b c=some ((List.range' 0 m).map λ(k:Nat)=>V.int (a+c*(k:Int))):=by
 have f5:=EM hb h4 (-1) (by decide) (by decide)
 have f6:=EM hb h4 1 (by decide) (by decide)
 have s:PySem.Builtin.Range.small a b c=true:=by
  rw[PySem.Builtin.Range.small,e,wM ha,wM hb,wM h4,wM ⟨ak (by decide) (aC m),aO.mpr hm⟩,Int.sub_eq_add_neg (a:=c),f5,f6,ite_self,Bool.or_true]
  rfl
 rw[ce,e,gd,if_pos ⟨hc,Iy h4,s,aC _⟩,bg,e8,List.range_eq_range']
theorem m9{a b:Int}(ha:Sm a)(h1:a≤b)(hb:b-a≤5000)(hb2:Sm b):ce a b 1=some ((List.range' 0 (b-a).toNat).map λ(k:Nat)=>V.int (a+1*(k:Int))):=by
 refine ng ha hb2 (by decide) ⟨by decide,by decide⟩ ?_ (Int.toNat_le.mpr hb)
 rw[PySem.Builtin.Range.rangeSize,if_pos (by decide),Int.ediv_one,Int.toNat_of_nonneg (Int.sub_nonneg_of_le h1)]
 split
 ·exact Int.sub_add_cancel _ _
 ·next h=>exact(Int.sub_eq_zero_of_eq (Int.le_antisymm (bx.mp h) h1)).symm
theorem zz{n:Nat}(h:n≤1000):ce n 0 (-1)=some ((List.range' 0 n).map λ(k:Nat)=>V.int ((n:Int)+ -1*(k:Int))):=by
 refine ng ⟨ak (by decide) (aC n),aO.mpr (ae h (by decide))⟩ ⟨by decide,by decide⟩ (by decide) ⟨by decide,by decide⟩ ?_ (ae h (by decide))
 rw[PySem.Builtin.Range.rangeSize,if_neg (by decide),show -(-1:Int)=1 from rfl,Int.ediv_one]
 split <;> omega
section
variable{σ:H}{d:D}
theorem qD{n:Nat}{Q:V×H→Prop}{p:Int}(h9:n≤96)(wf:WF d.t)(hn:(names d.t).length≤n)(h:At σ d)(hp:p∈names d.t)(hw:∀c t r,d.t=plug c t→t.sd r+1<4000∧0<t.sd r)
  (K0:d.t.k= .pane p→∀σ',Kp σ σ'→Q (.none,σ'))
  (K:∀c f t l0 q r0 q',d.t=plug (f::c) t→t.k= .pane p→Fs p (f::c)→Nb f.l f.rs l0 q r0→Res f.r (t.sd f.r+1) q q'→∀d' σ',d'.t=ig c f l0 r0 q'→Pl d' 0 0→New σ (objs d') σ'→Q (.ref d'.a,σ'))
  (hdp:∀c f t l0 q r0 q',d.t=plug (f::c) t→t.k= .pane p→Fs p (f::c)→Nb f.l f.rs l0 q r0→Res f.r (t.sd f.r+1) q q'→Dp (n+2) (ig c f l0 r0 q')) :
  Ok (cf (n+3) gW [.ref d.a,.int p] σ) Q:=by
 have hd2:Dp (n+2) d.t:=fH (ae (aF h9 2) (by decide)) wf (ae hn (az n 2))
 refine okF (le:=some (.ref d.a)::some (.int p)::nn 12) rfl rfl ?_
 refine oA λk H=>okC (iJ hd2 h λd1 σ1 q1 t1=> ?_)
 have et:=ie q1
 refine okC (jQ (p:=p) (ae (aF h9 2) (by decide)) (et▸hd2) (bP t1).1 (λm=>absurd (et▸hp) m) λc leaf ec lk fs _ pl σ2 t2=>H _ _ ?_)
 subst ec
 have t2:=t1.and t2
 have lp:=bH (bK t2)
 refine oIr λk H=>fG lp (H _ _ (λe=> ?_) λe=> ?_)
 ·cases c with
  | nil=>exact okR (K0 (et▸(t_k leaf).trans lk) _ (bI t2))
  | cons g c =>
   rw[uC] at e
   exact Bool.noConfusion (e.symm.trans (beq_eq_false_iff_ne.mpr (by rw[bc];omega)))
 ·cases c with
  | nil=>exact Bool.noConfusion (e.symm.trans rfl)
  | cons g c =>
   have t3:=t2.perm (.refl _) (((d0 (g::c) leaf).append_left _).trans (eM 3 [cU (g::c) leaf.a,objs leaf,[(pl,.list (pra (g::c) leaf.a))]] [2,1,0] (by decide) rfl))
   have e1:=et.symm.trans (gQ (g::c) leaf)
   have hw:=hw _ _ g.r e1
   have K:=λl0 q r0 q'=>K _ _ _ l0 q r0 q' e1 ((t_k leaf).trans lk) (wK fs)
   have hdp:=λl0 q r0 q'=>hdp _ _ _ l0 q r0 q' e1 ((t_k leaf).trans lk) (wK fs)
   rw[fA] at hw
   refine DZ (n:=n) h9 (bP t3) (et.symm▸wf) (et.symm▸hn) hw (λl0 q r0 q' d' σ' a1 a2 a3 a4 a5=>K l0 q r0 q' a1 ?_ d' σ' a3 a4 (t3.trans a5)) λl0 q r0 q' a1 a2=>hdp l0 q r0 q' a1 ?_
   ·rw[fA]
    exact a2
   ·rw[fA]
    exact a2
end
theorem Jc{β:Type}{o:Option (List V)}{l l':List V}{f:List V→Option β}{Q:β→Prop}(h:o=some l)(e:l=l')(k:Ok (f l') Q):Ok (o.bind f) Q:=c7 h (e▸k)
theorem HP{d:D}:d.a∈(objs d).map Prod.fst:=by
 rw[eT]
 exact .head _
theorem C3{e:D}{g:G}{m:List V}(h:e∈g.l):e.a∈(rng g m).map Prod.fst:=by
 rw[rng,aR,aR,au]
 exact .tail _ (.tail _ (aL _ (kE h)))
section
variable{σ:H}{r:Bool}
theorem vD{n:Nat}{Q:V×H→Prop}{c0:List G}{leaf:D}{pl:Nat}(hl:c0.length≤900)(o:Own σ (objs (cF c0 leaf)))(lp:bJ σ pl=some (pra c0 leaf.a))(hlen:∀c g s,cF c0 leaf=cF (g::c) s→1≤g.l.length+g.rs.length)
  (K1:∀σ',Kp σ σ'→Q (.none,σ'))
  (K2:∀c g s σ',cF c0 leaf=cF (g::c) s→g.r=r→Kp σ σ'→Q (.tup [.ref g.b,.int (min (g.l.length:Int) ((g.l.length:Int)+g.rs.length-1))],σ')) :
  Ok (cf (n+2) hY [.ref pl,.bool r] σ) Q:=by
 refine okF (le:=some (.ref pl)::some (.bool r)::nn 9) rfl rfl ?_
 refine oFo λk H=>fG lp ?_
 have e1:((pra c0 leaf.a).length:Int)-1=(c0.length:Int):=by
  rw[show(pra c0 leaf.a).length=c0.length+1 from uC c0 leaf]
  exact bj (c0.length:Int) 1
 have hr:ce (((pra c0 leaf.a).length:Int)-1) 0 (-1)=some ((List.range' 0 c0.length).map λ(k:Nat)=>V.int ((c0.length:Int)+ -1*(k:Int))):=by
  rw[e1]
  exact zz (ae hl (by decide))
 refine c7 hr (H _ _ _ ?_)
 refine dq (S:=(Option V×Option V×Option V)×List G×D) (λs=>some (.ref pl)::some (.bool r)::s.1.1::s.1.2.1::s.1.2.2::nn 6)
  (λs todo σ'=>Kp σ σ'∧todo=List.range' (c0.length-s.2.1.length) s.2.1.length∧s.2.1.length≤c0.length∧cF c0 leaf=cF s.2.1 s.2.2∧∃z,pra c0 leaf.a=pra s.2.1 s.2.2.a++z) ?_ ?_ (s:=((none,none,none),c0,leaf)) ⟨.rfl,by rw[Nat.sub_self],aD _,rfl,[],(aw _).symm⟩
 ·rintro ⟨s,c,d⟩ x xs σ1 ⟨k1,et,hc,ep,z,ez⟩
  cases c with
  | nil=>exact nomatch et
  | cons g c =>
   obtain⟨ex,exs⟩:=List.cons.inj (et:x::xs=(c0.length-(c.length+1))::List.range' (c0.length-(c.length+1)+1) c.length)
   have hc:c.length+1≤c0.length:=hc
   have ex:x=c0.length-(c.length+1):=ex
   have hx:(c0.length:Int)+ -1*(x:Int)=c.length+1:=yT hc ex
   have ou:Own σ (objs (g.up d)):=eK (d9 (d0 c (g.up d)) (ep▸o))
   have od:=d9 ((vQ g d).trans ba) ou
   have lp2:bJ σ pl=some ((c.map λg=>V.ref g.a).reverse++ .ref g.a::(.ref d.a::z)):=lp.trans (by rw[ez,c9,pra,af,af];rfl)
   have lp3:bJ σ pl=some (((c.map λg=>V.ref g.a).reverse++[.ref g.a])++ .ref d.a::z):=lp2.trans (by rw[af];rfl)
   have ll:((c.map λg=>V.ref g.a).reverse).length=c.length:=by rw[List.length_reverse,ah]
   have aU:=cq ou
   refine⟨_,rfl,λR K3 K4=> ?_⟩
   refine oA λk H=>okX (dQ (bL k1 lp2) (show(c0.length:Int)+ -1*(x:Int)-1=_ by rw[hx,ll,bj])) (H _ _ ?_)
   refine oIf λk H=>okI (aU.kp k1).c (okC (gC (H _ _ (λe=> ?_) λe=> ?_)))
   ·have eg:g.r=r:=bD ((s8 _ _).symm.trans e)
    have lg:bJ σ1 g.b=some (refs (g.l++d::g.rs)):=(aU.kp k1).l
    refine oA λk H=>okI (aU.kp k1).c (okX (dQ (bL k1 lp3) (show(c0.length:Int)+ -1*(x:Int)=_ by rw[hx,aa,ll];rfl)) (okC (i4 (d:=d) lg (λe me=>qU od (C3 me) HP) λσ2 k2=>H _ _ ?_)))
    have k3:=k1.trans k2
    refine oR λk H=>okI (aU.kp k3).c (okI (aU.kp k3).c (fG (bL k2 lg) (H _ _ (okR (K4 _ _ _ ?_)))))
    refine okR ?_
    have:=K2 c g d σ2 ep eg k3
    rw[bV,aa,bc]
    rw[show(g.l.length:Int)+g.rs.length-1=((g.l.length+(g.rs.length+1):Nat):Int)-2 from Il] at this
    exact this
   ·refine okR (K3 ((_,_,_),c,g.up d) _ (aj _) ⟨k1,?_,bf hc,ep,.ref d.a::z,?_⟩)
    ·exact exs.trans (congrArg (List.range' · c.length) (show c0.length-(c.length+1)+1=c0.length-c.length by rw[Nat.sub_add_eq,Nat.sub_add_cancel (Nat.sub_pos_of_lt hc)]))
    ·rw[ez,c9,af]
     rfl
 ·exact λs σ1 hI=>okR (K1 σ1 hI.1)
end
theorem Tr.le{X Y:List (Nat×O)}{a b:H}(h:Tr X a Y b)(A:List (Nat×O)):Tr (A++X) a (A++Y) b:=by
 have:=h.mid A []
 rwa [aw,aw] at this
theorem sK(l:List D)(x:D)(X W:List (Nat×O)):bO l++((objs x++X)++W)=bO (l++[x])++(X++W):=by
 rw[dC,af,af]
 exact congrArg (bO l++·) (congrArg (·++(X++W)) (aw (objs x)).symm)
theorem qE{n a:Nat}{σ:H}{d:D}{r:Bool}{c:Int}{Q:V×H→Prop}(e:d.a=a)(h9:n≤99)(hn:(names d.t).length≤n)(h:Own σ (objs d))(wf:WF d.t)(c0:0≤room r d.t+c)(hc:c.natAbs<wfuel)(K:∀d' σ',d'.a=d.a→Res r c d.t d'.t→Tr (objs d) σ (objs d') σ'→Q (.none,σ')):Ok (cf (n+1) b8 [.ref a,.bool r,.int c] σ) Q:=e▸fX h9 hn h wf c0 hc K
noncomputable def leR(u0 u1 u3 u5 u6 u7 u8:V)(r:Bool)(pl tk:Nat)(left:Int)(u11 u12:Option V):Le:=some u0::some u1::some (.bool r)::some u3::some (.ref pl)::some u5::some u6::some u7::some u8::some (.ref tk)::some (.int left)::u11::u12::nn 6
theorem gv1{a b:Int}(h:0≤a)(k:0≤b):0≤min a b:=Int.le_min.mpr ⟨h,k⟩
theorem gv2{a b:Int}:0≤b+ -(min a b):=by omega
theorem gv3{a b:Int}(h:0≤a)(h2:a≤20)(k:0≤b):(min a b).natAbs<wfuel∧(-(min a b)).natAbs<wfuel:=by
 rw[Int.natAbs_neg]
 exact⟨show _<5000 by omega,show _<5000 by omega⟩
theorem uy{n:Nat}{σ:H}{Q:V×H→Prop}{r:Bool}{A S R left:Int}{tk:D}{gs:List D}{ga pl top:Nat}{Z:List (Nat×O)}{z:List V}{u0 u1 u3 u5 u6 u7:V}(h9:n≤97)
  (o:Own σ (objs tk++(bO gs++((ga,.list (refs gs))::Z)))) (hp:(pl,.list (.ref top::z))∈Z) (al:Aln r A ((tk::gs).map key) S R (tk::gs)) (hn:∀e∈tk::gs,(names e.t).length≤n) (hl:0≤left∧left≤20)
  (K:∀tk' gs' σ',Aln r A ((tk::gs).map key) S R (tk'::gs')→Tr (objs tk++(bO gs++((ga,.list (refs gs))::Z))) σ (objs tk'++(bO gs'++((ga,.list (refs gs))::Z))) σ'→Ok (cf (n+1) bW [.ref top,.int 0,.int 0] σ') Q) :
  Ok (bT (cf (n+1)) (fT.body.drop 7) (leR u0 u1 u3 u5 u6 u7 (.ref ga) r pl tk.a left none none) σ dt) Q:=by
 refine oFo λk H=>dN (bH ((b7 (b7 o)).1 (ga,_) (.head _))) (H _ _ _ ?_)
 refine dq (S:=Int×(Option V×Option V)×D×List D) (λs=>leR u0 u1 u3 u5 u6 u7 (.ref ga) r pl tk.a s.1 s.2.1.1 s.2.1.2)
  (λs todo σ'=>∀G:Prop,(Tr (objs tk++(bO gs++((ga,.list (refs gs))::Z))) σ (objs s.2.2.1++(bO s.2.2.2++(bO todo++((ga,.list (refs gs))::Z)))) σ'→Aln r A ((tk::gs).map key) S R (s.2.2.1::(s.2.2.2++todo))→s.2.2.1.a=tk.a→0≤s.1→s.1≤20→G)→G) ?_ ?_ (s:=(left,(none,none),tk,[])) λG k=>k .rfl al rfl hl.1 hl.2
 ·refine λs x xs σ1 hI=>⟨_,rfl,λR1 K1 _=>hI _ λt al ea h1 h2=> ?_⟩
  have o1:=t.get o
  have ox:=eK (eK (b7 (b7 o1)))
  have wx:=(al.all x (.tail _ (ay _ (.head _)))).1
  have wt:=(al.all s.2.2.1 (.head _)).1
  have nx:=uL al.ky hn x (.tail _ (ay _ (.head _)))
  refine oA λk H=>okC (jO (fH (ae h9 (by decide)) wx nx) (cq ox) wx λσ2 k2=>H _ _ ?_)
  refine oE λk H=>okC (fX (ae h9 (by decide)) nx (k2 _ ox) wx gv2 (gv3 h1 h2 (eP wx)).2 λx' σ3 ex rx tx=>H _ _ ?_)
  have t1:=(t.kp k2).trans ((((tx.fr (bO xs)).fr _).le (bO s.2.2.2)).le (objs s.2.2.1))
  rw[sK] at t1
  refine oE λk H=>okC (qE ea (ae h9 (by decide)) (uL al.ky hn s.2.2.1 (.head _)) (eK (t1.get o)) wt (Int.add_nonneg (eP wt) (gv1 h1 (eP wx))) (gv3 h1 h2 (eP wx)).1 λt' σ4 et rt tt=>H _ _ ?_)
  have t2:=t1.trans (tt.fr _)
  refine okR (K1 (s.1-min s.1 (room r x.t),(some (rf x),some (.int (min s.1 (room r x.t)))),t',s.2.2.2++[x']) _ (ai.mpr ((b7 (b7 (b7 (t2.get o)))).1 (ga,.list (refs gs)) (.head _))) λG k=>k t2 ?_ (et.trans ea) (Int.sub_nonneg_of_le (Int.min_le_left _ _)) (ak (Int.sub_le_self _ (gv1 h1 (eP wx))) h2))
  have:=rW (l:=[]) (rW (l:=s.2.2.1::s.2.2.2) al rx ex) rt et
  rw[Int.neg_add_cancel_right,Int.neg_add_cancel_right] at this
  exact List.append_cons s.2.2.2 x' xs▸this
 ·refine λs σ1 hI=>hI _ λt al ea h1 h2=>oR λk H=>okX (dQ (P:=[]) (bH ((b7 (b7 (b7 (t.get o)))).1 (pl,.list (.ref top::z)) (.tail _ hp))) rfl) (okC (okM (K _ _ _ (aw s.2.2.2▸al) t) λx q=>H _ _ (okR q)))
theorem psum{l m:List Int}(p:l.Perm m):l.sum=m.sum:=by
 induction p with
 | nil=>rfl
 | cons x _ ih=>exact congrArg (x+·) ih
 | swap x y l=>exact(Int.add_left_comm y x l.sum)
 | trans _ _ h1 h2=>exact h1.trans h2
theorem uH{l m:List D}(p:l.Perm m):(bO l).Perm (bO m):=by
 induction p with
 | nil=>exact .refl _
 | cons x _ ih=>exact ih.append_left _
 | swap x y l=>exact pm (objs y) (objs x) (bO l)
 | trans _ _ h1 h2=>exact h1.trans h2
theorem E3{α:Type}{l rs:List α}{s:α}(h:1≤l.length+rs.length){G:Prop}(k:∀L A B R,l++s::rs=L++A::B::R→min (l.length:Int) ((l.length:Int)+rs.length-1)=(L.length:Int)→G):G:=by
 cases rs with
 | cons B R=>exact k l s B R rfl (Int.min_eq_left (by rw[bc];lia))
 | nil =>
  rcases List.eq_nil_or_concat l with rfl|⟨L,A,rfl⟩
  ·exact absurd h (Nat.not_succ_le_zero 0)
  ·refine k L A s [] (by rw[List.concat_eq_append,af];rfl) ?_
   rw[List.length_concat]
   exact(Int.min_eq_right (Int.sub_le_self _ (by decide))).trans (show((L.length+1:Nat):Int)+((0:Nat):Int)-1=L.length by lia)
structure Asm(asm:D→List D→List D)(tk:D)(gs rest:List D):Prop where
 p:∀t l,(asm t l).Perm ((t::l)++rest)
 k:∀t l,(t::l).map key=(tk::gs).map key→(asm t l).map key=(asm tk gs).map key
theorem Ja(L:List D)(tk:D)(gs:List D):Asm (λt l=>L++t::l) tk gs L:=⟨λt l=>ba,λt l h=>by rw[au,h,au]⟩
theorem I9(R:List D)(tk:D)(gs:List D):Asm (λt l=>l.reverse++t::R) tk gs R:=⟨λt l=>(List.perm_middle).trans (.cons t ((List.reverse_perm l).append_right R)),λt l h=>by
 rw[aR,aR] at h
 rw[au,au,List.map_reverse,List.map_reverse,aR,aR,(List.cons.inj h).1,(List.cons.inj h).2]⟩
noncomputable def Same(t t':T):Prop:=WF t'∧t'.k=t.k∧t'.w=t.w∧t'.h=t.h∧names t'=names t
theorem GQ{r:Bool}{A S R:Int}{asm:D→List D→List D}{tk t':D}{gs l' rest:List D}(a:Asm asm tk gs rest)(h:Aln r A ((asm tk gs).map key) S R (asm tk gs))(h':Aln r A ((tk::gs).map key) ((tk::gs).map λe=>e.t.sd r).sum ((tk::gs).map λe=>room r e.t).sum (t'::l')):Aln r A ((asm tk gs).map key) S R (asm t' l') where
 all:=λe m=>(List.mem_append.mp ((a.p t' l').mem_iff.mp m)).elim (λm=>h'.all e m) λm=>h.all e ((a.p tk gs).mem_iff.mpr (ay _ m))
 ky:=a.k t' l' h'.ky
 s:=by
  rw[←h.s,psum ((a.p t' l').map _),psum ((a.p tk gs).map _),au,au,jL,jL,h'.s]
 m:=by
  rw[←h.m,psum ((a.p t' l').map _),psum ((a.p tk gs).map _),au,au,jL,jL,h'.m]
theorem GP{r:Bool}{A S R:Int}{asm:D→List D→List D}{tk:D}{gs rest:List D}(a:Asm asm tk gs rest)(h:Aln r A ((asm tk gs).map key) S R (asm tk gs)):Aln r A ((tk::gs).map key) ((tk::gs).map λe=>e.t.sd r).sum ((tk::gs).map λe=>room r e.t).sum (tk::gs) :=
 ⟨λe m=>h.all e ((a.p tk gs).mem_iff.mpr (aL _ m)),rfl,rfl,rfl⟩
theorem rp1{α:Type}(A B T L W C:List α):(A++(B++((T++(L++W))++C))).Perm (T++(L++(A++(B++(W++C))))):=by
 rw[af,af]
 exact eM 6 [T,L,A,B,W,C] [2,3,0,1,4,5] (by decide) rfl
section
variable{σ:H}{r:Bool}
noncomputable def IX(u0 u1 u5 u6 u7 u8:V)(r:Bool)(ch:Int)(pl tk:Nat):Le:=some u0::some u1::some (.bool r)::some (.int ch)::some (.ref pl)::some u5::some u6::some u7::some u8::some (.ref tk)::nn 9
theorem m5{n:Nat}{Q:V×H→Prop}{ch:Int}{c:List G}{g:G}{s tk:D}{gs rest:List D}{asm:D→List D→List D}{ga pl:Nat}{z:List V}{u0 u1 u5 u6 u7:V}(h9:n≤96)
  (o:Own σ ((ga,.list (refs gs))::((pl,.list (.ref (kj c g.a)::z))::objs (cF (g::c) s)))) (eg:g.r=r) (wf:WF (g.up s).t) (hn:(names (g.up s).t).length≤n) (hs:asm tk gs=g.l++s::g.rs) (a:Asm asm tk gs rest) (hc:ch.natAbs≤20)
  (hdp:∀t',Same (g.up s).t t'→Dp (n+2) (plug (c.map G.f) t'))
  (K:∀t',Same (g.up s).t t'→∀d' σ',d'.t=plug (c.map G.f) t'→Pl d' 0 0→Tr ((ga,.list (refs gs))::((pl,.list (.ref (kj c g.a)::z))::objs (cF (g::c) s))) σ (objs d') σ'→Q (.ref d'.a,σ')) :
  Ok (bT (cf (n+2)) (fT.body.drop 6) (IX u0 u1 u5 u6 u7 (.ref ga) r ch pl tk.a) σ dt) Q:=by
 refine oA λk H=>H (.int ch.natAbs) σ ?_
 have al0:Aln r ((g.up s).sd (!r)) ((asm tk gs).map key) ((g.up s).sd r-(asm tk gs).length+1) ((asm tk gs).map λe=>room r e.t).sum (asm tk gs):=by
  have:=t8 (d:=g.up s) (r:=r) (congrArg L.K.box eg) wf
  rw[show(g.up s).ps=asm tk gs from hs.symm] at this
  exact this
 have ob:∀t l,refs (asm t l)=refs (asm tk gs)→(objs (.mk g.a g.b g.x g.y (.box g.r) g.w g.h (asm t l))).Perm (objs t++(bO l++((g.a,.inst 0 g.fl)::(g.b,.list (refs (asm tk gs)))::bO rest))):=λt l e=>by
  show((g.a,O.inst 0 g.fl)::(g.b,.list (refs (asm t l)))::bO (asm t l)).Perm _
  rw[e]
  refine(((uH (a.p t l)).cons _).cons _).trans ?_
  rw[dC,show bO (t::l)=objs t++bO l from rfl,af]
  exact eM 4 [objs t,bO l,[(g.a,O.inst 0 g.fl),(g.b,.list (refs (asm tk gs)))],bO rest] [2,0,1,3] (by decide) rfl
 have es:g.up s= .mk g.a g.b g.x g.y (.box g.r) g.w g.h (asm tk gs):=by rw[hs];rfl
 have p1:∀t l,refs (asm t l)=refs (asm tk gs)→([(ga,O.list (refs gs))]++([(pl,O.list (.ref (kj c g.a)::z))]++objs (cF c (.mk g.a g.b g.x g.y (.box g.r) g.w g.h (asm t l))))).Perm (objs t++(bO l++([(ga,O.list (refs gs))]++([(pl,O.list (.ref (kj c g.a)::z))]++(((g.a,.inst 0 g.fl)::(g.b,.list (refs (asm tk gs)))::bO rest)++cU c g.a))))):=λt l e =>
  ((((d0 c _).trans ((ob t l e).append_right _)).append_left _).append_left _).trans (rp1 _ _ _ _ _ _)
 have t1:=Tr.rfl (X:=(ga,.list (refs gs))::((pl,.list (.ref (kj c g.a)::z))::objs (cF (g::c) s))) (a:=σ) |>.perm (.refl _) (es▸p1 tk gs rfl)
 refine uy (n:=n+1) (u3:= .int ch) (z:=z) (Nat.succ_le_of_lt (ax h9 (by decide))) (t1.get o) (.head _) (GP a al0) (λe m=> ?_) ⟨aC _,aO.mpr hc⟩ λt' l' σ' al' t2=> ?_
 ·exact aV (Ac wf (aV hn) e (show e∈g.l++s::g.rs from hs▸(a.p tk gs).mem_iff.mpr (aL _ m)))
 ·have al:=GQ a al0 al'
  have sm:Same (g.up s).t (D.mk g.a g.b g.x g.y (.box g.r) g.w g.h (asm t' l')).t:=by
   refine⟨vK (d:=g.up s) (r:=r) (w:=g.w) (h:=g.h) (congrArg L.K.box eg) wf (by rw[show(g.up s).ps=asm tk gs from hs.symm];exact al) ?_,rfl,rfl,rfl,?_⟩
   ·rw[show(g.up s).ps=asm tk gs from hs.symm]
    show(g.up s).sd r-_+1+_-1=(g.up s).sd r
    lia
   ·rw[gS (d:= .mk _ _ _ _ _ _ _ _) rfl,gS (d:=g.up s) rfl,show(g.up s).ps=asm tk gs from hs.symm]
    exact nV al.ky
  have t4:=((t1.trans t2).perm (.refl _) (p1 t' l' (iS al.ky)).symm).dr.dr
  exact iq c (.mk g.a g.b g.x g.y (.box g.r) g.w g.h (asm t' l'))▸e9 ((gQ c _).symm▸hdp _ sm) (t4.get o) λd' σ2 ea et pl t5=>ea▸K _ sm d' σ2 (et.trans (gQ c _)) pl (t4.trans t5)
end
theorem zW{β:Type}{l l':List V}{σ:H}{k:V→H→Option β}{Q:β→Prop}(e:l=l')(h:Ok (k (.ref σ.length) (σ++[.list l'])) Q):Ok (mkO (.list l) σ k) Q:=by
 subst e
 exact h
theorem rR{l:List V}{k:Int}{n:Nat}(h:k=(n:Int))(hn:n≤l.length):clip l.length k=n:=by
 subst h
 rw[clip,wrap,if_neg (bx.mpr (aC n)),Int.min_eq_left (aO.mpr hn),Int.max_eq_right (aC n),bg]
theorem iI{P Q:List V}{k:Int}(h:k=(P.length:Int)):cut (P++Q) (.int k) .none=some Q:=by
 show some (((P++Q).drop (clip (P++Q).length k)).take ((P++Q).length-clip (P++Q).length k))=_
 rw[rR h (by rw[aa];exact az _ _),List.drop_left,aa,Nat.add_sub_cancel_left,List.take_length]
theorem vw{P Q:List V}{k:Int}(h:k=(P.length:Int)):cut (P++Q) .none (.int k)=some P:=by
 show some (((P++Q).drop 0).take (clip (P++Q).length k-0))=_
 rw[rR h (by rw[aa];exact az _ _),List.drop_zero,Nat.sub_zero,List.take_left]
noncomputable def leR0(a pl:Nat)(p:Int)(r:Bool)(ch:Int):Le:=some (.ref a)::some (.int p)::some (.bool r)::some (.int ch)::some (.ref pl)::nn 14
section
variable{σ:H}{d:D}{r:Bool}
theorem ux{n:Nat}{Q:V×H→Prop}{p ch:Int}(h9:n≤96)(wf:WF d.t)(hn:(names d.t).length≤n)(h:At σ d)(hp:p∈names d.t)(hpl:Pl d 0 0)(hc:ch.natAbs≤20)
  (hdp:∀c t t',d.t=plug c t→Same t t'→Dp (n+2) (plug c t'))
  (K:∀c t t',d.t=plug c t→Same t t'→∀d' σ',d'.t=plug c t'→Pl d' 0 0→New σ (objs d') σ'→Q (.ref d'.a,σ')) :
  Ok (cf (n+3) jf [.ref d.a,.int p,.bool r,.int ch] σ) Q:=by
 have hd2:Dp (n+2) d.t:=fH (ae (aF h9 2) (by decide)) wf (ae hn (az n 2))
 refine okF (le:=some (.ref d.a)::some (.int p)::some (.bool r)::some (.int ch)::nn 15) rfl rfl ?_
 refine oA λk H=>okC (iJ hd2 h λd1 σ1 q1 t1=>okC (jQ (p:=p) (ae (aF h9 2) (by decide)) ((ie q1).symm▸hd2) (bP t1).1 (λm=>absurd ((ie q1).symm▸hp) m) λc0 leaf ec lk fs hc0 pl σ2 t2=>H _ _ ?_))
 have t2:=t1.and t2
 have lp:=bH (bK t2)
 have et:=ie q1
 have pl1:=wm q1 hpl
 have wf1:WF d1.t:=et.symm▸wf
 have hn1:(names d1.t).length≤n:=et.symm▸hn
 have o2:=bP t2
 rw[ec] at o2 wf1 hn1
 refine oIr λk H=>H false _ (λe=>Bool.noConfusion e) λ_=> ?_
 obtain⟨z,ez⟩:=lZ c0 leaf.a
 refine oA λk H=>okC (vD (by lia) (b7 (X:=[(pl,_)]) o2) lp (λc g s e=> ?_) (λσ3 k3=>H _ _ ?_) λc g s σ3 e eg k3=>H _ _ ?_)
 ·rw[e] at wf1 hn1
  exact(vP g (by omega) (mL c (g.up s) wf1 hn1).1 (mL c (g.up s) wf1 hn1).2).2.2
 ·refine oIr λk H=>H true σ3 (λ_=>okX (dQ (P:=[]) (bL k3 (lp.trans (congrArg some ez))) rfl) (okR ?_)) λe=>Bool.noConfusion e
  rw[←iq,←ec]
  exact K [] d.t d.t rfl ⟨wf,rfl,rfl,rfl,rfl⟩ d1 σ3 et pl1 (t2.kp k3).dr
 ·refine oIr λk H=>H false σ3 (λe=>Bool.noConfusion e) λ_=> ?_
  have ea:pr c0 leaf= .ref (kj c g.a)::z:=ez.trans (by rw[←iq,e,iq];rfl)
  have t3:=t2.kp k3
  rw[ec,e,ea] at t3
  rw[e] at wf1 hn1
  have lg:bJ σ3 g.b=some (refs (g.l++s::g.rs)):=(cq (eK (d9 (d0 c (g.up s)) (b7 (X:=[(pl,_)]) (bP t3))))).l
  have e1:d.t=plug (c.map G.f) (g.up s).t:=et.symm.trans (by rw[ec,e];exact gQ c (g.up s))
  have w:=mL c (g.up s) wf1 hn1
  have hdp:=λt'=>hdp _ _ t' e1
  have K:=λt'=>K _ _ t' e1
  refine E3 (s:=s) ((vP g (by omega) w.1 w.2).2.2) λL A B R hps hat=> ?_
  rw[hps,dA] at lg
  rw[hat]
  refine oT λk H=>H _ _ _ rfl ?_
  have lgB:(L.length:Int)+1=((refs (L++[A])).length:Int):=by rw[bV,aa];rfl
  have lg2:bJ σ3 g.b=some (refs (L++[A])++refs (B::R)):=lg.trans (by rw[dA,af];rfl)
  refine oT λk H=>fB (λech=> ?_) λech=> ?_
  ·refine okL lg2 (c7 (iI lgB) (okX (dQ (bL (bI (bM σ3 (.list (refs (B::R))))) lg) (congrArg Int.ofNat (bV L).symm)) (H _ _ _ rfl ?_)))
   have t4:=t3.and (bM σ3 (.list (refs (B::R))))
   exact m5 (tk:=A) (gs:=B::R) (u0:= .ref d.a) (u1:= .int p) h9 (bP t4) eg w.1 w.2 hps.symm (Ja L A (B::R)) hc hdp λt' sm d' σ' a1 a2 a3=>K t' sm d' σ' a1 a2 (t4.trans a3)
  ·refine okL lg2 (c7 (vw lgB) (okL (bH (bK (bM σ3 (.list (refs (L++[A])))))) ?_))
   refine zW (l':=refs (L++[A]).reverse) (List.map_reverse (f:=rf)).symm ?_
   have kk:=(bI (bM σ3 (.list (refs (L++[A]))))).trans (bI (bM _ (.list (refs (L++[A]).reverse))))
   refine okX (dQ (bL kk lg2) lgB) (H _ _ _ rfl ?_)
   have t4:=(t3.kp (bI (bM σ3 (.list (refs (L++[A])))))).and (bM _ (.list (refs (L++[A]).reverse)))
   exact m5 (tk:=B) (gs:=(L++[A]).reverse) (u0:= .ref d.a) (u1:= .int p) h9 (bP t4) eg w.1 w.2 (by rw[hps,List.reverse_reverse,af];rfl) (I9 R B (L++[A]).reverse) hc hdp λt' sm d' σ' a1 a2 a3=>K t' sm d' σ' a1 a2 (t4.trans a3)
end
theorem zY{p:Pat}{g:Gd}{f:Le→H→St}{Q:Fl×Le×H→Prop}{x:V}{xs:List V}{le le1:Le}{σ:H}(e:fu p x le=some le1)
  (h:∀Q':Fl×Le×H→Prop,(∀le' σ',cY σ' g→Ok (jY p g f xs le' σ') Q→Q' (.next,le',σ'))→(∀w le' σ',Q (.ret w,le',σ')→Q' (.ret w,le',σ'))→Ok (f le1 σ) Q'):Ok (jY p g f (x::xs) le σ) Q :=
 c7 e (okB (h _ (λ_ _ g k=>uG g k) λ_ _ _ q=>okR q))
theorem mE{t:T}(h:WF t):1≤t.w∧1≤t.h:=by
 induction h with
 | pane _ h1 h2 _=>exact⟨h1,h2⟩
 | @box t r e h1 _ h3 _ h5 ih =>
  cases hp:t.ps with
  | nil=>rw[hp] at h1;exact absurd h1 (by decide)
  | cons a l =>
   rw[hp] at h1 h3 h5 ih
   have i:=ih a (.head _)
   have s1:1≤a.sd r:=by cases r;exact i.2;exact i.1
   have s2:1≤a.sd (!r):=by cases r;exact i.1;exact i.2
   have s3:0≤(l.map (T.sd r)).sum:=yQ λx m=>by
    obtain⟨b,mb,rfl⟩:=bb.mp m
    have j:=ih b (.tail _ mb)
    cases r
    ·exact ak (by decide) j.2
    ·exact ak (by decide) j.1
   rw[h3 a (.head _)] at s2
   have h5:a.sd r+(l.map (T.sd r)).sum+((l.length+1:Nat):Int)-1=t.sd r:=h5
   have s4:1≤t.sd r:=by omega
   cases r
   ·exact⟨s2,s4⟩
   ·exact⟨s4,s2⟩
theorem wL{a b m:Int}(h:0≤m)(k:b≤a):max (a-b) (-m)=a-b:=Int.max_eq_left (ak (Int.neg_nonpos_of_nonneg h) (Int.sub_nonneg_of_le k))
theorem Co{n a:Nat}{σ:H}{Q:V×H→Prop}{d:D}{r:Bool}(e:d.a=a)(h:At σ d)(k:Q (.int (d.sd r),σ)):Ok (cf (n+1) bZ [.ref a,.bool r] σ) Q:=e▸dy h k
theorem Ct{n a:Nat}{σ:H}{Q:V×H→Prop}{d:D}{r:Bool}(e:d.a=a)(hd:Dp n d.t)(h:At σ d)(wf:WF d.t)(K:∀σ',Kp σ σ'→Q (.int (room r d.t),σ')):Ok (cf (n+1) dJ [.ref a,.bool r] σ) Q:=e▸jO hd h wf K
theorem xz{n a:Nat}{σ:H}{Q:V×H→Prop}{d:D}{x y:Int}(e:d.a=a)(hdp:Dp n d.t)(h:Own σ (objs d))(K:∀d' σ',d'.a=d.a→d'.t=d.t→Pl d' x y→Tr (objs d) σ (objs d') σ'→Q (.ref d.a,σ')):Ok (cf n bW [.ref a,.int x,.int y] σ) Q:=e▸e9 hdp h K
section
variable{σ:H}{d:D}
theorem DA{n:Nat}{Q:V×H→Prop}{w h:Int}(h9:n≤96)(wf:WF d.t)(hn:(names d.t).length≤n)(hA:At σ d)(hw:d.w≤w∧w-d.w<4000)(hh:d.h≤h∧h-d.h<4000)
  (K:∀t1 t2,Res true (w-d.w) d.t t1→Res false (h-d.h) t1 t2→∀d' σ',d'.t=t2→Pl d' 0 0→New σ (objs d') σ'→Q (.ref d'.a,σ')) :
  Ok (cf (n+3) j8 [.ref d.a,.int w,.int h] σ) Q:=by
 have h92:n+2≤99:=ae (aF h9 2) (by decide)
 have h91:=bf h92
 have hn2:=ae hn (az n 2)
 refine okF (le:=some (.ref d.a)::some (.int w)::some (.int h)::nn 10) rfl rfl ?_
 refine oA λk H=>okC (iJ (fH h92 wf hn2) hA λd1 σ1 q1 t1=>H _ _ ?_)
 have et:=ie q1
 have ew:d1.sd true=d.w:=(t_w d1).symm.trans ((congrArg T.w et).trans (t_w d))
 have eh:d1.sd false=d.h:=(t_h d1).symm.trans ((congrArg T.h et).trans (t_h d))
 have wf1:WF d1.t:=et.symm▸wf
 have hn1:(names d1.t).length≤n:=et.symm▸hn
 refine oFo λk H=>H _ _ _ (zY rfl λR K1 _=> ?_)
 refine oA λk H=>okC (dy (bP t1).1 (okC (jO (fH (n:=n+1) h91 wf1 (aV hn1)) (bP t1).1 wf1 λσ2 k2=>H _ _ ?_)))
 refine oE λk H=>okC ?_
 rw[show max (w-d1.sd true) (-(room true d1.t))=w-d.w from(wL (eP wf1) (ew.symm▸hw.1)).trans (by rw[ew])]
 refine fX (n:=n+1) h91 (aV hn1) (bP (t1.kp k2)) wf1 (Int.add_nonneg (eP wf1) (Int.sub_nonneg_of_le hw.1)) (na5 (Int.sub_nonneg_of_le hw.1) hw.2) λd2 σ3 ea r1 t2=>H _ _ (okR (K1 _ _ (aj _) (zY rfl λR K1 _=> ?_)))
 have t3:=(t1.kp k2).trans t2
 have e2:d2.sd false=d.h:=((fA false d2).symm.trans (r1.o.trans (fA false d1))).trans eh
 have hn2':(names d2.t).length≤n:=r1.n.symm▸hn1
 refine oA λk H=>okC (Co ea (bP t3).1 (okC (Ct ea (fH (n:=n+1) h91 r1.wf (aV hn2')) (bP t3).1 r1.wf λσ4 k4=>H _ _ ?_)))
 refine oE λk H=>okC ?_
 rw[show max (h-d2.sd false) (-(room false d2.t))=h-d.h from(wL (eP r1.wf) (e2.symm▸hh.1)).trans (by rw[e2])]
 refine qE ea (n:=n+1) h91 (aV hn2') (bP (t3.kp k4)) r1.wf (Int.add_nonneg (eP r1.wf) (Int.sub_nonneg_of_le hh.1)) (na5 (Int.sub_nonneg_of_le hh.1) hh.2) λd3 σ5 eb r2 t4=>H _ _ (okR (K1 _ _ (aj _) (okR ?_)))
 have t5:=(t3.kp k4).trans t4
 exact oR λk H=>okC (xz (eb.trans ea) (fH h92 r2.wf (r2.n.symm▸ae hn2' (az n 2))) (bP t5) λd4 σ6 ec e4 pl t6=>H _ _ (okR (ec▸K d2.t d3.t (et▸r1) r2 d4 σ6 e4 pl (t5.trans t6))))
end
section
variable{σ:H}{d:D}
theorem sG{x y:Int}(h:Pl d x y):d.x=x∧d.y=y:=by
 cases d
 exact h.1
theorem zG{x y:Int}(h:Pl d x y):PlL d.k.r d.ps x y:=by
 cases d
 exact h.2
theorem rN{a b:Nat}(h1:bJ σ a=some [])(h2:bJ σ b=some []):cmpop .eq (.ref a) (.ref b) σ=some true:=by
 show(bJ σ a).bind _=_
 rw[h1]
 show(bJ σ b).bind _=_
 rw[h2]
 exact congrArg some (@bB _ (Classical.propDecidable _) rfl)
theorem kk{k:K}(e:k= .box k.r):(k.n==1)=k.r:=by
 cases k with
 | pane=>exact nomatch e
 | box r=>exact Gj r
theorem eqI{a:Int}:(a==a)=true:=bC a
theorem xx{n:Nat}{Q:V×H→Prop}{x y:Int}(hdp:Dp n d.t)(h:At σ d)(wf:WF d.t)(hp:Pl d x y)(K:∀σ',Kp σ σ'→Q (.bool true,σ')):Ok (cf (n+1) eW [.ref d.a,.int x,.int y] σ) Q:=by
 induction n generalizing d σ Q x y with
 | zero=>exact hdp.elim
 | succ n ih =>
  refine okF (le:=some (.ref d.a)::some (.int x)::some (.int y)::nn 9) rfl rfl ?_
  have w:=mE wf
  rw[t_w,t_h] at w
  refine oIr λk H=>okI h.c (okI h.c (okN ?_ (okI h.c (okI h.c (H _ _ (λe=> ?_) λ_=> ?_)))))
  ·rw[(sG hp).1,(sG hp).2,bC]
   rfl
  ·exact absurd (bA e) (bx.mpr (Int.le_min.mpr w))
  ·refine oIr λk H=>okI h.c (H _ _ (λe=> ?_) λe=> ?_)
   ·refine okI h.c (iu (rN ?_ (bH (bK (bM _ _)))) (okR (K _ (bI (bM _ _)))))
    refine bL (bI (bM _ _)) (h.l.trans ?_)
    exact pB wf ((t_k d).trans (n5 e)) λ_ _ q=>by rw[List.map_eq_nil_iff.mp ((hZ d).symm.trans q)];rfl
   ·have e:=s9 e
    refine oA λk H=>okI h.c (nC (kk e) (H _ _ ?_))
    refine jK wf ((t_k d).trans e) λh1 h2 h3 h4 h5=> ?_
    rw[hZ,ah] at h1
    refine oIr λk H=>okI h.c (fG h.l (H _ _ (λq=> ?_) λ_=> ?_))
    ·rw[bV] at q
     exact absurd (bA q) (bx.mpr (aO.mpr h1))
    ·refine oFo λk H=>okI h.c (dN h.l (H _ _ _ ?_))
     refine dq (S:=Int×Int×Option V) (λs=>some (.ref d.a)::some (.int s.1)::some (.int s.2.1)::some (.bool d.k.r)::s.2.2::nn 7)
      (λs todo σ'=>Kp σ σ'∧PlL d.k.r todo s.1 s.2.1∧∀e∈todo,e∈d.ps) ?_ ?_ (s:=(x,y,none)) ⟨.rfl,zG hp,λ_ m=>m⟩
     ·refine λs c cs σ1 hI=>⟨_,rfl,λR K1 _=> ?_⟩
      have hc:=hI.2.2 c (.head _)
      have ac:=(h.ps c hc).kp hI.1
      have sc:c.sd (!d.k.r)=d.sd (!d.k.r):=(fA _ c).symm.trans ((h3 c.t (by rw[hZ];exact aK hc)).trans (fA _ d))
      refine oIr λk H=>okC (dy ac (okC (dy (h.kp hI.1) (okN (by rw[sc,eqI];rfl) (okC (ih (kc hdp c hc) ac (xc wf c hc) hI.2.1.1 λσ2 k2=>H _ _ (λe=>Bool.noConfusion e) λ_=> ?_))))))
      have k2:=hI.1.trans k2
      have ac:=(h.ps c hc).kp k2
      refine oT λk H=>fB (λer=>okI ac.c (H _ _ _ rfl (okR (K1 (_,_,some (rf c)) _ (ai.mpr (cj k2 (bQ h.l))) ⟨k2,?_,λe m=>hI.2.2 e (.tail _ m)⟩)))) λer=>okI ac.c (H _ _ _ rfl (okR (K1 (_,_,some (rf c)) _ (ai.mpr (cj k2 (bQ h.l))) ⟨k2,?_,λe m=>hI.2.2 e (.tail _ m)⟩)))
      ·have p:=hI.2.1.2
       rw[er] at p⊢
       exact(Int.add_assoc s.1 c.w 1).symm▸p
      ·have p:=hI.2.1.2
       rw[er] at p⊢
       exact(Int.add_assoc s.2.1 c.h 1).symm▸p
     ·refine λs σ1 hI=> ?_
      refine oA λk H=>okI (h.kp hI.1).c (dN (bL hI.1 h.l) ?_)
      refine okB (dB (S:=Option V×Option V) (λq=>some (.ref d.a)::some (.int s.1)::some (.int s.2.1)::some (.bool d.k.r)::s.2.2::none::q.1::nn 5) (λe:D=>[V.int (e.sd d.k.r)]) (s:=(none,none)) (ai.mpr (bQ (bL hI.1 h.l))) ?_ λσ2 k2=> ?_)
      ·exact λe m q σ2 k2=>⟨(_,none),rfl,λR K1=>okC (dy ((h.ps e m).kp (hI.1.trans k2)) (okR (K1 _ .rfl)))⟩
      ·rw[fm1]
       refine okG ?_ (okL (bH (bK (bM σ2 _))) (qV (H _ _ ?_)))
       ·rw[ah,ah]
        exact ae (jC hdp) (by decide)
       have k3:=(hI.1.trans k2).trans (bI (bM σ2 (.list ((d.ps.map (D.sd d.k.r)).map V.int))))
       refine oR λk H=>okI (h.kp k3).c (fG (bL k3 h.l) (okC (dy (h.kp k3) (nC (b':=true) ?_ (H _ _ (okR (K _ k3)))))))
       rw[hZ,ah,mapt,fA] at h5
       rw[bV]
       have e5:(d.ps.map (D.sd d.k.r)).sum+d.ps.length-1=d.sd d.k.r:=(congrArg (λl:List Int=>l.sum+d.ps.length-1) (List.map_congr_left λe _=>(fA _ e).symm)).trans h5
       rw[e5,eqI]
end
noncomputable def share(whole:Int)(n k:Nat):Int:=whole/n+(if decide (0+1*(k:Int)<whole%n)=true then 1 else 0)
noncomputable def whole(side:Int)(n:Nat):Int:=max side ((n:Int)*(1+1)-1)-((n:Int)-1)
noncomputable def shares(side:Int)(n:Nat):List Int:=(List.range' 0 n).map (share (whole side n) n)
noncomputable def mx:List Int→Int
 | []=>0
 | a::r=>r.foldl max a
noncomputable def along(r:Bool)(ts:List T):Int:=(ts.map (T.sd r)).sum+ts.length-1
noncomputable def across(r:Bool)(ts:List T):Int:=mx (ts.map (T.sd (!r)))
noncomputable def ofT(r:Bool)(ts:List T):T:=match ts with
 | [t]=>t
 | ts=> .mk (.box r) (sd r (along r ts) (across r ts)) (sd r (across r ts) (along r ts)) ts
theorem om{α:Type}{c:Prop} [d:Decidable c]{x:Option α}(h:c):gd c x=x:=if_pos h
theorem F9{a:Nat}(h:a≤1000):a<2^64:=ax h (by decide)
theorem f4{a b:Int}(h:a.natAbs≤1000)(k:b.natAbs≤1000):iop .mul a b=some (a*b):=om ⟨F9 h,F9 k⟩
theorem fR{a b:Int}(h:0<b∧b<1073741824):iop .fdiv a b=some (a/b):=om h
theorem iZ{a b:Int}(h:0<b):iop .mod a b=some (a%b):=om h
theorem sJ{β:Type}{op:BOp}{a b x:Int}{f:Int→Option β}{Q:β→Prop}(h:iop op a b=some x)(k:Ok (f x) Q):Ok ((iop op a b).bind f) Q:=c7 h k
theorem wF{β:Type}{F:FT}{b:E}{le:Le}{σ:H}{k:List V→Gd→H→Option β}{Q:β→Prop}{j:Int}{l:List V}(hb:∀k:V→H→Option β,evK F b le σ k=k (.int j) σ)(hr:ce 0 j 1=some l)(h:Ok (k l [] σ) Q):Ok (fz F (.r1 b) le σ k) Q:=by
 show Ok (evK F b le σ _) Q
 rw[hb]
 exact c7 (o:=ce 0 j 1) hr h
theorem FS{β:Type}{F:FT}{e it:E}{p:Pat}{le:Le}{σ:H}{k:V→H→Option β}{Q:β→Prop}(hf:cw p le=true)(h:Ok (fz F it le σ λxs g σ=>(cy p g (λle σ=>evK F e le σ λv σ=>some ([v],σ)) xs le σ).bind λz=>pP z.1 z.2 k) Q):Ok (evK F (.comp e p it) le σ k) Q:=okG hf h
section
variable{σ σ0:H}{r:Bool}
theorem mV{m n:Nat}{Q:V×H→Prop}{s:Int}(hn:1≤n)(h9:n≤900)(K:∀a σ',New σ [(a,.list ((shares s n).map .int))] σ'→Q (.ref a,σ')):Ok (cf (m+1) fE [.int s,.int n] σ) Q:=by
 refine okF (le:=some (.int s)::some (.int n)::nn 7) rfl rfl ?_
 have h1:(0:Int)<n∧(n:Int)<1073741824:=⟨aP.mpr hn,aP.mpr (ax h9 (by decide))⟩
 refine oA λk H=> ?_
 refine sJ (a:=(n:Int)) (b:=1+1) (x:=(n:Int)*(1+1)) ?_ ?_
 ·exact f4 (a:=(n:Int)) (b:=1+1) (ae h9 (show 900≤1000 by decide)) (show 2≤1000 by decide)
 refine H (.int (whole s n)) _ ?_
 have hr:ce 0 n 1=some ((List.range' 0 n).map λ(k:Nat)=>V.int (0+1*(k:Int))):=by
  have:=m9 (a:=0) (b:=n) ⟨by decide,by decide⟩ (aC n) (by rw[Int.sub_zero];exact aO.mpr (ae h9 (by decide))) ⟨ak (by decide) (aC n),aO.mpr (ae h9 (by decide))⟩
  rwa [Int.sub_zero,bg] at this
 refine oR λk H=>FS rfl (wF (j:=n) (λk=>rfl) hr (okB (dB (S:=Option V) (λq=>some (.int s)::some (.int n)::some (.int (whole s n))::q::nn 5) (λk:Nat=>[V.int (share (whole s n) n k)]) (s:=none) (aj _) ?_ λσ1 k1=> ?_)))
 ·exact λx m q σ1 k1=>⟨_,rfl,λR K1=>sJ (fR h1) (sJ (iZ h1.1) (okR (K1 _ .rfl)))⟩
 ·rw[fm1]
  refine okG ?_ (H _ _ (okR (K _ _ ((Tr.rfl.kp k1).and (bM _ _)))))
  rw[ah,ah,List.length_range']
  exact ae h9 (by decide)
end
theorem rB{β:Type}{F:FT}{b:E}{le:Le}{σ:H}{k:List V→Gd→H→Option β}{Q:β→Prop}{a:Nat}{l:List V}(hb:∀k:V→H→Option β,evK F b le σ k=k (.ref a) σ)(hr:bJ σ a=some l)(h:Ok (k l [(a,l)] σ) Q):Ok (fz F (.seq b) le σ k) Q:=by
 show Ok (evK F b le σ _) Q
 rw[hb]
 exact dN hr h
theorem C7{l:List Int}(h:l≠[]):xN l=some (mx l):=by
 cases l with
 | nil=>exact absurd rfl h
 | cons a l=>rfl
theorem HA{β:Type}{k:V→H→Option β}{a b:Int}{σ:H}{Q:β→Prop}(e:a=b)(h:Ok (k (.int b) σ) Q):Ok (k (.int a) σ) Q:=e▸h
theorem II{β:Type}{l:List Int}{x:Int}{f:Int→Option β}{Q:β→Prop}(h:xN l=some x)(k:Ok (f x) Q):Ok ((xN l).bind f) Q:=c7 h k
theorem FV{r:Bool}{l:List D}(h:((refs l).length:Int)≠1):ofT r (tL l)= .mk (.box r) (sd r (along r (tL l)) (across r (tL l))) (sd r (across r (tL l)) (along r (tL l))) (tL l):=by
 cases l with
 | nil=>rfl
 | cons d l =>
  cases l with
  | nil=>exact absurd rfl h
  | cons=>rfl
theorem Fx{l:List D}(h:l≠[])(e:(((refs l).length:Int)==1)=true){G:Prop}(k:∀d,l=[d]→G):G:=by
 cases l with
 | nil=>exact absurd rfl h
 | cons d l =>
  cases l with
  | nil=>exact k d rfl
  | cons b m=>exact absurd (bD e) (by rw[bV,bc,bc];lia)
section
variable{σ σ0:H}{r:Bool}
theorem f0{m:Nat}{Q:V×H→Prop}{pl:Nat}{l:List D}{X:List (Nat×O)}(t:Tr X σ0 ((pl,.list (refs l))::bO l) σ)(o:Own σ0 X)(hl:l≠[])(h9:l.length≤99)
  (K:∀d' σ',d'.t=ofT r (tL l)→Tr X σ0 (objs d') σ'→Q (.ref d'.a,σ')):Ok (cf (m+2) cI [.str (L.K.box r).n,.ref pl] σ) Q:=by
 have oo:=t.get o
 have lp:=bH (oo.1 (pl,_) (.head _))
 have at_:∀e∈l,At σ e:=λe me z mz=>oo.1 z (.tail _ (gz me z mz))
 refine okF (le:=some (.str (L.K.box r).n)::some (.ref pl)::nn 11) rfl rfl ?_
 refine oIr λk H=>fG lp (H _ _ (λe=> ?_) λe=> ?_)
 ·refine Fx hl e λd q=> ?_
  rw[q] at t lp K
  exact okX (dQ (P:=[]) lp rfl) (okR (K d σ rfl ((t.dr (Y:=[(pl,.list (refs [d]))])).perm (.refl _) (by rw[show bO []=[] from rfl,aw]))))
 ·have hle:(l.map (D.sd r)).length≤lim:=by rw[ah];exact ae h9 (by decide)
  have hle2:(l.map (D.sd (!r))).length≤lim:=by rw[ah];exact ae h9 (by decide)
  refine oA λk H=>nC (Gj r) (H _ _ ?_)
  refine oA λk H=>dN lp (okB (dB (S:=Option V) (λq=>some (.str (L.K.box r).n)::some (.ref pl)::some (.bool r)::none::none::none::none::q::nn 5) (λe:D=>[V.int (e.sd r)]) (s:=none) (ai.mpr (bQ lp)) ?_ λσ1 k1=> ?_))
  ·exact λe me q σ1 k1=>⟨_,rfl,λR K1=>okC (dy ((at_ e me).kp k1) (okR (K1 _ .rfl)))⟩
  rw[fm1]
  have k2:=k1.trans (bI (bM σ1 (.list ((l.map (D.sd r)).map V.int))))
  refine okG (by rw[ah];exact hle) (okL (bH (bK (bM σ1 _))) (qV (fG (bL k2 lp) ?_)))
  refine HA (a:=(l.map (D.sd r)).sum+((refs l).length:Int)-1) (b:=along r (tL l)) ?_ (H _ _ ?_)
  ·rw[along,eZ,mapt,ah,bV]
   exact congrArg (λz:List Int=>z.sum+l.length-1) (List.map_congr_left λe _=>(fA r e).symm)
  refine oA λk H=>dN (bL k2 lp) (okB (dB (S:=Option V) (λq=>some (.str (L.K.box r).n)::some (.ref pl)::some (.bool r)::some (.int (along r (tL l)))::none::none::none::q::nn 5) (λe:D=>[V.int (e.sd (!r))]) (s:=none) (ai.mpr (bQ (bL k2 lp))) ?_ λσ3 k3=> ?_))
  ·exact λe me q σ1 k1=>⟨_,rfl,λR K1=>okC (dy ((at_ e me).kp (k2.trans k1)) (okR (K1 _ .rfl)))⟩
  rw[fm1]
  have k4:=(k2.trans k3).trans (bI (bM σ3 (.list ((l.map (D.sd (!r))).map V.int))))
  refine okG (by rw[ah];exact hle2) (okL (bH (bK (bM σ3 _))) (qV (II (x:=across r (tL l)) ?_ (H _ _ ?_))))
  ·rw[C7 (λe=>hl (List.map_eq_nil_iff.mp e)),across,eZ,mapt]
   exact congrArg (λz=>some (mx z)) (List.map_congr_left λe _=>(fA (!r) e).symm)
  refine oT λk H=>okJ (.tup [.int (sd r (along r (tL l)) (across r (tL l))),.int (sd r (across r (tL l)) (along r (tL l)))]) (σ3++[.list ((l.map (D.sd (!r))).map V.int)]) (λe k=>by rw[e];rfl) (λe k=>by rw[e];rfl) (H _ _ _ rfl ?_)
  refine oR λk H=>H _ _ (okR (K (.mk _ pl 0 0 (.box r) _ _ l) _ (FV (ne_of_beq_false e)).symm ((t.kp k4).and (bM _ _))))
end
theorem r4(l m:List Int):gN (l.map V.int) (m.map V.int)=(l.zip m).map λp=>V.tup [.int p.1,.int p.2]:=by
 rw[gN,List.zip_map,aY]
 rfl
noncomputable def mkL(r:Bool)(w h:Int)(p:Int×Int):T:=(T.mk (.pane p.1) w h []).set r p.2
noncomputable def cW(r:Bool)(w h:Int)(ps:List Int):T:=ofT r ((ps.zip (shares (sd r w h) ps.length)).map (mkL r w h))
theorem nr{X S:List (Nat×O)}{σ0 σ σ':H}{pl:Nat}{l:List D}{d:D}{a:Nat}(ea:d.a=a)(t:Tr X σ0 ((pl,.list (refs l))::(bO l++S)) σ)(n:New σ (objs d) σ'):Tr X σ0 ((pl,.list (refs (l++[d])))::(bO (l++[d])++S)) (σ'.set pl (.list (refs l++[.ref a]))):=by
 subst ea
 have h:=((t.and n).perm (.refl _) (pm (objs d) [(pl,.list (refs l))] (bO l++S))).trans ((dm (o':= .list (refs l++[rf d]))).fr _)
 rw[←dZ] at h
 exact dZ l d▸h.perm (.refl _) (.cons _ ((af _ _ _)▸((gR l d).symm.append_right S)))
section
variable{σ σ0:H}{r:Bool}
theorem tE{m:Nat}{Q:V×H→Prop}{pa:Nat}{ps:List Int}{w h:Int}(hp:bJ σ pa=some (ps.map .int))(h1:1≤ps.length)(h9:ps.length≤99)
  (K:∀d' σ',d'.t=cW r w h ps→New σ (objs d') σ'→Q (.ref d'.a,σ')):Ok (cf (m+3) gq [.ref pa,.int w,.int h,.bool r] σ) Q:=by
 refine okF (le:=some (.ref pa)::some (.int w)::some (.int h)::some (.bool r)::nn 10) rfl rfl ?_
 refine oA λk H=>H (.ref σ.length) (σ++[O.list []]) ?_
 have hp1:=bL (bI (bM σ (.list []))) hp
 refine oFo λk H=>okJ (.int (sd r w h)) (σ++[O.list []]) (λe k=>by rw[e];rfl) (λe k=>by rw[e];rfl) (fG hp1 ?_)
 rw[ah]
 refine okC (mV h1 (ae h9 (by decide)) λsa σ2 t2=> ?_)
 refine okL (bL (bI t2) hp1) (okL (bH (bK t2)) (H _ _ _ ?_))
 have t0:=((bM σ (.list [])).and t2).perm (.refl _) (ba (l₁:=[(_,_)]))
 refine ir (r4 _ _) (dq (S:=(Option V×Option V×Option V)×List D) (λs=>some (.ref pa)::some (.int w)::some (.int h)::some (.bool r)::some (.ref σ.length)::s.1.1::s.1.2.1::s.1.2.2::nn 6)
  (λs todo σ'=>∀G:Prop,(New σ ((σ.length,.list (refs s.2))::(bO s.2++[(sa,O.list ((shares (sd r w h) ps.length).map .int))])) σ'→tL s.2++todo.map (mkL r w h)=(ps.zip (shares (sd r w h) ps.length)).map (mkL r w h)→G)→G) ?_ ?_ (s:=((none,none,none),[])) λG k=>k t0 rfl)
 ·refine λs x xs σ3 hI=>⟨_,rfl,λR K1 _=>hI _ λt e=> ?_⟩
  have hl:(refs s.2).length≤99:=by
   have:=congrArg List.length e
   rw[aa,ah,ah,List.length_zip,gO] at this
   rw[bV]
   lia
  refine oA λk H=>okC (iz λa b σ4 t4=>H _ _ ?_)
  refine oE λk H=>okC (jN (d:= .mk a b 0 0 (.pane x.1) w h []) (bP t4).1 λσ5 t5=>H _ _ ?_)
  have t6:=t4.trans (ii t5)
  have kk:=bI t6
  have lg:=bL kk (bH ((bP t).1 (σ.length,.list (refs s.2)) (.head _)))
  have t7:=nr (sy r x.2 _) t t6
  refine oE λk H=>okG (rcv lg) (okL lg (okG (ax hl (by decide)) (H _ _ ?_)))
  refine okR (K1 ((_,_,_),s.2++[(D.mk a b 0 0 (.pane x.1) w h []).set r x.2]) _ ?_ λG k=>k t7 ?_)
  ·have o7:=bP t7
   exact ao.mpr ⟨bQ (bL (bI t7) hp),ai.mpr (o7.1 _ (.tail _ (ay _ (.head _))))⟩
  ·rw[gb,af,show tL [(D.mk a b 0 0 (.pane x.1) w h []).set r x.2]=[mkL r w h x] from congrArg (λz=>[z]) (sb r x.2 _)]
   exact e
 ·refine λs σ3 hI=>hI _ λt e=> ?_
  have e:=(aw _).symm.trans e
  have el:s.2.length=ps.length:=by
   have:=congrArg List.length e
   rwa [gO,ah,List.length_zip,shares,ah,List.length_range',Nat.min_self] at this
  refine oR λk H=>okC (gC (okC (f0 (X:=[]) (t.dl (Y:=(σ.length,.list (refs s.2))::bO s.2) (Z:=[(sa,_)])) ⟨aj _,.nil⟩ (λq=>absurd (el▸h1:1≤s.2.length) (by rw[q];exact Nat.not_succ_le_zero 0)) (el.symm▸h9) λd' σ4 et t4=>H _ _ (okR (K d' σ4 (et.trans (by rw[e];rfl)) t4)))))
end
noncomputable def sM(s:Int):Int:=max s (2*1+1)
noncomputable def fM(s:Int):Int:=max 1 (min ((sM s-1)/2) (sM s-1-1))
noncomputable def cM(r:Bool)(s:Int)(t:T):Int:=sM s-1-fM s-t.sd r
noncomputable def ja(r:Bool)(s p:Int)(t:T):T:=(T.mk (.pane p) t.w t.h []).set r (fM s)
theorem FW(x y:D):bO [x,y]=objs x++objs y:=congrArg (objs x++·) (aw (objs y))
section
variable{σ:H}{r:Bool}
theorem Al{m:Nat}{Q:V×H→Prop}{pa:Nat}{p:Int}{ps:List Int}{w h:Int}(hp:bJ σ pa=some ((p::ps).map .int))(h9:ps.length≤90)(hm:91≤m∧m+2≤99)(hs:3≤sd r w h∧sd r w h≤900)
  (wf:ps≠[]→WF (cW (!r) w h ps)) (hn:(names (cW (!r) w h ps)).length≤91) (hc:ps≠[]→0≤room r (cW (!r) w h ps)+cM r (sd r w h) (cW (!r) w h ps)∧(cM r (sd r w h) (cW (!r) w h ps)).natAbs<wfuel)
  (K0:ps=[]→∀d' σ',d'.t= .mk (.pane p) w h []→New σ (objs d') σ'→Q (.ref d'.a,σ'))
  (K:ps≠[]→∀t',Res r (cM r (sd r w h) (cW (!r) w h ps)) (cW (!r) w h ps) t'→∀d' σ',d'.t=ofT r [ja r (sd r w h) p t',t']→New σ (objs d') σ'→Q (.ref d'.a,σ')):Ok (cf (m+4) jh [.ref pa,.int w,.int h,.bool r,.none] σ) Q:=by
 refine okF (le:=some (.ref pa)::some (.int w)::some (.int h)::some (.bool r)::some .none::nn 10) rfl rfl ?_
 refine oIr λk H=>fG hp (H _ _ (λe=> ?_) λe=> ?_)
 ·cases ps with
  | cons=>exact Bool.noConfusion (e.symm.trans (beq_eq_false_iff_ne.mpr (by rw[ah,bc,bc];lia)))
  | nil=>exact okX (dQ (P:=[]) hp rfl) (okC (iz λa b σ1 t=>okR (K0 rfl (.mk a b 0 0 (.pane p) w h []) σ1 rfl t)))
 ·have hne:ps≠[]:=λq=>by rw[q] at e;exact Bool.noConfusion e
  have wf:=wf hne
  have hc:=hc hne
  have K:=K hne
  refine oA λk H=>okJ (.int (sd r w h)) σ (λe k=>by rw[e];rfl) (λe k=>by rw[e];rfl) (H (.int (sM (sd r w h))) _ ?_)
  refine oA λk H=>H (.int (fM (sd r w h))) _ ?_
  refine oA λk H=>okL hp (c7 (iI (P:=[.int p]) rfl) (okC (tE (ps:=ps) (bH (bK (bM σ _))) (List.length_pos_iff.mpr hne) (ae h9 (by decide)) λd1 σ1 e1 t1=>H _ _ ?_)))
  rw[←e1] at wf hn hc K
  have n1:=(bI (bM σ (.list (ps.map .int)))).trans t1
  have o1:=bP n1
  rw[cM,fA] at hc K
  refine oE λk H=>okC (dy (cq o1) (okC (fX (n:=m+2) hm.2 (ae hn (ae hm.1 (az m 2))) o1 wf hc.1 hc.2 λd2 σ2 ea rs t2=>H _ _ ?_)))
  have n2:=n1.trans t2
  have c2:cC σ2 0 d1.a=some (flds d2):=ea▸At.c (bP n2).1
  refine oA λk H=>okX (dQ (P:=[]) (bL (bI n2) hp) rfl) (okI c2 (okI c2 (okC (iz λa b σ3 t3=>H _ _ ?_))))
  refine oE λk H=>okC (jN (d:= .mk a b 0 0 (.pane p) d2.w d2.h []) (bP t3).1 λσ4 t4=>H _ _ ?_)
  have t5:=n2.and (t3.trans (ii t4))
  have e5:[V.ref a,V.ref d1.a]=refs [(D.mk a b 0 0 (.pane p) d2.w d2.h []).set r (fM (sd r w h)),d2]:=by
   rw[←ea]
   exact congrArg (λz=>[V.ref z,V.ref d2.a]) (show a=_ from(sy r (fM (sd r w h)) (.mk a b 0 0 (.pane p) d2.w d2.h [])).symm)
  have t6:=(t5.and (bM σ4 (.list (refs [(D.mk a b 0 0 (.pane p) d2.w d2.h []).set r (fM (sd r w h)),d2])))).perm (Y':=(σ4.length,.list (refs [(D.mk a b 0 0 (.pane p) d2.w d2.h []).set r (fM (sd r w h)),d2]))::bO [(D.mk a b 0 0 (.pane p) d2.w d2.h []).set r (fM (sd r w h)),d2]) (.refl _) (.cons _ (by rw[FW];exact .refl _))
  refine oR λk H=>okC (gC ?_)
  refine okC (n:=m+3) (g:=cI) (args:=[.str (L.K.box r).n,.ref σ4.length]) (σ:=σ4++[O.list [.ref a,.ref d1.a]]) ?_
  rw[e5]
  refine(f0 (X:=[]) t6 ⟨aj _,.nil⟩ (by exact bw _ _) (show 2≤99 by decide) λd' σ5 et t7=>H _ _ (okR (K d2.t rs d' σ5 ?_ t7)))
  refine et.trans (congrArg (λz=>ofT r [z,d2.t]) ?_)
  rw[sb,ja,t_w,t_h]
  rfl
end
noncomputable def tR(n:Nat):Nat:=if n≤1 then 1 else if n≤4 then 2 else 3
noncomputable def tC(n:Nat):Nat:=if n≤2 then 1 else 2
noncomputable def qw(w:Int)(c:Nat):Int:=max 1 ((w-((c:Int)-1))/c)
noncomputable def mC(w:Int)(c:Nat):Int:=max w ((c:Int)*(1+1)-1)
noncomputable def chunk(ps:List Int)(c k:Nat):List Int:=(ps.drop (c*k)).take c
noncomputable def qk(e h W:Int)(ps:List Int):List T:=(ps.dropLast.map λp=>T.mk (.pane p) e h [])++(ps.getLast?.toList.map λp=>T.mk (.pane p) (W-(e+1)*((ps.length:Int)-1)) h [])
noncomputable def kl(w h:Int)(ps:List Int):T :=
 ofT false ((List.range' 0 (tR ps.length)).map λk=>ofT true (qk (qw w (tC ps.length)) (share (whole h (tR ps.length)) (tR ps.length) k) (mC w (tC ps.length)) (chunk ps (tC ps.length) k)))
theorem Je{β:Type}{F:FT}{a b c d:E}{le:Le}{σ σ':H}{k:List V→Gd→H→Option β}{Q:β→Prop}{x j m l:Nat}{i1 i2 i3:Int}{xs ys:List V}(h:∀k:V→H→Option β,Ok (k (.ref x) σ') Q→Ok (evK F a le σ k) Q)
  (hb:∀k:V→H→Option β,evK F b le σ' k=k (.int i1) σ') (hc:∀k:V→H→Option β,evK F c le σ' k=k (.int i2) σ') (hd:∀k:V→H→Option β,evK F d le σ' k=k (.int i3) σ') (hr:ce i1 i2 i3=some ys) (hx:bJ σ' x=some xs)
  (g:Ok (k (gN xs ys) [(x,xs)] σ') Q):Ok (fz F (.zipR a b c d) le σ k) Q:=by
 refine h _ ?_
 show Ok (evK F b le σ' _) Q
 rw[hb]
 show Ok (evK F c le σ' _) Q
 rw[hc]
 show Ok (evK F d le σ' _) Q
 rw[hd]
 exact c7 (o:=ce i1 i2 i3) hr (okL hx g)
theorem oW{β:Type}{F:FT}{c:E}{A rest:List S}{le:Le}{σ:H}{K:Fl→Le→H→Option β}{Q:β→Prop}(h:Ok (mD (λle σ=>evK F c le σ λv σ=>(b6 v).bind λb=>some (b,σ)) (λle σ=>bT F A le σ gv) wfuel le σ) λy=>Ok (nxt F rest K y.1 y.2.1 y.2.2) Q):Ok (bT F (.whl c A::rest) le σ K) Q:=okB h
noncomputable def ws(n i:Nat):Nat×Nat:=if i=0 then(1,1) else if i=1 then(2,tC n) else(3,2)
noncomputable def wk(n i:Nat):Bool:=i==0||(i==1&&decide (2≤n))||(i==2&&decide (5≤n))
theorem B4:∀n<6,∀m<3,wk n (2-m)=true→n≤(ws n (2-m)).1*(ws n (2-m)).2→(ws n (2-m)).1=tR n∧(ws n (2-m)).2=tC n:=by decide
theorem EY:∀n<6,∀m<3,wk n (2-m)=true→(ws n (2-m)).1*(ws n (2-m)).2<n→1≤m∧wk n (2-(m-1))=true:=by decide
theorem EX:∀n<6,∀m<3,wk n (2-m)=true→(ws n (2-m)).1*(ws n (2-m)).2<n→(ws n (2-(m-1))).1=(ws n (2-m)).1+1∧(ws n (2-(m-1))).2=(ws n (2-m)).2+(if((ws n (2-m)).1+1)*(ws n (2-m)).2<n then 1 else 0):=by decide
theorem GY:∀n<6,∀m<3,(ws n (2-m)).1≤3∧(ws n (2-m)).2≤3:=by decide
noncomputable def leT(pa:Nat)(w h:Int)(r c:Nat):Le:=some (.ref pa)::some (.int w)::some (.int h)::some (.int r)::some (.int c)::nn 13
section
variable{σ:H}
theorem Ca{m:Nat}{Q:V×H→Prop}{pa:Nat}{ps:List Int}{w h:Int}(hp:bJ σ pa=some (ps.map .int))(h1:1≤ps.length)(h5:ps.length≤5)
  (K:Ok (bT (cf (m+2)) (eC.body.drop 2) (leT pa w h (tR ps.length) (tC ps.length)) σ dt) Q):Ok (cf (m+3) iG [.ref pa,.int w,.int h] σ) Q:=by
 refine okF (le:=some (.ref pa)::some (.int w)::some (.int h)::nn 15) rfl rfl ?_
 refine oT λk H=>H (.tup [.int 1,.int 1]) _ σ rfl ?_
 refine oW (zU (S:=Nat×Nat) (λs=>leT pa w h s.1 s.2) (λm s σ'=>σ'=σ∧m<3∧s=ws ps.length (2-m)∧wk ps.length (2-m)=true) ?_ (m:=2) (s:=(1,1)) ⟨rfl,Nat.lt_succ_self 2,rfl,rfl⟩ (by decide))
 intro m s σ1 hI R K1 K2
 have hp:=hI.1.symm▸hp
 have e:=hI.2.2.1
 have b:=GY _ (Nat.lt_succ_of_le h5) _ hI.2.1
 have sx:=B4 _ (Nat.lt_succ_of_le h5) _ hI.2.1 hI.2.2.2
 have s1:=EY _ (Nat.lt_succ_of_le h5) _ hI.2.1 hI.2.2.2
 have s2:=EX _ (Nat.lt_succ_of_le h5) _ hI.2.1 hI.2.2.2
 rw[←e] at b sx s1 s2
 refine sJ (a:=(s.1:Int)) (b:=(s.2:Int)) (x:=(s.1:Int)*s.2) ?_ ?_
 ·exact f4 (ae b.1 (by decide)) (ae b.2 (by decide))
 refine fG hp ?_
 rw[ah]
 cases ec:decide ((s.1:Int)*s.2<(ps.length:Int)) with
 | false =>
  refine okR ?_
  rw[show icmp COp.lt ((s.1:Int)*s.2) (ps.length:Int)=false from ec]
  have sx:=sx (aO.mp (bx.mp (of_decide_eq_false ec)))
  refine K2 _ ?_
  rw[hI.1,sx.1,sx.2]
  exact K
 | true =>
  have ec':=aP.mp (bA ec:((s.1*s.2:Nat):Int)<ps.length)
  have s1:=s1 ec'
  have s2:=s2 ec'
  refine okR ?_
  rw[show icmp COp.lt ((s.1:Int)*s.2) (ps.length:Int)=true from ec]
  refine K1 _ λR2 K3=> ?_
  have go:∀c,(ws ps.length (2-(m-1))).2=c→R2 (.next,leT pa w h (s.1+1) c,σ1):=λc q=>K3 (m-1) (s.1+1,c) σ1 (Nat.sub_lt s1.1 Nat.one_pos) ⟨hI.1,ax (Nat.sub_le m 1) hI.2.1,Prod.ext s2.1.symm q.symm,s1.2⟩
  refine sJ (a:=(s.1:Int)+1) (b:=(s.2:Int)) (x:=((s.1:Int)+1)*s.2) ?_ (fG hp ?_)
  ·exact f4 (ae (aA b.1) (show 4≤1000 by decide)) (ae b.2 (by decide))
  rw[ah]
  refine fB (λq=>okR (go (s.2+1) ?_)) λq=>okR (go s.2 ?_)
  ·rw[s2.2,if_pos (aP.mp (bA q:(((s.1+1)*s.2:Nat):Int)<ps.length))]
  ·rw[s2.2,if_neg λq'=>of_decide_eq_false q (aP.mpr q':(((s.1+1)*s.2:Nat):Int)<ps.length),Nat.add_zero]
end
theorem nmin(a b:Nat):((min a b:Nat):Int)=min (a:Int) (b:Int):=(Nat.le_total a b).elim (λh=>by rw[Nat.min_eq_left h,Int.min_eq_left (aO.mpr h)]) λh=>by rw[Nat.min_eq_right h,Int.min_eq_right (aO.mpr h)]
theorem DS{l:List V}{a c:Nat}{i j:Int}(hi:i=(a:Int))(hj:j=(a:Int)+(c:Int))(h:a≤l.length):cut l (.int i) (.int j)=some ((l.drop a).take c):=by
 have e1:clip l.length i=a:=rR hi h
 have e2:clip l.length j=min (a+c) l.length:=by
  subst hj
  rw[clip,wrap,←Int.natCast_add,if_neg (bx.mpr (aC (a+c))),←nmin,Int.max_eq_right (aC _),bg]
 show some ((l.drop (clip l.length i)).take (clip l.length j-clip l.length i))=_
 rw[e1,e2,List.take_eq_take_iff.mpr]
 rw[List.length_drop,←Nat.sub_min_sub_right,Nat.add_sub_cancel_left,Nat.min_assoc,Nat.min_self]
theorem oSA{β:Type}{F:FT}{o e:E}{c f:Nat}{rest:List S}{le:Le}{σ:H}{K:Fl→Le→H→Option β}{Q:β→Prop}(h:∀k:V→H→Option β,(∀v σ',(∀k2:V→H→Option β,(∀a fs σ2,cC σ2 c a=some fs→f<fs.length→Ok (bT F rest le (σ2.set a (.inst c (fs.set f v))) K) Q→Ok (k2 (.ref a) σ2) Q)→Ok (evK F o le σ' k2) Q)→Ok (k v σ') Q)→Ok (evK F e le σ k) Q):Ok (bT F (.setA o c f e::rest) le σ K) Q :=
 h _ λv σ' g=>g _ λa fs σ2 hi hl x=>okI hi (okG hl x)
noncomputable def rH:S→List S
 | .forr _ _ b=>b
 | _=>[]
noncomputable def HU(pa pl:Nat)(w h e W s i:Int)(r c:Nat)(u10 u11:Option V):Le:=some (.ref pa)::some (.int w)::some (.int h)::some (.int r)::some (.int c)::some (.int e)::some (.int W)::some (.ref pl)::some (.int s)::some (.int i)::u10::u11::nn 6
theorem zk{l0:List D}{dl:D}{r:Bool}{v:Int}{σ σ':H}(pl:Nat)(ts:Tr [cell dl] σ [cell (dl.set r v)] σ'):Tr ((pl,.list (refs (l0++[dl])))::bO (l0++[dl])) σ ((pl,.list (refs (l0++[dl.set r v])))::bO (l0++[dl.set r v])) σ':=by
 rw[dZ,dZ,dC,dC,rf,rf,sy]
 exact(((ii ts).fr []).le (bO l0)).le [(pl,_)]
theorem Df{l0:List D}{dl:D}{q:List Int}{e s W:Int}(et:tL (l0++[dl])=q.map λp=>T.mk (.pane p) e s []):tL (l0++[dl.set true (W-(e+1)*((q.length:Int)-1))])=qk e s W q:=by
 rcases List.eq_nil_or_concat q with rfl|⟨q0,a,rfl⟩
 ·rw[gb] at et
  exact absurd et (List.append_ne_nil_of_right_ne_nil _ (bw _ _))
 ·rw[List.concat_eq_append] at et⊢
  rw[gb,au] at et
  obtain⟨h1,h2⟩:=List.append_inj' et rfl
  rw[gb,h1,qk,List.dropLast_concat,List.getLast?_concat]
  exact congrArg (λz=>_++[z]) ((sb true _ dl).trans (by rw[(List.cons.inj h2).1];rfl))
section
variable{σ:H}
theorem GX{m:Nat}{F:FT}{e:E}{p:Pat}{le:Le}{k:V→H→Option (V×H)}{Q:V×H→Prop}:True:=trivial
theorem xj{m:Nat}{Q:Fl×Le×H→Prop}{pa pl sl:Nat}{X:List (Nat×O)}{ps:List Int}{ls:List D}{w h e W s i:Int}{r c k:Nat}{u10 u11:Option V}{ys:List V}(hp:bJ σ pa=some (ps.map .int))(hi:i=((c*k:Nat):Int))(hk:c*k≤ps.length)(hc:chunk ps c k≠[])(h5:ps.length≤90)(he:(e+1).natAbs≤1000)(hls:ls.length≤90)(o:Own σ ((pl,.list (refs ls))::X))
  (K:∀d σ' v10 v11,d.t=ofT true (qk e s W (chunk ps c k))→New σ (objs d) σ'→Q (.next,HU pa pl w h e W s i r c (some v10) (some v11),σ'.set pl (.list (refs ls++[rf d])))) :
  Ok (bT (cf (m+2)) (rH ((eC.body.drop 5).headD .fail)) (HU pa pl w h e W s i r c u10 u11) σ gv) Q:=by
 refine oA λk' H=>okL hp (c7 (DS hi (by rw[hi]) (by rw[ah];exact hk)) ?_)
 have ec:((ps.map V.int).drop (c*k)).take c=(chunk ps c k).map V.int:=by rw[chunk,List.map_take,List.map_drop]
 refine zW ec (H _ _ ?_)
 have lc:=bH (bK (bM σ (.list ((chunk ps c k).map V.int))))
 have hcl:(chunk ps c k).length≤90:=ae (List.length_take_le' _ _) (ae (by rw[List.length_drop];exact Nat.sub_le _ _) h5)
 refine oA λk' H=>FS rfl (rB (λk=>rfl) lc (okB (wu (S:=Option V) (λq=>some (.ref pa)::some (.int w)::some (.int h)::some (.int r)::some (.int c)::some (.int e)::some (.int W)::some (.ref pl)::some (.int s)::some (.int i)::some (.ref σ.length)::u11::q::nn 5)
  (λq todo acc σ'=>∀G:Prop,(∀l:List D,acc=refs l→New (σ++[.list ((chunk ps c k).map V.int)]) (bO l) σ'→tL l++todo.map (λp=>T.mk (.pane p) e s [])=(chunk ps c k).map (λp=>T.mk (.pane p) e s [])→G)→G) ?_ ?_ (s:=none) λG k=>k [] rfl .rfl rfl)))
 ·refine λq x xs acc σ1 hI=>⟨_,rfl,λR K1=>hI _ λl ea t et=>okC (iz λa b σ2 t2=>okR (K1 _ _ _ (ai.mpr (bQ (bL ((bI t).trans (bI t2)) lc))) rfl λG k=>k (l++[.mk a b 0 0 (.pane x) e s []]) (by rw[dZ,ea];rfl) ((t.and t2).perm (.refl _) (gR _ _).symm) ?_))⟩
  rw[gb,af]
  exact et
 ·refine λq acc σ1 hI=>hI _ λl ea t et=> ?_
  have et:=(aw _).symm.trans et
  have hll:l.length=(chunk ps c k).length:=by have:=congrArg List.length et;rwa [gO,ah] at this
  rw[ea]
  refine okG (by show(refs l).length≤lim;rw[bV,hll];exact ae hcl (by decide)) (H _ _ ?_)
  rcases List.eq_nil_or_concat l with rfl|⟨l0,dl,rfl⟩
  ·exact absurd (List.eq_nil_of_length_eq_zero hll.symm) hc
  rw[List.concat_eq_append] at t et hll⊢
  have t1:=(bI (bM σ (.list ((chunk ps c k).map V.int)))).trans (t.and (bM σ1 (.list (refs (l0++[dl])))))
  have lg:bJ _ σ1.length=some (refs l0++V.ref dl.a::[]):=(bH (bK t1)).trans (congrArg some (dZ l0 dl))
  have lc2:=bL ((bI t).trans (bI (bM σ1 (.list (refs (l0++[dl])))))) lc
  have od:=eK (b7 (X:=bO l0) ((dC l0 [dl])▸b7 (X:=[(σ1.length,_)]) (bP t1)))
  refine oSA λk' H=>fG lc2 ?_
  rw[ah]
  refine sJ (a:=e+1) (b:=((chunk ps c k).length:Int)-1) (x:=(e+1)*(((chunk ps c k).length:Int)-1)) ?_ ?_
  ·exact f4 he (by lia)
  refine H (.int (W-(e+1)*(((chunk ps c k).length:Int)-1))) _ λk2 H2=>okX (f7 lg rfl) (H2 dl.a _ _ (cq od).c (Nat.le_of_ble_eq_true rfl) ?_)
  have ts:Tr [cell dl] (σ1++[O.list (refs (l0++[dl]))]) [cell (dl.set true (W-(e+1)*(((chunk ps c k).length:Int)-1)))] ((σ1++[O.list (refs (l0++[dl]))]).set dl.a (.inst 0 ((flds dl).set 1 (.int (W-(e+1)*(((chunk ps c k).length:Int)-1)))))):=by
   cases dl
   exact dm
  have t2:=t1.trans (zk σ1.length ts)
  generalize(σ1++[O.list (refs (l0++[dl]))]).set dl.a _=σ3 at t2⊢
  have lpl:=bH (o.1 (pl,_) (.head _))
  refine oE λk' H=>okG (rcv (bL (bI t2) lpl)) (okC (f0 (r:=true) (X:=[]) t2 ⟨aj _,.nil⟩ (by simp) (by rw[aa] at hll⊢;exact ae (aZ hll) (ae hcl (by decide))) λd' σ4 ed t4=>okL (bL (bI t4) lpl) (okG ?_ (H _ _ (okR (K d' σ4 _ _ ?_ t4))))))
  ·rw[bV]
   exact ax hls (by decide)
  ·exact ed.trans (congrArg (ofT true) (Df et))
end
theorem B0{β:Type}{F:FT}{b c d:E}{le:Le}{σ:H}{k:List V→Gd→H→Option β}{Q:β→Prop}{x:Nat}{i1 i2 i3:Int}{xs ys:List V}
  (hb:∀k:V→H→Option β,evK F b le σ k=k (.int i1) σ) (hc:∀k:V→H→Option β,evK F c le σ k=k (.int i2) σ) (hd:∀k:V→H→Option β,evK F d le σ k=k (.int i3) σ) (hr:ce i1 i2 i3=some ys) (hx:bJ σ x=some xs)
  (g:Ok (k (gN xs ys) [(x,xs)] σ) Q):Ok (evK F b le σ λy σ=>evK F c le σ λz σ=>evK F d le σ λu σ=>intz y z λj m=>(b9 u).bind λl=>(ce j m l).bind λys=>onL σ (.ref x) λi xs=>k (gN xs ys) [(i,xs)] σ) Q:=by
 rw[hb,hc,hd]
 exact c7 (o:=ce i1 i2 i3) hr (okL hx g)
theorem G7:∀n<6,∀k<tR n,1≤n→tC n*k<n:=by decide
theorem G4:∀n<6,PySem.Builtin.Range.rangeSize 0 ((tR n:Int)*(tC n:Int)) (tC n:Int)=(tR n:Int):=by decide
theorem G8:∀n<6,(-5000≤(tR n:Int)*(tC n:Int)∧(tR n:Int)*(tC n:Int)≤5000)∧(tC n:Int)≠0∧(-5000≤(tC n:Int)∧(tC n:Int)≤5000)∧tR n≤5000:=by decide
theorem G6:∀n<6,tR n≤3∧tC n≤2∧1≤tC n∧1≤tR n:=by decide
theorem B1(h:Int)(R C:Nat):gN ((shares h R).map V.int) ((List.range' 0 R).map λ(k:Nat)=>V.int (0+(C:Int)*(k:Int)))=(List.range' 0 R).map λ(k:Nat)=>V.tup [.int (share (whole h R) R k),.int (0+(C:Int)*(k:Int))]:=by
 rw[gN,shares,aY,List.zip_map',aY]
 rfl
section
variable{σ:H}
theorem yN{m n:Nat}{Q:V×H→Prop}{pa:Nat}{ps:List Int}{w h:Int}(hn:ps.length=n)(hp:bJ σ pa=some (ps.map .int))(h1:1≤n)(h5:n<6)(he:(qw w (tC n)+1).natAbs≤1000)
  (K:∀d' σ',d'.t=kl w h ps→New σ (objs d') σ'→Q (.ref d'.a,σ')):Ok (bT (cf (m+2)) (eC.body.drop 2) (leT pa w h (tR n) (tC n)) σ dt) Q:=by
 have hb:=G6 n h5
 have bd:=G8 n h5
 have cp:(0:Int)<(tC n:Int)∧(tC n:Int)<1073741824:=⟨aP.mpr hb.2.2.1,aP.mpr (ax hb.2.1 (by decide))⟩
 refine oA λk H=> ?_
 refine sJ (a:=w-((tC n:Int)-1)) (b:=(tC n:Int)) (fR cp) ?_
 refine H (.int (qw w (tC n))) _ ?_
 refine oA λk H=> ?_
 refine sJ (a:=(tC n:Int)) (b:=1+1) (x:=(tC n:Int)*(1+1)) ?_ ?_
 ·exact f4 (a:=(tC n:Int)) (ae hb.2.1 (show 2≤1000 by decide)) (show 2≤1000 by decide)
 refine H (.int (mC w (tC n))) _ ?_
 refine oA λk H=>H (.ref σ.length) (σ++[O.list []]) ?_
 refine oFo λk H=>okC (mV hb.2.2.2 (ae hb.1 (by decide)) λsa σ2 t2=> ?_)
 refine B0 (i1:=0) (i2:=(tR n:Int)*(tC n:Int)) (i3:=(tC n:Int)) (λk=>rfl) (λk=> ?_) (λk=>rfl) (ng ⟨by decide,by decide⟩ bd.1 bd.2.1 bd.2.2.1 (G4 n h5) bd.2.2.2) (bH (bK t2)) (H _ _ _ ?_)
 ·show(iop .mul (tR n:Int) (tC n:Int)).bind _=_
  rw[f4 (ae hb.1 (by decide)) (ae hb.2.1 (by decide))]
  rfl
 have t0:=((bM σ (.list [])).and t2).perm (.refl _) (ba (l₁:=[(_,_)]))
 refine ir (B1 h (tR n) (tC n)) (dq (S:=((Option V×Option V)×(Option V×Option V))×List D) (λs=>some (.ref pa)::some (.int w)::some (.int h)::some (.int (tR n))::some (.int (tC n))::some (.int (qw w (tC n)))::some (.int (mC w (tC n)))::some (.ref σ.length)::s.1.1.1::s.1.1.2::s.1.2.1::s.1.2.2::nn 6)
  (λs todo σ'=>∀G:Prop,(New σ ((σ.length,.list (refs s.2))::(bO s.2++[(sa,O.list ((shares h (tR n)).map .int))])) σ'→tL s.2++todo.map (λk=>ofT true (qk (qw w (tC n)) (share (whole h (tR n)) (tR n) k) (mC w (tC n)) (chunk ps (tC n) k)))=(List.range' 0 (tR n)).map (λk=>ofT true (qk (qw w (tC n)) (share (whole h (tR n)) (tR n) k) (mC w (tC n)) (chunk ps (tC n) k)))→(∀k∈todo,k<tR n)→G)→G) ?_ ?_ (s:=(((none,none),(none,none)),[])) λG k=>k t0 rfl λk m=>by have:=List.mem_range'_1.mp m;lia)
 ·refine λs x xs σ3 hI=>⟨_,rfl,λR K1 _=>hI _ λt e hk=> ?_⟩
  have ix:=G7 n h5 x (hk x (.head _)) h1
  have hl:s.2.length≤90:=by
   have:=congrArg List.length e
   rw[aa,ah,ah,gO,List.length_range'] at this
   lia
  refine xj (k:=x) (c:=tC n) (sl:=0) (ys:=[]) (X:=bO s.2++[(sa,O.list ((shares h (tR n)).map .int))]) (bL (bI t) hp) (by rw[Int.zero_add];rfl) (by rw[hn];exact bh ix) (λq=> ?_) (by rw[hn];exact ae (Nat.le_of_lt_succ h5) (by decide)) he hl (bP t) λd σ4 v10 v11 ed t4=>K1 (((some (.int (share (whole h (tR n)) (tR n) x)),some (.int (0+(tC n:Int)*(x:Int)))),(some v10,some v11)),s.2++[d]) _ ?_ λG k=>k (nr rfl t t4) ?_ λk m=>hk k (.tail _ m)
  ·rcases List.take_eq_nil_iff.mp q with q|q
   ·exact absurd q (Nat.ne_of_gt hb.2.2.1)
   ·exact absurd (List.drop_eq_nil_iff.mp q) (Nat.not_le_of_lt (hn.symm▸ix))
  ·exact ai.mpr ((bP (nr rfl t t4)).1 (sa,_) (.tail _ (ay _ (.head _))))
  ·rw[gb,af,show tL [d]=[d.t] from rfl,ed]
   exact e
 ·refine λs σ3 hI=>hI _ λt e _=> ?_
  have e:=(aw _).symm.trans e
  refine oR λk H=>okC (f0 (r:=false) (X:=[]) (t.dl (Y:=(σ.length,.list (refs s.2))::bO s.2) (Z:=[(sa,_)])) ⟨aj _,.nil⟩ (λq=> ?_) ?_ λd' σ4 et t4=>H _ _ (okR (K d' σ4 (et.trans (by rw[e,kl,hn])) t4)))
  ·have:=congrArg List.length e
   rw[q,ah,List.length_range'] at this
   exact absurd hb.2.2.2 (by rw[←this];exact Nat.not_succ_le_zero 0)
  ·have:=congrArg List.length e
   rw[gO,ah,List.length_range'] at this
   rw[this]
   exact ae hb.1 (by decide)
end
noncomputable def qh(r:Bool)(p:Int)(qs:List Int)(t:T):Prop:=if qs=[] then t= .mk (.pane p) 12 8 [] else∃t',Res r (cM r (sd r 12 8) (cW (!r) 12 8 qs)) (cW (!r) 12 8 qs) t'∧t=ofT r [ja r (sd r 12 8) p t',t']
noncomputable def nmT:Nat→Int→List Int→T→Prop
 | 0,p,qs,t=>t=cW true 12 8 (p::qs)
 | 1,p,qs,t=>t=cW false 12 8 (p::qs)
 | 2,p,qs,t=>qh false p qs t
 | 3,p,qs,t=>qh true p qs t
 | _,p,qs,t=>t=kl 12 8 (p::qs)
theorem HJ:∀i<5,[3,4,5,6,7].contains (i+3)=true∧(3≤i+3∧i+3≤7):=by decide
theorem IM(i:Nat){p:Int}{qs:List Int}{t:T}(h:i+3=7)(e:t=kl 12 8 (p::qs)):nmT i p qs t:=by
 cases Nat.add_right_cancel (h:i+3=4+3)
 exact e
theorem IN(i:Nat){p:Int}{qs:List Int}{t:T}(h:(i+3==3||i+3==4)=true)(e:t=cW (i+3==3) 12 8 (p::qs)):nmT i p qs t:=by
 rcases Bool.or_eq_true_iff.mp h with h|h
 ·cases Nat.add_right_cancel (bD h:i+3=0+3)
  exact e
 ·cases Nat.add_right_cancel (bD h:i+3=1+3)
  exact e
theorem i5:∀i<5,i=0∨i=1∨i=2∨i=3∨i=4:=by decide
theorem HI(i:Nat){p:Int}{qs:List Int}{t:T}(h:(i+3==7)=false)(h2:(i+3==3||i+3==4)=false)(hi:i<5)(e:qh (i+3==6) p qs t):nmT i p qs t:=by
 rcases i5 i hi with rfl|rfl|rfl|rfl|rfl
 ·exact Bool.noConfusion h2
 ·exact Bool.noConfusion h2
 ·exact e
 ·exact e
 ·exact Bool.noConfusion h
section
variable{σ:H}
theorem xK{m i:Nat}{Q:V×H→Prop}{pa:Nat}{p:Int}{qs:List Int}(hi:i<5)(hp:bJ σ pa=some ((p::qs).map .int))(h5:qs.length≤4)(hm:91≤m∧m+2≤99)
  (wf:∀r,qs≠[]→WF (cW r 12 8 qs)) (hn:∀r,(names (cW r 12 8 qs)).length≤91) (hc:∀r,qs≠[]→0≤room r (cW (!r) 12 8 qs)+cM r (sd r 12 8) (cW (!r) 12 8 qs)∧(cM r (sd r 12 8) (cW (!r) 12 8 qs)).natAbs<wfuel)
  (hdp:∀t,nmT i p qs t→Dp (m+4) t) (K:∀t,nmT i p qs t→∀d' σ',d'.t=t→Pl d' 0 0→New σ (objs d') σ'→Q (.ref d'.a,σ')) :
  Ok (cf (m+5) iF [.str (i+3),.ref pa,.int 12,.int 8] σ) Q:=by
 have fin:∀{d:D} {σ1:H} {Q':V×H→Prop},(∀x,Q x→Q' x)→nmT i p qs d.t→New σ (objs d) σ1→Ok (cf (m+4) bW [.ref d.a,.int 0,.int 0] σ1) Q':=λ{d σ1 Q'} hq h t=>e9 (hdp _ h) (bP t) λd' σ2 ea et pl t2=>hq _ (ea▸K _ h d' σ2 et pl (t.trans t2))
 refine okF (le:=some (.str (i+3))::some (.ref pa)::some (.int 12)::some (.int 8)::some .none::nn 7) rfl rfl ?_
 have hk:=HJ i hi
 refine oIr λk H=>nC (b:= ![3,4,5,6,7].contains (i+3)) (b':=false) (by rw[hk.1];rfl) (H _ _ (λe=>Bool.noConfusion e) λ_=> ?_)
 have last:∀{d:D} {σ1:Mine.Internal.H},nmT i p qs d.t→New σ (objs d) σ1→Ok (bT (cf (m+4)) (hU.body.drop 2) (some (.str (i+3))::some (.ref pa)::some (.int 12)::some (.int 8)::some .none::some (.ref d.a)::nn 6) σ1 dt) Q:=λ{d σ1} h t=>by
  refine oR λk H=> ?_
  exact okC (fin (λx hx=>H x.1 x.2 (okR hx)) h t)
 refine oIf λk H=>H (i+3==7) _ (λe=> ?_) λe=> ?_
 ·refine oA λk H=>okC (Ca hp (aA (bu _)) (aA h5) (yN rfl hp (aA (bu _)) (Nat.succ_lt_succ (Nat.lt_succ_of_le h5)) (by rw[tC];split <;> decide) λd σ1 et t=>H _ _ (oN (last (IM i (bD e) et) t))))
 ·refine oIf λk H=>okG hk.2 (H (i+3==3||i+3==4) _ (λe2=> ?_) λe2=> ?_)
  ·refine oA λk H=>okC (tE hp (aA (bu _)) (aA (ae h5 (by decide))) λd σ1 et t=>H _ _ (oN (oN (last (IN i e2 et) t))))
  ·refine oA λk H=>okC (Al hp (ae h5 (by decide)) hm (by cases(i+3==6) <;> decide) (wf _) (hn _) (hc _) (λq d σ1 et t=>H _ _ (oN (oN (last (HI i e e2 hi ((if_pos q).mpr et)) t)))) λq t' rs d σ1 et t=>H _ _ (oN (oN (last (HI i e e2 hi ((if_neg q).mpr ⟨t',rs,et⟩)) t))))
end
noncomputable def D.sp(d:D)(p:Int):D:= .mk d.a d.b d.x d.y (.pane p) d.w d.h d.ps
noncomputable def kb(k:K):Option Bool:=match k with
 | .pane _=>none
 | .box r=>some r
structure Rn(d:D)(ns:List Int)(d':D):Prop where
 a:d'.a=d.a
 w:d'.w=d.w
 h:d'.h=d.h
 k:kb d'.k=kb d.k
 v:lv d'=List.zipWith D.sp (lv d) ns
 ob:∃R,(objs d).Perm ((lv d).map cell++R)∧(objs d').Perm ((lv d').map cell++R)
 wf:WF d.t→WF d'.t
 pl:∀x y,Pl d x y→Pl d' x y
structure RnL(ds:List D)(ns:List Int)(ds':List D):Prop where
 a:refs ds'=refs ds
 s:∀r,(tL ds').map (T.sd r)=(tL ds).map (T.sd r)
 k:(ds'.map λd=>kb d.k)=ds.map λd=>kb d.k
 v:lvL ds'=List.zipWith D.sp (lvL ds) ns
 ob:∃R,(bO ds).Perm ((lvL ds).map cell++R)∧(bO ds').Perm ((lvL ds').map cell++R)
 wf:(∀t∈tL ds,WF t)→∀t∈tL ds',WF t
 pl:∀r x y,PlL r ds x y→PlL r ds' x y
theorem yz{α β γ:Type}(f:α→β→γ){a b:List α}{m n:List β}(h:a.length=m.length):List.zipWith f (a++b) (m++n)=List.zipWith f a m++List.zipWith f b n:=List.zipWith_append h
theorem cc{α:Type}{a b:α}{l m:List α}(h:a=b)(k:l=m):a::l=b::m:=by rw[h,k]
theorem EB{α:Type}(A R B S:List α):((A++R)++(B++S)).Perm ((A++B)++(R++S)):=by
 rw[af,af]
 exact eM 4 [A,B,R,S] [0,2,1,3] (by decide) rfl
theorem Cu{d d':D}{ds ds':List D}{m n:List Int}(h1:Rn d m d')(h2:RnL ds n ds')(hl:(lv d).length=m.length):RnL (d::ds) (m++n) (d'::ds') where
 a:=cc (congrArg V.ref h1.a) h2.a
 s:=λr=>cc (by rw[fA,fA,D.sd,D.sd,h1.w,h1.h]) (h2.s r)
 k:=cc h1.k h2.k
 v:=(congr (congrArg _ h1.v) h2.v).trans (yz _ hl).symm
 ob:=by
  obtain⟨R1,p1,q1⟩:=h1.ob
  obtain⟨R2,p2,q2⟩:=h2.ob
  refine⟨R1++R2,?_,?_⟩
  ·exact(p1.append p2).trans ((EB _ _ _ _).trans (by rw[show lvL (d::ds)=lv d++lvL ds from rfl,au]))
  ·exact(q1.append q2).trans ((EB _ _ _ _).trans (by rw[show lvL (d'::ds')=lv d'++lvL ds' from rfl,au]))
 wf:=λw=>ao.mpr ⟨h1.wf (w _ (.head _)),h2.wf λt m=>w t (.tail _ m)⟩
 pl:=λr x y p=>⟨h1.pl x y p.1,by rw[h1.w,h1.h];exact h2.pl r _ _ p.2⟩
theorem nZ{α β:Type}{f g:α→β}{l m:List α}(h:l.map f=m.map g){P:β→Prop}(k:∀x∈m,P (g x)):∀x∈l,P (f x):=λx mx=>by
 obtain⟨y,my,e⟩:=bb.mp (h▸aK (f:=f) mx)
 exact e▸k y my
theorem Gl{k:K}{r:Bool}(h:kb k=some r):k= .box r:=by
 cases k with
 | pane=>exact nomatch h
 | box q=>exact congrArg K.box (Option.some.inj h)
theorem Hj(d:D):∀ns:List Int,ns.length=(lv d).length→∃d',Rn d ns d':=by
 induction d using D.ind with
 | H a b x y k w h ps ih =>
  intro ns hl
  cases k with
  | pane p =>
   match ns,hl with
   | [n],_ =>
    refine⟨.mk a b x y (.pane n) w h ps,rfl,rfl,rfl,rfl,rfl,⟨(b,.list (refs ps))::bO ps,.refl _,.refl _⟩,λwf=>pB wf rfl λh1 h2 h3=> .pane rfl h1 h2 h3,λ_ _ p=>p⟩
  | box r =>
   have go:∀l:List D,(∀d∈l,d∈ps)→∀ns:List Int,ns.length=(lvL l).length→∃l',RnL l ns l':=by
    intro l
    induction l with
    | nil=>exact λ_ ns hl=>⟨[],rfl,λ_=>rfl,rfl,by cases ns;rfl;rfl,⟨[],.refl _,.refl _⟩,λw=>w,λ_ _ _ p=>p⟩
    | cons c cs ih2 =>
     intro m ns hl
     have hl:ns.length=(lv c++lvL cs).length:=hl
     rw[aa] at hl
     have l1:(ns.take (lv c).length).length=(lv c).length:=by rw[List.length_take,hl];exact Nat.min_eq_left (az _ _)
     obtain⟨c',h1⟩:=ih c (m c (.head _)) _ l1
     obtain⟨cs',h2⟩:=ih2 (λd md=>m d (.tail _ md)) (ns.drop (lv c).length) (by rw[List.length_drop,hl,Nat.add_sub_cancel_left])
     exact⟨c'::cs',List.take_append_drop (lv c).length ns▸Cu h1 h2 l1.symm⟩
   obtain⟨l',q⟩:=go ps (λ_ m=>m) ns hl
   obtain⟨R,p1,p2⟩:=q.ob
   refine⟨.mk a b x y (.box r) w h l',rfl,rfl,rfl,rfl,q.v,⟨(a,.inst 0 (flds (.mk a b x y (.box r) w h ps)))::(b,.list (refs ps))::R,?_,?_⟩,λwf=> ?_,λx y p=>⟨p.1,q.pl r x y p.2⟩⟩
   ·exact((p1.cons _).cons _).trans (pm [_,_] _ R)
   ·show((a,O.inst 0 (flds (.mk a b x y (.box r) w h ps)))::(b,.list (refs l'))::bO l').Perm _
    rw[q.a]
    exact((p2.cons _).cons _).trans (pm [_,_] _ R)
   ·refine jK wf rfl λh1 h2 h3 h4 h5=> .box rfl ?_ (q.wf h2) (nZ (q.s (!r)) (P:=λz=>z=sd (!r) w h) h3) ?_ ?_
    ·have:=congrArg List.length (q.s r)
     rw[ah,ah] at this
     exact this.symm▸h1
    ·intro s ms e
     rw[show(D.mk a b x y (.box r) w h l').t.ps=l'.map D.t from eZ l'] at ms
     obtain⟨c,mc,rfl⟩:=bb.mp ms
     refine nZ (P:=λz=>z≠some r) q.k (λc' mc' e'=>h4 c'.t (show c'.t∈tL ps from eZ ps▸aK mc') ((t_k c').trans (Gl e'))) c mc ?_
     exact congrArg kb ((t_k c).symm.trans e)
    ·have:=congrArg List.length (q.s r)
     rw[ah,ah] at this
     show((tL l').map (T.sd r)).sum+(tL l').length-1=_
     rw[q.s r,this]
     exact h5
theorem B3(l:List D)(m:List Int):gN (refs l) (m.map V.int)=(l.zip m).map λp=>V.tup [rf p.1,.int p.2]:=by
 rw[gN,refs,List.zip_map,aY]
 rfl
theorem ET{α β γ:Type}(f:α→β→γ)(l:List α)(m:List β):List.zipWith f l m=(l.zip m).map λp=>f p.1 p.2:=by
 rw[List.zip,List.map_zipWith]
theorem Ck{e:D}{p:Int}(h:e.k= .pane e.k.p):(e.a,O.inst 0 ((flds e).set 6 (.int p)))=cell (e.sp p):=by
 have:e.k.n=0:=by rw[h];rfl
 show(e.a,O.inst 0 [.str e.k.n,.int e.w,.int e.h,.int e.x,.int e.y,.ref e.b,.int p])=_
 rw[this]
 rfl
theorem Ft(d:D){ns:List Int}(hl:ns.length=(lv d).length){G:Prop}(k:∀d',Rn d ns d'→∀R,(objs d).Perm ((lv d).map cell++R)→(objs d').Perm ((lv d').map cell++R)→G):G :=
 (Hj d ns hl).elim λd' r=>r.ob.elim λR p=>k d' r R p.1 p.2
section
variable{σ:H}{d:D}
theorem il{n:Nat}{Q:V×H→Prop}{na:Nat}{ns:List Int}(hd:Dp n d.t)(h:At σ d)(hn:bJ σ na=some (ns.map .int))(hl:ns.length=(lv d).length)(h9:ns.length≤99)
  (K:∀d1 d2 σ',d1.q=d.q→Rn d1 ns d2→New σ (objs d2) σ'→Q (.ref d2.a,σ')):Ok (cf (n+1) dw [.ref d.a,.ref na] σ) Q:=by
 refine okF (le:=some (.ref d.a)::some (.ref na)::nn 9) rfl rfl ?_
 refine oA λk H=>okC (iJ hd h λd1 σ1 q1 t1=>H _ _ ?_)
 have et:=ie q1
 have hl1:ns.length=(lv d1).length:=hl.trans (by rw[←ah (f:=λe:D=>e.k.p),cV,←et,←cV,ah])
 refine Ft d1 hl1 λd2 rn R p1 p2=> ?_
 have lvp:=λe me=>(qi d1 (bP t1).1 e me).2
 refine oFo λk H=>okC (fQ (et.symm▸hd) (bP t1).1 (hl1▸ae h9 (by decide)) λla σ2 t2=>okL (bH (bK t2)) (okL (bL ((bI t1).trans (bI t2)) hn) (H _ _ _ ?_)))
 have t3:=(t1.and t2).perm (.refl _) (p1.append_left _)
 refine ir (B3 _ _) (dq (S:=(Option V×Option V)×List D) (λs=>some (.ref d.a)::some (.ref na)::some (.ref d1.a)::s.1.1::s.1.2::nn 6)
  (λs todo σ'=>∀G:Prop,(New σ ([(la,O.list (refs (lv d1)))]++(s.2.map cell++((todo.map Prod.fst).map cell++R))) σ'→s.2++todo.map (λp=>p.1.sp p.2)=lv d2→(∀p∈todo,p.1.k= .pane p.1.k.p)→G)→G) ?_ ?_ (s:=((none,none),[])) λG k=>k (by rw[List.map_fst_zip (aZ hl1.symm)];exact t3) (by rw[rn.v,ET];rfl) λp m=>lvp p.1 (List.of_mem_zip m).1)
 ·refine λs x xs σ3 hI=>⟨_,rfl,λR1 K1 _=>hI _ λt e hk=>oSA λk H=>H (.int x.2) σ3 λk2 H2=> ?_⟩
  have o:=bP t
  refine H2 x.1.a (flds x.1) σ3 (bU ((b7 (b7 o)).1 (cell x.1) (.head _))) (Nat.le_of_ble_eq_true rfl) ?_
  have t4:=t.trans ((((dm (a:=x.1.a) (o:= .inst 0 (flds x.1)) (o':= .inst 0 ((flds x.1).set 6 (.int x.2)))).fr ((xs.map Prod.fst).map cell++R)).le (s.2.map cell)).le _)
  rw[Ck (hk x (.head _))] at t4
  refine okR (K1 ((some (rf x.1),some (.int x.2)),s.2++[x.1.sp x.2]) _ ?_ λG k=>k ?_ ((af _ _ _).trans e) λp m=>hk p (.tail _ m))
  ·have kk:=bI t4
   exact ao.mpr ⟨(bP t4).1 (la,_) (.head _),ai.mpr (bQ (bL kk hn))⟩
  ·rw[au,af]
   exact t4
 ·refine λs σ3 hI=>hI _ λt e _=>oR λk H=> ?_
  have e:=(aw _).symm.trans e
  rw[e] at t
  exact rn.a▸H _ _ (okR (K d1 d2 σ3 q1 rn ((t.dr).perm (.refl _) p2.symm)))
end
noncomputable def sw(a b p:Int):Int:=if p=a then b else if p=b then a else p
theorem dget(a b p:Int):((d8 b (V.int a) [(a,V.int b)]).lookup p).getD (.int p)= .int (sw a b p):=by
 rw[d8,d8]
 by_cases h:a=b
 ·subst h
  rw[if_pos (bC a),sw]
  by_cases q:p=a
  ·subst q
   rw[List.lookup_cons_self,if_pos rfl]
   rfl
  ·rw[if_neg q,if_neg q,List.lookup,show(p==a)=false from beq_eq_false_iff_ne.mpr q]
   rfl
 ·rw[if_neg (show¬((a==b)=true) from λe=>h (bD e)),sw]
  by_cases q:p=a
  ·subst q
   rw[List.lookup_cons_self,if_pos rfl]
   rfl
  ·rw[if_neg q,List.lookup,show(p==a)=false from beq_eq_false_iff_ne.mpr q]
   by_cases q2:p=b
   ·subst q2
    show(List.lookup p [(p,V.int a)]).getD _=_
    rw[List.lookup_cons_self,if_pos rfl]
    rfl
   ·rw[if_neg q2]
    show(List.lookup p [(b,V.int a)]).getD _=_
    rw[List.lookup,show(p==b)=false from beq_eq_false_iff_ne.mpr q2]
    rfl
theorem DT{P:List V}{x:V}:cut (P++[x]) (.int (-1)) .none=some [x]:=by
 have e:clip (P++[x]).length (-1)=P.length:=by
  rw[clip,wrap,if_pos (by decide),aa]
  show(max 0 (min (-1+((P.length+1:Nat):Int)) ((P.length+1:Nat):Int))).toNat=_
  rw[show(-1:Int)+((P.length+1:Nat):Int)=P.length by lia,Int.min_eq_left (aO.mpr (Nat.le_succ _)),Int.max_eq_right (aC _),bg]
 show some (((P++[x]).drop (clip (P++[x]).length (-1))).take ((P++[x]).length-clip (P++[x]).length (-1)))=_
 rw[e,List.drop_left,aa,Nat.add_sub_cancel_left]
 rfl
theorem oOr{β:Type}{F:FT}{A B:E}{le:Le}{σ:H}{k:V→H→Option β}{Q:β→Prop}{a b:Bool}(hA:∀k:V→H→Option β,evK F A le σ k=k (.bool a) σ)(hB:∀k:V→H→Option β,evK F B le σ k=k (.bool b) σ)(h:Ok (k (.bool (a||b)) σ) Q):Ok (evK F (.or A B) le σ k) Q:=by
 show Ok (evK F A le σ _) Q
 rw[hA]
 cases a with
 | true=>exact h
 | false =>
  show Ok (evK F B le σ _) Q
  rw[hB]
  exact h
theorem IK{β:Type}{σ:H}{a:Nat}{kvs:List (Int×V)}{f:List (Int×V)→Option β}{Q:β→Prop}(h:σ[a]? =some (.dI kvs))(k:Ok (f kvs) Q):Ok (((σ[a]?).bind yu).bind f) Q:=by
 rw[h]
 exact k
theorem Hl{σ:H}{a:Nat}{kvs:List (Int×V)}(h:σ[a]? =some (.dI kvs)):im .get σ (.ref a)=true:=by
 show((σ[a]?).bind yu).isSome=true
 rw[h]
 rfl
theorem nD{σ:H}{a:Nat}{l:List Int}{i:Int}(h:bJ σ a=some (l.map V.int))(m:i∈l):cmpop .notin (.int i) (.ref a) σ=some false:=by
 show neg (cmpop .inn (.int i) (.ref a) σ)=_
 rw[tf h,List.contains_iff_mem.mpr m]
 rfl
section
variable{σ:H}{d:D}
theorem yO{n:Nat}{Q:V×H→Prop}{a b:Int}(hd:Dp n d.t)(h:At σ d)(h9:(names d.t).length≤99)(ha:a∈names d.t)(hb:b∈names d.t)
  (K:∀d1 d2 σ',d1.q=d.q→Rn d1 ((names d.t).map (sw a b)) d2→New σ (objs d2) σ'→Q (.ref d2.a,σ')):Ok (cf (n+2) j5 [.ref d.a,.int a,.int b] σ) Q:=by
 refine okF (le:=some (.ref d.a)::some (.int a)::some (.int b)::nn 8) rfl rfl ?_
 refine oA λk H=>okC (iV hd h (ae h9 (by decide)) λna σ1 t1=>H _ _ ?_)
 have hn:=bH (bK t1)
 refine oIr λk H=>oOr (a:=false) (b:=false) (λk=> ?_) (λk=> ?_) (H _ _ (λe=>Bool.noConfusion e) λ_=> ?_)
 ·show(cmpop .notin (.int a) (.ref na) σ1).bind _=_
  rw[nD hn ha]
  rfl
 ·show(cmpop .notin (.int b) (.ref na) σ1).bind _=_
  rw[nD hn hb]
  rfl
 refine oA λk H=>H (.ref σ1.length) (σ1++[O.dI (d8 b (.int a) [(a,.int b)])]) ?_
 have t2:=t1.and (bM σ1 (O.dI (d8 b (.int a) [(a,.int b)])))
 refine oR λk H=> ?_
 refine dN (bH (cj (bI (bM σ1 _)) (bK t1))) (okB (dB (S:=Option V) (λq=>some (.ref d.a)::some (.int a)::some (.int b)::some (.ref na)::some (.ref σ1.length)::q::nn 5) (λp:Int=>[V.int (sw a b p)]) (s:=none) (ai.mpr (cj (bI (bM σ1 _)) (bK t1))) ?_ λσ2 k2=> ?_))
 ·refine λp m q σ2 k2=>⟨_,rfl,λR K1=>okG (Hl (cj k2 (bK (bM σ1 _)))) ?_⟩
  refine IK (cj k2 (bK (bM σ1 (O.dI (d8 b (.int a) [(a,.int b)]))))) ?_
  rw[dget]
  exact okR (K1 _ .rfl)
 ·rw[fm1]
  have hl:((names d.t).map (sw a b)).length=(lv d).length:=by rw[ah,←cV,ah]
  have h9':((names d.t).map (sw a b)).length≤99:=by rw[ah];exact h9
  have k3:=(bI t2).trans k2
  refine okG (by rw[ah];exact ae h9' (by decide)) (okC (il hd (h.kp (k3.trans (bI (bM σ2 _)))) (bH (bK (bM σ2 _))) hl h9' λd1 d2 σ4 q rn t4=>H _ _ (okR (K d1 d2 σ4 q rn ((k3.trans (bI (bM σ2 (.list (((names d.t).map (sw a b)).map V.int))))).trans t4)))))
theorem mZ{n:Nat}{Q:V×H→Prop}{b:Bool}{P S:List Int}{x:Int}(hd:Dp n d.t)(h:At σ d)(h9:(names d.t).length≤99)(hb:b=true→P=[x]∧names d.t=P++S)(hf:b=false→S=[x]∧names d.t=P++S)
  (K:∀d1 d2 σ',d1.q=d.q→Rn d1 (S++P) d2→New σ (objs d2) σ'→Q (.ref d2.a,σ')) (args:List V) (ha:gP hH args=some (some (.ref d.a)::some (.bool b)::nn 7)):Ok (cf (n+2) fU args σ) Q:=by
 refine okF (le:=some (.ref d.a)::some (.bool b)::nn 7) rfl ha ?_
 refine oA λk H=>okC (iV hd h (ae h9 (by decide)) λna σ1 t1=>H _ _ ?_)
 have hn:=bH (bK t1)
 have hl:names d.t=P++S:=by
  cases b
  ·exact(hf rfl).2
  ·exact(hb rfl).2
 rw[hl,au] at hn
 have k2:=(bI t1).trans (bI (bM σ1 (.list (S.map .int))))
 have k3:=k2.trans (bI (bM _ (.list (P.map .int))))
 have hn2:=bL (bI (bM σ1 (.list (S.map .int)))) hn
 have hlen:(S++P).length=(lv d).length:=by rw[←ah (f:=λe:D=>e.k.p),cV,hl,aa,aa,bn]
 have hl9:(S++P).length≤99:=by rw[hlen,←ah (f:=λe:D=>e.k.p),cV];exact h9
 have la:=bH (bK (bM (σ1++[O.list (S.map .int)]) (.list (P.map .int))))
 have lb:=bL (bI (bM (σ1++[O.list (S.map .int)]) (.list (P.map .int)))) (bH (bK (bM σ1 (.list (S.map .int)))))
 have fin:∀{R:V×Mine.Internal.H→Prop},(∀x,Q x→R x)→Ok (cf (n+1) dw [.ref d.a,.ref (σ1++[O.list (S.map .int)]++[O.list (P.map .int)]).length] (σ1++[O.list (S.map .int)]++[O.list (P.map .int)]++[O.list (S.map V.int++P.map V.int)])) R:=λ{R} hR=>by
  rw[←au]
  exact il hd (h.kp (k3.trans (bI (bM _ _)))) (bH (bK (bM _ _))) hlen hl9 λd1 d2 σ4 q rn t4=>hR _ (K d1 d2 σ4 q rn ((k3.trans (bI (bM _ (.list ((S++P).map .int))))).trans t4))
 have hl8:(S.map V.int++P.map V.int).length≤lim:=by rw[←au,ah];exact ae hl9 (by decide)
 cases b with
 | true =>
  have hP:=(hb rfl).1
  have e1:cut (P.map V.int++S.map V.int) (.int 1) .none=some (S.map V.int):=iI (by rw[ah,hP];rfl)
  have e2:cut (P.map V.int++S.map V.int) .none (.int 1)=some (P.map V.int):=vw (by rw[ah,hP];rfl)
  exact oR λk H=>okL hn (c7 e1 (okL hn2 (c7 e2 (okL lb (okL la (okG hl8 (okC (fin λx hx=>H x.1 x.2 (okR hx)))))))))
 | false =>
  have hS:=(hf rfl).1
  have e1:cut (P.map V.int++S.map V.int) (.int (-1)) .none=some (S.map V.int):=by rw[hS];exact DT
  have e2:cut (P.map V.int++S.map V.int) .none (.int (-1))=some (P.map V.int):=by rw[hS];exact By
  exact oR λk H=>okL hn (c7 e1 (okL hn2 (c7 e2 (okL lb (okL la (okG hl8 (okC (fin λx hx=>H x.1 x.2 (okR hx)))))))))
end
noncomputable def Ev(F:FT)(le:Le)(σ:H)(e:E)(v:V):Prop:=∀⦃β:Type⦄(k:V→H→Option β),evK F e le σ k=k v σ
section
variable{F:FT}{le:Le}{σ:H}{a b c:E}{v:V}{x y z:Int}
theorem wS(ha:Ev F le σ a (.int x))(hb:Ev F le σ b (.int y))(hc:Ev F le σ c (.int z)):Ev F le σ (.cmp2 .le .lt a b c) (.bool (decide (x≤y)&&decide (y<z))):=λβ k=>by
 show evK F a le σ _=_
 rw[ha]
 show evK F b le σ _=_
 rw[hb]
 show(if decide (x≤y)=true then evK F c le σ _ else _)=_
 rw[hc]
 cases decide (x≤y) <;> rfl
theorem d6{p q:Bool}(ha:Ev F le σ a (.bool p))(hb:Ev F le σ b (.bool q)):Ev F le σ (.and a b) (.bool (p&&q)):=λβ k=>by
 show evK F a le σ _=_
 rw[ha]
 show(if p=true then evK F b le σ _ else _)=_
 rw[hb]
 cases p <;> rfl
theorem bR(ha:Ev F le σ a (.int x))(hb:Ev F le σ b (.int y)):Ev F le σ (.bin .add a b) (.int (x+y)):=λβ k=>by
 show evK F a le σ _=_
 rw[ha]
 show evK F b le σ _=_
 rw[hb]
 rfl
theorem bG{i:Nat}(h:slot le i=some v):Ev F le σ (.var i) v:=λβ k=>bnd h
theorem bN:Ev F le σ (.lit v) v:=λβ k=>rfl
theorem dg{n f j:Nat}{fs:List V}(he:Ev F le σ a (.ref j))(h:cC σ n j=some fs)(hv:fs[f]? =some v):Ev F le σ (.attr a n f) v:=λβ k=>(he _).trans ((bnd h).trans (bnd hv))
theorem cr{op:COp}{u w:V}{p:Bool}(ha:Ev F le σ a u)(hb:Ev F le σ b w)(h:cmpop op u w σ=some p):Ev F le σ (.cmp op a b) (.bool p):=λβ k=>(ha _).trans ((hb _).trans (bnd h))
theorem wQ{p q:Bool}(ha:Ev F le σ a (.bool p))(hb:Ev F le σ b (.bool q)):Ev F le σ (.or a b) (.bool (p||q)):=λβ k=>by
 show evK F a le σ _=_
 rw[ha]
 show(if p=true then _ else evK F b le σ _)=_
 rw[hb]
 cases p <;> rfl
theorem b4{β:Type}{k:V→H→Option β}{Q:β→Prop}(h:Ev F le σ a v)(hk:Ok (k v σ) Q):Ok (evK F a le σ k) Q:=(h k).symm▸hk
end
noncomputable def inR(r:Row)(row col:Int):Bool:=(decide (r.y≤row)&&decide (row<r.y+r.h))&&(decide (r.x≤col)&&decide (col<r.x+r.w))
noncomputable def pv:Option D→V
 | none=> .none
 | some e=> .int e.k.p
section
variable{σ:H}{d:D}
theorem dz{n:Nat}{Q:V×H→Prop}(hd:Dp n d.t)(h:At σ d)(hp:Pl d 0 0)(hl:(names d.t).length≤99)(K:∀a σ',New σ [(a,.list ((rows d.t 0 0).map Row.v))] σ'→Q (.ref a,σ')):Ok (cf (n+1) cg [.ref d.a] σ) Q:=by
 rw[←cV,ah] at hl
 rw[←gT d 0 0 hp,aY] at K
 refine okF (le:=some (.ref d.a)::nn 6) rfl rfl ?_
 refine oR λk H=>okC (fQ hd h (ae hl (by decide)) λa σ1 t=> ?_)
 have hv:=bK t
 refine dN (bH hv) (okB (dB (S:=Option V) (λs=>some (.ref d.a)::s::nn 5) (λe:D=>[e.row.v]) (s:=none) (ai.mpr hv) ?_ λσ2 k=> ?_))
 ·refine λx hx s σ2 k=>⟨_,rfl,λR K1=> ?_⟩
  have hx:=qi d h x hx
  have c:=((hx.1.kp (bI t)).kp k).c
  refine okI c (okI c (okI c (okI c (okI c (okR ?_)))))
  rw[k_v hx.2]
  exact K1 _ .rfl
 ·rw[show(lv d).flatMap (λe=>[e.row.v])=(lv d).map (Row.v∘D.row) from(List.map_eq_flatMap).symm]
  exact okG (by rw[ah];exact ae hl (by decide)) (H _ _ (okR (K _ _ (((bI t).trans k).trans (bM _ _)))))
theorem sI{n:Nat}{Q:V×H→Prop}{row col:Int}(hd:Dp n d.t)(h:At σ d)(hl:(names d.t).length≤99)(K:∀σ',Kp σ σ'→Q (pv ((lv d).find? λe=>inR e.row row col),σ')):Ok (cf (n+1) qt [.ref d.a,.int row,.int col] σ) Q:=by
 rw[←cV,ah] at hl
 refine okF (le:=some (.ref d.a)::some (.int row)::some (.int col)::nn 7) rfl rfl ?_
 refine oFo λk H=>okC (fQ hd h (ae hl (by decide)) λa σ1 t=>dN (bH (bK t)) (H _ _ _ ?_))
 refine dq (S:=Option V) (λs=>some (.ref d.a)::some (.int row)::some (.int col)::s::nn 6)
  (λs todo σ'=>Kp σ1 σ'∧(∀e∈todo,e∈lv d)∧(todo.find? λe=>inR e.row row col)=(lv d).find? λe=>inR e.row row col) ?_ (λs σ2 hI=>okR ?_) (s:=none) ⟨.rfl,λ_ m=>m,rfl⟩
 ·refine λs x xs σ2 hI=>⟨_,rfl,λR K1 K2=> ?_⟩
  have hx:=qi d h x (hI.2.1 x (.head _))
  have k2:=(bI t).trans hI.1
  have c:=(hx.1.kp k2).c
  have ex:=λf v (hv:(flds x)[f]? =some v)=>dg (F:=cf n) (le:=some (.ref d.a)::some (.int row)::some (.int col)::some (rf x)::nn 6) (a:= .var 3) (bG rfl) c hv
  have hf:=hI.2.2
  rw[List.find?_cons] at hf
  refine oIr λk H=>b4 (d6 (wS (ex 4 _ rfl) (bG rfl) (bR (ex 4 _ rfl) (ex 2 _ rfl))) (wS (ex 3 _ rfl) (bG rfl) (bR (ex 3 _ rfl) (ex 1 _ rfl)))) (H _ _ (λe=> ?_) λe=>okR (K1 (some (rf x)) _ (ai.mpr (cj hI.1 (bK t))) ⟨hI.1,λe m=>hI.2.1 e (.tail _ m),?_⟩))
  ·rw[show inR x.row row col=true from e] at hf
   refine b4 (ex 6 _ rfl) (okR (K2 _ _ _ (okR ?_)))
   have:=K _ k2
   rw[←hf] at this
   rw[k_v hx.2]
   exact this
  ·rw[show inR x.row row col=false from e] at hf
   exact hf
 ·have:=K _ ((bI t).trans hI.1)
  rw[←hI.2.2] at this
  exact this
end
noncomputable def bs(w:Nat)(me r:Row):Bool:=match w with
 | 8=>r.x+r.w+1==me.x
 | 9=>me.x+me.w+1==r.x
 | 10=>r.y+r.h+1==me.y
 | _=>me.y+me.h+1==r.y
noncomputable def mt(w:Nat)(me r:Row):Bool:=match [8,9].contains w with
 | true=>decide (r.y<me.y+me.h)&&decide (me.y<r.y+r.h)
 | false=>decide (r.x<me.x+me.w)&&decide (me.x<r.x+r.w)
noncomputable def nb(w:Nat)(me r:Row):Bool:=bs w me r&&mt w me r
theorem D8{w:Nat}(h:8≤w∧w≤11)(me r:Row):[(8,V.bool (r.x+r.w+1==me.x)),(9,V.bool (me.x+me.w+1==r.x)),(10,V.bool (r.y+r.h+1==me.y)),(11,V.bool (me.y+me.h+1==r.y))].lookup w=some (.bool (bs w me r)):=by
 obtain rfl|rfl|rfl|rfl:w=8∨w=9∨w=10∨w=11:=w4 w (Nat.lt_succ_of_le h.2) h.1
 ·rfl
 ·rfl
 ·rfl
 ·rfl
theorem FQ{β:Type}{F:FT}{le:Le}{σ:H}{e1 e2 e3 e4:E}{v1 v2 v3 v4 v:V}{j w:Nat}{k:V→H→Option β}{Q:β→Prop}(h1:Ev F le σ e1 v1)(h2:Ev F le σ e2 v2)(h3:Ev F le σ e3 v3)(h4:Ev F le σ e4 v4)(hw:slot le j=some (.str w))(hv:[(8,v1),(9,v2),(10,v3),(11,v4)].lookup w=some v)
  (h:Ok (k v (σ++[.dS [(8,v1),(9,v2),(10,v3),(11,v4)]])) Q):Ok (evK F (.idx (.dS [8,9,10,11] [e1,e2,e3,e4]) (.var j)) le σ k) Q:=by
 show Ok (evK F e1 le σ _) Q
 rw[h1]
 show Ok (evK F e2 le σ _) Q
 rw[h2]
 show Ok (evK F e3 le σ _) Q
 rw[h3]
 show Ok (evK F e4 le σ _) Q
 rw[h4]
 show Ok ((slot le j).bind _) Q
 rw[hw]
 refine c7 (o:=gD _ (.ref σ.length) (.str w)) ?_ h
 show(((σ++[O.dS _])[σ.length]?).bind rV).bind _=_
 rw[List.getElem?_concat_length]
 exact hv
theorem HR(g:G)(d:D):∀e∈lv d,e∈lv (g.up d):=λe m=>by
 show e∈lvL (g.l++d::g.rs)
 induction g.l with
 | nil=>exact aL _ m
 | cons a l ih=>exact ay _ ih
theorem Da(c:List G):∀d,∀e∈lv d,e∈lv (cF c d):=by
 induction c with
 | nil=>exact λ_ _ m=>m
 | cons g c ih=>exact λd e m=>ih (g.up d) e (HR g d e m)
section
variable{σ:H}{d:D}
theorem nS{n:Nat}{Q:V×H→Prop}{p:Int}{w:Nat}(hw:8≤w∧w≤11)(h9:n≤99)(hd:Dp n d.t)(h:At σ d)(hl:(names d.t).length≤99)(hp:p∈names d.t)
  (K:∀me∈lv d,me.k.p=p→∀a σ',New σ [(a,.list (((lv d).filter λe=>nb w me.row e.row).map λe=>V.int e.k.p))] σ'→Q (.ref a,σ')):Ok (cf (n+1) j6 [.ref d.a,.int p,.str w] σ) Q:=by
 rw[←cV,ah] at hl
 refine okF (le:=some (.ref d.a)::some (.int p)::some (.str w)::nn 12) rfl rfl ?_
 refine oA λk H=>okC (jQ h9 hd h (λm=>absurd hp m) λc me e mk _ _ pl σ1 t1=>H _ _ ?_)
 refine oIr λk H=>H false _ (λe=>Bool.noConfusion e) λ_=> ?_
 have mm:me∈lv d:=e▸Da c me me (by rw[HS (by rw[mk];rfl)];exact .head _)
 have mp:me.k.p=p:=by rw[mk];rfl
 have K:=K me mm mp
 have am:=(qi d h me mm).1
 have lp:bJ σ1 pl=some ((c.map λg=>V.ref g.a).reverse++V.ref me.a::[]):=bH (bK t1)
 refine oT λk H=>okX (f7 lp rfl) (H (.tup [.ref me.a,.ref σ1.length]) _ (σ1++[O.list []]) rfl ?_)
 have t2:=(Tr.rfl.kp (bI t1)).trans (bM σ1 (.list []))
 refine oFo λk H=>okC (fQ hd (h.kp (bI t2)) (ae hl (by decide)) λla σ3 t3=>dN (bH (bK t3)) (H _ _ _ ?_))
 have t4:=t2.and t3
 refine dq (S:=(Option V×Option V×Option V)×List D) (λs=>some (.ref d.a)::some (.int p)::some (.str w)::some (.ref pl)::some (.ref me.a)::some (.ref σ1.length)::s.1.1::s.1.2.1::s.1.2.2::nn 6)
  (λs todo σ'=>New σ [(la,.list (refs (lv d))),(σ1.length,.list (s.2.map λe=>V.int e.k.p))] σ'∧(∀e∈todo,e∈lv d)∧s.2.length+todo.length≤99∧s.2++(todo.filter λe=>nb w me.row e.row)=(lv d).filter λe=>nb w me.row e.row) ?_ (λs σ' hI=> ?_) (s:=((none,none,none),[])) ⟨t4,λ_ m=>m,by rw[List.length_nil,Nat.zero_add];exact hl,rfl⟩
 ·refine λs x xs σ4 hI=>⟨_,rfl,λR K1 _=> ?_⟩
  have hx:=qi d h x (hI.2.1 x (.head _))
  have kk:=bI hI.1
  have cx:=(hx.1.kp kk).c
  have cm:=(am.kp kk).c
  have ex:=λf v (hv:(flds x)[f]? =some v)=>dg (F:=cf n) (le:=some (.ref d.a)::some (.int p)::some (.str w)::some (.ref pl)::some (.ref me.a)::some (.ref σ1.length)::some (rf x)::s.1.2.1::s.1.2.2::nn 6) (a:= .var 6) (bG rfl) cx hv
  have em:=λf v (hv:(flds me)[f]? =some v)=>dg (F:=cf n) (le:=some (.ref d.a)::some (.int p)::some (.str w)::some (.ref pl)::some (.ref me.a)::some (.ref σ1.length)::some (rf x)::s.1.2.1::s.1.2.2::nn 6) (a:= .var 4) (bG rfl) cm hv
  refine oA λk H=>FQ (cr (bR (bR (ex 3 _ rfl) (ex 1 _ rfl)) bN) (em 3 _ rfl) rfl) (cr (bR (bR (em 3 _ rfl) (em 1 _ rfl)) bN) (ex 3 _ rfl) rfl) (cr (bR (bR (ex 4 _ rfl) (ex 2 _ rfl)) bN) (em 4 _ rfl) rfl) (cr (bR (bR (em 4 _ rfl) (em 2 _ rfl)) bN) (ex 4 _ rfl) rfl) rfl (D8 hw me.row x.row) (H _ _ ?_)
  clear ex em
  have t5:=hI.1.kp (bI (bM σ4 (.dS [(8,.bool (x.x+x.w+1==me.x)),(9,.bool (me.x+me.w+1==x.x)),(10,.bool (x.y+x.h+1==me.y)),(11,.bool (me.y+me.h+1==x.y))])))
  generalize σ4++_=σ5 at t5⊢
  have cx:=(hx.1.kp (bI t5)).c
  have cm:=(am.kp (bI t5)).c
  have fin:Ok (bT (cf n) ((rH (je.body[3]?.getD .fail)).drop 2) (some (.ref d.a)::some (.int p)::some (.str w)::some (.ref pl)::some (.ref me.a)::some (.ref σ1.length)::some (rf x)::some (.bool (bs w me.row x.row))::some (.bool (mt w me.row x.row))::nn 6) σ5 gv) R:=by
   have hf:=hI.2.2.2
   rw[List.filter_cons] at hf
   have hl2:=hI.2.2.1
   refine oIf λk H=>b4 (d6 (bG rfl) (bG rfl)) (H _ _ (λe=> ?_) λe=>okR (K1 ((some (rf x),some (.bool (bs w me.row x.row)),some (.bool (mt w me.row x.row))),s.2) _ ?_ ⟨t5,λe m=>hI.2.1 e (.tail _ m),?_,?_⟩))
   ·rw[show nb w me.row x.row=true from e] at hf
    have ls:=bH ((bP t5).1 (σ1.length,_) (.tail _ (.head _)))
    have t6:=t5.trans ((dm (a:=σ1.length) (o:= .list (s.2.map λe=>V.int e.k.p)) (o':= .list ((s.2.map λe=>V.int e.k.p)++[x.k.v]))).le [(la,.list (refs (lv d)))])
    refine oE λk H=>okG (rcv ls) (okI cx (okL ls (okG ?_ (H _ _ (okR (K1 ((some (rf x),some (.bool (bs w me.row x.row)),some (.bool (mt w me.row x.row))),s.2++[x]) _ ?_ ⟨?_,λe m=>hI.2.1 e (.tail _ m),?_,?_⟩))))))
    ·rw[ah]
     exact ax (ae (az _ _) hl2) (by decide)
    ·exact ai.mpr ((bP t6).1 (la,_) (.head _))
    ·rw[show((s.2++[x]).map λe=>V.int e.k.p)=(s.2.map λe=>V.int e.k.p)++[x.k.v] by rw[k_v hx.2,au];rfl]
     exact t6
    ·rw[aa,bo,bn [x].length]
     exact hl2
    ·rw[af]
     exact hf
   ·exact ai.mpr ((bP t5).1 (la,_) (.head _))
   ·exact ae (aB (Nat.le_succ _) _) hl2
   ·rw[show nb w me.row x.row=false from e] at hf
    exact hf
  have ex:=λf v (hv:(flds x)[f]? =some v)=>dg (F:=cf n) (le:=some (.ref d.a)::some (.int p)::some (.str w)::some (.ref pl)::some (.ref me.a)::some (.ref σ1.length)::some (rf x)::some (.bool (bs w me.row x.row))::s.1.2.2::nn 6) (a:= .var 6) (bG rfl) cx hv
  have em:=λf v (hv:(flds me)[f]? =some v)=>dg (F:=cf n) (le:=some (.ref d.a)::some (.int p)::some (.str w)::some (.ref pl)::some (.ref me.a)::some (.ref σ1.length)::some (rf x)::some (.bool (bs w me.row x.row))::s.1.2.2::nn 6) (a:= .var 4) (bG rfl) cm hv
  refine oIf λk H=>H ([8,9].contains w) _ (λe=> ?_) λe=> ?_
  ·refine oA λk H=>b4 (d6 (cr (ex 4 _ rfl) (bR (em 4 _ rfl) (em 2 _ rfl)) rfl) (cr (em 4 _ rfl) (bR (ex 4 _ rfl) (ex 2 _ rfl)) rfl)) (nC (b':=mt w me.row x.row) (by rw[mt,e];rfl) (H _ _ (oN fin)))
  ·refine oA λk H=>b4 (d6 (cr (ex 3 _ rfl) (bR (em 3 _ rfl) (em 1 _ rfl)) rfl) (cr (em 3 _ rfl) (bR (ex 3 _ rfl) (ex 1 _ rfl)) rfl)) (nC (b':=mt w me.row x.row) (by rw[mt,e];rfl) (H _ _ (oN fin)))
 ·refine oR λk H=>H _ _ (okR (K σ1.length σ' ?_))
  rw[←hI.2.2.2,List.filter_nil,aw]
  exact hI.1.dr (Y:=[_])
end
noncomputable def far(w:Nat)(r:Row):Int×Int:=match [8,9].contains w with
 | true=>(r.y,r.p)
 | false=>(r.x,r.p)
theorem Ib(w:Nat)(r:Row):(far w r).2=r.p:=by
 rw[far]
 cases [8,9].contains w <;> rfl
theorem lX{le:(Int×Int)→(Int×Int)→Bool}{l:List (Int×Int)}(h:l.Pairwise λa b=>le a b=true):b5 le l=l:=by
 induction l with
 | nil=>rfl
 | cons a l ih =>
  have h:=List.pairwise_cons.mp h
  show iA le a (b5 le l)=_
  rw[ih h.2]
  cases l with
  | nil=>rfl
  | cons b l=>exact if_pos (h.1 b (.head _))
theorem xA(l:List (Int×Int)):cT jF (l.map bX)=some l:=fZ (f:=jF) (k:=bX) (λ_=>rfl) l
theorem y6{β:Type}{σ:H}{a:Nat}{l:List (Int×Int)}{k:V→H→Option β}{Q:β→Prop}(h:bJ σ a=some (l.map bX))(hl:l.length<64)(hs:l.Pairwise λx y=>x.1<y.1)(g:Ok (k (.ref σ.length) (σ++[.list (l.map bX)])) Q):Ok (sr (.ref a) σ k) Q:=by
 show Ok ((σ[a]?).bind _) Q
 rw[bQ h]
 show Ok (y7 (l.map bX) σ k) Q
 refine okG (by rw[ah];exact hl) ?_
 cases l with
 | nil=>exact g
 | cons p l =>
  show Ok ((cT jF ((p::l).map bX)).bind _) Q
  rw[xA]
  refine uG ?_ ?_
  ·exact hs.imp λh e=>absurd h (by rw[e];exact aS _)
  ·rw[lX (le:=leP) (hs.imp λh=>Bool.or_eq_true_iff.mpr (.inl (bB h)))]
   exact g
noncomputable def cA(w:Nat)(me r:Row):Bool:=(decide (r.y<me.y+me.h)&&decide (me.y<r.y+r.h))&&((w==8&&(r.x+r.w+1==me.x))||(w==9&&(r.x==me.x+me.w+1)))
noncomputable def cB(w:Nat)(me r:Row):Bool:=(decide (r.x<me.x+me.w)&&decide (me.x<r.x+r.w))&&((w==10&&(r.y+r.h+1==me.y))||(w==11&&(r.y==me.y+me.h+1)))
theorem cAB{w:Nat}(h:8≤w∧w≤11)(me r:Row):(cA w me r=([8,9].contains w&&nb w me r))∧(cB w me r=(![8,9].contains w&&nb w me r)):=by
 have z:∀b:Bool,(b&&false)=false:=λb=>by cases b <;> rfl
 have c:∀a b:Bool,(a&&b)=(b&&a):=λa b=>by cases a <;> cases b <;> rfl
 obtain rfl|rfl|rfl|rfl:w=8∨w=9∨w=10∨w=11:=w4 w (Nat.lt_succ_of_le h.2) h.1
 ·exact⟨(congrArg (_&&·) (Bool.or_false _)).trans (c _ _),z _⟩
 ·exact⟨(congrArg (_&&·) (BEq.comm)).trans (c _ _),z _⟩
 ·exact⟨z _,(congrArg (_&&·) (Bool.or_false _)).trans (c _ _)⟩
 ·exact⟨z _,(congrArg (_&&·) (BEq.comm)).trans (c _ _)⟩
theorem fW{F:FT}{le:Le}{σ:H}{a b:E}{x y:Int}(ha:Ev F le σ a (.int x))(hb:Ev F le σ b (.int y)):Ev F le σ (.cmp .eq a b) (.bool (x==y)):=cr ha hb rfl
theorem fF{F:FT}{le:Le}{σ:H}{a b:E}{x y:Int}(ha:Ev F le σ a (.int x))(hb:Ev F le σ b (.int y)):Ev F le σ (.cmp .lt a b) (.bool (decide (x<y))):=cr ha hb rfl
noncomputable def Ar(ra la:Nat)(me:Row)(w:Nat)(r:Option V×Option V×Option V×Option V×Option V)(u14 u15:Option V):Le:=some (.ref ra)::some me.v::some (.str w)::some (.int me.p)::some (.int me.x)::some (.int me.y)::some (.int me.w)::some (.int me.h)::some (.ref la)::r.1::r.2.1::r.2.2.1::r.2.2.2.1::r.2.2.2.2::u14::u15::nn 6
theorem Gn{β:Type}{F:FT}{le:Le}{σ:H}{j a:Nat}{l:List (Int×Int)}{k:List V→Gd→H→Option β}{Q:β→Prop}(hs:slot le j=some (.ref a))(h:bJ σ a=some (l.map bX))(hl:l.length<64)(hp:l.Pairwise λx y=>x.1<y.1)
  (g:Ok (k (l.map bX) [(σ.length,l.map bX)] (σ++[.list (l.map bX)])) Q):Ok (fz F (.seq (.bi .sorted [.var j])) le σ k) Q:=by
 show Ok ((slot le j).bind _) Q
 rw[hs]
 exact y6 h hl hp (dN (bH (bK (bM σ _))) g)
theorem df{F:FT}{le:Le}{σ:H}{a b:E}{u v:V}(ha:Ev F le σ a u)(hb:Ev F le σ b v):Ev F le σ (.tup [a,b]) (.tup [u,v]):=λβ k=>(ha _).trans (hb _)
theorem zZ{β:Type}{F:FT}{le:Le}{σ:H}{o e:E}{a:Nat}{xs:List V}{v:V}{k:V→H→Option β}{Q:β→Prop}(ho:Ev F le σ o (.ref a))(hl:bJ σ a=some xs)(he:Ev F le σ e v)(h:Ok (metop .append (.ref a) [v] σ k) Q):Ok (evK F (.meth .append o [e]) le σ k) Q :=
 b4 (k:=λx σ=>gd (im .append σ x=true) (ic F [e] le σ λy σ=>metop .append x y σ k)) ho (okG (rcv hl) (b4 (k:=λx σ=>metop .append (.ref a) [x] σ k) he h))
section
variable{σ:H}
theorem vF{n:Nat}{Q:V×H→Prop}{w ra:Nat}{me:Row}{rs:List Row}(hw:8≤w∧w≤11)(hr:bJ σ ra=some (rs.map Row.v))(hl:rs.length<64)(hs:((rs.filter (nb w me)).map (far w)).Pairwise λx y=>x.1<y.1)
  (K:∀a σ',New σ [(a,.list ((rs.filter (nb w me)).map λr=>V.int r.p))] σ'→Q (.ref a,σ')):Ok (cf (n+1) j7 [.ref ra,me.v,.str w] σ) Q:=by
 refine okF (le:=some (.ref ra)::some me.v::some (.str w)::nn 19) rfl rfl ?_
 refine oT λk H=>H me.v _ σ rfl ?_
 refine oA λk H=>H (.ref σ.length) (σ++[O.list []]) ?_
 have hr2:=bL (bI (bM σ (.list []))) hr
 refine oFo λk H=>dN hr2 (H _ _ _ ?_)
 refine dq (S:=((Option V×Option V×Option V×Option V×Option V)×(Option V×Option V))×List Row) (λs=>Ar ra σ.length me w s.1.1 s.1.2.1 s.1.2.2)
  (λs todo σ'=>New σ [(σ.length,.list ((s.2.map (far w)).map bX))] σ'∧s.2.length+todo.length<64∧s.2++todo.filter (nb w me)=rs.filter (nb w me)) ?_ (λs σ' hI=> ?_) (s:=(((none,none,none,none,none),(none,none)),[])) ⟨bM _ _,by rw[List.length_nil,Nat.zero_add];exact hl,rfl⟩
 ·refine λs x xs σ1 hI=>⟨Ar ra σ.length me w (some (.int x.p),some (.int x.x),some (.int x.y),some (.int x.w),some (.int x.h)) s.1.2.1 s.1.2.2,rfl,λR K1 _=> ?_⟩
  have ab:=cAB hw me x
  have hf:=hI.2.2
  rw[List.filter_cons] at hf
  have ls:=bH (bK hI.1)
  refine oA λk H=>b4 (d6 (fF (bG rfl) (bR (bG rfl) (bG rfl))) (fF (bG rfl) (bR (bG rfl) (bG rfl)))) (H _ _ ?_)
  refine oA λk H=>b4 (d6 (fF (bG rfl) (bR (bG rfl) (bG rfl))) (fF (bG rfl) (bR (bG rfl) (bG rfl)))) (H _ _ ?_)
  generalize hle:((Ar ra σ.length me w (some (.int x.p),some (.int x.x),some (.int x.y),some (.int x.w),some (.int x.h)) s.1.2.1 s.1.2.2).set 14 (some (.bool (decide (x.y<me.y+me.h)&&decide (me.y<x.y+x.h))))).set 15 (some (.bool (decide (x.x<me.x+me.w)&&decide (me.x<x.x+x.w))))=le
  have ev:∀{σ':Mine.Internal.H} (i:Nat) {v:V},slot (Ar ra σ.length me w (some (.int x.p),some (.int x.x),some (.int x.y),some (.int x.w),some (.int x.h)) (some (.bool (decide (x.y<me.y+me.h)&&decide (me.y<x.y+x.h)))) (some (.bool (decide (x.x<me.x+me.w)&&decide (me.x<x.x+x.w))))) i=some v→Ev (cf n) le σ' (.var i) v:=by
   intro σ' i v h
   subst hle
   exact bG h
  have put:∀{k':V→Mine.Internal.H→Option (Fl×Le×Mine.Internal.H)} {y:Int},(y,x.p)=far w x→(∀σ',New σ [(σ.length,.list (((s.2++[x]).map (far w)).map bX))] σ'→Ok (k' .none σ') R)→Ok (metop .append (.ref σ.length) [.tup [.int y,.int x.p]] σ1 k') R:=λ{k' y} e g=>by
   refine okL ls (okG (by rw[ah,ah];exact ax (ae (az _ _) (bh hI.2.1)) (by decide)) (g _ ?_))
   rw[au,au,show V.tup [.int y,.int x.p]=bX (far w x) from congrArg bX e]
   exact hI.1.trans dm
  have nxt1:nb w me x=true→∀σ',New σ [(σ.length,.list (((s.2++[x]).map (far w)).map bX))] σ'→R (.next,le,σ'):=λe σ' t=>by
   rw[e] at hf
   refine hle▸K1 ((_,(_,_)),s.2++[x]) σ' (ai.mpr (bQ (bL (bI t) hr))) ⟨t,?_,?_⟩
   ·rw[aa,bo,bn [x].length]
    exact hI.2.1
   ·rw[af]
    exact hf
  have eA:Ev (cf n) le σ1 (.and (.var 14) (.or (.and (.cmp .eq (.var 2) (.lit (.str 8))) (.cmp .eq (.bin .add (.bin .add (.var 10) (.var 12)) (.lit (.int 1))) (.var 4))) (.and (.cmp .eq (.var 2) (.lit (.str 9))) (.cmp .eq (.var 10) (.bin .add (.bin .add (.var 4) (.var 6)) (.lit (.int 1))))))) (.bool (cA w me x)) :=
   d6 (ev 14 rfl) (wQ (d6 (cr (ev 2 rfl) bN rfl) (fW (bR (bR (ev 10 rfl) (ev 12 rfl)) bN) (ev 4 rfl))) (d6 (cr (ev 2 rfl) bN rfl) (fW (ev 10 rfl) (bR (bR (ev 4 rfl) (ev 6 rfl)) bN))))
  have eB:∀σ',Ev (cf n) le σ' (.and (.var 15) (.or (.and (.cmp .eq (.var 2) (.lit (.str 10))) (.cmp .eq (.bin .add (.bin .add (.var 11) (.var 13)) (.lit (.int 1))) (.var 5))) (.and (.cmp .eq (.var 2) (.lit (.str 11))) (.cmp .eq (.var 11) (.bin .add (.bin .add (.var 5) (.var 7)) (.lit (.int 1))))))) (.bool (cB w me x)):=λσ' =>
   d6 (ev 15 rfl) (wQ (d6 (cr (ev 2 rfl) bN rfl) (fW (bR (bR (ev 11 rfl) (ev 13 rfl)) bN) (ev 5 rfl))) (d6 (cr (ev 2 rfl) bN rfl) (fW (ev 11 rfl) (bR (bR (ev 5 rfl) (ev 7 rfl)) bN))))
  have fl:nb w me x=false→R (.next,le,σ1):=λe=>by
   rw[e] at hf
   exact hle▸K1 ((_,(_,_)),s.2) σ1 (ai.mpr (bQ (bL (bI hI.1) hr))) ⟨hI.1,ax (aB (Nat.le_succ _) _) hI.2.1,hf⟩
  refine oIf λk H=>b4 eA (H _ _ (λe=> ?_) λe=> ?_)
  ·rw[ab.1] at e
   have e:=ar.mp e
   refine oE λk H=>zZ (ev 8 rfl) ls (df (ev 11 rfl) (ev 9 rfl)) (put (by rw[far,e.1]) λσ' t=>H _ _ (oN (oIf λk H=>b4 (eB σ') (H _ _ (λq=> ?_) λ_=>okR (nxt1 e.2 σ' t)))))
   rw[ab.2,e.1] at q
   exact Bool.noConfusion q
  ·rw[ab.1] at e
   refine oN (oIf λk H=>b4 (eB σ1) (H _ _ (λq=> ?_) λq=>okR (fl ?_)))
   ·rw[ab.2] at q
    have q:=ar.mp q
    refine oE λk H=>zZ (ev 8 rfl) ls (df (ev 10 rfl) (ev 9 rfl)) (put (by rw[far,Bool.not_eq_true' _ |>.mp q.1]) λσ' t=>H _ _ (okR (nxt1 q.2 σ' t)))
   ·rw[ab.2] at q
    cases ec:[8,9].contains w
    ·rw[ec] at q
     exact q
    ·rw[ec] at e
     exact e
 ·rw[List.filter_nil,aw] at hI
  rw[hI.2.2] at hI
  have hl2:((rs.filter (nb w me)).map (far w)).length<64:=by rw[ah];exact ax (List.length_filter_le _ _) hl
  refine oR λk H=>FS rfl (Gn rfl (bH (bK hI.1)) hl2 hs (okB (dB (S:=Option V) (λq=>Ar ra σ.length me w s.1.1 s.1.2.1 s.1.2.2 |>.set 16 q) (λp:Int×Int=>[V.int p.2]) (s:=none) (ai.mpr (bK (bM σ' _))) ?_ λσ2 k2=> ?_)))
  ·exact λp m q σ3 k3=>⟨some (bX p),rfl,λR K1=>okR (K1 _ .rfl)⟩
  ·rw[fm1,aY,aY,show(rs.filter (nb w me)).map ((V.int∘λp:Int×Int=>p.2)∘far w)=(rs.filter (nb w me)).map λr=>V.int r.p from List.map_congr_left λr _=>congrArg V.int (Ib w r)]
   rw[ah] at hl2
   exact okG (by rw[ah];exact ae (bh hl2) (by decide)) (H _ _ (okR (K _ _ ((((bI hI.1).trans (bI (bM σ' _))).trans k2).trans (bM σ2 _)))))
end
noncomputable def dkO(c at_:Nat):O:= .dS [(12,.ref c),(13,.int at_)]
theorem AS{σ:H}{a:Nat}{l:List Int}{i:Int}(h:bJ σ a=some (l.map V.int))(h0:0≤i)(h1:i<l.length):∃x,gD σ (.ref a) (.int i)=some (.int x):=by
 have hi:i=((i.toNat:Nat):Int):=(Int.toNat_of_nonneg h0).symm
 have hl:i.toNat<l.length:=aP.mp (hi▸h1)
 refine⟨l[i.toNat],dQ (P:=(l.take i.toNat).map V.int) (Q:=(l.drop (i.toNat+1)).map V.int) (h.trans ?_) ?_⟩
 ·rw[←aR,←au,List.getElem_cons_drop,List.take_append_drop]
 ·rw[ah,List.length_take,Nat.min_eq_left (bh hl)]
  exact hi
theorem f8{F:FT}{le:Le}{σ:H}{a b:E}{u w v:V}(ha:Ev F le σ a u)(hb:Ev F le σ b w)(h:gD σ u w=some v):Ev F le σ (.idx a b) v:=λβ k=>(ha _).trans ((hb _).trans (bnd h))
theorem c6{F:FT}{le:Le}{σ:H}{op:BOp}{a b:E}{x y z:Int}(hop:op≠ .add)(ha:Ev F le σ a (.int x))(hb:Ev F le σ b (.int y))(h:iop op x y=some z):Ev F le σ (.bin op a b) (.int z):=λβ k=>(ha _).trans ((hb _).trans (by
 show binop op (.int x) (.int y) σ k=_
 cases op with
 | add=>exact absurd rfl hop
 | _=>exact bnd (f:=λr=>k (.int r) σ) h))
theorem jB{F:FT}{le:Le}{σ:H}{e:E}{a:Nat}{l:List V}(he:Ev F le σ e (.ref a))(h:bJ σ a=some l):Ev F le σ (.bi .len [e]) (.int l.length):=λβ k=>(he _).trans (by
 show(Ap σ (.ref a)).bind _=_
 rw[show Ap σ (.ref a)=some (l.length:Int) by show(bJ σ a).bind _=_;rw[h];rfl]
 rfl)
theorem HC{β:Type}{σ:H}{a:Nat}{kvs:List (Nat×V)}{f:List (Nat×V)→Option β}{Q:β→Prop}(h:σ[a]? =some (.dS kvs))(k:Ok (f kvs) Q):Ok (((σ[a]?).bind rV).bind f) Q:=by
 rw[h]
 exact k
theorem EO{F:FT}{le:Le}{σ:H}{a:E}{j s:Nat}{kvs:List (Nat×V)}{v:V}(ha:Ev F le σ a (.ref j))(h:σ[j]? =some (.dS kvs))(hv:kvs.lookup s=some v):Ev F le σ (.idx a (.lit (.str s))) v:=f8 ha bN (by
 show((σ[j]?).bind rV).bind _=_
 rw[h]
 exact hv)
theorem oSI{β:Type}{F:FT}{o i e:E}{rest:List S}{le:Le}{σ:H}{K:Fl→Le→H→Option β}{Q:β→Prop}{u w v:V}(he:Ev F le σ e v)(ho:Ev F le σ o u)(hi:Ev F le σ i w)(h:Ok (mW u w v σ λσ=>bT F rest le σ K) Q):Ok (bT F (.setI o i e::rest) le σ K) Q:=by
 show Ok (evK F e le σ _) Q
 refine b4 he ?_
 refine b4 ho ?_
 exact b4 hi h
theorem EP{σ:H}{a b:Nat}{l:List Int}(h1:bJ σ a=some (l.map V.int))(h2:bJ σ b=some []):cmpop .eq (.ref a) (.ref b) σ=some l.isEmpty:=by
 cases l with
 | nil=>exact rN h1 h2
 | cons x l =>
  show(bJ σ a).bind _=_
  rw[h1]
  show(bJ σ b).bind _=_
  rw[h2]
  rfl
theorem IJ{β:Type}{F:FT}{e:E}{le:Le}{σ:H}{k:V→H→Option β}{Q:β→Prop}{a:Nat}{l:List Int}(he:Ev F le σ e (.ref a))(h:bJ σ a=some (l.map V.int))(g:Ok (k (.bool l.isEmpty) (σ++[.list []])) Q):Ok (evK F (.cmp .eq e (.list [])) le σ k) Q :=
 b4 (k:=λx σ=>evK F (.list []) le σ λy σ=>(cmpop .eq x y σ).bind λc=>k (.bool c) σ) he (by
  show Ok ((cmpop .eq (.ref a) (.ref σ.length) (σ++[O.list []])).bind _) Q
  exact c7 (EP (bL (bI (bM σ (.list []))) h) (bH (bK (bM σ (.list []))))) g)
section
variable{σ:H}
theorem Bn{n:Nat}{Q:V×H→Prop}{dk c at_:Nat}{l:List Int}{b:Int}(hb:0<b)(ha:at_≤900)(o:Own σ [(dk,dkO c at_)])(hl:bJ σ c=some (l.map .int))(hll:l.length≤900)
  (K:∀v σ',0≤v→v<b→Tr [(dk,dkO c at_)] σ [(dk,dkO c (at_+1))] σ'→Q (.int v,σ')):Ok (cf (n+1) bY [.ref dk,.int b] σ) Q:=by
 have hd:=o.1 (dk,dkO c at_) (.head _)
 have mo:∀x,iop .mod x b=some (x%b):=λx=>iZ hb
 have fin:∀x σ',Tr [(dk,dkO c at_)] σ [(dk,dkO c (at_+1))] σ'→Q (.int (x%b),σ'):=λx σ' t=>K _ σ' (Int.emod_nonneg x (Int.ne_of_gt hb)) (Int.emod_lt_of_pos x hb) t
 refine okF (le:=some (.ref dk)::some (.int b)::nn 8) rfl rfl ?_
 refine oT λk H=>b4 (df (EO (bG rfl) hd rfl) (EO (bG rfl) hd rfl)) (H (.tup [.int at_,.ref c]) _ σ rfl ?_)
 refine oSI (u:= .ref dk) (w:= .str 13) (v:= .int (at_+1)) (bR (bG rfl) bN) (bG rfl) bN (HC hd (okG rfl ?_))
 have t1:Tr [(dk,dkO c at_)] σ [(dk,dkO c (at_+1))] (σ.set dk (dkO c (at_+1))):=dm
 have hc:dk≠c:=λe=>by
  rw[e,bQ hl] at hd
  exact O.noConfusion (Option.some.inj hd)
 have hl1:bJ (σ.set dk (dkO c (at_+1))) c=some (l.map .int):=bH ((List.getElem?_set_ne hc).trans (bQ hl))
 have am:iop .mul (at_:Int) 5=some (at_*5):=f4 (a:=(at_:Int)) (ae ha (by decide)) (by decide)
 refine oIr λk H=>b4 (fF (bG rfl) (jB (bG rfl) hl1)) (H _ _ (λe=> ?_) λe=> ?_)
 ·rw[ah] at e
  refine(AS hl1 (aC at_) (bA e)).elim λx hx=>b4 (c6 (by nofun) (f8 (bG rfl) (bG rfl) hx) (bG rfl) (mo x)) (okR (fin x _ t1))
 ·refine oIr λk H=>IJ (bG rfl) hl1 (H _ _ (λe2=> ?_) λe2=> ?_)
  ·exact b4 (c6 (by nofun) (bR (c6 (by nofun) (bG rfl) bN am) (c6 (by nofun) (bG rfl) bN (fR (by decide)))) (bG rfl) (mo _)) (okR (fin _ _ (t1.kp (bI (bM _ _)))))
  ·have hl2:=bL (bI (bM _ (.list []))) hl1
   have hp:(0:Int)<(l.length:Int):=aP.mpr (List.length_pos_iff.mpr λq=>by rw[q] at e2;exact Bool.noConfusion e2)
   refine oR λk H=>(AS hl2 (Int.emod_nonneg at_ (Int.ne_of_gt hp)) (Int.emod_lt_of_pos at_ hp)).elim λx hx=>b4 (c6 (by nofun) (bR (c6 (by nofun) (f8 (bG rfl) (c6 (by nofun) (bG rfl) (jB (bG rfl) hl2) (iZ (by rw[ah];exact hp))) (by rw[ah];exact hx)) (bR (bG rfl) bN) (fR ⟨by omega,by omega⟩)) (c6 (by nofun) (bG rfl) bN am)) (bG rfl) (mo _)) (H _ _ (okR (fin _ _ (t1.kp (bI (bM _ _))))))
end
noncomputable def dR:Nat→Nat→List Int
 | 0,_=>[]
 | f+1,n=>if n=0 then [] else(48+((n%10:Nat):Int))::dR f (n/10)
noncomputable def DN(n:Nat):List Int:=(48+((n%10:Nat):Int))::dR n (n/10)
noncomputable def dec(n:Nat):List Int:=(DN n).reverse
noncomputable def isD(d:Int):Prop:=48≤d∧d≤57
theorem AJ(n:Nat):isD (48+((n%10:Nat):Int)):=⟨aJ (aC _),Int.add_le_add_left (aO.mpr (Nat.le_of_lt_succ (Nat.mod_lt n (by decide)))) 48⟩
theorem I4:∀f n,∀d∈dR f n,isD d:=by
 intro f
 induction f with
 | zero=>exact λ_=>aj _
 | succ f ih =>
  intro n
  rw[dR]
  split
  ·exact aj _
  ·exact ao.mpr ⟨AJ n,ih (n/10)⟩
theorem Bw:∀f n,(dR f n).length≤f:=by
 intro f
 induction f with
 | zero=>exact λ_=>aD 0
 | succ f ih =>
  intro n
  rw[dR]
  split
  ·exact bu _
  ·exact aA (ih _)
theorem wX(n:Nat):∀d∈dec n,isD d:=λd m=>by
 rcases aE.mp (List.mem_reverse.mp m) with rfl|m
 ·exact AJ n
 ·exact I4 _ _ d m
theorem rP(n:Nat):(dec n).length≤n+1:=by
 rw[dec,List.length_reverse]
 exact aA (Bw _ _)
noncomputable def rd(a d:Int):Int:=10*a+d-48
theorem GJ:∀f n,n≤f→(dR f n).foldr (λd a=>rd a d) 0=(n:Int):=by
 intro f
 induction f with
 | zero=>exact λn h=>by rw[Nat.le_zero.mp h];rfl
 | succ f ih =>
  intro n h
  rw[dR]
  split
  ·next e=>rw[e];rfl
  ·show rd ((dR f (n/10)).foldr _ 0) _=_
   rw[ih (n/10) (by omega),rd]
   omega
theorem DM(n:Nat):(dec n).foldl rd 0=(n:Int):=by
 rw[dec,List.foldl_reverse]
 show rd ((dR n (n/10)).foldr _ 0) _=_
 rw[GJ n (n/10) (Nat.div_le_self n 10),rd]
 lia
theorem Hz{β:Type}{F:FT}{e:E}{le:Le}{σ:H}{k:V→H→Option β}{Q:β→Prop}{v:V}(he:Ev F le σ e v)(g:Ok (k (.ref σ.length) (σ++[.list [v]])) Q):Ok (evK F (.list [e]) le σ k) Q:=b4 (k:=λx σ=>pP [x] σ k) he g
section
variable{σ:H}
theorem lD{m n:Nat}{Q:V×H→Prop}(hn:n≤900)(K:∀σ',Kp σ σ'→Q (.bytes (dec n),σ')):Ok (cf (m+1) cn [.int n] σ) Q:=by
 have mo:∀k:Nat,iop .mod (k:Int) 10=some ((k%10:Nat):Int):=λk=>iZ (by decide)
 have di:∀k:Nat,iop .fdiv (k:Int) 10=some ((k/10:Nat):Int):=λk=>fR (by decide)
 refine okF (le:=some (.int n)::nn 8) rfl rfl ?_
 refine oA λk H=>H (.int n) σ ?_
 refine oA λk H=>Hz (bR bN (c6 (by nofun) (bG rfl) bN (mo n))) (H (.ref σ.length) (σ++[O.list [.int (48+((n%10:Nat):Int))]]) ?_)
 refine oA λk H=>b4 (c6 (by nofun) (bG rfl) bN (di n)) (H _ _ ?_)
 refine oW (zU (S:=Nat×Nat×List Int) (λs=>some (.int n)::some (.int s.1)::some (.ref σ.length)::nn 6) (λm s σ'=>m=s.1∧s.1≤s.2.1∧s.2.2++dR s.2.1 s.1=DN n∧New σ [(σ.length,.list (s.2.2.map .int))] σ') ?_ (m:=n/10) (s:=(n/10,n,[48+((n%10:Nat):Int)])) ⟨rfl,Nat.div_le_self n 10,rfl,bM _ _⟩ (show _<5000 by lia))
 intro m s σ1 hI R K1 K2
 refine b4 (cr (u:= .int s.1) (w:= .int 0) (bG rfl) bN rfl) (okR ?_)
 have ls:=bH (bK hI.2.2.2)
 cases ec:icmp .gt (s.1:Int) 0 with
 | true =>
  have ep:0<s.1:=aP.mp (bA ec)
  have eq:=hI.2.2.1
  have hf:s.2.1=s.2.1-1+1:=(Nat.sub_add_cancel (be ep hI.2.1)).symm
  rw[hf,dR,if_neg (Nat.ne_of_gt ep)] at eq
  refine K1 _ λR2 K3=> ?_
  refine oE λk H=>zZ (bG rfl) ls (bR bN (c6 (by nofun) (bG rfl) bN (mo s.1))) (okL ls (okG ?_ (H _ _ ?_)))
  ·have l2:(DN n).length≤n+1:=aA (Bw _ _)
   rw[←eq,aa] at l2
   rw[ah]
   exact ax (ae (az _ _) (ae l2 (aA hn))) (show 901<lim by decide)
  refine oA λk H=>b4 (c6 (by nofun) (bG rfl) bN (di s.1)) (H _ _ (okR (K3 (s.1/10) (s.1/10,s.2.1-1,s.2.2++[48+((s.1%10:Nat):Int)]) _ ?_ ⟨rfl,?_,?_,?_⟩)))
  ·rw[hI.1]
   exact Nat.div_lt_self ep (by decide)
  ·have:=hI.2.1
   show s.1/10≤s.2.1-1
   lia
  ·rw[af]
   exact eq
  ·rw[au]
   exact hI.2.2.2.trans dm
 | false =>
  have ep:s.1=0:=Nat.le_zero.mp (aO.mp (bx.mp (of_decide_eq_false ec)))
  have eq:=hI.2.2.1
  rw[ep,show∀f,dR f 0=[] from λf=>by cases f <;> rfl,aw] at eq
  refine K2 _ (oIf λk H=>H false _ (λe=>Bool.noConfusion e) λ_=>oN (oR λk H=>okL ls ?_))
  refine zW (l':=(dec n).map V.int) (by rw[eq,dec,List.map_reverse]) (okL (bH (bK (bM σ1 (.list ((dec n).map .int))))) (qV (okG ?_ (H _ _ (okR (K _ ((bI hI.2.2.2).trans (bI (bM σ1 _)))))))))
  exact List.all_eq_true.mpr λd m=>by
   have:=wX n d m
   rw[Bool.and_eq_true,decide_eq_true_eq,decide_eq_true_eq]
   exact⟨ak (by decide) this.1,Int.lt_of_le_of_lt this.2 (by decide)⟩
end
theorem Be{F:FT}{le:Le}{σ:H}{a b c:E}{x y z:Int}(ha:Ev F le σ a (.int x))(hb:Ev F le σ b (.int y))(hc:Ev F le σ c (.int z)):Ev F le σ (.cmp2 .le .le a b c) (.bool (decide (x≤y)&&decide (y≤z))):=λβ k=>by
 show evK F a le σ _=_
 rw[ha]
 show evK F b le σ _=_
 rw[hb]
 show(if decide (x≤y)=true then evK F c le σ _ else _)=_
 rw[hc]
 cases decide (x≤y) <;> rfl
theorem Bb{F:FT}{le:Le}{σ:H}{a:E}{b:Bool}(ha:Ev F le σ a (.bool b)):Ev F le σ (.not a) (.bool (!b)):=λβ k=>ha _
theorem Hk:∀(l:List Int) (a:Int),(∀d∈l,isD d)→0≤a→a≤l.foldl rd a:=by
 intro l
 induction l with
 | nil=>exact λa _ _=>bv a
 | cons d l ih =>
  intro a h h0
  have hd:=h d (.head _)
  have h1:a≤rd a d:=by
   have:=hd.1
   rw[rd]
   lia
  exact ak h1 (ih _ (λe m=>h e (.tail _ m)) (ak h0 h1))
noncomputable def cs1(f d:Int):Int:=(((f/2^(1:Int).toNat+((f.toNat&&&(1:Int).toNat:Nat):Int)*2^(15:Int).toNat+d).toNat&&&(65535:Int).toNat:Nat):Int)
noncomputable def csum(l:List Int):Int:=l.foldl cs1 0
theorem BC(l:List Int):0≤csum l∧csum l≤65535:=by
 suffices h:∀(l:List Int) (a:Int),0≤a∧a≤65535→0≤l.foldl cs1 a∧l.foldl cs1 a≤65535 from h l 0 (by decide)
 intro l
 induction l with
 | nil=>exact λa h=>h
 | cons d l ih=>exact λa h=>ih _ ⟨aC _,aO.mpr Nat.and_le_right⟩
noncomputable def Gs:List Int:=[48,49,50,51,52,53,54,55,56,57,97,98,99,100,101,102]
noncomputable def pS(k:Nat):Int:=Gs[k]?.getD 0
theorem AX:∀k<16,Gs[k]? =some (pS k)∧(0≤pS k∧pS k<256):=by decide
noncomputable def nib(f s:Int):Nat:=(f/2^s.toNat).toNat&&&(15:Int).toNat
noncomputable def hx(f:Int):List Int:=[pS (nib f 12),pS (nib f 8),pS (nib f 4),pS (nib f 0)]
section
variable{σ:H}
theorem uI{m n:Nat}{Q:V×H→Prop}{l:List Int}(hl:l≠[])(hd:∀d∈l,isD d)(hv:l.foldl rd 0=(n:Int))(hn:n≤900)(K:Q (.int n,σ)):Ok (cf (m+1) ly [.bytes l] σ) Q:=by
 refine okF (le:=some (.bytes l)::nn 8) rfl rfl ?_
 refine oIr λk H=>H ((l.length:Int)==0) σ (λe=>absurd (List.eq_nil_of_length_eq_zero (Int.ofNat_eq_zero.mp (bD e))) hl) λ_=> ?_
 refine oA λk H=>H (.int 0) _ ?_
 refine oFo λk H=>H (l.map .int) [] _ ?_
 refine dq (S:=Int×Option V) (λs=>some (.bytes l)::some (.int s.1)::s.2::nn 6) (λs todo σ'=>σ'=σ∧0≤s.1∧(∀d∈todo,isD d)∧todo.foldl rd s.1=(n:Int)) ?_ ?_ (s:=(0,none)) ⟨rfl,bv 0,hd,hv⟩
 ·refine λs x xs σ1 hI=>⟨_,rfl,λR K1 _=> ?_⟩
  have hx:=hI.2.2.1 x (.head _)
  have hs:s.1≤900:=ak (Hk _ _ hI.2.2.1 hI.2.1) (hI.2.2.2▸aO.mpr hn)
  refine oIr λk H=>b4 (Bb (Be bN (bG rfl) bN)) (H _ _ (λe=> ?_) λ_=> ?_)
  ·rw[bB hx.1,bB hx.2] at e
   exact Bool.noConfusion e
  ·refine oA λk H=>b4 (c6 (by nofun) (bR (c6 (by nofun) bN (bG rfl) (f4 (by decide) (by have:=hI.2.1;lia))) (bG rfl)) bN rfl) (H _ _ (okR (K1 (rd s.1 x,some (.int x)) _ (aj _) ⟨hI.1,?_,λd m=>hI.2.2.1 d (.tail _ m),hI.2.2.2⟩)))
   have:=hI.2.1
   have:=hx.1
   show 0≤10*s.1+x-48
   lia
 ·refine λs σ' hI=> ?_
  refine oR λk H=>H (.int s.1) σ' (okR ?_)
  rw[hI.1,show s.1=(n:Int) from hI.2.2.2]
  exact K
theorem vZ{m:Nat}{Q:V×H→Prop}{l:List Int}(hd:∀d∈l,0≤d)(K:Q (.int (csum l),σ)):Ok (cf (m+1) eV [.bytes l] σ) Q:=by
 refine okF (le:=some (.bytes l)::nn 8) rfl rfl ?_
 refine oA λk H=>H (.int 0) _ ?_
 refine oFo λk H=>H (l.map .int) [] _ ?_
 refine dq (S:=Int×Option V) (λs=>some (.bytes l)::some (.int s.1)::s.2::nn 6) (λs todo σ'=>σ'=σ∧(0≤s.1∧s.1≤65535)∧(∀d∈todo,0≤d)∧todo.foldl cs1 s.1=csum l) ?_ ?_ (s:=(0,none)) ⟨rfl,by decide,hd,rfl⟩
 ·refine λs x xs σ1 hI=>⟨_,rfl,λR K1 _=> ?_⟩
  have h0:=hI.2.1.1
  have b1:iop .band s.1 1=some ((s.1.toNat&&&(1:Int).toNat:Nat):Int):=om ⟨h0,by decide⟩
  have b2:iop .shl ((s.1.toNat&&&(1:Int).toNat:Nat):Int) 15=some (((s.1.toNat&&&(1:Int).toNat:Nat):Int)*2^(15:Int).toNat):=om ⟨by decide,by decide,F9 (ae Nat.and_le_right (by decide))⟩
  have b3:iop .band (s.1/2^(1:Int).toNat+((s.1.toNat&&&(1:Int).toNat:Nat):Int)*2^(15:Int).toNat+x) 65535=some (cs1 s.1 x):=om ⟨Int.add_nonneg (Int.add_nonneg (Int.ediv_nonneg h0 (by decide)) (Int.mul_nonneg (aC _) (by decide))) (hI.2.2.1 x (.head _)),by decide⟩
  refine oA λk H=>b4 (c6 (by nofun) (bR (bR (c6 (by nofun) (bG rfl) bN (om (by decide))) (c6 (by nofun) (c6 (by nofun) (bG rfl) bN b1) bN b2)) (bG rfl)) bN b3) (H _ _ (okR (K1 (cs1 s.1 x,some (.int x)) _ (aj _) ⟨hI.1,⟨aC _,aO.mpr Nat.and_le_right⟩,λd m=>hI.2.2.1 d (.tail _ m),hI.2.2.2⟩)))
 ·refine λs σ' hI=> ?_
  refine oR λk H=>H (.int s.1) σ' (okR ?_)
  rw[hI.1,show s.1=csum l from hI.2.2.2]
  exact K
end
theorem uM(f s:Int):nib f s<16:=Nat.lt_succ_of_le Nat.and_le_right
noncomputable def dI(i:Int):List Int:=dec i.toNat
noncomputable def Nu(i:Int):Prop:=0≤i∧i≤900
noncomputable def oh(w h x y:Int):List Int:=dM [44] [dI w++[120]++dI h,dI x,dI y]
mutual
noncomputable def oct:T→Int→Int→List Int
 | .mk (.pane p) w h _,x,y=>oh w h x y++[44]++dI p
 | .mk (.box r) w h ps,x,y=>oh w h x y++[if r=true then 123 else 91]++dM [44] (gh r ps x y)++[if r=true then 125 else 93]
noncomputable def gh(r:Bool):List T→Int→Int→List (List Int)
 | [],_,_=>[]
 | t::ts,x,y=>oct t x y::gh r ts (nx r x t.w) (nx (!r) y t.h)
end
mutual
noncomputable def Nm:T→Int→Int→Prop| .mk k w h ps,x,y=>(Nu w∧Nu h∧Nu x∧Nu y∧Nu k.p)∧NmL k.r ps x y
noncomputable def NmL(r:Bool):List T→Int→Int→Prop
 | [],_,_=>True
 | t::ts,x,y=>Nm t x y∧NmL r ts (nx r x t.w) (nx (!r) y t.h)
end
section
variable{σ:H}{d:D}
theorem wH{m:Nat}{Q:V×H→Prop}{f:Int}(h0:0≤f)(K:∀σ',Kp σ σ'→Q (.bytes (hx f),σ')):Ok (cf (m+1) eX [.int f] σ) Q:=by
 refine okF (le:=some (.int f)::nn 6) rfl rfl ?_
 refine oR λk H=>okB (dB (v:=V.int) (xs:=[12,8,4,0]) (S:=Option V) (λq=>some (.int f)::q::nn 5) (λs:Int=>[V.int (pS (nib f s))]) (s:=none) (aj _) ?_ λσ2 k2=> ?_)
 ·refine λs m q σ1 k1=>⟨some (.int s),rfl,λR K1=> ?_⟩
  have hs:0≤s:=by
   rcases aE.mp m with rfl|m
   ·decide
   ·rcases aE.mp m with rfl|m
    ·decide
    ·rcases aE.mp m with rfl|m
     ·decide
     ·cases aI.mp m
      decide
  refine b4 (f8 (u:=Gw) (w:= .int (nib f s)) bN (c6 (by nofun) (c6 (by nofun) (bG rfl) (bG rfl) (om hs)) bN (om ⟨Int.ediv_nonneg h0 (Int.pow_nonneg (by decide)),by decide⟩)) ?_) (okR (K1 _ .rfl))
  show gd (0≤((nib f s:Nat):Int)) ((Gs[((nib f s:Nat):Int).toNat]?).bind λc=>some (V.int c))=_
  rw[om (aC _),bg,(AX _ (uM f s)).1]
  rfl
 ·refine okL (bH (bK (bM σ2 (.list ((hx f).map V.int))))) (qV (is:=hx f) (okG ?_ (H _ _ (okR (K _ (k2.trans (bI (bM σ2 _))))))))
  have b:∀s,(decide (0≤pS (nib f s))&&decide (pS (nib f s)<256))=true:=λs=>ar.mpr ⟨bB (AX _ (uM f s)).2.1,bB (AX _ (uM f s)).2.2⟩
  exact List.all_eq_true.mpr (ao.mpr ⟨b 12,ao.mpr ⟨b 8,ao.mpr ⟨b 4,ai.mpr (b 0)⟩⟩⟩)
theorem o8{m:Nat}{Q:V×H→Prop}{i:Int}(hi:Nu i)(K:∀σ',Kp σ σ'→Q (.bytes (dI i),σ')):Ok (cf (m+1) cn [.int i] σ) Q:=by
 have e:i=(i.toNat:Int):=(Int.toNat_of_nonneg hi.1).symm
 have:=lD (σ:=σ) (m:=m) (n:=i.toNat) (Q:=Q) (aO.mp (e▸hi.2)) K
 rwa [←e] at this
theorem F1{x y:Int}(h:Nm d.t x y):Nu d.w∧Nu d.h∧Nu x∧Nu y∧Nu d.k.p:=by
 cases d
 exact h.1
theorem AB(s:List Int):∀(L:List (List Int)),∀o∈L,o.length≤(dM s L).length:=by
 intro L
 induction L with
 | nil=>exact aj _
 | cons a L ih =>
  cases L with
  | nil=>exact ai.mpr (aD _)
  | cons b L =>
   refine ao.mpr ⟨?_,λo m=>ae (ih o m) ?_⟩
   ·show a.length≤(a++s++dM s (b::L)).length
    rw[af,aa]
    exact az _ _
   ·show _≤(a++s++dM s (b::L)).length
    rw[aa]
    exact bk _ _
theorem Ab{x y:Int}(h:Nm d.t x y):NmL d.k.r (tL d.ps) x y:=by
 cases d
 exact h.2
theorem z8(r:Bool)(ts:List T):∀x y,(gh r ts x y).length=ts.length:=by
 induction ts with
 | nil=>exact λ_ _=>rfl
 | cons t ts ih=>exact λx y=>congrArg Nat.succ (ih _ _)
theorem IL{β:Type}{L:List (List Int)}{f:List (List Int)→Option β}{Q:β→Prop}(k:Ok (f L) Q):Ok ((cT fw (L.map V.bytes)).bind f) Q:=c7 (fZ (k:=V.bytes) (λ_=>rfl) L) k
theorem HB{β:Type}{b b':Bool}{x y:Option β}{Q:β→Prop}(e:b=b')(h:Ok (if b'=true then x else y) Q):Ok (if b=true then x else y) Q:=e▸h
theorem HD{x y:Int}(e:d.k= .pane d.k.p):oct d.t x y=oh d.w d.h x y++[44]++dI d.k.p:=by
 obtain⟨a,b,x',y',k,w,h',ps⟩:=d
 cases k with
 | pane=>rfl
 | box=>exact nomatch e
theorem HE{x y:Int}{r:Bool}(e:d.k= .box r):oct d.t x y=oh d.w d.h x y++[if r=true then 123 else 91]++dM [44] (gh r (tL d.ps) x y)++[if r=true then 125 else 93]:=by
 obtain⟨a,b,x',y',k,w,h',ps⟩:=d
 cases k with
 | pane=>exact nomatch e
 | box=>cases e;rfl
theorem BH{n:Nat}{Q:V×H→Prop}{x y:Int}(hdp:Dp n d.t)(h:At σ d)(wf:WF d.t)(hp:Pl d x y)(hn:Nm d.t x y)(hl:(oct d.t x y).length≤lim)(K:∀σ',Kp σ σ'→Q (.bytes (oct d.t x y),σ')):Ok (cf (n+1) dX [.ref d.a] σ) Q:=by
 induction n generalizing d σ Q x y with
 | zero=>exact hdp.elim
 | succ n ih =>
  obtain⟨rfl,rfl⟩:=sG hp
  have nu:=F1 hn
  have dl:∀i,Nu i→(dI i).length≤901:=λi hi=>ae (rP _) (aA (Int.toNat_le.mpr hi.2))
  have l1:=dl _ nu.1
  have l2:=dl _ nu.2.1
  have l3:=dl _ nu.2.2.1
  have l4:=dl _ nu.2.2.2.1
  refine okF (le:=some (.ref d.a)::nn 9) rfl rfl ?_
  refine oA λk H=>okI h.c (okC (o8 nu.1 λσ1 k1=>okG ?_ (okI (h.kp k1).c (okC (o8 nu.2.1 λσ2 k2=>okG ?_ (H _ _ ?_))))))
  ·exact ae (aA l1) (by decide)
  ·rw[aa]
   exact ae (bq (aA l1) l2) (by decide)
  have k2:=k1.trans k2
  have ho:(oh d.w d.h d.x d.y).length≤4000:=by
   show((dI d.w++[120]++dI d.h)++[44]++(dI d.x++[44]++dI d.y)).length≤4000
   rw[aa,aa,aa,aa,aa,aa]
   exact ae (bq (bq (bq (aA l1) l2) (aD 1)) (bq (bq l3 (aD 1)) l4)) (by decide)
  refine oA λk H=>okI (h.kp k2).c (okC (o8 nu.2.2.1 λσ3 k3=>okI (h.kp (k2.trans k3)).c (okC (o8 nu.2.2.2.1 λσ4 k4=>okL (bH (bK (bM σ4 (.list [.bytes (dI d.w++[120]++dI d.h),.bytes (dI d.x),.bytes (dI d.y)])))) (okG ⟨Nat.succ_pos _,ae ho (by decide)⟩ (H (.bytes (oh d.w d.h d.x d.y)) _ ?_))))))
  have k5:=((k2.trans k3).trans k4).trans (bI (bM σ4 (.list [.bytes (dI d.w++[120]++dI d.h),.bytes (dI d.x),.bytes (dI d.y)])))
  generalize σ4++_=σ5 at k5⊢
  refine oIr λk H=>okI (h.kp k5).c (H _ _ (λe=> ?_) λe=> ?_)
  ·have e:=n5 e
   rw[HD e] at hl K
   rw[aa] at hl
   refine okG (ae (by rw[aa];exact aD _) (ae (az _ _) hl)) (okI (h.kp k5).c ?_)
   refine okC ?_
   rw[k_v e]
   exact o8 nu.2.2.2.2 λσ6 k6=>okG hl (okR (K _ (k5.trans k6)))
  ·have e:=s9 e
   rw[HE e] at hl K
   have la:∀a b:List Int,a.length≤(a++b).length:=λa b=>by rw[aa];exact az _ _
   have lr:∀a b:List Int,b.length≤(a++b).length:=λa b=>by rw[aa];exact bk _ _
   have h3:=ae (la _ _) hl
   have hj:(dM [44] (gh d.k.r (tL d.ps) d.x d.y)).length≤lim:=ae (lr _ _) h3
   have hb:=AB [44] (gh d.k.r (tL d.ps) d.x d.y)
   refine oA λk H=>okI (h.kp k5).c (dN (h.kp k5).l ?_)
   refine okB (wu (S:=Option V×Int×Int) (λq=>some (.ref d.a)::some (.bytes (dI d.w++[120]++dI d.h))::some (.bytes (oh d.w d.h d.x d.y))::none::q.1::nn 5)
    (λq todo acc σ'=>Kp σ5 σ'∧PlL d.k.r todo q.2.1 q.2.2∧NmL d.k.r (tL todo) q.2.1 q.2.2∧(∀e∈todo,e∈d.ps)∧(∀o∈gh d.k.r (tL todo) q.2.1 q.2.2,o.length≤lim)∧acc++(gh d.k.r (tL todo) q.2.1 q.2.2).map V.bytes=(gh d.k.r (tL d.ps) d.x d.y).map V.bytes) ?_ (λq l σ' hI=> ?_) (s:=(none,d.x,d.y)) ⟨.rfl,zG hp,Ab hn,λ_ m=>m,λo m=>ae (hb o m) hj,rfl⟩)
   ·refine λq x xs acc σ1 hI=>⟨(some (rf x),q.2),rfl,λR K1=> ?_⟩
    have hx:=hI.2.2.2.1 x (.head _)
    refine okC (ih (kc hdp x hx) ((h.ps x hx).kp (k5.trans hI.1)) (xc wf x hx) hI.2.1.1 hI.2.2.1.1 (hI.2.2.2.2.1 _ (.head _)) λσ2 k2=>okR (K1 _ _ (some (rf x),nx d.k.r q.2.1 x.w,nx (!d.k.r) q.2.2 x.h) (ai.mpr (bQ (h.kp ((k5.trans hI.1).trans k2)).l)) rfl ⟨hI.1.trans k2,hI.2.1.2,?_,λe m=>hI.2.2.2.1 e (.tail _ m),?_,?_⟩))
    ·rw[←t_w,←t_h]
     exact hI.2.2.1.2
    ·rw[←t_w,←t_h]
     exact λo m=>hI.2.2.2.2.1 o (.tail _ m)
    ·rw[←t_w,←t_h,af]
     exact hI.2.2.2.2.2
   ·have el:=(aw _).symm.trans hI.2.2.2.2.2
    have hlen:(gh d.k.r (tL d.ps) d.x d.y).length=d.ps.length:=by rw[z8,gO]
    rw[el]
    have t6:=bM σ' (.list ((gh d.k.r (tL d.ps) d.x d.y).map V.bytes))
    have k6:=(k5.trans hI.1).trans (bI t6)
    refine okG (by show(List.map _ _).length≤lim;rw[ah,hlen];exact ae (jC hdp) (by decide)) (okL (bH (bK t6)) (IL (okG ⟨by rw[hlen];exact List.length_pos_iff.mpr (vO wf e),hj⟩ (H _ _ ?_))))
    refine oR λk H=>okI (h.kp k6).c (HB (kk e) ?_)
    have h4:=ae (la _ _) h3
    refine fB (λer=> ?_) λer=> ?_
    ·rw[if_pos er,if_pos er] at hl K
     rw[if_pos er] at h3 h4
     exact okG (by rw[←aa];exact h4) (okG (by rw[←aa];exact h3) (okG (by rw[←aa];exact hl) (H _ _ (okR (K _ k6)))))
    ·have er:=ne_true_of_eq_false er
     rw[if_neg er,if_neg er] at hl K
     rw[if_neg er] at h3 h4
     exact okG (by rw[←aa];exact h4) (okG (by rw[←aa];exact h3) (okG (by rw[←aa];exact hl) (H _ _ (okR (K _ k6)))))
end
noncomputable def rdO(O_:List Int)(a dep:Nat):O:= .inst 1 [.bytes O_,.int a,.int dep]
theorem wT{F:FT}{le:Le}{σ:H}{a b:E}(ha:Ev F le σ a (.bool false)):Ev F le σ (.and a b) (.bool false):=λβ k=>ha _
theorem BK{σ:H}{P R:List Int}{c:Int}{k:Int}(h:k=(P.length:Int)):gD σ (.bytes (P++c::R)) (.int k)=some (.int c):=by
 subst h
 show gd (0≤(P.length:Int)) (((P++c::R)[(P.length:Int).toNat]?).bind _)=_
 rw[om (aC _),bg,aX (aD _),Nat.sub_self]
 rfl
theorem oS{F:FT}{le:Le}{σ:H}{a b c:E}{l r:List Int}{u w:V}(ha:Ev F le σ a (.bytes l))(hb:Ev F le σ b u)(hc:Ev F le σ c w)(h:cut l u w=some r):Ev F le σ (.slc a b c) (.bytes r):=λβ k=>(ha _).trans ((hb _).trans ((hc _).trans (bnd h)))
theorem wZ{N n:Nat}{k:Int}(h:k=(n:Int))(hn:n≤N):clip N k=n:=by
 subst h
 rw[clip,wrap,if_neg (bx.mpr (aC n)),Int.min_eq_left (aO.mpr hn),Int.max_eq_right (aC n),bg]
theorem GL{l:List Int}{i j:Int}{a b:Nat}(e1:clip l.length i=a)(e2:clip l.length j=b):cut l (.int i) (.int j)=some ((l.drop a).take (b-a)):=by
 subst e1
 subst e2
 rfl
theorem pc{P M R:List Int}{i j:Int}(hi:i=(P.length:Int))(hj:j=(P.length:Int)+(M.length:Int)):cut (P++M++R) (.int i) (.int j)=some M:=by
 have e1:clip (P++M++R).length i=P.length:=wZ hi (by rw[af,aa];exact az _ _)
 have e2:clip (P++M++R).length j=P.length+M.length:=wZ hj (by rw[aa,aa];exact az _ _)
 rw[GL e1 e2,af,List.drop_left,Nat.add_sub_cancel_left,List.take_left]
theorem y4:∀(l:List Int) (i:Nat),i<l.length→∃X c Y,l=X++c::Y∧X.length=i:=by
 intro l
 induction l with
 | nil=>exact λi h=>absurd h (Nat.not_lt_zero _)
 | cons a l ih =>
  intro i h
  cases i with
  | zero=>exact⟨[],a,l,rfl,rfl⟩
  | succ i =>
   obtain⟨X,c,Y,e,hx⟩:=ih i (Nat.lt_of_succ_lt_succ h)
   exact⟨a::X,c,Y,congrArg (a::·) e,congrArg Nat.succ hx⟩
theorem rM{F:FT}{le:Le}{σ:H}{e:E}{l:List Int}(he:Ev F le σ e (.bytes l)):Ev F le σ (.bi .len [e]) (.int l.length):=λβ k=>he _
theorem FU{β:Type}{F:FT}{f:Nat}{e:E}{le:Le}{σ:H}{k:V→H→Option β}{Q:β→Prop}{v:V}(he:Ev F le σ e v)(h:Ok ((F f [v] σ).bind λr=>k r.1 r.2) Q):Ok (evK F (.call f [e]) le σ k) Q:=b4 (k:=λx σ=>(F f [x] σ).bind λr=>k r.1 r.2) he h
theorem scan{F:FT}{le:Le}{σ:H}{a1 a2:E}{O_:List Int}{e lim_:Nat}(ha:∀a∈[a1,a2],Ev F le σ a (.bytes O_))(hv:slot le 1=some (.int e))(hc:∀c R,∀A,A.length=e→O_=A++c::R→(e<lim_↔isD c))(hl:lim_≤O_.length)(he:e≤lim_) :
  Ev F le σ (.and (.cmp .lt (.var 1) (.bi .len [a1])) (.cmp2 .le .le (.lit (.int 48)) (.idx a2 (.var 1)) (.lit (.int 57)))) (.bool (decide (e<lim_))):=by
 by_cases q:e<O_.length
 ·obtain⟨A,c,B,eq,hA⟩:=y4 O_ e q
  have hd:=hc c B A hA eq
  have:=d6 (fF (x:=(e:Int)) (bG hv) (rM (ha a1 (.head _)))) (Be (x:=48) (z:=57) bN (f8 (ha a2 (.tail _ (.head _))) (bG hv) (eq▸BK (P:=A) (by rw[hA]))) bN)
  rw[bB (aP.mpr q),Bool.true_and,←Bool.decide_and] at this
  rwa [show decide (e<lim_)=decide (48≤c∧c≤57) from decide_eq_decide.mpr hd]
 ·have:=wT (b:= .cmp2 .le .le (.lit (.int 48)) (.idx a2 (.var 1)) (.lit (.int 57))) (fF (x:=(e:Int)) (bG hv) (rM (ha a1 (.head _)))|>λh=>by rwa [decide_eq_false (λz=>q (aP.mp z))] at h)
  rwa [show decide (e<lim_)=false from decide_eq_false λz=>q (be z hl)]
section
variable{σ:H}
theorem zb{m:Nat}{Q:V×H→Prop}{s a dep:Nat}{P R:List Int}{c:Int}{L:List (List Int)}(h:σ[s]? =some (rdO (P++[c]++R) P.length dep))(hm:[c]∈L)
  (K:∀σ',Tr [(s,rdO (P++[c]++R) P.length dep)] σ [(s,rdO (P++[c]++R) (P.length+1) dep)] σ'→Q (.bytes [c],σ')):Ok (cf (m+1) gI [.ref s,.tup (L.map .bytes)] σ) Q:=by
 have hi:=bU h
 refine okF (le:=some (.ref s)::some (.tup (L.map .bytes))::nn 7) rfl rfl ?_
 have e0:Ev (cf m) (some (.ref s)::some (.tup (L.map .bytes))::nn 7) σ (.attr (.var 0) 1 1) (.int P.length):=dg (bG rfl) hi rfl
 refine oA λk H=>b4 (oS (dg (bG rfl) hi rfl) e0 (bR e0 bN) (pc rfl rfl)) (H _ _ ?_)
 refine oIf λk H=>b4 (wQ (p:=false) (q:=false) (λβ k=>rfl) (cr (u:= .bytes [c]) (w:= .tup (L.map .bytes)) (bG rfl) (bG rfl) ?_)) (H _ _ (λe=>Bool.noConfusion e) λ_=>oN ?_)
 ·show neg ((cT fw (L.map V.bytes)).bind λl=>some (l.contains [c]))=_
  rw[fZ (k:=V.bytes) (λ_=>rfl),show(some L).bind (λl=>some (l.contains [c]))=some (L.contains [c]) from rfl,List.contains_iff_mem.mpr hm]
  rfl
 ·refine okI hi (okI hi ?_)
  refine oR λk H=>H _ _ (okR (K _ dm))
theorem CU{n e:Nat}{P R A B:List Int}{c:Int}(hR:∀c R',R=c::R'→¬isD c)(h1:P.length≤e)(h2:e≤P.length+(dec n).length)(hA:A.length=e)(eq:P++dec n++R=A++c::B):e<P.length+(dec n).length↔isD c:=by
 have h:(P++dec n++R)[e]? =some c:=by
  rw[eq,←hA,aX (aD _),Nat.sub_self]
  rfl
 constructor
 ·intro q
  rw[af,aX h1,List.getElem?_append_left (by omega)] at h
  exact wX n c (List.mem_of_getElem? h)
 ·intro q
  refine Nat.lt_of_le_of_ne h2 λr=> ?_
  rw[aX (by rw[aa,r];exact aD _),aa,r,Nat.sub_self] at h
  cases R with
  | nil=>exact nomatch h
  | cons x R'=>exact hR x R' rfl (Option.some.inj h▸q)
theorem CT{m n:Nat}{Q:V×H→Prop}{s dep:Nat}{P R:List Int}(hn:n≤900)(hR:∀c R',R=c::R'→¬isD c)(h:σ[s]? =some (rdO (P++dec n++R) P.length dep))
  (K:∀σ',Tr [(s,rdO (P++dec n++R) P.length dep)] σ [(s,rdO (P++dec n++R) (P.length+(dec n).length) dep)] σ'→Q (.int n,σ')):Ok (cf (m+2) fh [.ref s] σ) Q:=by
 have hi:=bU h
 have htk:∀{σ':H},Kp σ σ'→∀{le:Le},slot le 0=some (.ref s)→∀{f:Nat} {v:V},[V.bytes (P++dec n++R),.int P.length,.int dep][f]? =some v→Ev (cf (m+1)) le σ' (.attr (.var 0) 1 f) v:=λ{σ'} kk {le} h0 {f v} hv=>dg (bG h0) (dE kk hi) hv
 have ht:∀{i:Nat} {le:Le},slot le 0=some (.ref s)→∀{f:Nat} {v:V},[V.bytes (P++dec n++R),.int P.length,.int dep][f]? =some v→Ev (cf (m+1)) le σ (.attr (.var 0) 1 f) v:=λ{i le} h0 {f v} hv=>htk .rfl h0 hv
 refine okF (le:=some (.ref s)::nn 8) rfl rfl ?_
 refine oA λk H=>b4 (ht (i:=0) rfl rfl) (H (.int P.length) _ ?_)
 refine oW (zU (S:=Nat) (λe=>some (.ref s)::some (.int e)::nn 7) (λm' e σ'=>σ'=σ∧P.length≤e∧m'+e=P.length+(dec n).length) ?_ (m:=(dec n).length) (s:=P.length) ⟨rfl,aD _,bn _ _⟩ (ax (rP n) (ax (aA hn) (by decide))))
 intro m' e σ1 hI R1 K1 K2
 have hl:P.length+(dec n).length≤(P++dec n++R).length:=by rw[aa,aa];exact az _ _
 have he:e≤P.length+(dec n).length:=hI.2.2▸bk _ _
 rw[hI.1]
 refine b4 (scan (O_:=P++dec n++R) (ao.mpr ⟨ht (i:=0) rfl rfl,ai.mpr (ht (i:=0) rfl rfl)⟩) rfl (λc B A hA eq=>CU hR hI.2.1 he hA eq) hl he) (okR ?_)
 cases ec:decide (e<P.length+(dec n).length) with
 | true =>
  have ec:=bA ec
  exact K1 σ λR2 K3=>okR (K3 (m'-1) (e+1) σ (EH hI.2.2 ec).1 ⟨rfl,aV hI.2.1,(EH hI.2.2 ec).2⟩)
 | false =>
  have ec:e=P.length+(dec n).length:=Nat.le_antisymm he (Nat.le_of_not_lt (of_decide_eq_false ec))
  refine K2 σ ?_
  rw[ec]
  have es:∀{σ':Mine.Internal.H},Kp σ σ'→∀{le:Le},slot le 0=some (.ref s)→slot le 1=some (.int ((P.length+(dec n).length:Nat):Int))→Ev (cf (m+1)) le σ' (.slc (.attr (.var 0) 1 0) (.attr (.var 0) 1 1) (.var 1)) (.bytes (dec n)):=λ{σ'} kk {le} h0 h1=>oS (htk kk h0 rfl) (htk kk h0 rfl) (bG h1) (pc rfl rfl)
  refine oA λk H=>FU (es .rfl rfl rfl) (okC (uI (by rw[dec,DN];simp) (wX n) (DM n) hn (H _ _ ?_)))
  refine oIf λk H=>okC (lD hn λσ2 k2=> ?_)
  refine b4 (k:=λy σ=>(cmpop .ne (.bytes (dec n)) y σ).bind λc=>(b6 (.bool c)).bind λd=>k (.bool d) σ) (es k2 rfl rfl) ?_
  refine nC (b':=false) (by rw[bC];rfl) (H _ _ (λe=>Bool.noConfusion e) λ_=>oN ?_)
  refine oSA λk H=>b4 (bG rfl) (H _ _ λk2' H2=>b4 (bG rfl) (H2 s _ σ2 (dE k2 hi) (show 1<3 by decide) ?_))
  exact oR λk H=>H _ _ (okR (K _ ((Tr.rfl.kp k2).trans dm)))
end
section
variable{σ:H}
theorem qO{m:Nat}{Q:V×H→Prop}{s a dep:Nat}{O_ P R:List Int}{c:Int}{L:List (List Int)}(eO:O_=P++[c]++R)(ea:a=P.length)(h:σ[s]? =some (rdO O_ a dep))(hm:[c]∈L)
  (K:∀σ',Tr [(s,rdO O_ a dep)] σ [(s,rdO O_ (a+1) dep)] σ'→Q (.bytes [c],σ')):Ok (cf (m+1) gI [.ref s,.tup (L.map .bytes)] σ) Q:=by
 subst eO ea
 exact zb (a:=0) h hm K
theorem uJ{m n:Nat}{Q:V×H→Prop}{s a dep:Nat}{O_ P R:List Int}(eO:O_=P++dec n++R)(ea:a=P.length)(hn:n≤900)(hR:∀c R',R=c::R'→¬isD c)(h:σ[s]? =some (rdO O_ a dep))
  (K:∀σ',Tr [(s,rdO O_ a dep)] σ [(s,rdO O_ (a+(dec n).length) dep)] σ'→Q (.int n,σ')):Ok (cf (m+2) fh [.ref s] σ) Q:=by
 subst eO ea
 exact CT hn hR h K
theorem m8{m n:Nat}{Q:Fl×Le×H→Prop}{σ0:H}{X:List (Nat×O)}{s nl a dep:Nat}{l:List V}{O_ P R:List Int}{c:Int}(t:Tr X σ0 [(nl,.list l),(s,rdO O_ a dep)] σ)(o:Own σ0 X)(eO:O_=P++[c]++(dec n++R))(ea:a=P.length)(hn:n≤900)(hR:∀c R',R=c::R'→¬isD c)(hl:l.length≤9)
  (K:∀σ',Tr X σ0 [(nl,.list (l++[.int n])),(s,rdO O_ (a+1+(dec n).length) dep)] σ'→Q (.next,some (.ref s)::some (.ref nl)::some (.bytes [c])::nn 10,σ')) :
  Ok (bT (cf (m+2)) (rH (fg.body[1]?.getD .fail)) (some (.ref s)::some (.ref nl)::some (.bytes [c])::nn 10) σ gv) Q:=by
 have hs:=(t.get o).1 (s,_) (.tail _ (.head _))
 refine oE λk H=>okI (bU hs) (okC (qO (L:=[[c]]) eO ea hs (.head _) λσ1 t1=>H _ _ ?_))
 have t2:=t.trans (t1.le [(nl,.list l)])
 have hs2:=(t2.get o).1 (s,_) (.tail _ (.head _))
 have hl2:=bH ((t2.get o).1 (nl,_) (.head _))
 refine oE λk H=>okG (rcv hl2) (okI (bU hs2) (okC (uJ (P:=P++[c]) (eO.trans (af _ _ _).symm) (by rw[ea,aa];rfl) hn hR hs2 λσ3 t3=> ?_)))
 have t4:=t2.trans (t3.le [(nl,.list l)])
 refine okL (bH ((t4.get o).1 (nl,_) (.head _))) (okG (ax hl (by decide)) (H _ _ (okR (K _ ?_))))
 exact t4.trans ((dm (o':= .list (l++[.int n]))).fr [(s,_)])
theorem iW{c:Int}{R:List Int}(h:¬isD c):∀c' R',c::R=c'::R'→¬isD c':=λc' R' e=>(List.cons.inj e).1▸h
theorem HK:¬isD 120:=λh=>absurd h.2 (by decide)
theorem CX:¬isD 44:=λh=>absurd h.1 (by decide)
theorem wj{m:Nat}{Q:V×H→Prop}{w h x y:Nat}{s a dep:Nat}{O_ P R:List Int}(eO:O_=P++(oh w h x y++R))(ea:a=P.length)(hw:w≤900)(hh:h≤900)(hx:x≤900)(hy:y≤900)(hR:∀c R',R=c::R'→¬isD c)(hs:σ[s]? =some (rdO O_ a dep))
  (K:∀nl u σ',Tr [(s,rdO O_ a dep)] σ [(nl,.list [.int w,.int h,.int x,.int y]),(s,rdO O_ (a+(oh w h x y).length) dep)] σ'→Ok (bT (cf (m+2)) (fg.body.drop 2) (some (.ref s)::some (.ref nl)::u::nn 10) σ' dt) Q) :
  Ok (cf (m+3) gJ [.ref s] σ) Q:=by
 have o:=pG hs
 have e1:O_=P++dec w++([120]++(dec h++([44]++(dec x++([44]++(dec y++R)))))):=by
  rw[eO,show oh (w:Int) h x y=(dec w++[120]++dec h)++[44]++(dec x++[44]++dec y) from rfl]
  simp only[af]
 refine okF (le:=some (.ref s)::nn 12) rfl rfl ?_
 refine oA λk H=>okI (bU hs) (okC (uJ e1 ea hw (iW HK) hs λσ1 t1=>H (.ref σ1.length) (σ1++[O.list [.int w]]) ?_))
 have t2:=t1.and (bM σ1 (.list [.int w]))
 refine oFo λk H=>H [.bytes [120],.bytes [44],.bytes [44]] [] _ ?_
 have e2:O_=(P++dec w)++[120]++(dec h++([44]++(dec x++([44]++(dec y++R))))):=by rw[e1,af (P++dec w)]
 have e3:O_=(P++dec w++[120]++dec h)++[44]++(dec x++([44]++(dec y++R))):=by
  rw[e2]
  simp only[af]
 have e4:O_=(P++dec w++[120]++dec h++[44]++dec x)++[44]++(dec y++R):=by
  rw[e3]
  simp only[af]
 refine zY rfl λQ1 K1 _=>m8 t2 o e2 (by rw[ea,aa]) hh (iW CX) (show 1≤9 by decide) λσ3 t3=>K1 _ σ3 (aj _) ?_
 refine zY rfl λQ1 K1 _=>m8 t3 o e3 (by rw[ea];simp only[aa];rfl) hx (iW CX) (show 2≤9 by decide) λσ4 t4=>K1 _ σ4 (aj _) ?_
 refine zY rfl λQ1 K1 _=>m8 t4 o e4 (by rw[ea];simp only[aa];rfl) hy hR (show 3≤9 by decide) λσ5 t5=>K1 _ σ5 (aj _) (okR ?_)
 have el:a+(dec w).length+1+(dec h).length+1+(dec x).length+1+(dec y).length=a+(oh w h x y).length:=by
  rw[show oh (w:Int) h x y=(dec w++[120]++dec h)++[44]++(dec x++[44]++dec y) from rfl]
  simp only[aa,List.length_singleton]
  lia
 exact K _ (some (.bytes [44])) σ5 (el▸t5)
end
theorem oAV{β:Type}{F:FT}{o e:E}{c f i a:Nat}{rest:List S}{le:Le}{σ:H}{K:Fl→Le→H→Option β}{Q:β→Prop}{u v:V}{fs:List V}(he:Ev F le σ e (.tup [u,v]))(ho:Ev F le σ o (.ref a))(hi:cC σ c a=some fs)(hl:f<fs.length)
  (h:Ok (bT F rest (le.set i (some v)) (σ.set a (.inst c (fs.set f u))) K) Q):Ok (bT F (.asgAV o c f i e::rest) le σ K) Q:=by
 show Ok (evK F e le σ _) Q
 refine b4 he ?_
 show Ok (evK F o le σ _) Q
 refine b4 ho ?_
 exact okI hi (okG hl h)
theorem oAA{β:Type}{F:FT}{o e:E}{c f a:Nat}{op:BOp}{rest:List S}{le:Le}{σ:H}{K:Fl→Le→H→Option β}{Q:β→Prop}{x y z:Int}{fs:List V}(ho:Ev F le σ o (.ref a))(hi:cC σ c a=some fs)(hf:fs[f]? =some (.int x))(he:Ev F le σ e (.int y))(hop:iop op x y=some z)
  (h:Ok (bT F rest le (σ.set a (.inst c (fs.set f (.int z)))) K) Q):Ok (bT F (.augA o c f op e::rest) le σ K) Q:=by
 show Ok (evK F o le σ _) Q
 refine b4 ho ?_
 refine okI hi (c7 hf ?_)
 show Ok (evK F e le σ _) Q
 refine b4 he ?_
 show Ok ((iop op x y).bind _) Q
 rw[hop]
 refine okI hi (okG ?_ h)
 exact(aM.mp hf).1
section
variable{σ:H}
theorem wi{m:Nat}{Q:V×H→Prop}{w h x y s nl a dep:Nat}{c:Int}{O_ P R:List Int}{u:Option V}{σ0:H}{X:List (Nat×O)}(t:Tr X σ0 [(nl,.list [.int w,.int h,.int x,.int y]),(s,rdO O_ a dep)] σ)(o:Own σ0 X)(eO:O_=P++[c]++R)(ea:a=P.length)(hc:c=44∨c=123∨c=91)
  (K:∀b ca σ',Tr X σ0 [(s,rdO O_ (a+1) dep),(b,.list []),(ca,.inst 0 [.str 0,.int w,.int h,.int x,.int y,.ref b,.none])] σ'→Ok (bT (cf (m+2)) (fg.body.drop 4) (some (.ref s)::some (.ref nl)::u::some (.bytes [c])::some (.ref ca)::nn 8) σ' dt) Q) :
  Ok (bT (cf (m+2)) (fg.body.drop 2) (some (.ref s)::some (.ref nl)::u::nn 10) σ dt) Q:=by
 have hs:=(t.get o).1 (s,_) (.tail _ (.head _))
 refine oA λk H=>okI (bU hs) (okC (qO (L:=[[44],[123],[91]]) eO ea hs (by rcases hc with rfl|rfl|rfl;exact .head _;exact .tail _ (.head _);exact .tail _ (.tail _ (.head _))) λσ1 t1=>H _ _ ?_))
 have t2:=t.trans (t1.le [(nl,_)])
 have ln:=bH ((t2.get o).1 (nl,_) (.head _))
 refine oA λk H=>okX (dQ (P:=[]) ln rfl) (okX (dQ (P:=[.int w]) ln rfl) (okX (dQ (P:=[.int w,.int h]) ln rfl) (okX (dQ (P:=[.int w,.int h,.int x]) ln rfl) (H _ _ (K σ1.length (σ1++[O.list []]).length _ ?_)))))
 have t3:=(t2.dr (Y:=[_])).and (bM σ1 (.list []))
 have t4:=t3.and (bM _ (.inst 0 [.str 0,.int w,.int h,.int x,.int y,.ref σ1.length,.none]))
 exact t4.perm (.refl _) (eM 3 [[(s,rdO O_ (a+1) dep)],[(_,_)],[(_,_)]] [2,1,0] (by decide) rfl)
theorem Cy{m:Nat}{Q:V×H→Prop}{p s b ca a dep:Nat}{w h x y:Int}{O_ P R:List Int}{u1 u2:Option V}{σ0:H}{X:List (Nat×O)}(t:Tr X σ0 [(s,rdO O_ a dep),(b,.list []),(ca,.inst 0 [.str 0,.int w,.int h,.int x,.int y,.ref b,.none])] σ)(o:Own σ0 X)(eO:O_=P++dec p++R)(ea:a=P.length)(hp:p≤900)(hR:∀c R',R=c::R'→¬isD c)
  (K:∀σ',Tr X σ0 [(s,rdO O_ (a+(dec p).length) dep),(b,.list []),(ca,.inst 0 [.str 0,.int w,.int h,.int x,.int y,.ref b,.int p])] σ'→Q (.ref ca,σ')) :
  Ok (bT (cf (m+2)) (fg.body.drop 4) (some (.ref s)::u1::u2::some (.bytes [44])::some (.ref ca)::nn 8) σ dt) Q:=by
 have hs:=(t.get o).1 (s,_) (.head _)
 refine oIf λk H=>H true _ (λ_=> ?_) λe=>Bool.noConfusion e
 refine oSA λk H=>okI (bU hs) (okC (uJ eO ea hp hR hs λσ1 t1=>H _ _ λk2 H2=> ?_))
 have t2:=t.trans (t1.fr [(b,.list []),(ca,.inst 0 [.str 0,.int w,.int h,.int x,.int y,.ref b,.none])])
 refine b4 (bG rfl) (H2 ca _ σ1 (bU ((t2.get o).1 (ca,_) (.tail _ (.tail _ (.head _))))) (Nat.le_of_ble_eq_true rfl) ?_)
 refine oR λk H=>H _ _ (okR (K _ ?_))
 exact t2.trans ((dm (a:=ca)).le [(s,_),(b,_)])
end
noncomputable def opn(r:Bool):Int:=if r=true then 123 else 91
noncomputable def cls(r:Bool):Int:=if r=true then 125 else 93
noncomputable def Txt(O_ R:List Int)(r:Bool)(a:Nat)(todo:List T)(x y:Int):Prop:=∃P,a=P.length∧O_=P++(match todo with|[]=>R|_=>dM [44] (gh r todo x y)++([cls r]++R))
theorem Ic{F:FT}{le:Le}{σ:H}{r:Bool}(h:slot le 3=some (.bytes [opn r])):Ev F le σ (.ite (.cmp .eq (.var 3) (.lit (.bytes [123]))) (.tup [.lit (.str 1),.lit (.bytes [125])]) (.tup [.lit (.str 2),.lit (.bytes [93])])) (.tup [.str (K.box r).n,.bytes [cls r]]):=λβ k=>by
 show(slot le 3).bind _=_
 rw[h]
 cases r <;> rfl
theorem yD{O_ R:List Int}{r:Bool}{a:Nat}{t:T}{ts:List T}{x y:Int}(h:Txt O_ R r a (t::ts) x y){G:Prop}(k:∀P c R',a=P.length→O_=P++(oct t x y++([c]++R'))→(c=cls r∨c=44)→(([c]==[(44:Int)])= !ts.isEmpty)→([c]∈[[44],[cls r]])→Txt O_ R r (a+(oct t x y).length+1) ts (nx r x t.w) (nx (!r) y t.h)→G):G:=by
 obtain⟨P,ea,eO⟩:=h
 cases ts with
 | nil =>
  refine k P (cls r) R ea eO (.inl rfl) (by cases r <;> rfl) (.tail _ (.head _)) ⟨P++oct t x y++[cls r],?_,?_⟩
  ·rw[ea,aa,aa]
   rfl
  ·rw[eO,af,af]
   rfl
 | cons t2 ts =>
  have e2:O_=P++(oct t x y++([44]++(dM [44] (gh r (t2::ts) (nx r x t.w) (nx (!r) y t.h))++([cls r]++R)))):=by
   rw[eO]
   show P++((oct t x y++[44]++dM [44] (gh r (t2::ts) (nx r x t.w) (nx (!r) y t.h)))++_)=_
   rw[af,af]
  refine k P 44 _ ea e2 (.inr rfl) rfl (.head _) ⟨P++oct t x y++[44],?_,?_⟩
  ·rw[ea,aa,aa]
   rfl
  ·rw[e2,af,af]
theorem bp1{α:Type}(S D B C L:List α):((S++D)++(B++(C++L))).Perm (B++(S++(C++(D++L)))):=by
 rw[af]
 exact eM 5 [B,S,C,D,L] [1,3,0,2,4] (by decide) rfl
theorem bp2{α:Type}(B S C D L:List α):(B++(S++(C++(D++L)))).Perm (S++(B++(C++(D++L)))):=eM 5 [S,B,C,D,L] [1,0,2,3,4] (by decide) rfl
structure Bx where
 op:Bool
 x:Int
 y:Int
 a:Nat
 ds:List D
 ts:List T
noncomputable def leK(s:Nat)(u1 u2:Option V)(r:Bool)(ca:Nat)(op:Bool):Le:=some (.ref s)::u1::u2::some (.bytes [opn r])::some (.ref ca)::some (.bytes [cls r])::some (.bool op)::nn 6
section
variable{σ:H}
theorem Fu{m:Nat}{Q:V×H→Prop}{s b ca a dep:Nat}{r:Bool}{w h x y:Int}{O_ R:List Int}{ts:List T}{u1 u2:Option V}{σ0:H}{X:List (Nat×O)}(t:Tr X σ0 [(s,rdO O_ a dep),(b,.list []),(ca,.inst 0 [.str 0,.int w,.int h,.int x,.int y,.ref b,.none])] σ)(o:Own σ0 X)(hd:dep<50)(hts:ts≠[])(hl:ts.length≤99)(ht:Txt O_ R r a ts x y)(hn:NmL r ts x y)(hR:∀c R',R=c::R'→¬isD c)
  (rec:∀t∈ts,∀{σ:H} {x y:Int} {P R:List Int} {a:Nat} {Q:V×H→Prop},O_=P++(oct t x y++R)→a=P.length→Nm t x y→(∀c R',R=c::R'→¬isD c)→σ[s]? =some (rdO O_ a (dep+1))→(∀d σ',d.t=t→Pl d x y→Tr [(s,rdO O_ a (dep+1))] σ ((s,rdO O_ (a+(oct t x y).length) (dep+1))::objs d) σ'→Q (.ref d.a,σ'))→Ok (cf (m+2) gJ [.ref s] σ) Q)
  (K:∀ds a' σ',tL ds=ts→PlL r ds x y→a'+R.length=O_.length→Tr X σ0 ((s,rdO O_ a' dep)::(b,.list (refs ds))::(ca,.inst 0 [.str (L.K.box r).n,.int w,.int h,.int x,.int y,.ref b,.none])::bO ds) σ'→Q (.ref ca,σ')) :
  Ok (bT (cf (m+2)) (fg.body.drop 4) (some (.ref s)::u1::u2::some (.bytes [opn r])::some (.ref ca)::nn 8) σ dt) Q:=by
 have hs:=(t.get o).1 (s,_) (.head _)
 have hca:=(t.get o).1 (ca,_) (.tail _ (.tail _ (.head _)))
 refine oIf λk H=>nC (b':=false) (by cases r <;> rfl) (H _ _ (λe=>Bool.noConfusion e) λ_=>oN ?_)
 refine oIf λk H=>okI (bU hs) (H (icmp .ge (dep:Int) 50) _ (λe=>absurd (aO.mp (bA e)) (Nat.not_le_of_lt hd)) λ_=>oN ?_)
 refine oAV (Ic rfl) (bG rfl) (bU hca) (Nat.le_of_ble_eq_true rfl) ?_
 have t1:=t.trans ((dm (a:=ca) (o':= .inst 0 [.str (L.K.box r).n,.int w,.int h,.int x,.int y,.ref b,.none])).le [(s,rdO O_ a dep),(b,.list [])])
 refine oA λk H=>H (.bool true) _ ?_
 have hs1:=(t1.get o).1 (s,_) (.head _)
 refine oAA (bG rfl) (bU hs1) (x:=dep) (y:=1) (z:=dep+1) rfl bN rfl ?_
 have t2:=t1.trans ((dm (a:=s) (o':=rdO O_ a (dep+1))).fr [(b,.list []),(ca,.inst 0 [.str (L.K.box r).n,.int w,.int h,.int x,.int y,.ref b,.none])])
 refine oW (zU (S:=Bx) (λst=>leK s u1 u2 r ca st.op) (λm' st σ'=>∀G:Prop,(st.op=(!st.ts.isEmpty)→m'=st.ts.length→Tr X σ0 ((s,rdO O_ st.a (dep+1))::(b,.list (refs st.ds))::(ca,.inst 0 [.str (L.K.box r).n,.int w,.int h,.int x,.int y,.ref b,.none])::bO st.ds) σ'→tL st.ds++st.ts=ts→(∀l,PlL r l st.x st.y→PlL r (st.ds++l) x y)→NmL r st.ts st.x st.y→Txt O_ R r st.a st.ts st.x st.y→G)→G) ?_ (m:=ts.length) (s:=⟨true,x,y,a,[],ts⟩) (λG k=>k (by cases ts;exact absurd rfl hts;rfl) rfl t2 rfl (λ_ p=>p) hn ht) (ax hl (by decide)))
 intro m' st σ1 hI R1 K1 K2
 refine hI _ λeop em t3 et pl hn ht=> ?_
 refine b4 (bG rfl) (okR ?_)
 cases eo:st.op with
 | false =>
  have ets:st.ts=[]:=by
   cases e:st.ts with
   | nil=>rfl
   | cons=>rw[e,eo] at eop;exact Bool.noConfusion eop
  rw[ets] at et ht
  rw[aw] at et
  have hs3:=(t3.get o).1 (s,_) (.head _)
  refine K2 _ (oAA (op:= .sub) (bG rfl) (bU hs3) (x:=((dep+1:Nat):Int)) (y:=1) (z:=dep) rfl bN (congrArg some (bj (dep:Int) 1)) ?_)
  refine oR λk H=>H _ _ (okR (K st.ds st.a _ et (aw st.ds▸pl [] trivial) ?_ (t3.trans ((dm (a:=s) (o':=rdO O_ st.a dep)).fr _))))
  obtain⟨P,ea,eO⟩:=ht
  rw[ea,eO]
  exact aa.symm
 | true =>
  cases ets:st.ts with
  | nil=>rw[ets,eo] at eop;exact Bool.noConfusion eop
  | cons tt rest =>
   rw[ets] at em et hn ht
   refine K1 _ λR2 K3=>yD ht λP c R' ea eO hc ec hm ht2=> ?_
   have o3:=t3.get o
   have hs3:=o3.1 (s,_) (.head _)
   have lb:=bH (o3.1 (b,.list (refs st.ds)) (.tail _ (.head _)))
   have hlen:st.ds.length+(rest.length+1)≤99:=by
    have:=congrArg List.length et
    rw[aa,gO] at this
    exact this▸hl
   have nd:¬isD c:=by
    rcases hc with rfl|rfl
    ·cases r <;> exact λh=>absurd h.2 (by decide)
    ·exact CX
   refine oE λk H=>okI (bU (o3.1 (ca,_) (.tail _ (.tail _ (.head _))))) (okG (rcv lb) (okI (bU hs3) (okC (rec tt (et▸ay _ (.head _)) eO ea hn.1 (iW nd) hs3 λd σ2 ed pd t4=> ?_))))
   have t5:=(t3.trans (t4.fr ((b,.list (refs st.ds))::(ca,.inst 0 [.str (L.K.box r).n,.int w,.int h,.int x,.int y,.ref b,.none])::bO st.ds))).perm (.refl _) (bp1 [(s,_)] (objs d) [(b,.list (refs st.ds))] [(ca,_)] (bO st.ds))
   refine okL (bH ((t5.get o).1 (b,.list (refs st.ds)) (.head _))) (okG (by rw[bV];exact ax (ae (az _ _) hlen) (by decide)) (H _ _ ?_))
   have t6:=(t5.trans ((dm (o':= .list (refs st.ds++[rf d]))).fr _)).perm (.refl _) (bp2 [(b,_)] [(s,_)] [(ca,_)] (objs d) (bO st.ds))
   have t6:=t6.perm (.refl _) ((((gR st.ds d).symm.append_left [(ca,_)]).append_left [(b,_)]).append_left [(s,_)])
   have hs6:=(t6.get o).1 (s,_) (.head _)
   refine oA λk H=>okI (bU hs6) (okC (qO (a:=st.a+(oct tt st.x st.y).length) (P:=P++oct tt st.x st.y) (L:=[[44],[cls r]]) (eO.trans (by rw[af,af])) (by rw[ea,aa]) hs6 hm λσ4 t7=>nC ec (H _ _ (okR (K3 (m'-1) ⟨!rest.isEmpty,nx r st.x tt.w,nx (!r) st.y tt.h,st.a+(oct tt st.x st.y).length+1,st.ds++[d],rest⟩ σ4 ?_ λG k=>k rfl ?_ (by rw[dZ];exact t6.trans (t7.fr _)) ?_ (λl p=> ?_) hn.2 ht2)))))
   ·rw[em]
    exact Nat.lt_succ_self _
   ·rw[em]
    rfl
   ·rw[gb,af]
    exact(congrArg (λz=>tL st.ds++(z::rest)) ed).trans et
   ·rw[af]
    refine pl _ ⟨pd,?_⟩
    rw[←t_w,←t_h,ed]
    exact p
end
theorem z9{i:Int}(h:Nu i){G:Prop}(k:∀n:Nat,n≤900→i=n→G):G:=k i.toNat (Int.toNat_le.mpr h.2) (Int.toNat_of_nonneg h.1).symm
theorem ndo(r:Bool):¬isD (opn r):=by
 cases r
 ·exact λh=>absurd h.2 (by decide)
 ·exact λh=>absurd h.2 (by decide)
theorem zx{n s j:Nat}{O_:List Int}:∀{t:T} {σ:H} {x y:Int} {P R:List Int} {a dep:Nat} {Q:V×H→Prop},Dp n t→WF t→O_=P++(oct t x y++R)→a=P.length→Nm t x y→(∀c R',R=c::R'→¬isD c)→dep+n≤50→σ[s]? =some (rdO O_ a dep)→
  (∀d σ',d.t=t→Pl d x y→Tr [(s,rdO O_ a dep)] σ ((s,rdO O_ (a+(oct t x y).length) dep)::objs d) σ'→Q (.ref d.a,σ'))→Ok (cf (j+n+2) gJ [.ref s] σ) Q:=by
 induction n with
 | zero=>exact λh=>h.elim
 | succ n ih =>
  intro t σ x y P R a dep Q hd wf eO ea hn hR hdep hs K
  cases t with
  | mk k w h ps =>
   obtain⟨⟨nw,nh,nx',ny,np⟩,nl⟩:=hn
   refine z9 nw λw' hw ew=>z9 nh λh' hh eh=>z9 nx' λx' hx ex=>z9 ny λy' hy ey=> ?_
   cases ew;cases eh;cases ex;cases ey
   cases k with
   | pane p =>
    refine z9 np λp' hp ep=> ?_
    cases(show p=_ from ep)
    have hps:ps=[]:=pB wf rfl λ_ _ h=>h
    cases hps
    have e1:O_=P++(oh w' h' x' y'++([44]++(dec p'++R))):=by
     rw[eO]
     show P++((oh _ _ _ _++[44]++dI p')++R)=_
     rw[af,af]
     rfl
    refine wj e1 ea hw hh hx hy (iW CX) hs λnl u σ1 t1=>wi (P:=P++oh w' h' x' y') t1 (pG hs) (by rw[e1,af,af]) (by rw[ea,aa]) (.inl rfl) λb ca σ2 t2=> ?_
    refine Cy (P:=P++oh w' h' x' y'++[44]) (p:=p') t2 (pG hs) (by rw[e1];simp only[af]) (by rw[ea,aa,aa];rfl) hp hR λσ3 t3=> ?_
    have el:a+(oh w' h' x' y').length+1+(dec p').length=a+(oct (.mk (.pane p') w' h' []) x' y').length:=by
     show _=a+((oh _ _ _ _++[44])++dec p').length
     rw[aa,aa,←bo,←bo]
     rfl
    refine K (.mk ca b x' y' (.pane p') w' h' []) σ3 rfl ⟨⟨rfl,rfl⟩,trivial⟩ ?_
    rw[←el]
    exact t3.perm (.refl _) (.cons _ (.swap _ _ _))
   | box r =>
    refine jK wf rfl λh2 hwf _ _ _=> ?_
    have e1:O_=P++(oh w' h' x' y'++([opn r]++(dM [44] (gh r ps x' y')++([cls r]++R)))):=by
     rw[eO]
     show P++((oh _ _ _ _++[opn r]++dM [44] (gh r ps x' y')++[cls r])++R)=_
     rw[af,af,af]
    have hne:ps≠[]:=λq=>by rw[q] at h2;exact absurd h2 (Nat.not_le_of_lt Nat.two_pos)
    refine wj e1 ea hw hh hx hy (iW (ndo r)) hs λnl' u σ1 t1=>wi (P:=P++oh w' h' x' y') t1 (pG hs) (by rw[e1,af,af]) (by rw[ea,aa]) (.inr (by cases r;exact .inr rfl;exact .inl rfl)) λb ca σ2 t2=> ?_
    have tx:Txt O_ R r (a+(oh w' h' x' y').length+1) ps x' y':=by
     refine⟨P++oh w' h' x' y'++[opn r],by rw[ea,aa,aa];rfl,?_⟩
     cases ps with
     | nil=>exact absurd rfl hne
     | cons=>rw[e1,af,af]
    refine Fu t2 (pG hs) (be (Nat.lt_add_of_pos_right (Nat.succ_pos n)) hdep) hne hd.1 tx nl hR (λt mt {σ x y P R a Q} e ea hn hR hs K=>ih (hd.2 t mt) (hwf t mt) e ea hn hR (by lia) hs K) λds a' σ3 et pl ha t3=> ?_
    have el:a'=a+(oct (.mk (.box r) w' h' ps) x' y').length:=by
     rw[eO,aa,aa] at ha
     lia
    rw[←el] at K
    refine K (.mk ca b x' y' (.box r) w' h' ds) σ3 (congrArg (T.mk _ _ _) et) ⟨⟨rfl,rfl⟩,pl⟩ ?_
    exact t3.perm (.refl _) (.cons _ (.swap _ _ _))
theorem tJ(i:Int):∀d∈dI i,0≤d:=λd m=>ak (by decide) (wX _ d m).1
theorem fi{a b:List Int}(h:∀d∈a,0≤d)(k:∀d∈b,0≤d):∀d∈a++b,0≤d:=aH.mpr ⟨h,k⟩
theorem uu{c:Int}(h:0≤c):∀d∈[c],0≤d:=ai.mpr h
theorem ED(w h x y:Int):∀d∈oh w h x y,0≤d:=fi (fi (fi (fi (tJ _) (uu (by decide))) (tJ _)) (uu (by decide))) (fi (fi (tJ _) (uu (by decide))) (tJ _))
theorem Dh:∀L:List (List Int),(∀l∈L,∀d∈l,0≤d)→∀d∈dM [44] L,0≤d:=by
 intro L
 induction L with
 | nil=>exact λ_=>aj _
 | cons a L ih =>
  intro h
  cases L with
  | nil=>exact h a (.head _)
  | cons b L=>exact fi (fi (h a (.head _)) (uu (by decide))) (ih λl m=>h l (.tail _ m))
theorem z7(t:T):∀x y,∀d∈oct t x y,0≤d:=by
 induction t using T.ind with
 | H k w h ps ih =>
  intro x y
  cases k with
  | pane p=>exact fi (fi (ED _ _ _ _) (uu (by decide))) (tJ _)
  | box r =>
   have hl:∀l:List T,(∀t∈l,t∈ps)→∀x y,∀o∈gh r l x y,∀d∈o,0≤d:=by
    intro l
    induction l with
    | nil=>exact λ_ _ _=>aj _
    | cons c cs ih2=>exact λm x y=>ao.mpr ⟨ih c (m c (.head _)) x y,ih2 (λt mt=>m t (.tail _ mt)) _ _⟩
   exact fi (fi (fi (ED _ _ _ _) (uu (by cases r <;> decide))) (Dh _ (hl ps (λ_ m=>m) x y))) (uu (by cases r <;> decide))
noncomputable def ot(t:T):List Int:=hx (csum (oct t 0 0))++[44]++oct t 0 0
section
variable{σ:H}{d:D}
theorem fc{n:Nat}{Q:V×H→Prop}(hdp:Dp n d.t)(h:At σ d)(wf:WF d.t)(hp:Pl d 0 0)(hn:Nm d.t 0 0)(hl:(oct d.t 0 0).length≤900000)(K:∀σ',Kp σ σ'→Q (.bytes (ot d.t),σ')):Ok (cf (n+2) cJ [.ref d.a] σ) Q:=by
 refine okF (le:=some (.ref d.a)::nn 7) rfl rfl ?_
 refine oA λk H=>okC (BH hdp h wf hp hn (ae hl (by decide)) λσ1 k1=>H _ _ ?_)
 refine oR λk H=>okC (vZ (z7 d.t 0 0) (okC (wH (BC _).1 λσ2 k2=>okG ?_ (H _ _ (okR (K _ (k1.trans k2)))))))
 ·show 5+(oct d.t 0 0).length≤lim
  exact ae (aB hl 5) (by decide)
end
theorem y9{β:Type}{σ:H}{a:Nat}{l:List Int}{k:V→H→Option β}{Q:β→Prop}(h:bJ σ a=some (l.map V.int))(hl:l.length<64)(g:Ok (k (.ref σ.length) (σ++[.list ((b5 leI l).map V.int)])) Q):Ok (sr (.ref a) σ k) Q:=by
 show Ok ((σ[a]?).bind _) Q
 rw[bQ h]
 refine okG (by rw[ah];exact hl) ?_
 rw[fZ (k:=V.int) λ_=>rfl]
 exact g
theorem yf{P Q:List Int}{k:Int}(h:k=(P.length:Int)):cut (P++Q) (.int k) .none=some Q:=by
 have e:clip (P++Q).length k=P.length:=wZ h (by rw[aa];exact az _ _)
 show some (((P++Q).drop (clip (P++Q).length k)).take ((P++Q).length-clip (P++Q).length k))=_
 rw[e,List.drop_left,aa,Nat.add_sub_cancel_left,List.take_length]
theorem DU{P Q:List Int}{k:Int}(h:k=(P.length:Int)):cut (P++Q) .none (.int k)=some P:=by
 have e:clip (P++Q).length k=P.length:=wZ h (by rw[aa];exact az _ _)
 show some (((P++Q).drop 0).take (clip (P++Q).length k-0))=_
 rw[e,List.drop_zero,Nat.sub_zero,List.take_left]
theorem ins_perm{α:Type}(le:α→α→Bool)(x:α)(l:List α):(iA le x l).Perm (x::l):=by
 induction l with
 | nil=>exact .refl _
 | cons y l ih =>
  show(if le x y=true then x::y::l else y::iA le x l).Perm _
  cases le x y with
  | true=>exact .refl _
  | false=>exact(ih.cons y).trans (.swap x y l)
theorem gu{α:Type}(le:α→α→Bool)(l:List α):(b5 le l).Perm l:=by
 induction l with
 | nil=>exact .refl _
 | cons x l ih=>exact(ins_perm le x _).trans (ih.cons x)
theorem adj{l:List Int}(h:l.Nodup):∀p∈l.zip (l.drop 1),(p.1==p.2)=false:=by
 induction l with
 | nil=>exact aj _
 | cons a l ih =>
  have h:=aQ.mp h
  cases l with
  | nil=>exact aj _
  | cons b l=>exact ao.mpr ⟨beq_eq_false_iff_ne.mpr λe=>h.1 (by rw[show a=b from e];exact .head _),ih h.2⟩
theorem I6(l:List Int):cut (l.map V.int) (.int 1) .none=some ((l.drop 1).map V.int):=by
 cases l with
 | nil=>rfl
 | cons a l=>exact iI (P:=[.int a]) rfl
theorem FR{p:Pat}{g:Gd}{f:Le→H→Option (List V×H)}{Q:List V×H→Prop}{l l':List V}{le:Le}{σ:H}(e:l=l')(h:Ok (cy p g f l' le σ) Q):Ok (cy p g f l le σ) Q:=e▸h
theorem wr{β:Type}{F:FT}{A:E}{le:Le}{σ:H}{k:V→H→Option β}{Q:β→Prop}(h:Ok (evK F A le σ λx σ=>(b6 x).bind λc=>k (.bool (!c)) σ) Q):Ok (evK F (.not A) le σ k) Q:=h
theorem CP{β:Type}{F:FT}{A B:E}{le:Le}{σ:H}{k:V→H→Option β}{Q:β→Prop}(h:Ok (evK F A le σ λx σ=>(b6 x).bind λc=>if c then k (.bool true) σ else evK F B le σ λy σ=>(b6 y).bind λd=>k (.bool d) σ) Q):Ok (evK F (.or A B) le σ k) Q:=h
theorem Eg{β:Type}{F:FT}{u0 u1 u2:Option V}{σ:H}{k:V→H→Option β}{Q:β→Prop}{a:Nat}{l:List Int}(h:bJ σ a=some (l.map .int))(nd:l.Nodup)(K:∀σ',Kp σ σ'→Ok (k (.bool false) σ') Q) :
  Ok (evK F (.cmp .ne (.compIf (.var 4) (.many [4,5]) (.zip (.var 3) (.slc (.var 3) (.lit (.int 1)) (.lit .none))) (.cmp .eq (.var 4) (.var 5))) (.list [])) (u0::u1::u2::some (.ref a)::none::none::nn 4) σ k) Q:=by
 refine okG (show cw (.many [4,5]) (u0::u1::u2::some (.ref a)::none::none::nn 4)=true from rfl) ?_
 refine okL h ?_
 refine c7 (I6 l) (okL (bL (bI (bM σ _)) h) ?_)
 refine okL (bH (bK (bM σ (.list ((l.drop 1).map V.int))))) ?_
 have t:=bI (bM σ (.list ((l.drop 1).map V.int)))
 refine okB (FR (r4 l (l.drop 1)) (dB (S:=Option V×Option V) (λs=>u0::u1::u2::some (.ref a)::s.1::s.2::nn 4) (λ_=>[]) (s:=(none,none)) (ao.mpr ⟨bQ (bL t h),ai.mpr (bK (bM σ _))⟩) ?_ λσ2 k2=> ?_))
 ·exact λx hx s σ' k'=>⟨(_,_),rfl,λR K1=>b4 (cr (bG rfl) (bG rfl) (congrArg some (adj nd x hx))) (okR (K1 _ .rfl))⟩
 ·rw[List.flatMap_eq_nil_iff.mpr λ_ _=>rfl]
  have t2:=bM σ2 (.list [])
  have e:=bH (bK t2)
  exact c7 (f:=λc=>k (.bool c) _) (congrArg neg (rN (bL (bI (bM _ _)) e) (bH (bK (bM _ (.list [])))))) (K _ ((t.trans k2).trans ((bI t2).trans (bI (bM _ _)))))
section
variable{σ:H}{d:D}
theorem mI{n:Nat}{Q:V×H→Prop}(hdp:Dp n d.t)(h:At σ d)(wf:WF d.t)(hp:Pl d 0 0)(K:∀σ',Kp σ σ'→Q (.bool true,σ')):Ok (cf (n+2) iH [.ref d.a] σ) Q:=by
 refine okF (le:=some (.ref d.a)::nn 6) rfl rfl ?_
 exact oR λk H=>okC (xx hdp h wf hp λσ1 k1=>H _ _ (okR (K σ1 k1)))
theorem Du{β:Type}{m:Nat}{le:Le}{k:V→H→Option β}{Q:β→Prop}{o:List Int}(h0:slot le 0=some (.bytes (hx (csum o)++[44]++o)))(ho:∀d∈o,0≤d)(K:∀σ',Kp σ σ'→Ok (k (.bool false) σ') Q) :
  Ok (evK (cf (m+1)) (.cmp .ne (.call eX [.call eV [.slc (.var 0) (.lit (.int 5)) (.lit .none)]]) (.slc (.var 0) (.lit .none) (.lit (.int 4)))) le σ k) Q:=by
 show Ok (evK (cf (m+1)) (.slc (.var 0) (.lit (.int 5)) (.lit .none)) le σ λx σ=>(cf (m+1) eV [x] σ).bind λr=>(cf (m+1) eX [r.1] r.2).bind λr=>evK (cf (m+1)) (.slc (.var 0) (.lit .none) (.lit (.int 4))) le r.2 λy σ=>(cmpop .ne r.1 y σ).bind λc=>k (.bool c) σ) Q
 refine b4 (oS (bG h0) bN bN (yf (P:=hx (csum o)++[44]) rfl)) (okC (vZ ho (okC (wH (BC _).1 λσ1 k1=> ?_))))
 refine b4 (oS (bG h0) bN bN ((congrArg (λz=>cut z .none (.int 4)) (af _ _ _)).trans (DU (P:=hx (csum o)) rfl))) ?_
 refine nC (b':=false) ?_ (K σ1 k1)
 rw[bC]
 rfl
theorem HF{β:Type}{F:FT}{A B:E}{le:Le}{k:V→H→Option β}{Q:β→Prop}(hA:Ev F le σ A (.bool false))(h:Ok (evK F B le σ λy σ=>(b6 y).bind λd=>k (.bool d) σ) Q):Ok (evK F (.or A B) le σ k) Q :=
 b4 (k:=λx σ=>(b6 x).bind λc=>if c then k (.bool true) σ else evK F B le σ λy σ=>(b6 y).bind λd=>k (.bool d) σ) hA h
theorem sD{n j:Nat}{Q:V×H→Prop}{t:T}(h9:n≤40)(hj:j+n≤98)(hm:(names t).length≤n)(wf:WF t)(hn:Nm t 0 0)(hl:(oct t 0 0).length≤900000)(nd:(names t).Nodup)(K:∀d σ',d.t=t→Pl d 0 0→New σ (objs d) σ'→Q (.ref d.a,σ')) :
  Ok (cf (j+n+3) jg [.bytes (ot t)] σ) Q:=by
 have hd:Dp n t:=fH (ae h9 (by decide)) wf hm
 refine okF (le:=some (.bytes (ot t))::nn 9) rfl rfl ?_
 refine oIf λk H=>HF (cr (p:=false) (oS (bG rfl) bN bN (pc (P:=hx (csum (oct t 0 0))) (M:=[44]) rfl rfl)) bN rfl) (Du rfl (z7 t 0 0) λσ1 k1=>H false σ1 (λe=>Bool.noConfusion e) λ_=>oN ?_)
 refine oA λk H=>H (.ref σ1.length) (σ1++[rdO (ot t) 5 0]) ?_
 have t1:=(Tr.rfl.kp k1:Kp σ σ1).trans (bM σ1 (rdO (ot t) 5 0))
 have hs:=bK t1
 refine oA λk H=>okI (bU hs) (okC (zx (j:=j) hd wf (P:=hx (csum (oct t 0 0))++[44]) (R:=[]) (a:=5) (dep:=0) (by rw[aw];rfl) rfl hn (λc R' e=>nomatch e) (ae (aZ (Nat.zero_add n)) (ae h9 (by decide))) hs λd σ2 ed pd t2=>H _ _ ?_))
 have o2:=t2.get (pG hs)
 have hA:At σ2 d:=cq (b7 (X:=[_]) o2)
 have hO:=o2.1 _ (.head _)
 refine oIf λk H=>b4 (cr (p:=false) (dg (bG rfl) (bU hO) rfl) (rM (bG rfl)) ?_) (H _ _ (λe=>Bool.noConfusion e) λ_=>oN ?_)
 ·exact congrArg some (decide_eq_false (bx.mpr (aO.mpr (aZ (aa (as:=hx (csum (oct t 0 0))++[44]))))))
 have wf2:WF d.t:=ed▸wf
 have hm2:(names d.t).length≤n:=ed▸hm
 have hmj:=ae hm2 (bk n j)
 have hd2:Dp (j+n+1) d.t:=fH (aA hj) wf2 (aV hmj)
 have lh:=ae hm2 h9
 refine oA λk H=>okC (iV hd2 hA (ae lh (by decide)) λa σ3 t3=> ?_)
 refine y9 (bH (bK t3)) (ax lh (by decide)) (H _ _ ?_)
 have t4:=bM σ3 (.list ((b5 leI (names d.t)).map V.int))
 have k4:=(bI t3).trans (bI t4)
 have nd2:(b5 leI (names d.t)).Nodup:=(gu leI _).nodup_iff.mpr (ed▸nd)
 have hl4:=bH (bK t4)
 refine oIf λk H=>CP (wr (okC (mI (fH (aV hj) wf2 hmj) (hA.kp k4) wf2 pd λσ5 k5=> ?_)))
 refine Eg (bL k5 hl4) nd2 λσ6 k6=>H _ _ (λe=>Bool.noConfusion e) λ_=>oN (oR λk H=>H _ _ (okR (K _ _ ed pd ?_)))
 exact(((t1.trans t2).dr (Y:=[_])).kp k4).kp (k5.trans k6)
end
noncomputable abbrev KV:=(Int×Int)×V
noncomputable def dk(l:List KV):List (Int×Int):=l.map (·.1)
structure Dc(l:List KV)(S:Int×Int→Prop)(n:Nat):Prop where
 nd:(dk l).Nodup
 mem:∀p,p∈dk l↔S p
 len:l.length≤n
theorem GI:Dc [] (λ_=>False) 0:=⟨.nil,λ_=>⟨λm=>(bm m).elim,False.elim⟩,aD 0⟩
theorem Cz(k:Int×Int)(v:V)(l:List KV):(∀p,p∈dk (d8 k v l)↔p=k∨p∈dk l)∧((dk l).Nodup→(dk (d8 k v l)).Nodup)∧(d8 k v l).length≤l.length+1:=by
 induction l with
 | nil=>exact⟨λp=>⟨λm=> .inl (aI.mp m),λh=>h.elim (λe=>e▸ .head _) λm=>nomatch m⟩,λ_=>aQ.mpr ⟨bm,.nil⟩,aD 1⟩
 | cons x l ih =>
  show(∀p,p∈dk (if(x.1==k)=true then(x.1,v)::l else x::d8 k v l)↔_)∧(_→(dk (if(x.1==k)=true then(x.1,v)::l else x::d8 k v l)).Nodup)∧(if(x.1==k)=true then(x.1,v)::l else x::d8 k v l).length≤_
  cases e:x.1==k
  ·refine⟨λp=>⟨λm=> ?_,λh=> ?_⟩,λnd=> ?_,aA ih.2.2⟩
   ·rcases aE.mp m with q|m
    ·exact .inr (q▸ .head _)
    ·exact((ih.1 p).mp m).imp_right (.tail _)
   ·rcases h with q|m
    ·exact .tail _ ((ih.1 p).mpr (.inl q))
    ·rcases aE.mp m with q|m
     ·exact q▸ .head _
     ·exact .tail _ ((ih.1 p).mpr (.inr m))
   ·have nd:=aQ.mp nd
    refine aQ.mpr ⟨λm=>((ih.1 x.1).mp m).elim (λq=> ?_) nd.1,ih.2.1 nd.2⟩
    rw[q,bC] at e
    exact Bool.noConfusion e
  ·have e:=bD e
   exact⟨λp=>⟨.inr,λh=>h.elim (λq=>show p∈x.1::dk l from(q.trans e.symm)▸ .head _) id⟩,id,Nat.le_succ _⟩
theorem Dc.put{l:List KV}{S:Int×Int→Prop}{n:Nat}(h:Dc l S n)(k:Int×Int)(v:V):Dc (d8 k v l) (λp=>p=k∨S p) (n+1) :=
 have m:=Cz k v l
 ⟨m.2.1 h.nd,λp=>(m.1 p).trans (or_congr_right (h.mem p)),ae m.2.2 (aA h.len)⟩
theorem Dc.to{l:List KV}{S S':Int×Int→Prop}{n m:Nat}(h:Dc l S n)(k:∀p,S p↔S' p)(hn:n≤m):Dc l S' m:=⟨h.nd,λp=>(h.mem p).trans (k p),ae h.len hn⟩
theorem Dc.merge{e:List KV}:∀{l:List KV} {S:Int×Int→Prop} {n:Nat},Dc l S n→Dc (nY l e) (λp=>p∈dk e∨S p) (n+e.length):=by
 induction e with
 | nil=>exact λh=>h.to (λp=>⟨.inr,λx=>x.elim (λm=>nomatch m) id⟩) (aD _)
 | cons x e ih =>
  refine λ{l S n} h=>(ih (h.put x.1 x.2)).to (λp=> ?_) (aZ (Nat.add_right_comm n 1 e.length))
  rw[←or_assoc,or_comm (b:=p=x.1)]
  exact or_congr_left aE.symm
theorem vq{σ:H}{a:Nat}{l:List KV}{r c:Int}(h:σ[a]? =some (.dT l)):inV σ (.tup [.int r,.int c]) (.ref a)=some (l.any λkv=>kv.1==(r,c)):=by
 show((σ[a]?).bind p0).bind _=_
 rw[h]
 rfl
theorem ES{l:List KV}{k:Int×Int}:(l.any λkv=>kv.1==k)=true↔k∈dk l:=by
 rw[List.any_eq_true]
 exact⟨λh=>h.elim λx h=>bD h.2▸aK h.1,λm=>(bb.mp m).elim λx h=>⟨x,h.1,bF.mpr h.2⟩⟩
section
variable{β:Type}{σ:H}{Q:β→Prop}{a:Nat}{l:List KV}
theorem xF{f:List KV→Option β}(h:σ[a]? =some (.dT l))(k:Ok (f l) Q):Ok (((σ[a]?).bind p0).bind f) Q:=by
 rw[h]
 exact k
theorem IG(h:σ[a]? =some (.dT l)):im .update σ (.ref a)=true:=by
 show((σ[a]?).bind p0).isSome=true
 rw[h]
 rfl
end
theorem ik{a b i:Int}:(∃k∈List.range' 0 (b-a).toNat,i=a+1*((k:Nat):Int))↔a≤i∧i<b:=by
 refine⟨λh=>h.elim λk h=> ?_,λh=>⟨(i-a).toNat,List.mem_range'_1.mpr ⟨bu _,?_⟩,?_⟩⟩
 ·have m:=Int.lt_toNat.mp ((Nat.zero_add _)▸(List.mem_range'_1.mp h.1).2)
  rw[h.2,Int.one_mul]
  exact⟨aJ (aC k),Int.add_lt_of_lt_sub_left m⟩
 ·rw[Nat.zero_add]
  exact(Int.toNat_lt_toNat (Int.sub_pos_of_lt (Int.lt_of_le_of_lt h.1 h.2))).mpr (Int.sub_lt_sub_right h.2 a)
 ·rw[Int.one_mul,Int.toNat_of_nonneg (Int.sub_nonneg_of_le h.1),Int.add_comm,Int.sub_add_cancel]
theorem zm{a b c:Int}{p:Int×Int}:((∃k∈List.range' 0 (b-a).toNat,p=(a+1*((k:Nat):Int),c))↔(a≤p.1∧p.1<b)∧p.2=c)∧((∃k∈List.range' 0 (b-a).toNat,p=(c,a+1*((k:Nat):Int)))↔(a≤p.2∧p.2<b)∧p.1=c):=by
 rw[←ik,←ik]
 exact⟨⟨λh=>h.elim λk h=>⟨⟨k,h.1,congrArg Prod.fst h.2⟩,congrArg Prod.snd h.2⟩,λh=>h.1.elim λk q=>⟨k,q.1,Prod.ext q.2 h.2⟩⟩,⟨λh=>h.elim λk h=>⟨⟨k,h.1,congrArg Prod.snd h.2⟩,congrArg Prod.fst h.2⟩,λh=>h.1.elim λk q=>⟨k,q.1,Prod.ext h.2 q.2⟩⟩⟩
theorem wO{α:Type}{p:α→Prop}{a:α}{l:List α}:(∃k∈a::l,p k)↔p a∨∃k∈l,p k :=
 ⟨λh=>h.elim λk h=>(aE.mp h.1).elim (λe=> .inl (e▸h.2)) λm=> .inr ⟨k,m,h.2⟩,λh=>h.elim (λh=>⟨a,.head _,h⟩) λh=>h.elim λk h=>⟨k,.tail _ h.1,h.2⟩⟩
theorem nj{da i:Nat}{g:Nat→Int×Int}{x:Nat→V}{w:V}{f:Le→H→St}{Q:Fl×Le×H→Prop}{lev:Option V→Le}(hb:∀s k,(lev s).set i (some (x k))=lev (some (x k))){σ0:H}{X:List (Nat×O)}{Fr:Prop}
  (hf:∀k σ l R,New σ0 ((da,.dT l)::X) σ→l.length<lim→(Fr→g k∉dk l)→R (.next,lev (some (x k)),σ.set da (.dT (d8 (g k) w l)))→Ok (f (lev (some (x k))) σ) R)
  {ls:List Nat} {s:Option V} {σ:H} {l:List KV} {S:Int×Int→Prop} {n:Nat} (hn:n+ls.length≤lim) (t:New σ0 ((da,.dT l)::X) σ) (h:Dc l S n) (fr:Fr→(∀k∈ls,¬S (g k))∧ls.Pairwise λj k=>g k≠g j)
  (K:∀s' σ' l',Dc l' (λp=>(∃k∈ls,p=g k)∨S p) (n+ls.length)→New σ0 ((da,.dT l')::X) σ'→Q (.next,lev s',σ')):Ok (jY (.one i) [] f (ls.map x) (lev s) σ) Q:=by
 induction ls generalizing s σ l S n with
 | nil=>exact okR (K _ _ l (h.to (λp=>⟨.inr,λe=>e.elim (λh=>h.elim λ_ h=>absurd h.1 bm) id⟩) (aD _)) t)
 | cons k ls ih =>
  refine c7 (x:=lev (some (x k))) (congrArg some (hb s k)) (okB (hf k σ l _ t ?_ (λq m=>(fr q).1 k (.head _) ((h.mem _).mp m)) (uG (aj _) (ih (n:=n+1) ?_ (t.trans (dm.fr X)) (h.put (g k) w) (λq=> ?_) λs' σ' l' h' t=>K s' σ' l' (h'.to (λp=> ?_) ?_) t))))
  ·exact ax h.len (be (Nat.lt_add_of_pos_right (Nat.succ_pos _)) hn)
  ·exact Nat.add_right_comm n 1 _▸hn
  ·have c:=List.pairwise_cons.mp (fr q).2
   exact⟨λj m e=>e.elim (c.1 j m) ((fr q).1 j (.tail _ m)),c.2⟩
  ·rw[wO,or_assoc,or_left_comm]
  ·exact aZ (Nat.add_right_comm n 1 _)
theorem gw{a w:Int}(ha:Nu a)(hw:Nu w):ce a (a+w) 1=some ((List.range' 0 (a+w-a).toNat).map λ(k:Nat)=>V.int (a+1*(k:Int))) :=
 have h:=aJ (a:=a) hw.1
 m9 ⟨ak (by decide) ha.1,ak ha.2 (by decide)⟩ h (by rw[Int.add_comm,bj];exact ak hw.2 (by decide)) ⟨ak (by decide) (ak ha.1 h),ak (Int.add_le_add ha.2 hw.2) (by decide)⟩
theorem tc{β:Type}{F:FT}{a b:E}{le:Le}{σ:H}{k:List V→Gd→H→Option β}{Q:β→Prop}{i j:Int}{l:List V}(ha:Ev F le σ a (.int i))(hb:Ev F le σ b (.int j))(hr:ce i j 1=some l)(h:Ok (k l [] σ) Q):Ok (fz F (.r2 a b) le σ k) Q:=by
 show Ok (evK F a le σ _) Q
 refine b4 ha ?_
 refine b4 hb ?_
 exact c7 (o:=ce i j 1) hr h
noncomputable def Sp(r:Bool)(W H X Y w h x y:Int)(p:Int×Int):Prop:=match r with
 | true=>(Y≤p.1∧p.1<Y+H)∧p.2=x+w
 | false=>(X≤p.2∧p.2<X+W)∧p.1=y+h
mutual
noncomputable def Ln:T→Int→Int→Int×Int→Prop| .mk k w h ps,x,y=>LnL k.r w h x y ps x y
noncomputable def LnL(r:Bool)(W H X Y:Int):List T→Int→Int→Int×Int→Prop
 | [],_,_,_=>False
 | t::ts,x,y,p=>LnL r W H X Y ts (nx r x t.w) (nx (!r) y t.h) p∨(ts≠[]∧Sp r W H X Y t.w t.h x y p)∨Ln t x y p
end
mutual
noncomputable def ct:T→Nat| .mk k w h ps=>ctL (sd k.r h w).toNat ps
noncomputable def ctL(m:Nat):List T→Nat
 | []=>0
 | t::ts=>ctL m ts+((if ts=[] then 0 else m)+ct t)
end
noncomputable def smP(p:Int×Int):Prop:=(0≤p.1∧p.1<32)∧(0≤p.2∧p.2<32)
theorem xq{kv:KV}(h:smP kv.1):qN kv=true:=by
 rw[qN,bB h.1.1,bB h.1.2,bB h.2.1,bB h.2.2]
 rfl
theorem IU{d:D}{x y:Int}{p:Int×Int}:LnL d.k.r d.w d.h x y (tL d.ps) x y p∨False↔Ln d.t x y p:=by
 cases d
 exact Iff.of_eq (or_false _)
theorem I7(d:D):ct d.t=ctL (sd d.k.r d.h d.w).toNat (tL d.ps):=by cases d;rfl
theorem cta{A I C m D:Nat}(h:(A+(I+C))+m≤D):A+((m+C)+I)≤D:=by
 rwa [bn m C,Nat.add_right_comm C,bn C,←bo]
theorem Ha{l:List D}:(tL l≠[])=(l≠[]):=by
 cases l with
 | nil=>exact propext ⟨λh _=>h rfl,λh _=>h rfl⟩
 | cons=>exact propext ⟨λ_=>nofun,λ_=>nofun⟩
theorem AC{l:List D}{n:Nat}:(if tL l=[] then 0 else n)=if l=[] then 0 else n:=by cases l <;> rfl
theorem pY(p:Prop):False∨p↔p:=Iff.of_eq (false_or p)
structure LH(n:Nat)(σ:H)(d:D)(x y:Int):Prop where
 dp:Dp n d.t
 at_:At σ d
 pl:Pl d x y
 nm:Nm d.t x y
 sm:∀p,Ln d.t x y p→smP p
 ct:ct d.t≤99
structure LS(σ:H)(d:D)(x y:Int)(da:Nat)(l0 rest:List D)(x' y':Int)(l:List KV)(S:Int×Int→Prop)(m:Nat)(σ':H):Prop where
 e:l0++rest=d.ps
 pl:PlL d.k.r rest x' y'
 nm:NmL d.k.r (tL rest) x' y'
 t:New σ [(da,.dT l)] σ'
 dc:Dc l S m
 ln:∀p,LnL d.k.r d.w d.h x y (tL rest) x' y' p∨S p↔Ln d.t x y p
 le:ctL (sd d.k.r d.h d.w).toNat (tL rest)+m≤L.ct d.t
noncomputable def LI(σ:H)(d:D)(x y:Int)(da:Nat)(todo:List (D×Nat))(σ':H):Prop:=∀G:Prop,(∀l0 rest x' y' l S m,todo=rest.zipIdx l0.length→LS σ d x y da l0 rest x' y' l S m σ'→G)→G
noncomputable def leL(a da:Nat)(s:Option V×Option V×Option V×Option V):Le:=some (.ref a)::some (.ref da)::s.1::s.2.1::s.2.2.1::s.2.2.2::nn 6
section
variable{n:Nat}{σ σ':H}{d e:D}{x y x' y':Int}{da m:Nat}{l0 rest:List D}{l:List KV}{S:Int×Int→Prop}
theorem LI.next{c:D×Nat}{cs:List (D×Nat)}(h:LI σ d x y da (c::cs) σ'){G:D×Nat→Prop}(k:∀l0 e rest x' y' l S m,cs=rest.zipIdx (l0.length+1)→LS σ d x y da l0 (e::rest) x' y' l S m σ'→G (e,l0.length)):G c:=h _ λl0 rest x' y' l S m e s=>by
 cases rest with
 | nil=>exact nomatch e
 | cons f rest =>
  obtain⟨rfl,rfl⟩:=List.cons.inj e
  exact k _ _ _ _ _ _ _ _ rfl s
theorem LI.fin(h:LI σ d x y da [] σ'){G:Prop}(k:∀l,Dc l (Ln d.t x y) (ct d.t)→New σ [(da,.dT l)] σ'→G):G:=h _ λl0 rest x' y' l S m e s=>by
 cases rest with
 | nil=>exact k l (s.dc.to (λp=>(pY (S p)).symm.trans (s.ln p)) (ae (bk _ _) s.le)) s.t
 | cons=>exact nomatch e
theorem LH.start(hh:LH n σ d x y)(t:New σ [(da,.dT [])] σ'):LI σ d x y da (d.ps.zipIdx 0) σ':=λG k=>k [] d.ps x y [] _ 0 rfl {
 e:=rfl
 pl:=zG hh.pl
 nm:=Ab hh.nm
 t:=t
 dc:=GI
 ln:=λp=>IU
 le:=aZ (I7 d).symm}
theorem LS.small(s:LS σ d x y da l0 (e::rest) x' y' l S m σ')(hh:LH (n+1) σ d x y):m+ct e.t≤99:=ae (ae (ae (az _ _) (bk _ _)) (cta s.le)) hh.ct
theorem LS.part(s:LS σ d x y da l0 (e::rest) x' y' l S m σ')(hh:LH (n+1) σ d x y):LH n σ' e x' y' where
 dp:=kc hh.dp e (s.e▸ay _ (.head _))
 at_:=(hh.at_.ps e (s.e▸ay _ (.head _))).kp (bI s.t)
 pl:=s.pl.1
 nm:=s.nm.1
 sm:=λp q=>hh.sm p ((s.ln p).mp (.inl (.inr (.inr q))))
 ct:=ae (bk _ _) (s.small hh)
theorem LS.more(s:LS σ d x y da l0 (e::rest) x' y' l S m σ'):decide ((l0.length:Int)+1<(refs d.ps).length)= !rest.isEmpty:=by
 rw[←s.e,bV,aa]
 cases rest with
 | nil=>exact decide_eq_false (aS _)
 | cons=>exact bB (aP.mpr (Nat.add_lt_add_left (Nat.succ_lt_succ (Nat.succ_pos _)) _))
theorem EE{g:Nat→Int×Int}{p:Int×Int}:¬∃k∈([]:List Nat),p=g k:=λh=>h.elim λ_ h=>absurd h.1 bm
theorem wv{α:Type}{l:List α}(h:(!l.isEmpty)=true):l≠[]:=λe=>by rw[e] at h;exact Bool.noConfusion h
theorem jP(a w:Int):(List.range' 0 (a+w-a).toNat).length=w.toNat:=by rw[List.length_range',Int.add_comm,bj]
theorem LS.sep_r(s:LS σ d x y da l0 (e::rest) x' y' l S m σ')(er:d.k.r=true)(ne:(!rest.isEmpty)=true):(∀p,(∃k∈List.range' 0 (y+d.h-y).toNat,p=(y+1*((k:Nat):Int),x'+e.w))↔(rest≠[]∧Sp d.k.r d.w d.h x y e.w e.h x' y' p))∧(List.range' 0 (y+d.h-y).toNat).length=(if rest=[] then 0 else(sd d.k.r d.h d.w).toNat):=by
 rw[er,if_neg (wv ne),jP]
 exact⟨λp=>zm.1.trans (and_iff_right (wv ne)).symm,rfl⟩
theorem LS.sep_c(s:LS σ d x y da l0 (e::rest) x' y' l S m σ')(er:d.k.r=false)(ne:(!rest.isEmpty)=true):(∀p,(∃k∈List.range' 0 (x+d.w-x).toNat,p=(y'+e.h,x+1*((k:Nat):Int)))↔(rest≠[]∧Sp d.k.r d.w d.h x y e.w e.h x' y' p))∧(List.range' 0 (x+d.w-x).toNat).length=(if rest=[] then 0 else(sd d.k.r d.h d.w).toNat):=by
 rw[er,if_neg (wv ne),jP]
 exact⟨λp=>zm.2.trans (and_iff_right (wv ne)).symm,rfl⟩
theorem LS.to(s:LS σ d x y da l0 (e::rest) x' y' l S m σ'){l5:List KV}{ls:List Nat}{g:Nat→Int×Int}{σ5:H}(t5:New σ [(da,.dT l5)] σ5)(dc5:Dc l5 (λp=>(∃k∈ls,p=g k)∨(Ln e.t x' y' p∨S p)) ((m+ct e.t)+ls.length))
  (hg:∀p,(∃k∈ls,p=g k)↔(rest≠[]∧Sp d.k.r d.w d.h x y e.w e.h x' y' p)) (hl:ls.length=(if rest=[] then 0 else(sd d.k.r d.h d.w).toNat)):LI σ d x y da (rest.zipIdx (l0.length+1)) σ5:=λG k =>
 k (l0++[e]) rest (nx d.k.r x' e.w) (nx (!d.k.r) y' e.h) l5 _ _ (by rw[aa];rfl) {
  e:=(af _ _ _).trans s.e
  pl:=s.pl.2
  nm:=by rw[←t_w e,←t_h e];exact s.nm.2
  t:=t5
  dc:=dc5
  ln:=λp=>by
   rw[←s.ln p,hg,←t_w e,←t_h e,←Ha]
   exact(or_assoc.trans (or_congr_right or_assoc)).symm
  le:=by
   have h:=cta s.le
   rw[hl]
   rwa [AC] at h}
end
section
variable{n:Nat}{σ:H}{d:D}{x y:Int}
theorem xQ{x' y':Int}{da m:Nat}{e:D}{l0 rest:List D}{l l4:List KV}{S:Int×Int→Prop}{σ2 σ4:H}{R:Fl×Le×H→Prop}{u4 u5:Option V}
  (hh:LH (n+1) σ d x y) (s:LS σ d x y da l0 (e::rest) x' y' l S m σ2) (t4:New σ [(da,.dT l4)] σ4) (dc4:Dc l4 (λp=>Ln e.t x' y' p∨S p) (m+ct e.t)) (K:∀s' σ5,LI σ d x y da (rest.zipIdx (l0.length+1)) σ5→R (.next,leL d.a da s',σ5)) :
  Ok (bT (cf n) ((rH (fD.body[1]?.getD .fail)).drop 1) (leL d.a da (some (.int l0.length),some (rf e),u4,u5)) σ4 gv) R:=by
 have hd:=(hh.at_.kp (bI t4)).c
 have ep:∀f v,(flds e)[f]? =some v→∀s' σ5 l5,New σ [(da,.dT l5)] σ5→Ev (cf n) (leL d.a da (some (.int l0.length),some (rf e),s')) σ5 (.attr (.var 3) 0 f) v:=λf v hv s' σ5 l5 t5=>dg (bG rfl) ((hh.at_.ps e (s.e▸ay _ (.head _))).kp (bI t5)).c hv
 have ed:Ev (cf n) (leL d.a da (some (.int l0.length),some (rf e),u4,u5)) σ4 (.cmp .lt (.bin .add (.var 2) (.lit (.int 1))) (.bi .len [.attr (.var 0) 0 5])) (.bool (!rest.isEmpty)):=s.more▸fF (bR (bG rfl) bN) (jB (dg (bG rfl) hd rfl) (hh.at_.kp (bI t4)).l)
 have pd:=sG hh.pl
 have pe:=sG s.pl.1
 have nc:=F1 hh.nm
 have big:m+ct e.t+(if rest=[] then 0 else(sd d.k.r d.h d.w).toNat)≤lim:=ae (ae (bk _ _) (AC▸cta s.le)) (ae hh.ct (by decide))
 refine oIf λk H=>b4 (d6 ed (cr (dg (bG rfl) hd rfl) bN rfl)) (H _ _ (λq=> ?_) λq=>oN (oIf λk H=>b4 ed (H _ _ (λq2=> ?_) λq2=> ?_)))
 ·have q:=ar.mp q
  have ls:=s.sep_r (HW q.2) q.1
  refine oFo λk H=>tc (dg (bG rfl) hd (pd.2▸rfl)) (bR (dg (bG rfl) hd (pd.2▸rfl)) (dg (bG rfl) hd rfl)) (gw nc.2.2.2.1 nc.2.1) (H _ _ _ ?_)
  refine nj (i:=4) (w:= .bool true) (lev:=λu=>leL d.a da (some (.int l0.length),some (rf e),u,u5)) (λ_ _=>rfl) (Fr:=False) (λk σ l R t5 hl _ r=> ?_) (ls.2.symm▸big) t4 dc4 False.elim λs' σ5 l5 dc5 t5=>okR (K _ _ (s.to t5 dc5 ls.1 ls.2))
  exact oSI bN (bG rfl) (df (bG rfl) (bR (ep 3 (.int x') (pe.1▸rfl) _ _ _ t5) (ep 1 _ rfl _ _ _ t5))) (xF (bK t5) (okG hl (okR r)))
 ·rw[q2,Bool.true_and] at q
  have ls:=s.sep_c (HX q) q2
  refine oFo λk H=>tc (dg (bG rfl) hd (pd.1▸rfl)) (bR (dg (bG rfl) hd (pd.1▸rfl)) (dg (bG rfl) hd rfl)) (gw nc.2.2.1 nc.1) (H _ _ _ ?_)
  refine nj (i:=5) (w:= .bool true) (lev:=λu=>leL d.a da (some (.int l0.length),some (rf e),u4,u)) (λ_ _=>rfl) (Fr:=False) (λk σ l R t5 hl _ r=> ?_) (ls.2.symm▸big) t4 dc4 False.elim λs' σ5 l5 dc5 t5=>okR (K _ _ (s.to t5 dc5 ls.1 ls.2))
  exact oSI bN (bG rfl) (df (bR (ep 4 (.int y') (pe.2▸rfl) _ _ _ t5) (ep 2 _ rfl _ _ _ t5)) (bG rfl)) (xF (bK t5) (okG hl (okR r)))
 ·have q2:rest=[]:=List.isEmpty_iff.mp (Bool.not_eq_false' _ |>.mp q2)
  exact okR (K (_,_,u4,u5) _ (s.to (ls:=[]) (g:=λ_=>(0,0)) t4 (dc4.to (λp=>(or_iff_right EE).symm) (aD _)) (λp=>iff_of_false EE λh=>h.1 q2) (if_pos q2).symm))
theorem xR{Q:V×H→Prop}(hh:LH n σ d x y)(K:∀a l σ',Dc l (Ln d.t x y) (ct d.t)→New σ [(a,.dT l)] σ'→Q (.ref a,σ')):Ok (cf n fV [.ref d.a] σ) Q:=by
 induction n generalizing d σ Q x y with
 | zero=>exact hh.dp.elim
 | succ n ih =>
  refine okF (le:=some (.ref d.a)::nn 11) rfl rfl ?_
  refine oA λk H=>H (.ref σ.length) (σ++[O.dT []]) ?_
  have t0:=bM σ (O.dT [])
  generalize σ++[O.dT []]=σ1 at t0⊢
  generalize σ.length=da at t0⊢
  refine oFo λk H=>okI (dE (bI t0) hh.at_.c) (okL (bL (bI t0) hh.at_.l) ?_)
  refine H _ _ _ (ir (o0 rf d.ps 0) ?_)
  refine dq (leL d.a da) (λ_ todo σ'=>LI σ d x y da todo σ') (λu c cs σ2 hI=>⟨_,rfl,λR K1 _=>hI.next (G:=λc=>Ok (bT (cf n) (rH (fD.body[1]?.getD .fail)) (leL d.a da (some (.int c.2),some (rf c.1),u.2.2)) σ2 gv) R) λl0 e rest x' y' l S m e2 s=> ?_⟩)
   (λs σ' hI=>hI.fin λl dc t=>okR (K da l σ' dc t)) (s:=(none,none,none,none)) (hh.start t0)
  refine oE λk H=>okG (IG (bK s.t)) (okC (ih (s.part hh) λeb l2 σ3 dc2 t2=>xF (cj (bI t2) (bK s.t)) (xF (bK t2) (okG ⟨(nR t2 (bK s.t)).symm,?_,?_⟩ (H _ _ ?_)))))
  ·exact ae (bq s.dc.len dc2.len) (ae (s.small hh) (by decide))
  ·exact List.all_eq_true.mpr λkv mk=>xq ((s.part hh).sm _ ((dc2.mem kv.1).mp (aK mk)))
  ·exact xQ hh s ((s.t.kp (bI t2)).trans dm) (s.dc.merge.to (λp=>or_congr_left (dc2.mem p)) (aB dc2.len m)) λs' σ5 h5=>K1 s' σ5 (h5 _ λ_ _ _ _ _ _ _ _ q=>ai.mpr (cj (bI q.t) (bQ hh.at_.l))) (e2▸h5)
end
section
variable{β:Type}{F:FT}{le:Le}{σ:H}{e e2:E}{A B rest:List S}{K:Fl→Le→H→Option β}{Q:β→Prop}{i:Nat}{v:V}{b:Bool}
theorem pA(he:Ev F le σ e v)(h:Ok (bT F rest (le.set i (some v)) σ K) Q):Ok (bT F (.asg i e::rest) le σ K) Q:=oA λk H=>b4 he (H _ _ h)
theorem pIf(he:Ev F le σ e (.bool b))(h1:b=true→Ok (bT F A le σ (nxt F rest K)) Q)(h2:b=false→Ok (bT F B le σ (nxt F rest K)) Q):Ok (bT F (.iff e A B::rest) le σ K) Q:=oIf λk H=>b4 he (H _ _ h1 h2)
theorem pIr(he:Ev F le σ e (.bool b))(h1:b=true→Ok (evK F e2 le σ λv σ=>K (.ret v) le σ) Q)(h2:b=false→Ok (bT F rest le σ K) Q):Ok (bT F (.iff e [.ret e2] []::rest) le σ K) Q:=oIr λk H=>b4 he (H _ _ h1 h2)
theorem pR(he:Ev F le σ e v)(h:Ok (K (.ret v) le σ) Q):Ok (bT F (.ret e::rest) le σ K) Q:=oR λk H=>b4 he (H _ _ h)
theorem pF2{x y:E}{a c:Int}{l:List V}{p:Pat}(hx:Ev F le σ x (.int a))(hy:Ev F le σ y (.int c))(hr:ce a c 1=some l)(h:Ok (jY p [] (λle σ=>bT F A le σ gv) l le σ) λy=>Ok (nxt F rest K y.1 y.2.1 y.2.2) Q):Ok (bT F (.forr p (.r2 x y) A::rest) le σ K) Q:=oFo λk H=>tc hx hy hr (H _ _ _ h)
end
noncomputable def sds(p:Int×Int):List ((Int×Int)×Int):=[((p.1-1,p.2),1),((p.1+1,p.2),2),((p.1,p.2-1),4),((p.1,p.2+1),8)]
noncomputable def sdV(p:Int×Int):V:= .tup ((sds p).map λq=>V.tup [bX q.1,.int q.2])
noncomputable def bit(l:List KV)(q:(Int×Int)×Int):List Int:=bif l.any λkv=>kv.1==q.1 then [q.2] else []
noncomputable def code(l:List KV)(p:Int×Int):V:=(gD [] oq (.int ((sds p).flatMap (bit l)).sum)).getD .none
noncomputable def tO(l:List KV)(p:Int×Int):V:= .tup [.int p.1,.int p.2,code l p]
theorem sg:∀a b c d:Bool,(gD [] oq (.int ((bif a then [(1:Int)] else [])++((bif b then [2] else [])++((bif c then [4] else [])++((bif d then [8] else [])++[])))).sum)).isSome=true:=by decide
theorem sg4:∀a b c d:Bool,((bif a then [(1:Int)] else [])++((bif b then [2] else [])++((bif c then [4] else [])++((bif d then [8] else [])++[])))).length≤4:=by decide
theorem Dx{α:Type}{o:Option α}{x:α}(h:o.isSome=true):o=some (o.getD x):=by
 cases o with
 | none=>exact Bool.noConfusion h
 | some=>rfl
theorem DX(σ:H)(l:List KV)(p:Int×Int):gD σ oq (.int ((sds p).flatMap (bit l)).sum)=some (code l p) :=
 Dx (sg (l.any λkv=>kv.1==(p.1-1,p.2)) (l.any λkv=>kv.1==(p.1+1,p.2)) (l.any λkv=>kv.1==(p.1,p.2-1)) (l.any λkv=>kv.1==(p.1,p.2+1)))
noncomputable def leD(a la fa:Nat)(s:Option V×Option V×Option V):Le:=some (.ref a)::some (.ref la)::some (.ref fa)::s.1::s.2.1::s.2.2::nn 6
section
variable{n:Nat}{σ:H}{d:D}{x y:Int}
theorem vE{a la fa:Nat}{l:List KV}{xs:List V}{p:Int×Int}{X:List (Nat×O)}{u:Option V}{R:Fl×Le×H→Prop}{σ2:H}(hl:xs.length<lim)(t:New σ ((fa,.list xs)::(la,.dT l)::X) σ2)
  (K:∀s σ3,New σ ((fa,.list (xs++[tO l p]))::(la,.dT l)::X) σ3→R (.next,leD a la fa s,σ3)) :
  Ok (bT (cf n) (rH (iD.body[1]?.getD .fail)) (leD a la fa (some (.int p.1),some (.int p.2),u)) σ2 gv) R:=by
 have o:=bP t
 refine pA (v:=sdV p) (λβ k=>rfl) ?_
 refine oE λk H=>okG (rcv (bH (o.1 (fa,_) (.head _)))) ?_
 refine okG (c:=cw (.many [6,7]) (some (.ref a)::some (.ref la)::some (.ref fa)::some (.int p.1)::some (.int p.2)::some (sdV p)::nn 6)=true) rfl ?_
 refine(okB (dB (v:=λq:(Int×Int)×Int=> .tup [bX q.1,.int q.2]) (S:=Option V×Option V) (λs=>some (.ref a)::some (.ref la)::some (.ref fa)::some (.int p.1)::some (.int p.2)::some (sdV p)::s.1::s.2::nn 4) (λq=>(bit l q).map V.int) (s:=(none,none)) (aj _) ?_ λσ3 k3=> ?_))
 ·refine λq m s σ3 k3=>⟨(some (bX q.1),some (.int q.2)),rfl,λR K1=> ?_⟩
  refine b4 (cr (u:=bX q.1) (w:= .ref la) (bG rfl) (bG rfl) (vq ((k3 _ o).1 (la,_) (.tail _ (.head _))))) ?_
  show Ok (if(l.any λkv=>kv.1==(q.1.1,q.1.2))=true then some ([V.int q.2],σ3) else some ([],σ3)) R
  have K1:=K1 σ3 .rfl
  rw[bit] at K1
  exact fB (λe=>okR (by rw[show(l.any λkv=>kv.1==q.1)=true from e] at K1;exact K1)) λe=>okR (by rw[show(l.any λkv=>kv.1==q.1)=false from e] at K1;exact K1)
 ·rw[←List.map_flatMap]
  refine okG ?_ (okL (bH (bK (bM σ3 _))) ?_)
  ·rw[ah]
   exact ae (sg4 (l.any λkv=>kv.1==(p.1-1,p.2)) (l.any λkv=>kv.1==(p.1+1,p.2)) (l.any λkv=>kv.1==(p.1,p.2-1)) (l.any λkv=>kv.1==(p.1,p.2+1))) (by decide)
  refine qV (okX (DX _ l p) ?_)
  refine okL (bL (bI (bM σ3 _)) (bL k3 (bH (o.1 (fa,_) (.head _))))) (okG hl (H _ _ ?_))
  exact okR (K (some (.int p.1),some (.int p.2),some (sdV p)) _ (((t.kp k3).kp (bI (bM σ3 _))).trans (dm.fr _)))
theorem yj{Q:V×H→Prop}(hh:LH n σ d x y)(hc:ct d.t<64)(K:∀a l σ',Dc l (Ln d.t x y) (ct d.t)→New σ [(a,.list ((b5 leP (dk l)).map (tO l)))] σ'→Q (.ref a,σ')):Ok (cf (n+1) ji [.ref d.a] σ) Q:=by
 refine okF (le:=some (.ref d.a)::nn 11) rfl rfl ?_
 refine oT λk H=>okC (xR hh λla l σ1 dc t1=>H (.tup [.ref la,.ref σ1.length]) _ (σ1++[O.list []]) rfl ?_)
 have t2:=t1.and (bM σ1 (O.list []))
 generalize σ1++[O.list []]=σ2 at t2⊢
 generalize σ1.length=fa at t2⊢
 have hl:(b5 leP (dk l)).length<64:=by
  rw[(gu leP (dk l)).length_eq,dk,ah]
  exact ax dc.len hc
 refine oFo λk H=>c7 (o:=σ2[la]?) ((bP t2).1 (la,_) (.tail _ (.head _))) (okG (ax dc.len hc) (dN (bH (bK (bM σ2 _))) (H _ _ _ ?_)))
 have t3:=(t2.and (bM σ2 (.list ((b5 leP (dk l)).map bX)))).perm (.refl _) (ba (l₁:=[_]) (l₂:=[_,_]))
 refine dq (leD d.a la fa) (λ_ todo σ'=>∃don:List (Int×Int),don++todo=b5 leP (dk l)∧New σ ((fa,.list (don.map (tO l)))::(la,.dT l)::[(σ2.length,.list ((b5 leP (dk l)).map bX))]) σ') ?_ ?_ (s:=(none,none,none)) ⟨[],rfl,t3⟩
 ·refine λu p todo σ' hI=>⟨_,rfl,λR K1 _=>hI.elim λdon h=>vE ?_ h.2 λs σ3 t=>K1 s σ3 (ai.mpr ((bP t).1 (σ2.length,_) (.tail _ (.tail _ (.head _))))) ⟨don++[p],(af _ _ _).trans h.1,(au (f:=tO l)).symm▸t⟩⟩
  rw[ah]
  exact ax (ae (az _ (p::todo).length) (aZ (aa.symm.trans (congrArg List.length h.1)))) (Nat.lt_trans hl (by decide))
 ·refine λu σ' hI=>hI.elim λdon h=> ?_
  have e:=(aw don).symm.trans h.1
  exact pR (bG rfl) (okR (K fa l σ' dc (e▸h.2.dl (Y:=[(fa,O.list (don.map (tO l)))]))))
end
noncomputable def xY(r:Row)(p:Int×Int):Prop:=(r.y≤p.1∧p.1<r.y+r.h)∧(r.x≤p.2∧p.2<r.x+r.w)
noncomputable def cov(rs:List Row)(p:Int×Int):Prop:=∃r∈rs,xY r p
noncomputable def apart(a b:Row):Prop:=a.x+a.w+1≤b.x∨a.y+a.h+1≤b.y
structure Tl(W H:Int)(rs:List Row):Prop where
 n:rs.length≤99
 b:W≤99∧H≤99
 i:∀r∈rs,((1≤r.w∧1≤r.h)∧(0≤r.x∧0≤r.y))∧(r.x+r.w≤W∧r.y+r.h≤H)
 a:rs.Pairwise apart
theorem nu2{a w W:Int}(h0:0≤a)(h1:1≤w)(h:a+w≤W)(b:W≤99):Nu a∧Nu w :=
 have hw:0≤w:=ak (by decide) h1
 have h:=ak h (ak b (by decide:(99:Int)≤900))
 ⟨⟨h0,ak (aJ hw) h⟩,⟨hw,ak (Int.le_add_of_nonneg_left h0) h⟩⟩
theorem zn{a m:Nat}{x:Int}:(List.range' a m).Pairwise λj k=>x+1*((k:Nat):Int)≠x+1*((j:Nat):Int) :=
 List.Pairwise.imp (λ{j k} h e=>Nat.ne_of_gt h (Int.ofNat_inj.mp ((Int.one_mul _).symm.trans ((Int.add_left_cancel e).trans (Int.one_mul _))))) List.pairwise_lt_range'
theorem qe{F:FT}{lev:Option V×Option V→Le}{b da:Nat}{B:List S}{r:Row}{w:V}{Q:Fl×Le×H→Prop}(h8:∀s k,(lev s).set (b+5) (some (.int k))=lev (some (.int k),s.2))(h9:∀s k,(lev s).set (b+6) (some (.int k))=lev (s.1,some (.int k)))
  (hx:∀s,slot (lev s) (b+1)=some (.int r.x)) (hw:∀s,slot (lev s) (b+3)=some (.int r.w)) (nx:Nu r.x∧Nu r.w) {σ0:H} {X:List (Nat×O)} {Fr:Prop}
  (hf:∀i j σ l R,New σ0 ((da,.dT l)::X) σ→l.length<lim→(Fr→(i,j)∉dk l)→R (.next,lev (some (.int i),some (.int j)),σ.set da (.dT (d8 (i,j) w l)))→Ok (bT F B (lev (some (.int i),some (.int j))) σ gv) R)
  {ls:List Nat} {s:Option V×Option V} {σ:H} {l:List KV} {S:Int×Int→Prop} {n:Nat} (hn:n+ls.length*r.w.toNat≤lim) (t:New σ0 ((da,.dT l)::X) σ) (h:Dc l S n) (fr:Fr→(∀p,((∃k∈ls,p.1=r.y+1*((k:Nat):Int))∧(r.x≤p.2∧p.2<r.x+r.w))→¬S p)∧ls.Pairwise λj k=>r.y+1*((k:Nat):Int)≠r.y+1*((j:Nat):Int))
  (K:∀s' σ' l',Dc l' (λp=>((∃k∈ls,p.1=r.y+1*((k:Nat):Int))∧(r.x≤p.2∧p.2<r.x+r.w))∨S p) (n+ls.length*r.w.toNat)→New σ0 ((da,.dT l')::X) σ'→Q (.next,lev s',σ')) :
  Ok (jY (.one (b+5)) [] (λle σ=>bT F [.forr (.one (b+6)) (.r2 (.var (b+1)) (.bin .add (.var (b+1)) (.var (b+3)))) B] le σ gv) (ls.map λ(k:Nat)=>V.int (r.y+1*(k:Int))) (lev s) σ) Q:=by
 induction ls generalizing s σ l S n with
 | nil=>exact okR (K _ _ l (h.to (λp=>⟨.inr,λe=>e.elim (λh=>h.1.elim λ_ h=>absurd h.1 bm) id⟩) (az _ _)) t)
 | cons k ls ih =>
  have hn2:n+r.w.toNat+ls.length*r.w.toNat≤lim:=by rwa [bo,bn r.w.toNat,←Nat.succ_mul]
  refine c7 (x:=lev (some (.int (r.y+1*(k:Int))),s.2)) (congrArg some (h8 _ _)) (okB (pF2 (bG (hx _)) (bR (bG (hx _)) (bG (hw _))) (gw nx.1 nx.2) ?_))
  refine nj (i:=b+6) (w:=w) (g:=λj=>(r.y+1*(k:Int),r.x+1*(j:Int))) (lev:=λu=>lev (some (.int (r.y+1*(k:Int))),u)) (λ_ _=>h9 _ _) (λj σ l R t hl nm q=>hf _ _ σ l R t hl nm q) (Fr:=Fr) ?_ t h (λq=>⟨λj m=>(fr q).1 _ ⟨⟨k,.head _,rfl⟩,ik.mp ⟨j,m,rfl⟩⟩,zn.imp λh e=>h (Prod.mk.inj e).2⟩) λs' σ1 l1 dc1 t1=>okR ?_
  ·rw[jP]
   exact ae (az _ _) hn2
  rw[jP] at dc1
  have c:=λq=>List.pairwise_cons.mp (fr q).2
  refine uG (aj _) (ih (n:=n+r.w.toNat) hn2 t1 dc1 (λq=>⟨λp hp e=>e.elim (λz=>z.elim λj z=> ?_) ((fr q).1 p ⟨hp.1.elim λj h=>⟨j,.tail _ h.1,h.2⟩,hp.2⟩),(c q).2⟩) λs' σ2 l2 dc2 t2=>K s' σ2 l2 (dc2.to (λp=> ?_) ?_) t2)
  ·exact hp.1.elim λi h=>(c q).1 i h.1 (h.2.symm.trans (congrArg Prod.fst z.2))
  ·rw[zm.2,wO,or_and_right,or_assoc,or_left_comm,and_comm (b:=p.1=_)]
  ·rw[bc,Nat.succ_mul,bn (ls.length*_),bo]
   exact aD _
section
variable{β:Type}{F:FT}{le:Le}{σ:H}{a b e:E}{A rest:List S}{K:Fl→Le→H→Option β}{Q:β→Prop}{x y:Int}
theorem pIn(he:Ev F le σ e (.bool false))(h:Ok (bT F rest le σ K) Q):Ok (bT F (.iff e A []::rest) le σ K) Q:=pIf he Bool.noConfusion λ_=>oN h
theorem pFs{p:Pat}{xs:List V}(he:Ev F le σ e (.tup xs))(h:Ok (jY p [] (λle σ=>bT F A le σ gv) xs le σ) λy=>Ok (nxt F rest K y.1 y.2.1 y.2.2) Q):Ok (bT F (.forr p (.seq e) A::rest) le σ K) Q:=oFo λk H=>b4 he (H xs [] σ h)
theorem pFl{p:Pat}{xs:List V}{g:Nat}(he:Ev F le σ e (.ref g))(hl:bJ σ g=some xs)(h:Ok (jY p [(g,xs)] (λle σ=>bT F A le σ gv) xs le σ) λy=>Ok (nxt F rest K y.1 y.2.1 y.2.2) Q):Ok (bT F (.forr p (.seq e) A::rest) le σ K) Q:=oFo λk H=>b4 he (dN hl (H _ _ _ h))
theorem oV(ha:Ev F le σ a (.int x))(hb:Ev F le σ b (.int y))(h:y≤x):Ev F le σ (.cmp .lt a b) (.bool false):=cr ha hb (congrArg some (decide_eq_false (bx.mpr h)))
theorem Bd(ha:Ev F le σ a (.int x))(hb:Ev F le σ b (.int y))(h:x≤y):Ev F le σ (.cmp .gt a b) (.bool false):=cr ha hb (congrArg some (decide_eq_false (bx.mpr h)))
theorem oU(ha:Ev F le σ a (.bool false))(hb:Ev F le σ b (.bool false)):Ev F le σ (.or a b) (.bool false):=wQ ha hb
theorem wR(ha:Ev F le σ a (.int x))(hb:Ev F le σ b (.int y)):Ev F le σ (.bi .max2 [a,b]) (.int (max x y))∧Ev F le σ (.bi .min2 [a,b]) (.int (min x y)):=⟨λβ k=>(ha _).trans (hb _),λβ k=>(ha _).trans (hb _)⟩
theorem Bc{g:Nat}{l:List KV}{i j:Int}(ha:Ev F le σ a (.tup [.int i,.int j]))(hb:Ev F le σ b (.ref g))(h:σ[g]? =some (.dT l))(n:(i,j)∉dk l):Ev F le σ (.cmp .inn a b) (.bool false):=cr ha hb ((vq h).trans (congrArg some (Bool.eq_false_iff.mpr λq=>n (ES.mp q))))
end
noncomputable abbrev O7:=(Option V×Option V×Option V×Option V×Option V)×(Option V×Option V)
noncomputable def rw5(r:Row):Option V×Option V×Option V×Option V×Option V:=(some (.int r.p),some (.int r.x),some (.int r.y),some (.int r.w),some (.int r.h))
noncomputable def leG(a g ra:Nat)(s:O7):Le:=some (.ref a)::some (.ref g)::some (.ref ra)::s.1.1::s.1.2.1::s.1.2.2.1::s.1.2.2.2.1::s.1.2.2.2.2::s.2.1::s.2.2::nn 6
theorem GT{don todo:List Row}{r:Row}(h:(don++r::todo).Pairwise apart)(p:Int×Int)(hp:xY r p):¬cov don p:=λz=>z.elim λq hq=>by
 have h:=(List.pairwise_append.mp h).2.2 q hq.1 r (.head _)
 exact h.elim (λh=>aS _ (aG hq.2.2.2 (ak (Int.le_of_lt (Int.lt_of_add_one_le h)) hp.2.1))) λh=>aS _ (aG hq.2.1.2 (ak (Int.le_of_lt (Int.lt_of_add_one_le h)) hp.1.1))
theorem Tl.nu{W H:Int}{rs:List Row}(h:Tl W H rs){r:Row}(m:r∈rs):(Nu r.x∧Nu r.w)∧(Nu r.y∧Nu r.h) :=
 have i:=h.i r m
 ⟨nu2 i.1.2.1 i.1.1.1 i.2.1 h.b.1,nu2 i.1.2.2 i.1.1.2 i.2.2 h.b.2⟩
theorem tM{don:List Row}{r:Row}{p:Int×Int}:xY r p∨cov don p↔cov (don++[r]) p :=
 ⟨λh=>h.elim (λh=>⟨r,ay _ (.head _),h⟩) λh=>h.elim λq h=>⟨q,aL _ h.1,h.2⟩,λh=>h.elim λq h=>(List.mem_append.mp h.1).elim (λm=> .inr ⟨q,m,h.2⟩) λm=> .inl (aI.mp m▸h.2)⟩
theorem HV{a w W:Int}(h0:0≤a)(h:a+w≤W)(b:W≤99):w.toNat≤99:=Int.toNat_le.mpr (ak (Int.le_add_of_nonneg_left h0) (ak h b))
theorem Tl.area{W H:Int}{rs:List Row}(h:Tl W H rs){r:Row}(m:r∈rs):(List.range' 0 (r.y+r.h-r.y).toNat).length*r.w.toNat≤9801:=by
 have i:=h.i r m
 rw[jP]
 exact Nat.mul_le_mul (HV i.1.2.2 i.2.2 h.b.2) (HV i.1.2.1 i.2.1 h.b.1)
theorem Tl.big{W H:Int}{don todo:List Row}{r:Row}(h:Tl W H (don++r::todo)):don.length*9801+(List.range' 0 (r.y+r.h-r.y).toNat).length*r.w.toNat≤(don++[r]).length*9801∧(don++[r]).length*9801≤lim:=by
 have n:=h.n
 rw[aa,bc] at n
 rw[aa,List.length_singleton,Nat.succ_mul]
 refine⟨aB (h.area (ay _ (.head _))) _,?_⟩
 rw[←Nat.succ_mul]
 exact ae (Nat.mul_le_mul_right 9801 (ae (ae (aA (az don.length todo.length)) (aZ (bo _ _ 1))) n)) (by decide)
section
variable{n:Nat}{σ:H}{d:D}
theorem xi{a g ra:Nat}{W Hh:Int}{don todo:List Row}{r:Row}{u:Option V×Option V}{l:List KV}{X:List (Nat×O)}{R:Fl×Le×H→Prop}{σ2:H}(tl:Tl W Hh (don++r::todo))(ht:cC σ 0 a=some (flds d))(hw:d.w=W∧d.h=Hh)(t:New σ ((g,.dT l)::X) σ2)(dc:Dc l (cov don) (don.length*9801))
  (K:∀s l' σ3,Dc l' (cov (don++[r])) ((don++[r]).length*9801)→New σ ((g,.dT l')::X) σ3→R (.next,leG a g ra s,σ3)) :
  Ok (bT (cf n) (rH (gV.body[1]?.getD .fail)) (leG a g ra (rw5 r,u)) σ2 gv) R:=by
 have m:r∈don++r::todo:=ay _ (.head _)
 have i:=tl.i r m
 have nu:=tl.nu m
 have hd:=dE (bI t) ht
 refine pIn (oU (oV (bG rfl) bN i.1.1.1) (oU (oV (bG rfl) bN i.1.1.2) (oU (oV (bG rfl) bN i.1.2.1) (oU (oV (bG rfl) bN i.1.2.2) (oU (Bd (bR (bG rfl) (bG rfl)) (dg (bG rfl) hd rfl) (hw.1▸i.2.1)) (Bd (bR (bG rfl) (bG rfl)) (dg (bG rfl) hd rfl) (hw.2▸i.2.2))))))) ?_
 refine pF2 (bG rfl) (bR (bG rfl) (bG rfl)) (gw nu.2.1 nu.2.2) ?_
 refine qe (b:=3) (da:=g) (r:=r) (w:= .int r.p) (lev:=λu=>leG a g ra (rw5 r,u)) (λ_ _=>rfl) (λ_ _=>rfl) (λ_=>rfl) (λ_=>rfl) nu.1 (Fr:=True) (λi j σ l R t hl nm q=> ?_) ?_ t dc (λ_=>⟨λp hp=>GT tl.a p ⟨ik.mp hp.1,hp.2⟩,zn⟩) λs σ3 l3 dc3 t3=>okR (K _ l3 σ3 (dc3.to (λp=> ?_) ?_) t3)
 ·exact pIn (Bc (df (bG rfl) (bG rfl)) (bG rfl) (bK t) (nm trivial)) (oSI (bG rfl) (bG rfl) (df (bG rfl) (bG rfl)) (xF (bK t) (okG hl (okR q))))
 ·exact ae tl.big.1 tl.big.2
 ·rw[ik]
  exact tM
 ·exact tl.big.1
theorem Fo{y h H:Int}(h0:0≤y)(h1:1≤h)(h2:y+h≤H)(h3:H≤99):ce (max 0 (y-1)) (min H (y+h+1)) 1=some ((List.range' 0 (min H (y+h+1)-max 0 (y-1)).toNat).map λ(k:Nat)=>V.int (max 0 (y-1)+1*(k:Int))):=by
 have hh:0≤h:=ak (by decide) h1
 have hy:y≤H:=ak (aJ hh) h2
 have h5:H≤5000:=ak h3 (by decide)
 have m:y≤y+h+1:=ak (aJ hh) (aJ (by decide))
 have y1:∀{z},y≤z→max 0 (y-1)≤z:=λq=>Int.max_le.mpr ⟨ak h0 q,ak (Int.sub_le_self y (by decide)) q⟩
 have q:=Int.le_min.mpr ⟨y1 hy,y1 m⟩
 have a:Sm (max 0 (y-1))∧max 0 (y-1)≤min H (y+h+1)∧Sm (min H (y+h+1)):=⟨⟨ak (by decide) (Int.le_max_left 0 _),y1 (ak hy h5)⟩,q,⟨ak (by decide) (ak (Int.le_max_left 0 _) q),ak (Int.min_le_left _ _) h5⟩⟩
 exact m9 a.1 a.2.1 (ak (Int.sub_le_self _ (Int.le_max_left 0 _)) a.2.2.2) a.2.2
theorem ug{a g ra:Nat}{W Hh:Int}{rs:List Row}{r:Row}{u:Option V×Option V}{l:List KV}{R:Fl×Le×H→Prop}(tl:Tl W Hh rs)(m:r∈rs)(ht:cC σ 0 a=some (flds d))(hw:d.h=Hh)(hg:σ[g]? =some (.dT l))
  (no:∀i j,(r.y-1≤i∧i<r.y+r.h+1)→j=r.x-1∨j=r.x+r.w→(i,j)∉dk l) (K:∀s,R (.next,leG a g ra s,σ)) :
  Ok (bT (cf n) (rH (gV.body[2]?.getD .fail)) (leG a g ra (rw5 r,u)) σ gv) R:=by
 have i:=tl.i r m
 refine pF2 (wR bN (c6 (by nofun) (bG rfl) bN rfl)).1 (wR (dg (bG rfl) ht (hw▸rfl)) (bR (bR (bG rfl) (bG rfl)) bN)).2 (Fo i.1.2.2 i.1.1.2 i.2.2 tl.b.2) ?_
 refine dq (λu=>leG a g ra (rw5 r,u)) (λ_ todo σ'=>σ'=σ∧∀k∈todo,k∈List.range' 0 (min Hh (r.y+r.h+1)-max 0 (r.y-1)).toNat) (λs k ks σ' hI=>⟨_,rfl,λQ K1 _=> ?_⟩) (λs σ' hI=>hI.1▸okR (K (_,s))) ⟨rfl,λ_ m=>m⟩
 obtain⟨rfl,mk⟩:=hI
 have no:=no (max 0 (r.y-1)+1*(k:Int))
 have no:=λj=>no j ((ik.mp ⟨k,mk k (.head _),rfl⟩).imp (ak (Int.le_max_right 0 _)) λq=>aG q (Int.min_le_right _ _))
 refine pFs (df (c6 (by nofun) (bG rfl) bN rfl) (bR (bG rfl) (bG rfl))) ?_
 have ls:[V.int (r.x-1),V.int (r.x+r.w)]=[r.x-1,r.x+r.w].map V.int:=rfl
 refine ir ls (dq (λu=>leG a g ra (rw5 r,some (.int (max 0 (r.y-1)+1*(k:Int))),u)) (λ_ todo σ2=>σ2=σ'∧∀j∈todo,j=r.x-1∨j=r.x+r.w) (λu j js σ2 hI=>⟨_,rfl,λQ K2 _=> ?_⟩) (λu σ2 hI=>hI.1▸okR (K1 (_,u) _ (aj _) ⟨rfl,λk m=>mk k (.tail _ m)⟩)) ⟨rfl,λj m=>(aE.mp m).imp_right aI.mp⟩)
 obtain⟨rfl,mj⟩:=hI
 exact pIn (Bc (df (bG rfl) (bG rfl)) (bG rfl) hg (no j (mj j (.head _)))) (okR (K2 (some (.int j)) _ (aj _) ⟨rfl,λj m=>mj j (.tail _ m)⟩))
theorem jj{x w j:Int}(hw:1≤w)(e:j=x-1∨j=x+w):x-1≤j∧j<x+w+1 :=
 have m:=ak (Int.sub_le_self x (by decide:(0:Int)≤1)) (aJ (ak (by decide) hw):x≤x+w)
 e.elim (λe=>e.symm▸(⟨bv _,Int.lt_add_one_of_le m⟩:x-1≤x-1∧x-1<x+w+1)) λe=>e.symm▸(⟨m,Int.lt_add_one_of_le (bv _)⟩:x-1≤x+w∧x+w<x+w+1)
theorem bes{a b:Row}(h:apart a b)(ha:1≤a.w)(hb:1≤b.w){i j:Int}:((a.y-1≤i∧i<a.y+a.h+1)→j=a.x-1∨j=a.x+a.w→¬xY b (i,j))∧((b.y-1≤i∧i<b.y+b.h+1)→j=b.x-1∨j=b.x+b.w→¬xY a (i,j)) :=
 ⟨λhi hj q=>h.elim (λh=>aS _ (aG (jj ha hj).2 (ak h q.2.1))) λh=>aS _ (aG hi.2 (ak h q.1.1)),
 λhi hj q=>h.elim (λh=>aS _ (aG q.2.2 (ak (Int.le_sub_right_of_add_le h) (jj hb hj).1))) λh=>aS _ (aG q.1.2 (ak (Int.le_sub_right_of_add_le h) hi.1))⟩
theorem Tl.bes{W H:Int}{rs:List Row}(h:Tl W H rs){r:Row}(m:r∈rs){i j:Int}(hi:r.y-1≤i∧i<r.y+r.h+1)(hj:j=r.x-1∨j=r.x+r.w):¬cov rs (i,j):=λz=>z.elim λq z=>by
 have mq:=z.1
 have hq:=z.2
 clear z
 have p:=h.a
 obtain⟨A,B,rfl⟩:=List.append_of_mem m
 have p:=List.pairwise_append.mp p
 rcases List.mem_append.mp mq with mq|mq
 ·exact(L.bes (p.2.2 q mq r (.head _)) (h.i q (aL _ mq)).1.1.1 (h.i r m).1.1.1).2 hi hj hq
 ·rcases aE.mp mq with rfl|mq
  ·exact hj.elim (λe=>aS _ (aG (e▸Int.sub_one_lt_of_le (bv _)) hq.2.1)) λe=>aS _ (e▸hq.2.2)
  ·exact(L.bes ((List.pairwise_cons.mp p.2.1).1 q mq) (h.i r m).1.1.1 (h.i q (ay _ (.tail _ mq))).1.1.1).1 hi hj hq
theorem xh{Q:V×H→Prop}{W Hh:Int}(hdp:Dp n d.t)(h:At σ d)(hp:Pl d 0 0)(hw:d.w=W∧d.h=Hh)(tl:Tl W Hh (rows d.t 0 0))(hl:(names d.t).length≤99)(K:∀σ',Kp σ σ'→Q (.bool true,σ')):Ok (cf (n+2) lA [.ref d.a] σ) Q:=by
 refine okF (le:=some (.ref d.a)::nn 15) rfl rfl ?_
 have t0:=bM σ (O.dT [])
 refine oT λk H=>okC (dz hdp (h.kp (bI t0)) hp hl λra σ2 t2=>H (.tup [.ref σ.length,.ref ra]) _ σ2 rfl ?_)
 have t2:=(t0.and t2).perm (.refl _) (List.Perm.swap _ _ _)
 generalize σ.length=g at t2⊢
 refine pFl (bG rfl) (bH ((bP t2).1 (ra,_) (.tail _ (.head _)))) ?_
 refine dq (leG d.a g ra) (λ_ todo σ'=>∃don l,don++todo=rows d.t 0 0∧Dc l (cov don) (don.length*9801)∧New σ ((g,.dT l)::[(ra,.list ((rows d.t 0 0).map Row.v))]) σ') (λs r rs σ' hI=>⟨_,rfl,λR K1 _=>hI.elim λdon hI=>hI.elim λl hI=> ?_⟩) (λs σ' hI=>hI.elim λdon hI=>hI.elim λl hI=> ?_) (s:=((none,none,none,none,none),(none,none))) ⟨[],[],rfl,GI.to (λp=>⟨False.elim,λh=>h.elim λ_ h=>absurd h.1 bm⟩) (aD _),t2⟩
 ·exact xi (u:=s.2) (hI.1.symm▸tl) h.c hw hI.2.2 hI.2.1 λs l' σ3 dc t=>K1 s σ3 (ai.mpr ((bP t).1 (ra,_) (.tail _ (.head _)))) ⟨_,l',(af _ _ _).trans hI.1,dc,t⟩
 have e:=(aw don).symm.trans hI.1
 have o:=bP hI.2.2
 refine pFl (bG rfl) (bH (o.1 (ra,_) (.tail _ (.head _)))) (dq (leG d.a g ra) (λ_ todo σ2=>σ2=σ'∧∀r∈todo,r∈rows d.t 0 0) (λs r rs σ2 hJ=>⟨_,rfl,λR K1 _=> ?_⟩) (λs σ2 hJ=> ?_) ⟨rfl,λ_ m=>m⟩)
 ·obtain⟨rfl,m⟩:=hJ
  exact ug (u:=s.2) tl (m r (.head _)) (dE (bI hI.2.2) h.c) hw.2 (o.1 (g,_) (.head _)) (λi j hi hj q=>tl.bes (m r (.head _)) hi hj (e▸(hI.2.1.mem _).mp q)) λs=>K1 s _ (ai.mpr (o.1 (ra,_) (.tail _ (.head _)))) ⟨rfl,λr mr=>m r (.tail _ mr)⟩
 ·exact oR λk H=>H _ _ (okR (K _ (hJ.1▸bI hI.2.2)))
end
noncomputable def tm(W:Int)(c:Int×Int→Bool)(i:Int):List (Int×Int):=(List.range' 0 W.toNat).flatMap λ(j:Nat)=>bif !c (i,0+1*(j:Int)) then [(i,(0:Int)+1*(j:Int))] else []
noncomputable def qo(W H:Int)(c:Int×Int→Bool):List (Int×Int):=(List.range' 0 H.toNat).flatMap λ(i:Nat)=>tm W c (0+1*(i:Int))
theorem A6{α β:Type}{f:α→List β}{m:Nat}(h:∀a,(f a).length≤m)(l:List α):(l.flatMap f).length≤l.length*m:=by
 induction l with
 | nil=>exact bu _
 | cons a l ih =>
  rw[List.flatMap_cons,aa,bc,Nat.succ_mul,bn]
  exact bq ih (h a)
theorem A3(W:Int)(c:Int×Int→Bool)(i:Int):(tm W c i).length≤W.toNat:=by
 have h:=A6 (m:=1) (λ(j:Nat)=>show(bif !c (i,0+1*(j:Int)) then [(i,(0:Int)+1*(j:Int))] else []).length≤1 by cases c (i,0+1*(j:Int));exact aD 1;exact bu 1) (List.range' 0 W.toNat)
 rwa [Nat.mul_one,List.length_range'] at h
theorem lY{w:Int}(h:Nu w):ce 0 w 1=some ((List.range' 0 w.toNat).map λ(k:Nat)=>V.int (0+1*(k:Int))):=by
 have:=gw (a:=0) (w:=w) ⟨by decide,by decide⟩ h
 rwa [Int.zero_add,Int.sub_zero] at this
theorem Go{β:Type}{F:FT}{b:E}{le:Le}{σ:H}{k:List V→Gd→H→Option β}{Q:β→Prop}{j:Int}{l:List V}(hb:Ev F le σ b (.int j))(hr:ce 0 j 1=some l)(h:Ok (k l [] σ) Q):Ok (fz F (.r1 b) le σ k) Q:=wF (λk=>hb k) hr h
noncomputable def leH(a g:Nat)(s:O7):Le:=some (.ref a)::some (.ref g)::s.1.1::s.1.2.1::s.1.2.2.1::s.1.2.2.2.1::s.1.2.2.2.2::s.2.1::s.2.2::nn 6
section
variable{n:Nat}{σ:H}{d:D}
theorem A1{Q:V×H→Prop}{W Hh:Int}(hdp:Dp n d.t)(h:At σ d)(hp:Pl d 0 0)(hw:d.w=W∧d.h=Hh)(nw:Nu W∧Nu Hh)(tl:Tl W Hh (rows d.t 0 0))(hl:(names d.t).length≤99)(K:∀a c σ',(∀p,c p=true↔cov (rows d.t 0 0) p)→New σ [(a,.list ((qo W Hh c).map bX))] σ'→Q (.ref a,σ')):Ok (cf (n+2) oM [.ref d.a] σ) Q:=by
 refine okF (le:=some (.ref d.a)::nn 14) rfl rfl ?_
 have t0:=bM σ (O.dT [])
 refine oA λk H=>H (.ref σ.length) (σ++[O.dT []]) ?_
 generalize σ++[O.dT []]=σ1 at t0⊢
 generalize σ.length=g at t0⊢
 refine oFo λk H=>okC (dz hdp (h.kp (bI t0)) hp hl λra σ2 t2=>dN (bH (bK t2)) (H _ _ _ ?_))
 have t2:=(t0.and t2).perm (.refl _) (List.Perm.swap _ _ _)
 refine dq (leH d.a g) (λ_ todo σ'=>∃don l,don++todo=rows d.t 0 0∧Dc l (cov don) (don.length*9801)∧New σ ((g,.dT l)::[(ra,.list ((rows d.t 0 0).map Row.v))]) σ') (λs r rs σ' hI=>⟨_,rfl,λR K1 _=>hI.elim λdon hI=>hI.elim λl hI=> ?_⟩) (λs σ' hI=>hI.elim λdon hI=>hI.elim λl hI=> ?_) (s:=((none,none,none,none,none),(none,none))) ⟨[],[],rfl,GI.to (λp=>⟨False.elim,λh=>h.elim λ_ h=>absurd h.1 bm⟩) (aD _),t2⟩
 ·have tl:=hI.1.symm▸tl
  have nu:=tl.nu (ay _ (.head _))
  refine pF2 (bG rfl) (bR (bG rfl) (bG rfl)) (gw nu.2.1 nu.2.2) ?_
  refine qe (b:=2) (da:=g) (r:=r) (w:= .bool true) (lev:=λu=>leH d.a g (rw5 r,u)) (λ_ _=>rfl) (λ_ _=>rfl) (λ_=>rfl) (λ_=>rfl) nu.1 (Fr:=False) (s:=s.2) (λi j σ l R t hl nm q=> ?_) (ae tl.big.1 tl.big.2) hI.2.2 hI.2.1 False.elim λs σ3 l3 dc3 t3=>okR (K1 (_,s) σ3 (ai.mpr ((bP t3).1 (ra,_) (.tail _ (.head _)))) ⟨_,l3,(af _ _ _).trans hI.1,dc3.to (λp=> ?_) tl.big.1,t3⟩)
  ·exact oSI bN (bG rfl) (df (bG rfl) (bG rfl)) (xF (bK t) (okG hl (okR q)))
  ·rw[ik]
   exact tM
 ·have e:=(aw don).symm.trans hI.1
  have hd:=(h.kp (bI hI.2.2)).c
  have hg:=(bP hI.2.2).1 (g,_) (.head _)
  refine oR λk H=> ?_
  refine okG (c:=(cw (.one 9) (leH d.a g s)&&cw (.one 10) (leH d.a g s))=true) rfl ?_
  refine Go (dg (bG rfl) hd (hw.2▸rfl:(flds d)[2]? =some (V.int Hh))) (lY nw.2) ?_
  refine okB (dB (S:=Option V) (λq=>(leH d.a g s).set 9 q) (λi:Nat=>(tm W (λp=>l.any λkv=>kv.1==p) (0+1*(i:Int))).map bX) (s:=none) (aj _) ?_ λσ2 k2=> ?_)
  ·refine λi m q σ2 k2=>⟨some (.int (0+1*(i:Int))),rfl,λR K1=> ?_⟩
   refine Go (dg (bG rfl) (dE k2 hd) (hw.1▸rfl:(flds d)[1]? =some (V.int W))) (lY nw.1) ?_
   refine okG (c:=cw (.one 10) ((leH d.a g s).set 9 (some (.int (0+1*(i:Int)))))=true) rfl ?_
   refine dB (S:=Option V) (λq=>((leH d.a g s).set 9 (some (.int (0+1*(i:Int))))).set 10 q) (λj:Nat=>(bif !(l.any λkv=>kv.1==(0+1*(i:Int),0+1*(j:Int))) then [((0:Int)+1*(i:Int),(0:Int)+1*(j:Int))] else []).map bX) (s:=none) (aj _) ?_ λσ3 k3=> ?_
   ·refine λj m q σ3 k3=>⟨some (.int (0+1*(j:Int))),rfl,λR K2=> ?_⟩
    refine b4 (cr (df (bG rfl) (bG rfl)) (bG rfl) (congrArg neg (vq (cj (k2.trans k3) hg)))) ?_
    refine fB (λe=>okR ?_) λe=>okR ?_
    ·rw[e] at K2
     exact K2 _ .rfl
    ·rw[e] at K2
     exact K2 _ .rfl
   ·rw[←List.map_flatMap]
    exact K1 _ k3
  ·rw[←List.map_flatMap]
   refine okG ?_ (H _ _ (okR (K _ _ _ (λp=>ES.trans ((hI.2.1.mem p).trans (e▸Iff.rfl))) ((((bI hI.2.2).trans k2):Kp σ σ2).trans (bM _ _)))))
   rw[ah]
   refine ae (A6 (λi=>A3 W _ _) _) ?_
   rw[List.length_range']
   exact ae (Nat.mul_le_mul (Int.toNat_le.mpr nw.2.2) (Int.toNat_le.mpr nw.1.2)) (by decide:900*900≤lim)
end
noncomputable def Kd(σ σ':H):Prop:=∀(b:Nat) (o:O),rV o=none→σ[b]? =some o→σ'[b]? =some o
noncomputable def Dk(σ:H)(dk A:Nat):Prop:=∃(c a:Nat) (l:List Int),(a≤A∧l.length≤900)∧σ[dk]? =some (dkO c a)∧bJ σ c=some (l.map V.int)
section
variable{σ σ' σ2:H}{n dk A:Nat}{d:D}
theorem Kd.trans(h:Kd σ σ')(k:Kd σ' σ2):Kd σ σ2:=λb o n e=>k b o n (h b o n e)
theorem eU(h:Kp σ σ'):Kd σ σ':=λb o _ e=>cj h e
theorem Kd.list(h:Kd σ σ'){a:Nat}{l:List V}(e:bJ σ a=some l):bJ σ' a=some l:=bH (h a _ rfl (bQ e))
theorem Ad(d:D):∀q∈objs d,rV q.2=none:=by
 induction d using D.ind with
 | H a b x y k w h ps ih =>
  intro q m
  rcases aE.mp m with rfl|m
  ·rfl
  ·rcases aE.mp m with rfl|m
   ·rfl
   ·suffices ∀l:List D,(∀d∈l,d∈ps)→q∈bO l→rV q.2=none from this ps (λ_ m=>m) m
    intro l
    induction l with
    | nil=>exact λ_ m=>nomatch m
    | cons c cs ih2=>exact λmc m=>(List.mem_append.mp m).elim (ih c (mc c (.head _)) q) (ih2 λd md=>mc d (.tail _ md))
theorem Kd.at(h:Kd σ σ')(k:At σ d):At σ' d:=λq m=>h q.1 q.2 (Ad d q m) (k q m)
theorem Dk.kp(h:Dk σ dk A)(k:Kp σ σ'):Dk σ' dk A:=h.elim λc h=>h.elim λa h=>h.elim λl h=>⟨c,a,l,h.1,cj k h.2.1,bL k h.2.2⟩
theorem Dk.mono(h:Dk σ dk A){B:Nat}(l:A≤B):Dk σ dk B:=h.elim λc h=>h.elim λa h=>h.elim λx h=>⟨c,a,x,⟨ae h.1.1 l,h.1.2⟩,h.2⟩
theorem IH{a b:Nat}{o p:O}(h:σ[a]? =some o)(k:σ[b]? =some p)(ne:a≠b):Own σ ([(a,o)]++[(b,p)]):=⟨ao.mpr ⟨h,ai.mpr k⟩,aQ.mpr ⟨λm=>ne (aI.mp m),aQ.mpr ⟨bm,.nil⟩⟩⟩
theorem d7{Q:V×H→Prop}{b:Int}(h:Dk σ dk A)(ha:A≤900)(hb:0<b)(K:∀v σ',0≤v→v<b→Kd σ σ'→Dk σ' dk (A+1)→Q (.int v,σ')):Ok (cf (n+1) bY [.ref dk,.int b] σ) Q :=
 h.elim λc h=>h.elim λa h=>h.elim λl h=>Bn hb (ae h.1.1 ha) (pG h.2.1) h.2.2 h.1.2 λv σ' h0 h1 t =>
  have kd:Kd σ σ':=λb o no e=>(t [(b,o)] (IH h.2.1 e λq=>by
   subst q
   rw[h.2.1] at e
   rw[←Option.some.inj e] at no
   exact nomatch no)).1 (b,o) (.tail _ (.head _))
  K v σ' h0 h1 kd ⟨c,a+1,l,⟨aA h.1.1,h.1.2⟩,(t.get (pG h.2.1)).1 _ (.head _),kd.list h.2.2⟩
theorem xb{Q:V×H→Prop}(K:∀a σ',New σ [(a,.list ([3,4,5,6,7].map V.str))] σ'→Q (.ref a,σ')):Ok (cf (n+1) lz [] σ) Q :=
 okF (le:=nn 6) rfl rfl (oR λk H=>H _ _ (okR (K _ _ (bM _ _))))
theorem Br{Q:V×H→Prop}{a:Nat}{l:List Int}(h:bJ σ a=some (l.map .int))(hl:l.length≤900)(K:∀dk σ',Dk σ' dk 0→Q (.ref dk,σ')):Ok (cf (n+1) oQ [.ref a] σ) Q:=by
 refine okF (le:=some (.ref a)::nn 6) rfl rfl ?_
 have c:cut (l.map V.int) .none (.int 60)=some ((l.take (clip l.length 60)).map V.int):=by
  show some (((l.map V.int).drop 0).take (clip (l.map V.int).length 60))=_
  rw[ah,List.map_take]
  rfl
 refine oR λk H=>okG (c:=cw (.one 1) (some (.ref a)::nn 6)=true) rfl (okL h (c7 c ?_))
 have t1:=bM σ (.list ((l.take (clip l.length 60)).map V.int))
 refine dN (bH (bK t1)) (okB (dB (S:=Option V) (λq=>some (.ref a)::q::nn 5) (λi:Int=>[V.int (i%1000000007)]) (s:=none) (ai.mpr (bK t1)) ?_ λσ2 k2=> ?_))
 ·exact λi m q σ2 k2=>⟨some (.int i),rfl,λR K1=>b4 (c6 (x:=i) (by nofun) (λβ k=>rfl) bN (iZ (by decide))) (okR (K1 _ .rfl))⟩
 ·rw[fm1]
  have hs:((l.take (clip l.length 60)).map λi=>i%1000000007).length≤900:=by
   rw[ah,List.length_take]
   exact ae (Nat.min_le_right _ _) hl
  refine okG (by rw[ah];exact ae hs (by decide)) (H _ _ (okR (K _ _ ?_)))
  have t:=(bM σ2 (.list (((l.take (clip l.length 60)).map λi=>i%1000000007).map V.int))).and (bM _ (dkO σ2.length 0))
  exact⟨_,0,_,⟨aD 0,hs⟩,bK t,bH ((bP t).1 (σ2.length,_) (.tail _ (.head _)))⟩
end
structure LeOk{α:Type}(le:α→α→Bool):Prop where
 t:∀a b,le a b=false→le b a=true
 tr:∀a b c,le a b=true→le b c=true→le a c=true
 an:∀a b,le a b=true→le b a=true→a=b
section
variable{α:Type}{le:α→α→Bool}
theorem Gp(h:LeOk le){x:α}{l:List α}(p:l.Pairwise λa b=>le a b=true):(iA le x l).Pairwise λa b=>le a b=true:=by
 induction l with
 | nil=>exact List.pairwise_singleton _ _
 | cons y l ih =>
  have q:=List.pairwise_cons.mp p
  show(if le x y=true then x::y::l else y::iA le x l).Pairwise _
  cases e:le x y
  ·exact List.pairwise_cons.mpr ⟨λz m=>(aE.mp ((ins_perm le x l).mem_iff.mp m)).elim (λk=>k▸h.t x y e) (q.1 z),ih q.2⟩
  ·exact List.pairwise_cons.mpr ⟨λz m=>(aE.mp m).elim (λk=>k▸e) λm=>h.tr x y z e (q.1 z m),p⟩
theorem wb(h:LeOk le)(l:List α):(b5 le l).Pairwise λa b=>le a b=true:=by
 induction l with
 | nil=>exact .nil
 | cons x l ih=>exact Gp h ih
theorem wc(h:LeOk le){l m:List α}(p:l.Perm m)(s:m.Pairwise λa b=>le a b=true):b5 le l=m:=((gu le l).trans p).eq_of_pairwise (λa b _ _=>h.an a b) (wb h l) s
end
theorem Aq:LeOk leI:=⟨λa b e=>bB (Int.le_of_lt (Int.not_le.mp (of_decide_eq_false e))),λa b c e k=>bB (ak (bA e) (bA k)),λa b e k=>Int.le_antisymm (bA e) (bA k)⟩
theorem y8{l m:List Int}(p:l.Perm m):b5 leI l=b5 leI m:=wc Aq (p.trans (gu leI m).symm) (wb Aq m)
theorem cv{a b:Int×Int}:leP a b=true↔a.1<b.1∨(a.1=b.1∧a.2≤b.2):=by
 rw[leP,Bool.or_eq_true_iff,ar,decide_eq_true_iff,decide_eq_true_iff,decide_eq_true_iff]
theorem Gc:LeOk leP where
 t a b e:=cv.mpr ((Int.lt_trichotomy b.1 a.1).imp_right λh=>h.elim (λh=>⟨h,(Int.le_total b.2 a.2).resolve_right λk=>Bool.false_ne_true (e.symm.trans (cv.mpr (.inr ⟨h.symm,k⟩)))⟩) λh=>absurd (cv.mpr (.inl h)) (Bool.eq_false_iff.mp e))
 tr a b c h k:=cv.mpr ((cv.mp h).elim (λh=> .inl ((cv.mp k).elim (Int.lt_trans h) λk=>k.1▸h)) λh=>(cv.mp k).imp (λk=>h.1.symm▸k) λk=>⟨h.1.trans k.1,ak h.2 k.2⟩)
 an a b h k:=(cv.mp h).elim (λh=>(cv.mp k).elim (λk=>absurd (Int.lt_trans h k) (aS _)) λk=>absurd (k.1▸h) (aS _)) λh=>(cv.mp k).elim (λk=>absurd (h.1▸k) (aS _)) λk=>Prod.ext h.1 (Int.le_antisymm h.2 k.2)
noncomputable def ltP(a b:Int×Int):Prop:=a.1<b.1∨(a.1=b.1∧a.2<b.2)
theorem EA{b i:Int}:(∃k∈List.range' 0 b.toNat,i=0+1*((k:Nat):Int))↔0≤i∧i<b:=by
 have:=ik (a:=0) (b:=b) (i:=i)
 rwa [Int.sub_zero] at this
theorem mA{c:Int×Int→Bool}{p q:Int×Int}:p∈(bif !c q then [q] else [])↔p=q∧c q=false:=by
 cases e:c q
 ·exact aI.trans (and_iff_left rfl).symm
 ·exact iff_of_false bm λh=>nomatch h.2
theorem iY{W i:Int}{c:Int×Int→Bool}{p:Int×Int}:p∈tm W c i↔(p.1=i∧0≤p.2∧p.2<W)∧c p=false:=by
 rw[tm,List.mem_flatMap,←EA]
 constructor
 ·exact λh=>h.elim λk h=>have q:=mA.mp h.2;⟨⟨congrArg Prod.fst q.1,k,h.1,congrArg Prod.snd q.1⟩,q.1▸q.2⟩
 ·exact λh=>h.1.2.elim λk q=>have e:p=(i,0+1*(k:Int)):=Prod.ext h.1.1 q.2;⟨k,q.1,mA.mpr ⟨e,e▸h.2⟩⟩
theorem Aj{W H:Int}{c:Int×Int→Bool}{p:Int×Int}:p∈qo W H c↔((0≤p.1∧p.1<H)∧(0≤p.2∧p.2<W))∧c p=false:=by
 rw[qo,List.mem_flatMap,←EA (i:=p.1)]
 exact⟨λh=>h.elim λk h=>have q:=iY.mp h.2;⟨⟨⟨k,h.1,q.1.1⟩,q.1.2⟩,q.2⟩,λh=>h.1.1.elim λk q=>⟨k,q.1,iY.mpr ⟨⟨q.2,h.1.2⟩,h.2⟩⟩⟩
theorem zo{n:Nat}:(List.range' 0 n).Pairwise λj k=>(0:Int)+1*((j:Nat):Int)<0+1*((k:Nat):Int) :=
 List.Pairwise.imp (λ{j k} h=>by rw[Int.zero_add,Int.zero_add,Int.one_mul,Int.one_mul];exact aP.mpr h) List.pairwise_lt_range'
theorem Dy(W H:Int)(c:Int×Int→Bool):(qo W H c).Pairwise ltP :=
 List.pairwise_flatMap.mpr ⟨λi _=>List.pairwise_flatMap.mpr ⟨λj _=>by cases c (0+1*(i:Int),0+1*(j:Int));exact List.pairwise_singleton _ _;exact .nil,zo.imp λ{j k} h x mx y my=>by
   rw[(mA.mp mx).1,(mA.mp my).1]
   exact .inr ⟨rfl,h⟩⟩,zo.imp λ{j k} h x mx y my=> .inl (by rw[(iY.mp mx).1.1,(iY.mp my).1.1];exact h)⟩
theorem Dz{W H:Int}{c:Int×Int→Bool}{l:List KV}{S:Int×Int→Prop}{n:Nat}(h:Dc l S n)(k:∀p,S p↔((0≤p.1∧p.1<H)∧(0≤p.2∧p.2<W))∧c p=false):b5 leP (dk l)=qo W H c :=
 have pw:=Dy W H c
 wc Gc ((List.perm_ext_iff_of_nodup h.nd (pw.imp λ{a b} q e=>q.elim (λq=>aS _ (e▸q)) λq=>aS _ (e▸q.2))).mpr λp=>(h.mem p).trans ((k p).trans Aj.symm)) (pw.imp λq=>cv.mpr (q.imp_right λq=>⟨q.1,Int.le_of_lt q.2⟩))
structure Lay(t:T):Prop where
 wf:WF t
 nd:(names t).Nodup
 n:(names t).length≤6
 nm:Nm t 0 0
 ol:(oct t 0 0).length≤900000
 tl:Tl t.w t.h (rows t 0 0)
 sm:∀p,Ln t 0 0 p→smP p
 ct:ct t<64
 ln:∀p,Ln t 0 0 p↔((0≤p.1∧p.1<t.h)∧(0≤p.2∧p.2<t.w))∧¬cov (rows t 0 0) p
section
variable{σ:H}{β:Type}{Q:β→Prop}
theorem same{a b:Nat}{xs:List V}(h1:bJ σ a=some xs)(h2:bJ σ b=some xs)(hf:xs.all flat=true):cmpop .eq (.ref a) (.ref b) σ=some true:=by
 show(bJ σ a).bind _=_
 rw[h1]
 show(bJ σ b).bind _=_
 rw[h2]
 show(if xs.length≠xs.length then some false else gd ((xs.all flat&&xs.all flat)=true) (some (eqB xs xs)))=_
 rw[if_neg (λh=>h rfl),hf,gd,if_pos (show(true&&true)=true from rfl),eqB, @bB _ (Classical.propDecidable _) rfl]
theorem differ{a b:Nat}{xs:List V}(h1:bJ σ a=some xs)(h2:bJ σ b=some xs)(hf:xs.all flat=true):cmpop .ne (.ref a) (.ref b) σ=some false:=congrArg neg (same h1 h2 hf)
theorem dY{α:Type}{f:α→V}(h:∀x,flat (f x)=true)(l:List α):(l.map f).all flat=true:=List.all_eq_true.mpr λx m=>(bb.mp m).elim λy e=>e.2▸h y
theorem firsts{F:FT}{j:Nat}{g:Gd}{rs:List Row}{le:Le}{Q:List V×H→Prop}(hj:j<le.length)(hg:cY σ g)(K:Q (rs.map λr=>V.int r.p,σ)):Ok (cy (.one j) g (λle σ=>evK F (.idx (.var j) (.lit (.int 0))) le σ λv σ=>some ([v],σ)) (rs.map Row.v) le σ) Q:=by
 induction rs generalizing le Q with
 | nil=>exact okR K
 | cons r rs ih =>
  exact c7 (x:=le.set j (some r.v)) rfl (okB (b4 (f8 (v:= .int r.p) (bG (v:=r.v) (by rw[slot,List.getElem?_set_self hj];rfl)) bN rfl) (okR (uG hg (okB (ih (by rw[List.length_set];exact hj) (okR K)))))))
end
noncomputable def leQ(dk a pa ra:Nat)(l:Le):Le:=some (.ref dk)::some (.ref a)::some (.ref pa)::some (.ref ra)::l
section
variable{σ:H}{d:D}{Q:V×H→Prop}
theorem Lay.dp{t:T}(L:Lay t){n:Nat}(h6:6≤n)(h9:n≤99):Dp n t:=fH h9 L.wf (ae L.n h6)
theorem Lay.n9{t:T}(L:Lay t):(names t).length≤99:=ae L.n (by decide)
theorem cz(hp:Pl d 0 0):(rows d.t 0 0).map Row.p=names d.t:=by
 rw[←gT d 0 0 hp,aY]
 exact cV d
theorem IE{dk pa:Nat}{ps:List Int}(L:Lay d.t)(h:At σ d)(hp:Pl d 0 0)(hpa:bJ σ pa=some (ps.map V.int))(pm:ps.Perm (names d.t))
  (K:∀ra σ',New σ [(ra,.list ((rows d.t 0 0).map Row.v))] σ'→Ok (bT (cf 98) (cD.body.drop 2) (leQ dk d.a pa ra (nn 13)) σ' dt) Q):Ok (bT (cf 98) cD.body (some (.ref dk)::some (.ref d.a)::some (.ref pa)::nn 14) σ dt) Q:=by
 refine oA λk H=>okC (dz (n:=97) (L.dp (by decide) (by decide)) h hp L.n9 λra σ1 t1=>H _ _ ?_)
 refine oIr λk H=>CP (wr (okC (mI (n:=96) (L.dp (by decide) (by decide)) (h.kp (bI t1)) L.wf hp λσ2 k2=> ?_)))
 have t2:=t1.kp k2
 refine CP (wr (okC (xh (n:=96) (W:=d.t.w) (Hh:=d.t.h) (L.dp (by decide) (by decide)) (h.kp (bI t2)) hp ⟨(t_w d).symm,(t_h d).symm⟩ L.tl L.n9 λσ3 k3=> ?_)))
 have t3:=t2.kp k3
 have n6:(rows d.t 0 0).length≤6:=by rw[←ah (f:=Row.p),cz hp];exact L.n
 refine okG (c:=cw (.one 11) (leQ dk d.a pa ra (nn 13))=true) rfl (dN (bH (bK t3)) (okB (firsts (show 11<17 by decide) (ai.mpr (bK t3)) (okG ?_ ?_))))
 ·rw[ah]
  exact ae n6 (by decide)
 have e1:(rows d.t 0 0).map (λr=>V.int r.p)=(names d.t).map V.int:=by rw[←cz hp,aY];rfl
 rw[e1]
 have t4:=bM σ3 (.list ((names d.t).map V.int))
 refine y9 (bH (bK t4)) (ax L.n (by decide)) ?_
 have t5:=bM (σ3++[O.list ((names d.t).map V.int)]) (.list ((b5 leI (names d.t)).map V.int))
 have k5:=(bI t4).trans (bI t5)
 generalize(σ3++[O.list ((names d.t).map V.int)])++[O.list ((b5 leI (names d.t)).map V.int)]=σ5 at t5 k5⊢
 refine y9 (bL ((bI t3).trans k5) hpa) (by rw[pm.length_eq];exact ax L.n (by decide)) ?_
 have t6:=bM σ5 (.list ((b5 leI ps).map V.int))
 refine iu (differ (bL (bI t6) (bH (bK t5))) ((y8 pm)▸bH (bK t6)) (dY (λ_=>rfl) _)) (H false _ (λe=>Bool.noConfusion e) λ_=>K _ _ (t3.kp (k5.trans (bI t6))))
theorem ID{dk pa ra:Nat}(L:Lay d.t)(h:At σ d)(hp:Pl d 0 0)(hr:bJ σ ra=some ((rows d.t 0 0).map Row.v))
  (K:∀u4 u5 σ',Kp σ σ'→Ok (bT (cf 98) (cD.body.drop 5) (leQ dk d.a pa ra (u4::u5::nn 11)) σ' dt) Q):Ok (bT (cf 98) (cD.body.drop 2) (leQ dk d.a pa ra (nn 13)) σ dt) Q:=by
 refine oA λk H=>okC (fc (n:=96) (L.dp (by decide) (by decide)) h L.wf hp L.nm L.ol λσ1 k1=>H _ _ ?_)
 refine oA λk H=>okC (sD (n:=6) (j:=89) (by decide) (by decide) L.n L.wf L.nm L.ol L.nd λd2 σ2 e2 p2 t2=>H _ _ ?_)
 have L2:Lay d2.t:=e2.symm▸L
 have h2:=cq (bP t2)
 refine oIr λk H=>CP (okC (fc (n:=96) (L2.dp (by decide) (by decide)) h2 L2.wf p2 L2.nm L2.ol λσ3 k3=> ?_))
 refine b4 (v:= .bytes (ot d.t)) (bG rfl) (iu (v:=false) ?_ ?_)
 ·show some (!(ot d2.t==ot d.t))=_
  rw[e2,bC]
  rfl
 refine okC (dz (n:=97) (L2.dp (by decide) (by decide)) (h2.kp k3) p2 L2.n9 λrb σ4 t4=> ?_)
 have k4:=(k1.trans (bI t2)).trans (k3.trans (bI t4))
 refine iu (differ (e2▸bH (bK t4)) (bL k4 hr) (dY (λ_=>rfl) _)) (H false _ (λe=>Bool.noConfusion e) λ_=>K _ _ _ k4)
theorem IC{ek pa ra:Nat}{u4 u5:Option V}(L:Lay d.t)(h:At σ d)(hp:Pl d 0 0)
  (K:∀σ',Kp σ σ'→Ok (bT (cf 98) (cD.body.drop 6) (leQ ek d.a pa ra (u4::u5::nn 11)) σ' dt) Q):Ok (bT (cf 98) (cD.body.drop 5) (leQ ek d.a pa ra (u4::u5::nn 11)) σ dt) Q:=by
 refine oIr λk H=>okG (c:=cw (.many [11,12,13]) (leQ ek d.a pa ra (u4::u5::nn 11))=true) rfl (okC (yj (n:=97) (x:=0) (y:=0) ⟨L.dp (by decide) (by decide),h,hp,L.nm,L.sm,ae (bh L.ct) (by decide)⟩ L.ct λa l σ1 dc t1=>dN (bH (bK t1)) ?_))
 refine okB (dB (S:=Option V×Option V×Option V) (λs=>leQ ek d.a pa ra (u4::u5::none::none::none::none::none::s.1::s.2.1::s.2.2::nn 3)) (λp=>[bX p]) (s:=(none,none,none)) (ai.mpr (bK t1)) ?_ λσ2 k2=> ?_)
 ·exact λp m s σ2 k2=>⟨(some (.int p.1),some (.int p.2),some (code l p)),rfl,λR K1=>b4 (df (bG rfl) (bG rfl)) (okR (K1 _ .rfl))⟩
 have t3:=bM σ2 (.list ((b5 leP (dk l)).flatMap λp=>[bX p]))
 have k3:=((bI t1).trans k2).trans (bI t3)
 have nc:=F1 L.nm
 refine okG ?_ (okC (A1 (n:=96) (L.dp (by decide) (by decide)) (h.kp k3) hp ⟨rfl,rfl⟩ ⟨nc.1,nc.2.1⟩ (t_w d▸t_h d▸L.tl) L.n9 λb c σ4 hc t4=> ?_))
 ·rw[←List.map_eq_flatMap,ah,(gu leP (dk l)).length_eq,dk,ah]
  exact ae dc.len (ae (bh L.ct) (by decide))
 have e:b5 leP (dk l)=qo d.w d.h c:=Dz dc λp=>(L.ln p).trans (by rw[t_w,t_h,←Bool.not_eq_true,hc])
 refine iu (differ (bH ((bI t4|>cj) (bK t3))) ?_ (by rw[←List.map_eq_flatMap];exact dY (f:=bX) (λ_=>rfl) _)) (H false _ (λe=>Bool.noConfusion e) λ_=>K _ (k3.trans (bI t4)))
 rw[←List.map_eq_flatMap,e]
 exact bH (bK t4)
end
noncomputable def AU(row col:Int)(rs:List Row):List Int:=rs.flatMap λr=>bif inR r row col then [r.p] else []
noncomputable def hdV:List Int→V
 | []=> .none
 | p::_=> .int p
theorem x3(row col:Int)(l:List D):pv (l.find? λe=>inR e.row row col)=hdV (AU row col (l.map D.row)):=by
 induction l with
 | nil=>rfl
 | cons e l ih =>
  rw[List.find?_cons,aR,AU,List.flatMap_cons]
  cases inR e.row row col
  ·exact ih
  ·rfl
theorem rD{σ:H}{α:Type}{f:α→V}{l:List α}{a:Nat}{i:Int}(h:bJ σ a=some (l.map f))(h0:0≤i)(h1:i<l.length):∃x∈l,gD σ (.ref a) (.int i)=some (f x):=by
 have hi:i=((i.toNat:Nat):Int):=(Int.toNat_of_nonneg h0).symm
 have hl:i.toNat<l.length:=aP.mp (hi▸h1)
 refine⟨l[i.toNat],List.getElem_mem hl,dQ (P:=(l.take i.toNat).map f) (Q:=(l.drop (i.toNat+1)).map f) (h.trans ?_) ?_⟩
 ·rw[←aR,←au,List.getElem_cons_drop,List.take_append_drop]
 ·rw[ah,List.length_take,Nat.min_eq_left (bh hl)]
  exact hi
theorem CW{σ:H}(l:List Int):cmpop .ne (hdV l) (hdV l) σ=some false:=by
 cases l with
 | nil=>rfl
 | cons p l=>exact congrArg some ((congrArg Bool.not (bC p)).trans rfl)
section
variable{σ:H}{d:D}{Q:V×H→Prop}
theorem Id{F:FT}{le:Le}{r:Row}{a b c:Nat}{row col:Int}(ha:slot le a=some r.v)(hb:slot le b=some (.int row))(hc:slot le c=some (.int col)) :
  Ev F le σ (.and (.cmp2 .le .lt (.idx (.var a) (.lit (.int 2))) (.var b) (.bin .add (.idx (.var a) (.lit (.int 2))) (.idx (.var a) (.lit (.int 4))))) (.cmp2 .le .lt (.idx (.var a) (.lit (.int 1))) (.var c) (.bin .add (.idx (.var a) (.lit (.int 1))) (.idx (.var a) (.lit (.int 3)))))) (.bool (inR r row col)) :=
 have e:∀i v,gD σ r.v (.int i)=some v→Ev F le σ (.idx (.var a) (.lit (.int i))) v:=λi v h=>f8 (bG ha) bN h
 d6 (wS (e 2 _ rfl) (bG hb) (bR (e 2 _ rfl) (e 4 _ rfl))) (wS (e 1 _ rfl) (bG hc) (bR (e 1 _ rfl) (e 3 _ rfl)))
theorem Ie{β:Type}{F:FT}{le:Le}{j a:Nat}{l:List Int}{k:V→H→Option β}{Q:β→Prop}(hs:slot le j=some (.ref a))(h:bJ σ a=some (l.map V.int))(g:Ok (k (hdV l) (σ++[.list []])) Q):Ok (evK F (.ite (.cmp .ne (.var j) (.list [])) (.idx (.var j) (.lit (.int 0))) (.lit .none)) le σ k) Q:=by
 have k1:=bI (bM σ (.list []))
 refine b4 (k:=λx σ=>evK F (.list []) le σ λy σ=>(cmpop .ne x y σ).bind λc=>(b6 (.bool c)).bind λt=>if t then evK F (.idx (.var j) (.lit (.int 0))) le σ k else evK F (.lit .none) le σ k) (bG hs) ?_
 show Ok ((cmpop .ne (.ref a) (.ref σ.length) (σ++[O.list []])).bind _) Q
 refine iu (congrArg neg (EP (bL k1 h) (bH (bK (bM σ (.list [])))))) ?_
 cases l with
 | nil=>exact g
 | cons p l=>exact b4 (f8 (bG hs) bN (dQ (P:=[]) (bL k1 h) rfl)) g
theorem IB{ek pa ra A:Nat}{u4 u5:Option V}(L:Lay d.t)(h:At σ d)(hp:Pl d 0 0)(D:Dk σ ek A)(hA:A≤800)(hr:bJ σ ra=some ((rows d.t 0 0).map Row.v))
  (K:∀u6 u7 u8 σ',Kd σ σ'→Dk σ' ek (A+2)→Ok (bT (cf 98) (cD.body.drop 9) (leQ ek d.a pa ra (u4::u5::u6::u7::u8::nn 8)) σ' dt) Q):Ok (bT (cf 98) (cD.body.drop 6) (leQ ek d.a pa ra (u4::u5::nn 11)) σ dt) Q:=by
 have wp:=mE L.wf
 rw[t_w,t_h] at wp
 have h9:A+1≤900:=ae (aA hA) (by decide)
 refine oT λk H=>okI h.c (okC (d7 (n:=97) D (bf h9) (aG (by decide) wp.2) λrow σ1 _ _ kd1 D1=> ?_))
 refine okI (kd1.at h).c (okC (d7 (n:=97) D1 h9 (aG (by decide) wp.1) λcol σ2 _ _ kd2 D2=>H (.tup [.int row,.int col]) _ σ2 rfl ?_))
 have kd2:=kd1.trans kd2
 have hr2:=kd2.list hr
 refine oA λk H=>okG (c:=cw (.one 11) (leQ ek d.a pa ra (u4::u5::some (.int row)::some (.int col)::nn 9))=true) rfl (dN hr2 ?_)
 refine okB (dB (S:=Option V) (λs=>leQ ek d.a pa ra (u4::u5::some (.int row)::some (.int col)::none::none::none::s::nn 5)) (λr=>(bif inR r row col then [r.p] else []).map V.int) (s:=none) (ai.mpr (bQ hr2)) ?_ λσ3 k3=> ?_)
 ·refine λr m s σ3 k3=>⟨some r.v,rfl,λR K1=>b4 (Id rfl rfl rfl) ?_⟩
  have K1:=K1 σ3 .rfl
  refine fB (λe=>b4 (f8 (v:= .int r.p) (bG (v:=r.v) rfl) bN rfl) (okR ?_)) λe=>okR ?_
  ·rw[e] at K1
   exact K1
  ·rw[e] at K1
   exact K1
 ·rw[←List.map_flatMap]
  have hl:=A6 (f:=λr=>bif inR r row col then [r.p] else []) (m:=1) (λr=>by cases inR r row col;exact bu 1;exact aD 1) (rows d.t 0 0)
  rw[Nat.mul_one] at hl
  have t4:=bM σ3 (.list ((AU row col (rows d.t 0 0)).map V.int))
  refine okG ?_ (H _ _ ?_)
  ·rw[ah]
   refine ae hl (ae L.tl.n (by decide))
  have k4:=k3.trans (bI t4)
  refine oIr λk H=>okC (sI (n:=97) (L.dp (by decide) (by decide)) ((kd2.at h).kp k4) L.n9 λσ5 k5=> ?_)
  refine Ie rfl (bL k5 (bH (bK t4))) ?_
  have e:=x3 row col (lv d)
  rw[gT d 0 0 hp] at e
  have k6:=(k4.trans k5).trans (bI (bM σ5 (.list [])))
  exact iu (e▸CW _) (H false _ (λe=>Bool.noConfusion e) λ_=>K _ _ _ _ (kd2.trans (eU k6)) (D2.kp k6))
end
theorem GA{w:Nat}(hw:8≤w∧w≤11){me a b:Row}(h:apart a b)(ha:1≤a.w∧1≤a.h)(hb:1≤b.w∧1≤b.h)(na:bs w me a=true)(nb:bs w me b=true):(far w a).1<(far w b).1:=by
 have l:∀{x y z u:Int},1≤y→x+y+1≤z→x<z:=λh k=>aG (Int.lt_add_of_pos_right _ (aG (by decide) h)) (ak (aJ (by decide)) k)
 have hx:∀{x y z:Int},x=y→x+z+1≤y→1≤z→False:=λe k h=>aS _ (e▸l (u:=0) h k)
 have hy:∀{x y z u v:Int},x+y+1=z→u+v+1=z→x+y+1≤u→1≤v→False:=λe f k h=>aS _ (Int.lt_of_le_of_lt (f▸e▸k) (l (u:=0) h (bv _)))
 rcases w4 w (Nat.lt_succ_of_le hw.2) hw.1 with rfl|rfl|rfl|rfl
 ·exact h.elim (λh=>(hy (bD na) (bD nb) h hb.1).elim) λh=>l (u:=0) ha.2 h
 ·exact h.elim (λh=>(hx ((bD na).symm.trans (bD nb)) h ha.1).elim) λh=>l (u:=0) ha.2 h
 ·exact h.elim (λh=>l (u:=0) ha.1 h) λh=>(hy (bD na) (bD nb) h hb.2).elim
 ·exact h.elim (λh=>l (u:=0) ha.1 h) λh=>(hx ((bD na).symm.trans (bD nb)) h ha.2).elim
theorem Gz{W H:Int}{rs:List Row}(h:Tl W H rs){w:Nat}(hw:8≤w∧w≤11)(me:Row):((rs.filter (nb w me)).map (far w)).Pairwise λx y=>x.1<y.1 :=
 List.pairwise_map.mpr (List.pairwise_filter.mpr (List.Pairwise.imp_of_mem (λ{a b} ma mb p na nb=>GA hw p (h.i a ma).1.1 (h.i b mb).1.1 (ar.mp na).1 (ar.mp nb).1) h.a))
theorem Dr{α:Type}{f:α→Int}{l:List α}(n:(l.map f).Nodup){a b:α}(ha:a∈l)(hb:b∈l)(e:f a=f b):a=b:=by
 induction l with
 | nil=>exact nomatch ha
 | cons c l ih =>
  have q:=aQ.mp n
  rcases aE.mp ha with rfl|ma
  ·rcases aE.mp hb with rfl|mb
   ·rfl
   ·exact absurd (e▸aK mb) q.1
  ·rcases aE.mp hb with rfl|mb
   ·exact absurd (e▸aK ma) q.1
   ·exact ih q.2 ma mb
section
variable{σ:H}{d:D}{Q:V×H→Prop}
theorem IA{ek pa ra A:Nat}{u4 u5 u6 u7 u8:Option V}(L:Lay d.t)(h:At σ d)(hp:Pl d 0 0)(Dd:Dk σ ek A)(hA:A≤800)(hr0:bJ σ ra=some ((rows d.t 0 0).map Row.v))
  (K:∀σ',Kd σ σ'→Dk σ' ek (A+2)→Q (.bool true,σ')):Ok (bT (cf 98) (cD.body.drop 9) (leQ ek d.a pa ra (u4::u5::u6::u7::u8::nn 8)) σ dt) Q:=by
 have h9:A+1≤900:=ae (aA hA) (by decide)
 have hl:(rows d.t 0 0).length<64:=by rw[←ah (f:=Row.p),cz hp];exact ax L.n (by decide)
 have h0:0<(((rows d.t 0 0).map Row.v).length:Int):=by rw[ah,←ah (f:=Row.p),cz hp];exact aP.mpr (dH L.wf)
 refine oT λk H=>fG hr0 (okC (d7 (n:=97) Dd (bf h9) h0 λv1 σ1 l1 m1 kd1 D1=> ?_))
 rw[ah] at m1
 have hr1:=kd1.list hr0
 refine(rD hr1 l1 m1).elim λr hr=>okX hr.2 ?_
 have t2:=bM σ1 (.list ([8,9,10,11].map V.str))
 refine okG (c:=([8,9,10,11].map V.str).length≤lim) (by decide) (okC (d7 (n:=97) (D1.kp (bI t2)) h9 (by decide) λv2 σ2 l2 m2 kd2 D2=> ?_))
 refine(rD (l:=[8,9,10,11]) (kd2.list (bH (bK t2))) l2 m2).elim λw hw=>okX hw.2 (H (.tup [r.v,.str w]) _ σ2 rfl ?_)
 have kd3:=(kd1.trans (eU (bI t2))).trans kd2
 have w8:∀w∈[8,9,10,11],8≤w∧w≤11:=by decide
 have w8:=w8 w hw.1
 refine oR λk H=>okC (nS (n:=97) w8 (by decide) (L.dp (by decide) (by decide)) (kd3.at h) L.n9 (cz hp▸aK hr.1) λme mm ep a σ4 t4=> ?_)
 have t5:=bM σ4 (.list (((lv d).filter λe=>nb w me.row e.row).map λe=>V.int e.k.p))
 refine okL (bH (bK t4)) (okC (vF (n:=97) (me:=r) w8 (bL ((bI t4).trans (bI t5)) (kd3.list hr0)) hl (Gz L.tl w8 r) λb σ6 t6=> ?_))
 have hm:me.row=r:=(bb.mp (((gT d 0 0 hp).symm▸hr.1:r∈(lv d).map D.row))).elim λe q=>(congrArg D.row (Dr (f:=λe:D=>e.k.p) ((cV d).symm▸L.nd) mm q.1 (ep.trans (congrArg Row.p q.2).symm))).trans q.2
 refine iu (same (bL (bI t6) (bH (bK t5))) ?_ (dY (λ_=>rfl) _)) (H _ _ (okR (K _ (kd3.trans (eU (((bI t4).trans (bI t5)).trans (bI t6)))) (D2.kp (((bI t4).trans (bI t5)).trans (bI t6))))))
 rw[←gT d 0 0 hp,List.filter_map,aY,←hm] at t6
 exact bH (bK t6)
theorem rA{ek pa A:Nat}{ps:List Int}(L:Lay d.t)(h:At σ d)(hp:Pl d 0 0)(Dd:Dk σ ek A)(hA:A≤700)(hpa:bJ σ pa=some (ps.map V.int))(pm:ps.Perm (names d.t))(K:∀σ',Kd σ σ'→Dk σ' ek (A+4)→Q (.bool true,σ')):Ok (cf 99 lC [.ref ek,.ref d.a,.ref pa] σ) Q :=
 okF (n:=98) (le:=some (.ref ek)::some (.ref d.a)::some (.ref pa)::nn 14) rfl rfl (IE L h hp hpa pm λra σ1 t1 =>
  have r1:=bH (bK t1)
  have h1:=h.kp (bI t1)
  ID L h1 hp r1 λu4 u5 σ2 k2=>IC L (h1.kp k2) hp λσ3 k3 =>
   have k3:=k2.trans k3
   have k1:=(bI t1).trans k3
   IB L (h.kp k1) hp (Dd.kp k1) (ae hA (by decide)) (bL k3 r1) λu6 u7 u8 σ4 kd D4 =>
    IA L (kd.at (h.kp k1)) hp D4 (ae (aF hA 2) (by decide)) (kd.list (bL k3 r1)) λσ5 kd2 D5=>K σ5 (((eU k1).trans kd).trans kd2) D5)
end
noncomputable def Rc(x y:Int)(t:T)(p:Int×Int):Prop:=∀q:Bool,sd q x y≤sd q p.2 p.1∧sd q p.2 p.1<sd q x y+t.sd q
noncomputable def ap(a b:Row):Prop:=∃q:Bool,sd q a.x a.y+sd q a.w a.h+1≤sd q b.x b.y
noncomputable def Rw(x y:Int)(s:Bool→Int)(r:Row):Prop:=(1≤r.w∧1≤r.h)∧∀q:Bool,sd q x y≤sd q r.x r.y∧sd q r.x r.y+sd q r.w r.h≤sd q x y+s q
structure Ge(t:T)(x y:Int):Prop where
 a:∀r∈rows t x y,Rw x y (λq=>t.sd q) r
 b:(rows t x y).Pairwise ap
 i:∀p,Ln t x y p→Rc x y t p
 c:∀p,Rc x y t p→(Ln t x y p↔¬cov (rows t x y) p)
theorem AR{r:Row}{p:Int×Int}:xY r p↔∀q:Bool,sd q r.x r.y≤sd q p.2 p.1∧sd q p.2 p.1<sd q r.x r.y+sd q r.w r.h :=
 ⟨λh q=>by cases q;exact h.1;exact h.2,λh=>⟨h false,h true⟩⟩
theorem FX(r:Bool)(x y w h:Int):sd r (nx r x w) (nx (!r) y h)=sd r x y+(sd r w h+1)∧sd (!r) (nx r x w) (nx (!r) y h)=sd (!r) x y:=by cases r <;> exact⟨rfl,rfl⟩
theorem wa{r:Bool}{W H X Y w h x y:Int}{p:Int×Int}:Sp r W H X Y w h x y p↔(sd (!r) X Y≤sd (!r) p.2 p.1∧sd (!r) p.2 p.1<sd (!r) X Y+sd (!r) W H)∧sd r p.2 p.1=sd r x y+sd r w h:=by cases r <;> exact Iff.rfl
theorem iN{P:Bool→Prop}(r:Bool)(h:P r)(k:P (!r)):∀q,P q:=by
 intro q
 cases r <;> cases q
 ·exact h
 ·exact k
 ·exact k
 ·exact h
theorem zy{t:T}{x y:Int}(g:Ge t x y){p:Int×Int}(h:cov (rows t x y) p):Rc x y t p:=h.elim λr h q=>have w:=(g.a r h.1).2 q;have i:=AR.mp h.2 q;⟨ak w.1 i.1,aG i.2 w.2⟩
noncomputable def cG(r:Bool):List T→Int
 | []=>0
 | t::ts=>(t.sd r+1)+cG r ts
structure GeL(r:Bool)(C W H X Y:Int)(ts:List T)(x y:Int):Prop where
 a:∀w∈cZ r ts x y,(1≤w.w∧1≤w.h)∧(sd r x y≤sd r w.x w.y∧sd r w.x w.y+sd r w.w w.h+1≤sd r x y+cG r ts)∧(sd (!r) x y≤sd (!r) w.x w.y∧sd (!r) w.x w.y+sd (!r) w.w w.h≤sd (!r) x y+C)
 b:(cZ r ts x y).Pairwise ap
 i:∀p,LnL r W H X Y ts x y p→(sd r x y≤sd r p.2 p.1∧sd r p.2 p.1+1<sd r x y+cG r ts)∧(sd (!r) x y≤sd (!r) p.2 p.1∧sd (!r) p.2 p.1<sd (!r) x y+C)
 c:∀p,(sd r x y≤sd r p.2 p.1∧sd r p.2 p.1+1<sd r x y+cG r ts)∧(sd (!r) x y≤sd (!r) p.2 p.1∧sd (!r) p.2 p.1<sd (!r) x y+C)→(LnL r W H X Y ts x y p↔¬cov (cZ r ts x y) p)
theorem uY{r:Bool}{ts:List T}(h:∀t∈ts,1≤t.sd r):0≤cG r ts∧(ts≠[]→2≤cG r ts):=by
 induction ts with
 | nil=>exact⟨bv 0,λh=>absurd rfl h⟩
 | cons t ts ih =>
  have p:2≤(t.sd r+1)+cG r ts:=ak (br (h t (.head _)) 1) (aJ (ih λt m=>h t (.tail _ m)).1)
  exact⟨ak (by decide) p,λ_=>p⟩
theorem DW{a b:List Row}{p:Int×Int}:cov (a++b) p↔cov a p∨cov b p :=
 ⟨λh=>h.elim λr h=>(List.mem_append.mp h.1).imp (λm=>⟨r,m,h.2⟩) λm=>⟨r,m,h.2⟩,λh=>h.elim (λh=>h.elim λr h=>⟨r,aL _ h.1,h.2⟩) λh=>h.elim λr h=>⟨r,ay _ h.1,h.2⟩⟩
theorem Ik{r:Bool}{C W H X Y x y:Int}{ts:List T}(k:GeL r C W H X Y ts x y){p:Int×Int}(h:cov (cZ r ts x y) p):sd r x y≤sd r p.2 p.1:=h.elim λw h=>ak (k.a w h.1).2.1.1 (AR.mp h.2 r).1
theorem Gv{r:Bool}{C W H X Y:Int}(hC:sd (!r) W H=C){ts:List T}(hs:∀t∈ts,t.sd (!r)=C∧1≤t.sd r)(hg:∀t∈ts,∀x y,Ge t x y):∀{x y:Int},sd (!r) x y=sd (!r) X Y→GeL r C W H X Y ts x y:=by
 induction ts with
 | nil=>exact λ_=>⟨aj _,.nil,λp h=>h.elim,λp h=>absurd (Int.lt_of_le_of_lt h.1.1 (Int.lt_trans (Int.lt_succ _) h.1.2)) (by rw[show cG r []=0 from rfl,Int.add_zero];exact aS _)⟩
 | cons t ts ih =>
  intro x y e
  have n:=FX r x y t.w t.h
  have k:=ih (λt m=>hs t (.tail _ m)) (λt m=>hg t (.tail _ m)) (n.2.trans e)
  have g:=hg t (.head _) x y
  have s:=hs t (.head _)
  have l:=uY λt m=>(hs t (.tail _ m)).2
  have up:sd r x y+((t.sd r+1)+cG r ts)=sd r (nx r x t.w) (nx (!r) y t.h)+cG r ts:=by
   rw[n.1]
   exact(Int.add_assoc _ _ _).symm
  have a1:sd r x y+t.sd r+1=sd r (nx r x t.w) (nx (!r) y t.h):=(Int.add_assoc _ _ _).trans n.1.symm
  have a0:sd r x y≤sd r (nx r x t.w) (nx (!r) y t.h):=n.1▸aJ (ak (by decide) (br s.2 1))
  have ul:∀{P},sd r (nx r x t.w) (nx (!r) y t.h)≤P→P<sd r x y+t.sd r→False:=λh k=>aS _ (aG k (ak (Int.le_of_lt (Int.lt_of_add_one_le (Int.le_of_eq a1))) h))
  refine⟨λw m=>(List.mem_append.mp m).elim (λm=> ?_) λm=> ?_,List.pairwise_append.mpr ⟨g.b,k.b,λu mu v mv=>⟨r,?_⟩⟩,λp h=> ?_,λp h=> ?_⟩
  ·have h:=g.a w m
   refine⟨h.1,⟨(h.2 r).1,?_⟩,s.1▸h.2 (!r)⟩
   show _≤sd r x y+((t.sd r+1)+cG r ts)
   rw[up]
   exact ak (br (h.2 r).2 1) (a1▸aJ l.1)
  ·have h:=k.a w m
   rw[n.2,←up] at h
   exact⟨h.1,⟨ak a0 h.2.1.1,h.2.1.2⟩,h.2.2⟩
  ·exact ak (br ((g.a u mu).2 r).2 1) (a1▸(k.a v mv).2.1.1)
  ·show(_∧_<sd r x y+((t.sd r+1)+cG r ts))∧_
   rw[up]
   rcases h with h|⟨ne,h⟩|h
   ·have h:=k.i p h
    rw[n.2] at h
    exact⟨⟨ak a0 h.1.1,h.1.2⟩,h.2⟩
   ·have h:=wa.mp h
    rw[←e,hC] at h
    refine⟨⟨?_,?_⟩,h.1⟩
    ·rw[h.2]
     exact aJ (ak (by decide) s.2)
    ·rw[h.2]
     exact Int.lt_of_le_of_lt (Int.le_of_eq a1) (Int.lt_add_of_pos_right _ (aG (by decide) (l.2 ne)))
   ·have h:=g.i p h
    exact⟨⟨(h r).1,aG (Int.add_lt_add_right (h r).2 1) (a1▸aJ l.1)⟩,s.1▸h (!r)⟩
  ·have h:(_∧_<sd r x y+((t.sd r+1)+cG r ts))∧_:=h
   rw[up] at h
   show(LnL r W H X Y ts _ _ p∨(ts≠[]∧Sp r W H X Y t.w t.h x y p)∨Ln t x y p)↔¬cov (rows t x y++cZ r ts _ _) p
   rw[DW]
   rcases Int.lt_trichotomy (sd r p.2 p.1) (sd r x y+t.sd r) with q|q|q
   ·have n1:¬LnL r W H X Y ts _ _ p:=λz=>ul (k.i p z).1.1 q
    have n2:¬(ts≠[]∧Sp r W H X Y t.w t.h x y p):=λz=>aS _ ((wa.mp z.2).2▸q)
    exact(or_iff_right n1).trans ((or_iff_right n2).trans ((g.c p (iN r ⟨h.1.1,q⟩ (s.1.symm▸h.2))).trans (not_congr (or_iff_left λz=>ul (Ik k z) q).symm)))
   ·have ne:ts≠[]:=λz=>by
     rw[z,show cG r []=0 from rfl,Int.add_zero,q,a1] at h
     exact aS _ h.1.2
    refine iff_of_true (.inr (.inl ⟨ne,wa.mpr ⟨?_,q⟩⟩)) λz=>z.elim (λz=>aS _ (q▸(zy g z r).2)) λz=> ?_
    ·rw[hC,←e]
     exact h.2
    ·exact aS _ (aG (Int.lt_succ _) (ak (Int.le_of_eq (q▸a1)) (Ik k z)))
   ·have n1:¬((ts≠[]∧Sp r W H X Y t.w t.h x y p)∨Ln t x y p):=λz=>z.elim (λz=>aS _ ((wa.mp z.2).2▸q)) λz=>aS _ (Int.lt_trans q (g.i p z r).2)
    refine(or_iff_left n1).trans ((k.c p ⟨⟨?_,h.1.2⟩,n.2.symm▸h.2⟩).trans (not_congr (or_iff_right λz=>aS _ (Int.lt_trans q (zy g z r).2)).symm))
    rw[←a1]
    exact q
theorem rj(r:Bool)(ts:List T):cG r ts=(ts.map (T.sd r)).sum+ts.length:=by
 induction ts with
 | nil=>rfl
 | cons t ts ih =>
  show(t.sd r+1)+cG r ts=(t.sd r+(ts.map (T.sd r)).sum)+((ts.length:Int)+1)
  rw[ih,Int.add_assoc,Int.add_assoc,Int.add_left_comm 1,Int.add_comm 1]
theorem H5{t:T}(h:WF t):∀x y,Ge t x y:=by
 induction h with
 | @pane t p e h1 h2 h3 =>
  intro x y
  obtain⟨k,w,h,ps⟩:=t
  cases e
  cases h3
  exact⟨ai.mpr ⟨⟨h1,h2⟩,λq=>⟨bv _,bv _⟩⟩,List.pairwise_singleton _ _,λp h=>h.elim,λp h=>iff_of_false id λz=>z ⟨_,.head _,AR.mpr h⟩⟩
 | @box t r e h1 h2 h3 h4 h5 ih =>
  intro x y
  obtain⟨k,w,h,ps⟩:=t
  cases e
  have K:GeL r (sd (!r) w h) w h x y ps x y:=Gv rfl (λt m=>⟨h3 t m,by have q:=mE (h2 t m);cases r;exact q.2;exact q.1⟩) ih rfl
  have l:sd r x y+cG r ps=sd r x y+sd r w h+1:=by
   rw[rj,Int.add_assoc]
   exact congrArg (sd r x y+·) (Int.sub_eq_iff_eq_add.mp h5)
  refine⟨λu m=> ?_,K.b,λp m=> ?_,λp m=>K.c p ⟨⟨(m r).1,?_⟩,m (!r)⟩⟩
  ·have q:=K.a u m
   rw[l] at q
   exact⟨q.1,iN r ⟨q.2.1.1,Int.le_of_add_le_add_right q.2.1.2⟩ q.2.2⟩
  ·have q:=K.i p m
   rw[l] at q
   exact iN r ⟨q.1.1,Int.lt_of_add_lt_add_right q.1.2⟩ q.2
  ·rw[l]
   exact Int.add_lt_add_right (m r).2 1
theorem pC{t:T}(h:WF t)(q:Bool):1≤t.sd q:=by
 cases q
 ·exact(mE h).2
 ·exact(mE h).1
theorem C4{r:Bool}{ts:List T}(h:∀t∈ts,1≤t.sd r):∀s∈ts,s.sd r+1≤cG r ts:=by
 induction ts with
 | nil=>exact aj _
 | cons t ts ih =>
  have n:=(uY λt m=>h t (.tail _ m)).1
  exact ao.mpr ⟨aJ n,λs m=>ak (ih (λt m=>h t (.tail _ m)) s m) (Int.le_add_of_nonneg_left (ak (by decide) (br (h t (.head _)) 1)))⟩
theorem tY{t:T}{r:Bool}(h:WF t)(e:t.k= .box r):cG r t.ps=t.sd r+1:=jK h e λ_ _ _ _ h5=>(rj r t.ps).trans (Int.sub_eq_iff_eq_add.mp h5)
theorem Ek{t:T}(h:WF t):∀s∈t.ps,∀q,s.sd q≤t.sd q:=by
 cases e:t.k with
 | pane p=>exact pB h e λ_ _ e=>e▸aj _
 | box r=>exact jK h e λ_ h2 h3 _ _ s m=>iN r (Int.le_of_add_le_add_right (tY h e▸C4 (λt m=>pC (h2 t m) r) s m)) (Int.le_of_eq (h3 s m))
theorem tZ{P:T→Prop}{t:T}(h:WF t)(hp:∀p w h,P (.mk (.pane p) w h []))(hb:∀r w h ps,WF (.mk (.box r) w h ps)→(∀t∈ps,P t)→P (.mk (.box r) w h ps)):P t:=by
 induction h with
 | @pane t p e h1 h2 h3 =>
  obtain⟨k,w,h,ps⟩:=t
  cases e
  cases h3
  exact hp p w h
 | @box t r e h1 h2 h3 h4 h5 ih =>
  obtain⟨k,w,h,ps⟩:=t
  cases e
  exact hb r w h ps (.box rfl h1 h2 h3 h4 h5) ih
theorem jl(t:T):∀x y,(rows t x y).map Row.p=names t:=by
 induction t using T.ind with
 | H k w h ps ih =>
  cases k with
  | pane p=>exact λ_ _=>rfl
  | box r =>
   suffices ∀l:List T,(∀t∈l,t∈ps)→∀x y,(cZ r l x y).map Row.p=cb l from this ps λ_ m=>m
   intro l
   induction l with
   | nil=>exact λ_ _ _=>rfl
   | cons t l ih2=>exact λm x y=>au.trans (congr (congrArg _ (ih t (m t (.head _)) x y)) (ih2 (λs ms=>m s (.tail _ ms)) _ _))
theorem Ij{M:Nat}{t:T}(h:WF t):(∀q,t.sd q≤M)→ct t+M≤M*(names t).length:=by
 refine tZ (P:=λt=>(∀q,t.sd q≤M)→ct t+M≤M*(names t).length) h (λp w h _=> ?_) λr w h ps wf ih hM=> ?_
 ·show 0+M≤M*1
  rw[Nat.zero_add,Nat.mul_one]
  exact aD M
 ·have m:(sd r h w).toNat≤M:=Int.toNat_le.mpr (by have:=hM (!r);cases r <;> exact this)
  have k:∀s∈ps,ct s+M≤M*(names s).length:=λs ms=>ih s ms λq=>ak (Ek wf s ms q) (hM q)
  suffices ∀l:List T,(∀t∈l,t∈ps)→l≠[]→ctL (sd r h w).toNat l+M≤M*(cb l).length from this ps (λ_ m=>m) λe=>jK wf rfl λh2 _ _ _ _=>absurd (e▸h2:2≤([]:List T).length) (by decide)
  intro l
  induction l with
  | nil=>exact λ_ h=>absurd rfl h
  | cons t l ih2 =>
   intro ml _
   have kt:=k t (ml t (.head _))
   show ctL _ l+((if l=[] then 0 else _)+ct t)+M≤M*(names t++cb l).length
   rw[aa,Nat.mul_add]
   by_cases e:l=[]
   ·rw[if_pos e,Nat.zero_add,e]
    exact ae (aZ (by rw[show ctL (sd r h w).toNat []=0 from rfl,Nat.zero_add])) (ae kt (az _ _))
   ·rw[if_neg e,←bo,bo _ (ct t),bn]
    exact bq kt (ae (aB m _) (ih2 (λs ms=>ml s (.tail _ ms)) e))
theorem nu3{a w:Int}(h0:0≤a)(h1:1≤w)(h:a+w≤900):Nu a∧Nu w :=
 have hw:0≤w:=ak (by decide) h1
 ⟨⟨h0,ak (aJ hw) h⟩,⟨hw,ak (Int.le_add_of_nonneg_left h0) h⟩⟩
theorem HH{t:T}(h:WF t):(∀p∈names t,Nu p)→∀x y,(∀q,0≤sd q x y∧sd q x y+t.sd q≤900)→Nm t x y:=by
 refine tZ (P:=λt=>WF t→(∀p∈names t,Nu p)→∀x y,(∀q,0≤sd q x y∧sd q x y+t.sd q≤900)→Nm t x y) h (λp w h wf hp x y b=> ?_) (λr w h ps wf ih _ hp x y b=> ?_) h
 ·have a:=nu3 (b true).1 (pC wf true) (b true).2
  have c:=nu3 (b false).1 (pC wf false) (b false).2
  exact⟨⟨a.2,c.2,a.1,c.1,hp p (.head _)⟩,trivial⟩
 ·have a:=nu3 (b true).1 (pC wf true) (b true).2
  have c:=nu3 (b false).1 (pC wf false) (b false).2
  refine⟨⟨a.2,c.2,a.1,c.1,(⟨by decide,by decide⟩:Nu 0)⟩,?_⟩
  have l:=tY wf rfl
  refine jK wf rfl λh1 h2 h3 _ _=> ?_
  suffices ∀l:List T,(∀t∈l,t∈ps)→(∀p∈cb l,Nu p)→∀x y,(0≤sd r x y∧sd r x y+cG r l≤901)→(0≤sd (!r) x y∧sd (!r) x y+sd (!r) w h≤900)→NmL r l x y from
   this ps (λ_ m=>m) hp x y ⟨(b r).1,by rw[show cG r ps=_ from l,←Int.add_assoc];exact br (b r).2 1⟩ (b (!r))
  intro l
  induction l with
  | nil=>exact λ_ _ _ _ _ _=>trivial
  | cons t l ih2 =>
   intro m hp x y a c
   have mt:=m t (.head _)
   have n:=FX r x y t.w t.h
   have hp:=aH.mp hp
   have up:sd r x y+((t.sd r+1)+cG r l)=sd r (nx r x t.w) (nx (!r) y t.h)+cG r l:=n.1▸(Int.add_assoc _ _ _).symm
   have a2:=up▸a.2
   have p1:0≤t.sd r+1:=ak (by decide) (br (pC (h2 t mt) r) 1)
   have lp:=(uY λs ms=>pC (h2 s (m s (.tail _ ms))) r).1
   have e:=h3 t mt
   refine⟨ih t mt (h2 t mt) hp.1 x y (iN r ⟨a.1,?_⟩ ⟨c.1,e▸c.2⟩),ih2 (λs ms=>m s (.tail _ ms)) hp.2 _ _ ⟨n.1▸Int.add_nonneg a.1 p1,a2⟩ (n.2▸c)⟩
   have q:=ak (aJ lp) a2
   rw[n.1,←Int.add_assoc] at q
   exact Int.le_of_add_le_add_right q
theorem o9{i:Int}(h:Nu i):(dI i).length≤901:=ae (rP _) (aA (Int.toNat_le.mpr h.2))
theorem z6{w h x y:Int}(hw:Nu w)(hh:Nu h)(hx:Nu x)(hy:Nu y):(oh w h x y).length≤3610:=by
 show((dI w++[120]++dI h)++[44]++(dI x++[44]++dI y)).length≤_
 rw[aa,aa,aa,aa,aa,aa]
 exact ae (bq (aF (bq (aF (o9 hw) 1) (o9 hh)) 1) (bq (aF (o9 hx) 1) (o9 hy))) (by decide:901+1+901+1+(901+1+901)≤3610)
theorem n8(L:List (List Int)):(dM [44] L).length≤(L.map λl=>l.length+1).sum:=by
 induction L with
 | nil=>exact aD 0
 | cons a L ih =>
  rw[aR,List.sum_cons]
  cases L with
  | nil=>exact Nat.le_succ _
  | cons b L =>
   show(a++[44]++dM [44] (b::L)).length≤_
   rw[aa,aa]
   exact aB ih _
theorem CR{t:T}(h:WF t):∀x y,Nm t x y→(oct t x y).length+5000≤10000*(names t).length:=by
 refine tZ (P:=λt=>∀x y,Nm t x y→(oct t x y).length+5000≤10000*(names t).length) h (λp w h x y n=> ?_) λr w h ps wf ih x y n=> ?_
 ·show((oh w h x y++[44])++dI p).length+5000≤10000
  rw[aa,aa]
  exact ae (aF (bq (aF (z6 n.1.1 n.1.2.1 n.1.2.2.1 n.1.2.2.2.1) 1) (o9 n.1.2.2.2.2)) 5000) (by decide)
 ·show((oh w h x y++[_])++dM [44] (gh r ps x y)++[_]).length+5000≤10000*(cb ps).length
  rw[aa,aa,aa]
  have l:=n8 (gh r ps x y)
  have o:=z6 n.1.1 n.1.2.1 n.1.2.2.1 n.1.2.2.2.1
  suffices ∀l:List T,(∀t∈l,t∈ps)→∀x y,NmL r l x y→((gh r l x y).map λl=>l.length+1).sum+4999*l.length≤10000*(cb l).length by
   have k:=this ps (λ_ m=>m) x y n.2
   have h1:2≤ps.length:=jK wf rfl λh1 _ _ _ _=>h1
   have k2:=ae (bq l (Nat.mul_le_mul_left 4999 h1)) k
   refine ae ?_ k2
   rw[List.length_singleton,List.length_singleton]
   lia
  intro l
  induction l with
  | nil=>exact λ_ _ _ _=>aD 0
  | cons t l ih2 =>
   intro m x y n
   have a:=ih t (m t (.head _)) x y n.1
   have b:=ih2 (λs ms=>m s (.tail _ ms)) _ _ n.2
   show(((oct t x y).length+1)+((gh r l _ _).map λl=>l.length+1).sum)+4999*(l.length+1)≤10000*(names t++cb l).length
   rw[aa]
   lia
structure Inv(t:T)(s f:Nat):Prop where
 wf:WF t
 nd:(names t).Nodup
 nu:∀p∈names t,0≤p∧p≤900
 ln:(names t).length≤s+1
 sz:∀q,t.sd q≤((12+3*f:Nat):Int)
 sf:s+f≤5
theorem Hg:∀s<6,∀f<6,s+f≤5→(12+3*f)*s<64:=by decide
theorem zl(q:Bool):sd q 0 0=0:=by cases q <;> rfl
theorem Jb{t:T}{x:Int}(h:∀q,t.sd q≤x):t.w≤x∧t.h≤x:=⟨h true,h false⟩
theorem Fv{t:T}{p:Int×Int}:Rc 0 0 t p↔((0≤p.1∧p.1<t.h)∧(0≤p.2∧p.2<t.w)):=by
 refine⟨λh=>⟨?_,?_⟩,λh q=> ?_⟩
 ·have:=h false
  rwa [zl,Int.zero_add] at this
 ·have:=h true
  rwa [zl,Int.zero_add] at this
 ·rw[zl,Int.zero_add]
  cases q
  ·exact h.1
  ·exact h.2
theorem Inv.lay{t:T}{s f:Nat}(h:Inv t s f):Lay t:=by
 have g:=H5 h.wf 0 0
 have f5:f≤5:=ae (bk _ _) h.sf
 have s5:s≤5:=ae (az _ _) h.sf
 have n6:(names t).length≤6:=ae h.ln (aA s5)
 have z:∀q,t.sd q≤27:=λq=>ak (h.sz q) (aO.mpr (aB (Nat.mul_le_mul_left 3 f5) 12))
 have nm:Nm t 0 0:=HH h.wf h.nu 0 0 λq=>by
  rw[zl,Int.zero_add]
  exact⟨bv 0,ak (z q) (by decide)⟩
 exact{
  wf:=h.wf
  nd:=h.nd
  n:=n6
  nm:=nm
  ol:=ae (ae (az _ _) (CR h.wf 0 0 nm)) (ae (Nat.mul_le_mul_left 10000 n6) (by decide))
  tl:={
   n:=by rw[←ah (f:=Row.p),jl];exact ae n6 (by decide)
   b:=⟨ak (z true) (by decide),ak (z false) (by decide)⟩
   i:=λr m=>by
    have a:=g.a r m
    have a1:=a.2 true
    have a0:=a.2 false
    rw[zl,Int.zero_add] at a1 a0
    exact⟨⟨a.1,a1.1,a0.1⟩,a1.2,a0.2⟩
   a:=g.b.imp λh=>h.elim λq h=>by
    cases q
    ·exact .inr h
    ·exact .inl h}
  sm:=λp q=>by
   have c:=Fv.mp (g.i p q)
   exact⟨⟨c.1.1,aG c.1.2 (ak (z false) (by decide))⟩,⟨c.2.1,aG c.2.2 (ak (z true) (by decide))⟩⟩
  ct:=by
   have k:=ae (Ij h.wf h.sz) (Nat.mul_le_mul_left _ h.ln)
   rw[Nat.mul_succ] at k
   exact ax (Nat.le_of_add_le_add_right k) (Hg s (Nat.lt_succ_of_le s5) f (Nat.lt_succ_of_le f5) h.sf)
  ln:=λp=>⟨λq=>have c:=g.i p q;⟨Fv.mp c,(g.c p c).mp q⟩,λq=>(g.c p (Fv.mpr q.1)).mpr q.2⟩}
theorem f3(r:Bool)(a b:List T):cG r (a++b)=cG r a+cG r b:=by
 induction a with
 | nil=>exact(Int.zero_add _).symm
 | cons t a ih=>exact(congrArg ((t.sd r+1)+·) ih).trans (Int.add_assoc _ _ _).symm
theorem r6{t:T}{r:Bool}(e:t.k= .box r)(h2:2≤t.ps.length)(h:∀s∈t.ps,WF s∧s.sd (!r)=t.sd (!r)∧s.k≠ .box r)(l:cG r t.ps=t.sd r+1):WF t :=
 .box e h2 (λs m=>(h s m).1) (λs m=>(h s m).2.1) (λs m=>(h s m).2.2) (Int.sub_eq_iff_eq_add.mpr ((rj r t.ps).symm.trans l))
theorem tX{t:T}{r:Bool}(h:WF t)(e:t.k= .box r):2≤t.ps.length∧(∀s∈t.ps,WF s∧s.sd (!r)=t.sd (!r)∧s.k≠ .box r)∧cG r t.ps=t.sd r+1:=jK h e λh2 a b c _=>⟨h2,λs m=>⟨a s m,b s m,c s m⟩,tY h e⟩
theorem rL{f:F}{m0 m:List T}(h:WF (f.fill m0))(hm:∀s∈m,WF s∧s.sd (!f.r)=sd (!f.r) f.w f.h∧s.k≠ .box f.r)(hl:cG f.r m=cG f.r m0)(h2:2≤(f.l++(m++f.rs)).length):WF (f.fill m):=by
 have x:=tX h rfl
 have y:=aH.mp x.2.1
 refine r6 rfl h2 (aH.mpr ⟨y.1,aH.mpr ⟨hm,(aH.mp y.2).2⟩⟩) ?_
 refine Eq.trans ?_ x.2.2
 show cG f.r (f.l++(m++f.rs))=cG f.r (f.l++(m0++f.rs))
 rw[f3,f3,f3,f3,hl]
theorem IV{α:Type}(l rs:List α)(t t':α):(l++([t]++rs)).length=(l++([t']++rs)).length:=by
 rw[aa,aa,aa,aa]
 rfl
noncomputable def Kh(c:List F)(k:K):Prop:=∀f∈c.head?,k≠ .box f.r
theorem eQ(c:List F):∀t,WF (plug c t)→(WF t∧Kh c t.k)∧∀t',WF t'→Kh c t'.k→(∀q,t'.sd q=t.sd q)→WF (plug c t'):=by
 induction c with
 | nil=>exact λt h=>⟨⟨h,λf m=>nomatch m⟩,λt' w _ _=>w⟩
 | cons f c ih =>
  intro t h
  have k:=ih _ h
  have x:=tX k.1.1 rfl
  have xt:=x.2.1 t (ay _ (.head _))
  refine⟨⟨xt.1,λg m=>Option.some.inj m▸xt.2.2⟩,λt' w kk e=>k.2 _ (rL k.1.1 (ai.mpr ⟨w,(e _).trans xt.2.1,kk f rfl⟩) ?_ (IV f.l f.rs t t'▸x.1)) k.1.2 λq=>rfl⟩
  show(t'.sd f.r+1)+0=(t.sd f.r+1)+0
  rw[e]
theorem l7(c:List F):∀t t',(∀q,t'.sd q=t.sd q)→∀q,(plug c t').sd q=(plug c t).sd q:=by
 induction c with
 | nil=>exact λt t' e=>e
 | cons f c ih=>exact λt t' e=>ih _ _ λq=>rfl
theorem yB{r:Bool}{x y x' y':Int}(h:sd r x y=sd r x' y')(k:sd (!r) x y=sd (!r) x' y'):x=x'∧y=y':=by
 cases r
 ·exact⟨k,h⟩
 ·exact⟨h,k⟩
theorem sB(r:Bool)(a:List T):∀x y,∃x' y',(sd r x' y'=sd r x y+cG r a∧sd (!r) x' y'=sd (!r) x y)∧∀b,cZ r (a++b) x y=cZ r a x y++cZ r b x' y':=by
 induction a with
 | nil=>exact λx y=>⟨x,y,⟨(Int.add_zero _).symm,rfl⟩,λb=>rfl⟩
 | cons t a ih =>
  intro x y
  have n:=FX r x y t.w t.h
  obtain⟨x',y',e,k⟩:=ih (nx r x t.w) (nx (!r) y t.h)
  exact⟨x',y',⟨e.1.trans ((congrArg (·+cG r a) n.1).trans (Int.add_assoc _ _ _)),e.2.trans n.2⟩,λb=>(congrArg (rows t x y++·) (k b)).trans (af _ _ _).symm⟩
theorem sV(r:Bool)(l rs:List T)(L x y:Int):∃A B x' y',∀m,cG r m=L→cZ r (l++(m++rs)) x y=A++(cZ r m x' y'++B):=by
 obtain⟨x',y',_,k⟩:=sB r l x y
 refine⟨cZ r l x y,cZ r rs (sd r (x'+L) x') (sd r y' (y'+L)),x',y',λm e=> ?_⟩
 obtain⟨x2,y2,e2,k2⟩:=sB r m x' y'
 rw[k,k2]
 have q:x2=sd r (x'+L) x'∧y2=sd r y' (y'+L):=yB (e2.1.trans (e▸by cases r <;> rfl)) (e2.2.trans (by cases r <;> rfl))
 rw[q.1,q.2]
theorem iT(c:List F):∀(t:T) (x y:Int),∃A B x' y',∀t':T,(∀q,t'.sd q=t.sd q)→rows (plug c t') x y=A++(rows t' x' y'++B):=by
 induction c with
 | nil=>exact λt x y=>⟨[],[],x,y,λt' _=>(aw _).symm⟩
 | cons f c ih =>
  intro t x y
  obtain⟨A,B,x1,y1,h⟩:=ih (f.fill [t]) x y
  obtain⟨A2,B2,x2,y2,k⟩:=sV f.r f.l f.rs ((t.sd f.r+1)+0) x1 y1
  refine⟨A++A2,B2++B,x2,y2,λt' e=>(h (f.fill [t']) λq=>rfl).trans ?_⟩
  have k:=k [t'] (e f.r▸rfl)
  show A++(cZ f.r (f.l++([t']++f.rs)) x1 y1++B)=_
  rw[k,show cZ f.r [t'] x2 y2=rows t' x2 y2++[] from rfl,aw,af,af,af]
noncomputable def fx(r:Bool)(m:Int)(t:T):T:=t.set r (t.sd r-1-m)
noncomputable def fL(r:Bool)(fr m:Int)(t:T):T:=(T.mk (.pane fr) t.w t.h []).set r m
theorem tset(r:Bool)(s:Int)(t:T):(t.set r s).k=t.k∧(t.set r s).ps=t.ps∧(t.set r s).sd r=s∧(t.set r s).sd (!r)=t.sd (!r):=by
 cases t
 cases r <;> exact⟨rfl,rfl,rfl,rfl⟩
theorem DJ{α:Type}{b:Bool}{x y z:α}(h:z∈duo b x y){P:α→Prop}(hx:P x)(hy:P y):P z:=by
 cases b
 ·exact(aE.mp h).elim (λe=>e▸hx) λh=>aI.mp h▸hy
 ·exact(aE.mp h).elim (λe=>e▸hy) λh=>aI.mp h▸hx
theorem Bl{r b:Bool}{fr m p:Int}{t:T}(w:WF t)(e:t.k= .pane p)(h1:1≤m)(h2:1≤t.sd r-1-m):(∀s∈duo b (fx r m t) (fL r fr m t),WF s∧s.sd (!r)=t.sd (!r)∧∀q,s.k≠ .box q)∧cG r (duo b (fx r m t) (fL r fr m t))=cG r [t]∧(duo b (fx r m t) (fL r fr m t)).length=2:=by
 have a:=tset r (t.sd r-1-m) t
 have c:=tset r m (.mk (.pane fr) t.w t.h [])
 have lf:∀{s:T} {q:Int},s.k= .pane q→s.ps=[]→1≤s.sd r→1≤s.sd (!r)→WF s:=λhk hp h1 h2=> .pane hk (iN (P:=λq=>1≤T.sd q _) r h1 h2 true) (iN (P:=λq=>1≤T.sd q _) r h1 h2 false) hp
 have x:=pC w (!r)
 have hp:t.ps=[]:=pB w e λ_ _ h=>h
 refine⟨λs ms=>DJ (P:=λs=>WF s∧s.sd (!r)=t.sd (!r)∧∀q,s.k≠ .box q) ms ⟨lf (a.1.trans e) (a.2.1.trans hp) (ak h2 (Int.le_of_eq a.2.2.1.symm)) (ak x (Int.le_of_eq a.2.2.2.symm)),a.2.2.2,λq z=>nomatch (a.1.trans e).symm.trans z⟩ ⟨lf c.1 c.2.1 (ak h1 (Int.le_of_eq c.2.2.1.symm)) (ak x (Int.le_of_eq c.2.2.2.symm)),c.2.2.2,λq z=>nomatch c.1.symm.trans z⟩,?_,by cases b <;> rfl⟩
 have l:((fx r m t).sd r+1)+((fL r fr m t).sd r+1)=t.sd r+1:=by
  rw[fx,fL,a.2.2.1,c.2.2.1]
  lia
 cases b
 ·show((fx r m t).sd r+1)+(((fL r fr m t).sd r+1)+0)=(t.sd r+1)+0
  rw[Int.add_zero,Int.add_zero,l]
 ·show((fL r fr m t).sd r+1)+(((fx r m t).sd r+1)+0)=(t.sd r+1)+0
  rw[Int.add_zero,Int.add_zero,Int.add_comm,l]
structure SpOk(r b:Bool)(fr m:Int)(t t0 S:T):Prop where
 wf:WF S
 sz:∀q,S.sd q=t0.sd q
 rw:∃A B x y,rows t0 0 0=A++(cZ r [t] x y++B)∧rows S 0 0=A++(cZ r (duo b (fx r m t) (fL r fr m t)) x y++B)
theorem v9{r b:Bool}{fr m p:Int}{t:T}{c:List F}(w:WF (plug c t))(e:t.k= .pane p)(h1:1≤m)(h2:1≤t.sd r-1-m)(hk:Kh c (.box r)):SpOk r b fr m t (plug c t) (plug c (.mk (.box r) t.w t.h (duo b (fx r m t) (fL r fr m t)))):=by
 have k:=eQ c t w
 have d:=Bl (b:=b) (fr:=fr) k.1.1 e h1 h2
 obtain⟨A,B,x,y,h⟩:=iT c t 0 0
 refine⟨k.2 _ (r6 rfl (aZ d.2.2.symm) (λs ms=>⟨(d.1 s ms).1,(d.1 s ms).2.1,(d.1 s ms).2.2 r⟩) (d.2.1.trans (Int.add_zero _))) hk λq=>rfl,l7 c _ _ λq=>rfl,A,B,x,y,(h t λq=>rfl).trans ?_,h _ λq=>rfl⟩
 rw[show cZ r [t] x y=rows t x y++[] from rfl,aw]
theorem Cj{b:Bool}{fr m p:Int}{t:T}{f:F}{c:List F}(w:WF (plug (f::c) t))(e:t.k= .pane p)(h1:1≤m)(h2:1≤t.sd f.r-1-m):SpOk f.r b fr m t (plug (f::c) t) (plug c (f.fill (duo b (fx f.r m t) (fL f.r fr m t)))):=by
 have k:=eQ c (f.fill [t]) w
 have x:=tX k.1.1 rfl
 have xt:=x.2.1 t (ay _ (.head _))
 have d:=Bl (b:=b) (fr:=fr) xt.1 e h1 h2
 obtain⟨A,B,x1,y1,h⟩:=iT c (f.fill [t]) 0 0
 obtain⟨A2,B2,x2,y2,g⟩:=sV f.r f.l f.rs (cG f.r [t]) x1 y1
 refine⟨k.2 _ (rL k.1.1 (λs ms=>⟨(d.1 s ms).1,(d.1 s ms).2.1.trans xt.2.1,(d.1 s ms).2.2 f.r⟩) d.2.1 ?_) k.1.2 λq=>rfl,l7 c _ _ λq=>rfl,A++A2,B2++B,x2,y2,(h (f.fill [t]) λq=>rfl).trans ?_,(h (f.fill (duo b _ _)) λq=>rfl).trans ?_⟩
 ·rw[aa,aa,d.2.2]
  exact ae (az 2 _) (bk _ _)
 ·show A++(cZ f.r (f.l++([t]++f.rs)) x1 y1++B)=_
  rw[g [t] rfl,af,af,af]
 ·show A++(cZ f.r (f.l++(_++f.rs)) x1 y1++B)=_
  rw[g _ d.2.1,af,af,af]
mutual
noncomputable def loc(p:Int):T→Option (List F)
 | .mk (.pane q) _ _ _=>if q=p then some [] else none
 | .mk (.box r) w h ps=>uX p r w h [] ps
noncomputable def uX(p:Int)(r:Bool)(w h:Int):List T→List T→Option (List F)
 | _,[]=>none
 | l,t::ts=>match loc p t with
  | some c=>some (c++[⟨r,w,h,l,ts⟩])
  | none=>uX p r w h (l++[t]) ts
end
theorem Ga{p:Int}(t:T):p∉names t→loc p t=none:=by
 induction t using T.ind with
 | H k w h ps ih =>
  cases k with
  | pane q=>exact λh=>if_neg λe:q=p=>h (show p∈[q] from e▸ .head _)
  | box r =>
   suffices ∀l:List T,(∀t∈l,t∈ps)→p∉cb l→∀l0,uX p r w h l0 l=none from λh=>this ps (λ_ m=>m) h []
   intro l
   induction l with
   | nil=>exact λ_ _ _=>rfl
   | cons t l ih2 =>
    intro m h l0
    have n:=loc_no_app h
    show(match loc p t with|some c=>some (c++[F.mk r _ _ l0 l])|none=>uX p r _ _ (l0++[t]) l)=none
    rw[ih t (m t (.head _)) n.1]
    exact ih2 (λs ms=>m s (.tail _ ms)) n.2 _
where loc_no_app {p:Int} {a b:List Int} (h:p∉a++b):p∉a∧p∉b:=⟨λm=>h (aL _ m),λm=>h (ay _ m)⟩
theorem Ao{p:Int}{f:F}{t:T}{c:List F}(hl:∀s∈f.l,p∉names s)(e:loc p t=some c):loc p (f.fill [t])=some (c++[f]):=by
 suffices ∀l l0,(∀s∈l,p∉names s)→uX p f.r f.w f.h l0 (l++([t]++f.rs))=some (c++[⟨f.r,f.w,f.h,l0++l,f.rs⟩]) from this f.l [] hl
 intro l
 induction l with
 | nil =>
  intro l0 _
  show(match loc p t with|some c=>some (c++[F.mk f.r f.w f.h l0 f.rs])|none=>uX p f.r f.w f.h (l0++[t]) f.rs)=_
  rw[e,aw]
 | cons s l ih =>
  intro l0 h
  show(match loc p s with|some c=>some (c++[F.mk f.r f.w f.h l0 (l++([t]++f.rs))])|none=>uX p f.r f.w f.h (l0++[s]) (l++([t]++f.rs)))=_
  rw[Ga s (h s (.head _))]
  exact(ih (l0++[s]) λs ms=>h s (.tail _ ms)).trans (by rw[af];rfl)
theorem sZ{p:Int}(c:List F):∀{t c0},Fs p c→loc p t=some c0→loc p (plug c t)=some (c0++c):=by
 induction c with
 | nil=>exact λ_ e=>e.trans (congrArg some (aw _).symm)
 | cons f c ih=>exact λh e=>(ih (λg m=>h g (.tail _ m)) (Ao (h f (.head _)) e)).trans (by rw[af];rfl)
theorem zF(c:List F):∀{t t'},plug c t=plug c t'→t=t':=by
 induction c with
 | nil=>exact id
 | cons f c ih=>exact λe=>(List.cons.inj (List.append_cancel_left (congrArg T.ps (ih e)))).1
theorem way{p:Int}{c c':List F}{t t':T}(e:plug c t=plug c' t')(k:t.k= .pane p)(k':t'.k= .pane p)(h:Fs p c)(h':Fs p c'):c=c'∧t=t':=by
 have l:∀{t:T},t.k= .pane p→loc p t=some []:=λ{t} k=>by
  cases t
  cases k
  exact if_pos rfl
 have q:=(sZ c h (l k)).symm.trans ((congrArg (loc p) e).trans (sZ c' h' (l k')))
 obtain rfl:=Option.some.inj q
 exact⟨rfl,zF _ e⟩
theorem G9{r:Bool}{t u:T}(k:t.k=u.k)(p:t.ps=u.ps)(h:t.sd r=u.sd r)(h':t.sd (!r)=u.sd (!r)):t=u:=by
 obtain⟨k1,w,h1,ps⟩:=t
 obtain⟨k2,w2,h2,ps2⟩:=u
 cases k
 cases p
 have q:=yB (r:=r) (x:=w) (y:=h1) (x':=w2) (y':=h2) h h'
 rw[q.1,q.2]
theorem zt{r:Bool}{fr m p:Int}{t q':T}(w:WF t)(e:t.k= .pane p)(h:Res r ((fL r fr m t).sd r+1) (fx r m t) q'):q'=t:=by
 have a:=tset r (t.sd r-1-m) t
 have c:=tset r m (.mk (.pane fr) t.w t.h [])
 have k:q'.k=t.k:=h.k.trans a.1
 refine G9 k ((pB h.wf (k.trans e) λ_ _ h=>h).trans (pB w e λ_ _ h=>h).symm) (r:=r) ?_ (h.o.trans a.2.2.2)
 rw[h.s,fx,fL,a.2.2.1,c.2.2.1]
 lia
theorem xM{r:Bool}{p:Int}{t:T}(e:t.k= .pane p):g8 r t=[t]:=by
 rw[g8,e]
 cases r <;> rfl
theorem H8{p:Int}(c:List F):∀{t},p∉names (plug c t)→Fs p c∧p∉names t:=by
 induction c with
 | nil=>exact λh=>⟨aj _,h⟩
 | cons f c ih =>
  intro t h
  have k:=ih h
  have n:∀s∈f.l++([t]++f.rs),p∉names s:=λs m q=>k.2 (show p∈cb (f.l++([t]++f.rs)) from(fe _).symm▸List.mem_flatMap.mpr ⟨s,m,q⟩)
  exact⟨ao.mpr ⟨λs m=>n s (aL _ m),k.1⟩,n t (ay _ (.head _))⟩
theorem CY{α:Type}{l rs l0 r0:List α}{u q:α}(h:Nb (l++[u]) rs l0 q r0):l0=l∧q=u∧r0=rs:=by
 rcases h with⟨e,k⟩|⟨e,_⟩
 ·have i:=List.append_inj' e rfl
  exact⟨i.1.symm,(List.cons.inj i.2).1.symm,k⟩
 ·exact absurd (List.append_eq_nil_iff.mp e).2 nofun
theorem su{r:Bool}{fr m p:Int}{t:T}{c:List F}{f:F}(w:WF t)(e:t.k= .pane p)(fs0:Fs fr (⟨f.r,f.w,f.h,f.l++[fx r m t],f.rs⟩::c))(er:f.r=r){c1:List F}{f1:F}{t1:T}{l0 r0:List T}{q q':T}
  (es:plug (⟨f.r,f.w,f.h,f.l++[fx r m t],f.rs⟩::c) (fL r fr m t)=plug (f1::c1) t1) (k1:t1.k= .pane fr) (fs:Fs fr (f1::c1)) (nb:Nb f1.l f1.rs l0 q r0) (rs:Res f1.r (t1.sd f1.r+1) q q'):ig c1 f1 l0 r0 q'=if f.l.length+f.rs.length=0 then pk c t else plug (f::c) t:=by
 obtain⟨ec,et⟩:=way es (tset r m (.mk (.pane fr) t.w t.h [])).1 k1 fs0 fs
 obtain⟨rfl,rfl⟩:=List.cons.inj ec
 obtain⟨rfl,rfl,rfl⟩:=CY nb
 subst et er
 rw[zt w e rs]
 rfl
theorem uk{r:Bool}{fr m p:Int}{t:T}{c:List F}(w:WF (plug c t))(e:t.k= .pane p)(nf:fr∉names (plug c t)){c1:List F}{f1:F}{t1:T}{l0 r0:List T}{q q':T}
  (es:eN r false fr m t c=plug (f1::c1) t1) (k1:t1.k= .pane fr) (fs:Fs fr (f1::c1)) (nb:Nb f1.l f1.rs l0 q r0) (rs:Res f1.r (t1.sd f1.r+1) q q'):ig c1 f1 l0 r0 q'=plug c t:=by
 have n:=H8 c nf
 have wt:=(eQ c t w).1.1
 have n1:fr∉names (fx r m t):=by
  have n2:=n.2
  obtain⟨k,w,h,ps⟩:=t
  cases e
  rw[fx]
  cases r <;> exact n2
 have B:plug c (.mk (.box r) t.w t.h (duo false (fx r m t) (fL r fr m t)))=plug (f1::c1) t1→ig c1 f1 l0 r0 q'=plug c t:=λes=>by
  refine(su (r:=r) (f:=⟨r,t.w,t.h,[],[]⟩) (c:=c) wt e (ao.mpr ⟨ai.mpr n1,n.1⟩) rfl es k1 fs nb rs).trans ((if_pos rfl).trans ?_)
  cases c with
  | nil=>rfl
  | cons f c=>exact congrArg (λm=>plug c (f.fill m)) (xM e)
 cases c with
 | nil=>exact B es
 | cons f c =>
  by_cases er:f.r=r
  ·have es2:=(if_pos er).symm.trans es
   have nf:=ao.mp n.1
   have x:=(tX (eQ c _ w).1.1 rfl).1
   refine(su (r:=r) (f:=f) (c:=c) wt e (ao.mpr ⟨aH.mpr ⟨nf.1,ai.mpr n1⟩,nf.2⟩) er (Eq.trans ?_ es2) k1 fs nb rs).trans (if_neg λz=> ?_)
   ·show plug c (.mk _ _ _ ((f.l++[fx r m t])++([fL r fr m t]++f.rs)))=_
    rw[af]
    rfl
   ·have x:2≤(f.l++([t]++f.rs)).length:=x
    rw[aa,aa,Nat.add_left_comm,z] at x
    exact absurd (show 2≤1 from x) (by decide)
  ·exact B ((if_neg er).symm.trans es)
theorem fy{t:T}{p:Int}(e:t.k= .pane p):names t=[p]:=by
 cases t
 cases e
 rfl
theorem wg(r:Bool)(ts:List T):∀x y,(cZ r ts x y).map Row.p=cb ts:=by
 induction ts with
 | nil=>exact λ_ _=>rfl
 | cons t ts ih=>exact λx y=>au.trans (congr (congrArg _ (jl t x y)) (ih _ _))
theorem SpOk.eq{r b:Bool}{fr m:Int}{t t0 S S':T}(h:SpOk r b fr m t t0 S)(e:S'=S):SpOk r b fr m t t0 S':=e▸h
theorem Hd{r b:Bool}{fr m p:Int}{t:T}{c:List F}(w:WF (plug c t))(e:t.k= .pane p)(h1:1≤m)(h2:1≤t.sd r-1-m):SpOk r b fr m t (plug c t) (eN r b fr m t c):=by
 cases c with
 | nil=>exact v9 w e h1 h2 λf m=>nomatch m
 | cons f c =>
  by_cases er:f.r=r
  ·have k:=Cj (b:=b) (fr:=fr) w e h1 (er▸h2)
   subst er
   exact k.eq (if_pos rfl)
  ·exact(v9 w e h1 h2 λg m q=>er (by cases m;injection q with q;exact q.symm)).eq (if_neg er)
theorem sq{r b:Bool}{fr m p:Int}{t t0 S:T}(h:SpOk r b fr m t t0 S)(e:t.k= .pane p):(names S).Perm (fr::names t0):=by
 obtain⟨A,B,x,y,h0,h1⟩:=h.rw
 rw[←jl S 0 0,←jl t0 0 0,h0,h1,au,au,au,au,wg,wg]
 have n1:=fy ((tset r (t.sd r-1-m) t).1.trans e)
 have n2:=fy (tset r m (.mk (.pane fr) t.w t.h [])).1
 have d:(cb (duo b (fx r m t) (fL r fr m t))).Perm (fr::cb [t]):=by
  cases b
  ·show(names (fx r m t)++(names (fL r fr m t)++[])).Perm (fr::(names t++[]))
   rw[fx,fL,n1,n2,fy e]
   exact .swap _ _ _
  ·show(names (fL r fr m t)++(names (fx r m t)++[])).Perm (fr::(names t++[]))
   rw[fx,fL,n1,n2,fy e]
   exact .refl _
 exact((d.append_right _).append_left _).trans List.perm_middle
theorem Inv.split{r b:Bool}{fr m p:Int}{t t0 S:T}{s f:Nat}(I:Inv t0 s f)(h:SpOk r b fr m t t0 S)(e:t.k= .pane p)(nf:fr∉names t0)(hf:0≤fr∧fr≤900)(hs:s+1+f≤5):Inv S (s+1) f :=
 have pm:=sq h e
 ⟨h.wf,pm.nodup_iff.mpr (aQ.mpr ⟨nf,I.nd⟩),λq m=>(aE.mp (pm.mem_iff.mp m)).elim (λe=>e▸hf) (I.nu q),pm.length_eq▸aA I.ln,λq=>h.sz q▸I.sz q,hs⟩
theorem wN{p:Int}{B:List Int}:∀{A:List Int},p∉A→(A++p::B).findIdx? (·==p)=some A.length:=by
 intro A
 induction A with
 | nil=>exact λ_=>(List.findIdx?_cons ..).trans (by rw[bC];rfl)
 | cons a A ih =>
  intro h
  have n:(a==p)=false:=Bool.eq_false_iff.mpr λe=>h (bD e▸ .head _)
  show List.findIdx? (·==p) (a::(A++p::B))=_
  rw[List.findIdx?_cons,n,ih λm=>h (.tail _ m)]
  rfl
noncomputable def leU(ek a:Nat)(p fr:Int)(r b:Bool)(sz:Option Int)(ra n:Nat)(w:Row)(l:Le):Le :=
 some (.ref ek)::some (.ref a)::some (.int p)::some (.int fr)::some (.bool r)::some (.bool b)::some (szV sz)::some (.ref ra)::some (.int n)::some (.int w.x)::some (.int w.y)::some (.int w.w)::some (.int w.h)::some (.int (sd r w.w w.h))::l
section
variable{σ:H}{d:D}{Q:V×H→Prop}
theorem wP{F:FT}{le:Le}{e:E}{w:Row}(he:Ev F le σ e w.v):Ev F le σ (.slc e (.lit (.int 1)) (.lit .none)) (.tup [.int w.x,.int w.y,.int w.w,.int w.h]):=λβ k=>he _
theorem EN{F:FT}{le:Le}{i j l:Nat}{r:Bool}{x y:Int}(hi:slot le i=some (.bool r))(hj:slot le j=some (.int x))(hl:slot le l=some (.int y)):Ev F le σ (.ite (.var i) (.var j) (.var l)) (.int (sd r x y)):=λβ k=>by
 show(slot le i).bind _=_
 rw[hi]
 show(if r=true then evK F (.var j) le σ k else evK F (.var l) le σ k)=_
 cases r
 ·exact bG (F:=F) hl _
 ·exact bG (F:=F) hj _
theorem uN{β:Type}{F:FT}{le:Le}{j i a:Nat}{k:V→H→Option β}{Q:β→Prop}(hf:gG le j=true)(hj:j<le.length)(hs:slot le i=some (.ref a))(hp:Pl d 0 0)(L:Lay d.t)(hr:bJ σ a=some ((rows d.t 0 0).map Row.v))
  (g:∀b σ',New σ [(b,.list ((names d.t).map V.int))] σ'→Ok (k (.ref b) σ') Q):Ok (evK F (.comp (.idx (.var j) (.lit (.int 0))) (.one j) (.seq (.var i))) le σ k) Q:=by
 refine okG hf (rB (λk=>bG hs k) hr (okB (firsts hj (ai.mpr (bQ hr)) (okG ?_ ?_))))
 ·rw[ah]
  exact ae L.tl.n (by decide)
 have e1:(rows d.t 0 0).map (λr=>V.int r.p)=(names d.t).map V.int:=by rw[←cz hp,aY];rfl
 rw[e1]
 exact g _ _ (bM _ _)
theorem IT{ek A:Nat}{p fr:Int}(L:Lay d.t)(h:At σ d)(hp:Pl d 0 0)(Dd:Dk σ ek A)(hA:A≤800)(hm:p∈names d.t)
  (K:∀r b sz ra R0 w R1 σ',rows d.t 0 0=R0++w::R1→w.p=p→p∉R0.map Row.p→Kd σ σ'→Dk σ' ek (A+3)→bJ σ' ra=some ((rows d.t 0 0).map Row.v)→
   Ok (bT (cf 97) (cP.body.drop 6) (leU ek d.a p fr r b sz ra R0.length w (nn 13)) σ' dt) Q):Ok (bT (cf 97) cP.body (some (.ref ek)::some (.ref d.a)::some (.int p)::some (.int fr)::nn 23) σ dt) Q:=by
 have h9:A+2≤900:=ae (aF hA 2) (by decide)
 refine oT λk H=>okC (d7 (n:=96) Dd (ae (az _ 2) h9) (by decide) λv1 σ1 _ _ kd1 D1=> ?_)
 refine okC (d7 (n:=96) D1 (bf h9) (by decide) λv2 σ2 _ _ kd2 D2=>H (.tup [.bool (v1==0),.bool (v2==1)]) _ σ2 rfl ?_)
 have t3:=bM σ2 (.list ([none,none,some 1,some 3,some 40].map szV))
 refine oA λk H=>okG (c:=([none,none,some 1,some 3,some 40].map szV).length≤lim) (by decide) (okC (d7 (n:=96) (D2.kp (bI t3)) h9 (by decide) λv3 σ4 l3 m3 kd3 D3=> ?_))
 refine(rD (l:=[none,none,some 1,some 3,some 40]) (kd3.list (bH (bK t3))) l3 m3).elim λsz hz=>okX hz.2 (H _ _ ?_)
 have kd4:=((kd1.trans kd2).trans (eU (bI t3))).trans kd3
 refine oA λk H=>okC (dz (n:=96) (L.dp (by decide) (by decide)) (kd4.at h) hp L.n9 λra σ5 t5=>H _ _ ?_)
 have hr:=bH (bK t5)
 refine(bb.mp ((cz hp).symm▸hm)).elim λw hw=>(List.append_of_mem hw.1).elim λR0 hR=>hR.elim λR1 hR=> ?_
 have nd:=L.nd
 rw[←cz hp,hR,au,aR] at nd
 have ni:p∉R0.map Row.p:=λm=>(List.nodup_append.mp nd).2.2 p m w.p (.head _) hw.2.symm
 have en:(names d.t).map V.int=(R0.map Row.p++p::R1.map Row.p).map V.int:=by rw[←cz hp,hR,au,aR,hw.2]
 refine oA λk H=>uN rfl (show 21<27 by decide) rfl hp L hr λc σ6 t6=>okG (rcv (bH (bK t6))) (okL (bH (bK t6)) ?_)
 rw[en]
 refine qV (c7 (wN ni) (H _ _ ?_))
 rw[ah]
 have hr6:=bL (bI t6) hr
 have hx:gD σ6 (.ref ra) (.int R0.length)=some w.v:=dQ (P:=R0.map Row.v) (Q:=R1.map Row.v) (hr6.trans (by rw[hR,au];rfl)) (by rw[ah])
 refine oT λk H=>b4 (wP (f8 (bG rfl) (bG rfl) hx)) (H _ _ σ6 rfl ?_)
 refine pA (v:= .int (sd (v1==0) w.w w.h)) (EN rfl rfl rfl) ?_
 have k6:=(bI t5).trans (bI t6)
 exact K (v1==0) (v2==1) sz ra R0 w R1 σ6 hR hw.2 ni (kd4.trans (eU k6)) (D3.kp k6) hr6
end
noncomputable def lf(p:Int)(w:Row):T:= .mk (.pane p) w.w w.h []
theorem B5{R0 R1 A B:List Row}{w v:Row}(e:R0++w::R1=A++v::B)(h:w.p=v.p)(n:((R0++w::R1).map Row.p).Nodup):R0=A∧w=v∧R1=B:=by
 have f:∀{R0 R1:List Row} {w:Row},((R0++w::R1).map Row.p).Nodup→((R0++w::R1).map Row.p).findIdx? (·==w.p)=some R0.length:=λ{R0 R1 w} n=>by
  rw[au,aR] at n⊢
  rw[wN λm=>(List.nodup_append.mp n).2.2 _ m w.p (.head _) rfl,ah]
 have l:=f n
 have l2:=f (e▸n)
 rw[e,h,l2] at l
 have i:=List.append_inj e (Option.some.inj l).symm
 exact⟨i.1,List.cons.inj i.2⟩
theorem C8{sz:Option Int}{s:Int}(h:3≤s):1≤many sz s∧1≤s-1-many sz s :=
 ⟨Int.le_max_left 1 _,Int.le_sub_left_of_add_le (Int.add_le_of_le_sub_right (Int.max_le.mpr ⟨Int.le_sub_right_of_add_le (Int.le_sub_right_of_add_le h),Int.min_le_right _ _⟩))⟩
structure SpR(r b:Bool)(fr:Int)(sz:Option Int)(p:Int)(R0 R1:List Row)(w:Row)(t0 S:T):Prop where
 c:∃c,t0=plug c (lf p w)∧S=eN r b fr (many sz (sd r w.w w.h)) (lf p w) c
 ok:SpOk r b fr (many sz (sd r w.w w.h)) (lf p w) t0 S
 rw:rows S 0 0=R0++(cZ r (duo b (fx r (many sz (sd r w.w w.h)) (lf p w)) (fL r fr (many sz (sd r w.w w.h)) (lf p w))) w.x w.y++R1)
theorem rp{c:List F}{t t0:T}{p:Int}{R0 R1:List Row}{w:Row}(wf:WF t0)(e:t0=plug c t)(k:t.k= .pane p)(nd:(names t0).Nodup)(hR:rows t0 0 0=R0++w::R1)(hw:w.p=p):t=lf p w∧∀{r:Bool} {A B x y},rows t0 0 0=A++(cZ r [t] x y++B)→R0=A∧R1=B∧(w.x=x∧w.y=y):=by
 subst e
 have hp:t.ps=[]:=pB (eQ c t wf).1.1 k λ_ _ h=>h
 obtain⟨kk,tw,th,ps⟩:=t
 cases k
 cases hp
 have u:∀{A B x y},rows (plug c (.mk (.pane p) tw th [])) 0 0=A++((⟨p,x,y,tw,th⟩:Row)::B)→R0=A∧w=⟨p,x,y,tw,th⟩∧R1=B:=λq=>B5 (hR.symm.trans q) hw (hR▸(jl _ 0 0).symm▸nd)
 obtain⟨A,B,x,y,h⟩:=iT c (.mk (.pane p) tw th []) 0 0
 have q:=u (h _ λq=>rfl)
 refine⟨by rw[lf,q.2.1],λ{r A B x y} h=> ?_⟩
 have q:=u h
 exact⟨q.1,q.2.2,congrArg Row.x q.2.1,congrArg Row.y q.2.1⟩
theorem Fi{r b:Bool}{fr p:Int}{sz:Option Int}{c:List F}{t t0:T}{R0 R1:List Row}{w:Row}(wf:WF t0)(e:t0=plug c t)(k:t.k= .pane p)(nd:(names t0).Nodup)(hR:rows t0 0 0=R0++w::R1)(hw:w.p=p)(h3:3≤t.sd r):SpR r b fr sz p R0 R1 w t0 (eN r b fr (many sz (t.sd r)) t c):=by
 obtain⟨et,u⟩:=rp wf e k nd hR hw
 subst et
 have m:=C8 (sz:=sz) h3
 have ok:=Hd (r:=r) (b:=b) (fr:=fr) (e▸wf) k m.1 m.2
 rw[←e] at ok
 obtain⟨A,B,x,y,h0,h1⟩:=ok.rw
 obtain⟨rfl,rfl,rfl,rfl⟩:=u h0
 exact⟨⟨c,e,rfl⟩,ok,h1⟩
section
variable{σ:H}{d:D}{Q:V×H→Prop}
theorem IS{ek ra s f:Nat}{p fr:Int}{r b:Bool}{sz:Option Int}{R0 R1:List Row}{w:Row}(I:Inv d.t s f)(hs:s+1+f≤5)(h:At σ d)(hm:p∈names d.t)(nf:fr∉names d.t)(hf:0≤fr∧fr≤900)(hR:rows d.t 0 0=R0++w::R1)(hw:w.p=p)
  (K0:∀σ',Kp σ σ'→Q (.tup [.bool true,.none],σ'))
  (K1:∀d2 σ',SpR r b fr sz p R0 R1 w d.t d2.t→Inv d2.t (s+1) f→(names d2.t).Perm (fr::names d.t)→Pl d2 0 0→New σ (objs d2) σ'→3≤sd r w.w w.h→Ok (bT (cf 97) (cP.body.drop 9) (leU ek d.a p fr r b sz ra R0.length w (some (.ref d2.a)::nn 12)) σ' dt) Q) :
  Ok (bT (cf 97) (cP.body.drop 6) (leU ek d.a p fr r b sz ra R0.length w (nn 13)) σ dt) Q:=by
 have L:=I.lay
 have inv:∀c t,d.t=plug c t→t.k= .pane p→3≤t.sd r→SpR r b fr sz p R0 R1 w d.t (eN r b fr (many sz (t.sd r)) t c)∧Inv (eN r b fr (many sz (t.sd r)) t c) (s+1) f∧(names (eN r b fr (many sz (t.sd r)) t c)).Perm (fr::names d.t)∧t.sd r=sd r w.w w.h:=λc t e k h3=>by
  have q:=Fi (b:=b) (fr:=fr) (sz:=sz) L.wf e k L.nd hR hw h3
  have et:=(rp L.wf e k L.nd hR hw).1
  exact⟨q,I.split q.ok rfl nf hf hs,sq q.ok rfl,congrArg (T.sd r) et⟩
 refine oA λk H=>okC (xn (n:=94) (sz:=sz) (by decide) L.wf (ae L.n (by decide)) h hm nf (λc t e k h3=>(inv c t e k h3).2.1.lay.dp (by decide) (by decide)) (λc t e k _ h3 σ1 k1=>H _ _ ?_) λc t e k _ h3 d2 σ1 e2 p2 t2=>H _ _ ?_)
 ·have h3:sd r w.w w.h<3:=Int.lt_of_le_of_lt (Int.le_of_eq (congrArg (T.sd r) (rp L.wf e k L.nd hR hw).1).symm) h3
  refine pIr (fF (bG rfl) bN) (λ_=>okR (K0 σ1 k1)) λz=>absurd h3 (of_decide_eq_false z)
 ·have v:=inv c t e k h3
  have h3:3≤sd r w.w w.h:=v.2.2.2▸h3
  refine pIr (oV (bG rfl) bN h3) Bool.noConfusion λ_=> ?_
  refine pIr (b:=false) (cr (bG rfl) bN rfl) Bool.noConfusion λ_=> ?_
  rw[←e2] at v
  exact K1 d2 σ1 v.1 v.2.1 v.2.2.1 p2 t2 h3
end
noncomputable def piece(r:Bool)(w:Row)(at_:Int)(q:Int×Int):Row:=match r with
 | true=>⟨q.1,w.x+at_,w.y,q.2,w.h⟩
 | false=>⟨q.1,w.x,w.y+at_,w.w,q.2⟩
noncomputable def Bm(r:Bool)(w:Row):Int→List (Int×Int)→List Row
 | _,[]=>[]
 | a,q::l=>piece r w a q::Bm r w (a+q.2+1) l
theorem zI(r:Bool)(w:Row)(q:Int×Int):piece r w 0 q=⟨q.1,w.x,w.y,sd r q.2 w.w,sd r w.h q.2⟩:=by
 cases r <;> (rw[piece,Int.add_zero];rfl)
theorem zH(r:Bool)(w:Row)(a:Int)(q:Int×Int):piece r w (0+a+1) q=⟨q.1,nx r w.x a,nx (!r) w.y a,sd r q.2 w.w,sd r w.h q.2⟩:=by
 rw[Int.zero_add]
 cases r <;> rfl
theorem GF(r b:Bool)(fr m p:Int)(w:Row):Bm r w 0 (duo b (p,sd r w.w w.h-1-m) (fr,m))=cZ r (duo b (fx r m (lf p w)) (fL r fr m (lf p w))) w.x w.y:=by
 cases b
 ·show [piece r w 0 (p,sd r w.w w.h-1-m),piece r w (0+(sd r w.w w.h-1-m)+1) (fr,m)]=_
  rw[zI,zH]
  cases r <;> rfl
 ·show [piece r w 0 (fr,m),piece r w (0+m+1) (p,sd r w.w w.h-1-m)]=_
  rw[zI,zH]
  cases r <;> rfl
theorem F7{s:Int}(h3:3≤s):(s-1)/2=many none s:=by
 have h1:(s+1)/2-1=(s-1)/2:=by
  rw[show s+1=(s-1)+1*2 by rw[show(1:Int)*2=1+1 from rfl,←Int.add_assoc,Int.sub_add_cancel],Int.add_mul_ediv_right _ _ (by decide),bj]
 show _=max 1 (min ((s+1)/2-1) (s-1-1))
 rw[h1,Int.min_eq_left,Int.max_eq_right]
 ·exact Int.le_ediv_of_mul_le (by decide) (Int.le_sub_right_of_add_le h3)
 ·refine Int.ediv_le_of_le_mul (by decide) ?_
  lia
theorem DF{F:FT}{le:Le}{σ:H}{sz:Option Int}{s:Int}(h3:3≤s)(h6:slot le 6=some (szV sz))(h13:slot le 13=some (.int s)) :
  Ev F le σ (.ite (.cmp .is (.var 6) (.lit .none)) (.bin .fdiv (.bin .sub (.var 13) (.lit (.int 1))) (.lit (.int 2))) (.bi .max2 [.lit (.int 1),.bi .min2 [.var 6,.bin .sub (.var 13) (.lit (.int 2))]])) (.int (many sz s)):=λβ k=>by
 show(slot le 6).bind _=_
 rw[h6]
 cases sz with
 | none =>
  refine(c6 (F:=F) (by nofun) (c6 (by nofun) (bG h13) bN rfl) bN (fR (by decide)) k).trans ?_
  rw[F7 h3]
 | some q =>
  refine((wR (F:=F) bN (wR (bG h6) (c6 (by nofun) (bG h13) bN rfl)).2).1 k).trans ?_
  rw[many,wish,Int.sub_sub]
  rfl
section
variable{σ:H}{Q:V×H→Prop}
noncomputable abbrev O2:=(Option V×Option V)×Int×List Row
noncomputable def leV(ek a:Nat)(p fr:Int)(r b:Bool)(sz:Option Int)(ra n:Nat)(w:Row)(a2:Nat)(m:Int)(la da:Nat)(s:O2):Le:=leU ek a p fr r b sz ra n w (some (.ref a2)::some (.int m)::some (.ref la)::some (.ref da)::some (.int s.2.1)::s.1.1::s.1.2::nn 6)
theorem Ba{F:FT}{ek a:Nat}{p fr:Int}{r b:Bool}{sz:Option Int}{ra n:Nat}{w:Row}{a2:Nat}{m:Int}{la da:Nat}{at_:Int}{L0:List Row}{q:Int×Int} :
  Ev F (leV ek a p fr r b sz ra n w a2 m la da ((some (.int q.1),some (.int q.2)),at_,L0)) σ (.ite (.var 4) (.tup [.var 19,.bin .add (.var 9) (.var 18),.var 10,.var 20,.var 12]) (.tup [.var 19,.var 9,.bin .add (.var 10) (.var 18),.var 11,.var 20])) (piece r w at_ q).v:=λβ k=>by cases r <;> rfl
theorem IR{ek a ra n a2:Nat}{p fr:Int}{r b:Bool}{sz:Option Int}{w:Row}(h3:3≤sd r w.w w.h)
  (K:∀(l:Option V×Option V×Option V×Option V×Option V) da σ',New σ [(da,.list ((Bm r w 0 (duo b (p,sd r w.w w.h-1-many sz (sd r w.w w.h)) (fr,many sz (sd r w.w w.h)))).map Row.v))] σ'→Ok (bT (cf 97) (cP.body.drop 13) (leU ek a p fr r b sz ra n w (some (.ref a2)::l.1::l.2.1::some (.ref da)::l.2.2.1::l.2.2.2.1::l.2.2.2.2::nn 6)) σ' dt) Q) :
  Ok (bT (cf 97) (cP.body.drop 9) (leU ek a p fr r b sz ra n w (some (.ref a2)::nn 12)) σ dt) Q:=by
 refine pA (DF h3 rfl rfl) ?_
 refine oA λk H=>okJ (b:=b) (.ref σ.length) (σ++[.list ((duo b (p,sd r w.w w.h-1-many sz (sd r w.w w.h)) (fr,many sz (sd r w.w w.h))).map bX)]) (λe k=>by subst e;rfl) (λe k=>by subst e;rfl) (H _ _ ?_)
 have t1:=bM σ (.list ((duo b (p,sd r w.w w.h-1-many sz (sd r w.w w.h)) (fr,many sz (sd r w.w w.h))).map bX))
 generalize hl:duo b (p,sd r w.w w.h-1-many sz (sd r w.w w.h)) (fr,many sz (sd r w.w w.h))=lo at t1 K⊢
 have l2:lo.length=2:=hl▸by cases b <;> rfl
 refine oT λk H=>H (.tup [.ref (σ++[O.list (lo.map bX)]).length,.int 0]) _ ((σ++[O.list (lo.map bX)])++[O.list []]) rfl ?_
 have t2:=t1.and (bM _ (O.list []))
 generalize(σ++[O.list (lo.map bX)])++[O.list []]=σ2 at t2⊢
 generalize(σ++[O.list (lo.map bX)]).length=da at t2⊢
 generalize σ.length=la at t2⊢
 refine pFl (bG rfl) (bH ((bP t2).1 (la,_) (.tail _ (.head _)))) ?_
 refine dq (leV ek a p fr r b sz ra n w a2 (many sz (sd r w.w w.h)) la da) (λs todo σ'=>New σ ((da,.list (s.2.2.map Row.v))::[(la,.list (lo.map bX))]) σ'∧s.2.2++Bm r w s.2.1 todo=Bm r w 0 lo∧s.2.2.length+todo.length=2) (λs q qs σ' hI=>⟨_,rfl,λR K1 _=> ?_⟩) (λs σ' hI=> ?_) (s:=((none,none),0,[])) ⟨t2,rfl,(Nat.zero_add _).trans l2⟩
 ·have hd:=bH ((bP hI.1).1 (da,_) (.head _))
  refine oE λk H=>zZ (bG rfl) hd (Ba (L0:=[])) (okL hd (okG ?_ (H _ _ ?_)))
  ·rw[ah]
   exact ax (ae (az _ _) (aZ hI.2.2)) (by decide)
  ·have t3:=hI.1.trans ((dm (a:=da) (o':= .list (s.2.2.map Row.v++[(piece r w s.2.1 q).v]))).fr [(la,.list (lo.map bX))])
   refine pA (bR (bR (bG rfl) (bG rfl)) bN) (okR (K1 ((some (.int q.1),some (.int q.2)),s.2.1+q.2+1,s.2.2++[piece r w s.2.1 q]) _ (ai.mpr ((bP t3).1 (la,_) (.tail _ (.head _)))) ⟨?_,(af _ _ _).trans hI.2.1,?_⟩))
   ·exact(au (f:=Row.v)).symm▸t3
   ·rw[aa,bo,bn [_].length]
    exact hI.2.2
 ·have e:=(aw s.2.2).symm.trans hI.2.1
  exact K (_,_,_,_,_) da σ' (e▸hI.1.dl (Y:=[(da,O.list (s.2.2.map Row.v))]))
end
section
variable{β:Type}{F:FT}{le:Le}{σ:H}{k:V→H→Option β}{Q:β→Prop}{a b:Nat}{xs ys:List V}
theorem EC{e lo hi:E}{u v:V}(he:Ev F le σ e (.ref a))(hl:Ev F le σ lo u)(hh:Ev F le σ hi v)(h:bJ σ a=some xs)(c:cut xs u v=some ys)(g:Ok (k (.ref σ.length) (σ++[.list ys])) Q):Ok (evK F (.slc e lo hi) le σ k) Q:=by
 show Ok (evK F e le σ _) Q
 refine b4 he ?_
 refine b4 hl ?_
 refine b4 hh ?_
 exact okL h (c7 c g)
theorem z5(ha:bJ σ a=some xs)(hb:bJ σ b=some ys)(hl:(xs++ys).length≤lim)(g:Ok (k (.ref σ.length) (σ++[.list (xs++ys)])) Q):Ok (GU (.ref a) (.ref b) σ k) Q:=okL ha (okL hb (okG hl g))
end
theorem CD(c:List F):∀t,WF (plug c t)→∀q,t.sd q≤(plug c t).sd q:=by
 induction c with
 | nil=>exact λt _ q=>bv _
 | cons f c ih=>exact λt h q=>ak (Ek (eQ c _ h).1.1 t (ay _ (.head _)) q) (ih _ h q)
theorem yS{t0:T}{s f:Nat}(I:Inv t0 s f):∀c t (r:Bool),t0=plug c t→t.sd r+1<4000∧0<t.sd r:=λc t r e=>by
 subst e
 have h:=ak (CD c t I.wf r) (ak (I.sz r) (aO.mpr (aB (Nat.mul_le_mul_left 3 (ae (bk _ _) I.sf)) 12)))
 exact⟨Int.lt_of_le_of_lt (br h 1) (by decide),aG (by decide) (pC (eQ c t I.wf).1.1 r)⟩
section
variable{σ:H}{d d2:D}{Q:V×H→Prop}
theorem IP{ek ra n s f:Nat}{p fr:Int}{r b:Bool}{sz:Option Int}{R0 R1:List Row}{w:Row}{l:Le}(I:Inv d.t s f)(h:At σ d)(hp:Pl d 0 0)(I2:Inv d2.t (s+1) f)(h2:At σ d2)(hp2:Pl d2 0 0)(nf:fr∉names d.t)(pm:(names d2.t).Perm (fr::names d.t))(sp:SpR r b fr sz p R0 R1 w d.t d2.t)
  (K:∀σ',Kp σ σ'→Q (.tup [.bool true,.ref d2.a],σ')):Ok (bT (cf 97) (cP.body.drop 14) (leU ek d.a p fr r b sz ra n w (some (.ref d2.a)::l)) σ dt) Q:=by
 have L:=I.lay
 have L2:=I2.lay
 cases b with
 | true =>
  refine pIr (b:=false) (wT (λβ k=>rfl)) Bool.noConfusion λ_=> ?_
  exact okR (K σ .rfl)
 | false =>
  obtain⟨c,e0,e2⟩:=sp.c
  have fin:∀{c1 f1 t1 l0 q r0 q'},d2.t=plug (f1::c1) t1→t1.k= .pane fr→Fs fr (f1::c1)→Nb f1.l f1.rs l0 q r0→Res f1.r (t1.sd f1.r+1) q q'→ig c1 f1 l0 r0 q'=d.t:=λe k fs nb rs=>(uk (e0▸L.wf) rfl (e0▸nf) (e2.symm.trans e) k fs nb rs).trans e0.symm
  refine oIr λk H=> ?_
  refine okC (qD (n:=94) (by decide) L2.wf (ae L2.n (by decide)) h2 (pm.mem_iff.mpr (.head _)) (yS I2) (λe σ1 k1=> ?_) (λc1 f1 t1 l0 q r0 q' e k fs nb rs d3 σ1 e3 p3 t3=> ?_) λc1 f1 t1 l0 q r0 q' e k fs nb rs=>fin e k fs nb rs▸L.dp (by decide) (by decide))
  ·have n:=pm.length_eq
   rw[fy e] at n
   exact absurd (Nat.succ.inj n) (Nat.ne_of_lt (dH L.wf))
  ·have e3:=e3.trans (fin e k fs nb rs)
   have L3:Lay d3.t:=e3▸L
   refine okC (fc (n:=95) (L3.dp (by decide) (by decide)) (cq (bP t3)) L3.wf p3 L3.nm L3.ol λσ2 k2=>okC (fc (n:=95) (L.dp (by decide) (by decide)) (h.kp ((bI t3).trans k2)) L.wf hp L.nm L.ol λσ3 k3=>iu (v:=false) ?_ (H false _ (λe=>Bool.noConfusion e) λ_=>okR (K _ (((bI t3).trans k2).trans k3)))))
   show some (!(ot d3.t==ot d.t))=_
   rw[e3,bC]
   rfl
theorem IQ{ek ra da s f:Nat}{p fr:Int}{r b:Bool}{sz:Option Int}{R0 R1:List Row}{w:Row}{l:Option V×Option V×Option V×Option V×Option V}(I:Inv d.t s f)(h:At σ d)(hp:Pl d 0 0)(I2:Inv d2.t (s+1) f)(h2:At σ d2)(hp2:Pl d2 0 0)(nf:fr∉names d.t)(pm:(names d2.t).Perm (fr::names d.t))
  (hR:rows d.t 0 0=R0++w::R1) (sp:SpR r b fr sz p R0 R1 w d.t d2.t) (hr:bJ σ ra=some ((rows d.t 0 0).map Row.v)) (hd:bJ σ da=some ((cZ r (duo b (fx r (many sz (sd r w.w w.h)) (lf p w)) (fL r fr (many sz (sd r w.w w.h)) (lf p w))) w.x w.y).map Row.v))
  (K:∀σ',Kp σ σ'→Q (.tup [.bool true,.ref d2.a],σ')):Ok (bT (cf 97) (cP.body.drop 13) (leU ek d.a p fr r b sz ra R0.length w (some (.ref d2.a)::l.1::l.2.1::some (.ref da)::l.2.2.1::l.2.2.2.1::l.2.2.2.2::nn 6)) σ dt) Q:=by
 have L2:=I2.lay
 have eR:=hR▸hr
 rw[au] at eR
 have n6:=L2.tl.n
 refine oIr λk H=>okC (dz (n:=96) (L2.dp (by decide) (by decide)) h2 hp2 L2.n9 λrb σ1 t1=> ?_)
 have hb:=bH (bK t1)
 rw[sp.rw] at hb n6
 generalize cZ r _ w.x w.y=du at hd hb n6
 refine EC (bG rfl) bN (bG rfl) (bL (bI t1) eR) (vw (P:=R0.map Row.v) (by rw[ah])) ?_
 have t2:=bM σ1 (.list (R0.map Row.v))
 generalize σ1++[O.list (R0.map Row.v)]=σ2 at t2⊢
 generalize σ1.length=c2 at t2⊢
 have k2:=(bI t1).trans (bI t2)
 have l3:(R0++du).length≤99:=ae (by rw[←af,aa (bs:=R1)];exact az _ _) n6
 refine z5 (bH (bK t2)) (bL k2 hd) ?_ ?_
 ·rw[←au,ah]
  exact ae l3 (by decide)
 have t3:=bM σ2 (.list (R0.map Row.v++du.map Row.v))
 generalize σ2++[O.list (R0.map Row.v++du.map Row.v)]=σ3 at t3⊢
 generalize σ2.length=c3 at t3⊢
 have k3:=k2.trans (bI t3)
 refine EC (xs:=(R0.map Row.v++[w.v])++R1.map Row.v) (bG rfl) (bR (bG rfl) bN) bN (bL k3 (by rw[af];exact eR)) (iI (by rw[aa,ah];rfl)) ?_
 have t4:=bM σ3 (.list (R1.map Row.v))
 generalize σ3++[O.list (R1.map Row.v)]=σ4 at t4⊢
 generalize σ3.length=c4 at t4⊢
 refine z5 (bL (bI t4) (bH (bK t3))) (bH (bK t4)) ?_ ?_
 ·rw[←au,←au,ah,af]
  exact ae n6 (by decide)
 have t5:=bM σ4 (.list (R0.map Row.v++du.map Row.v++R1.map Row.v))
 generalize σ4++_=σ5 at t5⊢
 have k5:=k3.trans ((bI t4).trans (bI t5))
 refine iu (differ (bL (((bI t2).trans (bI t3)).trans ((bI t4).trans (bI t5))) hb) ?_ (dY (λ_=>rfl) _)) (H false _ (λe=>Bool.noConfusion e) λ_=> ?_)
 ·rw[au,au,←af]
  exact bH (bK t5)
 exact IP I (h.kp k5) hp I2 (h2.kp k5) hp2 nf pm sp λσ' k=>K σ' (k5.trans k)
theorem rr{ek A s f:Nat}{p fr:Int}(I:Inv d.t s f)(hs:s+1+f≤5)(h:At σ d)(hp:Pl d 0 0)(Dd:Dk σ ek A)(hA:A≤800)(hm:p∈names d.t)(nf:fr∉names d.t)(hf:0≤fr∧fr≤900)
  (K0:∀σ',Kd σ σ'→Dk σ' ek (A+3)→Q (.tup [.bool true,.none],σ'))
  (K1:∀d2 σ',Inv d2.t (s+1) f→(names d2.t).Perm (fr::names d.t)→Pl d2 0 0→At σ' d2→Kd σ σ'→Dk σ' ek (A+3)→Q (.tup [.bool true,.ref d2.a],σ')):Ok (cf 98 lB [.ref ek,.ref d.a,.int p,.int fr] σ) Q :=
 okF (n:=97) (le:=some (.ref ek)::some (.ref d.a)::some (.int p)::some (.int fr)::nn 23) rfl rfl (IT I.lay h hp Dd hA hm λr b sz ra R0 w R1 σ1 hR hw _ kd D1 hr =>
  IS I hs (kd.at h) hm nf hf hR hw (λσ2 k=>K0 σ2 (kd.trans (eU k)) (D1.kp k)) λd2 σ2 sp I2 pm hp2 t2 h3=>IR h3 λl da σ3 t3 =>
   have k:=(bI t2).trans (bI t3)
   IQ I ((kd.at h).kp k) hp I2 ((cq (bP t2)).kp (bI t3)) hp2 nf pm hR sp (bL k hr) (GF r b fr (many sz (sd r w.w w.h)) p w▸bH (bK t3)) λσ4 k4 =>
    K1 d2 σ4 I2 pm hp2 (((cq (bP t2)).kp (bI t3)).kp k4) (kd.trans (eU (k.trans k4))) (D1.kp (k.trans k4)))
end
theorem nU(c:List F)(t:T):∃A B,∀t':T,(∀q,t'.sd q=t.sd q)→names (plug c t')=A++(names t'++B):=by
 obtain⟨A,B,x,y,h⟩:=iT c t 0 0
 refine⟨A.map Row.p,B.map Row.p,λt' e=> ?_⟩
 rw[←jl (plug c t') 0 0,h t' e,au,au,jl]
theorem Inv.to{t u:T}{s f:Nat}(I:Inv t s f)(w:WF u)(n:names u=names t)(z:∀q,u.sd q=t.sd q):Inv u s f:=⟨w,n▸I.nd,n▸I.nu,n▸I.ln,λq=>z q▸I.sz q,I.sf⟩
theorem Inv.same{c:List F}{t t' t0:T}{s f:Nat}(I:Inv t0 s f)(e:t0=plug c t)(h:Same t t'):Inv (plug c t') s f∧names (plug c t')=names t0:=by
 subst e
 have k:=eQ c t I.wf
 have z:∀q,t'.sd q=t.sd q:=λq=>(congr (congrArg (L.sd q) h.2.2.1) h.2.2.2.1:L.sd q t'.w t'.h=L.sd q t.w t.h)
 obtain⟨A,B,n⟩:=nU c t
 have n:names (plug c t')=names (plug c t):=by rw[n t' z,n t λq=>rfl,h.2.2.2.2]
 exact⟨I.to (k.2 t' h.1 (h.2.1.symm▸k.1.2) z) n (l7 c t t' z),n⟩
structure Sh(p:Int)(t S:T):Prop where
 wf:WF S
 sz:∀q,S.sd q=t.sd q
 nm:(names t).Perm (p::names S)
theorem Sh.plug{p:Int}{t S:T}(h:Sh p t S)(c:List F)(w:WF (L.plug c t))(hk:Kh c S.k):Sh p (L.plug c t) (L.plug c S):=by
 obtain⟨A,B,n⟩:=nU c t
 refine⟨(eQ c t w).2 S h.wf hk h.sz,l7 c t S h.sz,?_⟩
 rw[n t λq=>rfl,n S h.sz]
 exact((h.nm.append_right B).append_left A).trans List.perm_middle
theorem dD(a b:List T):cb (a++b)=cb a++cb b:=by
 rw[fe,fe,fe,List.flatMap_append]
theorem ar1{A B C D q t S:Int}(h:A+B=C+((q+1)+D))(k:A+(((t+1)+0)+B)=S+1):C+(((q+(t+1)+1)+0)+D)=S+1:=by lia
theorem Fj{p:Int}{t q q':T}{f:F}{l0 r0:List T}(w:WF (f.fill [t]))(e:t.k= .pane p)(nb:Nb f.l f.rs l0 q r0)(rs:Res f.r (t.sd f.r+1) q q'):(names (f.fill [t])).Perm (p::cb (l0++([q']++r0)))∧cG f.r (l0++([q']++r0))=sd f.r f.w f.h+1∧∀s∈l0++([q']++r0),WF s∧s.sd (!f.r)=sd (!f.r) f.w f.h∧s.k≠ .box f.r:=by
 have x:=tX w rfl
 have y:=aH.mp x.2.1
 have y2:=aH.mp y.2
 have eq:=Ae nb
 have yy:∀s∈l0++q::r0,WF s∧s.sd (!f.r)=sd (!f.r) f.w f.h∧s.k≠ .box f.r:=eq▸aH.mpr ⟨y.1,y2.2⟩
 have z:=aH.mp yy
 have zq:=z.2 q (.head _)
 refine⟨?_,?_,aH.mpr ⟨z.1,ao.mpr ⟨⟨rs.wf,rs.o.trans zq.2.1,rs.k▸zq.2.2⟩,λs m=>z.2 s (.tail _ m)⟩⟩⟩
 ·show(cb (f.l++([t]++f.rs))).Perm _
  have n:cb (f.l++f.rs)=cb (l0++([q']++r0)):=by
   rw[eq,dD,dD]
   show cb l0++(names q++cb r0)=cb l0++(names q'++cb r0)
   rw[rs.n]
  rw[←n,dD,dD,dD]
  rw[show cb [t]=names t++[] from rfl,fy e]
  exact List.perm_middle
 ·have l:=x.2.2
  have l:cG f.r (f.l++([t]++f.rs))=sd f.r f.w f.h+1:=l
  have l2:=congrArg (cG f.r) eq
  rw[f3] at l2
  rw[f3,f3] at l⊢
  have l2:cG f.r f.l+cG f.r f.rs=cG f.r l0+((q.sd f.r+1)+cG f.r r0):=l2.trans (f3 f.r l0 (q::r0))
  have l:cG f.r f.l+(((t.sd f.r+1)+0)+cG f.r f.rs)=sd f.r f.w f.h+1:=l
  show cG f.r l0+(((q'.sd f.r+1)+0)+cG f.r r0)=_
  rw[rs.s]
  exact ar1 l2 l
theorem C5{r:Bool}{q:T}(w:WF q):(∀s∈g8 r q,WF s∧s.sd (!r)=q.sd (!r)∧s.k≠ .box r)∧cG r (g8 r q)=cG r [q]∧1≤(g8 r q).length∧cb (g8 r q)=names q:=by
 rw[g8]
 cases e:q.k.n==(K.box r).n
 ·exact⟨ai.mpr ⟨w,rfl,λz=>by rw[z,bC] at e;exact Bool.noConfusion e⟩,rfl,aD 1,aw _⟩
 ·have k:q.k= .box r:=AA (by rw[e];rfl)
  have x:=tX w k
  exact⟨x.2.1,x.2.2.trans (Int.add_zero _).symm,bf x.1,(fe _).trans (mi k).symm⟩
theorem zd{p:Int}{t0 t:T}{c:List F}{f:F}{l0 r0:List T}{q q':T}(w:WF t0)(e0:t0=plug (f::c) t)(e:t.k= .pane p)(nb:Nb f.l f.rs l0 q r0)(rs:Res f.r (t.sd f.r+1) q q'):Sh p t0 (ig c f l0 r0 q'):=by
 subst e0
 have k:=eQ c (f.fill [t]) w
 obtain⟨n,l,a⟩:=Fj k.1.1 e nb rs
 rw[ig]
 by_cases z:l0.length+r0.length=0
 ·rw[if_pos z]
  obtain rfl:=List.length_eq_zero_iff.mp (Nat.eq_zero_of_add_eq_zero_right z)
  obtain rfl:=List.length_eq_zero_iff.mp (Nat.eq_zero_of_add_eq_zero_left z)
  have aq:=a q' (.head _)
  have h:Sh p (f.fill [t]) q':=⟨rs.wf,iN (P:=λx=>q'.sd x=(f.fill [t]).sd x) f.r ((Int.add_left_inj 1).mp ((Int.add_zero _).symm.trans l)) aq.2.1,n.trans (.cons _ (by rw[show cb ([]++([q']++[]))=names q'++[] from rfl,aw]))⟩
  cases c with
  | nil=>exact h
  | cons g c =>
   have k2:=eQ c (g.fill [f.fill [t]]) w
   have x:=tX k2.1.1 rfl
   have xt:=x.2.1 (f.fill [t]) (ay _ (.head _))
   have m:=C5 (r:=g.r) rs.wf
   have u:Sh p (g.fill [f.fill [t]]) (g.fill (g8 g.r q')):=by
    refine⟨rL k2.1.1 (λs ms=>⟨(m.1 s ms).1,(m.1 s ms).2.1.trans ((h.sz _).trans xt.2.1),(m.1 s ms).2.2⟩) (m.2.1.trans ?_) ?_,λq=>rfl,?_⟩
    ·show(q'.sd g.r+1)+0=((f.fill [t]).sd g.r+1)+0
     rw[h.sz]
    ·have x1:2≤(g.l++([f.fill [t]]++g.rs)).length:=x.1
     rw[aa,aa] at x1⊢
     exact ae x1 (aB (aF m.2.2.1 _) _)
    ·show(cb (g.l++([f.fill [t]]++g.rs))).Perm (p::cb (g.l++(g8 g.r q'++g.rs)))
     rw[dD,dD,dD,dD,m.2.2.2,show cb [f.fill [t]]=names (f.fill [t])++[] from rfl,aw]
     exact((h.nm.append_right _).append_left _).trans List.perm_middle
   exact u.plug c w k2.1.2
 ·rw[if_neg z]
  refine Sh.plug (t:=f.fill [t]) (S:=F.fill ⟨f.r,f.w,f.h,l0,r0⟩ [q']) ⟨r6 rfl ?_ a l,λq=>rfl,n⟩ c w k.1.2
  show 2≤(l0++([q']++r0)).length
  rw[aa,aa,Nat.add_left_comm]
  exact aB (Nat.one_le_iff_ne_zero.mpr z) 1
theorem Inv.shut{p:Int}{t S:T}{s f:Nat}(I:Inv t s f)(h:Sh p t S):Inv S s f :=
 have nd:=aQ.mp (h.nm.nodup_iff.mp I.nd)
 ⟨h.wf,nd.2,λq m=>I.nu q (h.nm.mem_iff.mpr (.tail _ m)),ae (bf (aZ h.nm.length_eq.symm)) I.ln,λq=>h.sz q▸I.sz q,I.sf⟩
theorem Inv.fit{t0 t1 t2:T}{s f:Nat}{a b:Int}(I:Inv t0 s f)(h1:Res true a t0 t1)(h2:Res false b t1 t2)(ha:a≤3)(hb:b≤3)(hs:s+(f+1)≤5):Inv t2 s (f+1)∧names t2=names t0∧(t2.w=t0.w+a∧t2.h=t0.h+b):=by
 have n:=h2.n.trans h1.n
 have w:t2.w=t0.w+a:=h2.o.trans h1.s
 have h:t2.h=t0.h+b:=h2.s.trans (congrArg (·+b) h1.o)
 have z:∀{x y:Int},x≤((12+3*f:Nat):Int)→y≤3→x+y≤((12+3*(f+1):Nat):Int):=λh k=>Int.add_le_add h k
 refine⟨⟨h2.wf,n▸I.nd,n▸I.nu,n▸I.ln,λq=> ?_,hs⟩,n,w,h⟩
 cases q
 ·show t2.h≤_
  rw[h]
  exact z (I.sz false) hb
 ·show t2.w≤_
  rw[w]
  exact z (I.sz true) ha
noncomputable def setp(r:Row)(p:Int):Row:=⟨p,r.x,r.y,r.w,r.h⟩
theorem um(rs:List Row):List.zipWith setp rs (rs.map Row.p)=rs:=by
 induction rs with
 | nil=>rfl
 | cons r rs ih=>exact congrArg (r::·) ih
theorem zg(g:Int→Int)(rs:List Row):List.zipWith setp rs ((rs.map Row.p).map g)=rs.map λr=>setp r (g r.p):=by
 induction rs with
 | nil=>rfl
 | cons r rs ih=>exact congrArg (setp r (g r.p)::·) ih
theorem zf{rs:List Row}:∀{ns ms:List Int},ns.length=rs.length→List.zipWith setp (List.zipWith setp rs ns) ms=List.zipWith setp rs ms:=by
 induction rs with
 | nil=>exact λ{ns ms} _=>by rw[List.zipWith_nil_left,List.zipWith_nil_left]
 | cons r rs ih =>
  intro ns ms h
  cases ns with
  | nil=>exact nomatch h
  | cons n ns =>
   cases ms with
   | nil=>rfl
   | cons m ms=>exact congrArg (setp r m::·) (ih (Nat.succ.inj h))
theorem He{es:List D}:∀{ns:List Int},ns.length=es.length→(List.zipWith D.sp es ns).map (·.k.p)=ns∧(List.zipWith D.sp es ns).map D.row=List.zipWith setp (es.map D.row) ns:=by
 induction es with
 | nil=>exact λ{ns} h=>by cases ns;exact⟨rfl,rfl⟩;exact nomatch h
 | cons e es ih =>
  intro ns h
  cases ns with
  | nil=>exact nomatch h
  | cons n ns =>
   have k:=ih (Nat.succ.inj h)
   exact⟨congrArg (n::·) k.1,congrArg (setp e.row n::·) k.2⟩
section
variable{d d1 d2:D}
theorem Inv.rn{s f:Nat}{ns:List Int}(I:Inv d.t s f)(hp:Pl d 0 0)(e:d1.q=d.q)(h:Rn d1 ns d2)(pm:ns.Perm (names d.t)):Inv d2.t s f∧names d2.t=ns∧Pl d2 0 0∧rows d2.t 0 0=List.zipWith setp (rows d.t 0 0) ns:=by
 have et:=ie e
 have p1:=wm e hp
 have hl:ns.length=(lv d1).length:=by rw[pm.length_eq,←et,←cV,ah]
 have k:=He (es:=lv d1) hl
 have p2:=h.pl 0 0 p1
 have n2:names d2.t=ns:=by rw[←cV,h.v,k.1]
 have z:∀q,d2.t.sd q=d.t.sd q:=λq=>by
  rw[←et]
  show sd q d2.t.w d2.t.h=sd q d1.t.w d1.t.h
  rw[t_w,t_h,t_w,t_h,h.w,h.h]
 exact⟨⟨h.wf (et.symm▸I.wf),n2▸pm.nodup_iff.mpr I.nd,λq m=>I.nu q (pm.mem_iff.mp (n2▸m)),n2▸pm.length_eq▸I.ln,λq=>z q▸I.sz q,I.sf⟩,n2,p2,by rw[←gT d2 0 0 p2,h.v,k.2,gT d1 0 0 p1,et]⟩
end
theorem yP(a b x:Int):sw a b (sw a b x)=x:=by
 unfold sw
 split
 ·next h =>
  split
  ·next k=>exact k.trans h.symm
  ·exact(if_pos rfl).trans h.symm
 ·next h =>
  split
  ·next k=>exact(if_pos rfl).trans k.symm
  ·rfl
theorem vY{a b:Int}{l:List Int}(n:l.Nodup)(ha:a∈l)(hb:b∈l):(l.map (sw a b)).Perm l:=by
 have m:∀x∈l,sw a b x∈l:=λx h=>by
  unfold sw
  split
  ·exact hb
  ·split
   ·exact ha
   ·exact h
 refine(List.perm_ext_iff_of_nodup ?_ n).mpr λx=>⟨λh=>(bb.mp h).elim λy h=>h.2▸m y h.1,λh=>bb.mpr ⟨sw a b x,m x h,yP a b x⟩⟩
 exact List.pairwise_map.mpr (List.Pairwise.imp (λh e=>h ((yP a b _).symm.trans ((congrArg (sw a b) e).trans (yP a b _)))) n)
mutual
noncomputable def wfB:T→Bool
 | .mk (.pane _) w h ps=>decide (1≤w)&&decide (1≤h)&&ps.isEmpty
 | .mk (.box r) w h ps=>decide (2≤ps.length)&&decide (cG r ps=sd r w h+1)&&E1 r (sd (!r) w h) ps
noncomputable def E1(r:Bool)(C:Int):List T→Bool
 | []=>true
 | t::ts=>(wfB t&&decide (t.sd (!r)=C)&& !(t.k.n==(K.box r).n))&&E1 r C ts
end
theorem E0{t:T}:wfB t=true→WF t:=by
 induction t using T.ind with
 | H k w h ps ih =>
  cases k with
  | pane p =>
   intro e
   have e:=ar.mp e
   have e1:=ar.mp e.1
   exact .pane rfl (bA e1.1) (bA e1.2) (List.isEmpty_iff.mp e.2)
  | box r =>
   intro e
   have e:=ar.mp e
   have e1:=ar.mp e.1
   refine r6 rfl (bA e1.1) ?_ (bA e1.2)
   suffices ∀l:List T,(∀t∈l,t∈ps)→E1 r (sd (!r) w h) l=true→∀s∈l,WF s∧s.sd (!r)=sd (!r) w h∧s.k≠ .box r from this ps (λ_ m=>m) e.2
   intro l
   induction l with
   | nil=>exact λ_ _=>aj _
   | cons t l ih2 =>
    intro m e
    have e:=ar.mp e
    have e1:=ar.mp e.1
    have e2:=ar.mp e1.1
    exact ao.mpr ⟨⟨ih t (m t (.head _)) e2.1,bA e2.2,EI e1.2⟩,ih2 (λs ms=>m s (.tail _ ms)) e.2⟩
noncomputable def smB(t:T):Bool:=wfB t&&(decide (t.w≤12)&&decide (t.h≤12))
noncomputable def BZ(t:T)(ps:List Int):Prop:=smB t=true∧names t=ps
theorem five{P:List Int→Prop}(h1:∀a,P [a])(h2:∀a b,P [a,b])(h3:∀a b c,P [a,b,c])(h4:∀a b c d,P [a,b,c,d])(h5:∀a b c d e,P [a,b,c,d,e]){ps:List Int}(h:ps≠[])(k:ps.length≤5):P ps:=by
 match ps with
 | []=>exact absurd rfl h
 | [a]=>exact h1 a
 | [a,b]=>exact h2 a b
 | [a,b,c]=>exact h3 a b c
 | [a,b,c,d]=>exact h4 a b c d
 | [a,b,c,d,e]=>exact h5 a b c d e
 | _::_::_::_::_::_::ps=>exact absurd (ae (bk 6 ps.length) k) (by decide)
theorem j9{r:Bool}{ps:List Int}:ps≠[]→ps.length≤5→BZ (cW r 12 8 ps) ps:=by
 cases r <;> exact five (P:=λps=>BZ (cW _ 12 8 ps) ps) (λ_=>⟨by kernel_rfl,rfl⟩) (λ_ _=>⟨by kernel_rfl,rfl⟩) (λ_ _ _=>⟨by kernel_rfl,rfl⟩) (λ_ _ _ _=>⟨by kernel_rfl,rfl⟩) λ_ _ _ _ _=>⟨by kernel_rfl,rfl⟩
theorem Cb{ps:List Int}:ps≠[]→ps.length≤5→BZ (kl 12 8 ps) ps:=five (P:=λps=>BZ (kl 12 8 ps) ps) (λ_=>⟨by kernel_rfl,rfl⟩) (λ_ _=>⟨by kernel_rfl,rfl⟩) (λ_ _ _=>⟨by kernel_rfl,rfl⟩) (λ_ _ _ _=>⟨by kernel_rfl,rfl⟩) λ_ _ _ _ _=>⟨by kernel_rfl,rfl⟩
noncomputable def hcB(r:Bool)(qs:List Int):Bool:=decide (0≤room r (cW (!r) 12 8 qs)+cM r (sd r 12 8) (cW (!r) 12 8 qs))&&decide ((cM r (sd r 12 8) (cW (!r) 12 8 qs)).natAbs<wfuel)
theorem C9{r:Bool}{qs:List Int}(h:qs≠[])(k:qs.length≤5):0≤room r (cW (!r) 12 8 qs)+cM r (sd r 12 8) (cW (!r) 12 8 qs)∧(cM r (sd r 12 8) (cW (!r) 12 8 qs)).natAbs<wfuel:=by
 have e:hcB r qs=true:=by
  cases r <;> exact five (P:=λqs=>hcB _ qs=true) (λ_=>by kernel_rfl) (λ_ _=>by kernel_rfl) (λ_ _ _=>by kernel_rfl) (λ_ _ _ _=>by kernel_rfl) (λ_ _ _ _ _=>by kernel_rfl) h k
 exact(ar.mp e).imp bA bA
noncomputable def Nd(t:T)(ps:List Int):Prop:=WF t∧names t=ps∧∀q,t.sd q≤12
theorem mT{t:T}{ps:List Int}(h:BZ t ps):Nd t ps:=by
 have e:=ar.mp h.1
 have e2:=ar.mp e.2
 exact⟨E0 e.1,h.2,λq=>by cases q;exact bA e2.2;exact bA e2.1⟩
theorem Hi:∀r:Bool,sM (sd r 12 8)≤12∧1≤fM (sd r 12 8):=by decide
theorem GB{r:Bool}{ps:List Int}:ps≠[]→ps.length≤5→(cW r 12 8 ps).k≠ .box (!r):=by
 have n:∀{k k':K},k.n≠k'.n→k≠k':=λh e=>h (congrArg K.n e)
 cases r <;> exact five (P:=λps=>(cW _ 12 8 ps).k≠ .box (!_)) (λ_=>n (bA (by kernel_rfl))) (λ_ _=>n (bA (by kernel_rfl))) (λ_ _ _=>n (bA (by kernel_rfl))) (λ_ _ _ _=>n (bA (by kernel_rfl))) λ_ _ _ _ _=>n (bA (by kernel_rfl))
theorem wB{r:Bool}{p:Int}{qs:List Int}{t:T}(h:qh r p qs t)(k:qs.length≤4):Nd t (p::qs):=by
 by_cases e:qs=[]
 ·rw[qh,if_pos e] at h
  subst h e
  exact mT ⟨rfl,rfl⟩
 ·rw[qh,if_neg e] at h
  obtain⟨u,rs,rfl⟩:=h
  have E:=mT (j9 (r:= !r) e (aV k))
  have a:=tset r (fM (sd r 12 8)) (.mk (.pane p) u.w u.h [])
  have s:=Hi r
  have ku:u.k≠ .box r:=λz=>GB (r:= !r) e (aV k) (by rw[Bool.not_not,←rs.k];exact z)
  have lu:u.sd r=sM (sd r 12 8)-1-fM (sd r 12 8):=by rw[rs.s,cM];exact(Int.add_comm _ _).trans (Int.sub_add_cancel _ _)
  have ko:(ja r (sd r 12 8) p u).k= .pane p:=a.1
  have lo:(ja r (sd r 12 8) p u).sd r=fM (sd r 12 8):=a.2.2.1
  have co:(ja r (sd r 12 8) p u).sd (!r)=u.sd (!r):=a.2.2.2
  have w1:=pC rs.wf (!r)
  have wo:WF (ja r (sd r 12 8) p u):= .pane ko (iN (P:=λq=>1≤T.sd q _) r (ak s.2 (Int.le_of_eq lo.symm)) (ak w1 (Int.le_of_eq co.symm)) true) (iN (P:=λq=>1≤T.sd q _) r (ak s.2 (Int.le_of_eq lo.symm)) (ak w1 (Int.le_of_eq co.symm)) false) a.2.1
  have al:(ofT r [ja r (sd r 12 8) p u,u]).sd r=sM (sd r 12 8):=by
   rw[show(ofT r [ja r (sd r 12 8) p u,u]).sd r=((ja r (sd r 12 8) p u).sd r+(u.sd r+0))+2-1 by cases r <;> rfl,lo,lu]
   lia
  have ac:(ofT r [ja r (sd r 12 8) p u,u]).sd (!r)=u.sd (!r):=by
   rw[show(ofT r [ja r (sd r 12 8) p u,u]).sd (!r)=max ((ja r (sd r 12 8) p u).sd (!r)) (u.sd (!r)) by cases r <;> rfl,co,Int.max_self]
  refine⟨r6 (r:=r) rfl (aD 2) (ao.mpr ⟨⟨wo,co.trans ac.symm,λz=>nomatch ko.symm.trans z⟩,ai.mpr ⟨rs.wf,ac.symm,ku⟩⟩) ?_,?_,iN r (al▸s.1) (ac▸rs.o▸E.2.2 (!r))⟩
  ·show((ja r (sd r 12 8) p u).sd r+1)+((u.sd r+1)+0)=(ofT r [ja r (sd r 12 8) p u,u]).sd r+1
   rw[al,lo,lu]
   lia
  ·show names (ja r (sd r 12 8) p u)++(names u++[])=_
   rw[fy ko,rs.n,E.2.1,aw]
   rfl
theorem EG{i:Nat}{p:Int}{qs:List Int}{t:T}(hi:i<5)(h:nmT i p qs t)(k:qs.length≤4):Nd t (p::qs):=by
 rcases i5 i hi with rfl|rfl|rfl|rfl|rfl
 ·exact h▸mT (j9 nofun (aA k))
 ·exact h▸mT (j9 nofun (aA k))
 ·exact wB h k
 ·exact wB h k
 ·exact h▸mT (Cb nofun (aA k))
noncomputable def prt(W n:Int)(k:Nat):Int:=W/n+(if decide ((k:Int)<W%n)=true then 1 else 0)
noncomputable def evP(r:Bool)(w h:Int)(p at_ m:Int):Row:=match r with
 | true=>⟨p,at_,0,m,h⟩
 | false=>⟨p,0,at_,w,m⟩
noncomputable def evR(r:Bool)(w h W n:Int):Nat→Int→List Int→List Row
 | _,_,[]=>[]
 | k,a,p::ps=>evP r w h p a (prt W n k)::evR r w h W n (k+1) (a+prt W n k+1) ps
theorem DE{r:Bool}{ps:List Int}:ps≠[]→ps.length≤5→ps.length<5→evR r 12 8 (sd r 12 8-ps.length+1) ps.length 0 0 ps=rows (cW r 12 8 ps) 0 0:=by
 cases r <;> exact five (P:=λps=>ps.length<5→evR _ 12 8 (sd _ 12 8-ps.length+1) ps.length 0 0 ps=rows (cW _ 12 8 ps) 0 0) (λ_ _=>by kernel_rfl) (λ_ _ _=>by kernel_rfl) (λ_ _ _ _=>by kernel_rfl) (λ_ _ _ _ _=>by kernel_rfl) λ_ _ _ _ _ h=>absurd h (Nat.lt_irrefl 5)
theorem Hv{β:Type}{F:FT}{le:Le}{σ:H}{e:E}{es:List E}{v:V}{k:V→H→Option β}{Q:β→Prop}(he:Ev F le σ e v)(h:Ok (ic F es le σ λy σ=>gd ((v::y).length≤lim) (k (.tup (v::y)) σ)) Q):Ok (evK F (.tup (e::es)) le σ k) Q:=b4 (k:=λx σ=>ic F es le σ λy σ=>gd ((x::y).length≤lim) (k (.tup (x::y)) σ)) he h
noncomputable abbrev O3:=(Option V×Option V×Option V)×Int×List Row
noncomputable def leE(pa:Nat)(w h:Int)(r:Bool)(fa:Nat)(W:Int)(s:O3):Le:=some (.ref pa)::some (.int w)::some (.int h)::some (.bool r)::some (.int (sd r w h))::some (.ref fa)::some (.int s.2.1)::some (.int W)::s.1.1::s.1.2.1::s.1.2.2::nn 6
theorem DG{F:FT}{le:Le}{σ:H}{e:E}{b:Bool}(he:Ev F le σ e (.bool b)):Ev F le σ (.bi .int [e]) (.int (if b=true then 1 else 0)):=λβ k=>he _
theorem GD{F:FT}{σ:H}{pa fa k:Nat}{w h W p at_ m:Int}{r:Bool}{L0:List Row}:Ev F (leE pa w h r fa W ((some (.int k),some (.int p),some (.int m)),at_,L0)) σ (.ite (.var 3) (.tup [.var 9,.var 6,.lit (.int 0),.var 10,.var 2]) (.tup [.var 9,.lit (.int 0),.var 6,.var 1,.var 10])) (evP r w h p at_ m).v:=λβ k=>by cases r <;> rfl
section
variable{σ:H}{Q:V×H→Prop}
theorem s7{n pa:Nat}{ps:List Int}{w h:Int}{r:Bool}(hp:bJ σ pa=some (ps.map V.int))(h0:ps≠[])(h9:ps.length≤99)(K:∀a σ',New σ [(a,.list ((evR r w h (sd r w h-ps.length+1) ps.length 0 0 ps).map Row.v))] σ'→Q (.ref a,σ')) :
  Ok (cf (n+1) oO [.ref pa,.int w,.int h,.bool r] σ) Q:=by
 refine okF (le:=some (.ref pa)::some (.int w)::some (.int h)::some (.bool r)::nn 13) rfl rfl ?_
 have t0:=bM σ (O.list [])
 refine oT λk H=>Hv (EN rfl rfl rfl) (H (.tup [.int (sd r w h),.ref σ.length,.int 0]) _ (σ++[O.list []]) rfl ?_)
 generalize σ++[O.list []]=σ1 at t0⊢
 generalize σ.length=fa at t0⊢
 have hp1:=bL (bI t0) hp
 refine pA (v:= .int (sd r w h-ps.length+1)) (bR (c6 (by nofun) (bG rfl) (ah (as:=ps) V.int▸jB (bG rfl) hp1) rfl) bN) ?_
 have pos:(0:Int)<ps.length:=aP.mpr (List.length_pos_iff.mpr h0)
 have pos2:(0:Int)<ps.length∧(ps.length:Int)<1073741824:=⟨pos,aP.mpr (ax h9 (by decide))⟩
 refine oFo λk H=>okL hp1 (H _ _ _ (ir (o0 V.int ps 0) ?_))
 generalize sd r w h-ps.length+1=W at K⊢
 refine dq (leE pa w h r fa W) (λs todo σ'=>∃q k,todo=q.zipIdx k∧New σ [(fa,.list (s.2.2.map Row.v))] σ'∧s.2.2++evR r w h W ps.length k s.2.1 q=evR r w h W ps.length 0 0 ps∧s.2.2.length+q.length≤99) (λs c cs σ' hI=>⟨_,rfl,λR K1 _=> ?_⟩) (λs σ' hI=> ?_) (s:=((none,none,none),0,[])) ⟨ps,0,rfl,t0,rfl,ae (aZ (Nat.zero_add _)) h9⟩
 ·obtain⟨q,k,e,t,eq,hl⟩:=hI
  cases q with
  | nil=>exact nomatch e
  | cons p q =>
   obtain⟨rfl,rfl⟩:=List.cons.inj e
   have hp2:=bL (bI t) hp
   have el:=λs=>(ah (as:=ps) V.int▸jB (F:=cf n) (le:=leE pa w h r fa W s) (e:= .var 0) (bG rfl) hp2:Ev (cf n) (leE pa w h r fa W s) σ' (.bi .len [.var 0]) (.int ps.length))
   refine pA (v:= .int (prt W ps.length k)) (bR (c6 (by nofun) (bG rfl) (el ((some (.int k),some (.int p),s.1.2.2),s.2)) (fR pos2)) (DG (fF (bG rfl) (c6 (by nofun) (bG rfl) (el ((some (.int k),some (.int p),s.1.2.2),s.2)) (iZ pos))))) ?_
   have hf:=bH (bK t)
   refine oE λk' H=>zZ (bG rfl) hf (GD (p:=p) (at_:=s.2.1) (m:=prt W ps.length k) (L0:=s.2.2)) (okL hf (okG ?_ (H _ _ ?_)))
   ·rw[ah]
    exact ax (ae (az _ _) hl) (by decide)
   ·have t3:=t.trans (dm (a:=fa) (o':= .list (s.2.2.map Row.v++[(evP r w h p s.2.1 (prt W ps.length k)).v])))
    refine pA (bR (bR (bG rfl) (bG rfl)) bN) (okR (K1 ((some (.int k),some (.int p),some (.int (prt W ps.length k))),s.2.1+prt W ps.length k+1,s.2.2++[evP r w h p s.2.1 (prt W ps.length k)]) _ (ai.mpr (cj (bI t3) (bQ hp))) ⟨q,k+1,rfl,?_,(af _ _ _).trans eq,?_⟩))
    ·exact(au (f:=Row.v)).symm▸t3
    ·rw[aa,bo,bn [_].length]
     exact hl
 ·obtain⟨q,k,e,t,eq,_⟩:=hI
  cases q with
  | cons=>exact nomatch e
  | nil =>
   have eq:=(aw _).symm.trans eq
   exact oR λk H=>H _ _ (okR (K fa σ' (eq▸t)))
end
structure DH(σ:H)(d:D)(ek A pa ra:Nat)(ps:List Int)(p fr:Int)(s f:Nat):Prop where
 I:Inv d.t s f
 s4:s+f≤4
 at_:At σ d
 pl:Pl d 0 0
 dk:Dk σ ek A
 a7:A≤700
 hpa:bJ σ pa=some (ps.map V.int)
 pm:ps.Perm (names d.t)
 hr:bJ σ ra=some ((rows d.t 0 0).map Row.v)
 hp:p∈names d.t
 nf:fr∉names d.t
 hf:0≤fr∧fr≤900
noncomputable def DK(Q:V×H→Prop)(σ:H)(d:D)(fr:Int)(s f ek B:Nat):Prop:=∀(d':D) (pa':Nat) (ps':List Int) (s' f':Nat) (σ':H),Inv d'.t s' f'→s'+f'≤s+f+1→(∀q∈names d'.t,q∈fr::names d.t)→Pl d' 0 0→At σ' d'→bJ σ' pa'=some (ps'.map V.int)→ps'.Perm (names d'.t)→Kd σ σ'→Dk σ' ek B→Q (.tup [.bool true,.ref d'.a,.ref pa'],σ')
section
variable{σ σ':H}{d:D}{ek A B pa ra s f:Nat}{ps:List Int}{p fr:Int}{Q:V×H→Prop}
theorem DH.kd(h:DH σ d ek A pa ra ps p fr s f)(k:Kd σ σ')(D':Dk σ' ek B)(hB:B≤700):DH σ' d ek B pa ra ps p fr s f:=⟨h.I,h.s4,k.at h.at_,h.pl,D',hB,k.list h.hpa,h.pm,k.list h.hr,h.hp,h.nf,h.hf⟩
theorem DH.kp(h:DH σ d ek A pa ra ps p fr s f)(k:Kp σ σ'):DH σ' d ek A pa ra ps p fr s f:=h.kd (eU k) (h.dk.kp k) h.a7
theorem DK.kd(h:DK Q σ d fr s f ek B)(k:Kd σ σ'):DK Q σ' d fr s f ek B:=λd' pa' ps' s' f' σ2 a b c e g i j l m=>h d' pa' ps' s' f' σ2 a b c e g i j (k.trans l) m
theorem DK.same{d':D}{s' f' A':Nat}(k:DK Q σ d fr s f ek B)(h:DH σ d ek A pa ra ps p fr s f)(I:Inv d'.t s' f')(hs:s'+f'≤s+f+1)(pm:(names d'.t).Perm (names d.t))(hp:Pl d' 0 0)(ha:At σ' d')(kd:Kd σ σ')(D':Dk σ' ek A')(hB:A'≤B):Q (.tup [.bool true,.ref d'.a,.ref pa],σ') :=
 k d' pa ps s' f' σ' I hs (λq m=> .tail _ (pm.mem_iff.mp m)) hp ha (kd.list h.hpa) (h.pm.trans pm.symm) kd (D'.mono hB)
end
noncomputable def leX(ek a pa:Nat)(fr way:Int)(ra:Nat)(p:Int)(l:Le):Le:=some (.ref ek)::some (.ref a)::some (.ref pa)::some (.int fr)::some (.int way)::some (.ref ra)::some (.int p)::l
noncomputable def xk:S→List S
 | .iff _ a _=>a
 | _=>[]
section
variable{σ:H}{d:D}{ek A B pa ra s f:Nat}{ps:List Int}{p fr way:Int}{Q:V×H→Prop}{rest:List S}
theorem Bt(h:DH σ d ek A pa ra ps p fr s f)(k:DK Q σ d fr s f ek B)(hB:A+3≤B):Ok (bT (cf 98) (xk (db.body[2]?.getD .fail)) (leX ek d.a pa fr way ra p (nn 15)) σ (nxt (cf 98) rest dt)) Q:=by
 refine oT λk1 H=>okC (rr h.I (Nat.add_right_comm s f 1▸aA h.s4) h.at_ h.pl h.dk (ae h.a7 (by decide)) h.hp h.nf h.hf (λσ1 kd D1=>H _ _ σ1 rfl ?_) λd2 σ1 I2 pm p2 a2 kd D1=>H _ _ σ1 rfl ?_)
 ·exact oR λk2 H2=>H2 (.tup [.bool true,.ref d.a,.ref pa]) σ1 (okR (k.same h h.I (Nat.le_succ _) (.refl _) h.pl (kd.at h.at_) kd D1 hB))
 ·have hl:=kd.list h.hpa
  have t1:=bM σ1 (.list [V.int fr])
  have hlen:ps.length+1≤99:=by
   rw[h.pm.length_eq]
   exact ae (aA h.I.lay.n) (by decide)
  refine oR λk2 H2=> ?_
  refine z5 (bL (bI t1) hl) (bH (bK t1)) ?_ ?_
  ·rw[aa,ah]
   exact ae hlen (by decide)
  ·have t2:=bM (σ1++[O.list [V.int fr]]) (.list (ps.map V.int++[V.int fr]))
   have k12:=(bI t1).trans (bI t2)
   exact H2 (.tup [.bool true,.ref d2.a,.ref _]) _ (okR (k d2 _ (ps++[fr]) (s+1) f _ I2 (aZ (Nat.add_right_comm s 1 f)) (λq m=>pm.mem_iff.mp m) p2 (a2.kp k12) (au (f:=V.int)▸bH (bK t2)) ((List.perm_append_singleton _ _).trans ((h.pm.cons fr).trans pm.symm)) (kd.trans (eU k12)) ((D1.mono hB).kp k12)))
noncomputable def noP(p q:Int):List Int:=bif !(q==p) then [q] else []
theorem HG{p:Int}:noP p p=[]:=by rw[noP,bC];rfl
theorem FZ{p:Int}{l:List Int}(h:p∉l):l.flatMap (noP p)=l:=by
 induction l with
 | nil=>rfl
 | cons q l ih =>
  have n:(q==p)=false:=Bool.eq_false_iff.mpr λe=>h (bD e▸ .head _)
  rw[List.flatMap_cons,ih λm=>h (.tail _ m),noP,n]
  rfl
theorem mB{F:FT}{le:Le}{σ:H}{e:E}{a:Nat}{l:List Int}(he:Ev F le σ e (.ref a))(h:bJ σ a=some (l.map V.int)):Ev F le σ (.bi .len [e]) (.int l.length):=ah (as:=l) V.int▸jB he h
theorem Bv(h:DH σ d ek A pa ra ps p fr s f)(k:DK Q σ d fr s f ek B)(hB:A≤B):Ok (bT (cf 98) (xk (db.body[3]?.getD .fail)) (leX ek d.a pa fr way ra p (nn 15)) σ (nxt (cf 98) rest dt)) Q:=by
 have L:=h.I.lay
 have sh:=λ{c g t l0 q r0 q'} (e:d.t=plug (g::c) t) (kk:t.k= .pane p) (nb:Nb g.l g.rs l0 q r0) (rs:Res g.r (t.sd g.r+1) q q')=>zd (p:=p) L.wf e kk nb rs
 refine oA λk1 H=>okC (qD (n:=95) (by decide) L.wf (ae L.n (by decide)) h.at_ h.hp (yS h.I) (λe σ1 k1=>H _ _ ?_) (λc g t l0 q r0 q' e kk fs nb rs d3 σ1 e3 p3 t3=>H _ _ ?_) λc g t l0 q r0 q' e kk fs nb rs=>(h.I.shut (sh e kk nb rs)).lay.dp (by decide) (by decide))
 ·have hl:=bL k1 h.hpa
  have one:ps.length=1:=by rw[h.pm.length_eq,fy e];rfl
  refine pIr (fW (mB (bG rfl) hl) bN) (λ_=> ?_) λe=>by rw[one] at e;exact Bool.noConfusion e
  exact okR (k.same h h.I (Nat.le_succ _) (.refl _) h.pl (h.at_.kp k1) (eU k1) (h.dk.kp k1) hB)
 ·have S:=sh e kk nb rs
  have I3:=h.I.shut S
  rw[←e3] at S I3
  have k3:=bI t3
  have hl:=bL k3 h.hpa
  have a3:=cq (bP t3)
  have n:=S.nm.length_eq
  have np:=aQ.mp (S.nm.nodup_iff.mp L.nd)
  refine pIr (fW (mB (bG rfl) hl) bN) (λe=> ?_) λ_=> ?_
  ·rw[h.pm.length_eq,n] at e
   exact absurd (Nat.succ.inj (Int.ofNat_inj.mp (bD e))) (Nat.ne_of_gt (dH I3.wf))
  have ew:d3.w=d.w∧d3.h=d.h:=⟨(t_w d3).symm.trans ((S.sz true).trans (t_w d)),(t_h d3).symm.trans ((S.sz false).trans (t_h d))⟩
  refine oR λk2 H2=>Hv (v:= .bool true) (cr (u:= .tup [.int d3.w,.int d3.h]) (w:= .tup [.int d.w,.int d.h]) (df (dg (bG rfl) a3.c rfl) (dg (bG rfl) a3.c rfl)) (df (dg (bG rfl) (dE k3 h.at_.c) rfl) (dg (bG rfl) (dE k3 h.at_.c) rfl)) ?_) ?_
  ·show some ([d3.w,d3.h]==[d.w,d.h])=_
   rw[ew.1,ew.2,bC]
  refine okG (c:=cw (.one 16) (leX ek d.a pa fr way ra p (nn 15))=true) rfl (dN hl (okB (dB (S:=Option V) (λq=>(leX ek d.a pa fr way ra p (none::some (.ref d3.a)::nn 13)).set 16 q) (λq=>(noP p q).map V.int) (s:=none) (ai.mpr (bQ hl)) ?_ λσ2 k2=> ?_)))
  ·refine λq m u σ2 k2=>⟨some (.int q),rfl,λR K1=>b4 (cr (p:= !(q==p)) (bG rfl) (bG rfl) rfl) ?_⟩
   have K1:=K1 σ2 .rfl
   refine fB (λe=>okR ?_) λe=>okR ?_
   ·rw[noP,e] at K1
    exact K1
   ·rw[noP,e] at K1
    exact K1
  ·rw[←List.map_flatMap]
   have t4:=bM σ2 (.list ((ps.flatMap (noP p)).map V.int))
   have pp:(ps.flatMap (noP p)).Perm (names d3.t):=by
    have q:=(h.pm.trans S.nm).flatMap_right (noP p)
    rw[List.flatMap_cons,HG,FZ np.1] at q
    exact q
   have kk:=(k3.trans k2).trans (bI t4)
   refine okG ?_ (H2 (.tup [.bool true,.ref d3.a,.ref _]) _ (okR (k d3 _ (ps.flatMap (noP p)) s f _ I3 (Nat.le_succ _) (λq m=> .tail _ (S.nm.mem_iff.mpr (.tail _ m))) p3 (a3.kp (k2.trans (bI t4))) (bH (bK t4)) pp (eU kk) ((h.dk.mono hB).kp kk))))
   rw[ah]
   exact ae (aZ pp.length_eq) (ae I3.lay.n (by decide))
end
theorem n7:∀n:Nat,n<7→((n:Int)-3).natAbs≤20:=by decide
theorem na7{v:Int}(h:0≤v)(k:v<7):(v-3).natAbs≤20:=by
 obtain⟨n,rfl⟩:=bt h
 exact n7 n (aP.mp k)
theorem zV{β:Type}{F:FT}{le:Le}{σ:H}{e:E}{es:List E}{k:V→H→Option β}{Q:β→Prop}(h:Ok (evK F e le σ λx σ=>ic F es le σ λy σ=>gd ((x::y).length≤lim) (k (.tup (x::y)) σ)) Q):Ok (evK F (.tup (e::es)) le σ k) Q:=h
theorem z0{β:Type}{F:FT}{le:Le}{σ:H}{a b:E}{k:V→H→Option β}{Q:β→Prop}(ha:Ev F le σ a (.bool true))(h:Ok (evK F b le σ λy σ=>(b6 y).bind λd=>k (.bool d) σ) Q):Ok (evK F (.and a b) le σ k) Q :=
 b4 (k:=λx σ=>(b6 x).bind λc=>if c then evK F b le σ λy σ=>(b6 y).bind λd=>k (.bool d) σ else k (.bool false) σ) ha h
section
variable{σ:H}{d:D}{ek A B pa ra s f:Nat}{ps:List Int}{p fr way:Int}{Q:V×H→Prop}{rest:List S}
theorem j0{F:FT}{le:Le}{a:Nat}{k:V→H→Option (V×H)}(L:Lay d.t)(hp:Pl d 0 0)(hj:16<le.length)(hr:bJ σ a=some ((rows d.t 0 0).map Row.v))(g:∀b σ',New σ [(b,.list ((names d.t).map V.int))] σ'→Ok (k (.ref b) σ') Q) :
  Ok ((cy (.one 16) [(a,(rows d.t 0 0).map Row.v)] (λle σ=>evK F (.idx (.var 16) (.lit (.int 0))) le σ λv σ=>some ([v],σ)) ((rows d.t 0 0).map Row.v) le σ).bind λz=>pP z.1 z.2 k) Q:=by
 have e1:(rows d.t 0 0).map (λr=>V.int r.p)=(names d.t).map V.int:=by rw[←cz hp,aY];rfl
 refine okB (firsts hj (ai.mpr (bQ hr)) (okG ?_ ?_))
 ·rw[ah]
  exact ae L.tl.n (by decide)
 ·rw[e1]
  exact g _ _ (bM _ _)
theorem tF{d2:D}{le:Le}{k:V→H→Option (V×H)}(hf:gG le 16=true)(hj:16<le.length)(h8:slot le 8=some (.ref d2.a))(h5:slot le 5=some (.ref ra))(L:Lay d.t)(hp:Pl d 0 0)(L2:Lay d2.t)(h2:At σ d2)(hp2:Pl d2 0 0)(hr:bJ σ ra=some ((rows d.t 0 0).map Row.v))(n:names d2.t=names d.t)
  (g:∀σ',Kp σ σ'→Ok (k (.bool true) σ') Q):Ok (evK (cf 98) (.cmp .eq (.comp (.idx (.var 16) (.lit (.int 0))) (.one 16) (.seq (.call cg [.var 8]))) (.comp (.idx (.var 16) (.lit (.int 0))) (.one 16) (.seq (.var 5)))) le σ k) Q:=by
 refine okG hf ?_
 show Ok ((slot le 8).bind _) Q
 rw[h8]
 refine okC (dz (n:=97) (L2.dp (by decide) (by decide)) h2 hp2 L2.n9 λrb σ1 t1=>dN (bH (bK t1)) (j0 L2 hp2 hj (bH (bK t1)) λb σ2 t2=> ?_))
 have k2:=(bI t1).trans (bI t2)
 refine okG hf ?_
 show Ok ((slot le 5).bind _) Q
 rw[h5]
 refine dN (bL k2 hr) (j0 L hp hj (bL k2 hr) λc σ3 t3=> ?_)
 exact iu (same (bL (bI t3) (n▸bH (bK t2))) (bH (bK t3)) (dY (λ_=>rfl) _)) (g _ (k2.trans (bI t3)))
theorem ye(h:DH σ d ek A pa ra ps p fr s f)(k:DK Q σ d fr s f ek B)(hB:A+2≤B):Ok (bT (cf 98) (xk (db.body[4]?.getD .fail)) (leX ek d.a pa fr way ra p (nn 15)) σ (nxt (cf 98) rest dt)) Q:=by
 have L:=h.I.lay
 have h9:A+1≤900:=ae (aA h.a7) (by decide)
 refine oA λk1 H=>okC (d7 (n:=97) h.dk (bf h9) (by decide) λv1 σ1 _ _ kd1 D1=>okC (d7 (n:=97) D1 h9 (by decide) λv2 σ2 l2 m2 kd2 D2=> ?_))
 have kd:=kd1.trans kd2
 have sm:=λ{c t t'} (e:d.t=plug c t) (S:Same t t')=>h.I.same e S
 refine okC (ux (n:=95) (r:=v1==0) (ch:=v2-3) (by decide) L.wf (ae L.n (by decide)) (kd.at h.at_) h.hp h.pl (na7 l2 m2) (λc t t' e S=>(sm e S).1.lay.dp (by decide) (by decide)) λc t t' e S d3 σ3 e3 p3 t3=>H _ _ ?_)
 have q:=sm e S
 rw[←e3] at q
 have k3:=bI t3
 refine oR λk4 H4=>zV (tF (d:=d) rfl (show 16<22 by decide) rfl rfl L h.pl q.1.lay (cq (bP t3)) p3 (bL k3 (kd.list h.hr)) q.2 λσ4 k5=> ?_)
 exact H4 (.tup [.bool true,.ref d3.a,.ref pa]) _ (okR (k.same h q.1 (Nat.le_succ _) (q.2▸ .refl _) p3 ((cq (bP t3)).kp k5) (kd.trans (eU (k3.trans k5))) (D2.kp (k3.trans k5)) hB))
theorem GH(h:DH σ d ek A pa ra ps p fr s f)(k:DK Q σ d fr s f ek B)(hB:A+2≤B):Ok (bT (cf 98) (xk (db.body[5]?.getD .fail)) (leX ek d.a pa fr way ra p (nn 15)) σ (nxt (cf 98) rest dt)) Q:=by
 have L:=h.I.lay
 have h9:A+1≤900:=ae (aA h.a7) (by decide)
 refine oT λk1 H=>okI h.at_.c (okC (d7 (n:=97) h.dk (bf h9) (by decide) λv1 σ1 l1 m1 kd1 D1=> ?_))
 refine okI (kd1.at h.at_).c (okC (d7 (n:=97) D1 h9 (by decide) λv2 σ2 l2 m2 kd2 D2=>H (.tup [.int (d.w+v1),.int (d.h+v2)]) _ σ2 rfl ?_))
 have kd:=kd1.trans kd2
 have b:∀{x v m:Int},0≤v→v<m→m≤4→x≤x+v∧x+v-x<4000:=λh k l=>⟨aJ h,by rw[Int.add_comm,bj];exact aG k (ak l (by decide))⟩
 refine oA λk1 H=>okC (DA (n:=95) (by decide) L.wf (ae L.n (by decide)) (kd.at h.at_) (b l1 m1 (by decide)) (b l2 m2 (by decide)) λt1 t2 r1 r2 d3 σ3 e3 p3 t3=>H _ _ ?_)
 rw[show d.w+v1-d.w=v1 by rw[Int.add_comm,bj]] at r1
 rw[show d.h+v2-d.h=v2 by rw[Int.add_comm,bj]] at r2
 have q:=h.I.fit r1 r2 (Int.le_of_lt_add_one m1) (Int.le_of_lt (aG m2 (by decide))) (aA h.s4)
 rw[←e3,t_w,t_h,t_w,t_h] at q
 have k3:=bI t3
 have a3:=cq (bP t3)
 refine pA (v:= .bool true) (cr (u:= .tup [.int d3.w,.int d3.h]) (w:= .tup [.int (d.w+v1),.int (d.h+v2)]) (df (dg (bG rfl) a3.c rfl) (dg (bG rfl) a3.c rfl)) (df (bG rfl) (bG rfl)) ?_) ?_
 ·show some ([d3.w,d3.h]==[d.w+v1,d.h+v2])=_
  rw[q.2.2.1,q.2.2.2,bC]
 refine oR λk4 H4=>zV (z0 (bG rfl) (tF (d:=d) rfl (show 16<22 by decide) rfl rfl L h.pl q.1.lay a3 p3 (bL k3 (kd.list h.hr)) q.2.1 λσ4 k5=> ?_))
 exact H4 (.tup [.bool true,.ref d3.a,.ref pa]) _ (okR (k.same h q.1 (aD _) (q.2.1▸ .refl _) p3 (a3.kp k5) (kd.trans (eU (k3.trans k5))) (D2.kp (k3.trans k5)) hB))
end
section
variable{F:FT}{le:Le}{σ:H}{e e2 o:E}
theorem GC{a:Nat}{kvs:List (Int×V)}{j:Int}{u v:V}(ho:Ev F le σ o (.ref a))(h:σ[a]? =some (.dI kvs))(hj:Ev F le σ e (.int j))(hd:Ev F le σ e2 u)(hv:(kvs.lookup j).getD u=v):Ev F le σ (.meth .get o [e,e2]) v:=λβ k=>(ho _).trans (by
 show gd (im .get σ (.ref a)=true) _=_
 rw[gd,if_pos (Hl h)]
 refine(hj _).trans ((hd _).trans ?_)
 show((σ[a]?).bind yu).bind _=_
 rw[h,←hv]
 rfl)
theorem DD{v:V}(h:Ev F le σ e v):Ev F le σ (.tup [e]) (.tup [v]):=λβ k=>(h _).trans rfl
theorem DI{v x y z u:V}(ha:Ev F le σ e (.tup [v]))(hb:Ev F le σ e2 (.tup [x,y,z,u])):Ev F le σ (.bin .add e e2) (.tup [v,x,y,z,u]):=λβ k=>(ha _).trans ((hb _).trans rfl)
theorem Hx{β:Type}{k:V→H→Option β}{Q:β→Prop}{u:V}(ha:Ev F le σ e u)(h:Ok (evK F e2 le σ λy σ=>(gD σ u y).bind λv=>k v σ) Q):Ok (evK F (.idx e e2) le σ k) Q :=
 b4 (k:=λx σ=>evK F e2 le σ λy σ=>(gD σ x y).bind λv=>k v σ) ha h
theorem CQ{β:Type}{f:Nat}{k:V→H→Option β}{Q:β→Prop}{u v:V}(h1:Ev F le σ e u)(h2:Ev F le σ e2 v)(h:Ok ((F f [u,v] σ).bind λr=>k r.1 r.2) Q):Ok (evK F (.call f [e,e2]) le σ k) Q :=
 b4 (k:=λx σ=>evK F e2 le σ λy σ=>(F f [x,y] σ).bind λr=>k r.1 r.2) h1 (b4 (k:=λy σ=>(F f [u,y] σ).bind λr=>k r.1 r.2) h2 h)
end
section
variable{σ:H}{d:D}{ek A B pa ra s f:Nat}{ps:List Int}{p fr way:Int}{Q:V×H→Prop}{rest:List S}
theorem qy{le:Le}{k:V→H→Option (V×H)}(wf:WF d.t)(D1:Dk σ ek A)(hA:A≤800)(hpa:bJ σ pa=some (ps.map V.int))(pm:ps.Perm (names d.t))(h0:slot le 0=some (.ref ek))(h2:slot le 2=some (.ref pa))(g:∀q σ',q∈names d.t→Kd σ σ'→Dk σ' ek (A+1)→Ok (k (.int q) σ') Q):Ok (evK (cf 98) (.idx (.var 2) (.call bY [.var 0,.bi .len [.var 2]])) le σ k) Q:=by
 refine Hx (bG h2) (CQ (bG h0) (mB (bG h2) hpa) (okC (d7 (n:=97) D1 (ae hA (by decide)) ?_ λv σ1 l m kd D1=> ?_)))
 ·rw[pm.length_eq]
  exact aP.mpr (dH wf)
 ·exact(rD (kd.list hpa) l m).elim λq hq=>okX hq.2 (g q σ1 (pm.mem_iff.mp hq.1) kd D1)
theorem ze{F:FT}{le:Le}{e e2:E}{r:Row}{p:Int}(h:Ev F le σ e (.int p))(h2:Ev F le σ e2 r.v):Ev F le σ (.bin .add (.tup [e]) (.slc e2 (.lit (.int 1)) (.lit .none))) (setp r p).v:=DI (DD h) (wP (w:=r) h2)
theorem DO{u:V}(h:DH σ d ek A pa ra ps p fr s f)(k:DK Q σ d fr s f ek B)(hB:A+1≤B):Ok (bT (cf 98) (xk (db.body[7]?.getD .fail)) (leX ek d.a pa fr way ra p (none::none::none::none::some u::nn 10)) σ (nxt (cf 98) rest dt)) Q:=by
 have L:=h.I.lay
 refine oA λk1 H=>qy h.I.wf h.dk (ae h.a7 (by decide)) h.hpa h.pm rfl rfl λq σ1 hq kd D1=>H _ _ ?_
 refine oA λk1 H=>H (.ref σ1.length) (σ1++[O.dI (d8 q (.int p) [(p,.int q)])]) ?_
 have t2:=bM σ1 (O.dI (d8 q (.int p) [(p,.int q)]))
 generalize σ1++[O.dI (d8 q (.int p) [(p,.int q)])]=σ2 at t2⊢
 generalize σ1.length=dd at t2⊢
 refine oA λk1 H=>okC (yO (n:=96) (a:=p) (b:=q) (L.dp (by decide) (by decide)) ((kd.at h.at_).kp (bI t2)) L.n9 h.hp hq λd1 d3 σ3 q1 rn t3=>H _ _ ?_)
 have R:=h.I.rn h.pl q1 rn (vY L.nd h.hp hq)
 have a3:=cq (bP t3)
 have hd3:=cj (bI t3) (bK t2)
 have hr3:=bL ((bI t2).trans (bI t3)) (kd.list h.hr)
 refine oR λk4 H4=>zV (okC (dz (n:=97) (R.1.lay.dp (by decide) (by decide)) a3 R.2.2.1 R.1.lay.n9 λrb σ4 t4=> ?_))
 have hr4:=bL (bI t4) hr3
 refine okG (c:=cw (.one 16) (leX ek d.a pa fr way ra p (none::none::none::none::some u::nn 10))=true) rfl (dN hr4 (okB (dB (S:=Option V) (λc=>(leX ek d.a pa fr way ra p (none::some (.ref d3.a)::none::none::some u::some (.int q)::some (.ref dd)::nn 8)).set 16 c) (λr=>[(setp r (sw p q r.p)).v]) (s:=none) (ai.mpr (bQ hr4)) ?_ λσ5 k5=> ?_)))
 ·exact λr m c σ5 k5=>⟨some r.v,rfl,λR K1=>b4 (ze (GC (bG rfl) (cj ((bI t4).trans k5) hd3) (f8 (bG (v:=r.v) rfl) bN rfl) (f8 (v:= .int r.p) (bG (v:=r.v) rfl) bN rfl) (dget p q r.p)) (bG rfl)) (okR (K1 _ .rfl))⟩
 have e:(rows d.t 0 0).flatMap (λr=>[(setp r (sw p q r.p)).v])=(rows d3.t 0 0).map Row.v:=by
  rw[R.2.2.2,←cz h.pl,zg,aY]
  exact List.map_eq_flatMap.symm
 rw[e]
 have t6:=bM σ5 (.list ((rows d3.t 0 0).map Row.v))
 refine okG ?_ (iu (same (bL (k5.trans (bI t6)) (bH (bK t4))) (bH (bK t6)) (dY (λ_=>rfl) _)) ?_)
 ·rw[ah]
  exact ae R.1.lay.tl.n (by decide)
 have kk:=((bI t4).trans k5).trans (bI t6)
 exact H4 (.tup [.bool true,.ref d3.a,.ref pa]) _ (okR (k.same h R.1 (Nat.le_succ _) (R.2.1▸vY L.nd h.hp hq) R.2.2.1 (a3.kp kk) (kd.trans (eU (((bI t2).trans (bI t3)).trans kk))) (D1.kp (((bI t2).trans (bI t3)).trans kk)) hB))
end
theorem xy{α β:Type}(f:α→β)(l:List α){g:Nat→β}(h:∀k,(e:k<l.length)→g k=f l[k]):(List.range' 0 l.length).flatMap (λk=>[g k])=l.map f:=by
 rw[←List.map_eq_flatMap]
 refine List.ext_getElem (by rw[ah,ah,List.length_range']) λi h1 h2=> ?_
 rw[ah] at h2
 rw[List.getElem_map,List.getElem_map,List.getElem_range',Nat.zero_add,Nat.one_mul]
 exact h i h2
theorem rC{σ:H}{α:Type}{f:α→V}{l:List α}{a k:Nat}(h:bJ σ a=some (l.map f))(e:k<l.length):gD σ (.ref a) (.int k)=some (f l[k]):=by
 refine dQ (P:=(l.take k).map f) (Q:=(l.drop (k+1)).map f) (h.trans ?_) ?_
 ·rw[←aR,←au,List.getElem_cons_drop,List.take_append_drop]
 ·rw[ah,List.length_take,Nat.min_eq_left (bh e)]
theorem Dt{σ:H}{a:Nat}{P:List Int}{x:Int}(h:bJ σ a=some ((P++[x]).map V.int)):∀k:Nat,(e:k<(x::P).length)→gD σ (.ref a) (.int (0+1*(k:Int)-1))=some (.int (x::P)[k])
 | 0,_=>f7 (P:=P.map V.int) (Q:=[]) (h.trans (by rw[au];rfl)) rfl
 | k+1,e=>by
  have e:k<P.length:=Nat.lt_of_succ_lt_succ e
  have q:=rC (f:=V.int) (l:=P++[x]) h (k:=k) (by rw[aa];exact Nat.lt_succ_of_lt e)
  rw[List.getElem_append_left e] at q
  rw[show(0:Int)+1*((k+1:Nat):Int)-1=(k:Int) by rw[Int.zero_add,Int.one_mul];exact bj (k:Int) 1]
  exact q
section
variable{σ:H}{d:D}{ek A B pa ra s f:Nat}{ps:List Int}{p fr way:Int}{Q:V×H→Prop}{rest:List S}
theorem yd{u:V}(h:DH σ d ek A pa ra ps p fr s f)(k:DK Q σ d fr s f ek B)(hB:A≤B):Ok (bT (cf 98) (xk (db.body[8]?.getD .fail)) (leX ek d.a pa fr way ra p (none::none::none::none::some u::nn 10)) σ (nxt (cf 98) rest dt)) Q:=by
 have L:=h.I.lay
 obtain⟨P,x,hn⟩:∃P x,names d.t=P++[x]:=(List.eq_nil_or_concat (names d.t)).elim (λe=>absurd (dH h.I.wf) (by rw[e];decide)) λ⟨P,x,e⟩=>⟨P,x,e.trans List.concat_eq_append⟩
 refine oT λk1 H=>okC (mZ (n:=96) (b:=false) (P:=P) (S:=[x]) (x:=x) (L.dp (by decide) (by decide)) h.at_ L.n9 Bool.noConfusion (λ_=>⟨rfl,hn⟩) (λd1 d2 σ1 q1 rn t1=> ?_) [.ref d.a] rfl)
 have pm:([x]++P).Perm (names d.t):=hn▸ba
 have R:=h.I.rn h.pl q1 rn pm
 have L2:=R.1.lay
 have a2:=cq (bP t1)
 have hr1:=bL (bI t1) h.hr
 refine okG (c:=cw (.one 16) (leX ek d.a pa fr way ra p (none::none::none::none::some u::nn 10))=true) rfl (dN hr1 (j0 L h.pl (show 16<22 by decide) hr1 λnb σ2 t2=>H (.tup [.ref d2.a,.ref nb]) _ σ2 rfl ?_))
 have k2:=(bI t1).trans (bI t2)
 have hn2:=bH (bK t2)
 rw[hn] at hn2
 have ln:([x]++P).length=(rows d.t 0 0).length:=by rw[pm.length_eq,←cz h.pl,ah]
 refine oA λk1 H=>okC (mZ (n:=96) (b:=true) (P:=[x]) (S:=P) (x:=x) (L2.dp (by decide) (by decide)) (a2.kp (bI t2)) L2.n9 (λ_=>⟨rfl,R.2.1⟩) Bool.noConfusion (λe1 d3 σ3 q3 rn3 t3=> ?_) [.ref d2.a,.bool true] rfl)
 have R3:=R.1.rn R.2.2.1 q3 rn3 (R.2.1.symm▸ba)
 have er:rows d3.t 0 0=rows d.t 0 0:=by rw[R3.2.2.2,R.2.2.2,zf ln,←hn,←cz h.pl,um]
 refine okC (dz (n:=97) (R3.1.lay.dp (by decide) (by decide)) (cq (bP t3)) R3.2.2.1 R3.1.lay.n9 λrb σ4 t4=> ?_)
 have k4:=(bI t3).trans (bI t4)
 have hr4:=bL (k2.trans k4) h.hr
 refine iu (same (er▸bH (bK t4)) hr4 (dY (λ_=>rfl) _)) (H (.bool true) σ4 ?_)
 have l2:(rows d2.t 0 0).length=(rows d.t 0 0).length:=by rw[R.2.2.2,List.length_zipWith,ln,Nat.min_self]
 refine oA λk1 H=>okG (c:=cw (.one 16) (leX ek d.a pa fr way ra p (none::none::none::none::some u::nn 10))=true) rfl (Go (ah (as:=rows d.t 0 0) Row.v▸jB (bG rfl) hr4) (lY ⟨aC _,aO.mpr (ae L.tl.n (by decide))⟩) ?_)
 refine okB (dB (S:=Option V) (λc=>(leX ek d.a pa fr way ra p (some (.bool true)::some (.ref d2.a)::none::none::some u::none::some (.ref nb)::nn 8)).set 16 c) (λk:Nat=>[((rows d2.t 0 0)[k]?.map Row.v).getD .none]) (s:=none) (aj _) ?_ λσ5 k5=> ?_)
 ·refine λj m c σ5 k5=>⟨some (.int (0+1*(j:Int))),rfl,λR1 K1=> ?_⟩
  have e:j<(rows d.t 0 0).length:=Nat.lt_of_lt_of_eq (List.mem_range'_1.mp m).2 (Nat.zero_add _)
  have e2:j<(x::P).length:=ln.symm▸e
  have K1:=K1 σ5 .rfl
  rw[aW (l2.symm▸e)] at K1
  have g:(rows d2.t 0 0)[j]'(l2.symm▸e)=setp (rows d.t 0 0)[j] (x::P)[j]:=by
   simp only[R.2.2.2]
   exact List.getElem_zipWith
  refine b4 (ze (r:=(rows d.t 0 0)[j]) (f8 (bG rfl) (c6 (by nofun) (bG rfl) bN rfl) (Dt (bL (k4.trans k5) hn2) j e2)) (f8 (bG rfl) (bG rfl) ?_)) (okR (g▸K1))
  rw[Int.zero_add,Int.one_mul]
  exact rC (bL k5 hr4) e
 have e:(List.range' 0 (rows d.t 0 0).length).flatMap (λk:Nat=>[((rows d2.t 0 0)[k]?.map Row.v).getD .none])=(rows d2.t 0 0).map Row.v:=l2▸xy Row.v (rows d2.t 0 0) λk e=>by rw[aW e];rfl
 rw[show Int.toNat (((rows d.t 0 0).length:Nat):Int)=(rows d.t 0 0).length from rfl,e]
 have t6:=bM σ5 (.list ((rows d2.t 0 0).map Row.v))
 refine okG ?_ (H _ _ ?_)
 ·rw[ah]
  exact ae L2.tl.n (by decide)
 have k6:=(bI t2).trans (k4.trans (k5.trans (bI t6)))
 refine oR λk7 H7=>zV (z0 (bG rfl) (okC (dz (n:=97) (L2.dp (by decide) (by decide)) (a2.kp k6) R.2.2.1 L2.n9 λrc σ7 t7=> ?_)))
 refine iu (same (bH (bK t7)) (bL (bI t7) (bH (bK t6))) (dY (λ_=>rfl) _)) ?_
 have k8:=(bI t1).trans (k6.trans (bI t7))
 exact H7 (.tup [.bool true,.ref d2.a,.ref pa]) _ (okR (k.same h R.1 (Nat.le_succ _) (R.2.1▸pm) R.2.2.1 (a2.kp (k6.trans (bI t7))) (eU k8) (h.dk.kp k8) hB))
end
section
variable{σ:H}{d:D}{ek A B pa ra s f:Nat}{ps:List Int}{p fr way:Int}{Q:V×H→Prop}
theorem Bu{u:V}(h:DH σ d ek A pa ra ps p fr s f)(k:DK Q σ d fr s f ek B)(hB:A+1≤B):Ok (bT (cf 98) (db.body.drop 9) (leX ek d.a pa fr way ra p (none::none::none::none::some u::nn 10)) σ dt) Q:=by
 have L:=h.I.lay
 refine oA λk1 H=>okC (xb (n:=97) λwa σ1 t1=>okC (d7 (n:=97) (h.dk.kp (bI t1)) (ae h.a7 (by decide)) (by decide) λv σ2 l m kd D2=> ?_))
 have kd2:=(eU (bI t1)).trans kd
 obtain⟨i,rfl⟩:=bt l
 have hi:i<5:=aP.mp m
 refine okX (v:= .str (i+3)) ?_ (H _ _ ?_)
 ·refine(rC (l:=[3,4,5,6,7]) (f:=V.str) (kd.list (bH (bK t1))) (k:=i) hi).trans ?_
  rcases i5 i hi with rfl|rfl|rfl|rfl|rfl <;> rfl
 have hr:=kd2.list h.hr
 refine oA λk1 H=>okG (c:=cw (.one 16) (leX ek d.a pa fr way ra p (none::none::none::none::some u::nn 10))=true) rfl (dN hr (j0 L h.pl (show 16<22 by decide) hr λnb σ3 t3=>H _ _ ?_))
 obtain⟨q,qs,hn⟩:=List.exists_cons_of_length_pos (dH h.I.wf)
 have k4:qs.length≤4:=by
  have l:=h.I.ln
  rw[hn] at l
  exact ae (Nat.le_of_succ_le_succ l) (ae (az _ _) h.s4)
 have hn3:=bH (bK t3)
 rw[hn] at hn3
 have nd:∀{t},nmT i q qs t→Inv t s f:=λ{t} e=>by
  have n:=EG hi e k4
  rw[←hn] at n
  exact⟨n.1,n.2.1▸h.I.nd,n.2.1▸h.I.nu,n.2.1▸h.I.ln,λq=>ak (n.2.2 q) (aO.mpr (az _ _)),h.I.sf⟩
 have k5:qs.length≤5:=aV k4
 refine oA λk1 H=>okC (xK (m:=93) hi hn3 k4 (by decide) (λr e=>(mT (j9 e k5)).1) (λr=> ?_) (λr e=>C9 e k5) (λt e=>(nd e).lay.dp (by decide) (by decide)) λt e d3 σ4 e3 p3 t4=>H _ _ ?_)
 ·by_cases e:qs=[]
  ·subst e
   cases r <;> exact bu _
  ·rw[(mT (j9 e k5)).2.1]
   exact ae k5 (by decide)
 have I3:=nd e
 have n3:=(EG hi e k4).2.1.trans hn.symm
 rw[←e3] at I3 n3
 have L3:=I3.lay
 have a4:=cq (bP t4)
 have hn4:=bL (bI t4) hn3
 have k34:=(bI t3).trans (bI t4)
 have fin:∀σ5,Kp σ4 σ5→Ok (bT (cf 98) (db.body.drop 13) (leX ek d.a pa fr way ra p (none::some (.ref d3.a)::none::none::some u::none::some (.ref nb)::none::some (.str (i+3))::nn 6)) σ5 dt) Q:=λσ5 kk=>by
  refine oR λk7 H7=>zV (okG (c:=cw (.one 16) (leX ek d.a pa fr way ra p (none::some (.ref d3.a)::none::none::some u::none::some (.ref nb)::none::some (.str (i+3))::nn 6))=true) rfl (okC (dz (n:=97) (L3.dp (by decide) (by decide)) (a4.kp kk) p3 L3.n9 λrb σ6 t6=>dN (bH (bK t6)) (j0 L3 p3 (show 16<22 by decide) (bH (bK t6)) λb σ7 t7=> ?_))))
  have k7:=kk.trans ((bI t6).trans (bI t7))
  refine iu (same (bH (bK t7)) (bL k7 (by rw[n3,hn];exact hn4)) (dY (λ_=>rfl) _)) ?_
  exact H7 (.tup [.bool true,.ref d3.a,.ref pa]) _ (okR (k.same h I3 (Nat.le_succ _) (n3▸ .refl _) p3 (a4.kp k7) (kd2.trans (eU (k34.trans k7))) (D2.kp (k34.trans k7)) hB))
 refine pIf (d6 (cr (p:=[3,4].contains (i+3)) (bG rfl) (df bN bN) rfl) (fF (mB (bG rfl) hn4) bN)) (λc=> ?_) λ_=>oN (fin σ4 .rfl)
 have c:=ar.mp c
 have et:t=cW (i+3==3) 12 8 (q::qs):=by
  have c1:=c.1
  rcases i5 i hi with rfl|rfl|rfl|rfl|rfl
  ·exact e
  ·exact e
  ·exact Bool.noConfusion c1
  ·exact Bool.noConfusion c1
  ·exact Bool.noConfusion c1
 refine oIr λk6 H6=>okC (dz (n:=97) (L3.dp (by decide) (by decide)) a4 p3 L3.n9 λrb σ5 t5=>okC (s7 (n:=97) (r:=i+3==3) (bL (bI t5) hn4) nofun (aA (ae k4 (by decide))) λeb σ6 t6=>iu (differ (bL (bI t6) (bH (bK t5))) ?_ (dY (λ_=>rfl) _)) (H6 false _ (λe=>Bool.noConfusion e) λ_=>oN (fin σ6 ((bI t5).trans (bI t6))))))
 have er:=DE (r:=i+3==3) (ps:=q::qs) nofun (aA k4) (aP.mp (bA c.2))
 rw[←et,←e3] at er
 exact er▸bH (bK t6)
end
section
variable{σ:H}{d:D}{ek A pa s f:Nat}{ps:List Int}{fr:Int}{Q:V×H→Prop}
theorem Bq(I:Inv d.t s f)(s4:s+f≤4)(ha:At σ d)(pl:Pl d 0 0)(dk:Dk σ ek A)(hA:A≤600)(hpa:bJ σ pa=some (ps.map V.int))(pm:ps.Perm (names d.t))(nf:fr∉names d.t)(hf:0≤fr∧fr≤900)(k:DK Q σ d fr s f ek (A+5)):Ok (cf 99 oP [.ref ek,.ref d.a,.ref pa,.int fr] σ) Q:=by
 have L:=I.lay
 have a8:A+3≤700:=ae (aF hA 3) (by decide)
 refine okF (n:=98) (le:=some (.ref ek)::some (.ref d.a)::some (.ref pa)::some (.int fr)::nn 18) rfl rfl ?_
 refine oT λk1 H=>okC (d7 (n:=97) dk (ae hA (by decide)) (by decide) λw σ1 _ _ kd1 D1=>okC (dz (n:=97) (L.dp (by decide) (by decide)) (kd1.at ha) pl L.n9 λra σ2 t2=>H (.tup [.int w,.ref ra]) _ σ2 rfl ?_))
 have kd2:=kd1.trans (eU (bI t2))
 refine oA λk1 H=>qy L.wf (D1.kp (bI t2)) (ae (az _ 2) (ae a8 (by decide))) (kd2.list hpa) pm rfl rfl λp σ3 hp kd3 D3=>H _ _ ?_
 have kd:=kd2.trans kd3
 have h:DH σ3 d ek (A+2) pa ra ps p fr s f:=⟨I,s4,kd.at ha,pl,D3,bf a8,kd.list hpa,pm,kd3.list (bH (bK t2)),hp,nf,hf⟩
 have k:=k.kd kd
 refine pIf (fF (bG rfl) bN) (λ_=>Bt h k (aD _)) λ_=>oN ?_
 refine pIf (fW (bG rfl) bN) (λ_=>Bv h k (aB (by decide:2≤5) A)) λ_=>oN ?_
 refine pIf (fW (bG rfl) bN) (λ_=>ye h k (aB (by decide:4≤5) A)) λ_=>oN ?_
 refine pIf (fW (bG rfl) bN) (λ_=>GH h k (aB (by decide:4≤5) A)) λ_=>oN ?_
 refine oA λk1 H=>okC (d7 (n:=97) h.dk (ae h.a7 (by decide)) (by decide) λv σ4 _ _ kd4 D4=>H _ _ ?_)
 have h:=h.kd kd4 D4 a8
 have k:=k.kd kd4
 refine pIf (fW (bG rfl) bN) (λ_=>DO h k (aB (by decide:4≤5) A)) λ_=>oN ?_
 refine pIf (fW (bG rfl) bN) (λ_=>yd h k (aB (by decide:3≤5) A)) λ_=>oN ?_
 exact Bu h k (aB (by decide:4≤5) A)
end
theorem Hw{β:Type}{F:FT}{le:Le}{σ:H}{A B:E}{k:V→H→Option β}{Q:β→Prop}(h:∀k':V→H→Option β,(∀σ',Ok (evK F B le σ' λy σ=>(b6 y).bind λd=>k (.bool d) σ) Q→Ok (k' (.bool false) σ') Q)→Ok (evK F A le σ k') Q):Ok (evK F (.or A B) le σ k) Q:=h _ λ_ x=>x
noncomputable abbrev O5:=Nat×Nat×Option V×Option V×Option V×Option V×Option V
noncomputable def leW(l:List Int)(ek:Nat)(s:O5):Le:=some (.con l)::some (.ref ek)::some (.ref s.1)::some (.ref s.2.1)::s.2.2.1::s.2.2.2.1::s.2.2.2.2.1::s.2.2.2.2.2.1::s.2.2.2.2.2.2::nn 6
structure LW(ek j m:Nat)(s:O5)(σ:H)(d:D)(ps:List Int)(x f:Nat):Prop where
 jm:j+m≤5
 I:Inv d.t x f
 xf:x+f≤j
 nm:∀p∈names d.t,p≤(j:Int)
 a:s.1=d.a
 at_:At σ d
 pl:Pl d 0 0
 hpa:bJ σ s.2.1=some (ps.map V.int)
 pm:ps.Perm (names d.t)
 dk:Dk σ ek (1+9*j)
section
variable{σ:H}{ek j m x f:Nat}{s:O5}{d:D}{ps:List Int}{l:List Int}
theorem Ax{R:Fl×Le×H→Prop}(h:LW ek j (m+1) s σ d ps x f)(K:∀s' σ' d' ps' x' f',LW ek (j+1) m s' σ' d' ps' x' f'→R (.next,leW l ek s',σ')) :
  Ok (bT (cf 99) (rH (A4.body[2]?.getD .fail)) (leW l ek (d.a,s.2.1,some (.int (0+1*(j:Int))),s.2.2.2)) σ gv) R:=by
 have L:=h.I.lay
 have j4:j≤4:=Nat.le_of_succ_le_succ (ae (aB (Nat.succ_pos m) j) h.jm)
 have z:(0:Int)+1*(j:Int)+1=(j:Int)+1:=by rw[Int.zero_add,Int.one_mul]
 refine oA λk H=>okC (fc (n:=97) (L.dp (by decide) (by decide)) h.at_ L.wf h.pl L.nm L.ol λσ1 k1=>H _ _ ?_)
 have a9:1+9*j≤40:=ae (aB (Nat.mul_le_mul_left 9 j4) 1) (by decide)
 have nf:(0+1*(j:Int)+1)∉names d.t:=λq=>aS _ (aG (Int.lt_add_one_of_le (bv (j:Int))) (z▸h.nm _ q))
 refine oT λk H=>okC (Bq (A:=1+9*j) h.I (ae h.xf j4) (h.at_.kp k1) h.pl (h.dk.kp k1) (ae a9 (by decide)) (bL k1 h.hpa) h.pm nf ⟨z▸Int.add_nonneg (aC j) (by decide),z▸ak (br (aO.mpr j4) 1) (by decide)⟩ λd2 pb ps2 x2 f2 σ2 I2 s2 n2 p2 a2 hpb pm2 kd2 D2=>H (.tup [.bool true,.ref d2.a,.ref pb]) _ σ2 rfl ?_)
 have L2:=I2.lay
 have a0:=kd2.at (h.at_.kp k1)
 refine oIr λk H=>HF (Bb (b:=true) (bG rfl)) (Hw λk' H'=>okC (fc (n:=97) (L.dp (by decide) (by decide)) a0 L.wf h.pl L.nm L.ol λσ3 k3=> ?_))
 refine b4 (v:= .bytes (ot d.t)) (bG rfl) (iu (v:=false) ?_ (H' _ ?_))
 ·show some (!(ot d.t==ot d.t))=_
  rw[bC]
  rfl
 refine wr (okC (rA (A:=1+9*j+5) L2 (a2.kp k3) p2 (D2.kp k3) (ae (aF a9 5) (by decide)) (bL k3 hpb) pm2 λσ4 kd4 D4=>H false _ (λe=>Bool.noConfusion e) λ_=> ?_))
 refine oT λk H=>H (.tup [.ref d2.a,.ref pb]) _ σ4 rfl (okR (K (d2.a,pb,some (.int (0+1*(j:Int))),some (.bytes (ot d.t)),some (.bool true),some (.ref d2.a),some (.ref pb)) σ4 d2 ps2 x2 f2 {
  jm:=ae (aZ (Nat.add_right_comm j 1 m)) h.jm
  I:=I2
  xf:=ae s2 (aA h.xf)
  nm:=λq mq=>(aE.mp (n2 q mq)).elim (λe=>e▸Int.le_of_eq z) λmq=>ak (h.nm q mq) (Int.le_of_lt (Int.lt_add_one_of_le (bv (j:Int))))
  a:=rfl
  at_:=kd4.at (a2.kp k3)
  pl:=p2
  hpa:=kd4.list (bL k3 hpb)
  pm:=pm2
  dk:=D4.mono (aZ (by rw[Nat.mul_succ,bo,bo]))}))
end
theorem H0:Inv (.mk (.pane 0) 12 8 []) 0 0 where
 wf:= .pane rfl (show(1:Int)≤12 by decide) (show(1:Int)≤8 by decide) rfl
 nd:=aQ.mpr ⟨bm,.nil⟩
 nu:=ai.mpr ⟨by decide,by decide⟩
 ln:=aD 1
 sz q:=by cases q;exact(show(8:Int)≤12 by decide);exact(show(12:Int)≤12 by decide)
 sf:=by decide
theorem law_ok{l:List Int}(hl:l.length≤63):Ok (cf 100 tD [.con l] []) λr=>r.1= .bool true:=by
 refine okF (n:=99) (le:=some (.con l)::nn 14) rfl rfl ?_
 have c:kX (l.map V.int) none (some 32)=(l.take (clip l.length 32)).map V.int:=by
  show((l.map V.int).drop 0).take (clip (l.map V.int).length 32)=_
  rw[ah,List.map_take]
  rfl
 refine oA λk H=>okC (Br (n:=98) ((bH (bK (bM [] (.list (kX (l.map V.int) none (some 32)))))).trans (congrArg some c)) ?_ λek σ1 D1=>H _ _ ?_)
 ·rw[List.length_take]
  exact ae (Nat.min_le_right _ _) (ae hl (by decide))
 refine oT λk H=>okC (iz (n:=98) λa b σ2 t2=>H (.tup [.ref a,.ref σ2.length]) _ (σ2++[O.list [.int 0]]) rfl ?_)
 have t3:=bM σ2 (O.list [.int 0])
 generalize σ2++[O.list [V.int 0]]=σ3 at t3⊢
 generalize σ2.length=pa at t3⊢
 have k3:=(bI t2).trans (bI t3)
 refine oFo λk H=>okC (d7 (n:=98) (D1.kp k3) (by decide) (by decide) λv σ4 l4 m4 kd4 D4=> ?_)
 have v5:1+v≤5:=Int.add_comm v 1▸Int.add_one_le_of_lt m4
 refine c7 (o:=ce 0 (1+v) 1) (lY ⟨Int.add_nonneg (by decide) l4,ak v5 (by decide)⟩) (H _ _ _ ?_)
 refine dq (α:=Nat) (leW l ek) (λs todo σ'=>∃j m d ps x f,todo=List.range' j m∧LW ek j m s σ' d ps x f) (λs c cs σ' hI=> ?_) (λs σ' _=> ?_) (s:=(a,pa,none,none,none,none,none)) ⟨0,(1+v).toNat,.mk a b 0 0 (.pane 0) 12 8 [],[0],0,0,rfl,{
  jm:=(Nat.zero_add _).symm▸Int.toNat_le.mpr v5
  I:=H0
  xf:=aD 0
  nm:=ai.mpr (by decide)
  a:=rfl
  at_:=kd4.at ((cq (bP t2)).kp (bI t3))
  pl:=⟨⟨rfl,rfl⟩,trivial⟩
  hpa:=kd4.list (bH (bK t3))
  pm:= .refl _
  dk:=D4}⟩
 ·obtain⟨j,m,d,ps,x,f,e,h⟩:=hI
  cases m with
  | zero=>exact nomatch e
  | succ m =>
   obtain⟨rfl,rfl⟩:=List.cons.inj e
   refine⟨_,rfl,λR K1 _=> ?_⟩
   have q:=Ax (l:=l) (R:=R) (s:=s) h λs' σ2 d' ps' x' f' h'=>K1 s' σ2 (aj _) ⟨c+1,m,d',ps',x',f',rfl,h'⟩
   rw[←h.a] at q
   exact q
 ·exact oR λk H=>H (.bool true) σ' (okR (show V.bool true=V.bool true from rfl))
end Mine.Internal.L
namespace Mine.Internal
theorem lawFact:kh:=λl hl=>by
 obtain⟨⟨v,σ'⟩,e,rfl⟩:=L.law_ok hl
 rw[L.cf_eq] at e
 exact⟨σ',e⟩
end Mine.Internal
set_option backward.match.sparseCases true
namespace Mine.Internal
theorem pD{den:Code→Sem Fin}{p:Program}{w:World}{s:SharedT}{t:Thread}(h:through t=true):stepT den p w s t=none:=by
 obtain⟨T,n,life,gens,drawn,toks,os⟩:=s
 obtain⟨cur,code,pos,stack⟩:=t
 unfold through at h
 rw[Bool.and_eq_true] at h
 obtain⟨h1,h2⟩:=h
 cases stack with
 | cons=>cases h1
 | nil =>
  cases cur with
  | pure f =>
   cases f with
   | done f=>simp only[stepT,step,finish];split <;> first|rfl|(rename_i q;split at q <;> cases q)
   | again=>cases h2
  | _=>cases h2
theorem p8{tb:String→Option Builtin}{p:Program}{w:World}{n₀:Nat}{ann:Option Value}:∀{n:Nat} {s s':SharedT} {t t':Thread},segGoT tb p w n₀ ann 1000 n s t=some (s',t')→through t'=true→topRun tb p w n₀ ann (n+1) s.abs t=some s'.abs
 | 0,s,s',t,t',h,ht=>by
  cases h
  unfold topRun
  rw[ht]
 | n+1,s,s',t,t',h,ht=>by
  unfold segGoT at h
  unfold topRun
  cases he:endAt 1000 t with
  | some x=>rw[he] at h;cases h
  | none =>
   rw[he] at h
   cases hk:stepOk n₀ ann t with
   | false=>rw[hk] at h;cases h
   | true =>
    rw[hk] at h
    cases hs:stepT (denote tb) p w s t with
    | none=>rw[hs] at h;cases h
    | some r =>
     obtain⟨s₂,t₂⟩:=r
     rw[hs] at h
     cases hz:through t with
     | true=>rw[pD hz] at hs;cases hs
     | false=>rw[stepT_spec hs];exact p8 h ht
noncomputable def BM(P:Params):BT:=(boot_heap P).objs.toList.zipIdx.foldl (λt x=>t.ins x.2 x.1) .nil
theorem tQ(P:Params):absHeap (BM P) 11 (boot_heap P).life=boot_heap P:=by kernel_rfl
noncomputable def s0T(P:Params)(os:OsState):SharedT:=⟨BM P,11,(boot_heap P).life,Array.mk [],boot_drawn,boot_toks,os⟩
theorem rk{p q:Program}{loose:List Str}{Xt:Shared→Bool}{α:Type}{Yf:Shared→α}{Ya:World→α}{N M:Nat}(e:opening p=plainProg p.main.scope.names)(hN:Nat.ble 600 N=true)(hM:Nat.ble (M+1) N=true)(f:∀s,fenceModules? p s=some s)
  (size:∀P,((boot_heap P).isNs mainGlobals,(boot_heap P).nsMap mainGlobals "__annotations__")=(true,some (.ref 6)))
  (run:∀(w:World) (os:OsState),(segGoT treeTable p w 11 (some (.ref 6)) 1000 M (s0T w.params os) (topStub p)).map (λx =>
   (through x.2&&staticsOk (importedModules p.main.body) (boot_heap w.params) x.1.abs.heap&&namesBound p x.1.abs.heap&&gensDone x.1.abs&&laidKept (boot_heap w.params) x.1.abs.heap,openSeen q loose (importedModules p.main.body) Xt true x.1.abs,Yf x.1.abs))=some (true,openGood q loose,Ya w)) :
 LeftO p q loose Xt Yf Ya N:=λw=>by
 obtain⟨⟨h,gs,d,k,os⟩,e1,e2⟩:=Option.map_eq_some_iff.mp (boot_open e hN f w)
 obtain⟨rfl,rfl,rfl,rfl⟩:h=boot_heap w.params∧gs=Array.mk []∧d=boot_drawn∧k=boot_toks:=by simpa using e2
 obtain⟨⟨s,th⟩,r1,r2⟩:=Option.map_eq_some_iff.mp (run w os)
 obtain⟨l1,l2,l3⟩:_∧_∧_:=by simpa only[Prod.mk.injEq] using r2
 simp only[Bool.and_eq_true] at l1
 obtain⟨⟨⟨⟨l0,a1⟩,a2⟩,a3⟩,a4⟩:=l1
 have r:=topRun_mono (N-(M+1)) _ _ _ _ (p8 r1 l0)
 rw[show M+1+(N-(M+1))=N by have:=Nat.le_of_ble_eq_true hM;omega] at r
 have hs:(s0T w.params os).abs=⟨boot_heap w.params,Array.mk [],boot_drawn,boot_toks,os⟩:=by
  show(⟨absHeap (BM w.params) 11 (boot_heap w.params).life,_,_,_,_⟩:Shared)=_
  rw[tQ];rfl
 rw[hs] at r
 obtain⟨z1,z2⟩:_∧_:=by simpa only[Prod.mk.injEq] using size w.params
 have z3:(boot_heap w.params).objs.size=11:=by rw[←tQ,absHeap_size]
 have t:topFrom treeTable p w N ⟨boot_heap w.params,Array.mk [],boot_drawn,boot_toks,os⟩=some s.abs:=by
  unfold topFrom
  dsimp only
  rw[z1,z2,z3,r]
  show(match staticsOk (importedModules p.main.body) (boot_heap w.params) s.abs.heap&&namesBound p s.abs.heap&&gensDone s.abs&&laidKept (boot_heap w.params) s.abs.heap with|true=>_|false=>_)=_
  rw[a1,a2,a3,a4];rfl
 unfold openEnds
 rw[e1]
 show(topFrom treeTable p w N ⟨boot_heap w.params,Array.mk [],boot_drawn,boot_toks,os⟩).map _=_
 rw[t,Option.map_some,l2,l3]
abbrev theLaw:OpenLaw:=PySem.Challenge.rw_np0278_01
abbrev theP:Program:=PySem.Challenge.pw_np0278_01
theorem lo1:sreFenced theP.main=true:=by kernel_rfl
theorem lo2:((moduleNames theP.main.body).isEmpty||lookedIntoSs (moduleNames theP.main.body) theP.main.body)=true:=by kernel_rfl
theorem lo3:namesResolve theP=true:=by
 unfold namesResolve
 rw[Fast.named_eq]
 kernel_rfl
theorem lo4:theP.boundNames.all (λn=> !worldNames.contains n)=true:=by kernel_rfl
theorem lo5:noRoadLSs {strict:= !(importedModules theP.main.body).all cThrough.contains,foot:=none,bare:=(["vars", "dir", "locals"]:List Str).filter (readsOut theP theP.main.body)} theP.main.body=true:=by kernel_rfl
theorem lo6:(namesMeet theP theP.main.body λ_ n=>attrL n)=true:=by kernel_rfl
theorem lo:looksOpen theP=true:=by
 unfold looksOpen
 rw[lo1,lo2,lo3,lo4,lo5,lo6];rfl
theorem partSaid:theLaw.row.partSaid=true:=by
 unfold OpenRow.partSaid
 rw[show theLaw.row.toRowW.prog=theP from rfl,lo]
 kernel_rfl
theorem wh:theLaw.row.wellSaid=true:=by
 unfold OpenRow.wellSaid
 rw[partSaid]
 kernel_rfl
theorem lw1:noRoadLSs {strict:=true,foot:=some theLaw.bound',writes:=theLaw.writes,may:=theLaw.may} theLaw.footing=true:=by kernel_rfl
theorem lw2:theLaw.bound'.all (λn=> !builtinNamed n||theLaw.about==[n]|| !theLaw.reads n)=true:=by
 rw[Fast.named_eq]
 kernel_rfl
theorem lw3:theLaw.own.all (λn=> !builtinNamed n)=true:=by
 rw[Fast.named_eq]
 kernel_rfl
theorem lw4:(namesMeet theLaw.prog theLaw.above (λ_ n=> !theLaw.own.contains n))=true:=by kernel_rfl
theorem said:theLaw.wellSaid=true:=by
 unfold OpenLaw.wellSaid
 rw[wh,lw1,lw2,lw3,lw4]
 kernel_rfl
noncomputable def qv:Program:=view theP [64]
noncomputable def kG:DefRec×List (Str×PySem.Expr):=((defOf qv (Str.ofString "law")).get (by kernel_rfl))
theorem hdef:defOf qv theLaw.row.toRowW.name=some (kG.1,kG.2):=by kernel_rfl
theorem kwd0:kG.2=[]:=by kernel_rfl
theorem hp:theLaw.row.toRowW.prog.theDef theLaw.row.toRowW.name=some (kG.1.params,kG.1.body,kG.1.scope):=by kernel_rfl
theorem hkw:kwWritten? kG.1.params.kwonlyargs kG.1.params.kw_defaults=some kG.2:=by kernel_rfl
theorem hok:(chainsOk qv&&opensWell theLaw.row.toRowW.prog&&(frees theLaw.row.toRowW&&theLaw.row.toRowW.within.isEmpty))=true:=by kernel_rfl
theorem hbare:theLaw.row.toRowW.prog.bare:=⟨rfl,rfl,rfl,rfl,rfl,by decide +kernel⟩
theorem hwit:theLaw.row.toRowW.promised:=by w_witness2
noncomputable def BX(p:Obj×Nat):Option (Addr×Obj):=match p.1.data with
 | .freed=>none
 | _=>some (p.2,p.1)
noncomputable def vj(h:Heap):Frag:=h.objs.toList.zipIdx.filterMap BX
theorem x4(h:Heap):(vj h).In h:=by
 intro a o e
 obtain⟨l₁,l₂,hl,_⟩:=List.lookup_eq_some_iff.mp e
 have hm:(a,o)∈vj h:=by rw[hl];simp
 obtain⟨⟨ob,i⟩,h1,h2⟩:=List.mem_filterMap.mp hm
 have h3:h.objs[i]? =some ob:=by
  have:=List.mem_zipIdx_iff_getElem?.mp h1
  simpa using this
 unfold BX at h2
 unfold Heap.get?
 split at h2
 ·cases h2
 ·rename_i hd
  cases h2
  rw[h3]
  split
  ·rename_i q;cases q;exact absurd rfl hd
  ·rfl
noncomputable def hook:Hook:=⟨Option (List Fn),λs=>D0 (vj s.heap),λ_=>some defs,λ_ h=>∃K:Frag,K.In h∧D0 K=some defs,λw s e=>⟨_,x4 _,e⟩,λw h h' ⟨K,x,e⟩ k=>⟨K,λa o q=>k _ _ (x a o q),e⟩⟩
noncomputable def kF:List Str:=(theP.main.scope.names.map (·.1)).filter λn=> !(n== "law")
noncomputable def Xt0(s:Shared):Bool:=xlAt qv [] s&&recOk (RowW.records theLaw.row.toRowW) s
theorem Cq:∀(w:World) (os:OsState),(segGoT treeTable theP w 11 (some (.ref 6)) 1000 2741 (s0T w.params os) (topStub theP)).map (λx =>
   (through x.2&&staticsOk (importedModules theP.main.body) (boot_heap w.params) x.1.abs.heap&&namesBound theP x.1.abs.heap&&gensDone x.1.abs&&laidKept (boot_heap w.params) x.1.abs.heap,openSeen qv kF (importedModules theP.main.body) Xt0 true x.1.abs,Hook.obs hook x.1.abs))=some (true,openGood qv kF,Hook.val hook w):=by
 rw[Fast.te10295753902157049106]
 intro w os
 kernel_rfl
theorem left:LeftO theLaw.row.toRowW.prog qv kF Xt0 (Hook.obs hook) (Hook.val hook) 2800 :=
 rk (M:=2741) (by kernel_rfl) rfl rfl (λs=>by kernel_rfl) (λP=>by kernel_rfl) Cq
theorem AT(call:WalkO qv kF (XL qv []) (Hook.says hook) theLaw.row.toRowW kG.1 kG.2 λf vs=>PySem.call f vs):PySem.Challenge.rw_np0278_01.Holds :=
 holds_law said λ_=>holds_open (q:=qv) (loose:=kF) (Xt:=Xt0) (XP:=XL qv []) (Yf:=Hook.obs hook) (Ya:=Hook.val hook) (YP:=Hook.says hook) (N:=2800) left (Hook.of hook) (Hook.keeps hook) (λs e=>xl_of s (ar.mp e).1) XL.keeps hdef hp hkw (λs e=>recFacts_of (ar.mp e).2) (by rfl) wh hok hbare hwit call
theorem Gi{K:Frag}(h:D0 K=some defs):∃b,g9 K (toS "law")=some b:=bE h λu hu h=>bE h λu' hu' h=>gE h λhc km=>xO (qS (toS "law",tD) (by decide +kernel)) λr hr e=>by
 obtain⟨fn,hfn,hrow⟩:=wA km hr
 obtain⟨b,nm,sl⟩:=r
 cases(show false=b from congrArg Prod.fst e)
 cases(show toS "law" =nm from congrArg Prod.snd e)
 exact bE hrow λa ha _=>⟨a,ha⟩
theorem Do{P:Params}{h:Heap}{vs:List Value}{xs:List WData}(w:WellAll P h vs xs)(hi:WShape.hasItems [] xs .int=true):∃l,IntsAre vs l∧l.length=xs.length:=by
 induction xs generalizing vs with
 | nil=>cases w;exact⟨[],.nil,rfl⟩
 | cons x xs ih =>
  have hx:=hasItemsW_at hi
  obtain⟨i,rfl⟩:=hasW_int (hx x (.head _))
  cases w with
  | cons w1 w2 =>
   cases w1 with
   | int i t =>
    obtain⟨l,h1,h2⟩:=ih w2 (by simpa [WShape.hasItems] using hi:_∧_).2
    exact⟨i::l,.cons _ _ h1,congrArg Nat.succ h2⟩
theorem D7(L:kh):WalkO qv kF (XL qv []) (Hook.says hook) theLaw.row.toRowW kG.1 kG.2 λf vs=>PySem.call f vs:=by
 intro w s₀ s₁ mg mb G Y a o pm cd doc dV kV ho hd hc hdf hmg hgens args vals as hpre hlay hR hW hlow
 obtain⟨K,X,hok⟩:=Y
 have R:Run ⟨theP,w,K,s₁.heap,mg,mb⟩:=⟨X,G.T.nolimit,G.T.g,G.T.b,G.T.builtins,hok⟩
 have C:=Cp L R
 obtain⟨b,hb⟩:=Gi hok
 have hab:b=a:=by
  have h1:=mg_of X G.T.g (iB hb)
  have h2:mg (toS "law")=some (.ref a):=hmg
  exact Value.ref.inj (Option.some.inj (h1.symm.trans h2))
 obtain⟨p1,p2⟩:=pre_splitW hpre
 obtain⟨d,r,rfl,hd1,hr⟩:=hasAllW_cons p1
 cases hasAllW_nil hr
 obtain⟨xs,rfl,hi⟩:=hasW_list hd1
 have hl:xs.length≤63:=by
  refine Nat.le_of_not_lt λh=> ?_
  have h':(63:Int)<(xs.length:Int):=aP.mpr h
  have p2:(WTm.and (.not (.lt (.lit (.int 63)) (.len (.arg 0)))) (.lit (.bool true))).holds [] {args:=[.list xs]}=true:=p2
  have e:less? (WData.int 63) (WData.int (xs.length:Int))=some true:=by
   show some (decide _)=_
   rw[bB h']
  simp [WTm.holds,WTm.value,e] at p2
 cases hW with
 | cons hW1 hW2 =>
  cases hW2
  cases hW1 with
  | @list c vs _ hobj hall =>
   obtain⟨l,hI,hlen⟩:=Do hall hi
   have k:=C callerA s₁ c a vs.toArray 0 l rfl hgens rfl (by decide) (by decide) (hab▸hb) hobj hI (ae (aZ hlen) hl)
   refine wpAny_mono k (λv s' z=> ?_) λ_ _ z=>z.elim
   obtain⟨rfl,z1,z2,z3⟩:=z
   refine GoodW.toG ⟨.inl ⟨_,.bool true,[],rfl,λcls=>rfl,.bool true,?_,λ_=>⟨.nil,nofun⟩⟩,z1,z3,z2.trans hgens⟩
   show(WShape.has [] (.bool true) .bool&&WTm.holds [] (.eq .res (.lit (.bool true))) {args:=[.list xs],res:=some (.bool true),after:=[.list xs]})=true
   have e:same (WData.bool true) (WData.bool true)=true:=by first|rfl|decide +kernel|simp [same]
   simp [WTm.holds,WTm.value,WShape.has,WShape.arms,e]
theorem holds_law_of(L:kh):PySem.Challenge.rw_np0278_01.Holds:=AT (D7 L)
end Mine.Internal
theorem PySem.Challenge.cw_np0278_01_holds : PySem.Challenge.rw_np0278_01.Holds :=
 Mine.Internal.holds_law_of Mine.Internal.lawFact
