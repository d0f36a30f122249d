/- The compact operations and what each does to an abstract state: definitions of an own program logic; nothing is claimed here. Conditions: none. -/
import Derived.Test.YtpabbbmfcgnhdaaGreatB
set_option linter.unusedVariables false
namespace Go.AW
inductive Opd where
 |t (n:Nat)
 |c (v:V)
inductive IOp where
 |mov (d:Nat) (x:Opd)
 |pick (d:Nat) (c a b:Opd)
 |var (d:Nat) (zs:List C)
 |box (d:Nat) (x:Opd)
 |build (d:Nat) (zs:List C) (ps:List (Nat×Nat×Opd))
 |bslice (d sz:Nat) (zs:List C) (ps:List (Nat×Nat×Opd))
 |load (d:Nat) (ag:Option Nat) (x:Opd)
 |store (n:Nat) (zs:List D) (x v:Opd)
 |bin (d:Nat) (op:BinOp) (x y:Opd)
 |beq (d:Nat) (neg:Bool) (x y:Opd)
 |inv (d:Nat) (x:Opd)
 |conv (d:Nat) (k:IntKind) (x:Opd)
 |mkfn (d:Nat) (f:FuncId) (caps:List Opd)
 |mksl (d sz bytes:Nat) (zs:List D) (l c:Opd)
 |slice (d sz:Nat) (x:Opd) (lo hi mx:Option Opd)
 |faddr (d off:Nat) (x:Opd)
 |field (d off:Nat) (ag:Option Nat) (x:Opd)
 |iaddr (d sz:Nat) (x i:Opd)
 |ext (d:Nat) (x:Opd) (i:Nat)
 |len (d:Nat) (st:Bool) (x:Opd)
 |app (d sz bytes:Nat) (zs:List D) (x y:Opd)
 |isnil (d:Nat) (neg:Bool) (x:Opd)
 |seql (d:Nat) (neg:Bool) (n:Nat) (x y:Opd)
 |nilchk (d:Nat) (x:Opd)
 |sidx (d:Nat) (x i:Opd)
 |dead (d:Option Nat)
 |mm (d:Nat) (mx:Bool) (x y:Opd)
 |cap (d:Nat) (x:Opd)
 |copy (d sz:Nat) (x y:Opd)
 |apm (d sz bytes:Nat) (zs:List D) (x k:Opd)
 |clear (sz:Nat) (zs:List D) (x:Opd)
 |cpl (d:Nat) (x:Opd)
 |s2b (d:Nat) (x:Opd)
 |b2s (d:Nat) (x:Opd)
 |callv (d:Nat) (f:Opd) (args:List Opd)
structure Out where
 er:List Nat
 sl:Option (Nat×V)
 hp:bh
def St.set(s:St)(d:Nat)(v:V):St:={sl:=fun t=>if t=d then v else s.sl t,hp:=s.hp,gh:=s.gh}
def St.blk(s:St)(n:Nat)(b:Blk):St:={sl:=s.sl,hp:=fun k=>if k=n then some b else s.hp k,gh:=s.gh}
def St.blks(s:St):bh→St
 |[]=>s
 |(n,b)::r=>(s.blk n b).blks r
def St.erOpt(s:St):List Nat→St
 |[]=>s
 |ns=>s.er ns
def St.setOpt(s:St):Option (Nat×V)→St
 |none=>s
 |some (d,v)=>s.set d v
def St.app(s:St)(o:Out):St:=((s.erOpt o.er).blks o.hp).setOpt o.sl
def St.ev(s:St):Opd→V
 | .t n=>s.sl n
 | .c v=>v
def Qb{α:Type}(x:Option α)(K:α→Prop):Prop:=match x with
 |some a=>K a
 |none=>False
theorem qB{α:Type}{x:Option α}{K:α→Prop}:Qb x K↔∃a,x=some a∧K a:=by
 cases x<;>simp[Qb]
def V.cells:V→Option (List C)
 | .one c=>some [c]
 | .agg cs=>some cs
 |_=>none
def kH(ag:Bool)(cs:List C):Option V:=
 if ag then some (.agg cs) else match cs with
 |[c]=>some (.one c)
 |_=>none
def D.flat:D→Bool
 | .int _ _| .bool _| .str _| .pin _=>true
 |_=>false
def ldC(own:Bool)(n:Nat)(x:D):C:=if x.flat||!own then .d x else .sub n x
def St.rd(s:St)(n:Nat):V→Option (List C)
 | .one (.ptr<|.bd cs j)=>if j+n≤cs.length then some (((cs.drop j).take n).map C.d) else none
 | .one (.sub k<|.ptr cs)=>if n≤cs.length then some ((cs.take n).map<|ldC true k) else none
 | .one (.ptr<|.nm k i j)=>match s.hp k with
   |some (.vars sz cs)=>if i * sz+j+n≤cs.length then some ((cs.drop (i * sz+j)).take n) else none
   |some (.data _ xs own _)=>xs[i]?.bind fun e=>if j+n≤e.length then some (((e.drop j).take n).map<|ldC own k) else none
   |some (.own _)=>none
   |none=>none
 |_=>none
def zSz:D→Nat
 | .sl sz _=>sz
 |_=>0
def zhc(own:Bool)(z:D):C→Option D
 | .d x=>if x.flat||!own then some x else none
 | .zs=>some (.sl (zSz z) [])
 |_=>none
def xQ(own:Bool):List D→List C→Option (List D)
 |_,[]=>some []
 |zs,c::cs=>(zhc own (zs.headD<|.bool false) c).bind fun d=>(xQ own zs.tail cs).map fun ds=>d::ds
def splice{α:Type}(l:List α)(i:Nat)(ys:List α):List α:=l.take i++ys++l.drop (i+ys.length)
def St.wr(s:St)(zs:List D)(cs:List C):V→Option (Nat×Blk)
 | .one (.ptr<|.nm k i j)=>match s.hp k with
   |some (.vars sz ds)=>if i * sz+j+cs.length≤ds.length then some (k,.vars sz<|splice ds (i * sz+j) cs) else none
   |some (.data sz xs own cp)=>xs[i]?.bind fun e=>if j+cs.length≤e.length then
     (xQ own zs cs).map fun ds=>(k,.data sz (xs.set i<|splice e j ds) own cp) else none
   |some (.own _)=>none
   |none=>none
 |_=>none
def za8:List C→List (Nat×Nat×V)→Option (List C)
 |cs,[]=>some cs
 |cs,(off,n,v)::r=>v.cells.bind fun ds=>if ds.length=n∧off+n≤cs.length then za8 (splice cs off ds) r else none
def inR(k:IntKind)(n:Int):Prop:=k.wrap n=n
instance (k:IntKind)(n:Int):Decidable (inR k n):=inferInstanceAs (Decidable (k.wrap n=n))
def zey(op:BinOp)(k:IntKind)(x y:Int):Option V:=match op with
 | .shl=>if y < 0 then none else some (.one<|.d<|.int k<|k.wrap (x * 2 ^ (min y.toNat k.bits)))
 | .shr=>if y < 0 then none else some (.one<|.d<|.int k<|x.fdiv<|2 ^ (min y.toNat k.bits))
 |_=>none
def evI(op:BinOp)(k:IntKind)(x y:Int):Option V:=match op with
 | .add=>some (.one<|.d<|.int k<|k.wrap (x+y))
 | .sub=>some (.one<|.d<|.int k<|k.wrap (x - y))
 | .mul=>some (.one<|.d<|.int k<|k.wrap (x * y))
 | .quo=>if y=0 then none else some (.one<|.d<|.int k<|k.wrap<|x.tdiv y)
 | .rem=>if y=0 then none else some (.one<|.d<|.int k<|x.tmod y)
 | .and=>some (.one<|.d<|.int k<|k.wrap (BitVec.ofInt k.bits x&&& BitVec.ofInt k.bits y).toNat)
 | .or=>some (.one<|.d<|.int k<|k.wrap (BitVec.ofInt k.bits x|||BitVec.ofInt k.bits y).toNat)
 | .xor=>some (.one<|.d<|.int k<|k.wrap (BitVec.ofInt k.bits x ^^^ BitVec.ofInt k.bits y).toNat)
 | .eql=>some (.one<|.d<|.bool<|decide (x=y))
 | .neq=>some (.one<|.d<|.bool<|decide (¬x=y))
 | .lss=>some (.one<|.d<|.bool<|decide (x < y))
 | .leq=>some (.one<|.d<|.bool<|decide (x≤y))
 | .gtr=>some (.one<|.d<|.bool<|decide (y < x))
 | .geq=>some (.one<|.d<|.bool<|decide (y≤x))
 |op=>zey op k x y
def evS(op:BinOp)(x y:ByteArray):Option V:=match op with
 | .eql=>some (.one<|.d<|.bool (x.toList == y.toList))
 | .neq=>some (.one<|.d<|.bool (!(x.toList == y.toList)))
 |_=>none
def Jl(op:BinOp):V→V→Option V
 | .one (.d<|.int k x),.one (.d<|.int k' y)=>if k=k' then evI op k x y else zey op k x y
 | .one (.d<|.str x),.one (.d<|.str y)=>evS op x y
 |_,_=>none
def St.lenOf(_s:St)(st:Bool):V→Option Int
 | .one (.d<|.sl _ xs)=>if st then none else some xs.length
 | .one (.d<|.both _<|.sl _ xs)=>if st then none else some xs.length
 | .one (.sub _<|.sl _ xs)=>if st then none else some xs.length
 | .one (.sub _<|.both _<|.sl _ xs)=>if st then none else some xs.length
 | .one .zs=>if st then none else some 0
 | .one (.sl _ _ len)=>if st then none else some len
 | .one (.d<|.str b)=>if st then some b.size else none
 |_=>none
def St.blkSz(s:St)(n:Nat):Option Nat:=match s.hp n with
 |some (.data sz _ _ _)=>some sz
 |some (.vars sz _)=>some sz
 |some (.own ds)=>some ds.length
 |none=>none
def St.at(s:St)(sz:Nat):V→V→Option V
 | .one (.d<|.sl z xs),.one (.d<|.int _ i)=>if z=sz∧0≤i then xs[i.toNat]?.map fun e=> .one (.ptr<|.bd e 0) else none
 | .one (.d<|.both _<|.sl z xs),.one (.d<|.int _ i)=>if z=sz∧0≤i then xs[i.toNat]?.map fun e=> .one (.ptr<|.bd e 0) else none
 | .one (.sub n<|.sl z xs),.one (.d<|.int _ i)=>if z=sz∧0≤i then xs[i.toNat]?.map fun e=> .one (.sub n<|.ptr e) else none
 | .one (.sub n<|.both _<|.sl z xs),.one (.d<|.int _ i)=>if z=sz∧0≤i then xs[i.toNat]?.map fun e=> .one (.sub n<|.ptr e) else none
 | .one (.sl n off len),.one (.d<|.int _ i)=>if s.blkSz n=some sz∧0≤i∧i < len then some (.one<|.ptr<|.nm n (off+i.toNat) 0) else none
 |_,_=>none
def V.nat:V→Option Nat
 | .one (.d<|.int _ z)=>if 0≤z then some z.toNat else none
 |_=>none
def Opd.zero(s:St)(m h l:Opd):Option V:=
 (s.ev m).nat.bind fun m=>(s.ev h).nat.bind fun h=>(s.ev l).nat.bind fun l=>if l=0∧h=0∧m=0 then some (.one .zs) else none
def optNat(s:St)(dflt:Nat):Option Opd→Option Nat
 |none=>some dflt
 |some x=>(s.ev x).nat
def St.room(s:St)(n:Nat):Nat:=match s.hp n with
 |some (.data _ _ _ cp)=>cp.getD 0
 |_=>0
def St.cut(s:St)(sz:Nat)(x:V)(lo hi mx:Option Opd):Option V:=
 match mx,x with
 |none,.one (.d<|.sl z xs)=>(optNat s xs.length hi).bind fun h=>(optNat s 0 lo).bind fun l=>if z=sz∧l≤h∧h≤xs.length then some (.one<|.d<|.sl z<|(xs.drop l).take (h - l)) else none
 |none,.one (.sl n off len)=>(optNat s len hi).bind fun h=>(optNat s 0 lo).bind fun l=>if s.blkSz n=some sz∧l≤h∧(h≤len∨off+h≤s.room n) then some (.one<|.sl n (off+l) (h - l)) else none
 |none,.one .zs=>(optNat s 0 hi).bind fun h=>(optNat s 0 lo).bind fun l=>if l=0∧h=0 then some (.one .zs) else none
 |some m,.one (.d<|.sl _ _)=>m.zero s (hi.getD<|.t 0) (lo.getD<|.c<|.one<|.d<|.int .i64 0)
 |some m,.one (.sl _ _ len)=>(m.zero s (hi.getD<|.t 0)<|lo.getD<|.c<|.one<|.d<|.int .i64 0).or ((s.ev m).nat.bind fun mm=>(optNat s len hi).bind fun h=>(optNat s 0 lo).bind fun l=>if l≤h∧h≤mm∧mm≤len then some .top else none)
 |some m,.one .zs=>m.zero s (hi.getD<|.t 0) (lo.getD<|.c<|.one<|.d<|.int .i64 0)
 |_,_=>none
def St.elems(s:St)(sz:Nat)(zs:List D)(own:Bool):V→Option (List<|List D)
 | .one .zs=>some []
 | .one (.sl n off len)=>match s.hp n with
   |some (.vars z cs)=>if z=sz∧off=0∧cs.length=sz * len∧len=1 then(xQ own zs cs).map fun ds=>[ds] else none
   |some (.data z xs o _)=>if z=sz∧off+len≤xs.length∧(xs.all fun e=>e.all D.flat) then some ((xs.drop off).take len) else(if z=sz∧off+len≤xs.length∧o=false∧own=false then some ((xs.drop off).take len) else none)
   |some (.own _)=>none
   |none=>none
 | .one (.d<|.sl z xs)=>if z=sz∧(!own||xs.all fun e=>e.all D.flat) then some xs else(if xs=[] then some [] else none)
 |_=>none
def V.upTo(k:Nat):V→V
 | .one (.sl n off len)=> .one (.sl n off<|min len k)
 |v=>v
def big:Nat:=2147483648
def xc:List C→List C→Option Bool
 |[],[]=>some true
 | .d (.int k a)::cs,.d (.int k' b)::ds=>if k=k' then(xc cs ds).map fun r=>decide (a=b)&&r else none
 |_,_=>none
def Zn(b:ByteArray):List Int:=b.data.toList.map fun c=>((c.toNat:Nat):Int)
def KT(ns:List Int):ByteArray:=ns.foldl (fun r n=>r.push (UInt8.ofNat n.toNat)) ByteArray.empty
def zgp:List D→Option Int
 |[.int .u8 n]=>some n
 |_=>none
def zhP(k:IntKind)(z:Int):Int:=k.wrap (BitVec.ofInt k.bits (if k.signed then -1 else k.max) ^^^ BitVec.ofInt k.bits z).toNat
def ev(s:St):IOp→Option Out
 | .mov d x=>some ⟨[],some (d,s.ev x),[]⟩
 | .pick d c a b=>match s.ev c with
   | .one (.d<|.bool t)=>some ⟨[],some (d,if t then s.ev a else s.ev b),[]⟩
   |_=>none
 | .var d zs=>match s.hp (d * 64) with
   |none=>some ⟨[],some (d,.one<|.ptr<|.nm (d * 64) 0 0),[(d * 64,.vars zs.length zs)]⟩
   |some _=>none
 | .box d x=>match s.hp (d * 64) with
   |none=>(s.ev x).cells.map fun cs=>⟨[],some (d,.one<|.ptr<|.nm (d * 64) 0 0),[(d * 64,.vars cs.length cs)]⟩
   |some _=>none
 | .build d zs ps=>(za8 zs (ps.map fun p=>(p.1,p.2.1,s.ev p.2.2))).map fun cs=>⟨[],some (d,.agg cs),[]⟩
 | .bslice d sz zs ps=>match s.hp (d * 64) with
   |none=>(za8 zs (ps.map fun p=>(p.1,p.2.1,s.ev p.2.2))).map fun cs=>if cs=[] then⟨[],some (d,.one .zs),[]⟩ else
     ⟨[],some (d,.one<|.sl (d * 64) 0 (cs.length / sz)),[(d * 64,.vars sz cs)]⟩
   |some _=>none
 | .load d ag x=>match ag with
   |some n=>(s.rd n<|s.ev x).map fun cs=>⟨[],some (d,.agg cs),[]⟩
   |none=>(s.rd 1<|s.ev x).bind fun cs=>(kH false cs).map fun v=>⟨[],some (d,v),[]⟩
 | .store n zs x v=>(s.ev v).cells.bind fun cs=>if cs.length=n then(s.wr zs cs<|s.ev x).map fun p=>⟨[],none,[p]⟩ else none
 | .bin d op x y=>(Jl op (s.ev x)<|s.ev y).map fun v=>⟨[],some (d,v),[]⟩
 | .beq d neg x y=>match s.ev x,s.ev y with
   | .one (.d<|.bool a),.one (.d<|.bool b)=>some ⟨[],some (d,.one<|.d<|.bool (if neg then a != b else a == b)),[]⟩
   |_,_=>none
 | .inv d x=>match s.ev x with
   | .one (.d<|.bool a)=>some ⟨[],some (d,.one<|.d (.bool !a)),[]⟩
   |_=>none
 | .conv d k x=>match s.ev x with
   | .one (.d<|.int _ z)=>some ⟨[],some (d,.one<|.d<|.int k<|k.wrap z),[]⟩
   |_=>none
 | .mkfn d f caps=>(caps.mapM fun x=>match s.ev x with| .one (.ptr p)=>some p|_=>none).map fun ps=>⟨[],some (d,.one<|.fn f ps),[]⟩
 | .mksl d sz bytes zs l c=>match s.hp (d * 64) with
   |none=>(s.ev l).nat.bind fun n=>(s.ev c).nat.bind fun k=>if k=n∧n≤big∧bytes≤65536 then
     some ⟨[],some (d,.one<|.sl (d * 64) 0 n),[(d * 64,.data sz (List.replicate n zs) (zs.all D.flat) none)]⟩ else none
   |some _=>none
 | .slice d sz x lo hi mx=>(s.cut sz (s.ev x) lo hi mx).map fun v=>⟨[],some (d,v),[]⟩
 | .faddr d off x=>match s.ev x with
   | .one (.ptr<|.nm n i j)=>some ⟨[],some (d,.one<|.ptr<|.nm n i (j+off)),[]⟩
   | .one (.ptr<|.bd cs j)=>some ⟨[],some (d,.one<|.ptr<|.bd cs (j+off)),[]⟩
   | .one (.sub n<|.ptr cs)=>if off≤cs.length then some ⟨[],some (d,.one<|.sub n<|.ptr<|cs.drop off),[]⟩ else none
   |_=>none
 | .field d off ag x=>match s.ev x with
   | .agg cs=>match ag with
     |some n=>if off+n≤cs.length then some ⟨[],some (d,.agg<|(cs.drop off).take n),[]⟩ else none
     |none=>cs[off]?.map fun c=>⟨[],some (d,.one c),[]⟩
   |_=>none
 | .iaddr d sz x i=>(s.at sz (s.ev x)<|s.ev i).map fun v=>⟨[],some (d,v),[]⟩
 | .ext d x i=>match s.ev x with
   | .tup vs=>vs[i]?.map fun v=>⟨[],some (d,v),[]⟩
   |_=>none
 | .len d st x=>(s.lenOf st<|s.ev x).map fun n=>⟨[],some (d,.one<|.d<|.int .i64 n),[]⟩
 | .app d sz bytes zs x y=>match s.ev x with
   | .one .zs=>match s.hp (d * 64) with
     |none=>(s.elems sz zs (zs.all D.flat)<|s.ev y).bind fun ys=>if ys.length≤big∧bytes≤65536 then
       some ⟨[],some (d,.one<|.sl (d * 64) 0 ys.length),[(d * 64,.data sz ys (zs.all D.flat) none)]⟩ else none
     |some _=>none
   | .one (.sl n 0 len)=>match s.hp n with
     |some (.data z xs own cp)=>(s.elems sz zs own<|s.ev y).bind fun ys=>if z=sz∧len=xs.length∧xs.length+ys.length≤big∧bytes≤65536∧n < 1000000 then
       some ⟨[n],some (d,.one<|.sl n 0 (xs.length+ys.length)),[(n,.data sz (xs++ys) own none)]⟩ else
       if z=sz∧len+ys.length≤xs.length∧xs.length≤cp.getD 0 then some ⟨[],some (d,.one<|.sl n 0 (len+ys.length)),[(n,.data z (xs.take len++ys++xs.drop (len+ys.length)) own cp)]⟩ else none
     |_=>none
   |_=>none
 | .sidx d x i=>match s.ev x,s.ev i with
   | .one (.d<|.str b),.one (.d<|.int _ z)=>(if 0≤z then b[z.toNat]? else none).map fun c=>⟨[],some (d,.one<|.d<|.int .u8 c.toNat),[]⟩
   |_,_=>none
 | .dead _=>none
 | .nilchk d x=>match s.ev x with
   | .one (.ptr p)=>some ⟨[],some (d,.one<|.ptr p),[]⟩
   |_=>none
 | .mm d mx x y=>match s.ev x,s.ev y with
   | .one (.d<|.int k a),.one (.d<|.int _ b)=>some ⟨[],some (d,.one<|.d<|.int k (if mx then(if b > a then b else a) else(if b < a then b else a))),[]⟩
   |_,_=>none
 | .isnil d neg x=>match s.ev x with
   | .one .zs=>some ⟨[],some (d,.one .anyb),[]⟩
   | .one (.sl _ _ len)=>some ⟨[],some (d,if len=0 then .one .anyb else .one (.d<|.bool neg)),[]⟩
   | .one (.d<|.sl _ xs)=>some ⟨[],some (d,if xs=[] then .one .anyb else .one (.d<|.bool neg)),[]⟩
   |_=>none
 | .seql d neg n x y=>match s.ev x,s.ev y with
   | .agg cs,.agg ds=>if cs.length=n∧ds.length=n then(xc cs ds).map fun b=>⟨[],some (d,.one<|.d<|.bool (if neg then !b else b)),[]⟩ else none
   |_,_=>none
 | .clear sz zs x=>match s.ev x with
   | .one (.sl n off len)=>match s.hp n with
     |some (.data z xs own cp)=>if z=sz∧off+len≤xs.length∧zs.length=sz then some ⟨[],none,[(n,.data z (xs.take off++List.replicate len zs++xs.drop (off+len)) own cp)]⟩ else none
     |_=>none
   |_=>none
 | .cap d x=>match s.ev x with
   | .one (.sl n off _)=>match s.hp n with
     |some (.data _ _ _<|some c)=>some ⟨[],some (d,.one<|.d<|.int .i64 ((c - off:Nat):Int)),[]⟩
     |_=>none
   |_=>none
 | .copy d sz x y=>match s.ev x with
   | .one (.sl n off len)=>match s.hp n with
     |some (.data z xs own cp)=>(s.elems sz [] own<|(s.ev y).upTo len).bind fun ys=>if z=sz∧off≤xs.length then
       some ⟨[],some (d,.one<|.d<|.int .i64 ((min ys.length len:Nat):Int)),[(n,.data z (xs.take off++ys.take len++xs.drop (off+min ys.length len)) own cp)]⟩ else none
     |_=>none
   |_=>none
 | .apm d sz bytes zs x k=>match s.ev x with
   | .one (.sl n 0 len)=>match s.hp n,s.hp (d * 64) with
     |some (.data z xs _<|some c),none=>(s.ev k).nat.bind fun q=>if z=sz∧0 < q∧len≤xs.length∧c < len+q∧len+q≤big∧bytes≤65536∧(xs.all fun e=>e.all D.flat)=true then
       some ⟨[],some (d,.one<|.sl (d * 64) 0 (len+q)),[(d * 64,.data sz (xs.take len++List.replicate q zs) true none)]⟩ else none
     |_,_=>none
   |_=>none
 | .cpl d x=>match s.ev x with
   | .one (.d<|.int k z)=>some ⟨[],some (d,.one<|.d<|.int k<|zhP k z),[]⟩
   |_=>none
 | .s2b d x=>match s.ev x with
   | .one (.d<|.str b)=>some ⟨[],some (d,.one<|.d<|.sl 1 ((Zn b).map fun n=>[.int .u8 n])),[]⟩
   |_=>none
 | .b2s d x=>match s.ev x with
   | .one (.d<|.sl 1 xs)=>(xs.mapM zgp).map fun ns=>⟨[],some (d,.one<|.d<|.str<|KT ns),[]⟩
   |_=>none
 | .callv _ _ _=>none
end Go.AW
