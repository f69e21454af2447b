/-
  Parts of the proof: the abstract machine, the compiled code, contracts of the functions, plain laws (spelled short by a program).
-/
import Derived.WalkKit
import Derived.RangeFuncLeaves
import Derived.RangeFuncSeq
import Derived.OrdersIn
import Derived.Great.BuildSlice
import Derived.Laws.CopyRow
import Derived.Maps.Own
import Derived.DeepKeys4
set_option maxRecDepth 100000
set_option maxHeartbeats 4000000
set_option linter.unusedVariables false
set_option linter.unusedSimpArgs false
namespace Go.Am
section
inductive V where
 | int (k:IntKind) (n:Int)
 | bool (b:Bool)
 | str (s:ByteArray)
 | nils
 | nilp
 | nilf
 | slice (r sz:Nat) (xs:List V)
 | ptr (b off:Nat)
 | vptr (cs:List V) (off:Nat)
 | func (fn:Fn) (first cap:List V)
 | agg (cs:List V)
 | tuple (vs:List V)
 | cond (b:Bool) (v:V)
 | yld
 | nilm
 | tok (k:Nat)
 | mp (f:Int→Int→Option Int)
 | bsl (b off sz n:Nat)
 | sref (blk off len cap:Nat)
 | link (b blk:Nat)
 | rptr (blk off:Nat)
 | rmap (blk:Nat)
 | obj (o:Obj)
 | emp
 | nili
 | iface (t:Nat) (v:V)
 | mpd (ks:List (Int×Int)) (vs:List V)
 deriving Inhabited
def cells:V→List V
 | .agg cs=>cs
 | v=>[v]
def Af:V→Bool
 | .agg _ | .tuple _ | .cond ..=>false
 | _=>true
def Cz:V:=.tuple []
structure Box where
 cs:List V
 fz:Bool
inductive Loc where
 | slot (n:Nat)
 | bx (n:Nat)
 | row (n:Nat)
 deriving DecidableEq
inductive Cell where
 | v (v:V)
 | b (b:Box)
 | r (n sz e:Nat)
def FSt:=Loc→Option Cell
def FSt.g (σ:FSt) (t:Nat):Option V:=match σ (.slot t) with | some (.v v)=>some v | _=>none
def FSt.b (σ:FSt) (i:Nat):Option Box:=match σ (.bx i) with | some (.b b)=>some b | _=>none
def FSt.r (σ:FSt) (i:Nat):Option (Nat×Nat×Nat):=match σ (.row i) with | some (.r n s e)=>some (n,s,e) | _=>none
structure St where
 env:List (Nat×V)
 bx:List (Nat×Box)
 rw:List (Nat×Nat×Nat×Nat)
 log:List (List V)
 stp:Bool
def get {α:Type}:List (Nat×α)→Nat→Option α
 | [],_=>none
 | (k,v)::r,i=>bif k.beq i then some v else get r i
def upd {α:Type}:List (Nat×α)→Nat→α→List (Nat×α)
 | [],i,x=>[(i,x)]
 | (k,v)::r,i,x=>bif k.beq i then (k,x)::r else (k,v)::upd r i x
def St.fs (s:St):FSt
 | .slot t=>(get s.env t).map .v
 | .bx i=>(get s.bx i).map .b
 | .row i=>(get s.rw i).map fun p=>.r p.1 p.2.1 p.2.2
inductive X where
 | t (n:Nat)
 | c (v:V)
inductive K where
 | mov
 | pick
 | alloc (z:List V)
 | box
 | nilck
 | build (z:List V) (parts:List (Nat×Nat))
 | mkslice (sz e:Nat)
 | load (n:Nat) (agg:Bool)
 | store (n:Nat)
 | bin (op:BinOp)
 | binb (neg:Bool)
 | eqs (neg:Bool) (ks:List Nat)
 | un (op:UnOp)
 | conv (k:IntKind)
 | mkfunc (fn:Fn) (nf:Nat)
 | faddr (off:Nat)
 | iaddrA (len sz:Nat)
 | iaddrS (sz:Nat)
 | field (off n:Nat) (agg:Bool)
 | idxA (len sz:Nat) (agg:Bool)
 | extract (i:Nat)
 | len (str:Bool)
 | append (sz bytes e:Nat)
 | minmax (max:Bool)
 | call (f:FuncId)
 | callv
 | lookup (ok:Bool)
 | mapup
 | mkmap
 | mkbox (sz bytes:Nat) (z:List V)
 | slx (sz:Nat) (lo hi:Bool)
 | sla (len sz:Nat)
 | raw (tag t u:Nat)
structure Ins where
 d:Option Nat
 k:K
 xs:List X
 g:Option (Nat×Bool)
def evX (σ:FSt):X→Option V
 | .t n=>σ.g n
 | .c v=>some v
structure Eff where
 pre:Prop:=True
 v:V
 wb:List (Nat×Box):=[]
 wr:List (Nat×Nat×Nat×Nat):=[]
 rb:List Nat:=[]
 rr:List Nat:=[]
def mkv (agg:Bool) (n:Nat) (l:List V):V:=bif agg then .agg (l.take n) else match l with | v::_=>v | []=>Cz
def Aq (cs:List V) (off:Nat) (new:List V):List V:=cs.take off++new++cs.drop (off+new.length)
def A79:List V→List (Nat×Nat×V)→Option (List V)
 | cs,[]=>some cs
 | cs,(off,n,v)::r=>if (cells v).length=n∧off+n≤cs.length then A79 (Aq cs off (cells v)) r else none
def zip3:List (Nat×Nat)→List V→Option (List (Nat×Nat×V))
 | [],[]=>some []
 | (a,b)::r,v::vs=>(zip3 r vs).map ((a,b,v)::·)
 | _,_=>none
def Jt (a:Option (V×List Nat)) (b:Option (List V×List Nat)):Option (List V×List Nat) :=
 match a,b with
 | some (y,i),some (ys,is)=>some (y::ys,i++is)
 | _,_=>none
def toD (b:Nat→Option Box):Nat→V→Option (V×List Nat)
 | 0,_=>none
 | n+1,v =>
   let all (l:List V):Option (List V×List Nat):=l.foldr (fun x acc=>Jt (toD b n x) acc) (some ([],[]))
   match v with
   | .int k m=>some (.int k m,[])
   | .bool c=>some (.bool c,[])
   | .str s=>some (.str s,[])
   | .nils=>some (.nils,[])
   | .nilp=>some (.nilp,[])
   | .nilf=>some (.nilf,[])
   | .slice _ sz xs=>some (.slice 0 sz xs,[])
   | .vptr cs off=>some (.vptr cs off,[])
   | .mp f=>some (.mp f,[])
   | .mpd ks vs=>some (.mpd ks vs,[])
   | .sref k o l c=>some (.sref k o l c,[])
   | .rptr k o=>some (.rptr k o,[])
   | .rmap k=>some (.rmap k,[])
   | .nilm=>some (.nilm,[])
   | .nili=>some (.nili,[])
   | .iface t v=>some (.iface t v,[])
   | .ptr i off=>match b i with | some bo=>(all bo.cs).map fun p=>(.vptr p.1 off,i::p.2) | none=>none
   | .func fn first cap=>match all first,all cap with | some (x,i),some (y,j)=>some (.func fn x y,i++j) | _,_=>none
   | .agg cs=>(all cs).map fun p=>(.agg p.1,p.2)
   | _=>none
def toDs (b:Nat→Option Box) (l:List V):Option (List V×List Nat) :=
 l.foldr (fun x acc=>Jt (toD b 6 x) acc) (some ([],[]))
def freeze (b:Nat→Option Box) (is:List Nat):List (Nat×Box) :=
 is.filterMap fun i=>(b i).map fun bo=>(i,{bo with fz:=true})
def Uc (op:BinOp) (k:IntKind) (x y:Int):Int :=
 let a:=BitVec.ofInt k.bits x
 let b:=BitVec.ofInt k.bits y
 match op with
 | .and=>k.wrap (a &&& b).toNat
 | .or=>k.wrap (a ||| b).toNat
 | .xor=>k.wrap (a ^^^ b).toNat
 | _=>k.wrap (a &&& ~~~b).toNat
def A4s (op:BinOp) (k:IntKind) (a b:Int):Option Eff :=
 match op with
 | .add=>some {v:=.int k (k.wrap (a+b))}
 | .sub=>some {v:=.int k (k.wrap (a-b))}
 | .mul=>some {v:=.int k (k.wrap (a*b))}
 | .quo=>some {pre:=b≠0,v:=.int k (k.wrap (a.tdiv b))}
 | .rem=>some {pre:=b≠0,v:=.int k (a.tmod b)}
 | .and=>some {v:=.int k (Uc .and k a b)}
 | .or=>some {v:=.int k (Uc .or k a b)}
 | .xor=>some {v:=.int k (Uc .xor k a b)}
 | .andNot=>some {v:=.int k (Uc .andNot k a b)}
 | .eql=>some {v:=.bool (a==b)}
 | .neq=>some {v:=.bool (a != b)}
 | .lss=>some {v:=.bool (decide (a<b))}
 | .leq=>some {v:=.bool (decide (a≤b))}
 | .gtr=>some {v:=.bool (decide (a>b))}
 | .geq=>some {v:=.bool (decide (a≥b))}
 | _=>none
def Aed (op:BinOp) (k:IntKind) (x y:Int):Option Eff :=
 match op with
 | .shl=>some {pre:=0≤y,v:=.int k (k.wrap (x*2^(min y.toNat k.bits)))}
 | .shr=>some {pre:=0≤y,v:=.int k (x.fdiv (2^(min y.toNat k.bits)))}
 | _=>none
def eqV:Nat→V→V→Option Bool
 | 0,.int k a,.int k' b=>if k=k' then some (a==b) else none
 | 1,.bool a,.bool b=>some (a==b)
 | 2,.str a,.str b=>some (a==b)
 | _,_,_=>none
def eqL:List Nat→List V→List V→Option Bool
 | [],[],[]=>some true
 | k::ks,x::xs,y::ys=>match eqV k x y,eqL ks xs ys with | some a,some b=>some (a&&b) | _,_=>none
 | _,_,_=>none
def Sf (mx:Bool):Int→List V→Option Int
 | a,[]=>some a
 | a,.int k b::r=>match k with
   | .i64=>Sf mx (bif mx then (if b>a then b else a) else (if b<a then b else a)) r
   | _=>none
 | _,_=>none
def lookV (ok:Bool) (m x:V):Option Eff :=
 match m,x with
 | .mp f,.agg [.int .i64 a,.int .i64 b]=>some {pre:=(-9223372036854775808≤a∧a<9223372036854775808)∧-9223372036854775808≤b∧b<9223372036854775808,v:=bif ok then .tuple [.int .i64 ((f a b).getD 0),.bool (f a b).isSome] else .int .i64 ((f a b).getD 0)}
 | _,_=>none
def Jz (lo hi:Bool) (n:Nat) (r:List V):Option (Int×Int) :=
 match lo,hi,r with
 | true,true,[.int _ l,.int _ h]=>some (l,h)
 | true,false,[.int _ l]=>some (l,n)
 | false,true,[.int _ h]=>some (0,h)
 | false,false,[]=>some (0,n)
 | _,_,_=>none
def Bl (k:K) (d:Nat) (vs:List V) (σ:FSt):Option Eff :=
 match k,vs with
 | .mov,[v]=>some {v:=v}
 | .pick,[.bool c,.bool x,.bool y]=>some {v:=.bool (bif c then x else y)}
 | .pick,[.bool c,.cond p (.bool x),.bool y]=>some {pre:=c=true→p=true,v:=.bool (bif c then x else y)}
 | .pick,[.bool c,.bool x,.cond p (.bool y)]=>some {pre:=c=false→p=true,v:=.bool (bif c then x else y)}
 | .alloc z,[]=>match σ.b d with
   | none=>some {v:=.ptr d 0,wb:=[(d,⟨z,false⟩)],rb:=[d]}
   | some _=>none
 | .box,[v]=>match σ.b d with
   | none=>some {pre:=(cells v).all Af=true,v:=.ptr d 0,wb:=[(d,⟨cells v,false⟩)],rb:=[d]}
   | some _=>none
 | .build z parts,vs=>match zip3 parts vs with
   | some ps=>match A79 z ps with
     | some cs=>some {pre:=vs.all (fun v=>(cells v).all Af)=true,v:=.agg cs}
     | none=>none
   | none=>none
 | .nilck,[v]=>match v with
   | .ptr .. | .vptr .. | .func .. | .yld=>some {v:=v}
   | _=>none
 | .mkslice sz e,vs=>match toDs σ.b vs,σ.r d with
   | some (us,[]),none=>some {pre:=0<sz∧us.all (fun u=>(cells u).length.beq sz&&(cells u).all Af)=true∧us.length*sz≤2^24∧0<us.length,v:=.slice (d+1) sz us,wr:=[(d,us.length,sz,e)],rr:=[d]}
   | _,_=>none
 | .load n agg,[.ptr b off]=>match σ.b b with
   | some bo=>some {pre:=off+n≤bo.cs.length,v:=mkv agg n (bo.cs.drop off),rb:=[b]}
   | none=>none
 | .load n agg,[.vptr cs off]=>some {pre:=off+n≤cs.length,v:=mkv agg n (cs.drop off)}
 | .store n,[.ptr b off,v]=>match σ.b b with
   | some ⟨cs,false⟩=>some {pre:=(cells v).length=n∧off+n≤cs.length∧(cells v).all Af=true,v:=Cz,wb:=[(b,⟨Aq cs off (cells v),false⟩)],rb:=[b]}
   | _=>none
 | .bin op,[.int k a,.int k' b]=>match op with
   | .shl | .shr=>Aed op k a b
   | _=>if k=k' then A4s op k a b else none
 | .binb neg,[.bool a,.bool b]=>some {v:=.bool (bif neg then a != b else a==b)}
 | .bin op,[.str a,.str b]=>match op with
   | .eql=>some {v:=.bool (a.toList==b.toList)}
   | .neq=>some {v:=.bool (a.toList != b.toList)}
   | _=>none
 | .eqs neg ks,[.agg xs,.agg ys]=>match eqL ks xs ys with
   | some c=>some {v:=.bool (bif neg then !c else c)}
   | none=>none
 | .un op,[v]=>match op,v with
   | .neg,.int k a=>some {v:=.int k (k.wrap (0-a))}
   | .not,.bool a=>some {v:=.bool (!a)}
   | _,_=>none
 | .conv k,[.int _ a]=>some {v:=.int k (k.wrap a)}
 | .mkfunc fn nf,vs=>some {v:=.func fn (vs.take nf) (vs.drop nf)}
 | .faddr off,[.ptr b o]=>some {v:=.ptr b (o+off)}
 | .faddr off,[.vptr cs o]=>some {v:=.vptr cs (o+off)}
 | .iaddrA len sz,[.ptr b o,.int _ i]=>some {pre:=0≤i∧i<(len:Int),v:=.ptr b (o+i.toNat*sz)}
 | .iaddrA len sz,[.vptr cs o,.int _ i]=>some {pre:=0≤i∧i<(len:Int),v:=.vptr cs (o+i.toNat*sz)}
 | .iaddrS sz,[.slice _ s xs,.int _ i]=>some {pre:=s=sz∧0≤i∧i<(xs.length:Int),v:=.vptr (cells (xs.getD i.toNat Cz)) 0}
 | .field off n agg,[.agg cs]=>some {pre:=off+n≤cs.length∧cs.all Af=true,v:=mkv agg n (cs.drop off)}
 | .idxA len sz agg,[.agg cs,.int _ i]=>some {pre:=0≤i∧i<(len:Int)∧i.toNat*sz+sz≤cs.length∧cs.all Af=true,v:=mkv agg sz (cs.drop (i.toNat*sz))}
 | .extract i,[.tuple vs]=>match vs[i]? with
   | some v=>some {v:=v}
   | none=>none
 | .len false,[.slice _ _ xs]=>some {v:=.int .i64 xs.length}
 | .len false,[.nils]=>some {v:=.int .i64 0}
 | .len true,[.str s]=>some {v:=.int .i64 s.size}
 | .len false,[.bsl _ _ _ n]=>some {v:=.int .i64 n}
 | .iaddrS sz,[.bsl b off s n,.int _ i]=>some {pre:=s=sz∧0≤i∧i<(n:Int),v:=.ptr b (off+i.toNat*sz)}
 | .mkbox sz bytes z,[.int _ n,.int _ m]=>match σ.b d with
   | none=>some {pre:=m=n∧(0≤n∧n*bytes≤2^40∧n≤2^40)∧z.length=sz∧0<sz∧z.all Af=true,v:=.bsl d 0 sz n.toNat,wb:=[(d,⟨(List.replicate n.toNat z).flatten,false⟩)],rb:=[d]}
   | some _=>none
 | .slx sz lo hi,.slice _ s xs::r=>match Jz lo hi xs.length r with
   | some (l,h)=>some {pre:=s=sz∧0≤l∧l≤h∧h≤(xs.length:Int),v:=.slice 0 sz ((xs.drop l.toNat).take (h.toNat-l.toNat))}
   | none=>none
 | .sla len sz,[.ptr b off]=>some {v:=.bsl b off sz len}
 | .sla len sz,[.vptr cs off]=>some {pre:=off=0∧cs.length=len*sz∧sz=1∧0<len∧cs.all Af=true,v:=.slice 0 sz cs}
 | .append sz bytes e,[.nils,t]=>match t,σ.r d with
   | .slice _ s ys,none=>some {pre:=s=sz∧0<sz∧ys.length*bytes≤2^47∧ys.length≤2^47,v:=.slice (d+1) sz ys,wr:=[(d,ys.length,sz,e)],rr:=[d]}
   | _,_=>none
 | .append sz bytes e,[.slice (r+1) s xs,t]=>match t,σ.r r with
   | .slice _ s' ys,some (n,s'',e')=>some {pre:=s=sz∧s'=sz∧s''=sz∧e'=e∧n=xs.length∧0<sz∧(xs.length+ys.length)*bytes≤2^47∧xs.length+ys.length≤2^47,v:=.slice (r+1) sz (xs++ys),wr:=[(r,xs.length+ys.length,sz,e)],rr:=[r]}
   | .nils,some _=>some {v:=.slice (r+1) s xs,rr:=[r]}
   | _,_=>none
 | .lookup ok,[m,x]=>lookV ok m x
 | .minmax mx,.int k a::r=>match k with
   | .i64=>(Sf mx a r).map fun m=>{v:=.int .i64 m}
   | _=>none
 | _,_=>none
def Cg (want:Bool):V→Option Bool
 | .bool b=>some (b==want)
 | .cond p (.bool b)=>some (p&&(b==want))
 | _=>none
def dem1:V→V
 | .slice _ sz xs=>.slice 0 sz xs
 | v=>v
def dem:V→V
 | .agg cs=>.agg (cs.map dem1)
 | v=>dem1 v
def under:V→Bool×V
 | .cond p v=>(p,dem v)
 | v=>(true,v)
end
section
open Go.RowKit
def W3 (w:World) (b:Nat):Option (Array MapEntry×Nat):=match w.heap[b]? with | some (.map es c)=>some (es,c) | _=>none
theorem Bn {w w':World} {b:Nat} (h:w'.heap[b]?=w.heap[b]?):W3 w' b=W3 w b:=by unfold W3;rw [h]
def MapIs (es:Array MapEntry) (f:Int→Int→Option Int):Prop :=
 (∀e∈es.toList,∃a b n,e.key=.agg #[.int .i64 a,.int .i64 b]∧e.val=.int .i64 n∧f a b=some n∧(-9223372036854775808≤a∧a<9223372036854775808)∧-9223372036854775808≤b∧b<9223372036854775808) ∧
   ∀a b n,f a b=some n→∃e∈es.toList,e.key=.agg #[.int .i64 a,.int .i64 b]
def keyV (k:Int×Int):Value:=.agg #[.int .i64 k.1,.int .i64 k.2]
def mesD:Nat→List (Int×Int)→List Value→List MapEntry
 | i,k::ks,x::xs=>{key:=keyV k,val:=x,born:=i}::mesD (i+1) ks xs
 | _,_,_=>[]
inductive RepD (w:World) (φ:Nat→Nat):V→Value→Prop
 | int (k:IntKind) (n:Int):RepD w φ (.int k n) (.int k n)
 | bool (b:Bool):RepD w φ (.bool b) (.bool b)
 | str (s:ByteArray):RepD w φ (.str s) (.string s)
 | nils:RepD w φ .nils (.slice none 0 0)
 | nilp:RepD w φ .nilp (.pointer none)
 | nilf:RepD w φ .nilf .nilFunc
 | nilm:RepD w φ .nilm (.map none)
 | slice0 (sz:Nat) (a:Option Addr) (cap:Nat):RepD w φ (.slice 0 sz []) (.slice a 0 cap)
 | slice (sz:Nat) (xs:List V) (blk off len cap:Nat) (cv:Nat→Value) (h0:0<sz) (hl:len=xs.length) (hc:len≤cap) (hs:∀x∈xs,(cells x).length=sz)
    (hm:∀j v,(xs.flatMap cells)[j]?=some v→off+j<φ blk∧w.cell? ⟨blk,off+j,none⟩=some (cv j)∧Af v=true)
    (hr:∀j v,(xs.flatMap cells)[j]?=some v→RepD w φ v (cv j)):RepD w φ (.slice 0 sz xs) (.slice (some ⟨blk,off,none⟩) len cap)
 | vptr (cs:List V) (off blk o:Nat) (cv:Nat→Value)
    (hm:∀j v,cs[j]?=some v→o+j<φ blk∧w.cell? ⟨blk,o+j,none⟩=some (cv j)∧Af v=true)
    (hr:∀j v,cs[j]?=some v→RepD w φ v (cv j)):RepD w φ (.vptr cs off) (.pointer (some ⟨blk,o+off,none⟩))
 | func (fn:Fn) (first cap:List V) (f' c':Array Value) (hf:first.length=f'.size) (hc:cap.length=c'.size)
    (h1:∀(i:Nat) v x,first[i]?=some v→f'[i]?=some x→RepD w φ v x) (h2:∀(i:Nat) v x,cap[i]?=some v→c'[i]?=some x→RepD w φ v x) :
    RepD w φ (.func fn first cap) (.func fn f' c')
 | agg (cs:List V) (vs:Array Value) (hl:cs.length=vs.size) (h:∀(i:Nat) v x,cs[i]?=some v→vs[i]?=some x→RepD w φ v x):RepD w φ (.agg cs) (.agg vs)
 | mp (f:Int→Int→Option Int) (blk c:Nat) (es:Array MapEntry) (h0:0<φ blk) (hm:W3 w blk=some (es,c)) (hf:MapIs es f):RepD w φ (.mp f) (.map (some blk))
 | sref (blk off len cap:Nat):RepD w φ (.sref blk off len cap) (.slice (some ⟨blk,off,none⟩) len cap)
 | rptr (blk off:Nat):RepD w φ (.rptr blk off) (.pointer (some ⟨blk,off,none⟩))
 | rmap (blk:Nat):RepD w φ (.rmap blk) (.map (some blk))
 | emp (blk:Nat):RepD w φ .emp (.slice (some ⟨blk,0,none⟩) 0 0)
 | nili:RepD w φ .nili .nilIface
 | iface (t:Nat) (v:V) (x:Value) (h:RepD w φ v x):RepD w φ (.iface t v) (.iface t x)
 | mpd (ks:List (Int×Int)) (vs:List V) (xs:List Value) (blk:Nat) (h0:0<φ blk) (hv:vs.length=ks.length) (hx:xs.length=ks.length) (hm:W3 w blk=some ((mesD 0 ks xs).toArray,ks.length))
    (hr:∀(i:Nat) v x,vs[i]?=some v→xs[i]?=some x→RepD w φ v x):RepD w φ (.mpd ks vs) (.map (some blk))
def pair2 (a b:Nat):Nat:=2^a*(2*b+1)
def enc3 (a b c:Nat):Nat:=pair2 a (pair2 b c)
def TokIs (k l:Nat) (x:Value):Prop:=∃a b c,l=enc3 a b c∧((k=0∧x=.map (some a))∨(k=1∧x=.pointer (some ⟨b,0,none⟩))∨(k=2∧x=.pointer (some ⟨c,0,none⟩)))
inductive Rep (w:World) (φ:Nat→Nat) (β:Nat→Option Nat) (y:Option Nat):V→Value→Prop
 | data {v:V} {x:Value} (h:RepD w φ v x):Rep w φ β y v x
 | named (r sz:Nat) (xs:List V) (x:Value) (h:RepD w φ (.slice 0 sz xs) x):Rep w φ β y (.slice (r+1) sz xs) x
 | ptr (b off blk:Nat) (h:β b=some blk):Rep w φ β y (.ptr b off) (.pointer (some ⟨blk,off,none⟩))
 | func (fn:Fn) (first cap:List V) (f' c':Array Value) (hf:first.length=f'.size) (hc:cap.length=c'.size)
    (h1:∀(i:Nat) v x,first[i]?=some v→f'[i]?=some x→Rep w φ β y v x) (h2:∀(i:Nat) v x,cap[i]?=some v→c'[i]?=some x→Rep w φ β y v x) :
    Rep w φ β y (.func fn first cap) (.func fn f' c')
 | agg (cs:List V) (vs:Array Value) (hl:cs.length=vs.size) (h:∀(i:Nat) v x,cs[i]?=some v→vs[i]?=some x→Rep w φ β y v x):Rep w φ β y (.agg cs) (.agg vs)
 | tuple (cs:List V) (vs:Array Value) (hl:cs.length=vs.size) (h:∀(i:Nat) v x,cs[i]?=some v→vs[i]?=some x→RepD w φ v x):Rep w φ β y (.tuple cs) (.tuple vs)
 | cond (b:Bool) (v:V) (x:Value) (h:b=true→Rep w φ β y v x) (h0:b=false→x=undef):Rep w φ β y (.cond b v) x
 | yld (l:Nat) (h:y=some l):Rep w φ β y .yld (.func (.yield l) #[] #[])
 | tok (k l:Nat) (x:Value) (h:y=some l) (hx:TokIs k l x):Rep w φ β y (.tok k) x
 | bsl (b off sz n cap blk:Nat) (h:β b=some blk) (hc:n≤cap):Rep w φ β y (.bsl b off sz n) (.slice (some ⟨blk,off,none⟩) n cap)
 | link (b blk:Nat) (k:IntKind) (m:Int) (h:β b=some blk):Rep w φ β y (.link b blk) (.int k m)
def Ext (w:World) (φ:Nat→Nat) (w':World) (φ':Nat→Nat):Prop :=
 ∀b o,o<φ b→o<φ' b∧w'.cell? ⟨b,o,none⟩=w.cell? ⟨b,o,none⟩∧W3 w' b=W3 w b
theorem Ext.refl (w:World) (φ:Nat→Nat):Ext w φ w φ:=fun _ _ h=>⟨h,rfl,rfl⟩
theorem Ext.trans {w w1 w2:World} {φ φ1 φ2:Nat→Nat} (h:Ext w φ w1 φ1) (k:Ext w1 φ1 w2 φ2):Ext w φ w2 φ2 :=
 fun b o ho=>let ⟨a,c,c'⟩:=h b o ho;let ⟨d,e,e'⟩:=k b o a;⟨d,e.trans c,e'.trans c'⟩
theorem RepD.mono {w w':World} {φ φ':Nat→Nat} {v:V} {x:Value} (h:RepD w φ v x) (e:Ext w φ w' φ'):RepD w' φ' v x:=by
 induction h with
 | int k n=>exact .int k n
 | bool b=>exact .bool b
 | str s=>exact .str s
 | nils=>exact .nils
 | nilp=>exact .nilp
 | nilf=>exact .nilf
 | nilm=>exact .nilm
 | slice0 sz a cap=>exact .slice0 sz a cap
 | slice sz xs blk off len cap cv h0 hl hc hs hm hr ih =>
   exact .slice sz xs blk off len cap cv h0 hl hc hs (fun j v hj=>let ⟨a,b,s⟩:=hm j v hj;let ⟨c,d,_⟩:=e _ _ a;⟨c,d.trans b,s⟩) ih
 | vptr cs off blk o cv hm hr ih =>
   exact .vptr cs off blk o cv (fun j v hj=>let ⟨a,b,s⟩:=hm j v hj;let ⟨c,d,_⟩:=e _ _ a;⟨c,d.trans b,s⟩) ih
 | func fn first cap f' c' hf hc h1 h2 ih1 ih2=>exact .func fn first cap f' c' hf hc ih1 ih2
 | agg cs vs hl h ih=>exact .agg cs vs hl ih
 | mp f blk c es h0 hm hf=>let ⟨a,_,d⟩:=e _ _ h0;exact .mp f blk c es a (d.trans hm) hf
 | sref blk off len cap=>exact .sref blk off len cap
 | rptr blk off=>exact .rptr blk off
 | rmap blk=>exact .rmap blk
 | emp blk=>exact .emp blk
 | nili=>exact .nili
 | iface t v x h ih=>exact .iface t v x ih
 | mpd ks vs xs blk h0 hv hx hm hr ih=>let ⟨a,_,d⟩:=e _ _ h0;exact .mpd ks vs xs blk a hv hx (d.trans hm) ih
theorem Rep.mono {w w':World} {φ φ':Nat→Nat} {β β':Nat→Option Nat} {y:Option Nat} {v:V} {x:Value} (h:Rep w φ β y v x) (e:Ext w φ w' φ')
  (hb:∀i blk,β i=some blk→β' i=some blk):Rep w' φ' β' y v x:=by
 induction h with
 | data h=>exact .data (h.mono e)
 | named r sz xs x h=>exact .named r sz xs x (h.mono e)
 | ptr b off blk h=>exact .ptr b off blk (hb _ _ h)
 | func fn first cap f' c' hf hc h1 h2 ih1 ih2=>exact .func fn first cap f' c' hf hc ih1 ih2
 | agg cs vs hl h ih=>exact .agg cs vs hl ih
 | tuple cs vs hl h=>exact .tuple cs vs hl fun i v x a b=>(h i v x a b).mono e
 | cond b v x h h0 ih=>exact .cond b v x ih h0
 | yld l h=>exact .yld l h
 | tok k l x h hx=>exact .tok k l x h hx
 | bsl b off sz n cap blk h hc=>exact .bsl b off sz n cap blk (hb _ _ h) hc
 | link b blk k m h=>exact .link b blk k m (hb _ _ h)
structure Pin where
 l:Option Nat
 p:Nat→Option Nat
structure Gh where
 φ:Nat→Nat
 β:Nat→Option Nat
 γ:Nat→Option Nat
 M:Nat→Prop
 y:Pin
def Grow (σ:FSt) (h:Gh) (w:World) (v:V) (x:Value):Prop :=
 ∀r sz xs,v=.slice (r+1) sz xs→∃n e,σ.r r=some (n,sz,e)∧xs.length≤n∧(xs.length=n →
  (xs=[]∧x=.slice none 0 0)∨∃blk cap cs,h.γ r=some blk∧x=.slice (some ⟨blk,0,none⟩) xs.length cap∧w.heap[blk]?=some (.cells cs e (0,0))∧cs.size=cap*sz∧xs.length≤cap∧cap≤maxLen)
def RowsOn (σ:FSt) (h:Gh) (w:World) (σ':FSt) (h':Gh) (w':World):Prop :=
 ∀r n sz e,σ.r r=some (n,sz,e)→∃n',σ'.r r=some (n',sz,e)∧n≤n'∧(n'=n→∀blk,h.γ r=some blk→h'.γ r=some blk∧w'.heap[blk]?=w.heap[blk]?)
def GrowV (σ:FSt) (h:Gh) (w:World) (v:V) (x:Value):Prop :=
 ∀(j:Nat) u z,(cells v)[j]?=some u→x.cells[j]?=some z→Grow σ h w u z
def RowOk (h:Gh) (w:World) (r n sz e:Nat):Prop :=
 (h.γ r=none∧n=0)∨∃blk cs,h.γ r=some blk∧h.M blk∧w.heap[blk]?=some (.cells cs e (0,0))∧h.φ blk=n*sz∧n*sz≤cs.size
def BoxOk (σ:FSt) (h:Gh) (w:World) (i:Nat) (bo:Box):Prop :=
 ∃blk cs e,h.β i=some blk∧h.M blk∧w.heap[blk]?=some (.cells cs e (0,0))∧bo.cs.length≤cs.size ∧
  (∀(j:Nat) v x,bo.cs[j]?=some v→cs[j]?=some x→Rep w h.φ h.β h.y.l v x∧Grow σ h w v x∧Af v=true)∧h.φ blk=bif bo.fz then bo.cs.length else 0
structure Moved (M:Nat→Prop) (w:World) (φ:Nat→Nat) (M':Nat→Prop) (w':World) (φ':Nat→Nat):Prop where
 ext:Ext w φ w' φ'
 old:∀b,b<w.heap.size→¬M b→w'.heap[b]?=w.heap[b]?∧φ' b=φ b
 size:w.heap.size≤w'.heap.size
 os:w'.os=w.os
 tape:w'.tape=w.tape
 output:w'.output=w.output
 mine:∀b,M' b→M b∨w.heap.size≤b
 top:∀b,w'.heap.size≤b→φ' b=0
abbrev Sur:=List (List V)→Bool→(Nat→Prop)→World→(Nat→Nat)→Prop
def Fy:List (Nat×List V):=[(0,[.int .i64 (-1),.int .i64 (-1)])]
def Gl (w:World) (φ:Nat→Nat):Prop:=∀p∈Fy,RepD w φ (.vptr p.2 0) (.pointer (some ⟨p.1,0,none⟩))
theorem Gl.mono {w w':World} {φ φ':Nat→Nat} (h:Gl w φ) (e:Ext w φ w' φ'):Gl w' φ':=fun p hp=>(h p hp).mono e
structure Sur.ok (S:Sur):Prop where
 move:∀l s M w φ M' w' φ',S l s M w φ→Moved M w φ M' w' φ'→S l s M' w' φ'
 gl:∀l s M w φ,S l s M w φ→Gl w φ
instance {S:Sur}:CoeFun S.ok (fun _=>∀l s M w φ M' w' φ',S l s M w φ→Moved M w φ M' w' φ'→S l s M' w' φ'):=⟨fun h=>h.move⟩
def Marks (M:Nat→Prop) (w:World):List Deferred→Prop
 | []=>True
 | d::ds=>(∃r,d={target:=.collected r,args:=#[]}∧M r∧w.heap[r]?=some (.deferred (some []))∧∀d'∈ds,d'≠{target:=.collected r,args:=#[]})∧Marks M w ds
structure Rel (nt:Nat) (S:Sur) (log:List (List V)) (stp:Bool) (σ:FSt) (a:Act) (w:World) (h:Gh):Prop where
 size:a.tmps.size=nt
 env:∀t v,σ.g t=some v→t<nt∧Rep w h.φ h.β h.y.l v (a.tmps.getD t undef)∧GrowV σ h w v (a.tmps.getD t undef)
 bx:∀i bo,σ.b i=some bo→BoxOk σ h w i bo
 dom:∀i blk,h.β i=some blk→(σ.b i).isSome=true
 inj:∀i j blk,h.β i=some blk→h.β j=some blk→i=j
 rows:∀r n sz e,σ.r r=some (n,sz,e)→RowOk h w r n sz e
 rdom:∀r blk,h.γ r=some blk→(σ.r r).isSome=true
 rinj:∀r r' blk,h.γ r=some blk→h.γ r'=some blk→r=r'
 apart:∀i r blk,h.β i=some blk→h.γ r≠some blk
 pins:∀i blk,h.y.p i=some blk→h.β i=some blk
 mine:∀b,h.M b→b<w.heap.size
 top:∀b,w.heap.size≤b→h.φ b=0
 marks:Marks h.M w a.defers
 sur:S log stp h.M w h.φ
def Act.ev (a:Act):X→Value→Prop
 | .t n,x=>a.tmps.getD n undef=x
 | .c _,_=>False
def FSt.set (σ:FSt) (l:Loc) (c:Cell):FSt:=fun k=>if k=l then some c else σ k
@[simp] theorem FSt.set_same (σ:FSt) (l:Loc) (c:Cell):(σ.set l c) l=some c:=by simp [FSt.set]
theorem Sw (σ:FSt) {l k:Loc} (c:Cell) (h:k≠l):(σ.set l c) k=σ k:=by simp [FSt.set,h]
@[simp] theorem Ya (σ:FSt) (d t:Nat) (v:V):(σ.set (.slot d) (.v v)).g t=if t=d then some v else σ.g t:=by
 by_cases h:t=d
 ·subst h;simp [FSt.g]
 ·simp [FSt.g,FSt.set,h]
@[simp] theorem Yb (σ:FSt) (d t:Nat) (v:V):(σ.set (.slot d) (.v v)).b t=σ.b t:=by simp [FSt.b,FSt.set]
@[simp] theorem FSt.r_set_slot (σ:FSt) (d t:Nat) (v:V):(σ.set (.slot d) (.v v)).r t=σ.r t:=by simp [FSt.r,FSt.set]
@[simp] theorem FSt.g_set_bx (σ:FSt) (d t:Nat) (b:Box):(σ.set (.bx d) (.b b)).g t=σ.g t:=by simp [FSt.g,FSt.set]
@[simp] theorem E1 (σ:FSt) (d t:Nat) (b:Box):(σ.set (.bx d) (.b b)).b t=if t=d then some b else σ.b t:=by
 by_cases h:t=d
 ·subst h;simp [FSt.b]
 ·simp [FSt.b,FSt.set,h]
@[simp] theorem FSt.r_set_bx (σ:FSt) (d t:Nat) (b:Box):(σ.set (.bx d) (.b b)).r t=σ.r t:=by simp [FSt.r,FSt.set]
@[simp] theorem FSt.g_set_row (σ:FSt) (d t n s e:Nat):(σ.set (.row d) (.r n s e)).g t=σ.g t:=by simp [FSt.g,FSt.set]
@[simp] theorem FSt.b_set_row (σ:FSt) (d t n s e:Nat):(σ.set (.row d) (.r n s e)).b t=σ.b t:=by simp [FSt.b,FSt.set]
@[simp] theorem I8 (σ:FSt) (d t n s e:Nat):(σ.set (.row d) (.r n s e)).r t=if t=d then some (n,s,e) else σ.r t:=by
 by_cases h:t=d
 ·subst h;simp [FSt.r]
 ·simp [FSt.r,FSt.set,h]
theorem Grow.congr {σ σ':FSt} {h h':Gh} {w w':World} {v:V} {x:Value} (g:Grow σ h w v x) (hr:RowsOn σ h w σ' h' w'):Grow σ' h' w' v x:=by
 intro r sz xs hv;obtain ⟨n,e,hs,hle,hc⟩:=g r sz xs hv;obtain ⟨n',hs',hnn,hk⟩:=hr r n sz e hs;refine ⟨n',e,hs',by omega,fun hl=>?_⟩;have hn:n'=n:=by omega
 rcases hc (by omega) with g | ⟨blk,cap,cs,hγ,hx,hh,hcs⟩
 ·exact .inl g
 ·obtain ⟨h1,h2⟩:=hk hn blk hγ;exact .inr ⟨blk,cap,cs,h1,hx,h2.trans hh,hcs⟩
theorem GrowV.congr {σ σ':FSt} {h h':Gh} {w w':World} {v:V} {x:Value} (g:GrowV σ h w v x) (hr:RowsOn σ h w σ' h' w'):GrowV σ' h' w' v x :=
 fun j u z hu hz=>(g j u z hu hz).congr hr
theorem P1 {σ σ':FSt} {h:Gh} {w:World} (e:∀r,σ'.r r=σ.r r):RowsOn σ h w σ' h w :=
 fun r n sz t hr=>⟨n,by rw [e];exact hr,Nat.le_refl _,fun _ _ hb=>⟨hb,rfl⟩⟩
theorem D5 {σ:FSt} {h:Gh} {w:World} {v:V} {x:Value} {w0:World} {φ0:Nat→Nat} (r:RepD w0 φ0 v x):Grow σ h w v x:=by
 intro r' sz xs e;subst e;cases r
theorem Ap {σ:FSt} {h:Gh} {w:World} {v:V} {x:Value} {w0:World} {φ0:Nat→Nat} (r:RepD w0 φ0 v x):GrowV σ h w v x:=by
 intro j u z hu hz;cases r with
 | agg cs vs hl h=>exact D5 (h j u z hu hz)
 | _ =>
   cases j with
   | zero=>simp [cells] at hu;subst hu;intro r' sz xs e;simp at e
   | succ j=>simp [cells] at hu
theorem Marks.congr {M M':Nat→Prop} {w w':World}:∀{ds:List Deferred},Marks M w ds→(∀r,M r→w.heap[r]?=some (.deferred (some []))→M' r∧w'.heap[r]?=some (.deferred (some [])))→Marks M' w' ds
 | [],_,_=>trivial
 | _::_,⟨⟨r,e,hM,hh,hn⟩,hs⟩,k=>⟨⟨r,e,(k r hM hh).1,(k r hM hh).2,hn⟩,Marks.congr hs k⟩
section
variable {nt:Nat} {S:Sur} {log:List (List V)} {stp:Bool} {σ:FSt} {a:Act} {w:World} {h:Gh}
theorem getD_put {a:Act} {d:Nat} {x:Value} (t:Nat) (hd:d<a.tmps.size):(a.put (some d) x).tmps.getD t undef=if t=d then x else a.tmps.getD t undef:=by
 simp only [Act.put];by_cases e:t=d
 ·subst e;simp [hd]
 ·have:d≠t:=fun h=>e h.symm;simp [Array.getElem?_setIfInBounds_ne this,e]
theorem Rel.put (R:Rel nt S log stp σ a w h) {d:Nat} {v:V} {x:Value} (hd:d<nt) (hr:Rep w h.φ h.β h.y.l v x) (hg:GrowV σ h w v x) :
  Rel nt S log stp (σ.set (.slot d) (.v v)) (a.put (some d) x) w h where
 size:=by simp [Act.put,R.size]
 env t u hu:=by
  rw [getD_put t (by rw [R.size];exact hd)];rw [Ya] at hu;by_cases e:t=d
  ·simp only [e,if_true] at hu ⊢;cases hu;exact ⟨hd,hr,hg.congr (P1 fun r=>by simp)⟩
  ·simp only [e,if_false] at hu ⊢;obtain ⟨h1,h2,h3⟩:=R.env t u hu;exact ⟨h1,h2,h3.congr (P1 fun r=>by simp)⟩
 bx i bo hb:=by
  rw [Yb] at hb;obtain ⟨blk,cs,e,h1,h2,h3,h4,h5,h6⟩:=R.bx i bo hb;exact ⟨blk,cs,e,h1,h2,h3,h4,fun j v x hv hx=>let ⟨p,q,r⟩:=h5 j v x hv hx;⟨p,q.congr (P1 fun r=>by simp),r⟩,h6⟩
 dom i blk hb:=by simpa using R.dom i blk hb
 inj:=R.inj
 rows r n sz e hr:=R.rows r n sz e (by simpa using hr)
 rdom r blk hr:=by simpa using R.rdom r blk hr
 rinj:=R.rinj
 apart:=R.apart
 pins:=R.pins
 mine:=R.mine
 top:=R.top
 marks:=R.marks
 sur:=R.sur
theorem Rel.rowsOn (R:Rel nt S log stp σ a w h) {w':World} {h':Gh} {σ':FSt} (e:∀r,σ'.r r=σ.r r) (hγ:h'.γ=h.γ) (own:∀r blk,h.γ r=some blk→w'.heap[blk]?=w.heap[blk]?) :
  RowsOn σ h w σ' h' w' :=
 fun r n sz t hr=>⟨n,by rw [e];exact hr,Nat.le_refl _,fun _ blk hb=>⟨by rw [hγ];exact hb,own r blk hb⟩⟩
theorem Rel.rowM (R:Rel nt S log stp σ a w h) {r blk:Nat} (hb:h.γ r=some blk):h.M blk:=by
 have h1:=R.rdom r blk hb;cases hr:σ.r r with
 | none=>rw [hr] at h1;cases h1
 | some q =>
   obtain ⟨n,sz,e⟩:=q;rcases R.rows r n sz e hr with ⟨e',_⟩ | ⟨b,cs,hb',hM,_⟩
   ·rw [hb] at e';cases e'
   ·rw [hb] at hb';cases hb';exact hM
theorem Rel.boxM (R:Rel nt S log stp σ a w h) {i blk:Nat} (hb:h.β i=some blk):h.M blk:=by
 have h1:=R.dom i blk hb;cases hr:σ.b i with
 | none=>rw [hr] at h1;cases h1
 | some bo =>
   obtain ⟨b,cs,e,hb',hM,_⟩:=R.bx i bo hr;rw [hb] at hb';cases hb';exact hM
theorem Rel.move (R:Rel nt S log stp σ a w h) (hS:S.ok) {w':World} {h':Gh} (hβ:h'.β=h.β) (hγ:h'.γ=h.γ) (hy:h'.y=h.y) (hM:∀b,h.M b→h'.M b)
  (mv:Moved h.M w h.φ h'.M w' h'.φ) (own:∀b,h.M b→w'.heap[b]?=w.heap[b]?∧h'.φ b=h.φ b) (hm:∀b,h'.M b→b<w'.heap.size) (ht:∀b,w'.heap.size≤b→h'.φ b=0) :
  Rel nt S log stp σ a w' h':=by
 have ron:RowsOn σ h w σ h' w':=R.rowsOn (fun _=>rfl) hγ fun r blk hb=>(own _ (R.rowM hb)).1;exact {
  size:=R.size
  env:=fun t v hv=>by
   obtain ⟨h1,h2,h3⟩:=R.env t v hv;exact ⟨h1,by rw [hβ,hy];exact h2.mono mv.ext (fun _ _ e=>e),h3.congr ron⟩
  bx:=fun i bo hb=>by
   obtain ⟨blk,cs,e,h1,h2,h3,h4,h5,h6⟩:=R.bx i bo hb;refine ⟨blk,cs,e,by rw [hβ];exact h1,hM _ h2,(own _ h2).1.trans h3,h4,fun j v x hv hx=>?_,by rw [(own _ h2).2];exact h6⟩;obtain ⟨p,q,r⟩:=h5 j v x hv hx;exact ⟨by rw [hβ,hy];exact p.mono mv.ext (fun _ _ e=>e),q.congr ron,r⟩
  dom:=by rw [hβ];exact R.dom
  inj:=by rw [hβ];exact R.inj
  rows:=fun r n sz et hr=>by
   rcases R.rows r n sz et hr with ⟨e,e'⟩ | ⟨b,cs,hb',hMb,hh,hp,hn⟩
   ·exact .inl ⟨by rw [hγ];exact e,e'⟩
   ·exact .inr ⟨b,cs,by rw [hγ];exact hb',hM _ hMb,(own _ hMb).1.trans hh,(own _ hMb).2.trans hp,hn⟩
  rdom:=by rw [hγ];exact R.rdom
  rinj:=by rw [hγ];exact R.rinj
  apart:=by rw [hβ,hγ];exact R.apart
  pins:=by rw [hβ,hy];exact R.pins
  mine:=hm
  top:=ht
  marks:=R.marks.congr fun r hMr hh=>⟨hM _ hMr,(own _ hMr).1.trans hh⟩
  sur:=hS _ _ _ _ _ _ _ _ R.sur mv}
theorem Rel.drew (R:Rel nt S log stp σ a w h) (hS:S.ok):Rel nt S log stp σ a w.drew h :=
 R.move hS rfl rfl rfl (fun _ h=>h) ⟨fun _ _ ho=>⟨ho,rfl,rfl⟩,fun _ _ _=>⟨rfl,rfl⟩,Nat.le_refl _,rfl,rfl,rfl,fun _ h=>.inl h,R.top⟩ (fun _ _=>⟨rfl,rfl⟩) R.mine R.top
theorem Rel.below (R:Rel nt S log stp σ a w h) (hS:S.ok) {w':World} {φ':Nat→Nat} (hb:Below w.heap.size w w') (hφ:∀b,b<w.heap.size→φ' b=h.φ b) (ht:∀b,w'.heap.size≤b→φ' b=0) :
  Rel nt S log stp σ a w' {h with φ:=φ'}∧Ext w h.φ w' φ':=by
 have ex:Ext w h.φ w' φ':=fun b o ho=>by
  have hlt:b<w.heap.size:=by
   rcases Nat.lt_or_ge b w.heap.size with h1 | h1
   ·exact h1
   ·rw [R.top b h1] at ho;omega
  exact ⟨by rw [hφ b hlt];exact ho,hb.cell (p:=⟨b,o,none⟩) hlt,Bn (hb.block b hlt)⟩
 refine ⟨R.move hS rfl rfl rfl (fun _ h=>h) ⟨ex,fun b hlt _=>⟨hb.block b hlt,hφ b hlt⟩,hb.size,hb.os,hb.tape,hb.output,fun _ h=>.inl h,ht⟩
  (fun b hM=>⟨hb.block b (R.mine b hM),hφ b (R.mine b hM)⟩) (fun b hM=>Nat.lt_of_lt_of_le (R.mine b hM) hb.size) ht,ex⟩
theorem Iu (w:World) (o:Obj) (b:Nat):(w.alloc o).heap[b]?=if b=w.heap.size then some o else w.heap[b]?:=by
 show (w.heap.push o)[b]?=_;rw [Array.getElem?_push]
theorem Rel.alloc (R:Rel nt S log stp σ a w h) (hS:S.ok) (o:Obj):Rel nt S log stp σ a (w.alloc o) {h with M:=fun b=>h.M b∨b=w.heap.size}:=by
 have hne:∀b,b<w.heap.size→(w.alloc o).heap[b]?=w.heap[b]?:=fun b hb=>Below.heap_alloc w o b hb;refine R.move hS rfl rfl rfl (fun _ h=>.inl h) ⟨fun b o' ho=>?_,fun b hb _=>⟨hne b hb,rfl⟩,by simp,rfl,rfl,rfl,(fun b hb=>hb.imp id fun e=>by rw [e];exact Nat.le_refl _),(fun b hb=>R.top b (by simp at hb;omega))⟩ (fun b hM=>⟨hne b (R.mine b hM),rfl⟩) (fun b hb=>?_) (fun b hb=>R.top b (by simp at hb;omega))
 ·have hlt:b<w.heap.size:=by
   rcases Nat.lt_or_ge b w.heap.size with h1 | h1
   ·exact h1
   ·rw [R.top b h1] at ho;omega
  exact ⟨ho,World.cell?_alloc_lt w o ⟨b,o',none⟩ hlt,Bn (Below.heap_alloc w _ b hlt)⟩
 ·rcases hb with hb | rfl
  ·simp;have:=R.mine b hb;omega
  ·simp
theorem Rel.addBox (R:Rel nt S log stp σ a w h) {d blk:Nat} {zs:List V} {cs:Array Value} {e:TypeId} (hd:σ.b d=none) (hM:h.M blk) (hh:w.heap[blk]?=some (.cells cs e (0,0)))
  (hs:zs.length≤cs.size) (hz:∀(j:Nat) v x,zs[j]?=some v→cs[j]?=some x→Rep w h.φ h.β h.y.l v x∧Grow σ h w v x∧Af v=true) (hφ:h.φ blk=0)
  (hnb:∀i,h.β i≠some blk) (hng:∀r,h.γ r≠some blk) :
  Rel nt S log stp (σ.set (.bx d) (.b ⟨zs,false⟩)) a w {h with β:=fun i=>if i=d then some blk else h.β i}:=by
 have hβd:h.β d=none:=by
  cases hb:h.β d with
  | none=>rfl
  | some b=>have:=R.dom d b hb;rw [hd] at this;cases this
 have up:∀i b,h.β i=some b→(if i=d then some blk else h.β i)=some b:=fun i b hb=>by
  by_cases e:i=d
  ·subst e;rw [hβd] at hb;cases hb
  ·rw [if_neg e];exact hb
 have ron:RowsOn σ h w (σ.set (.bx d) (.b ⟨zs,false⟩)) {h with β:=fun i=>if i=d then some blk else h.β i} w :=
  fun r n sz t hr=>⟨n,by simpa using hr,Nat.le_refl _,fun _ _ hb=>⟨hb,rfl⟩⟩
 exact {
  size:=R.size
  env:=fun t v hv=>by
   obtain ⟨h1,h2,h3⟩:=R.env t v (by simpa using hv);exact ⟨h1,h2.mono (Ext.refl _ _) up,h3.congr ron⟩
  bx:=fun i bo hb=>by
   rw [E1] at hb;by_cases e':i=d
   ·rw [if_pos e'] at hb;cases hb;refine ⟨blk,cs,e,by simp [e'],hM,hh,hs,fun j v x hv hx=>?_,by simpa using hφ⟩;obtain ⟨p,q,r⟩:=hz j v x hv hx;exact ⟨p.mono (Ext.refl _ _) up,q.congr ron,r⟩
   ·rw [if_neg e'] at hb;obtain ⟨blk',cs',e'',h1,h2,h3,h4,h5,h6⟩:=R.bx i bo hb;refine ⟨blk',cs',e'',up _ _ h1,h2,h3,h4,fun j v x hv hx=>?_,h6⟩;obtain ⟨p,q,r⟩:=h5 j v x hv hx;exact ⟨p.mono (Ext.refl _ _) up,q.congr ron,r⟩
  dom:=fun i b hb=>by
   rw [E1];by_cases e':i=d
   ·simp [e']
   ·simp only [e',if_false] at hb ⊢;exact R.dom i b hb
  inj:=fun i j b hi hj=>by
   by_cases ei:i=d<;>by_cases ej:j=d<;>simp only [ei,ej,if_true,if_false] at hi hj
   ·rw [ei,ej]
   ·cases hi;exact absurd hj (hnb j)
   ·cases hj;exact absurd hi (hnb i)
   ·exact R.inj i j b hi hj
  rows:=fun r n sz et hr=>R.rows r n sz et (by simpa using hr)
  rdom:=fun r b hb=>by simpa using R.rdom r b hb
  rinj:=R.rinj
  apart:=fun i r b hi hr=>by
   by_cases e':i=d
   ·simp only [e',if_true] at hi;cases hi;exact hng r hr
   ·simp only [e',if_false] at hi;exact R.apart i r b hi hr
  pins:=fun i b hb=>up _ _ (R.pins i b hb)
  mine:=R.mine
  top:=R.top
  marks:=R.marks
  sur:=R.sur}
theorem Rel.newBox (R:Rel nt S log stp σ a w h) (hS:S.ok) {d:Nat} {zs:List V} {cs:Array Value} {e:TypeId} (hd:σ.b d=none)
  (hs:zs.length≤cs.size) (hz:∀(j:Nat) v x,zs[j]?=some v→cs[j]?=some x→Rep w h.φ h.β h.y.l v x∧Grow σ h w v x∧Af v=true) :
  Rel nt S log stp (σ.set (.bx d) (.b ⟨zs,false⟩)) a (w.alloc (.cells cs e)) {h with M:=fun b=>h.M b∨b=w.heap.size,β:=fun i=>if i=d then some w.heap.size else h.β i}:=by
 have R1:=R.alloc hS (.cells cs e);have hlt:∀b,h.M b→b≠w.heap.size:=fun b hM=>by have:=R.mine b hM;omega
 refine R1.addBox (e:=e) hd (.inr rfl) (by rw [Iu];simp) hs (fun j v x hv hx=>?_) (R.top _ (Nat.le_refl _)) (fun i hb=>hlt _ (R.boxM hb) rfl) (fun r hb=>hlt _ (R.rowM hb) rfl);obtain ⟨p,q,r⟩:=hz j v x hv hx;refine ⟨p.mono (fun b o ho=>?_) (fun _ _ e=>e),q.congr (R.rowsOn (fun _=>rfl) rfl fun r blk hb=>Below.heap_alloc w _ _ (R.mine _ (R.rowM hb))),r⟩;have hb:b<w.heap.size:=by
  rcases Nat.lt_or_ge b w.heap.size with h1 | h1
  ·exact h1
  ·rw [R.top b h1] at ho;omega
 exact ⟨ho,World.cell?_alloc_lt w _ ⟨b,o,none⟩ hb,Bn (Below.heap_alloc w _ b hb)⟩
theorem Rel.setBox (R:Rel nt S log stp σ a w h) (hS:S.ok) {i blk:Nat} {zs0 zs:List V} {cs:Array Value} {e:TypeId} {w':World} (hi:σ.b i=some ⟨zs0,false⟩) (hβ:h.β i=some blk)
  (hw:w'.heap[blk]?=some (.cells cs e (0,0))) (ho:∀b,b≠blk→w'.heap[b]?=w.heap[b]?) (hsz:w'.heap.size=w.heap.size) (hos:w'.os=w.os) (htp:w'.tape=w.tape) (hou:w'.output=w.output)
  (hs:zs.length≤cs.size) (hz:∀(j:Nat) v x,zs[j]?=some v→cs[j]?=some x→Rep w h.φ h.β h.y.l v x∧Grow σ h w v x∧Af v=true) :
  Rel nt S log stp (σ.set (.bx i) (.b ⟨zs,false⟩)) a w' h:=by
 have hM:h.M blk:=R.boxM hβ;have hφ:h.φ blk=0:=by
  obtain ⟨b,_,_,hb,_,_,_,_,h6⟩:=R.bx i _ hi;rw [hβ] at hb;cases hb;simpa using h6
 have ext:Ext w h.φ w' h.φ:=fun b o hbo=>by
  have:b≠blk:=fun e=>by rw [e,hφ] at hbo;omega
  exact ⟨hbo,World.cell?_of_block (ho b this),Bn (ho b this)⟩
 have mv:Moved h.M w h.φ h.M w' h.φ:=⟨ext,fun b _ hn=>⟨ho b (fun e=>hn (e▸hM)),rfl⟩,by omega,hos,htp,hou,fun _ h=>.inl h,fun b hb=>R.top b (by rw [←hsz];exact hb)⟩;have rb:∀r b,h.γ r=some b→b≠blk:=fun r b hr e=>R.apart i r blk hβ (e▸hr);have ron:RowsOn σ h w (σ.set (.bx i) (.b ⟨zs,false⟩)) h w':=R.rowsOn (fun _=>by simp) rfl fun r b hr=>ho b (rb r b hr);exact {
  size:=R.size
  env:=fun t v hv=>by
   obtain ⟨h1,h2,h3⟩:=R.env t v (by simpa using hv);exact ⟨h1,h2.mono ext (fun _ _ e=>e),h3.congr ron⟩
  bx:=fun k bo hb=>by
   rw [E1] at hb;by_cases e':k=i
   ·rw [if_pos e'] at hb;cases hb;subst e';refine ⟨blk,cs,e,hβ,hM,hw,hs,fun j v x hv hx=>?_,by simpa using hφ⟩;obtain ⟨p,q,r⟩:=hz j v x hv hx;exact ⟨p.mono ext (fun _ _ e=>e),q.congr ron,r⟩
   ·rw [if_neg e'] at hb;obtain ⟨blk',cs',e'',h1,h2,h3,h4,h5,h6⟩:=R.bx k bo hb;have hne:blk'≠blk:=fun e=>e' (R.inj k i blk (e▸h1) hβ);refine ⟨blk',cs',e'',h1,h2,(ho _ hne).trans h3,h4,fun j v x hv hx=>?_,h6⟩;obtain ⟨p,q,r⟩:=h5 j v x hv hx;exact ⟨p.mono ext (fun _ _ e=>e),q.congr ron,r⟩
  dom:=fun k b hb=>by
   rw [E1];by_cases e':k=i
   ·simp [e']
   ·simp only [e',if_false];exact R.dom k b hb
  inj:=R.inj
  rows:=fun r n sz et hr=>by
   rcases R.rows r n sz et (by simpa using hr) with ⟨e1,e2⟩ | ⟨b,cs',hb',hMb,hh,hp,hn⟩
   ·exact .inl ⟨e1,e2⟩
   ·exact .inr ⟨b,cs',hb',hMb,(ho _ (rb r b hb')).trans hh,hp,hn⟩
  rdom:=fun r b hb=>by simpa using R.rdom r b hb
  rinj:=R.rinj
  apart:=R.apart
  pins:=R.pins
  mine:=fun b hb=>by rw [hsz];exact R.mine b hb
  top:=fun b hb=>R.top b (by rw [←hsz];exact hb)
  marks:=R.marks.congr fun r hMr hh=>by
   refine ⟨hMr,?_⟩;by_cases e':r=blk
   ·obtain ⟨b,cs',e'',hb,_,hc,_⟩:=R.bx i _ hi;rw [hβ] at hb;cases hb;rw [e',hc] at hh;cases hh
   ·exact (ho _ e').trans hh
  sur:=hS _ _ _ _ _ _ _ _ R.sur mv}
theorem Rel.freeze1 (R:Rel nt S log stp σ a w h) (hS:S.ok) {i blk:Nat} {zs:List V} {fz:Bool} (hi:σ.b i=some ⟨zs,fz⟩) (hβ:h.β i=some blk) :
  Rel nt S log stp (σ.set (.bx i) (.b ⟨zs,true⟩)) a w {h with φ:=fun b=>if b=blk then zs.length else h.φ b}∧Ext w h.φ w (fun b=>if b=blk then zs.length else h.φ b):=by
 have hM:h.M blk:=R.boxM hβ;obtain ⟨b0,cs,e,hb0,_,hcs,hsz,hz,hφ⟩:=R.bx i _ hi;rw [hβ] at hb0;cases hb0;have hle:h.φ blk≤zs.length:=by rw [hφ];cases fz<;>simp
 have ext:Ext w h.φ w (fun b=>if b=blk then zs.length else h.φ b):=fun b o ho=>by
  refine ⟨?_,rfl,rfl⟩;show o<if b=blk then zs.length else h.φ b
  by_cases e':b=blk
  ·rw [if_pos e'];rw [e'] at ho;omega
  ·rw [if_neg e'];exact ho
 have mv:Moved h.M w h.φ h.M w (fun b=>if b=blk then zs.length else h.φ b) :=
  ⟨ext,fun b _ hn=>⟨rfl,if_neg fun (e:b=blk)=>hn (e▸hM)⟩,Nat.le_refl _,rfl,rfl,rfl,fun _ h=>.inl h,fun b hb=>by
    have h1:=R.mine blk hM;have:b≠blk:=by omega
    simpa [this] using R.top b hb⟩
 have rb:∀r b,h.γ r=some b→b≠blk:=fun r b hr e=>R.apart i r blk hβ (e▸hr);have ron:RowsOn σ h w (σ.set (.bx i) (.b ⟨zs,true⟩)) {h with φ:=fun b=>if b=blk then zs.length else h.φ b} w:=R.rowsOn (fun _=>by simp) rfl fun _ _ _=>rfl;refine ⟨?_,ext⟩;exact {
  size:=R.size
  env:=fun t v hv=>by
   obtain ⟨h1,h2,h3⟩:=R.env t v (by simpa using hv);exact ⟨h1,h2.mono ext (fun _ _ e=>e),h3.congr ron⟩
  bx:=fun k bo hb=>by
   rw [E1] at hb;by_cases e':k=i
   ·rw [if_pos e'] at hb;cases hb;subst e';refine ⟨blk,cs,e,hβ,hM,hcs,hsz,fun j v x hv hx=>?_,by simp⟩;obtain ⟨p,q,r⟩:=hz j v x hv hx;exact ⟨p.mono ext (fun _ _ e=>e),q.congr ron,r⟩
   ·rw [if_neg e'] at hb;obtain ⟨blk',cs',e'',h1,h2,h3,h4,h5,h6⟩:=R.bx k bo hb;have hne:blk'≠blk:=fun e=>e' (R.inj k i blk (e▸h1) hβ);refine ⟨blk',cs',e'',h1,h2,h3,h4,fun j v x hv hx=>?_,by simpa [hne] using h6⟩;obtain ⟨p,q,r⟩:=h5 j v x hv hx;exact ⟨p.mono ext (fun _ _ e=>e),q.congr ron,r⟩
  dom:=fun k b hb=>by
   rw [E1];by_cases e':k=i
   ·simp [e']
   ·simp only [e',if_false];exact R.dom k b hb
  inj:=R.inj
  rows:=fun r n sz et hr=>by
   rcases R.rows r n sz et (by simpa using hr) with ⟨e1,e2⟩ | ⟨b,cs',hb',hMb,hh,hp,hn⟩
   ·exact .inl ⟨e1,e2⟩
   ·exact .inr ⟨b,cs',hb',hMb,hh,by simpa [rb r b hb'] using hp,hn⟩
  rdom:=fun r b hb=>by simpa using R.rdom r b hb
  rinj:=R.rinj
  apart:=R.apart
  pins:=R.pins
  mine:=R.mine
  top:=fun b hb=>by
   have h1:=R.mine blk hM;have:b≠blk:=by omega
   simpa [this] using R.top b hb
  marks:=R.marks
  sur:=hS _ _ _ _ _ _ _ _ R.sur mv}
theorem Rel.setRow (R:Rel nt S log stp σ a w h) (hS:S.ok) {r n sz blk:Nat} {e:TypeId} {cs:Array Value} {w':World}
  (hr:σ.r r=none∨∃n0,σ.r r=some (n0,sz,e)∧n0<n) (hnew:w.heap.size≤blk∨h.γ r=some blk)
  (hw:w'.heap[blk]?=some (.cells cs e (0,0))) (ho:∀b,b<w.heap.size→b≠blk→w'.heap[b]?=w.heap[b]?) (hsz:w.heap.size≤w'.heap.size) (hos:w'.os=w.os) (htp:w'.tape=w.tape) (hou:w'.output=w.output)
  (hext:∀o,o<h.φ blk→o<n*sz∧w'.cell? ⟨blk,o,none⟩=w.cell? ⟨blk,o,none⟩) (hn:n*sz≤cs.size) (hlt:blk<w'.heap.size) :
  Rel nt S log stp (σ.set (.row r) (.r n sz e)) a w' {h with φ:=fun b=>if b=blk then n*sz else h.φ b,M:=fun b=>h.M b∨b=blk,γ:=fun k=>if k=r then some blk else h.γ k} ∧
   Ext w h.φ w' (fun b=>if b=blk then n*sz else h.φ b):=by
 have hMblk:blk<w.heap.size→h.M blk:=fun hb=>by
  rcases hnew with h1 | h1
  ·omega
  ·exact R.rowM h1
 have ext:Ext w h.φ w' (fun b=>if b=blk then n*sz else h.φ b):=fun b o hbo=>by
  by_cases e':b=blk
  ·subst e';simp only [if_true];refine ⟨(hext o hbo).1,(hext o hbo).2,?_⟩;rcases hnew with h1 | h1
   ·rw [R.top b h1] at hbo;omega
   ·have h2:=R.rdom r b h1;cases hq:σ.r r with
    | none=>rw [hq] at h2;cases h2
    | some q =>
      obtain ⟨n0,sz0,e0⟩:=q;rcases R.rows r n0 sz0 e0 hq with ⟨e',_⟩ | ⟨b',cs',hb',hM',hh',_⟩
      ·rw [h1] at e';cases e'
      ·rw [h1] at hb';cases hb';unfold W3;rw [hw,hh']
  ·have hb:b<w.heap.size:=by
    rcases Nat.lt_or_ge b w.heap.size with h1 | h1
    ·exact h1
    ·rw [R.top b h1] at hbo;omega
   simp only [e',if_false];exact ⟨hbo,World.cell?_of_block (ho b hb e'),Bn (ho b hb e')⟩
 have mv:Moved h.M w h.φ (fun b=>h.M b∨b=blk) w' (fun b=>if b=blk then n*sz else h.φ b) :=
  ⟨ext,fun b hb hnM=>by
    have:b≠blk:=fun e=>hnM (e▸hMblk (e▸hb));exact ⟨ho b hb this,if_neg this⟩,hsz,hos,htp,hou,(fun b hb=>by
    rcases hb with hb | rfl
    ·exact .inl hb
    ·rcases Nat.lt_or_ge b w.heap.size with h1 | h1
     ·exact .inl (hMblk h1)
     ·exact .inr h1),fun b hb=>by
    have:b≠blk:=by omega
    simp only [this,if_false];exact R.top b (by omega)⟩
 have hbx:∀i b,h.β i=some b→b≠blk:=fun i b hb e'=>by
  subst e';rcases hnew with h1 | h1
  ·have:=R.mine _ (R.boxM hb);omega
  ·exact R.apart i r _ hb h1
 have hrw:∀k b,h.γ k=some b→k≠r→b≠blk:=fun k b hb hk e'=>by
  subst e';rcases hnew with h1 | h1
  ·have:=R.mine _ (R.rowM hb);omega
  ·exact hk (R.rinj _ _ _ hb h1)
 have ron:RowsOn σ h w (σ.set (.row r) (.r n sz e)) {h with φ:=fun b=>if b=blk then n*sz else h.φ b,M:=fun b=>h.M b∨b=blk,γ:=fun k=>if k=r then some blk else h.γ k} w':=by
  intro k n1 sz1 e1 hk;by_cases e':k=r
  ·subst e';rcases hr with h1 | ⟨n0,h1,hlt0⟩
   ·rw [h1] at hk;cases hk
   ·rw [h1] at hk;cases hk;exact ⟨n,by simp,by omega,fun e=>by omega⟩
  ·refine ⟨n1,by simpa [e'] using hk,Nat.le_refl _,fun _ b hb=>⟨by simpa [e'] using hb,ho b (R.mine _ (R.rowM hb)) (hrw k b hb e')⟩⟩
 refine ⟨?_,ext⟩;exact {
  size:=R.size
  env:=fun t v hv=>by
   obtain ⟨h1,h2,h3⟩:=R.env t v (by simpa using hv);exact ⟨h1,h2.mono ext (fun _ _ e=>e),h3.congr ron⟩
  bx:=fun i bo hb=>by
   obtain ⟨blk',cs',e'',h1,h2,h3,h4,h5,h6⟩:=R.bx i bo (by simpa using hb);have hne:=hbx i blk' h1;refine ⟨blk',cs',e'',h1,.inl h2,(ho _ (R.mine _ h2) hne).trans h3,h4,fun j v x hv hx=>?_,by simpa [hne] using h6⟩;obtain ⟨p,q,r⟩:=h5 j v x hv hx;exact ⟨p.mono ext (fun _ _ e=>e),q.congr ron,r⟩
  dom:=fun i b hb=>by simpa using R.dom i b hb
  inj:=R.inj
  rows:=fun k n1 sz1 et hk=>by
   rw [I8] at hk;by_cases e':k=r
   ·rw [if_pos e'] at hk;cases hk;exact .inr ⟨blk,cs,by simp [e'],.inr rfl,hw,by simp,hn⟩
   ·rw [if_neg e'] at hk;rcases R.rows k n1 sz1 et hk with ⟨e1,e2⟩ | ⟨b,cs',hb',hMb,hh,hp,hn⟩
    ·exact .inl ⟨by simpa [e'] using e1,e2⟩
    ·have hne:=hrw k b hb' e';exact .inr ⟨b,cs',by simpa [e'] using hb',.inl hMb,(ho _ (R.mine _ hMb) hne).trans hh,by simpa [hne] using hp,hn⟩
  rdom:=fun k b hb=>by
   rw [I8];by_cases e':k=r
   ·simp [e']
   ·simp only [e',if_false] at hb ⊢;exact R.rdom k b hb
  rinj:=fun k k' b hk hk'=>by
   by_cases e1:k=r<;>by_cases e2:k'=r<;>simp only [e1,e2,if_true,if_false] at hk hk'
   ·rw [e1,e2]
   ·cases hk;exact absurd rfl (hrw k' _ hk' e2)
   ·cases hk';exact absurd rfl (hrw k _ hk e1)
   ·exact R.rinj k k' b hk hk'
  apart:=fun i k b hi hk=>by
   by_cases e':k=r
   ·simp only [e',if_true] at hk;cases hk;exact hbx i _ hi rfl
   ·simp only [e',if_false] at hk;exact R.apart i k b hi hk
  pins:=R.pins
  mine:=fun b hb=>by
   rcases hb with hb | rfl
   ·have:=R.mine b hb;omega
   ·exact hlt
  top:=fun b hb=>by
   have:b≠blk:=by omega
   simp only [this,if_false];exact R.top b (by omega)
  marks:=R.marks.congr fun k hMk hh=>by
   refine ⟨.inl hMk,?_⟩;have hb:=R.mine k hMk;by_cases e':k=blk
   ·rcases hnew with h1 | h1
    ·omega
    ·have h2:=R.rdom r blk h1;cases hq:σ.r r with
     | none=>rw [hq] at h2;cases h2
     | some q =>
       obtain ⟨n1,sz1,et⟩:=q;rcases R.rows r n1 sz1 et hq with ⟨e1,_⟩ | ⟨b,cs',hb',_,hh',_⟩
       ·rw [h1] at e1;cases e1
       ·rw [h1] at hb';cases hb';rw [e',hh'] at hh;cases hh
   ·exact (ho _ hb e').trans hh
  sur:=hS _ _ _ _ _ _ _ _ R.sur mv}
theorem Rel.row0 (R:Rel nt S log stp σ a w h) {r sz:Nat} {e:TypeId} (hr:σ.r r=none):Rel nt S log stp (σ.set (.row r) (.r 0 sz e)) a w h:=by
 have hγ:h.γ r=none:=by
  cases hb:h.γ r with
  | none=>rfl
  | some b=>have:=R.rdom r b hb;rw [hr] at this;cases this
 have ron:RowsOn σ h w (σ.set (.row r) (.r 0 sz e)) h w:=fun k n1 sz1 e1 hk=>by
  have:k≠r:=fun e=>by rw [e,hr] at hk;cases hk
  exact ⟨n1,by simpa [this] using hk,Nat.le_refl _,fun _ _ hb=>⟨hb,rfl⟩⟩
 exact {
  size:=R.size
  env:=fun t v hv=>by
   obtain ⟨h1,h2,h3⟩:=R.env t v (by simpa using hv);exact ⟨h1,h2,h3.congr ron⟩
  bx:=fun i bo hb=>by
   obtain ⟨blk',cs',e'',h1,h2,h3,h4,h5,h6⟩:=R.bx i bo (by simpa using hb);refine ⟨blk',cs',e'',h1,h2,h3,h4,fun j v x hv hx=>?_,h6⟩;obtain ⟨p,q,r⟩:=h5 j v x hv hx;exact ⟨p,q.congr ron,r⟩
  dom:=fun i b hb=>by simpa using R.dom i b hb
  inj:=R.inj
  rows:=fun k n1 sz1 et hk=>by
   rw [I8] at hk;by_cases e':k=r
   ·rw [if_pos e'] at hk;cases hk;exact .inl ⟨by rw [e'];exact hγ,rfl⟩
   ·rw [if_neg e'] at hk;exact R.rows k n1 sz1 et hk
  rdom:=fun k b hb=>by
   rw [I8];by_cases e':k=r
   ·simp [e']
   ·simp only [e',if_false];exact R.rdom k b hb
  rinj:=R.rinj
  apart:=R.apart
  pins:=R.pins
  mine:=R.mine
  top:=R.top
  marks:=R.marks
  sur:=R.sur}
end
end
section
open Go.RowKit
def ofSc:Value→Option V
 | .bool b=>some (.bool b)
 | .int k n=>some (.int k n)
 | .string s=>some (.str s)
 | .slice none 0 0=>some .nils
 | .pointer none=>some .nilp
 | .nilFunc=>some .nilf
 | .map none=>some .nilm
 | .nilIface=>some .nili
 | _=>none
def K9:List Value→Option (List V)
 | []=>some []
 | x::r=>match ofSc x,K9 r with | some v,some vs=>some (v::vs) | _,_=>none
def Abt:Value→Option V
 | .agg cs=>(K9 cs.toList).map .agg
 | v=>ofSc v
theorem A9j {w:World} {φ:Nat→Nat} {x:Value} {v:V} (h:ofSc x=some v):RepD w φ v x∧Af v=true:=by
 unfold ofSc at h;split at h<;>first | (cases h;done) | (cases h;exact ⟨by constructor,rfl⟩)
theorem Ft {w:World} {φ:Nat→Nat}:∀{l:List Value} {vs:List V},K9 l=some vs→vs.length=l.length∧∀(i:Nat) v x,vs[i]?=some v→l[i]?=some x→RepD w φ v x∧Af v=true
 | [],vs,h=>by cases h;exact ⟨rfl,fun i v x h=>by simp at h⟩
 | y::r,vs,h=>by
   simp only [K9] at h;split at h
   ·rename_i v0 vs0 h0 h1;cases h;obtain ⟨h2,h3⟩:=Ft (w:=w) (φ:=φ) h1;refine ⟨by simp [h2],fun i v x hv hx=>?_⟩;cases i with
    | zero=>simp at hv hx;subst hv hx;exact A9j h0
    | succ i=>simp at hv hx;exact h3 i v x hv hx
   ·cases h
theorem A3s {w:World} {φ:Nat→Nat} {x:Value} {v:V} (h:Abt x=some v):RepD w φ v x:=by
 unfold Abt at h;split at h
 ·rename_i cs;cases hs:K9 cs.toList with
  | none=>simp [hs] at h
  | some vs =>
    simp [hs] at h;subst h;obtain ⟨h2,h3⟩:=Ft (w:=w) (φ:=φ) hs;exact .agg vs cs (by simpa using h2) fun i v x hv hx=>(h3 i v x hv (by simpa using hx)).1
 ·exact (A9j h).1
def Qh:Operand→Option X
 | .tmp t=>some (.t t)
 | .const v=>(Abt v).map .c
 | .func f=>some (.c (.func (.func f) [] []))
 | .global g=>some (.c (.rptr g 0))
def Ok (σ:FSt) (h:Gh) (w:World) (v:V) (x:Value):Prop:=Rep w h.φ h.β h.y.l v x∧GrowV σ h w v x
theorem Ok.data {σ:FSt} {h:Gh} {w:World} {v:V} {x:Value} (r:RepD w h.φ v x):Ok σ h w v x:=⟨.data r,Ap r⟩
section
variable {nt:Nat} {S:Sur} {log:List (List V)} {stp:Bool} {σ:FSt} {a:Act} {w:World} {h:Gh}
theorem Rel.opd (R:Rel nt S log stp σ a w h) {p:Operand} {x:X} {v:V} (hx:Qh p=some x) (hv:evX σ x=some v):Ok σ h w v (a.eval p):=by
 cases p with
 | tmp t=>simp [Qh] at hx;subst hx;exact (R.env t v hv).2
 | const c =>
   simp only [Qh] at hx;cases hc:Abt c with
   | none=>simp [hc] at hx
   | some u=>simp [hc] at hx;subst hx;simp [evX] at hv;subst hv;exact .data (A3s hc)
 | global g =>
   simp [Qh] at hx;subst hx;simp [evX] at hv;subst hv;exact .data (.rptr g 0)
 | func f =>
   simp [Qh] at hx;subst hx;simp [evX] at hv;subst hv;exact .data (.func _ [] [] #[] #[] rfl rfl (fun i v x h=>by simp at h) (fun i v x h=>by simp at h))
end
inductive Opds (σ:FSt) (h:Gh) (w:World) (a:Act):List Operand→List V→Prop
 | nil:Opds σ h w a [] []
 | cons {p:Operand} {ps:List Operand} {v:V} {vs:List V} (o:Ok σ h w v (a.eval p)) (r:Opds σ h w a ps vs):Opds σ h w a (p::ps) (v::vs)
def aggB (P:Program) (t:TypeId):Bool:=match P.underlying t with | some (.struct _) | some (.array _ _)=>true | _=>false
def szOf (P:Program) (t:TypeId):Option Nat:=(P.info? t).map (·.size)
def Jb (f:TypeId→List Nat→Bool) (sz:TypeId→Option Nat) (ks:List Nat):List Field→Nat→Bool
 | [],o=>o==ks.length
 | fd::r,o=>fd.name != "_"&&fd.offset==o&&(match sz fd.type with | some s=>f fd.type ((ks.drop o).take s)&&Jb f sz ks r (o+s) | none=>false)
def H4 (P:Program):Nat→TypeId→List Nat→Bool
 | 0,_,_=>false
 | n+1,t,ks=>match P.underlying t with
   | some (.int _)=>szOf P t==some 1&&ks==[0]
   | some .bool=>szOf P t==some 1&&ks==[1]
   | some .string=>szOf P t==some 1&&ks==[2]
   | some (.struct fs)=>!P.stoodInHeld t&&szOf P t==some ks.length&&Jb (H4 P n) (szOf P) ks fs.toList 0
   | some (.array len e)=>(match szOf P e with | some s=>szOf P t==some (len*s)&&ks.length==len*s&&(List.range len).all (fun i=>H4 P n e ((ks.drop (i*s)).take s)) | none=>false)
   | _=>false
def A70 (P:Program):Nat→TypeId→List Nat
 | 0,_=>[]
 | n+1,t=>match P.underlying t with
   | some (.int _)=>[0]
   | some .bool=>[1]
   | some .string=>[2]
   | some (.struct fs)=>fs.toList.flatMap fun f=>A70 P n f.type
   | some (.array len e)=>(List.replicate len (A70 P n e)).flatten
   | _=>[]
def E7 (P:Program) (op:BinOp) (t:TypeId) (x y:Operand):Option (K×List Operand) :=
 match P.underlying t with
 | some (.struct _) | some (.array _ _)=>if H4 P 8 t (A70 P 8 t)&&!P.eqGuardType P.depth t then some (.eqs (op==.neq) (A70 P 8 t),[x,y]) else none
 | some .bool=>some (.binb (op==.neq),[x,y])
 | some (.int _) | some .string=>some (.bin op,[x,y])
 | some (.slice _)=>some (.raw 8 (if op==.neq then 1 else 0) t,[x,y])
 | _=>none
def A1d (P:Program) (t:TypeId):Bool:=match P.underlying t with | some (.int .i64)=>true | _=>false
def mapOk (P:Program) (kt e:TypeId):Bool :=
 laidOutB P&&decide (kt<P.types.size)&&P.keyTypeAt 2 kt&&P.keyType kt&&A1d P e&&(match P.info? e with | some i=>(match i.zero with | some (.int .i64 0)=>true | _=>false) | none=>false) &&
  P.cellsOf kt==2&&match P.underlying kt with
  | some (.struct fs)=>(match fs.toList with
    | [f,g]=>f.name != "_"&&g.name != "_"&&f.offset==0&&g.offset==1&&A1d P f.type&&A1d P g.type&&P.cellsOf f.type==1&&P.cellsOf g.type==1
    | _=>false)
  | _=>false
def Xi (P:Program) (kt e:TypeId):Bool :=
 laidOutB P&&decide (kt<P.types.size)&&P.keyTypeAt 2 kt&&P.keyType kt&&(match P.underlying e with | some .bool=>true | _=>false)&&(match P.info? e with | some i=>(match i.zero with | some (.bool false)=>true | _=>false) | none=>false) &&
  P.cellsOf kt==2&&match P.underlying kt with
  | some (.struct fs)=>(match fs.toList with
    | [f,g]=>f.name != "_"&&g.name != "_"&&f.offset==0&&g.offset==1&&A1d P f.type&&A1d P g.type&&P.cellsOf f.type==1&&P.cellsOf g.type==1
    | _=>false)
  | _=>false
def opK0 (P:Program) (o:Op):Option (K×List Operand) :=
 match o with
 | .move x | .assign x=>some (.mov,[x])
 | .pick c a b=>some (.pick,[c,a,b])
 | .alloc e=>match P.info? e with
   | some i=>match i.zero with
     | some z=>(K9 z.cells.toList).map fun zs=>(.alloc zs,[])
     | none=>none
   | none=>none
 | .box _ x=>some (.box,[x])
 | .build t parts =>
   match P.info? t,P.underlying t with
   | some it,some (.array _ e)=>match it.zero,P.info? e with
     | some z,some ie=>(K9 z.cells.toList).map fun zs=>(.build zs (parts.toList.map fun p=>(p.1*ie.size,ie.size)),parts.toList.map (·.2))
     | _,_=>none
   | some it,some (.struct fields)=>match it.zero,fields.toList.mapM (fun f=>(P.info? f.type).map fun i=>(f.offset,i.size)) with
     | some z,some places=>match (parts.toList.mapM fun p=>places[p.1]?),K9 z.cells.toList with
       | some ps,some zs=>some (.build zs ps,parts.toList.map (·.2))
       | _,_=>none
     | _,_=>none
   | _,_=>none
 | .buildSlice t len parts=>match P.underlying t with
   | some (.slice e)=>match P.info? e with
     | some ie=>if ie.zero.isSome&&(match ie.zero with | some z=>z.cells.size==ie.size | none=>false)&&(parts.toList.map (·.1)==List.range len) then some (.mkslice ie.size e,parts.toList.map (·.2)) else none
     | none=>none
   | _=>none
 | .load t p=>match szOf P t,P.underlying t with
   | some n,some _=>if aggB P t then some (.load n true,[p]) else if n=1 then some (.load 1 false,[p]) else none
   | _,_=>none
 | .store t p v=>(szOf P t).map fun n=>(.store n,[p,v])
 | .nilCheck x=>some (.nilck,[x])
 | .binOp op t x y _=>match op with
   | .eql | .neq=>E7 P op t x y
   | _=>some (.bin op,[x,y])
 | .unOp op _ x=>some (.un op,[x])
 | .convert src dst x=>match P.underlying src,P.underlying dst with
   | some (.int _),some (.int k)=>some (.conv k,[x])
   | _,_=>some (.raw 5 src dst,[x])
 | .makeFunc fn first captured=>match fn with
   | .func f=>some (.mkfunc (.func f) first.size,first.toList++captured.toList)
   | _=>none
 | .fieldAddr s x f=>match P.underlying s with
   | some (.struct fs)=>match fs[f]? with
     | some fd=>match szOf P fd.type with
       | some n=>if n=0 then none else some (.faddr fd.offset,[x])
       | none=>none
     | none=>none
   | _=>none
 | .indexAddr t x i=>match P.underlying t with
   | some (.array len e)=>(szOf P e).map fun sz=>(.iaddrA len sz,[x,i])
   | some (.slice e)=>(szOf P e).map fun sz=>(.iaddrS sz,[x,i])
   | _=>none
 | .field t x f=>match P.underlying t with
   | some (.struct fs)=>match fs[f]? with
     | some fd=>match szOf P fd.type,P.underlying fd.type with
       | some n,some _=>if aggB P fd.type then some (.field fd.offset n true,[x]) else if n=1 then some (.field fd.offset 1 false,[x]) else none
       | _,_=>none
     | none=>none
   | _=>none
 | .index t x i=>match P.underlying t with
   | some (.array len e)=>match szOf P e,P.underlying e with
     | some n,some _=>if aggB P e then some (.idxA len n true,[x,i]) else if n=1 then some (.idxA len 1 false,[x,i]) else none
     | _,_=>none
   | _=>none
 | .extract x i=>some (.extract i,[x])
 | .lookup t x k ok=>match P.underlying t with
   | some (.map kt e)=>if mapOk P kt e then some (.lookup ok,[x,k]) else none
   | _=>none
 | .mapUpdate t m k v=>match P.underlying t with
   | some (.map kt e)=>if mapOk P kt e then some (.mapup,[m,k,v]) else if Xi P kt e then some (.raw 1 t 0,[m,k,v]) else none
   | _=>none
 | .makeMap t r=>match P.underlying t,r with
   | some (.map kt e),none=>if mapOk P kt e then some (.mkmap,[]) else if Xi P kt e then some (.raw 0 t 0,[]) else none
   | _,_=>none
 | .range t x=>match P.underlying t with
   | some (.map kt e)=>if Xi P kt e then some (.raw 2 t 0,[x]) else none
   | _=>none
 | .next x b=>if b then none else some (.raw 3 0 0,[x])
 | .entry x=>some (.raw 4 0 0,[x])
 | .makeSlice t l c=>match P.underlying t with
   | some (.slice e)=>match P.info? e with
     | some ie=>match ie.zero with
       | some z=>if z.cells.size==ie.size then (K9 z.cells.toList).map fun zs=>(.mkbox ie.size ie.bytes zs,[l,c]) else none
       | none=>none
     | none=>none
   | _=>none
 | .slice t x lo hi mx=>match mx,P.underlying t with
   | none,some (.slice e)=>(szOf P e).map fun sz=>(.slx sz lo.isSome hi.isSome,x::(lo.toList++hi.toList))
   | none,some (.array len e)=>match lo,hi with
     | none,none=>(szOf P e).map fun sz=>(.sla len sz,[x])
     | _,_=>none
   | some m,some (.slice _)=>some (.raw 7 (lo.toList.length+2*hi.toList.length) t,x::(lo.toList++hi.toList++[m]))
   | _,_=>none
 | .call c=>match c.callee with
   | .value (.func f)=>some (.call f,c.args.toList)
   | .value (.tmp t)=>some (.callv,.tmp t::c.args.toList)
   | .builtin .len=>match c.args.toList,c.argTypes.toList with
     | [x],[t]=>match P.underlying t with
       | some (.slice _)=>some (.len false,[x])
       | some .string=>some (.len true,[x])
       | _=>none
     | _,_=>none
   | .builtin .append=>match c.args.toList,c.argTypes.toList with
     | [x,y],[t,u]=>if t==u then match P.underlying t with
        | some (.slice e)=>match P.info? e with
          | some ie=>if (match ie.zero with | some z=>z.cells.size==ie.size | none=>false) then some (.append ie.size ie.bytes e,[x,y]) else none
          | none=>none
        | _=>none
       else none
     | _,_=>none
   | .builtin .min=>some (.minmax false,c.args.toList)
   | .builtin .max=>some (.minmax true,c.args.toList)
   | _=>none
 | _=>none
def strN (s:String):Nat:=s.toList.foldl (fun a c=>a*1114112+c.toNat+1) 0
def opKr (P:Program) (o:Op):Option (K×List Operand) :=
 match o with
 | .index t x i=>match P.underlying t with
   | some .string=>some (.raw 9 t 0,[x,i])
   | _=>none
 | .slice t x lo hi none=>match P.underlying t with
   | some .string=>some (.raw 10 (lo.toList.length+2*hi.toList.length) t,x::(lo.toList++hi.toList))
   | _=>none
 | .lookup t x k false=>some (.raw 11 t 0,[x,k])
 | .lookup t x k true=>some (.raw 25 t 0,[x,k])
 | .mapUpdate t m k v=>some (.raw 12 t 0,[m,k,v])
 | .insert t m k v=>some (.raw 12 t 0,[m,k,v])
 | .makeMap t none=>some (.raw 13 t 0,[])
 | .range t x=>some (.raw 15 t 0,[x])
 | .makeInterface t x=>some (.raw 20 t 0,[x])
 | .typeAssert x t u false=>some (.raw 21 t u,[x])
 | .typeAssert x t u true=>some (.raw 22 t u,[x])
 | .panic x=>some (.raw 18 0 0,[x])
 | .makeFunc (.method m) first captured=>some (.raw 24 (strN m) first.size,first.toList++captured.toList)
 | .binOp .eql t x y _=>some (.raw 19 0 t,[x,y])
 | .binOp .neq t x y _=>some (.raw 19 1 t,[x,y])
 | .call c=>match c.callee,c.args.toList,c.argTypes.toList with
   | .invoke r m,l,_=>some (.raw 23 (strN m) 0,r::l)
   | .builtin .len,[x],[t]=>match P.underlying t with
     | some (.map _ _)=>some (.raw 14 t 0,[x])
     | _=>none
   | _,_,_=>none
 | _=>none
def opK (P:Program) (o:Op):Option (K×List Operand) :=
 match opK0 P o with
 | some r=>some r
 | none=>opKr P o
def Dv:K→Nat
 | .raw a _ _=>a
 | _=>0
theorem A9g {P:Program} {o:Op} {k:K} {os:List Operand} (h:opKr P o=some (k,os)):9≤Dv k∧∃a b c,k=.raw a b c:=by
 cases o<;>simp only [opKr] at h<;>(try (cases h;done))<;>(try (repeat' (split at h<;>(try (cases h;done)))))
 all_goals (cases h;exact ⟨by simp [Dv],_,_,_,rfl⟩)
theorem Vt {P:Program} {o:Op} {k:K} {os:List Operand} (h:opK P o=some (k,os)):opK0 P o=some (k,os)∨opKr P o=some (k,os):=by
 unfold opK at h;cases h0:opK0 P o with
 | some r=>rw [h0] at h;exact .inl h
 | none=>rw [h0] at h;exact .inr h
theorem Dw {P:Program} {o:Op} {k:K} {os:List Operand} (h:opK P o=some (k,os)) (ht:Dv k<9):opK0 P o=some (k,os):=by
 rcases Vt h with h | h
 ·exact h
 ·have:=(A9g h).1;omega
theorem Gq {a b c d:Nat} {vs:List V} {σ:FSt}:Bl (.raw a b c) d vs σ=none:=by
 unfold Bl;rfl
def FSt.eff (σ:FSt) (e:Eff):FSt :=
 e.wr.foldl (fun σ p=>σ.set (.row p.1) (.r p.2.1 p.2.2.1 p.2.2.2)) (e.wb.foldl (fun σ p=>σ.set (.bx p.1) (.b p.2)) σ)
@[simp] theorem FSt.eff_nil (σ:FSt) (pre:Prop) (v:V) (rb rr:List Nat):σ.eff {pre:=pre,v:=v,wb:=[],wr:=[],rb:=rb,rr:=rr}=σ:=rfl
def Done (P:Program) (nt:Nat) (S:Sur) (log:List (List V)) (stp:Bool) (σ:FSt) (a:Act) (w:World) (h:Gh) (o:Oper) (eff:Eff):Prop :=
 ∃x w' h',((execOp a.eval o).run P w=.ok (.value x) w'∨((execOp a.eval o).run P w=.ok .skip w'∧x=undef)) ∧
  Rel nt S log stp (σ.eff eff) a w' h'∧Ok (σ.eff eff) h' w' eff.v x∧h'.y=h.y
section
variable {P:Program} {nt:Nat} {S:Sur} {log:List (List V)} {stp:Bool} {σ:FSt} {a:Act} {w:World} {h:Gh} {o:Oper} {eff:Eff}
theorem Done.pure (R:Rel nt S log stp σ a w h) {x:Value} {v:V} {pre:Prop} {rb rr:List Nat} (hr:(execOp a.eval o).run P w=.ok (.value x) w) (hv:Ok σ h w v x) :
  Done P nt S log stp σ a w h o {pre:=pre,v:=v,rb:=rb,rr:=rr} :=
 ⟨x,w,h,.inl hr,R,hv,rfl⟩
theorem Dx {k:IntKind} {n:Int} {x:Value} (o:Ok σ h w (.int k n) x):x=.int k n:=by
 obtain ⟨r,_⟩:=o;cases r with
 | data r=>cases r;rfl
theorem Jr {b:Bool} {x:Value} (o:Ok σ h w (.bool b) x):x=.bool b:=by
 obtain ⟨r,_⟩:=o;cases r with
 | data r=>cases r;rfl
theorem Vw {b:ByteArray} {x:Value} (o:Ok σ h w (.str b) x):x=.string b:=by
 obtain ⟨r,_⟩:=o;cases r with
 | data r=>cases r;rfl
theorem Ku {x:Value} (o:Ok σ h w .nils x):x=.slice none 0 0:=by
 obtain ⟨r,_⟩:=o;cases r with
 | data r=>cases r;rfl
theorem Z4 {b off:Nat} {x:Value} (o:Ok σ h w (.ptr b off) x):∃blk,h.β b=some blk∧x=.pointer (some ⟨blk,off,none⟩):=by
 obtain ⟨r,_⟩:=o;cases r with
 | data r=>cases r
 | ptr _ _ blk hb=>exact ⟨blk,hb,rfl⟩
theorem Q4 {cs:List V} {x:Value} (o:Ok σ h w (.agg cs) x):∃vs,x=.agg vs∧cs.length=vs.size∧∀(i:Nat) v y,cs[i]?=some v→vs[i]?=some y→Rep w h.φ h.β h.y.l v y∧Grow σ h w v y:=by
 obtain ⟨r,g⟩:=o;cases r with
 | data r =>
   cases r with
   | agg _ vs hl hh=>exact ⟨vs,rfl,hl,fun i v y hv hy=>⟨.data (hh i v y hv hy),g i v y hv hy⟩⟩
 | agg _ vs hl hh=>exact ⟨vs,rfl,hl,fun i v y hv hy=>⟨hh i v y hv hy,g i v y hv hy⟩⟩
theorem Ff {r sz:Nat} {xs:List V} {x:Value} (o:Ok σ h w (.slice r sz xs) x):RepD w h.φ (.slice 0 sz xs) x:=by
 obtain ⟨q,_⟩:=o;cases q with
 | data q=>cases q with
   | slice0=>exact .slice0 sz _ _
   | slice _ _ blk off len cap cv h0 hl hc hs hm hr=>exact .slice sz xs blk off len cap cv h0 hl hc hs hm hr
 | named _ _ _ _ q=>exact q
theorem ok_bsl {b off sz n:Nat} {x:Value} (o:Ok σ h w (.bsl b off sz n) x):∃blk cap,h.β b=some blk∧x=.slice (some ⟨blk,off,none⟩) n cap∧n≤cap:=by
 obtain ⟨r,_⟩:=o;cases r with
 | data r=>cases r
 | bsl _ _ _ _ cap blk hb hc=>exact ⟨blk,cap,hb,rfl,hc⟩
theorem Vu {cs:List V} {off:Nat} {x:Value} (o:Ok σ h w (.vptr cs off) x):∃(blk b0:Nat) (cv:Nat→Value),x=.pointer (some ⟨blk,b0+off,none⟩) ∧
  (∀(j:Nat) v,cs[j]?=some v→b0+j<h.φ blk∧w.cell? ⟨blk,b0+j,none⟩=some (cv j)∧Af v=true)∧(∀(j:Nat) v,cs[j]?=some v→RepD w h.φ v (cv j)):=by
 obtain ⟨q,_⟩:=o;cases q with
 | data q=>cases q with
   | vptr _ _ blk b0 cv hm hr=>exact ⟨blk,b0,cv,rfl,hm,hr⟩
theorem A00 {v:V} {x:Value} (hr:Rep w h.φ h.β h.y.l v x) (hg:Grow σ h w v x) (hs:Af v=true):Ok σ h w v x:=by
 refine ⟨hr,fun j u z hu hz=>?_⟩;have hc:cells v=[v]:=by cases v<;>first | rfl | (simp [Af] at hs)
 have hx:x.cells=#[x]:=by
  cases hr with
  | data r=>cases r<;>first | rfl | (simp [Af] at hs)
  | agg=>simp [Af] at hs
  | tuple=>simp [Af] at hs
  | cond=>simp [Af] at hs
  | named r sz xs x r=>cases r<;>rfl
  | tok k l x h hx=>obtain ⟨_,_,_,_,h | h | h⟩:=hx<;>(obtain ⟨_,rfl⟩:=h;rfl)
  | _=>rfl
 rw [hc] at hu;rw [hx] at hz;cases j with
 | zero=>simp at hu hz;subst hu hz;exact hg
 | succ j=>simp at hu
theorem Cr {w:World} {φ:Nat→Nat} {β:Nat→Option Nat} {y:Option Nat} {v:V} {x:Value} (hr:Rep w φ β y v x) (hs:Af v=true):x.oneCell'=true∧x.cells=#[x]:=by
 cases hr with
 | data r=>cases r<;>first | exact ⟨rfl,rfl⟩ | (simp [Af] at hs)
 | agg=>simp [Af] at hs
 | tuple=>simp [Af] at hs
 | cond=>simp [Af] at hs
 | named r sz xs x r=>cases r<;>exact ⟨rfl,rfl⟩
 | tok k l x h hx=>obtain ⟨_,_,_,_,h | h | h⟩:=hx<;>(obtain ⟨_,rfl⟩:=h;exact ⟨rfl,rfl⟩)
 | _=>exact ⟨rfl,rfl⟩
theorem Ok.cells {v:V} {x:Value} (o:Ok σ h w v x) (hs:(cells v).all Af=true):(Am.cells v).length=x.cells.size ∧
  ∀(i:Nat) u z,(Am.cells v)[i]?=some u→x.cells[i]?=some z→Rep w h.φ h.β h.y.l u z∧Grow σ h w u z∧Af u=true:=by
 have hsc:∀(i:Nat) u,(Am.cells v)[i]?=some u→Af u=true:=fun i u hu=>by
  rw [List.all_eq_true] at hs;exact hs u (List.mem_of_getElem? hu)
 by_cases ha:∃cs,v=.agg cs
 ·obtain ⟨cs,rfl⟩:=ha;obtain ⟨vs,rfl,hl,hh⟩:=Q4 o;exact ⟨hl,fun i u z hu hz=>⟨(hh i u z hu hz).1,(hh i u z hu hz).2,hsc i u hu⟩⟩
 ·have hc:Am.cells v=[v]:=by cases v<;>first | rfl | exact absurd ⟨_,rfl⟩ ha
  have hv:=hsc 0 v (by rw [hc];rfl);have hx:=Cr o.1 hv;rw [hc,hx.2];refine ⟨rfl,fun i u z hu hz=>?_⟩;cases i with
  | zero=>simp at hu hz;subst hu hz;exact ⟨o.1,o.2 0 v x (by rw [hc];rfl) (by rw [hx.2];rfl),hv⟩
  | succ i=>simp at hu
theorem Kj {w:World} {φ:Nat→Nat} {β:Nat→Option Nat} {y:Option Nat} {b:Bool} {x:Value} (hr:Rep w φ β y (.bool b) x):x=.bool b:=by
 cases hr with
 | data r=>cases r;rfl
theorem done_mov {p:Operand} {v:V} (R:Rel nt S log stp σ a w h) (ho:o.op=.move p∨o.op=.assign p) (hv:Ok σ h w v (a.eval p)):Done P nt S log stp σ a w h o {v:=v} :=
 Done.pure R (x:=a.eval p) (by rcases ho with ho | ho<;>simp [execOp,ho]) hv
theorem Agn {dd:Nat} {p q r:Operand} {u v z:V} (R:Rel nt S log stp σ a w h) (ho:o.op=.pick p q r) (hu:Ok σ h w u (a.eval p)) (hv:Ok σ h w v (a.eval q)) (hz:Ok σ h w z (a.eval r))
  (he:Bl .pick dd [u,v,z] σ=some eff) (hp:eff.pre):Done P nt S log stp σ a w h o eff:=by
 cases u<;>(try (simp [Bl] at he;done));rename_i c;have h1:=Jr hu;cases v<;>(try (simp [Bl] at he;done))
 ·rename_i x;have h2:=Jr hv;cases z<;>(try (simp [Bl] at he;done))
  ·rename_i y;have h3:=Jr hz;simp only [Bl,Option.some.injEq] at he;subst he;refine Done.pure R (x:=.bool (bif c then x else y)) ?_ (.data (.bool _));cases c<;>simp [execOp,ho,h1,h2,h3,asBool]
  ·rename_i pp y;cases y<;>(try (simp [Bl] at he;done));rename_i y;simp only [Bl,Option.some.injEq] at he;subst he;refine Done.pure R (x:=.bool (bif c then x else y)) ?_ (.data (.bool _));cases c with
   | true=>simp [execOp,ho,h1,h2,asBool]
   | false =>
     obtain ⟨hr,_⟩:=hz;cases hr with
     | data r=>cases r
     | cond _ _ _ hc _ =>
       have h3:=Kj (hc (hp rfl));simp [execOp,ho,h1,h3,asBool]
 ·rename_i pp x;cases x<;>(try (cases z<;>simp [Bl] at he;done));rename_i x;cases z<;>(try (simp [Bl] at he;done));rename_i y;have h3:=Jr hz;simp only [Bl,Option.some.injEq] at he;subst he;refine Done.pure R (x:=.bool (bif c then x else y)) ?_ (.data (.bool _));cases c with
  | false=>simp [execOp,ho,h1,h3,asBool]
  | true =>
    obtain ⟨hr,_⟩:=hv;cases hr with
    | data r=>cases r
    | cond _ _ _ hc _ =>
      have h2:=Kj (hc (hp rfl));simp [execOp,ho,h1,h2,asBool]
end
end
section
open Go.RowKit
section
variable {P:Program} {nt:Nat} {S:Sur} {log:List (List V)} {stp:Bool} {σ:FSt} {a:Act} {w:World} {h:Gh} {o:Oper} {eff:Eff}
theorem Ds {t n:Nat} (ht:szOf P t=some n) (w:World):(sizeOf t).run P w=.ok n w:=by
 simp only [szOf,Option.map_eq_some_iff] at ht;obtain ⟨i,hi,rfl⟩:=ht;simp [sizeOf,typeInfo,hi]
theorem A94 {t:TypeId} {d:TypeDesc} (ht:P.underlying t=some d) (w:World):(isAgg t).run P w=.ok (aggB P t) w:=by
 simp only [isAgg,Sem.run_bind,run_underlying ht,Result.andThen_ok,aggB,ht];cases d<;>rfl
theorem Eh {α:Type} {n i:Nat} {f:Nat→α} {x:α} (hx:((List.range n).map f)[i]?=some x):i<n∧x=f i:=by
 rw [List.getElem?_map,Option.map_eq_some_iff] at hx;obtain ⟨k,hk,rfl⟩:=hx;obtain ⟨hlt,hk⟩:=List.getElem?_eq_some_iff.1 hk;simp at hlt hk;subst hk;exact ⟨hlt,rfl⟩
theorem Acn {e:TypeId} {i:TypeInfo} {z:Value} {zs:List V} {d:Nat} (R:Rel nt S log stp σ a w h) (hS:S.ok) (ho:o.op=.alloc e) (hi:P.info? e=some i) (hz:i.zero=some z)
  (hzs:K9 z.cells.toList=some zs) (hd:σ.b d=none):Done P nt S log stp σ a w h o {v:=.ptr d 0,wb:=[(d,⟨zs,false⟩)],rb:=[d]}:=by
 obtain ⟨h1,h2⟩:=Ft (w:=w) (φ:=h.φ) hzs;have R1:=R.newBox (e:=e) (cs:=z.cells) hS hd (by rw [h1];simp) (fun j v x hv hx=>by
  obtain ⟨q,s⟩:=h2 j v x hv (by simpa using hx);exact ⟨.data q,D5 q,s⟩)
 refine ⟨.pointer (some ⟨w.heap.size,0,none⟩),_,_,.inl ?_,R1,?_,rfl⟩
 ·simp [execOp,ho,Instr.alloc,zeroValue,typeInfo,hi,hz,newVar,newRow]
 ·refine ⟨.ptr d 0 _ (by simp),fun j u z hu hz=>?_⟩;cases j with
  | zero=>simp [cells] at hu;subst hu;intro r sz xs e;cases e
  | succ j=>simp [cells] at hu
theorem done_box {e:TypeId} {p:Operand} {v:V} {d:Nat} (R:Rel nt S log stp σ a w h) (hS:S.ok) (ho:o.op=.box e p) (hv:Ok σ h w v (a.eval p)) (hs:(cells v).all Af=true) (hd:σ.b d=none)
  {pre:Prop}:Done P nt S log stp σ a w h o {pre:=pre,v:=.ptr d 0,wb:=[(d,⟨cells v,false⟩)],rb:=[d]}:=by
 obtain ⟨h1,h2⟩:=hv.cells hs;have R1:=R.newBox (e:=e) (cs:=(a.eval p).cells) hS hd (Nat.le_of_eq h1) h2;refine ⟨.pointer (some ⟨w.heap.size,0,none⟩),_,_,.inl ?_,R1,?_,rfl⟩
 ·simp [execOp,ho,Instr.box,newVar,newRow]
 ·refine ⟨.ptr d 0 _ (by simp),fun j u z hu hz=>?_⟩;cases j with
  | zero=>simp [cells] at hu;subst hu;intro r sz xs e;cases e
  | succ j=>simp [cells] at hu
theorem Gb {t n:Nat} {d:TypeDesc} {b off:Nat} {cs:List Value} {x:Value} (hn:szOf P t=some n) (hd:P.underlying t=some d) (hl:cs.length=n)
  (hc:∀(j:Nat) v,cs[j]?=some v→w.cell? ⟨b,off+j,none⟩=some v) (hx:(if aggB P t then x=.agg cs.toArray else cs=[x])) :
  (Instr.loadAt t (.pointer (some ⟨b,off,none⟩))).run P w=.ok x w:=by
 simp only [Instr.loadAt,Instr.sureAddr,Sem.run_bind,Sem.run_pure,Result.andThen_ok,loadVar,A94 hd];split at hx
 ·rename_i hag;simp only [hag,if_true,Sem.run_bind,Ds hn,Result.andThen_ok];subst hl;rw [run_loadCells_list w ⟨b,off,none⟩ cs (fun j v hv=>by rw [Addr.add_lit];exact hc j v hv)];simp [hx]
 ·rename_i hag;subst hx;have:=hc 0 x rfl;simp only [Nat.add_zero] at this;simp [hag,this]
theorem Vy {agg:Bool} {n:Nat} {l:List V} {f:Nat→Value} (hn:n≤l.length) (h1:agg=false→n=1)
  (hr:∀(j:Nat) v,l[j]?=some v→Rep w h.φ h.β h.y.l v (f j)∧Grow σ h w v (f j)∧Af v=true) :
  ∃x,(if agg then x=.agg ((List.range n).map f).toArray else (List.range n).map f=[x])∧Ok σ h w (mkv agg n l) x:=by
 cases agg with
 | true =>
   refine ⟨_,rfl,?_⟩;refine ⟨.agg _ _ (by simp;omega) fun i v x hv hx=>?_,fun i v x hv hx=>?_⟩
   all_goals
    first
     | (simp only [List.getElem?_take] at hv;done)
     | (simp only [mkv,cond_true,cells,List.getElem?_take] at hv)
     | skip
    split at hv<;>(try (cases hv;done));obtain ⟨_,rfl⟩:=Eh (show ((List.range n).map f)[i]?=some x by simpa [Value.cells] using hx)
   ·exact (hr i v hv).1
   ·exact (hr i v hv).2.1
 | false =>
   have:=h1 rfl;subst this;cases l with
   | nil=>simp at hn
   | cons v r =>
     obtain ⟨p,q,s⟩:=hr 0 v rfl;exact ⟨f 0,by simp [List.range_succ],by simpa [mkv] using A00 p q s⟩
theorem A1k {t n:Nat} {d:TypeDesc} {p:Operand} {b off:Nat} {bo:Box} (R:Rel nt S log stp σ a w h) (ho:o.op=.load t p) (hn:szOf P t=some n) (hd:P.underlying t=some d)
  (h1:aggB P t=false→n=1) (hp:Ok σ h w (.ptr b off) (a.eval p)) (hb:σ.b b=some bo) (hle:off+n≤bo.cs.length) {pre:Prop} {rb:List Nat} :
  Done P nt S log stp σ a w h o {pre:=pre,v:=mkv (aggB P t) n (bo.cs.drop off),rb:=rb}:=by
 obtain ⟨blk,hβ,hx⟩:=Z4 hp;obtain ⟨blk',cs,e,hβ',hM,hh,hsz,hz,hφ⟩:=R.bx b bo hb;rw [hβ] at hβ';cases hβ';obtain ⟨x,hx1,hx2⟩:=Vy (σ:=σ) (h:=h) (w:=w) (agg:=aggB P t) (n:=n) (l:=bo.cs.drop off) (f:=fun j=>cs.getD (off+j) undef) (by simp;omega) h1 (fun j v hv=>by
  rw [List.getElem?_drop] at hv;have hlt:off+j<cs.size:=by
   have:=(List.getElem?_eq_some_iff.1 hv).1;omega
  exact hz (off+j) v _ hv (by simp [hlt]))
 refine Done.pure R (x:=x) ?_ hx2;simp only [execOp,ho,hx,Sem.run_bind];rw [Gb (cs:=(List.range n).map fun j=>cs.getD (off+j) undef) hn hd (by simp) (fun j v hv=>by
  obtain ⟨hj,rfl⟩:=Eh hv;rw [cell_of_row w blk (off+j) cs e (0,0) hh];have:off+j<cs.size:=by omega
  simp [this]) hx1]
 rfl
theorem Y0 {t n:Nat} {d:TypeDesc} {p:Operand} {cs:List V} {off:Nat} (R:Rel nt S log stp σ a w h) (ho:o.op=.load t p) (hn:szOf P t=some n) (hd:P.underlying t=some d)
  (h1:aggB P t=false→n=1) (hp:Ok σ h w (.vptr cs off) (a.eval p)) (hle:off+n≤cs.length) {pre:Prop} :
  Done P nt S log stp σ a w h o {pre:=pre,v:=mkv (aggB P t) n (cs.drop off)}:=by
 obtain ⟨blk,b0,cv,hx,hm,hr⟩:=Vu hp;obtain ⟨x,hx1,hx2⟩:=Vy (σ:=σ) (h:=h) (w:=w) (agg:=aggB P t) (n:=n) (l:=cs.drop off) (f:=fun j=>cv (off+j)) (by simp;omega) h1 (fun j v hv=>by
  rw [List.getElem?_drop] at hv;exact ⟨.data (hr _ v hv),D5 (hr _ v hv),(hm _ v hv).2.2⟩)
 refine Done.pure R (x:=x) ?_ hx2;simp only [execOp,ho,hx,Sem.run_bind];rw [Gb (cs:=(List.range n).map fun j=>cv (off+j)) hn hd (by simp) (fun j v hv=>by
  obtain ⟨hj,rfl⟩:=Eh hv;have hlt:off+j<cs.length:=by omega
  have:=(hm (off+j) _ (List.getElem?_eq_getElem hlt)).2.1;rw [←this,Nat.add_assoc]) hx1]
 rfl
theorem Yq {cs new:List V} {off:Nat} (hl:off+new.length≤cs.length):(Aq cs off new).length=cs.length:=by
 simp [Aq];omega
theorem Ga {α:Type} {cs new:List α} {off:Nat} (hl:off+new.length≤cs.length) (j:Nat) :
  (cs.take off++new++cs.drop (off+new.length))[j]?=if j<off then cs[j]? else if j<off+new.length then new[j-off]? else cs[j]?:=by
 by_cases h1:j<off
 ·rw [if_pos h1,List.append_assoc,List.getElem?_append_left (by simp;omega),List.getElem?_take,if_pos h1]
 ·rw [if_neg h1];by_cases h2:j<off+new.length
  ·rw [if_pos h2,List.getElem?_append_left (by simp;omega),List.getElem?_append_right (by simp;omega)];congr 1;simp;omega
  ·rw [if_neg h2,List.getElem?_append_right (by simp;omega),List.getElem?_drop];congr 1;simp;omega
theorem Ach {t n:Nat} {p q:Operand} {b off:Nat} {zs:List V} {v:V} (R:Rel nt S log stp σ a w h) (hS:S.ok) (ho:o.op=.store t p q) (hn:szOf P t=some n)
  (hp:Ok σ h w (.ptr b off) (a.eval p)) (hv:Ok σ h w v (a.eval q)) (hb:σ.b b=some ⟨zs,false⟩) (h1:(cells v).length=n) (h2:off+n≤zs.length) (h3:(cells v).all Af=true) {pre:Prop} {rb:List Nat} :
  Done P nt S log stp σ a w h o {pre:=pre,v:=Cz,wb:=[(b,⟨Aq zs off (cells v),false⟩)],rb:=rb}:=by
 obtain ⟨blk,hβ,hx⟩:=Z4 hp;obtain ⟨blk',cs,e,hβ',hM,hh,hsz,hz,hφ⟩:=R.bx b _ hb;rw [hβ] at hβ';cases hβ';obtain ⟨c1,c2⟩:=hv.cells h3;simp only at hsz hz;have hone:∀u∈(a.eval q).cells.toList,u.oneCell'=true:=fun u hu=>by
  obtain ⟨i,hi⟩:=List.getElem?_of_mem hu;have hlt:=(List.getElem?_eq_some_iff.1 hi).1;have hlt':i<(cells v).length:=by rw [c1];simpa using hlt
  obtain ⟨r1,r2,r3⟩:=c2 i _ u (List.getElem?_eq_getElem hlt') (by simpa using hi);exact (Cr r1 r3).1
 have hrun:=run_storeCells_at P blk off e (a.eval q).cells.toList 0 cs w hh (by simp;omega) hone;simp only [Nat.add_zero] at hrun;have hlen:(a.eval q).cells.toList.length=(cells v).length:=by rw [c1];simp
 have hcl:zs.length≤cs.toList.length:=by simpa using hsz
 have hle:off+(cells v).length≤zs.length:=by omega
 have R1:=R.setBox (zs:=Aq zs off (cells v)) (e:=e) hS hb hβ (setRow_heap w blk cs (cs.toList.take off++(a.eval q).cells.toList++cs.toList.drop (off+(a.eval q).cells.toList.length)).toArray e (0,0) hh) (fun k hk=>setRow_other w blk k _ hk) (by simp) rfl rfl rfl (by rw [Yq hle];simp;omega) (fun j u z hu hz'=>by
    rw [Aq,Ga hle] at hu;have hz2:=hz';rw [List.getElem?_toArray,Ga (by omega),hlen] at hz2;split at hu
    ·rename_i h4;rw [if_pos h4] at hz2;exact hz j u z hu (by simpa using hz2)
    ·rename_i h4;rw [if_neg h4] at hz2;split at hu
     ·rename_i h5;rw [if_pos h5] at hz2;exact c2 _ u z hu (by simpa using hz2)
     ·rename_i h5;rw [if_neg h5] at hz2;exact hz j u z hu (by simpa using hz2))
 refine ⟨undef,_,_,.inr ⟨?_,rfl⟩,R1,⟨.tuple [] #[] rfl (fun i v x h=>by simp at h),fun j u z hu hz=>?_⟩,rfl⟩
 ·simp only [execOp,ho,hx,Instr.storeAt,Instr.sureAddr,Sem.run_bind,Sem.run_pure,Result.andThen_ok,storeVar,Ds hn];rw [if_neg (by rw [←c1,h1];simp)];rw [hrun];rfl
 ·cases j with
  | zero=>simp [cells,Cz] at hu;subst hu;intro r sz xs e;cases e
  | succ j=>simp [cells,Cz] at hu
theorem A65 {op:BinOp} {t:TypeId} {x y:Operand} {k:IntKind} {m n:Int} (he:A4s op k m n=some eff) (hp:eff.pre) :
  (do eqGuard op t x y (.int k m) (.int k n);binOp op t (.int k m) (.int k n):Sem Value).run P w=.ok (match eff.v with | .int k v=>.int k v | .bool b=>.bool b | _=>undef) w∧eff.wb=[]∧eff.wr=[] ∧
    ((∃k v,eff.v=.int k v)∨∃b,eff.v=.bool b):=by
 cases op<;>simp only [A4s] at he<;>(try (cases he;done))<;>cases he <;>
  refine ⟨?_,rfl,rfl,(by first | exact .inl ⟨_,_,rfl⟩ | exact .inr ⟨_,rfl⟩)⟩ <;>
  simp_all [eqGuard,binOp,Op.intArith,Op.intDiv,Op.intBits,Op.intCmp,Uc]
theorem A47 {op:BinOp} {t u:TypeId} {p q:Operand} {k:IntKind} {m n:Int} (R:Rel nt S log stp σ a w h) (ho:o.op=.binOp op t p q u) (hp:Ok σ h w (.int k m) (a.eval p)) (hq:Ok σ h w (.int k n) (a.eval q))
  (he:A4s op k m n=some eff) (hpre:eff.pre):Done P nt S log stp σ a w h o eff:=by
 obtain ⟨h1,h2,h3,h4⟩:=A65 (P:=P) (w:=w) (t:=t) (x:=p) (y:=q) he hpre;obtain ⟨pre,v,wb,wr,rb,rr⟩:=eff;simp only at h2 h3 h4 h1;subst h2 h3;rcases h4 with ⟨k',v',rfl⟩ | ⟨b,rfl⟩
 ·refine Done.pure R (x:=.int k' v') ?_ (.data (.int _ _));simp only [execOp,ho,Dx hp,Dx hq,Sem.run_bind] at h1 ⊢;rw [h1];rfl
 ·refine Done.pure R (x:=.bool b) ?_ (.data (.bool _));simp only [execOp,ho,Dx hp,Dx hq,Sem.run_bind] at h1 ⊢;rw [h1];rfl
theorem Aci {op:BinOp} {t u:TypeId} {p q:Operand} {k k':IntKind} {m n:Int} (R:Rel nt S log stp σ a w h) (ho:o.op=.binOp op t p q u) (hp:Ok σ h w (.int k m) (a.eval p)) (hq:Ok σ h w (.int k' n) (a.eval q))
  (he:Aed op k m n=some eff) (hpre:eff.pre):Done P nt S log stp σ a w h o eff:=by
 cases op<;>simp only [Aed] at he<;>(try (cases he;done))<;>cases he<;>simp only at hpre
 ·refine Done.pure R (x:=.int k (k.wrap (m*2^(min n.toNat k.bits)))) ?_ (.data (.int _ _));have:¬n<0:=by omega
  simp [execOp,ho,Dx hp,Dx hq,eqGuard,binOp,Op.shift,this]
 ·refine Done.pure R (x:=.int k (m.fdiv (2^(min n.toNat k.bits)))) ?_ (.data (.int _ _));have:¬n<0:=by omega
  simp [execOp,ho,Dx hp,Dx hq,eqGuard,binOp,Op.shift,this]
theorem Ny {t:TypeId} (ht:P.underlying t=some .bool) (x y:Bool):(Op.equal t (.bool x) (.bool y)).run P w=.ok (x==y) w:=by
 have key:∀n:Nat,(Op.equalIn (n+1) t (.bool x) (.bool y)).run P w=.ok (x==y) w:=fun n=>by
  simp only [Op.equalIn,Sem.run_bind,run_underlying ht,Result.andThen_ok];rfl
 exact key 9999
theorem Agq {neg:Bool} {op:BinOp} {t u:TypeId} {p q:Operand} {x y:Bool} (R:Rel nt S log stp σ a w h) (ho:o.op=.binOp op t p q u) (hop:op=.eql∨op=.neq) (hneg:neg=(op==.neq)) (ht:P.underlying t=some .bool)
  (hp:Ok σ h w (.bool x) (a.eval p)) (hq:Ok σ h w (.bool y) (a.eval q)):Done P nt S log stp σ a w h o {v:=.bool (bif neg then x != y else x==y)}:=by
 refine Done.pure R (x:=.bool (bif neg then x != y else x==y)) ?_ (.data (.bool _));rcases hop with rfl | rfl<;>subst hneg
 ·have e1:(eqGuard .eql t p q (.bool x) (.bool y)).run P w=.ok () w:=rfl;have e2:(binOp .eql t (.bool x) (.bool y)).run P w=.ok (.bool (x==y)) w:=by
   show (do pure (Value.bool (←Op.equal t (.bool x) (.bool y))):Sem Value).run P w=_;simp only [Sem.run_bind,Ny ht,Result.andThen_ok,Sem.run_pure]
  simp only [execOp,ho,Jr hp,Jr hq,Sem.run_bind,e1,e2,Result.andThen_ok,Sem.run_pure];rfl
 ·have e1:(eqGuard .neq t p q (.bool x) (.bool y)).run P w=.ok () w:=rfl;have e2:(binOp .neq t (.bool x) (.bool y)).run P w=.ok (.bool (!(x==y))) w:=by
   show (do pure (Value.bool (!(←Op.equal t (.bool x) (.bool y)))):Sem Value).run P w=_;simp only [Sem.run_bind,Ny ht,Result.andThen_ok,Sem.run_pure]
  simp only [execOp,ho,Jr hp,Jr hq,Sem.run_bind,e1,e2,Result.andThen_ok,Sem.run_pure];cases x<;>cases y<;>rfl
theorem Tf {op:BinOp} {t u:TypeId} {p q:Operand} {x y:ByteArray} (R:Rel nt S log stp σ a w h) (ho:o.op=.binOp op t p q u)
  (hp:Ok σ h w (.str x) (a.eval p)) (hq:Ok σ h w (.str y) (a.eval q)) :
  (op=.eql→Done P nt S log stp σ a w h o {v:=.bool (x.toList==y.toList)})∧(op=.neq→Done P nt S log stp σ a w h o {v:=.bool (x.toList != y.toList)}):=by
 constructor
 ·rintro rfl;refine Done.pure R (x:=.bool (x.toList==y.toList)) ?_ (.data (.bool _));simp [execOp,ho,Vw hp,Vw hq,eqGuard,binOp,Op.stringOp]
 ·rintro rfl;refine Done.pure R (x:=.bool (x.toList != y.toList)) ?_ (.data (.bool _));simp [execOp,ho,Vw hp,Vw hq,eqGuard,binOp,Op.stringOp,bne]
theorem done_un {dd:Nat} {op:UnOp} {t:TypeId} {p:Operand} {v:V} (R:Rel nt S log stp σ a w h) (ho:o.op=.unOp op t p) (hp:Ok σ h w v (a.eval p)) (he:Bl (.un op) dd [v] σ=some eff):Done P nt S log stp σ a w h o eff:=by
 cases op<;>cases v<;>simp only [Bl] at he<;>(try (cases he;done))<;>cases he
 ·rename_i k n;refine Done.pure R (x:=.int k (k.wrap (0-n))) ?_ (.data (.int _ _));simp [execOp,ho,Dx hp,Op.unary,Op.intArith]
 ·rename_i b;refine Done.pure R (x:=.bool (!b)) ?_ (.data (.bool _));simp [execOp,ho,Jr hp,Op.unary]
theorem Agp {src dst:TypeId} {p:Operand} {k k':IntKind} {n:Int} {k0:IntKind} (R:Rel nt S log stp σ a w h) (ho:o.op=.convert src dst p) (hs:P.underlying src=some (.int k0)) (hd:P.underlying dst=some (.int k)) (hp:Ok σ h w (.int k' n) (a.eval p)) :
  Done P nt S log stp σ a w h o {v:=.int k (k.wrap n)}:=by
 refine Done.pure R (x:=.int k (k.wrap n)) ?_ (.data (.int _ _));simp [execOp,ho,Dx hp,convert,run_underlying hs,run_underlying hd,Conv.intToInt]
theorem Opds.split {ps qs:List Operand} {vs:List V} (q:Opds σ h w a (ps++qs) vs):Opds σ h w a ps (vs.take ps.length)∧Opds σ h w a qs (vs.drop ps.length):=by
 induction ps generalizing vs with
 | nil=>exact ⟨.nil,by simpa using q⟩
 | cons p ps ih =>
   cases q with
   | cons o r =>
     obtain ⟨h1,h2⟩:=ih r;exact ⟨.cons o h1,h2⟩
theorem Opds.get {ps:List Operand} {vs:List V} (q:Opds σ h w a ps vs):vs.length=ps.length∧∀(i:Nat) v p,vs[i]?=some v→ps[i]?=some p→Ok σ h w v (a.eval p):=by
 induction q with
 | nil=>exact ⟨rfl,fun i v p hv=>by simp at hv⟩
 | cons o r ih =>
   refine ⟨by simp [ih.1],fun i v p hv hp=>?_⟩;cases i with
   | zero=>simp at hv hp;subst hv hp;exact o
   | succ i=>simp at hv hp;exact ih.2 i v p hv hp
theorem Opds.reps {ps:List Operand} {vs:List V} (q:Opds σ h w a ps vs):vs.length=(ps.toArray.map a.eval).size∧∀(i:Nat) v x,vs[i]?=some v→(ps.toArray.map a.eval)[i]?=some x→Rep w h.φ h.β h.y.l v x:=by
 obtain ⟨h1,h2⟩:=q.get;refine ⟨by simpa using h1,fun i v x hv hx=>?_⟩;simp at hx;obtain ⟨p,hp,rfl⟩:=hx;exact (h2 i v p hv hp).1
theorem K8 {v:V} {x:Value} (hr:Rep w h.φ h.β h.y.l v x) (hs:Af v=true) (hn:∀r sz xs,v≠.slice (r+1) sz xs):Ok σ h w v x :=
 A00 hr (fun r sz xs e=>absurd e (hn r sz xs)) hs
theorem A7d {f:FuncId} {first captured:Array Operand} {vs:List V} (R:Rel nt S log stp σ a w h) (ho:o.op=.makeFunc (.func f) first captured) (hv:Opds σ h w a (first.toList++captured.toList) vs) {pre:Prop} :
  Done P nt S log stp σ a w h o {pre:=pre,v:=.func (.func f) (vs.take first.size) (vs.drop first.size)}:=by
 obtain ⟨h1,h2⟩:=hv.split;obtain ⟨a1,a2⟩:=h1.reps;obtain ⟨b1,b2⟩:=h2.reps;refine Done.pure R (x:=.func (.func f) (first.map a.eval) (captured.map a.eval)) ?_ (K8 (.func _ _ _ _ _ (by simpa using a1) (by simpa using b1) (by simpa using a2) (by simpa using b2)) rfl (fun _ _ _ e=>by cases e));simp [execOp,ho,Instr.makeFunc]
theorem Acj {dd:Nat} {p:Operand} {v:V} (R:Rel nt S log stp σ a w h) (ho:o.op=.nilCheck p) (hp:Ok σ h w v (a.eval p)) (he:Bl .nilck dd [v] σ=some eff) (hfn:∀fn first cap,v=.func fn first cap→∃f,fn=.func f) :
  Done P nt S log stp σ a w h o eff:=by
 cases v<;>simp only [Bl] at he<;>(try (cases he;done))<;>cases he
 ·obtain ⟨blk,_,hx⟩:=Z4 hp;exact Done.pure R (x:=a.eval p) (by simp [execOp,ho,hx]) hp
 ·obtain ⟨blk,b0,cv,hx,_⟩:=Vu hp;exact Done.pure R (x:=a.eval p) (by simp [execOp,ho,hx]) hp
 ·obtain ⟨f,rfl⟩:=hfn _ _ _ rfl;have hx:∃f' c',a.eval p=.func (.func f) f' c':=by
   obtain ⟨r,_⟩:=hp;generalize a.eval p=z at r;cases r with
   | data r=>cases r;exact ⟨_,_,rfl⟩
   | func=>exact ⟨_,_,rfl⟩
  obtain ⟨f',c',hx⟩:=hx;exact Done.pure R (x:=a.eval p) (by simp [execOp,ho,hx]) hp
 ·have hx:∃l,a.eval p=.func (.yield l) #[] #[]:=by
   obtain ⟨r,_⟩:=hp;generalize a.eval p=z at r;cases r with
   | data r=>cases r
   | yld l _=>exact ⟨_,rfl⟩
  obtain ⟨l,hx⟩:=hx;exact Done.pure R (x:=a.eval p) (by simp [execOp,ho,hx]) hp
theorem Sc {cs:List V} {off blk b0:Nat} {cv:Nat→Value} (hm:∀(j:Nat) v,cs[j]?=some v→b0+j<h.φ blk∧w.cell? ⟨blk,b0+j,none⟩=some (cv j)∧Af v=true)
  (hr:∀(j:Nat) v,cs[j]?=some v→RepD w h.φ v (cv j)):Ok σ h w (.vptr cs off) (.pointer (some ⟨blk,b0+off,none⟩)):=.data (.vptr cs off blk b0 cv hm hr)
theorem Vx {b off blk:Nat} (hb:h.β b=some blk):Ok σ h w (.ptr b off) (.pointer (some ⟨blk,off,none⟩)) :=
 K8 (.ptr b off blk hb) rfl (fun _ _ _ e=>by cases e)
theorem Ki {t n:Nat} {fs:Array Field} {f:Nat} {fd:Field} {blk off:Nat} (ht:P.underlying t=some (.struct fs)) (hf:fs[f]?=some fd) (hn:szOf P fd.type=some n) (h0:n≠0) :
  (Instr.fieldAt t (.pointer (some ⟨blk,off,none⟩)) f).run P w=.ok (.pointer (some ⟨blk,off+fd.offset,none⟩)) w:=by
 simp [Instr.fieldAt,run_underlying ht,hf,Instr.sureAddr,fieldPlace,Ds hn,h0,Addr.add_lit]
theorem Acl {dd:Nat} {t n:Nat} {p:Operand} {fs:Array Field} {f:Nat} {fd:Field} {v:V} (R:Rel nt S log stp σ a w h) (ho:o.op=.fieldAddr t p f) (ht:P.underlying t=some (.struct fs)) (hf:fs[f]?=some fd) (hn:szOf P fd.type=some n) (h0:n≠0)
  (hp:Ok σ h w v (a.eval p)) (he:Bl (.faddr fd.offset) dd [v] σ=some eff):Done P nt S log stp σ a w h o eff:=by
 cases v<;>simp only [Bl] at he<;>(try (cases he;done))<;>cases he
 ·obtain ⟨blk,hb,hx⟩:=Z4 hp;exact Done.pure R (by simp only [execOp,ho,hx,Sem.run_bind,Ki ht hf hn h0];rfl) (Vx hb)
 ·obtain ⟨blk,b0,cv,hx,hm,hr⟩:=Vu hp;refine Done.pure R (by simp only [execOp,ho,hx,Sem.run_bind,Ki ht hf hn h0];rfl) ?_;rw [Nat.add_assoc];exact Sc hm hr
theorem Yu {t e len sz:Nat} {blk off:Nat} {k:IntKind} {i:Int} (ht:P.underlying t=some (.array len e)) (hs:szOf P e=some sz) (h1:0≤i) (h2:i<len) :
  (Instr.indexAt t (.pointer (some ⟨blk,off,none⟩)) (.int k i)).run P w=.ok (.pointer (some ⟨blk,off+i.toNat*sz,none⟩)) w:=by
 simp [Instr.indexAt,asIntOf,run_underlying ht,Instr.sureAddr,Ds hs,h1,h2,Addr.add_lit]
theorem A7f {dd:Nat} {t e len sz:Nat} {p q:Operand} {v:V} {k:IntKind} {i:Int} (R:Rel nt S log stp σ a w h) (ho:o.op=.indexAddr t p q) (ht:P.underlying t=some (.array len e)) (hs:szOf P e=some sz)
  (hp:Ok σ h w v (a.eval p)) (hq:Ok σ h w (.int k i) (a.eval q)) (he:Bl (.iaddrA len sz) dd [v,.int k i] σ=some eff) (hpre:eff.pre):Done P nt S log stp σ a w h o eff:=by
 cases v<;>simp only [Bl] at he<;>(try (cases he;done))<;>cases he<;>simp only at hpre
 ·obtain ⟨blk,hb,hx⟩:=Z4 hp;exact Done.pure R (by simp only [execOp,ho,hx,Dx hq,Sem.run_bind,Yu ht hs hpre.1 hpre.2];rfl) (Vx hb)
 ·obtain ⟨blk,b0,cv,hx,hm,hr⟩:=Vu hp;refine Done.pure R (by simp only [execOp,ho,hx,Dx hq,Sem.run_bind,Yu ht hs hpre.1 hpre.2];rfl) ?_;rw [Nat.add_assoc];exact Sc hm hr
theorem Us {sz:Nat}:∀{xs:List V} (hs:∀x∈xs,(cells x).length=sz) (i:Nat) (x:V),xs[i]?=some x→∀(j:Nat) v,(cells x)[j]?=some v→(xs.flatMap cells)[i*sz+j]?=some v
 | [],_,i,x,hx,j,v,hv=>by simp at hx
 | y::ys,hs,0,x,hx,j,v,hv=>by
   simp at hx;subst hx;simp only [List.flatMap_cons,Nat.zero_mul,Nat.zero_add];rw [List.getElem?_append_left (List.getElem?_eq_some_iff.1 hv).1];exact hv
 | y::ys,hs,i+1,x,hx,j,v,hv=>by
   simp at hx;simp only [List.flatMap_cons];have hy:=hs y (by simp);rw [List.getElem?_append_right (by rw [hy];have:=Nat.le_mul_of_pos_left sz (show 0<i+1 by omega);omega),hy];have:=Us (fun x hx=>hs x (by simp [hx])) i x hx j v hv;rw [←this];congr 1;rw [Nat.succ_mul];omega
theorem A7e {dd:Nat} {t e sz:Nat} {p q:Operand} {v:V} {k:IntKind} {i:Int} (R:Rel nt S log stp σ a w h) (ho:o.op=.indexAddr t p q) (ht:P.underlying t=some (.slice e)) (hs:szOf P e=some sz)
  (hp:Ok σ h w v (a.eval p)) (hq:Ok σ h w (.int k i) (a.eval q)) (he:Bl (.iaddrS sz) dd [v,.int k i] σ=some eff) (hpre:eff.pre):Done P nt S log stp σ a w h o eff:=by
 cases v<;>simp only [Bl] at he<;>(try (cases he;done))<;>cases he;rotate_left
 ·rename_i b off s n;obtain ⟨rfl,h1,h2⟩:=hpre;obtain ⟨blk,cap,hβ,hz,hc⟩:=ok_bsl hp;refine Done.pure R (x:=.pointer (some ⟨blk,off+i.toNat*s,none⟩)) ?_ (Vx hβ);simp only [execOp,ho,hz,Dx hq];simp [Instr.indexAt,asIntOf,run_underlying ht,Ds hs,h1,h2,Addr.add_lit]
 rename_i r s xs;obtain ⟨rfl,h1,h2⟩:=hpre;have hlt:i.toNat<xs.length:=by omega
 have hrep:=Ff hp;generalize hz:a.eval p=z at hrep;cases hrep with
 | slice0=>simp at hlt
 | slice _ _ blk off len cap cv h0 hl hc hsz hm hr =>
   subst hl;have hx:xs[i.toNat]?=some xs[i.toNat]:=List.getElem?_eq_getElem hlt;have hg:xs.getD i.toNat Cz=xs[i.toNat]:=by simp [List.getD,hx]
   refine Done.pure R (x:=.pointer (some ⟨blk,off+i.toNat*s,none⟩)) ?_ ?_
   ·simp only [execOp,ho,hz,Dx hq];simp [Instr.indexAt,asIntOf,run_underlying ht,Ds hs,h1,h2,Addr.add_lit]
   ·rw [hg];refine Sc (off:=0) (b0:=off+i.toNat*s) (cv:=fun j=>cv (i.toNat*s+j)) (fun j v hv=>?_) (fun j v hv=>hr _ v (Us hsz _ _ hx j v hv));have:=hm _ v (Us hsz _ _ hx j v hv);rw [←Nat.add_assoc] at this;exact this
theorem Um {t n:Nat} {d:TypeDesc} {cs:Array Value} {off:Nat} {x:Value} (hn:szOf P t=some n) (hd:P.underlying t=some d) (hle:off+n≤cs.size)
  (hx:if aggB P t then x=.agg (cs.extract off (off+n)) else (n=1∧cs[off]?=some x)):(part t cs off).run P w=.ok x w:=by
 simp only [part,Sem.run_bind,A94 hd,Result.andThen_ok];split at hx
 ·rename_i hag;simp [hag,Ds hn,hx]
 ·rename_i hag;simp [hag,hx.2]
theorem Afh {t n off:Nat} {cs:List V} {vs:Array Value} (hl:cs.length=vs.size) (hh:∀(i:Nat) v y,cs[i]?=some v→vs[i]?=some y→Rep w h.φ h.β h.y.l v y∧Grow σ h w v y) (hsc:cs.all Af=true) (hle:off+n≤cs.length) (h1:aggB P t=false→n=1) :
  ∃x,(if aggB P t then x=.agg (vs.extract off (off+n)) else (n=1∧vs[off]?=some x))∧Ok σ h w (mkv (aggB P t) n (cs.drop off)) x:=by
 obtain ⟨x,hx1,hx2⟩:=Vy (σ:=σ) (h:=h) (w:=w) (agg:=aggB P t) (n:=n) (l:=cs.drop off) (f:=fun j=>vs.getD (off+j) undef) (by simp;omega) h1 (fun j v hv=>by
  rw [List.getElem?_drop] at hv;have hlt:off+j<vs.size:=by have:=(List.getElem?_eq_some_iff.1 hv).1;omega
  obtain ⟨p,q⟩:=hh (off+j) v (vs.getD (off+j) undef) hv (by simp [hlt]);exact ⟨p,q,by rw [List.all_eq_true] at hsc;exact hsc v (List.mem_of_getElem? hv)⟩)
 refine ⟨x,?_,hx2⟩;cases hag:aggB P t with
 | true =>
   simp only [hag,if_true] at hx1 ⊢;rw [hx1];congr 1;apply Array.ext (by simp;omega);intro i hi1 hi2;simp at hi1 hi2 ⊢;have:off+i<vs.size:=by omega
   simp [this]
 | false =>
   have hn:=h1 hag;subst hn;simp [hag] at hx1 ⊢;have hlt:off<vs.size:=by omega
   simpa [hlt] using hx1
end
end
section
open Go.RowKit
section
variable {P:Program} {nt:Nat} {S:Sur} {log:List (List V)} {stp:Bool} {σ:FSt} {a:Act} {w:World} {h:Gh} {o:Oper} {eff:Eff}
theorem Ack {t n:Nat} {d:TypeDesc} {p:Operand} {fs:Array Field} {f:Nat} {fd:Field} {cs:List V} (R:Rel nt S log stp σ a w h) (ho:o.op=.field t p f) (ht:P.underlying t=some (.struct fs)) (hf:fs[f]?=some fd)
  (hn:szOf P fd.type=some n) (hd:P.underlying fd.type=some d) (h1:aggB P fd.type=false→n=1) (hp:Ok σ h w (.agg cs) (a.eval p)) (hle:fd.offset+n≤cs.length) (hsc:cs.all Af=true) {pre:Prop} :
  Done P nt S log stp σ a w h o {pre:=pre,v:=mkv (aggB P fd.type) n (cs.drop fd.offset)}:=by
 obtain ⟨vs,hx,hl,hh⟩:=Q4 hp;obtain ⟨x,hx1,hx2⟩:=Afh (P:=P) (t:=fd.type) hl hh hsc hle h1;refine Done.pure R (x:=x) ?_ hx2;simp only [execOp,ho,hx,Instr.field,Sem.run_bind,run_underlying ht,Result.andThen_ok,hf,asAgg,Sem.run_pure,Um hn hd (by omega) hx1]
theorem Ago {t e len n:Nat} {d:TypeDesc} {p q:Operand} {cs:List V} {k:IntKind} {i:Int} (R:Rel nt S log stp σ a w h) (ho:o.op=.index t p q) (ht:P.underlying t=some (.array len e))
  (hn:szOf P e=some n) (hd:P.underlying e=some d) (h1:aggB P e=false→n=1) (hp:Ok σ h w (.agg cs) (a.eval p)) (hq:Ok σ h w (.int k i) (a.eval q)) (h2:0≤i∧i<(len:Int)) (hle:i.toNat*n+n≤cs.length) (hsc:cs.all Af=true) {pre:Prop} :
  Done P nt S log stp σ a w h o {pre:=pre,v:=mkv (aggB P e) n (cs.drop (i.toNat*n))}:=by
 obtain ⟨vs,hx,hl,hh⟩:=Q4 hp;obtain ⟨x,hx1,hx2⟩:=Afh (P:=P) (t:=e) hl hh hsc hle h1;refine Done.pure R (x:=x) ?_ hx2;simp only [execOp,ho,hx,Dx hq,Instr.index,asIntOf,Sem.run_bind,Sem.run_pure,run_underlying ht,Result.andThen_ok,h2,and_self,if_true,Ds hn,Um hn hd (by omega) hx1]
theorem A46 {p:Operand} {i:Nat} {vs:List V} {v:V} (R:Rel nt S log stp σ a w h) (ho:o.op=.extract p i) (hp:Ok σ h w (.tuple vs) (a.eval p)) (hv:vs[i]?=some v):Done P nt S log stp σ a w h o {v:=v}:=by
 obtain ⟨r,_⟩:=hp;generalize hz:a.eval p=z at r;cases r with
 | data r=>cases r
 | tuple _ xs hl hh =>
   have hlt:i<xs.size:=by have:=(List.getElem?_eq_some_iff.1 hv).1;omega
   exact Done.pure R (x:=xs[i]) (by simp [execOp,ho,hz,Instr.extract,hlt]) (.data (hh i v _ hv (by simp [hlt])))
theorem Aa2 {dd:Nat} {b:Bool} {p:Operand} {t:TypeId} {c:Call} {d:TypeDesc} {v:V} (R:Rel nt S log stp σ a w h) (ho:o.op=.call c) (hc:c.callee=.builtin .len) (ha:c.args.toList=[p]) (hat:c.argTypes.toList=[t]) (ht:P.underlying t=some d)
  (hd:if b then d=.string else ∃e,d=.slice e) (hp:Ok σ h w v (a.eval p)) (he:Bl (.len b) dd [v] σ=some eff):Done P nt S log stp σ a w h o eff:=by
 have ea:c.args=#[p]:=by rw [←Array.toList_inj];simpa using ha
 have et:c.argTypes=#[t]:=by rw [←Array.toList_inj];simpa using hat
 have key:∀n:Int,eff={v:=.int .i64 n}→(Builtin.len_ #[t] o.type #[a.eval p]).run P w=.ok (.int .i64 n) w→Done P nt S log stp σ a w h o eff:=by
  rintro n rfl hr;refine Done.pure R (x:=.int .i64 n) ?_ (.data (.int _ _));simp only [execOp,ho,resolve,hc,ea,et,Sem.run_bind,Sem.run_pure,Result.andThen_ok,invoke,builtin];simp [hr]
 cases b with
 | true =>
   simp only [if_true] at hd;subst hd;cases v<;>simp only [Bl] at he<;>(try (cases he;done))<;>cases he;exact key _ rfl (by simp [Builtin.len_,run_underlying ht,Vw hp,goInt])
 | false =>
   simp only [Bool.false_eq_true,if_false] at hd;obtain ⟨e,rfl⟩:=hd;cases v<;>simp only [Bl] at he<;>(try (cases he;done))<;>cases he
   ·exact key _ rfl (by simp [Builtin.len_,run_underlying ht,Ku hp,goInt])
   ·rename_i r sz xs;have hr:=Ff hp;refine key _ rfl ?_;generalize a.eval p=z at hr;cases hr with
    | slice0=>simp [Builtin.len_,run_underlying ht,goInt]
    | slice _ _ blk off len cap cv h0 hl=>simp [Builtin.len_,run_underlying ht,goInt,hl]
   ·obtain ⟨blk,cap,_,hz,_⟩:=ok_bsl hp;exact key _ rfl (by simp [Builtin.len_,run_underlying ht,hz,goInt])
theorem Yt {mx:Bool}:∀(vs:List V) (ps:List Operand) (m n:Int),Opds σ h w a ps vs→Sf mx m vs=some n →
  ((ps.map a.eval).foldlM (if mx then Builtin.max2 else Builtin.min2) (.int .i64 m)).run P w=.ok (.int .i64 n) w
 | [],ps,m,n,q,hm=>by cases q;simp [Sf] at hm;subst hm;simp
 | v::vs,ps,m,n,q,hm=>by
   cases q with
   | cons o r =>
     cases v<;>simp only [Sf] at hm<;>(try (cases hm;done));rename_i k b;cases k<;>simp only [Sf] at hm<;>(try (cases hm;done));have ih:=Yt vs _ _ n r hm;simp only [List.map_cons,List.foldlM_cons,Dx o,Sem.run_bind];cases mx<;>simp [Builtin.max2,Builtin.min2] at ih ⊢<;>exact ih
theorem Wi {dd:Nat} {mx:Bool} {c:Call} {vs:List V} (R:Rel nt S log stp σ a w h) (ho:o.op=.call c) (hc:c.callee=.builtin (if mx then .max else .min)) (hv:Opds σ h w a c.args.toList vs) (he:Bl (.minmax mx) dd vs σ=some eff) :
  Done P nt S log stp σ a w h o eff:=by
 cases hv':c.args.toList with
 | nil=>rw [hv'] at hv;cases hv;simp [Bl] at he
 | cons p ps =>
   rw [hv'] at hv;cases hv with
   | @cons _ _ v vs o1 r =>
     cases v<;>simp only [Bl] at he<;>(try (cases he;done));rename_i k m;cases k<;>simp only [Bl] at he<;>(try (cases he;done));simp only [Option.map_eq_some_iff] at he;obtain ⟨n,hn,rfl⟩:=he;have hr:=Yt (P:=P) _ _ _ _ r hn;refine Done.pure R (x:=.int .i64 n) ?_ (.data (.int _ _));simp only [execOp,ho,resolve,hc,Sem.run_bind,Sem.run_pure,Result.andThen_ok,invoke];cases mx<;>simp [builtin,Builtin.max_,Builtin.min_,hv',Dx o1] at hr ⊢<;>rw [hr]<;>rfl
theorem Wb (off:Nat):∀(l:List Value) (s:Nat) (cs:Array Value),off+s+l.length≤cs.size →
  ((l.zipIdx s).foldl (fun cs (p:Value×Nat)=>cs.setIfInBounds (off+p.2) p.1) cs).size=cs.size ∧
  ∀k,((l.zipIdx s).foldl (fun cs (p:Value×Nat)=>cs.setIfInBounds (off+p.2) p.1) cs)[k]?=if off+s≤k∧k<off+s+l.length then l[k-(off+s)]? else cs[k]?
 | [],s,cs,_=>⟨rfl,fun k=>by simp;intro h1 h2;omega⟩
 | x::l,s,cs,hle=>by
   simp only [List.length_cons] at hle;obtain ⟨h1,h2⟩:=Wb off l (s+1) (cs.setIfInBounds (off+s) x) (by simp;omega);simp only [List.zipIdx_cons,List.foldl_cons];refine ⟨by rw [h1];simp,fun k=>?_⟩;rw [h2 k];by_cases e:k=off+s
   ·subst e;rw [if_neg (by omega),if_pos (by simp)];have:off+s<cs.size:=by omega
    simp [this]
   ·by_cases h3:off+(s+1)≤k∧k<off+(s+1)+l.length
    ·rw [if_pos h3,if_pos (by simp;omega)];have:k-(off+s)=(k-(off+(s+1)))+1:=by omega
     rw [this,List.getElem?_cons_succ]
    ·rw [if_neg h3,if_neg (by simp;omega),Array.getElem?_setIfInBounds_ne (by omega)]
def PW (σ:FSt) (h:Gh) (w:World) (zs:List V) (cs:Array Value):Prop :=
 cs.size=zs.length∧∀(j:Nat) v x,zs[j]?=some v→cs[j]?=some x→Rep w h.φ h.β h.y.l v x∧Grow σ h w v x
inductive Parts (σ:FSt) (h:Gh) (w:World) (place:Nat→Option (Nat×Nat)):List (Nat×Nat×V)→List (Nat×Value)→Prop
 | nil:Parts σ h w place [] []
 | cons {i off n:Nat} {v:V} {x:Value} {ps:List (Nat×Nat×V)} {qs:List (Nat×Value)} (hp:place i=some (off,n)) (hv:PW σ h w (cells v) x.cells) (r:Parts σ h w place ps qs) :
    Parts σ h w place ((off,n,v)::ps) ((i,x)::qs)
theorem Aga {place:Nat→Option (Nat×Nat)}:∀{ps:List (Nat×Nat×V)} {qs:List (Nat×Value)} {zs zs':List V} {cs:Array Value},Parts σ h w place ps qs→PW σ h w zs cs→A79 zs ps=some zs' →
  ∃cs',Instr.fill place cs qs=some cs'∧PW σ h w zs' cs'
 | _,_,zs,zs',cs,.nil,hz,hf=>by
   simp only [A79,Option.some.injEq] at hf;subst hf;exact ⟨cs,rfl,hz⟩
 | _,_,zs,zs',cs,.cons (i:=i) (off:=off) (n:=n) (v:=v) (x:=x) (qs:=qs) hp hv r,hz,hf=>by
   simp only [A79] at hf;split at hf<;>(try (cases hf;done));rename_i hc;obtain ⟨h1,h2⟩:=hc;obtain ⟨v1,v2⟩:=hv;obtain ⟨z1,z2⟩:=hz;have hxl:x.cells.toList.length=n:=by simp;omega
   obtain ⟨f1,f2⟩:=Wb off x.cells.toList 0 cs (by rw [hxl];omega);have heq:(x.cells.zipIdx.foldl (fun cs (p:Value×Nat)=>cs.setIfInBounds (off+p.2) p.1) cs)=((x.cells.toList.zipIdx 0).foldl (fun cs (p:Value×Nat)=>cs.setIfInBounds (off+p.2) p.1) cs):=by
    rw [←Array.foldl_toList,Array.toList_zipIdx]
   have hle:off+(cells v).length≤zs.length:=by omega
   have hpw:PW σ h w (Aq zs off (cells v)) (x.cells.zipIdx.foldl (fun cs (p:Value×Nat)=>cs.setIfInBounds (off+p.2) p.1) cs):=by
    rw [heq];refine ⟨by rw [f1,Yq hle,z1],fun j u y hu hy=>?_⟩;rw [f2 j,hxl] at hy;rw [Aq,Ga hle] at hu;split at hu
    ·rename_i h4;rw [if_neg (by omega)] at hy;exact z2 j u y hu hy
    ·rename_i h4;split at hu
     ·rename_i h5;rw [if_pos (by omega)] at hy;exact v2 _ u y hu (by simpa using hy)
     ·rename_i h5;rw [if_neg (by omega)] at hy;exact z2 j u y hu hy
   obtain ⟨cs',g1,g2⟩:=Aga r hpw hf;refine ⟨cs',?_,g2⟩;simp only [Instr.fill,hp];rw [if_neg (by simp;omega)];exact g1
theorem A9e {place:Nat→Option (Nat×Nat)}:∀{is:List Nat} {pl:List (Nat×Nat)} {os:List Operand} {vs:List V} {ps:List (Nat×Nat×V)},Opds σ h w a os vs→is.length=os.length →
  is.mapM place=some pl→zip3 pl vs=some ps→(∀p∈ps,(cells p.2.2).all Af=true)→Parts σ h w place ps (is.zip (os.map a.eval))
 | [],pl,os,vs,ps,q,hl,hm,hz,hs=>by
   have:os=[]:=List.eq_nil_of_length_eq_zero (by simpa using hl.symm);subst this;cases q;simp at hm;subst hm;simp [zip3] at hz;subst hz;exact .nil
 | i::is,pl,os,vs,ps,q,hl,hm,hz,hs=>by
   cases q with
   | nil=>simp at hl
   | @cons p os v vs o r =>
     simp only [List.mapM_cons,Option.bind_eq_bind,Option.bind_eq_some_iff,Option.pure_def,Option.some.injEq] at hm;obtain ⟨⟨off,n⟩,hp,pl',hm',rfl⟩:=hm;simp only [zip3,Option.map_eq_some_iff] at hz;obtain ⟨ps',hz',rfl⟩:=hz;have hsv:=hs (off,n,v) (by simp);obtain ⟨c1,c2⟩:=o.cells hsv;exact .cons hp ⟨c1.symm,fun j u x hu hx=>⟨(c2 j u x hu hx).1,(c2 j u x hu hx).2.1⟩⟩ (A9e r (by simpa using hl) hm' hz' (fun p hp=>hs p (by simp [hp])))
theorem ofScs_pw {cs:Array Value} {zs:List V} (hz:K9 cs.toList=some zs):PW σ h w zs cs:=by
 obtain ⟨h1,h2⟩:=Ft (w:=w) (φ:=h.φ) hz;exact ⟨by rw [h1];simp,fun j v x hv hx=>⟨.data (h2 j v x hv (by simpa using hx)).1,D5 (h2 j v x hv (by simpa using hx)).1⟩⟩
theorem PW.agg {zs:List V} {cs:Array Value} (q:PW σ h w zs cs):Ok σ h w (.agg zs) (.agg cs) :=
 ⟨.agg zs cs q.1.symm fun i v x hv hx=>(q.2 i v x hv hx).1,fun j u z hu hz=>(q.2 j u z hu hz).2⟩
theorem Uz:∀{pl:List (Nat×Nat)} {vs:List V} {ps:List (Nat×Nat×V)},zip3 pl vs=some ps→∀p∈ps,p.2.2∈vs
 | [],[],ps,hz,p,hp=>by simp [zip3] at hz;subst hz;cases hp
 | [],_::_,ps,hz,p,hp=>by simp [zip3] at hz
 | _::_,[],ps,hz,p,hp=>by simp [zip3] at hz
 | (x,y)::r,v::vs,ps,hz,p,hp=>by
   simp only [zip3,Option.map_eq_some_iff] at hz;obtain ⟨ps',hz',rfl⟩:=hz;cases hp with
   | head=>simp
   | tail _ hp=>exact List.mem_cons_of_mem _ (Uz hz' p hp)
theorem A2h (parts:Array (Nat×Operand)):(parts.toList.map (·.1)).zip ((parts.toList.map (·.2)).map a.eval)=(parts.map fun (i,x)=>(i,a.eval x)).toList:=by
 rw [Array.toList_map,List.map_map,List.zip_map'];rfl
theorem Acm {t:TypeId} {parts:Array (Nat×Operand)} {zs cs:List V} {vs:List V} {pl:List (Nat×Nat)} {ps:List (Nat×Nat×V)} (R:Rel nt S log stp σ a w h) (ho:o.op=.build t parts)
  (hk:opK0 P (.build t parts)=some (.build zs pl,parts.toList.map (·.2))) (hv:Opds σ h w a (parts.toList.map (·.2)) vs) (hz:zip3 pl vs=some ps) (hf:A79 zs ps=some cs) (hsc:∀v∈vs,(cells v).all Af=true) {pre:Prop} :
  Done P nt S log stp σ a w h o {pre:=pre,v:=.agg cs}:=by
 have hsc':∀p∈ps,(cells p.2.2).all Af=true:=fun p hp=>hsc _ (Uz hz p hp);have go:∀{place:Nat→Option (Nat×Nat)} {z:Value},K9 z.cells.toList=some zs→(parts.toList.map (·.1)).mapM place=some pl →
   ∃cs',Instr.fill place z.cells (parts.map fun (i,x)=>(i,a.eval x)).toList=some cs'∧PW σ h w cs cs':=fun hzz hm=>by
  rw [←A2h];exact Aga (A9e hv (by simp) hm hz hsc') (ofScs_pw hzz) hf
 have fin:∀cs',P.built t (parts.map fun (i,x)=>(i,a.eval x)).toList=some cs'→PW σ h w cs cs'→Done P nt S log stp σ a w h o {pre:=pre,v:=.agg cs}:=fun cs' hb hp =>
  Done.pure R (x:=.agg cs') (by simp only [execOp,ho,Sem.run_bind,run_build w t _ cs' hb];rfl) hp.agg
 simp only [opK0] at hk;cases hit:P.info? t with
 | none=>simp [hit] at hk
 | some it =>
   cases hu:P.underlying t with
   | none=>simp [hit,hu] at hk
   | some d =>
     cases d<;>(try (simp [hit,hu] at hk;done))
     case array n e =>
      simp only [hit,hu] at hk;cases hzz:it.zero with
      | none=>simp [hzz] at hk
      | some z =>
        cases hie:P.info? e with
        | none=>simp [hzz,hie] at hk
        | some ie =>
          simp only [hzz,hie,Option.map_eq_some_iff] at hk;obtain ⟨zs',h1,h2⟩:=hk;simp only [Prod.mk.injEq,K.build.injEq,and_true] at h2;obtain ⟨rfl,rfl⟩:=h2;obtain ⟨cs',g1,g2⟩:=go (place:=fun i=>some (i*ie.size,ie.size)) h1 (by
           generalize parts.toList=l
           induction l with
           | nil=>rfl
           | cons p l ih=>simp [List.mapM_cons,ih])
          exact fin cs' (by simp only [Program.built,hit,hu,hzz,hie];exact g1) g2
     case struct fields =>
      simp only [hit,hu] at hk;cases hzz:it.zero with
      | none=>simp [hzz] at hk
      | some z =>
        cases hpl:fields.toList.mapM (fun f=>(P.info? f.type).map fun i=>(f.offset,i.size)) with
        | none=>simp [hzz,hpl] at hk
        | some places =>
          simp only [hzz,hpl] at hk;cases hps:(parts.toList.mapM fun p=>places[p.1]?) with
          | none=>simp [hps] at hk
          | some ps1 =>
            cases hzs:K9 z.cells.toList with
            | none=>simp [hps,hzs] at hk
            | some zs1 =>
              simp only [hps,hzs,Option.some.injEq,Prod.mk.injEq,K.build.injEq,and_true] at hk;obtain ⟨rfl,rfl⟩:=hk;obtain ⟨cs',g1,g2⟩:=go (place:=fun i=>places.toArray[i]?) hzs (by
               rw [List.mapM_map];simp only [List.getElem?_toArray,Function.comp_def];exact hps)
              exact fin cs' (by simp only [Program.built,hit,hu,hzz,hpl];exact g1) g2
theorem Mf:∀{ks:List Nat} {U W:List V} {c:Bool} (k:Nat),eqL ks U W=some c→∃c1 c2,eqL (ks.take k) (U.take k) (W.take k)=some c1∧eqL (ks.drop k) (U.drop k) (W.drop k)=some c2∧c=(c1&&c2)
 | ks,U,W,c,0,he=>⟨true,c,by simp [eqL],by simpa using he,by simp⟩
 | [],[],[],c,k+1,he=>⟨true,c,by simp [eqL],by simpa using he,by simp⟩
 | t::ks,u::U,v::W,c,k+1,he=>by
   simp only [eqL] at he;split at he<;>(try (cases he;done));rename_i a b ha hb;cases he;obtain ⟨c1,c2,h1,h2,h3⟩:=Mf k hb;exact ⟨a&&c1,c2,by simp [eqL,ha,h1],by simpa using h2,by rw [h3,Bool.and_assoc]⟩
 | [],[],_::_,c,k+1,he=>by simp [eqL] at he
 | [],_::_,_,c,k+1,he=>by simp [eqL] at he
 | _::_,[],_,c,k+1,he=>by simp [eqL] at he
 | _::_,_::_,[],c,k+1,he=>by simp [eqL] at he
theorem Agc:∀{ks:List Nat} {U W:List V} {c:Bool},eqL ks U W=some c→U.length=ks.length∧W.length=ks.length
 | [],[],[],_,_=>⟨rfl,rfl⟩
 | t::ks,u::U,v::W,c,he=>by
   simp only [eqL] at he;split at he<;>(try (cases he;done));rename_i a b ha hb;obtain ⟨h1,h2⟩:=Agc hb;simp [h1,h2]
 | [],[],_::_,c,he=>by simp [eqL] at he
 | [],_::_,_,c,he=>by simp [eqL] at he
 | _::_,[],_,c,he=>by simp [eqL] at he
 | _::_,_::_,[],c,he=>by simp [eqL] at he
def Laid (P:Program) (w:World) (h:Gh) (t:TypeId) (U:List V) (x:Value):Prop :=
 if aggB P t then ∃X:Array Value,x=.agg X∧X.size=U.length∧∀(j:Nat) v z,U[j]?=some v→X[j]?=some z→Rep w h.φ h.β h.y.l v z
 else ∃u,U=[u]∧Rep w h.φ h.β h.y.l u x
theorem Q9 {t:TypeId} {d:TypeDesc} {n off:Nat} {U:List V} {X:Array Value} (hn:szOf P t=some n) (hd:P.underlying t=some d) (h1:aggB P t=false→n=1) (hs:X.size=U.length) (hle:off+n≤U.length)
  (hr:∀(j:Nat) v z,U[j]?=some v→X[j]?=some z→Rep w h.φ h.β h.y.l v z):∃x,(part t X off).run P w=.ok x w∧Laid P w h t ((U.drop off).take n) x:=by
 cases hag:aggB P t with
 | true =>
   refine ⟨.agg (X.extract off (off+n)),Um hn hd (by omega) (by simp [hag]),?_⟩;simp only [Laid,hag,if_true];refine ⟨_,rfl,by simp;omega,fun j v z hv hz=>?_⟩;rw [List.getElem?_take] at hv;split at hv<;>(try (cases hv;done));rw [List.getElem?_drop] at hv;rw [Array.getElem?_extract] at hz;split at hz<;>(try (cases hz;done));exact hr _ v z hv hz
 | false =>
   have:=h1 hag;subst this;have hlt:off<X.size:=by omega
   refine ⟨X[off],Um hn hd (by omega) (by simp [hag,hlt]),?_⟩;simp only [Laid,hag];have hlu:off<U.length:=by omega
   refine ⟨U[off],?_,hr off _ _ (List.getElem?_eq_getElem hlu) (by simp [hlt])⟩;rw [List.drop_eq_getElem_cons hlu];rfl
theorem Vq {m:Nat} {t:TypeId} {ks:List Nat} (hp:H4 P m t ks=true):(∃d,P.underlying t=some d)∧(aggB P t=false→szOf P t=some 1)∧szOf P t=some ks.length:=by
 cases m with
 | zero=>simp [H4] at hp
 | succ m =>
   simp only [H4] at hp;cases hu:P.underlying t with
   | none=>simp [hu] at hp
   | some d =>
     refine ⟨⟨d,rfl⟩,?_,?_⟩
     ·intro hag;cases d<;>simp [hu,aggB] at hp hag ⊢<;>exact hp.1
     ·cases d<;>simp only [hu] at hp<;>(try (cases hp;done))<;>(try (simp only [Bool.and_eq_true,beq_iff_eq] at hp;obtain ⟨h1,rfl⟩:=hp;exact h1))
      ·rename_i len e;cases hs:szOf P e with
       | none=>simp [hs] at hp
       | some s =>
         simp only [hs,Bool.and_eq_true,beq_iff_eq] at hp;rw [hp.1.1,hp.1.2]
      ·simp only [Bool.and_eq_true,beq_iff_eq] at hp;exact hp.1.2
theorem Rr (d:Nat) (t e:TypeId) (len s:Nat) (X Y:Array Value) (ht:P.underlying t=some (.array len e)) (hs:szOf P e=some s) (f:Nat→Bool)
  (hf:∀i,i<len→∃x y,(part e X (i*s)).run P w=.ok x w∧(part e Y (i*s)).run P w=.ok y w∧(Op.equalIn d e x y).run P w=.ok (f i) w) :
  (Op.equalIn (d+1) t (.agg X) (.agg Y)).run P w=.ok ((List.range len).all f) w:=by
 simp only [Op.equalIn,Sem.run_bind,run_underlying ht,Result.andThen_ok,Ds hs];rw [Std.Legacy.Range.forIn_eq_forIn_range'];have key:∀(k i:Nat),i+k=len → ((forIn (List.range' i k 1) ((none,()):Option Bool×Unit) fun j r=>do
      let a ←part e X (j*s)
      let b ←part e Y (j*s)
      let q ←Op.equalIn d e a b
      if (!q)=true then pure (ForInStep.done (some false,())) else pure (ForInStep.yield (none,())):Sem (Option Bool×Unit)).run P w) =
     (.ok (if (List.range' i k 1).all f then (none,()) else (some false,())) w:Result (Option Bool×Unit)):=by
  intro k
  induction k with
  | zero=>intro i _;simp
  | succ k ih =>
    intro i hi;obtain ⟨x,y,h1,h2,h3⟩:=hf i (by omega);simp only [List.range'_succ,List.forIn_cons,Sem.run_bind,h1,h2,h3,Result.andThen_ok];cases hfi:f i with
    | false=>simp [hfi]
    | true=>simp only [Bool.not_true,Bool.false_eq_true,if_false,Sem.run_bind,Sem.run_pure,Result.andThen_ok,List.all_cons,hfi,Bool.true_and];exact ih (i+1) (by omega)
 have hk:=key len 0 (by omega);simp only [Std.Legacy.Range.size,Nat.sub_zero,Nat.add_sub_cancel,Nat.div_one]
 erw [hk]
 simp only [Result.andThen_ok,List.range_eq_range'];cases (List.range' 0 len 1).all f<;>rfl
def EqOk (P:Program) (w:World) (h:Gh) (m:Nat):Prop :=
 ∀(t:TypeId) (ks:List Nat) (U W:List V) (x y:Value) (c:Bool),H4 P m t ks=true→Laid P w h t U x→Laid P w h t W y→eqL ks U W=some c→∀d,m≤d→(Op.equalIn d t x y).run P w=.ok c w
theorem A42 {m:Nat} (ih:EqOk P w h m) {ks:List Nat} {U W:List V} {X Y:Array Value} (hX:X.size=U.length) (hY:Y.size=W.length)
  (hrX:∀(j:Nat) v z,U[j]?=some v→X[j]?=some z→Rep w h.φ h.β h.y.l v z) (hrY:∀(j:Nat) v z,W[j]?=some v→Y[j]?=some z→Rep w h.φ h.β h.y.l v z) (hU:U.length=ks.length) (hW:W.length=ks.length) (d:Nat) (hd:m≤d) :
  ∀(fs:List Field) (o:Nat) (c:Bool),Jb (H4 P m) (szOf P) ks fs o=true→eqL (ks.drop o) (U.drop o) (W.drop o)=some c→(Op.eqFields d X Y fs).run P w=.ok c w
 | [],o,c,hf,he=>by
   simp only [Jb,beq_iff_eq] at hf;subst hf;rw [List.drop_eq_nil_of_le (Nat.le_refl _),List.drop_eq_nil_of_le (by omega),List.drop_eq_nil_of_le (by omega)] at he;simp [eqL] at he;subst he;rfl
 | fd::fs,o,c,hf,he=>by
   simp only [Jb,Bool.and_eq_true] at hf;obtain ⟨⟨h1,h2⟩,h4⟩:=hf;cases hs:szOf P fd.type with
   | none=>simp [hs] at h4
   | some s =>
     simp only [hs,Bool.and_eq_true] at h4;obtain ⟨h3,h4⟩:=h4;rw [beq_iff_eq] at h2;subst h2;obtain ⟨⟨dd,hdd⟩,h1',hsz⟩:=Vq h3;rw [hs] at hsz;have hle:fd.offset+s≤ks.length∨s=0:=by
      simp at hsz;omega
     have hle:fd.offset+s≤U.length:=by
      rcases hle with h5 | h5
      ·omega
      ·have:∀(fs:List Field) (o:Nat),Jb (H4 P m) (szOf P) ks fs o=true→o≤ks.length:=by
        intro fs
        induction fs with
        | nil=>intro o hh;simp [Jb] at hh;omega
        | cons g gs ihg =>
          intro o hh;simp only [Jb,Bool.and_eq_true] at hh;cases hg:szOf P g.type with
          | none=>simp [hg] at hh
          | some q=>simp only [hg,Bool.and_eq_true] at hh;have:=ihg _ hh.2.2;omega
       have:=this _ _ h4;omega
     have hs1:aggB P fd.type=false→s=1:=fun e=>by have:=h1' e;rw [hs] at this;simpa using this
     obtain ⟨x,hx,lx⟩:=Q9 (P:=P) (w:=w) (h:=h) (off:=fd.offset) hs hdd hs1 hX hle hrX;obtain ⟨y,hy,ly⟩:=Q9 (P:=P) (w:=w) (h:=h) (off:=fd.offset) hs hdd hs1 hY (by omega) hrY;obtain ⟨c1,c2,e1,e2,e3⟩:=Mf s he;have hr:=ih fd.type _ _ _ x y c1 h3 lx ly e1 d hd;rw [List.drop_drop,List.drop_drop,List.drop_drop] at e2;have rest:=A42 ih hX hY hrX hrY hU hW d hd fs (fd.offset+s) c2 h4 e2;have hn:fd.name≠ "_":=by simpa using h1
     simp only [Op.eqFields,hn,ne_eq,not_false_eq_true,if_true,Sem.run_bind,hx,hy,hr,Result.andThen_ok];subst e3;cases c1 with
     | false=>simp
     | true=>simp [rest]
theorem A7a {k:Nat} {u v:V} {c:Bool} (he:eqL [k] [u] [v]=some c):eqV k u v=some c:=by
 simp only [eqL] at he;cases h:eqV k u v with
 | none=>simp [h] at he
 | some a=>simp [h] at he;rw [he]
set_option maxHeartbeats 2000000 in
theorem eq_all (P:Program) (w:World) (h:Gh):∀m,EqOk P w h m
 | 0=>fun t ks U W x y c hp=>by simp [H4] at hp
 | m+1=>fun t ks U W x y c hp hx hy he d hd=>by
   have ih:=eq_all P w h m;obtain ⟨d,rfl⟩:∃d',d=d'+1:=⟨d-1,by omega⟩;have hp0:=hp;obtain ⟨hl1,hl2⟩:=Agc he;simp only [H4] at hp;cases hu:P.underlying t with
   | none=>simp [hu] at hp
   | some dd =>
     cases dd<;>simp only [hu] at hp<;>(try (cases hp;done))
     case bool =>
      simp only [Bool.and_eq_true,beq_iff_eq] at hp;obtain ⟨_,rfl⟩:=hp;have hag:aggB P t=false:=by simp [aggB,hu]
      simp only [Laid,hag] at hx hy;obtain ⟨u,rfl,hx⟩:=hx;obtain ⟨v,rfl,hy⟩:=hy;have hv:=A7a he;cases u<;>cases v<;>simp only [eqV] at hv<;>(try (cases hv;done));cases hv;rw [Kj hx,Kj hy];exact run_equalIn_bool' w d t _ _ hu
     case int kk =>
      simp only [Bool.and_eq_true,beq_iff_eq] at hp;obtain ⟨_,rfl⟩:=hp;have hag:aggB P t=false:=by simp [aggB,hu]
      simp only [Laid,hag] at hx hy;obtain ⟨u,rfl,hx⟩:=hx;obtain ⟨v,rfl,hy⟩:=hy;have hv:=A7a he;cases u<;>cases v<;>simp only [eqV] at hv<;>(try (cases hv;done));split at hv<;>(try (cases hv;done));rename_i e;subst e;cases hv;have e1:=Dx (σ:=fun _=>none) (h:=h) (w:=w) (K8 hx rfl (fun _ _ _ e=>by cases e));have e2:=Dx (σ:=fun _=>none) (h:=h) (w:=w) (K8 hy rfl (fun _ _ _ e=>by cases e));subst e1 e2;exact run_equalIn_int w d t _ kk _ _ hu
     case string =>
      simp only [Bool.and_eq_true,beq_iff_eq] at hp;obtain ⟨_,rfl⟩:=hp;have hag:aggB P t=false:=by simp [aggB,hu]
      simp only [Laid,hag] at hx hy;obtain ⟨u,rfl,hx⟩:=hx;obtain ⟨v,rfl,hy⟩:=hy;have hv:=A7a he;cases u<;>cases v<;>simp only [eqV] at hv<;>(try (cases hv;done));cases hv;have e1:=Vw (σ:=fun _=>none) (h:=h) (w:=w) (K8 hx rfl (fun _ _ _ e=>by cases e));have e2:=Vw (σ:=fun _=>none) (h:=h) (w:=w) (K8 hy rfl (fun _ _ _ e=>by cases e));subst e1 e2;rw [run_equalIn_string w d t _ _ hu,beq_toListBytes]
     case array len e =>
      cases hs:szOf P e with
      | none=>simp [hs] at hp
      | some s =>
        simp only [hs,Bool.and_eq_true,beq_iff_eq,List.all_eq_true,List.mem_range] at hp;obtain ⟨⟨h1,h2⟩,h3⟩:=hp;have hag:aggB P t=true:=by simp [aggB,hu]
        simp only [Laid,hag,if_true] at hx hy;obtain ⟨X,rfl,hX,hrX⟩:=hx;obtain ⟨Y,rfl,hY,hrY⟩:=hy;have hseg:∀i,i<len→∃ci,eqL ((ks.drop (i*s)).take s) ((U.drop (i*s)).take s) ((W.drop (i*s)).take s)=some ci:=fun i hi=>by
         obtain ⟨_,c2,_,e2,_⟩:=Mf (i*s) he;obtain ⟨c1,_,e1,_,_⟩:=Mf s e2;exact ⟨c1,e1⟩
        have hc:c=(List.range len).all fun i=>(eqL ((ks.drop (i*s)).take s) ((U.drop (i*s)).take s) ((W.drop (i*s)).take s)).getD false:=by
         have key:∀(k i:Nat) (c:Bool),i+k=len→eqL (ks.drop (i*s)) (U.drop (i*s)) (W.drop (i*s))=some c →
           c=(List.range' i k 1).all fun i=>(eqL ((ks.drop (i*s)).take s) ((U.drop (i*s)).take s) ((W.drop (i*s)).take s)).getD false:=by
          intro k
          induction k with
          | zero =>
            intro i c hi he;rw [List.drop_eq_nil_of_le (by rw [h2,←hi];simp),List.drop_eq_nil_of_le (by rw [hl1,h2,←hi];simp),List.drop_eq_nil_of_le (by rw [hl2,h2,←hi];simp)] at he;simp [eqL] at he;simp [he]
          | succ k ihk =>
            intro i c hi he;obtain ⟨c1,c2,e1,e2,e3⟩:=Mf s he;rw [List.drop_drop,List.drop_drop,List.drop_drop,←Nat.succ_mul] at e2;have:=ihk (i+1) c2 (by omega) e2;rw [e3,List.range'_succ,List.all_cons,e1,←this];rfl
         have:=key len 0 c (by omega) (by simpa using he);rw [this,List.range_eq_range']
        rw [hc];refine Rr d t e len s X Y hu hs _ fun i hi=>?_;obtain ⟨ci,hci⟩:=hseg i hi;obtain ⟨⟨dd,hdd⟩,h1',hsz⟩:=Vq (h3 i hi);have hle:i*s+s≤len*s:=by rw [←Nat.succ_mul];exact Nat.mul_le_mul_right _ hi
        have hs1:aggB P e=false→s=1:=fun e=>by have:=h1' e;rw [hs] at this;simpa using this
        obtain ⟨x,hx,lx⟩:=Q9 (P:=P) (w:=w) (h:=h) (off:=i*s) hs hdd hs1 hX (by omega) hrX;obtain ⟨y,hy,ly⟩:=Q9 (P:=P) (w:=w) (h:=h) (off:=i*s) hs hdd hs1 hY (by omega) hrY;refine ⟨x,y,hx,hy,?_⟩;rw [hci];exact ih e _ _ _ x y ci (h3 i hi) lx ly hci d (by omega)
     case struct fs =>
      simp only [Bool.and_eq_true,beq_iff_eq,Bool.not_eq_true'] at hp;obtain ⟨⟨h1,h2⟩,h3⟩:=hp;have hag:aggB P t=true:=by simp [aggB,hu]
      simp only [Laid,hag,if_true] at hx hy;obtain ⟨X,rfl,hX,hrX⟩:=hx;obtain ⟨Y,rfl,hY,hrY⟩:=hy;have hfo:P.fieldsOf t=fs:=by simp [Program.fieldsOf,hu]
      rw [run_equalIn_struct w d t X Y (by rw [hfo];exact hu) h1,hfo];exact A42 ih hX hY hrX hrY hl1 hl2 d (by omega) fs.toList 0 c h3 (by simpa using he)
theorem done_eqs {neg:Bool} {op:BinOp} {t u:TypeId} {p q:Operand} {ks:List Nat} {xs ys:List V} {c:Bool} (R:Rel nt S log stp σ a w h) (ho:o.op=.binOp op t p q u) (hop:op=.eql∨op=.neq) (hneg:neg=(op==.neq))
  (hpl:H4 P 8 t ks=true) (hg:P.eqGuardType P.depth t=false) (hag:aggB P t=true) (hp:Ok σ h w (.agg xs) (a.eval p)) (hq:Ok σ h w (.agg ys) (a.eval q)) (he:eqL ks xs ys=some c) :
  Done P nt S log stp σ a w h o {v:=.bool (bif neg then !c else c)}:=by
 obtain ⟨X,hX,hX1,hX2⟩:=Q4 hp;obtain ⟨Y,hY,hY1,hY2⟩:=Q4 hq;have hr:=eq_all P w h 8 t ks xs ys (.agg X) (.agg Y) c hpl (by simp only [Laid,hag,if_true];exact ⟨X,rfl,hX1.symm,fun j v z hv hz=>(hX2 j v z hv hz).1⟩)
  (by simp only [Laid,hag,if_true];exact ⟨Y,rfl,hY1.symm,fun j v z hv hz=>(hY2 j v z hv hz).1⟩) he 10000 (by omega)
 refine Done.pure R (x:=.bool (bif neg then !c else c)) ?_ (.data (.bool _));rcases hop with rfl | rfl<;>subst hneg
 ·simp only [execOp,ho,hX,hY,Sem.run_bind,run_eqGuard_agg w _ t p q X Y hg,Result.andThen_ok,run_eql_struct,hr,Sem.run_pure];rfl
 ·simp only [execOp,ho,hX,hY,Sem.run_bind,run_eqGuard_agg w _ t p q X Y hg,Result.andThen_ok,run_neq_struct,hr,Sem.run_pure];rfl
theorem A8x {b:Nat→Option Box}:∀{vs us:List V},toDs b vs=some (us,[])→us.length=vs.length∧∀(i:Nat) v u,vs[i]?=some v→us[i]?=some u→toD b 6 v=some (u,[])
 | [],us,he=>by simp [toDs] at he;subst he;exact ⟨rfl,fun i v u h=>by simp at h⟩
 | v::vs,us,he=>by
   simp only [toDs,List.foldr_cons,Jt] at he;split at he<;>(try (cases he;done));rename_i y i ys is h1 h2;simp only [Option.some.injEq,Prod.mk.injEq,List.append_eq_nil_iff] at he;obtain ⟨rfl,rfl,rfl⟩:=he;obtain ⟨h3,h4⟩:=A8x (b:=b) (vs:=vs) (us:=ys) h2;refine ⟨by simp [h3],fun i v' u hv hu=>?_⟩;cases i with
   | zero=>simp at hv hu;subst hv hu;exact h1
   | succ i=>simp at hv hu;exact h4 i v' u hv hu
def toDl (b:Nat→Option Box) (n:Nat) (l:List V):Option (List V×List Nat) :=
 l.foldr (fun x acc=>Jt (toD b n x) acc) (some ([],[]))
theorem Hc {b:Nat→Option Box} {n:Nat}:∀{vs us:List V} {ids:List Nat},toDl b n vs=some (us,ids)→us.length=vs.length∧∀(i:Nat) v u,vs[i]?=some v→us[i]?=some u→∃js,toD b n v=some (u,js)∧∀j∈js,j∈ids
 | [],us,ids,he=>by simp [toDl] at he;obtain ⟨rfl,rfl⟩:=he;exact ⟨rfl,fun i v u h=>by simp at h⟩
 | v::vs,us,ids,he=>by
   simp only [toDl,List.foldr_cons,Jt] at he;split at he<;>(try (cases he;done));rename_i y i ys is h1 h2;simp only [Option.some.injEq,Prod.mk.injEq] at he;obtain ⟨rfl,rfl⟩:=he;obtain ⟨h3,h4⟩:=Hc (b:=b) (n:=n) (vs:=vs) (us:=ys) (ids:=is) h2;refine ⟨by simp [h3],fun k v' u hv hu=>?_⟩;cases k with
   | zero=>simp at hv hu;subst hv hu;exact ⟨i,h1,fun j hj=>List.mem_append_left _ hj⟩
   | succ k =>
     simp at hv hu;obtain ⟨js,h5,h6⟩:=h4 k v' u hv hu;exact ⟨js,h5,fun j hj=>List.mem_append_right _ (h6 j hj)⟩
theorem Jn (R:Rel nt S log stp σ a w h):∀(n:Nat) (v u:V) (x:Value) (ids:List Nat),toD σ.b n v=some (u,ids)→(∀i∈ids,∃cs,σ.b i=some ⟨cs,true⟩)→Rep w h.φ h.β h.y.l v x→RepD w h.φ u x∧(Af v=true→Af u=true)∧(cells u).length=(cells v).length
 | 0,v,u,x,ids,he,_,_=>by simp [toD] at he
 | n+1,v,u,x,ids,he,hz,hr=>by
   have ih:=Jn R n;cases v<;>simp only [toD] at he<;>(try (cases he;done))
   case int=>cases he;cases hr with | data r=>cases r;exact ⟨.int _ _,fun _=>rfl,rfl⟩
   case bool=>cases he;rw [Kj hr];exact ⟨.bool _,fun _=>rfl,rfl⟩
   case str=>cases he;cases hr with | data r=>cases r;exact ⟨.str _,fun _=>rfl,rfl⟩
   case nils=>cases he;cases hr with | data r=>cases r;exact ⟨.nils,fun _=>rfl,rfl⟩
   case nilp=>cases he;cases hr with | data r=>cases r;exact ⟨.nilp,fun _=>rfl,rfl⟩
   case nilf=>cases he;cases hr with | data r=>cases r;exact ⟨.nilf,fun _=>rfl,rfl⟩
   case nilm=>cases he;cases hr with | data r=>cases r;exact ⟨.nilm,fun _=>rfl,rfl⟩
   case mpd=>cases he;cases hr with | data r=>exact ⟨r,fun _=>rfl,rfl⟩
   case slice r sz xs =>
    cases he;refine ⟨?_,fun _=>rfl,rfl⟩;cases hr with
    | data q=>cases q with
      | slice0=>exact .slice0 sz _ _
      | slice _ _ blk off len cap cv h0 hl hc hs hm hr=>exact .slice sz xs blk off len cap cv h0 hl hc hs hm hr
    | named _ _ _ _ q=>exact q
   case vptr cs off=>cases he;cases hr with | data r=>exact ⟨r,fun _=>rfl,rfl⟩
   case mp f=>cases he;cases hr with | data r=>exact ⟨r,fun _=>rfl,rfl⟩
   case sref=>cases he;cases hr with | data r=>exact ⟨r,fun _=>rfl,rfl⟩
   case rptr=>cases he;cases hr with | data r=>exact ⟨r,fun _=>rfl,rfl⟩
   case rmap=>cases he;cases hr with | data r=>exact ⟨r,fun _=>rfl,rfl⟩
   case nili=>cases he;cases hr with | data r=>exact ⟨r,fun _=>rfl,rfl⟩
   case iface=>cases he;cases hr with | data r=>exact ⟨r,fun _=>rfl,rfl⟩
   case ptr i off =>
    cases hb:σ.b i with
    | none=>simp [hb] at he
    | some bo =>
      simp only [hb,Option.map_eq_some_iff] at he;obtain ⟨⟨us,js⟩,h1,h2⟩:=he;simp only [Prod.mk.injEq] at h2;obtain ⟨rfl,rfl⟩:=h2;obtain ⟨cs0,hcs0⟩:=hz i (by simp);rw [hb] at hcs0;cases hcs0;cases hr with
      | data r=>cases r
      | ptr _ _ blk hβ =>
        obtain ⟨blk',cs,e,hβ',hM,hh,hsz,hzz,hφ⟩:=R.bx i _ hb;rw [hβ] at hβ';cases hβ';obtain ⟨g1,g2⟩:=Hc (b:=σ.b) (n:=n) h1;have hφ:h.φ blk=cs0.length:=hφ;have hsz:cs0.length≤cs.size:=hsz;have g1:us.length=cs0.length:=g1;have each:∀(j:Nat) u,us[j]?=some u→∃v,cs0[j]?=some v∧RepD w h.φ u (cs.getD j undef)∧Af u=true∧j<cs0.length:=fun j u hu=>by
         have hlt:=(List.getElem?_eq_some_iff.1 hu).1;have hlt0:j<cs0.length:=by omega
         have hltc:j<cs.size:=by omega
         obtain ⟨js',h5,h6⟩:=g2 j _ u (List.getElem?_eq_getElem hlt0) hu;obtain ⟨p,q,s⟩:=hzz j _ (cs.getD j undef) (List.getElem?_eq_getElem hlt0) (by simp [hltc]);obtain ⟨k1,k2,_⟩:=ih _ u _ js' h5 (fun i hi=>hz i (List.mem_cons_of_mem _ (h6 i hi))) p;exact ⟨_,List.getElem?_eq_getElem hlt0,k1,k2 s,hlt0⟩
        refine ⟨?_,fun _=>rfl,rfl⟩;have:=RepD.vptr (w:=w) (φ:=h.φ) us off blk 0 (fun j=>cs.getD j undef) (fun j u hu=>by
         obtain ⟨v,_,_,k3,k4⟩:=each j u hu;refine ⟨by rw [hφ];omega,?_,k3⟩;rw [Nat.zero_add,cell_of_row w blk j cs e (0,0) hh];have k5:j<cs.size:=by omega
         simp [k5]) (fun j u hu=>by obtain ⟨v,_,k2,_⟩:=each j u hu;exact k2)
        simpa using this
   case func fn first cap =>
    split at he<;>(try (cases he;done));rename_i p i q j h1 h2;cases he;obtain ⟨g1,g2⟩:=Hc (b:=σ.b) (n:=n) h1;obtain ⟨k1,k2⟩:=Hc (b:=σ.b) (n:=n) h2;refine ⟨?_,fun _=>rfl,rfl⟩;have go:∀(f' c':Array Value),first.length=f'.size→cap.length=c'.size→(∀(i:Nat) v x,first[i]?=some v→f'[i]?=some x→Rep w h.φ h.β h.y.l v x)→(∀(i:Nat) v x,cap[i]?=some v→c'[i]?=some x→Rep w h.φ h.β h.y.l v x) →
      RepD w h.φ (.func fn p q) (.func fn f' c'):=fun f' c' hf hc r1 r2 =>
     .func fn p q f' c' (by omega) (by omega)
      (fun t u x hu hx=>by
        have hlt:t<first.length:=by have:=(List.getElem?_eq_some_iff.1 hu).1;omega
        obtain ⟨js',h5,h6⟩:=g2 t _ u (List.getElem?_eq_getElem hlt) hu;exact (ih _ u x js' h5 (fun i hi=>hz i (List.mem_append_left _ (h6 i hi))) (r1 t _ x (List.getElem?_eq_getElem hlt) hx)).1)
      (fun t u x hu hx=>by
        have hlt:t<cap.length:=by have:=(List.getElem?_eq_some_iff.1 hu).1;omega
        obtain ⟨js',h5,h6⟩:=k2 t _ u (List.getElem?_eq_getElem hlt) hu;exact (ih _ u x js' h5 (fun i hi=>hz i (List.mem_append_right _ (h6 i hi))) (r2 t _ x (List.getElem?_eq_getElem hlt) hx)).1)
    cases hr with
    | data r=>cases r with
      | func _ _ _ f' c' hf hc r1 r2=>exact go f' c' hf hc (fun i v x a b=>.data (r1 i v x a b)) (fun i v x a b=>.data (r2 i v x a b))
    | func _ _ _ f' c' hf hc r1 r2=>exact go f' c' hf hc r1 r2
   case agg cs =>
    simp only [Option.map_eq_some_iff] at he;obtain ⟨⟨us,js⟩,h1,h2⟩:=he;simp only [Prod.mk.injEq] at h2;obtain ⟨rfl,rfl⟩:=h2;obtain ⟨g1,g2⟩:=Hc (b:=σ.b) (n:=n) h1;have go:∀(vs:Array Value),cs.length=vs.size→(∀(i:Nat) v x,cs[i]?=some v→vs[i]?=some x→Rep w h.φ h.β h.y.l v x)→RepD w h.φ (.agg us) (.agg vs):=fun vs hl r1 =>
     .agg us vs (by omega) fun t u x hu hx=>by
      have hlt:t<cs.length:=by have:=(List.getElem?_eq_some_iff.1 hu).1;omega
      obtain ⟨js',h5,h6⟩:=g2 t _ u (List.getElem?_eq_getElem hlt) hu;exact (ih _ u x js' h5 (fun i hi=>hz i (h6 i hi)) (r1 t _ x (List.getElem?_eq_getElem hlt) hx)).1
    refine ⟨?_,fun e=>by simp [Af] at e,by simpa [cells] using g1⟩;cases hr with
    | data r=>cases r with
      | agg _ vs hl r1=>exact go vs hl fun i v x a b=>.data (r1 i v x a b)
    | agg _ vs hl r1=>exact go vs hl r1
theorem Ok.on {σ':FSt} {h':Gh} {w':World} {v:V} {x:Value} (q:Ok σ h w v x) (e:Ext w h.φ w' h'.φ) (hb:∀i blk,h.β i=some blk→h'.β i=some blk) (hy:h'.y=h.y) (ron:RowsOn σ h w σ' h' w'):Ok σ' h' w' v x :=
 ⟨by rw [hy];exact q.1.mono e hb,q.2.congr ron⟩
theorem A40 {r n sz e blk cap:Nat} {xs:List V} {cs:Array Value} {σ':FSt} {h':Gh} {w':World} (hr:σ'.r r=some (n,sz,e)) (hn:xs.length=n) (hγ:h'.γ r=some blk) (hh:w'.heap[blk]?=some (.cells cs e (0,0)))
  (hc:cs.size=cap*sz) (h1:n≤cap) (h2:cap≤maxLen):GrowV σ' h' w' (.slice (r+1) sz xs) (.slice (some ⟨blk,0,none⟩) n cap):=by
 intro j u z hu hz;cases j with
 | zero =>
   simp [cells,Value.cells] at hu hz;subst hu hz;intro r' sz' xs' e';cases e';exact ⟨n,e,hr,by omega,fun _=>.inr ⟨blk,cap,cs,hγ,by rw [hn],hh,hc,by omega,h2⟩⟩
 | succ j=>simp [cells] at hu
theorem Ag4 {r n sz e:Nat} {σ':FSt} {h':Gh} {w':World} (hr:σ'.r r=some (n,sz,e)):GrowV σ' h' w' (.slice (r+1) sz []) (.slice none 0 0):=by
 intro j u z hu hz;cases j with
 | zero =>
   simp [cells,Value.cells] at hu hz;subst hu hz;intro r' sz' xs' e';cases e';exact ⟨n,e,hr,by simp,fun _=>.inl ⟨rfl,rfl⟩⟩
 | succ j=>simp [cells] at hu
theorem A0f {w':World} {φ':Nat→Nat} {sz blk cap:Nat} {e:TypeId} {us:List V} {cs:Array Value} (h0:0<sz) (hc:us.length≤cap) (hs:∀u∈us,(cells u).length=sz) (hh:w'.heap[blk]?=some (.cells cs e (0,0))) (hφ:us.length*sz≤φ' blk)
  (hr:∀(j:Nat) v,(us.flatMap cells)[j]?=some v→∃x,cs[j]?=some x∧RepD w' φ' v x∧Af v=true):RepD w' φ' (.slice 0 sz us) (.slice (some ⟨blk,0,none⟩) us.length cap):=by
 have hlen:(us.flatMap cells).length=us.length*sz:=by
  clear hr hc hφ
  induction us with
  | nil=>simp
  | cons u us ih =>
    rw [List.flatMap_cons,List.length_append,hs u (by simp),ih (fun u hu=>hs u (by simp [hu])),List.length_cons,Nat.succ_mul];omega
 refine .slice sz us blk 0 us.length cap (fun j=>cs.getD j undef) h0 rfl hc hs (fun j v hv=>?_) (fun j v hv=>?_)
 ·obtain ⟨x,h1,h2,h3⟩:=hr j v hv;have hlt:=(List.getElem?_eq_some_iff.1 hv).1;refine ⟨by omega,?_,h3⟩;rw [Nat.zero_add,cell_of_row w' blk j cs e (0,0) hh,h1];have:=(Array.getElem?_eq_some_iff.1 h1);obtain ⟨hl,hx⟩:=this;simp [hl,hx]
 ·obtain ⟨x,h1,h2,h3⟩:=hr j v hv;obtain ⟨hl,hx⟩:=Array.getElem?_eq_some_iff.1 h1;simpa [hl,hx] using h2
theorem Zi {sz:Nat} (h0:0<sz):∀(us:List V) (xs:List Value) (k:Nat) (cs:Array Value),us.length=xs.length→(∀(i:Nat) u x,us[i]?=some u→xs[i]?=some x→x.cells.size=sz)→(k+xs.length)*sz≤cs.size →
  ∃cs',Instr.fill (fun i=>some (i*sz,sz)) cs ((List.range' k xs.length).zip xs)=some cs'∧cs'.size=cs.size∧(∀j,j<k*sz→cs'[j]?=cs[j]?) ∧
   (∀(i:Nat) x (j:Nat) z,xs[i]?=some x→x.cells[j]?=some z→cs'[(k+i)*sz+j]?=some z)
 | [],xs,k,cs,hl,_,_=>by
   have:xs=[]:=List.eq_nil_of_length_eq_zero (by simpa using hl.symm);subst this;exact ⟨cs,rfl,rfl,fun _ _=>rfl,fun i x j z hx=>by simp at hx⟩
 | u::us,[],k,cs,hl,_,_=>by simp at hl
 | u::us,x::xs,k,cs,hl,hs,hle=>by
   have hxs:=hs 0 u x rfl rfl;simp only [List.length_cons] at hle hl;have h1:(k+1)*sz≤cs.size:=Nat.le_trans (Nat.mul_le_mul_right _ (by omega)) hle;rw [Nat.succ_mul] at h1;obtain ⟨f1,f2⟩:=Wb (k*sz) x.cells.toList 0 cs (by simp;omega);have heq:(x.cells.zipIdx.foldl (fun cs (p:Value×Nat)=>cs.setIfInBounds (k*sz+p.2) p.1) cs)=((x.cells.toList.zipIdx 0).foldl (fun cs (p:Value×Nat)=>cs.setIfInBounds (k*sz+p.2) p.1) cs):=by
    rw [←Array.foldl_toList,Array.toList_zipIdx]
   obtain ⟨cs',g1,g2,g3,g4⟩:=Zi h0 us xs (k+1) (x.cells.zipIdx.foldl (fun cs (p:Value×Nat)=>cs.setIfInBounds (k*sz+p.2) p.1) cs) (by omega) (fun i u x hu hx=>hs (i+1) u x (by simpa using hu) (by simpa using hx)) (by rw [heq,f1];rw [show k+1+xs.length=k+(xs.length+1) by omega];exact hle);refine ⟨cs',?_,by rw [g2,heq,f1],fun j hj=>?_,fun i x' j z hx' hz=>?_⟩
   ·simp only [List.length_cons,List.range'_succ,List.zip_cons_cons,Instr.fill];rw [if_neg (by simp;omega)];exact g1
   ·rw [g3 j (by rw [Nat.succ_mul];omega),heq,f2 j,if_neg (by omega)]
   ·cases i with
    | zero =>
      simp at hx';subst hx';have hj:j<sz:=by have:=(Array.getElem?_eq_some_iff.1 hz).1;omega
      rw [Nat.add_zero,g3 _ (by rw [Nat.succ_mul];omega),heq,f2,if_pos (by simp;omega)];rw [show k*sz+j-(k*sz+0)=j by omega];simpa using hz
    | succ i =>
      simp at hx';have:=g4 i x' j z hx' hz;rw [show k+(i+1)=k+1+i by omega];exact this
theorem N6 {sz:Nat} (h0:0<sz):∀{us:List V} (hs:∀u∈us,(cells u).length=sz) (j:Nat) (v:V),(us.flatMap cells)[j]?=some v→∃i u k,us[i]?=some u∧(cells u)[k]?=some v∧j=i*sz+k
 | [],_,j,v,hv=>by simp at hv
 | u::us,hs,j,v,hv=>by
   rw [List.flatMap_cons] at hv;have hu:=hs u (by simp);by_cases hj:j<sz
   ·rw [List.getElem?_append_left (by omega)] at hv;exact ⟨0,u,j,rfl,hv,by simp⟩
   ·rw [List.getElem?_append_right (by omega),hu] at hv;obtain ⟨i,u',k,h1,h2,h3⟩:=N6 h0 (fun u hu=>hs u (by simp [hu])) (j-sz) v hv;exact ⟨i+1,u',k,by simpa using h1,h2,by rw [Nat.succ_mul];omega⟩
end
end
section
open Go.RowKit
section
variable {P:Program} {nt:Nat} {S:Sur} {log:List (List V)} {stp:Bool} {σ:FSt} {a:Act} {w:World} {h:Gh} {o:Oper} {eff:Eff}
theorem Z0 {φ:Nat→Nat} {u:V} {x:Value} (r:RepD w φ u x):(cells u).length=x.cells.size∧∀(i:Nat) v z,(cells u)[i]?=some v→x.cells[i]?=some z→RepD w φ v z:=by
 cases r with
 | agg cs vs hl hh=>exact ⟨hl,hh⟩
 | _ =>
   refine ⟨rfl,fun i v z hv hz=>?_⟩;cases i with
   | zero=>simp [cells,Value.cells] at hv hz;subst hv hz;constructor<;>assumption
   | succ i=>simp [cells] at hv
theorem A59 {σ:FSt} {l:Loc} {c:Cell} (e:σ l=some c):σ.set l c=σ:=by
 funext k;by_cases hk:k=l
 ·subst hk;simp [FSt.set,e]
 ·simp [FSt.set,hk]
theorem Adj {σ:FSt} {r:Nat} {q:Nat×Nat×Nat} (e:σ.r r=some q):σ (.row r)=some (.r q.1 q.2.1 q.2.2):=by
 unfold FSt.r at e;split at e<;>(try (cases e;done));rename_i hh;cases e;exact hh
theorem Kz {sz:Nat} {us:List V} (hs:∀u∈us,(cells u).length=sz):(us.flatMap cells).length=us.length*sz:=by
 induction us with
 | nil=>simp
 | cons u us ih =>
   rw [List.flatMap_cons,List.length_append,hs u (by simp),ih (fun u hu=>hs u (by simp [hu])),List.length_cons,Nat.succ_mul];omega
theorem A45 {t e len sz d:Nat} {parts:Array (Nat×Operand)} {ie:TypeInfo} {z:Value} {vs us:List V} (R:Rel nt S log stp σ a w h) (hS:S.ok) (ho:o.op=.buildSlice t len parts) (ht:P.underlying t=some (.slice e)) (hi:P.info? e=some ie)
  (hz:ie.zero=some z) (hzs:z.cells.size=ie.size) (hsz:ie.size=sz) (hidx:parts.toList.map (·.1)=List.range len) (hv:Opds σ h w a (parts.toList.map (·.2)) vs) (hu:toDs σ.b vs=some (us,[])) (hd:σ.r d=none)
  (h0:0<sz) (hall:us.all (fun u=>(cells u).length.beq sz&&(cells u).all Af)=true) (hcap:us.length*sz≤2^24) (hpos:0<us.length) {pre:Prop} {rr:List Nat} :
  Done P nt S log stp σ a w h o {pre:=pre,v:=.slice (d+1) sz us,wr:=[(d,us.length,sz,e)],rr:=rr}:=by
 subst hsz;obtain ⟨q1,q2⟩:=hv.get;obtain ⟨u1,u2⟩:=A8x hu;have hlen:us.length=len:=by
  have:=congrArg List.length hidx;simp at this q1;omega
 subst hlen;rw [List.all_eq_true] at hall;have hus:∀u∈us,(cells u).length=ie.size∧∀v∈cells u,Af v=true:=fun u hu=>by
  have:=hall u hu;rw [Bool.and_eq_true,List.all_eq_true] at this;exact ⟨by simpa using this.1,this.2⟩
 have rep:∀(i:Nat) u x,us[i]?=some u→((parts.toList.map (·.2)).map a.eval)[i]?=some x→RepD w h.φ u x:=fun i u x hui hxi=>by
  have hlt:i<vs.length:=by have:=(List.getElem?_eq_some_iff.1 hui).1;omega
  rw [List.getElem?_map,Option.map_eq_some_iff] at hxi;obtain ⟨p,hp,rfl⟩:=hxi;exact (Jn R 6 _ u _ [] (u2 i _ u (List.getElem?_eq_getElem hlt) hui) (fun i hi=>by cases hi) (q2 i _ p (List.getElem?_eq_getElem hlt) hp).1).1
 obtain ⟨xs,hxs⟩:∃xs,xs=(parts.toList.map (·.2)).map a.eval:=⟨_,rfl⟩;rw [←hxs] at rep;have hxl:us.length=xs.length:=by rw [hxs];simp at q1 ⊢;omega
 obtain ⟨cs',g1,g2,g3,g4⟩:=Zi h0 us xs 0 ((Array.range (us.length*ie.size)).map (z.cells[·%z.cells.size]!)) hxl (fun i u x hui hxi=>by rw [←(Z0 (rep i u x hui hxi)).1];exact (hus u (List.mem_of_getElem? hui)).1) (by simp;rw [←hxl];exact Nat.le_refl _);have hzip:(parts.map fun (i,x)=>(i,a.eval x)).toList=(List.range' 0 xs.length).zip xs:=by
  rw [←A2h,hidx,←hxs,←hxl,List.range_eq_range']
 have hrun:=run_buildSlice (P:=P) w t e us.length (parts.map fun (i,x)=>(i,a.eval x)) cs' ie z ht hi hz (by omega) (by have:=Nat.mul_pos hpos h0;omega) (by rw [hzip];exact g1);obtain ⟨R1,ext⟩:=R.setRow (r:=d) (n:=us.length) (sz:=ie.size) (e:=e) (blk:=w.heap.size) (cs:=cs') (w':=w.alloc (.cells cs' e)) hS (.inl hd) (.inl (Nat.le_refl _)) (by rw [Iu];simp) (fun b hb _=>Below.heap_alloc w _ b hb) (by simp) rfl rfl rfl (fun o' ho'=>by rw [R.top _ (Nat.le_refl _)] at ho';omega) (by rw [g2];simp) (by simp);refine ⟨.slice (some ⟨w.heap.size,0,none⟩) us.length us.length,_,_,.inl ?_,R1,?_,rfl⟩
 ·simp only [execOp,ho,Sem.run_bind,hrun];rfl
 ·have hrow:=A0f (w':=w.alloc (.cells cs' e)) (φ':=fun b=>if b=w.heap.size then us.length*ie.size else h.φ b) (blk:=w.heap.size) (cap:=us.length) (e:=e) (cs:=cs') h0 (by omega) (fun u hu=>(hus u hu).1) (by rw [Iu];simp) (by simp) (fun j v hv=>by
   obtain ⟨i,u,k,h1,h2,h3⟩:=N6 h0 (fun u hu=>(hus u hu).1) j v hv;have hlt:i<xs.length:=by have:=(List.getElem?_eq_some_iff.1 h1).1;omega
   obtain ⟨c1,c2⟩:=Z0 (rep i u _ h1 (List.getElem?_eq_getElem hlt));have hk:k<xs[i].cells.size:=by have:=(List.getElem?_eq_some_iff.1 h2).1;omega
   have hz':=g4 i _ k _ (List.getElem?_eq_getElem hlt) (Array.getElem?_eq_getElem hk);rw [Nat.zero_add,←h3] at hz';exact ⟨_,hz',(c2 k v _ h2 (Array.getElem?_eq_getElem hk)).mono ext,(hus u (List.mem_of_getElem? h1)).2 v (List.mem_of_getElem? h2)⟩)
  refine ⟨.named d ie.size us _ hrow,?_⟩;have:=A40 (σ':=σ.set (.row d) (.r us.length ie.size e)) (h':={h with φ:=fun b=>if b=w.heap.size then us.length*ie.size else h.φ b,M:=fun b=>h.M b∨b=w.heap.size,γ:=fun k=>if k=d then some w.heap.size else h.γ k}) (w':=w.alloc (.cells cs' e)) (r:=d) (n:=us.length) (sz:=ie.size) (e:=e) (blk:=w.heap.size) (cap:=us.length) (xs:=us) (cs:=cs') (by simp) rfl (by simp) (by rw [Iu];simp) (by rw [g2];simp) (by omega) (by unfold maxLen;have:=Nat.le_mul_of_pos_right us.length h0;omega);exact this
theorem O7 {t e ty:TypeId} {i:TypeInfo} {b b':Option Addr} {n cap c:Nat} (ht:P.underlying t=some (.slice e)) (hi:P.info? e=some i) (hle:n≤cap) (w:World) :
  (Builtin.append_ #[t,t] ty #[.slice b n cap,.slice b' 0 c]).run P w=.ok (.slice b n cap) w:=by
 cases b'<;>cases b<;>simp [Builtin.append_,run_underlying ht,sizeOf,typeInfo,hi,Builtin.lenOf,hle,Builtin.firstCells,loadCells,loadCellsFrom,storeCells]
theorem A1y {sz:Nat} {xs ys:List V} {φ':Nat→Nat} {w':World} {arr:Array Value} {cvx cvy:Nat→Value} (hx:∀u∈xs,(cells u).length=sz) (hy:∀u∈ys,(cells u).length=sz)
  (ax:∀j,j<xs.length*sz→arr[j]?=some (cvx j)) (ay:∀j,j<ys.length*sz→arr[xs.length*sz+j]?=some (cvy j))
  (rx:∀(j:Nat) v,(xs.flatMap cells)[j]?=some v→RepD w' φ' v (cvx j)∧Af v=true) (ry:∀(j:Nat) v,(ys.flatMap cells)[j]?=some v→RepD w' φ' v (cvy j)∧Af v=true) :
  ∀(j:Nat) v,((xs++ys).flatMap cells)[j]?=some v→∃x,arr[j]?=some x∧RepD w' φ' v x∧Af v=true:=by
 intro j v hv;rw [List.flatMap_append] at hv;have l1:=Kz hx;have l2:=Kz hy;by_cases hj:j<xs.length*sz
 ·rw [List.getElem?_append_left (by omega)] at hv;exact ⟨_,ax j hj,rx j v hv⟩
 ·rw [List.getElem?_append_right (by omega),l1] at hv;have hlt:=(List.getElem?_eq_some_iff.1 hv).1;refine ⟨_,?_,ry _ v hv⟩;have:=ay (j-xs.length*sz) (by omega);rw [show xs.length*sz+(j-xs.length*sz)=j by omega] at this;exact this
theorem Ex {φ:Nat→Nat} {sz:Nat} {xs:List V} {x:Value} (r:RepD w φ (.slice 0 sz xs) x):((∃a cap,x=.slice a 0 cap)∧xs=[])∨∃(blk off cap:Nat) (cv:Nat→Value),x=.slice (some ⟨blk,off,none⟩) xs.length cap∧0<sz∧xs.length≤cap∧(∀u∈xs,(cells u).length=sz) ∧
  (∀(j:Nat) v,(xs.flatMap cells)[j]?=some v→off+j<φ blk∧w.cell? ⟨blk,off+j,none⟩=some (cv j)∧RepD w φ v (cv j)∧Af v=true):=by
 cases r with
 | slice0 _ a cap=>exact .inl ⟨⟨a,cap,rfl⟩,rfl⟩
 | slice _ _ blk off len cap cv h0 hl hc hs hm hr=>subst hl;exact .inr ⟨blk,off,cap,cv,rfl,h0,hc,hs,fun j v hv=>⟨(hm j v hv).1,(hm j v hv).2.1,hr j v hv,(hm j v hv).2.2⟩⟩
theorem Ael {r sz e cap:Nat} {zs:List V} {arr:Array Value} (R:Rel nt S log stp σ a w h) (hS:S.ok) (hr:σ.r r=none∨∃n0,σ.r r=some (n0,sz,e)∧n0<zs.length) (h0:0<sz) (ha:arr.size=cap*sz) (hcap:zs.length≤cap) (hmax:cap≤maxLen)
  (hsl:∀u∈zs,(cells u).length=sz) (hg:∀(j:Nat) v,(zs.flatMap cells)[j]?=some v→∃x,arr[j]?=some x∧RepD w h.φ v x∧Af v=true) :
  ∃h',Rel nt S log stp (σ.set (.row r) (.r zs.length sz e)) a (w.drew.alloc (.cells arr e)) h'∧Ok (σ.set (.row r) (.r zs.length sz e)) h' (w.drew.alloc (.cells arr e)) (.slice (r+1) sz zs) (.slice (some ⟨w.heap.size,0,none⟩) zs.length cap)∧h'.y=h.y:=by
 have hle:zs.length*sz≤arr.size:=by rw [ha];exact Nat.mul_le_mul_right _ hcap
 have hnew:(w.drew.alloc (.cells arr e)).heap[w.heap.size]?=some (.cells arr e (0,0)):=by rw [Iu];simp
 obtain ⟨R1,ext⟩:=(R.drew hS).setRow (r:=r) (n:=zs.length) (sz:=sz) (e:=e) (blk:=w.heap.size) (cs:=arr) (w':=w.drew.alloc (.cells arr e)) hS hr (.inl (Nat.le_refl _)) hnew (fun b hb _=>Below.heap_alloc w.drew _ b hb) (by simp) rfl rfl rfl (fun o' ho'=>by rw [R.top _ (Nat.le_refl _)] at ho';omega) hle (by simp);refine ⟨_,R1,⟨.named r sz zs _ ?_,?_⟩,rfl⟩
 ·exact A0f h0 hcap hsl hnew (by simp) fun j v hv=>by
   obtain ⟨x,h1,h2,h3⟩:=hg j v hv;exact ⟨x,h1,h2.mono (Ext.trans (fun _ _ ho=>⟨ho,rfl,rfl⟩) ext),h3⟩
 ·exact A40 (by simp) rfl (by simp) hnew ha hcap hmax
theorem Wj {t e sz bytes r:Nat} {p q:Operand} {c:Call} {ie:TypeInfo} {z:Value} {xs ys:List V} {x y:Value} (R:Rel nt S log stp σ a w h) (hS:S.ok) (ho:o.op=.call c) (hc:c.callee=.builtin .append) (hca:c.args.toList=[p,q]) (hct:c.argTypes.toList=[t,t])
  (ht:P.underlying t=some (.slice e)) (hi:P.info? e=some ie) (hz:ie.zero=some z) (hzs:z.cells.size=ie.size) (hsz:ie.size=sz) (hby:ie.bytes=bytes) (hx:a.eval p=x) (hy:a.eval q=y)
  (rx:RepD w h.φ (.slice 0 sz xs) x) (ry:RepD w h.φ (.slice 0 sz ys) y)
  (old:(σ.r r=none∧xs=[]∧x=.slice none 0 0)∨(σ.r r=some (xs.length,sz,e)∧Grow σ h w (.slice (r+1) sz xs) x))
  (h0:0<sz) (hb:(xs.length+ys.length)*bytes≤2^47) (hm:xs.length+ys.length≤2^47) {pre:Prop} {rr:List Nat} :
  Done P nt S log stp σ a w h o {pre:=pre,v:=.slice (r+1) sz (xs++ys),wr:=[(r,xs.length+ys.length,sz,e)],rr:=rr}:=by
 subst hsz hby;have ea:c.args=#[p,q]:=by rw [←Array.toList_inj];simpa using hca
 have et:c.argTypes=#[t,t]:=by rw [←Array.toList_inj];simpa using hct
 have hexec:∀v w',(Builtin.append_ #[t,t] o.type #[x,y]).run P w=.ok v w'→(execOp a.eval o).run P w=.ok (.value v) w':=fun v w' hr=>by
  simp only [execOp,ho,resolve,hc,ea,et,Sem.run_bind,Sem.run_pure,Result.andThen_ok,invoke,builtin];simp [hx,hy,hr]
 have hml:xs.length+ys.length≤maxLen:=by unfold maxLen;omega
 rw [show xs.length+ys.length=(xs++ys).length by simp];by_cases hm0:ys=[]
 ·subst hm0;have hrun:(Builtin.append_ #[t,t] o.type #[x,y]).run P w=.ok x w:=by
   have hy':∃b c,y=.slice b 0 c:=by
    rcases Ex ry with ⟨⟨_,_,rfl⟩,_⟩ | ⟨_,_,_,_,rfl,_⟩<;>exact ⟨_,_,rfl⟩
   have hx':∃b n c,x=.slice b n c∧n≤c:=by
    rcases Ex rx with ⟨⟨_,_,rfl⟩,_⟩ | ⟨_,_,_,_,rfl,_,hc,_⟩
    ·exact ⟨_,_,_,rfl,Nat.zero_le _⟩
    ·exact ⟨_,_,_,rfl,hc⟩
   obtain ⟨b,c',rfl⟩:=hy';obtain ⟨b',n,c'',rfl,hle⟩:=hx';exact O7 ht hi hle w
  rw [List.append_nil];rcases old with ⟨h1,rfl,rfl⟩ | ⟨h1,g⟩
  ·exact ⟨_,w,h,.inl (hexec _ _ hrun),R.row0 h1,⟨.named r _ [] _ rx,Ag4 (n:=0) (e:=e) (by simp [FSt.eff])⟩,rfl⟩
  ·have hself:σ.eff {pre:=pre,v:=V.slice (r+1) ie.size xs,wr:=[(r,xs.length,ie.size,e)],rr:=rr}=σ:=A59 (Adj h1);refine ⟨x,w,h,.inl (hexec _ _ hrun),by rw [hself];exact R,⟨.named r _ xs _ rx,?_⟩,rfl⟩;rw [hself];intro j u zz hu hzz;have hxc:x.cells=#[x]:=by rcases Ex rx with ⟨⟨_,_,rfl⟩,_⟩ | ⟨_,_,_,_,rfl,_⟩<;>rfl
   rw [hxc] at hzz;cases j with
   | zero=>simp [cells] at hu hzz;subst hu hzz;exact g
   | succ j=>simp [cells] at hu
 ·have hpos:0<ys.length:=List.length_pos_iff.2 hm0;rcases Ex ry with ⟨_,e0⟩ | ⟨yb,yo,ycap,cvy,rfl,_,_,hys,ay⟩
  ·exact absurd e0 hm0
  have ylen:=Kz hys;have hrow:σ.r r=none∨∃n0,σ.r r=some (n0,ie.size,e)∧n0<(xs++ys).length:=by
   rcases old with ⟨h1,_⟩ | ⟨h1,_⟩
   ·exact .inl h1
   ·exact .inr ⟨_,h1,by simp;omega⟩
  obtain ⟨news,hnews⟩:∃news,news=(List.range (ys.length*ie.size)).map cvy:=⟨_,rfl⟩;have nl:news.length=ys.length*ie.size:=by rw [hnews];simp
  have nget:∀j,j<ys.length*ie.size→news[j]?=some (cvy j):=fun j hj=>by rw [hnews];simp [hj]
  have ncell:∀j u,news[j]?=some u→w.cell? ((⟨yb,yo,none⟩:Addr).add j)=some u:=fun j u hu=>by
   have hj:j<ys.length*ie.size:=by have:=(List.getElem?_eq_some_iff.1 hu).1;omega
   rw [nget j hj] at hu;cases hu;rw [Addr.add_lit];exact (ay j _ (List.getElem?_eq_getElem (by omega))).2.1
  have none1:∀u∈news,u.oneCell'=true:=fun u hu=>by
   obtain ⟨j,hj⟩:=List.getElem?_of_mem hu;have hlt:j<ys.length*ie.size:=by have:=(List.getElem?_eq_some_iff.1 hj).1;omega
   rw [nget j hlt] at hj;cases hj;obtain ⟨_,_,k3,k4⟩:=ay j _ (List.getElem?_eq_getElem (by omega));exact (Cr (Rep.data (β:=h.β) (y:=h.y.l) k3) k4).1
  have ry':∀(j:Nat) v,(ys.flatMap cells)[j]?=some v→RepD w h.φ v (cvy j)∧Af v=true:=fun j v hv=>⟨(ay j v hv).2.2.1,(ay j v hv).2.2.2⟩;have hx2:(x=.slice none 0 0∧xs=[])∨∃(blk off cap:Nat) (cv:Nat→Value),x=.slice (some ⟨blk,off,none⟩) xs.length cap∧0<ie.size∧xs.length≤cap∧(∀u∈xs,(cells u).length=ie.size) ∧ (∀(j:Nat) v,(xs.flatMap cells)[j]?=some v→off+j<h.φ blk∧w.cell? ⟨blk,off+j,none⟩=some (cv j)∧RepD w h.φ v (cv j)∧Af v=true):=by
   rcases Ex rx with ⟨_,hnil⟩ | h2
   ·rcases old with ⟨_,_,e1⟩ | ⟨h1,g⟩
    ·exact .inl ⟨e1,hnil⟩
    ·obtain ⟨n,e',hn1,_,hn3⟩:=g r ie.size xs rfl;rw [h1] at hn1;cases hn1;rcases hn3 rfl with ⟨_,e1⟩ | ⟨blk,cap',cs,hγ,e1,hh,hcs,hle,hmax⟩
     ·exact .inl ⟨e1,hnil⟩
     ·exact .inr ⟨blk,0,cap',fun _=>undef,e1,h0,hle,by rw [hnil];simp,by rw [hnil];simp⟩
   ·exact .inr h2
  rcases hx2 with ⟨rfl,rfl⟩ | ⟨xb,xo,cap,cvx,rfl,_,hcap,hxs,ax⟩
  ·
   have hrun:=run_append_nil (P:=P) w t o.type e ie z ht hi hz ⟨yb,yo,none⟩ ys.length ycap news nl ncell hpos (by simp at hm;omega) (by simp at hb;omega);have hge:=grownCap_ge w ys.length 0 e;obtain ⟨h',R',ok,hyy⟩:=Ael (r:=r) (cap:=grownCap w ys.length 0 e) (zs:=[]++ys) (arr:=news.toArray++Builtin.zeroCells z.cells (grownCap w ys.length 0 e-ys.length)) R hS hrow h0
    (by rw [Array.size_append,size_zeroCells,hzs];simp only [List.size_toArray,nl];rw [←Nat.add_mul];congr 1;omega) (by simpa using hge) (grownCap_le_maxLen w _ _ _ (by simpa using hml)) (by simpa using hys)
    (A1y (cvx:=fun _=>undef) (xs:=[]) (by simp) hys (by simp) (fun j hj=>by
      rw [Array.getElem?_append_left (by simp [nl];omega)];simpa using nget j hj) (by simp) ry')
   simp only [List.nil_append] at R' ok ⊢;exact ⟨_,_,h',.inl (hexec _ _ hrun),R',ok,hyy⟩
  ·
   rcases old with ⟨_,_,e1⟩ | ⟨h1,g⟩
   ·cases e1
   obtain ⟨n,e',hn1,_,hn3⟩:=g r ie.size xs rfl;rw [h1] at hn1;cases hn1;rcases hn3 rfl with ⟨_,e1⟩ | ⟨blk,cap',cs,hγ,e1,hh,hcs,hle,hmax⟩
   ·cases e1
   cases e1;have xlen:=Kz hxs;have hall:∀u∈xs++ys,(cells u).length=ie.size:=fun u hu=>by
    rcases List.mem_append.1 hu with hu | hu
    ·exact hxs u hu
    ·exact hys u hu
   have hcx:∀j,j<xs.length*ie.size→cs[j]?=some (cvx j):=fun j hj=>by
    have:=(ax j _ (List.getElem?_eq_getElem (show j<(xs.flatMap cells).length by omega))).2.1;rw [Nat.zero_add,cell_of_row w xb j cs e (0,0) hh] at this;exact this
   have rx':∀(j:Nat) v,(xs.flatMap cells)[j]?=some v→RepD w h.φ v (cvx j)∧Af v=true:=fun j v hv=>⟨(ax j v hv).2.2.1,(ax j v hv).2.2.2⟩;have hφ:h.φ xb=xs.length*ie.size:=by
    rcases R.rows r _ _ _ h1 with ⟨e2,_⟩ | ⟨b,cs',hb',_,_,hp,_⟩
    ·rw [hγ] at e2;cases e2
    ·rw [hγ] at hb';cases hb';exact hp
   by_cases hroom:xs.length+ys.length≤cap
   ·have hfit:xs.length*ie.size+news.length≤cs.size:=by rw [nl,hcs,←Nat.add_mul];exact Nat.mul_le_mul_right _ hroom
    have hrun:=run_append_room (P:=P) w t o.type e ie ht hi xb xs.length cap cs hh ⟨yb,yo,none⟩ ys.length ycap news nl ncell none1 hroom hfit;obtain ⟨arr,harr⟩:∃arr,arr=(cs.toList.take (xs.length*ie.size)++news++cs.toList.drop (xs.length*ie.size+news.length)).toArray:=⟨_,rfl⟩;rw [←harr] at hrun;have asz:arr.size=cs.size:=by rw [harr];simp;omega
    have hw':=setRow_heap w xb cs arr e (0,0) hh;have agx:∀j,j<xs.length*ie.size→arr[j]?=cs[j]?:=fun j hj=>by
     rw [harr,List.getElem?_toArray,Ga (by simpa using hfit),if_pos hj,Array.getElem?_toList]
    have agy:∀j,j<ys.length*ie.size→arr[xs.length*ie.size+j]?=some (cvy j):=fun j hj=>by
     rw [harr,List.getElem?_toArray,Ga (by simpa using hfit),if_neg (by omega),if_pos (by omega),←nget j hj];congr 1;omega
    have hlt:xb<w.heap.size:=(Array.getElem?_eq_some_iff.1 hh).1;obtain ⟨R1,ext⟩:=R.setRow (r:=r) (n:=(xs++ys).length) (sz:=ie.size) (e:=e) (blk:=xb) (cs:=arr) (w':=w.setRow xb arr) hS hrow (.inr hγ) hw' (fun b _ hb=>setRow_other w xb b arr hb) (by simp) rfl rfl rfl (fun o' ho'=>by
       rw [hφ] at ho';refine ⟨by simp [Nat.add_mul];omega,?_⟩;rw [cell_of_row _ xb o' arr e (0,0) hw',cell_of_row w xb o' cs e (0,0) hh,agx o' ho'])
     (by rw [asz,hcs];exact Nat.mul_le_mul_right _ (by simpa using hroom)) (by simpa using hlt)
    refine ⟨_,_,_,.inl (hexec _ _ hrun),R1,?_,rfl⟩;have hlen:xs.length+ys.length=(xs++ys).length:=by simp
    rw [hlen];refine ⟨.named r _ _ _ ?_,A40 (by simp [FSt.eff]) rfl (by simp) hw' (by rw [asz,hcs]) (by simpa using hroom) hmax⟩;exact A0f h0 (by simpa using hroom) hall hw' (by simp) (A1y hxs hys (fun j hj=>(agx j hj).trans (hcx j hj)) agy
     (fun j v hv=>⟨(rx' j v hv).1.mono ext,(rx' j v hv).2⟩) (fun j v hv=>⟨(ry' j v hv).1.mono ext,(ry' j v hv).2⟩))
   ·obtain ⟨olds,holds⟩:∃olds,olds=(List.range (xs.length*ie.size)).map cvx:=⟨_,rfl⟩;have ol:olds.length=xs.length*ie.size:=by rw [holds];simp
    have oget:∀j,j<xs.length*ie.size→olds[j]?=some (cvx j):=fun j hj=>by rw [holds];simp [hj]
    have ocell:∀j u,olds[j]?=some u→w.cell? ((⟨xb,0,none⟩:Addr).add j)=some u:=fun j u hu=>by
     have hj:j<xs.length*ie.size:=by have:=(List.getElem?_eq_some_iff.1 hu).1;omega
     rw [oget j hj] at hu;cases hu;rw [Addr.add_lit];exact (ax j _ (List.getElem?_eq_getElem (by omega))).2.1
    have hrun:=run_append_grow (P:=P) w t o.type e ie z ht hi hz ⟨xb,0,none⟩ xs.length cap olds ol ocell ⟨yb,yo,none⟩ ys.length ycap news nl ncell (by omega) (by omega) (growslice_fits (by omega) (by omega));have hge:=grownCap_ge w (xs.length+ys.length) cap e;obtain ⟨h',R',ok,hyy⟩:=Ael (r:=r) (cap:=grownCap w (xs.length+ys.length) cap e) (zs:=xs++ys) (arr:=olds.toArray++news.toArray++Builtin.zeroCells z.cells (grownCap w (xs.length+ys.length) cap e-(xs.length+ys.length))) R hS hrow h0
     (by rw [Array.size_append,Array.size_append,size_zeroCells,hzs];simp only [List.size_toArray,nl,ol];rw [←Nat.add_mul,←Nat.add_mul];congr 1;omega) (by simpa using hge) (grownCap_le_maxLen w _ _ _ hml) hall
     (A1y hxs hys (fun j hj=>by
       rw [Array.append_assoc,Array.getElem?_append_left (by simp [ol];omega)];simpa using oget j hj) (fun j hj=>by
       rw [Array.getElem?_append_left (by simp [ol,nl];omega),Array.getElem?_append_right (by simp [ol]),←nget j hj];simp [ol]) rx' ry')
    have hlen:xs.length+ys.length=(xs++ys).length:=by simp
    rw [hlen] at hrun;rw [hlen] at R' ok;exact ⟨_,_,h',.inl (hexec _ _ hrun),R',ok,hyy⟩
end
end
section
open Go.RowKit
section
variable {P:Program} {nt:Nat} {S:Sur} {log:List (List V)} {stp:Bool} {σ:FSt} {a:Act} {w:World} {h:Gh} {o:Oper} {eff:Eff} {k:K} {os:List Operand} {vs:List V} {d:Nat}
theorem Opds.one {p:Operand} (q:Opds σ h w a [p] vs):∃v,vs=[v]∧Ok σ h w v (a.eval p):=by
 cases q with
 | cons o r=>cases r;exact ⟨_,rfl,o⟩
theorem Opds.two {p q:Operand} (r:Opds σ h w a [p,q] vs):∃u v,vs=[u,v]∧Ok σ h w u (a.eval p)∧Ok σ h w v (a.eval q):=by
 cases r with
 | cons o r=>obtain ⟨v,rfl,hv⟩:=r.one;exact ⟨_,_,rfl,o,hv⟩
theorem Opds.three {p q s:Operand} (r:Opds σ h w a [p,q,s] vs):∃u v z,vs=[u,v,z]∧Ok σ h w u (a.eval p)∧Ok σ h w v (a.eval q)∧Ok σ h w z (a.eval s):=by
 cases r with
 | cons o r=>obtain ⟨v,z,rfl,hv,hz⟩:=r.two;exact ⟨_,_,_,rfl,o,hv,hz⟩
theorem ek_mov {p:Operand} (R:Rel nt S log stp σ a w h) (ho:o.op=.move p∨o.op=.assign p) (hv:Opds σ h w a [p] vs) (he:Bl .mov d vs σ=some eff):Done P nt S log stp σ a w h o eff:=by
 obtain ⟨v,rfl,hv'⟩:=hv.one;simp only [Bl,Option.some.injEq] at he;subst he;exact done_mov R ho hv'
theorem ek_pick {p q s:Operand} (R:Rel nt S log stp σ a w h) (ho:o.op=.pick p q s) (hv:Opds σ h w a [p,q,s] vs) (he:Bl .pick d vs σ=some eff) (hp:eff.pre):Done P nt S log stp σ a w h o eff:=by
 obtain ⟨u,v,z,rfl,h1,h2,h3⟩:=hv.three;exact Agn R ho h1 h2 h3 he hp
theorem ek_alloc {e:TypeId} (R:Rel nt S log stp σ a w h) (hS:S.ok) (ho:o.op=.alloc e) (hk:opK0 P (.alloc e)=some (k,os)) (hv:Opds σ h w a os vs) (he:Bl k d vs σ=some eff):Done P nt S log stp σ a w h o eff:=by
 simp only [opK0] at hk;cases hi:P.info? e with
 | none=>simp [hi] at hk
 | some i =>
   cases hz:i.zero with
   | none=>simp [hi,hz] at hk
   | some z =>
     simp only [hi,hz,Option.map_eq_some_iff] at hk;obtain ⟨zs,hzs,hk⟩:=hk;simp only [Prod.mk.injEq] at hk;obtain ⟨rfl,rfl⟩:=hk;cases hv;simp only [Bl] at he;cases hd:σ.b d with
     | some b=>simp [hd] at he
     | none =>
       simp only [hd,Option.some.injEq] at he;subst he;exact Acn R hS ho hi hz hzs hd
theorem ek_box {e:TypeId} {p:Operand} (R:Rel nt S log stp σ a w h) (hS:S.ok) (ho:o.op=.box e p) (hv:Opds σ h w a [p] vs) (he:Bl .box d vs σ=some eff) (hp:eff.pre):Done P nt S log stp σ a w h o eff:=by
 obtain ⟨v,rfl,hv'⟩:=hv.one;simp only [Bl] at he;cases hd:σ.b d with
 | some b=>simp [hd] at he
 | none =>
   simp only [hd,Option.some.injEq] at he;subst he;exact done_box R hS ho hv' hp hd
theorem Afd {t:TypeId} {parts:Array (Nat×Operand)} (hk:opK0 P (.build t parts)=some (k,os)):∃zs pl,k=.build zs pl∧os=parts.toList.map (·.2):=by
 simp only [opK0] at hk
 repeat' (split at hk<;>(try (cases hk;done)))
 ·simp only [Option.map_eq_some_iff,Prod.mk.injEq] at hk;obtain ⟨zs,_,rfl,rfl⟩:=hk;exact ⟨_,_,rfl,rfl⟩
 ·cases hk;exact ⟨_,_,rfl,rfl⟩
theorem ek_build {t:TypeId} {parts:Array (Nat×Operand)} (R:Rel nt S log stp σ a w h) (ho:o.op=.build t parts) (hk:opK0 P (.build t parts)=some (k,os)) (hv:Opds σ h w a os vs) (he:Bl k d vs σ=some eff) (hp:eff.pre):Done P nt S log stp σ a w h o eff:=by
 obtain ⟨zs,pl,rfl,rfl⟩:=Afd hk;simp only [Bl] at he;cases hz:zip3 pl vs with
 | none=>simp [hz] at he
 | some ps =>
   cases hf:A79 zs ps with
   | none=>simp [hz,hf] at he
   | some cs =>
     simp only [hz,hf,Option.some.injEq] at he;subst he;simp only [List.all_eq_true] at hp;exact Acm R ho hk hv hz hf (fun v hv=>by rw [List.all_eq_true];exact hp v hv)
theorem Ace {t len:Nat} {parts:Array (Nat×Operand)} (R:Rel nt S log stp σ a w h) (hS:S.ok) (ho:o.op=.buildSlice t len parts) (hk:opK0 P (.buildSlice t len parts)=some (k,os)) (hv:Opds σ h w a os vs) (he:Bl k d vs σ=some eff) (hp:eff.pre) :
  Done P nt S log stp σ a w h o eff:=by
 simp only [opK0] at hk;cases hu:P.underlying t with
 | none=>simp [hu] at hk
 | some dd =>
   cases dd<;>simp only [hu] at hk<;>(try (cases hk;done));rename_i e;cases hi:P.info? e with
   | none=>simp [hi] at hk
   | some ie =>
     simp only [hi] at hk;cases hz:ie.zero with
     | none=>simp [hz] at hk
     | some z =>
       simp only [hz,Option.isSome_some,Bool.true_and,Bool.and_eq_true,beq_iff_eq] at hk;split at hk<;>(try (cases hk;done));rename_i hc;cases hk;simp only [Bl] at he;cases hus:toDs σ.b vs with
       | none=>simp [hus] at he
       | some q =>
         obtain ⟨us,ids⟩:=q;cases ids with
         | cons=>simp [hus] at he
         | nil =>
           cases hd:σ.r d with
           | some q=>simp [hus,hd] at he
           | none =>
             simp only [hus,hd,Option.some.injEq] at he;subst he;obtain ⟨p1,p2,p3,p4⟩:=hp;exact A45 R hS ho hu hi hz hc.1 rfl hc.2 hv hus hd p1 p2 p3 p4
theorem ek_load {t:TypeId} {p:Operand} (R:Rel nt S log stp σ a w h) (ho:o.op=.load t p) (hk:opK0 P (.load t p)=some (k,os)) (hv:Opds σ h w a os vs) (he:Bl k d vs σ=some eff) (hp:eff.pre):Done P nt S log stp σ a w h o eff:=by
 simp only [opK0] at hk;cases hn:szOf P t with
 | none=>simp [hn] at hk
 | some n =>
   cases hd:P.underlying t with
   | none=>simp [hn,hd] at hk
   | some dd =>
     simp only [hn,hd] at hk;have key:k=.load n (aggB P t)∧os=[p]∧(aggB P t=false→n=1):=by
      split at hk
      ·rename_i hag;cases hk;rw [hag];exact ⟨rfl,rfl,fun e=>by cases e⟩
      ·rename_i hag;split at hk<;>(try (cases hk;done));rename_i h1;cases hk;have:aggB P t=false:=by simpa using hag
       subst h1;rw [this];exact ⟨rfl,rfl,fun _=>rfl⟩
     obtain ⟨rfl,rfl,h1⟩:=key;obtain ⟨v,rfl,hv'⟩:=hv.one;cases v<;>simp only [Bl] at he<;>(try (cases he;done))
     ·rename_i b off;cases hb:σ.b b with
      | none=>simp [hb] at he
      | some bo =>
        simp only [hb,Option.some.injEq] at he;subst he;exact A1k R ho hn hd h1 hv' hb hp
     ·cases he;exact Y0 R ho hn hd h1 hv' hp
theorem ek_store {t:TypeId} {p q:Operand} (R:Rel nt S log stp σ a w h) (hS:S.ok) (ho:o.op=.store t p q) (hk:opK0 P (.store t p q)=some (k,os)) (hv:Opds σ h w a os vs) (he:Bl k d vs σ=some eff) (hp:eff.pre):Done P nt S log stp σ a w h o eff:=by
 simp only [opK0,Option.map_eq_some_iff,Prod.mk.injEq] at hk;obtain ⟨n,hn,rfl,rfl⟩:=hk;obtain ⟨u,v,rfl,hu,hv'⟩:=hv.two;cases u<;>simp only [Bl] at he<;>(try (cases he;done));rename_i b off;cases hb:σ.b b with
 | none=>simp [hb] at he
 | some bo =>
   obtain ⟨cs,fz⟩:=bo;cases fz with
   | true=>simp [hb] at he
   | false =>
     simp only [hb,Option.some.injEq] at he;subst he;exact Ach R hS ho hn hu hv' hb hp.1 hp.2.1 hp.2.2
theorem ek_bin {op:BinOp} {t u:TypeId} {p q:Operand} (R:Rel nt S log stp σ a w h) (ho:o.op=.binOp op t p q u) (hk:opK0 P (.binOp op t p q u)=some (k,os)) (hv:Opds σ h w a os vs) (he:Bl k d vs σ=some eff) (hp:eff.pre):Done P nt S log stp σ a w h o eff:=by
 have On:k=.bin op→os=[p,q]→Done P nt S log stp σ a w h o eff:=by
  rintro rfl rfl;obtain ⟨x,y,rfl,hx,hy⟩:=hv.two;cases x<;>cases y<;>simp only [Bl] at he<;>(try (cases he;done))
  ·rename_i k1 m k2 n;by_cases hsh:op=.shl∨op=.shr
   ·rcases hsh with rfl | rfl<;>exact Aci R ho hx hy he hp
   ·have he':(if k1=k2 then A4s op k1 m n else none)=some eff:=by
     cases op<;>first | exact he | exact absurd (.inl rfl) hsh | exact absurd (.inr rfl) hsh
    split at he'<;>(try (cases he';done));rename_i e;subst e;exact A47 R ho hx hy he' hp
  ·cases op<;>simp only at he<;>(try (cases he;done))<;>cases he
   ·exact (Tf R ho hx hy).1 rfl
   ·exact (Tf R ho hx hy).2 rfl
 have eqc:op=.eql∨op=.neq→Done P nt S log stp σ a w h o eff:=by
  intro hop;have hk':E7 P op t p q=some (k,os):=by rcases hop with rfl | rfl<;>exact hk
  simp only [E7] at hk';cases hu:P.underlying t with
  | none=>simp [hu] at hk'
  | some dd =>
    have agg:aggB P t=true→(if H4 P 8 t (A70 P 8 t)&&!P.eqGuardType P.depth t then some (K.eqs (op==.neq) (A70 P 8 t),[p,q]) else none)=some (k,os)→Done P nt S log stp σ a w h o eff:=by
     intro hag hk';split at hk'<;>(try (cases hk';done));rename_i hc;cases hk';simp only [Bool.and_eq_true,Bool.not_eq_true'] at hc;obtain ⟨x,y,rfl,hx,hy⟩:=hv.two;cases x<;>cases y<;>simp only [Bl] at he<;>(try (cases he;done));rename_i xs ys;cases hq:eqL (A70 P 8 t) xs ys with
     | none=>simp [hq] at he
     | some c =>
       simp only [hq,Option.some.injEq] at he;subst he;exact done_eqs R ho hop rfl hc.1 hc.2 hag hx hy hq
    cases dd<;>simp only [hu] at hk'<;>(try (cases hk';done))
    case bool =>
     cases hk';obtain ⟨x,y,rfl,hx,hy⟩:=hv.two;cases x<;>cases y<;>simp only [Bl] at he<;>(try (cases he;done));cases he;exact Agq R ho hop rfl hu hx hy
    case int=>cases hk';exact On rfl rfl
    case string=>cases hk';exact On rfl rfl
    case slice=>cases hk';rw [Gq] at he;cases he
    case array=>exact agg (by simp [aggB,hu]) hk'
    case struct=>exact agg (by simp [aggB,hu]) hk'
 by_cases hop:op=.eql∨op=.neq
 ·exact eqc hop
 ·have:some (K.bin op,[p,q])=some (k,os):=by
   cases op<;>first | exact hk | exact absurd (.inl rfl) hop | exact absurd (.inr rfl) hop
  cases this;exact On rfl rfl
theorem ek_un {op:UnOp} {t:TypeId} {p:Operand} (R:Rel nt S log stp σ a w h) (ho:o.op=.unOp op t p) (hv:Opds σ h w a [p] vs) (he:Bl (.un op) d vs σ=some eff):Done P nt S log stp σ a w h o eff:=by
 obtain ⟨v,rfl,hv'⟩:=hv.one;exact done_un R ho hv' he
theorem ek_conv {src dst:TypeId} {p:Operand} (R:Rel nt S log stp σ a w h) (ho:o.op=.convert src dst p) (hk:opK0 P (.convert src dst p)=some (k,os)) (hv:Opds σ h w a os vs) (he:Bl k d vs σ=some eff):Done P nt S log stp σ a w h o eff:=by
 simp only [opK0] at hk;split at hk<;>(try (cases hk;done));rotate_left
 ·cases hk;rw [Gq] at he;cases he
 rename_i k0 kk h1 h2;cases hk;obtain ⟨v,rfl,hv'⟩:=hv.one;cases v<;>simp only [Bl] at he<;>(try (cases he;done));cases he;exact Agp R ho h1 h2 hv'
theorem Agg {fn:Fn} {first captured:Array Operand} (R:Rel nt S log stp σ a w h) (ho:o.op=.makeFunc fn first captured) (hk:opK0 P (.makeFunc fn first captured)=some (k,os)) (hv:Opds σ h w a os vs) (he:Bl k d vs σ=some eff):Done P nt S log stp σ a w h o eff:=by
 simp only [opK0] at hk;split at hk<;>(try (cases hk;done));cases hk;simp only [Bl,Option.some.injEq] at he;subst he;exact A7d R ho hv
theorem ek_faddr {t:TypeId} {p:Operand} {f:Nat} (R:Rel nt S log stp σ a w h) (ho:o.op=.fieldAddr t p f) (hk:opK0 P (.fieldAddr t p f)=some (k,os)) (hv:Opds σ h w a os vs) (he:Bl k d vs σ=some eff):Done P nt S log stp σ a w h o eff:=by
 simp only [opK0] at hk
 repeat' (split at hk<;>(try (cases hk;done)))
 rename_i fs h1 _ fd h2 _ n h3 h4;cases hk;obtain ⟨v,rfl,hv'⟩:=hv.one;exact Acl R ho h1 h2 h3 h4 hv' he
theorem ek_iaddr {t:TypeId} {p q:Operand} (R:Rel nt S log stp σ a w h) (ho:o.op=.indexAddr t p q) (hk:opK0 P (.indexAddr t p q)=some (k,os)) (hv:Opds σ h w a os vs) (he:Bl k d vs σ=some eff) (hp:eff.pre):Done P nt S log stp σ a w h o eff:=by
 simp only [opK0] at hk;split at hk<;>(try (cases hk;done))
 all_goals
  rename_i h1;simp only [Option.map_eq_some_iff,Prod.mk.injEq] at hk;obtain ⟨sz,hs,rfl,rfl⟩:=hk;obtain ⟨u,v,rfl,hu,hv'⟩:=hv.two;have hi:∃k i,v=.int k i:=by
   cases u<;>cases v<;>simp only [Bl] at he<;>first | (cases he;done) | exact ⟨_,_,rfl⟩
  obtain ⟨kk,i,rfl⟩:=hi
 ·exact A7f R ho h1 hs hu hv' he hp
 ·exact A7e R ho h1 hs hu hv' he hp
theorem ek_field {t:TypeId} {p:Operand} {f:Nat} (R:Rel nt S log stp σ a w h) (ho:o.op=.field t p f) (hk:opK0 P (.field t p f)=some (k,os)) (hv:Opds σ h w a os vs) (he:Bl k d vs σ=some eff) (hp:eff.pre):Done P nt S log stp σ a w h o eff:=by
 simp only [opK0] at hk;cases hu:P.underlying t with
 | none=>simp [hu] at hk
 | some dd =>
   cases dd<;>simp only [hu] at hk<;>(try (cases hk;done));rename_i fs;cases hf:fs[f]? with
   | none=>simp [hf] at hk
   | some fd =>
     simp only [hf] at hk;cases hn:szOf P fd.type with
     | none=>simp [hn] at hk
     | some n =>
       cases hd:P.underlying fd.type with
       | none=>simp [hn,hd] at hk
       | some d2 =>
         simp only [hn,hd] at hk;have key:k=.field fd.offset n (aggB P fd.type)∧os=[p]∧(aggB P fd.type=false→n=1):=by
          split at hk
          ·rename_i hag;cases hk;rw [hag];exact ⟨rfl,rfl,fun e=>by cases e⟩
          ·rename_i hag;split at hk<;>(try (cases hk;done));rename_i h1;cases hk;have:aggB P fd.type=false:=by simpa using hag
           subst h1;rw [this];exact ⟨rfl,rfl,fun _=>rfl⟩
         obtain ⟨rfl,rfl,h1⟩:=key;obtain ⟨v,rfl,hv'⟩:=hv.one;cases v<;>simp only [Bl] at he<;>(try (cases he;done));cases he;exact Ack R ho hu hf hn hd h1 hv' hp.1 hp.2
theorem ek_index {t:TypeId} {p q:Operand} (R:Rel nt S log stp σ a w h) (ho:o.op=.index t p q) (hk:opK0 P (.index t p q)=some (k,os)) (hv:Opds σ h w a os vs) (he:Bl k d vs σ=some eff) (hp:eff.pre):Done P nt S log stp σ a w h o eff:=by
 simp only [opK0] at hk;cases hu:P.underlying t with
 | none=>simp [hu] at hk
 | some dd =>
   cases dd<;>simp only [hu] at hk<;>(try (cases hk;done));rename_i len e;cases hn:szOf P e with
   | none=>simp [hn] at hk
   | some n =>
     cases hd:P.underlying e with
     | none=>simp [hn,hd] at hk
     | some d2 =>
       simp only [hn,hd] at hk;have key:k=.idxA len n (aggB P e)∧os=[p,q]∧(aggB P e=false→n=1):=by
        split at hk
        ·rename_i hag;cases hk;rw [hag];exact ⟨rfl,rfl,fun e=>by cases e⟩
        ·rename_i hag;split at hk<;>(try (cases hk;done));rename_i h1;cases hk;have:aggB P e=false:=by simpa using hag
         subst h1;rw [this];exact ⟨rfl,rfl,fun _=>rfl⟩
       obtain ⟨rfl,rfl,h1⟩:=key;obtain ⟨u,v,rfl,hu',hv'⟩:=hv.two;cases u<;>cases v<;>simp only [Bl] at he<;>(try (cases he;done));cases he;exact Ago R ho hu hn hd h1 hu' hv' ⟨hp.1,hp.2.1⟩ hp.2.2.1 hp.2.2.2
theorem Acf {p:Operand} {i:Nat} (R:Rel nt S log stp σ a w h) (ho:o.op=.extract p i) (hv:Opds σ h w a [p] vs) (he:Bl (.extract i) d vs σ=some eff):Done P nt S log stp σ a w h o eff:=by
 obtain ⟨v,rfl,hv'⟩:=hv.one;cases v<;>simp only [Bl] at he<;>(try (cases he;done));rename_i l;cases hi:l[i]? with
 | none=>simp [hi] at he
 | some u =>
   simp only [hi,Option.some.injEq] at he;subst he;exact A46 R ho hv' hi
theorem Agi {c:Call} {p q:Operand} {t e:TypeId} {ie:TypeInfo} {z:Value} (R:Rel nt S log stp σ a w h) (hS:S.ok) (ho:o.op=.call c) (hc:c.callee=.builtin .append) (hca:c.args.toList=[p,q]) (hct:c.argTypes.toList=[t,t])
  (ht:P.underlying t=some (.slice e)) (hi:P.info? e=some ie) (hz:ie.zero=some z) (hzs:z.cells.size=ie.size) (hv:Opds σ h w a [p,q] vs) (he:Bl (.append ie.size ie.bytes e) d vs σ=some eff) (hp:eff.pre):Done P nt S log stp σ a w h o eff:=by
 obtain ⟨u,v,rfl,hu,hv'⟩:=hv.two;cases u<;>simp only [Bl] at he<;>(try (cases he;done))
 ·
  split at he<;>(try (cases he;done));rename_i r0 sz ys hd;cases he;obtain ⟨rfl,p2,p3,p4⟩:=hp;have:=Wj (r:=d) (xs:=[]) (ys:=ys) (rr:=[d]) (pre:=ie.size=ie.size∧0<ie.size∧ys.length*ie.bytes≤2^47∧ys.length≤2^47) R hS ho hc hca hct ht hi hz hzs rfl rfl rfl rfl (by rw [Ku hu];exact .slice0 _ none 0) (Ff hv') (.inl ⟨hd,rfl,Ku hu⟩) p2 (by simpa using p3) (by simpa using p4);simpa using this
 ·rename_i r s xs;cases r with
  | zero=>simp only [Bl] at he;cases he
  | succ r =>
    simp only [Bl] at he;split at he<;>(try (cases he;done))
    ·rename_i r0 sz2 ys n s3 e3 hr;cases he;obtain ⟨rfl,rfl,rfl,rfl,rfl,p6,p7,p8⟩:=hp;exact Wj R hS ho hc hca hct ht hi hz hzs rfl rfl rfl rfl (Ff hu) (Ff hv') (.inr ⟨hr,hu.2 0 _ _ rfl (by
      rcases Ex (Ff hu) with ⟨⟨_,_,e1⟩,_⟩ | ⟨_,_,_,_,e1,_⟩<;>rw [e1]<;>rfl)⟩) p6 p7 p8
    ·cases he;have hy:=Ku hv';have hrun:(Builtin.append_ #[t,t] o.type #[a.eval p,.slice none 0 0]).run P w=.ok (a.eval p) w:=by
      rcases Ex (Ff hu) with ⟨⟨_,_,e1⟩,_⟩ | ⟨_,_,_,_,e1,_,hcap,_⟩<;>rw [e1]
      ·exact O7 ht hi (Nat.zero_le _) w
      ·exact O7 ht hi hcap w
     have ea:c.args=#[p,q]:=by rw [←Array.toList_inj];simpa using hca
     have et:c.argTypes=#[t,t]:=by rw [←Array.toList_inj];simpa using hct
     refine Done.pure R (x:=a.eval p) ?_ hu;simp only [execOp,ho,resolve,hc,ea,et,Sem.run_bind,Sem.run_pure,Result.andThen_ok,invoke,builtin];simp [hy,hrun]
theorem ek_call {c:Call} (R:Rel nt S log stp σ a w h) (hS:S.ok) (ho:o.op=.call c) (hk:opK0 P (.call c)=some (k,os)) (hv:Opds σ h w a os vs) (he:Bl k d vs σ=some eff) (hp:eff.pre):Done P nt S log stp σ a w h o eff:=by
 simp only [opK0] at hk;split at hk<;>(try (cases hk;done))
 ·cases hk;simp only [Bl] at he;cases he
 ·cases hk;simp only [Bl] at he;cases he
 ·
  rename_i hc;split at hk<;>(try (cases hk;done));rename_i x t h1 h2;split at hk<;>(try (cases hk;done))
  ·rename_i e ht;cases hk;obtain ⟨v,rfl,hv'⟩:=hv.one;exact Aa2 (dd:=d) R ho hc h1 h2 ht (by simp) hv' he
  ·rename_i ht;cases hk;obtain ⟨v,rfl,hv'⟩:=hv.one;exact Aa2 (dd:=d) R ho hc h1 h2 ht (by simp) hv' he
 ·
  rename_i hc;split at hk<;>(try (cases hk;done));rename_i x y t u h1 h2;split at hk<;>(try (cases hk;done));rename_i htu;simp only [beq_iff_eq] at htu;subst htu;split at hk<;>(try (cases hk;done));rename_i e ht;split at hk<;>(try (cases hk;done));rename_i ie hi;cases hz:ie.zero with
  | none=>simp [hz] at hk
  | some z =>
    simp only [hz,beq_iff_eq] at hk;split at hk<;>(try (cases hk;done));rename_i hzs;cases hk;exact Agi R hS ho hc h1 h2 ht hi hz hzs hv he hp
 ·rename_i hc;cases hk;exact Wi (dd:=d) (mx:=false) R ho (by simpa using hc) hv he
 ·rename_i hc;cases hk;exact Wi (dd:=d) (mx:=true) R ho (by simpa using hc) hv he
theorem rep_int {φ:Nat→Nat} {β:Nat→Option Nat} {y:Option Nat} {k:IntKind} {n:Int} {x:Value} (hr:Rep w φ β y (.int k n) x):x=.int k n:=by
 cases hr with
 | data r=>cases r;rfl
theorem Afn {kt e:TypeId} (hm:mapOk P kt e=true):Maps.Keyed P kt∧P.underlying e=some (.int .i64)∧(∀w:World,(zeroValue e).run P w=.ok (.int .i64 0) w) ∧
  ∀a b:Int,(-9223372036854775808≤a∧a<9223372036854775808)→(-9223372036854775808≤b∧b<9223372036854775808)→∃l,keyOf P kt (.agg #[.int .i64 a,.int .i64 b])=some l:=by
 unfold mapOk at hm;simp only [Bool.and_eq_true,decide_eq_true_eq,beq_iff_eq] at hm;obtain ⟨⟨⟨⟨⟨⟨⟨h1,h2⟩,h3⟩,h4⟩,h5⟩,h6⟩,h7⟩,h8⟩:=hm;have i64:∀{t:TypeId},A1d P t=true→P.underlying t=some (.int .i64):=by
  intro t h;unfold A1d at h;split at h
  ·assumption
  ·cases h
 refine ⟨Maps.Keyed.of_law (deep_law_laid h1 (m:=2) (by omega) h2 h3 ?_),i64 h5,fun w=>?_,?_⟩
 ·split at h8
  ·rename_i fs hfs;rw [hfs]
  ·cases h8
 ·split at h6
  ·rename_i i hi;split at h6
   ·rename_i hz;simp [zeroValue,typeInfo,hi,hz]
   ·cases h6
  ·cases h6
 ·intro a b ha hb;split at h8
  ·rename_i fs hfs;split at h8
   ·rename_i f g hfg;simp only [Bool.and_eq_true,beq_iff_eq,bne_iff_ne,ne_eq] at h8;obtain ⟨⟨⟨⟨⟨⟨⟨g1,g2⟩,g3⟩,g4⟩,g5⟩,g6⟩,g7⟩,g8⟩:=h8;have wf:∀n:Int,(-9223372036854775808≤n∧n<9223372036854775808)→(Lit.int .i64 n).wf=true:=fun n hn=>WalkArith.wf_i64 ⟨hn.1,by omega⟩;obtain ⟨n,hn⟩:∃n,P.types.size=n+1:=by
     cases hs:P.types.size with
     | zero=>rw [hs] at h2;exact absurd h2 (Nat.not_lt_zero _)
     | succ n=>exact ⟨n,rfl⟩
    have hall:fs.all (fun f=>f.name != "_")=true:=by
     rw [←Array.all_toList,hfg];simp [g1,g2]
    refine ⟨_,by
     unfold keyOf;rw [hfs];simp only [h4,Value.formed,hfs,h7,Bool.true_and];rw [if_pos (by simp)];rw [hn];simp only [Program.keyLits,hfs,Value.cells];rw [if_pos ⟨by simp [h7],hall⟩,hfg];simp [g3,g4,g7,g8,i64 g5,i64 g6,wf a ha,wf b hb];rfl⟩
   ·cases h8
  ·cases h8
theorem Agh {t:TypeId} {p q:Operand} {c:Bool} (R:Rel nt S log stp σ a w h) (ho:o.op=.lookup t p q c) (hk:opK0 P (.lookup t p q c)=some (k,os)) (hv:Opds σ h w a os vs) (he:Bl k d vs σ=some eff) (hp:eff.pre) :
  Done P nt S log stp σ a w h o eff:=by
 simp only [opK0] at hk;split at hk
 ·rename_i kt e ht;split at hk
  ·rename_i hm;cases hk;obtain ⟨m,x,rfl,o1,o2⟩:=hv.two;obtain ⟨K,hu,hz,hkey⟩:=Afn hm;obtain ⟨f,a',b',rfl,rfl,rfl⟩:∃f a b,m=.mp f∧x=.agg [.int .i64 a,.int .i64 b]∧eff={pre:=(-9223372036854775808≤a∧a<9223372036854775808)∧-9223372036854775808≤b∧b<9223372036854775808,v:=bif c then .tuple [.int .i64 ((f a b).getD 0),.bool (f a b).isSome] else .int .i64 ((f a b).getD 0)}:=by
    simp only [Bl] at he;unfold lookV at he;split at he
    ·cases he;exact ⟨_,_,_,rfl,rfl,rfl⟩
    ·cases he
   obtain ⟨l,hl⟩:=hkey a' b' hp.1 hp.2;obtain ⟨blk,cc,es,h1,h2,h3,h4⟩:∃blk cc es,a.eval p=.map (some blk)∧0<h.φ blk∧W3 w blk=some (es,cc)∧MapIs es f:=by
    obtain ⟨r,_⟩:=o1;generalize a.eval p=y at r;cases r with
    | data r=>cases r with
      | mp _ blk cc es h0 hm hf=>exact ⟨blk,cc,es,rfl,h0,hm,hf⟩
   have hb:w.heap[blk]?=some (.map es cc):=by
    unfold W3 at h3;split at h3
    ·rename_i hh;cases h3;exact hh
    ·cases h3
   have hx:a.eval q=.agg #[.int .i64 a',.int .i64 b']:=by
    obtain ⟨ws,hw,hlen,hh⟩:=Q4 o2;rw [hw];obtain ⟨ws⟩:=ws
    match ws,hlen with
    | [y,z],_ =>
      have e1:=rep_int (hh 0 _ y rfl rfl).1;have e2:=rep_int (hh 1 _ z rfl rfl).1;rw [e1,e2]
   have hkeys:∀e∈es.toList,∃l,keyOf P kt e.key=some l:=fun e he=>by
    obtain ⟨a,b,n,h5,_,_,h7,h8⟩:=h4.1 e he;rw [h5];exact hkey a b h7 h8
   have hrun:(Instr.lookup t (.map (some blk)) (.agg #[.int .i64 a',.int .i64 b']) c).run P w=.ok (if c then .tuple #[.int .i64 ((f a' b').getD 0),.bool (f a' b').isSome] else .int .i64 ((f a' b').getD 0)) w:=by
    rcases K.find w hl es.toList hkeys with ⟨g1,g2⟩ | ⟨j,e0,g1,g2,g3⟩
    ·have hn:f a' b'=none:=by
      cases hf:f a' b' with
      | none=>rfl
      | some n =>
        obtain ⟨e,he,hk⟩:=h4.2 a' b' n hf;exact absurd hk (g2 e he)
     rw [hn];simp [Instr.lookup,run_underlying ht,MapKept.run_getObj_map hb,K.check w _ hl,g1,hz,Result.andThen]
    ·obtain ⟨a,b,n,h5,h6,h7,_⟩:=h4.1 e0 (List.mem_of_getElem? g2);rw [g3] at h5;simp only [Value.agg.injEq,Array.mk.injEq,List.cons.injEq,Value.int.injEq,true_and,and_true] at h5;obtain ⟨rfl,rfl⟩:=h5;rw [h7];simp [Instr.lookup,run_underlying ht,MapKept.run_getObj_map hb,K.check w _ hl,g1,h6,Result.andThen]
   refine Done.pure R (x:=if c then .tuple #[.int .i64 ((f a' b').getD 0),.bool (f a' b').isSome] else .int .i64 ((f a' b').getD 0)) (by simp only [execOp,ho,h1,hx];simp [hrun]) ?_;cases c with
   | false=>exact .data (.int _ _)
   | true =>
     refine ⟨.tuple _ _ rfl fun i v x h1 h2=>?_,fun j u z hu hz=>?_⟩
     ·match i with
      | 0=>cases h1;cases h2;exact .int _ _
      | 1=>cases h1;cases h2;exact .bool _
     ·cases j with
      | zero=>simp [cells] at hu;subst hu;intro r' sz xs' e;cases e
      | succ j=>simp [cells] at hu
  ·cases hk
 ·cases hk
theorem A0h {α:Type} (zs:List α) (j:Nat):∀n,((List.replicate n zs).flatten)[j]?=if j<n*zs.length then zs[j%zs.length]? else none
 | 0=>by simp
 | n+1=>by
   rw [List.replicate_succ,List.flatten_cons];by_cases h:j<zs.length
   ·rw [List.getElem?_append_left h,if_pos (by rw [Nat.succ_mul];omega),Nat.mod_eq_of_lt h]
   ·rw [List.getElem?_append_right (by omega),A0h zs (j-zs.length) n,Nat.mod_eq_sub_mod (by omega:j≥zs.length)];by_cases h2:j-zs.length<n*zs.length
    ·rw [if_pos h2,if_pos (by rw [Nat.succ_mul];omega)]
    ·rw [if_neg h2,if_neg (by rw [Nat.succ_mul];omega)]
theorem ek_mkbox {t:TypeId} {p q:Operand} (R:Rel nt S log stp σ a w h) (hS:S.ok) (ho:o.op=.makeSlice t p q) (hk:opK0 P (.makeSlice t p q)=some (k,os)) (hv:Opds σ h w a os vs) (he:Bl k d vs σ=some eff) (hp:eff.pre):Done P nt S log stp σ a w h o eff:=by
 simp only [opK0] at hk;split at hk<;>(try (cases hk;done));rename_i e ht;split at hk<;>(try (cases hk;done));rename_i ie hi;cases hz:ie.zero with
 | none=>simp [hz] at hk
 | some z =>
   simp only [hz,beq_iff_eq] at hk;split at hk<;>(try (cases hk;done));rename_i hzs;simp only [Option.map_eq_some_iff,Prod.mk.injEq] at hk;obtain ⟨zs,hof,rfl,rfl⟩:=hk;obtain ⟨u,v,rfl,hu,hv'⟩:=hv.two;cases u<;>cases v<;>simp only [Bl] at he<;>(try (cases he;done));rename_i k1 n k2 m;cases hd:σ.b d with
   | some b=>simp [hd] at he
   | none =>
     simp only [hd,Option.some.injEq] at he;subst he;obtain ⟨rfl,⟨n0,n1,n2⟩,hzl,hsz,hsc⟩:=hp;obtain ⟨N,rfl⟩:∃N:Nat,m=(N:Int):=⟨m.toNat,by omega⟩;have e1:(ie.bytes:Int)*(N:Int)≤281474976710656:=by rw [Int.mul_comm];omega
     have hr:=run_make (P:=P) w t e ie z ht hi hz k1 k2 N N (by omega) (Int.le_refl _) e1 (by omega);obtain ⟨g1,g2⟩:=Ft (w:=w) (φ:=h.φ) hof;simp only [Int.toNat_natCast] at hr ⊢;have hcl:zs.length=z.cells.size:=by rw [g1];simp
     have R1:=R.newBox (e:=e) (cs:=madeCells z.cells (N*ie.size)) (zs:=(List.replicate N zs).flatten) hS hd (by rw [size_madeCells];simp [hzl]) (fun j v x hv hx=>by
      rw [A0h] at hv;split at hv
      ·rename_i hj;have hx':x=z.cells[j%z.cells.size]!:=by
        have hj':j<N*ie.size:=by rw [←hzl];exact hj
        unfold madeCells at hx;simp [hj'] at hx;exact hx.symm
       have hjm:j%zs.length<zs.length:=Nat.mod_lt _ (by omega);obtain ⟨r1,r2⟩:=g2 (j%zs.length) v x hv (by
        rw [hcl,hx'];have:j%z.cells.size<z.cells.size:=by rw [←hcl];exact hjm
        simp [this])
       exact ⟨.data r1,D5 r1,r2⟩
      ·cases hv)
     refine ⟨.slice (some ⟨w.heap.size,0,none⟩) N N,_,_,.inl (by simp [execOp,ho,Dx hu,Dx hv',hr]),R1,⟨.bsl d 0 _ N N _ (by simp) (Nat.le_refl _),fun j u z hu hz=>?_⟩,rfl⟩;cases j with
     | zero=>simp [cells] at hu;subst hu;intro r sz xs e;cases e
     | succ j=>simp [cells] at hu
theorem A9f {sz l n:Nat} {xs:List V} (h0:0<sz) (hs:∀x∈xs,(cells x).length=sz) (j:Nat) (v:V) (hj:(((xs.drop l).take n).flatMap cells)[j]?=some v):(xs.flatMap cells)[l*sz+j]?=some v:=by
 obtain ⟨i,u,k,hu,hk,rfl⟩:=N6 h0 (fun x hx=>hs x (List.mem_of_mem_drop (List.mem_of_mem_take hx))) j v hj;have hu':xs[l+i]?=some u:=by
  rw [List.getElem?_take] at hu;split at hu
  ·rw [List.getElem?_drop] at hu;exact hu
  ·cases hu
 have:=Us hs (l+i) u hu' k v hk;rw [←this];congr 1;rw [Nat.add_mul];omega
theorem Aa1 {t e:TypeId} {lo hi:Option Operand} {sz n cap:Nat} {ad:Option Addr} {r:List V} {l m:Int} (ht:P.underlying t=some (.slice e)) (hs:szOf P e=some sz) (hv:Opds σ h w a (lo.toList++hi.toList) r) (he:Jz lo.isSome hi.isSome n r=some (l,m)) (h0:0≤l) (h1:l≤m) (h2:m≤n) (hc:n≤cap) :
  (Instr.sliceAt t (.slice ad n cap) (lo.map a.eval) (hi.map a.eval) none).run P w=.ok (sliced ad l.toNat m.toNat cap sz) w:=by
 have he':P.elem t=e:=by simp [Program.elem,ht]
 have ht':P.underlying t=some (.slice (P.elem t)):=by rw [he'];exact ht
 rw [run_sliceAt_slice w t _ _ _ _ ht'];have hsz:(sizeOf (P.elem t)).run P w=.ok sz w:=by rw [he'];exact Ds hs w
 cases lo with
 | none=>cases hi with
   | none =>
     cases hv;simp only [Option.isSome,Jz,Option.some.injEq,Prod.mk.injEq] at he;obtain ⟨rfl,rfl⟩:=he;simp only [Option.map_none];rw [run_slice_all w t ad n cap ht',hsz];rfl
   | some q =>
     simp only [Option.toList,List.nil_append] at hv;obtain ⟨v,rfl,hq⟩:=hv.one;cases v<;>simp only [Option.isSome,Jz,Option.some.injEq,Prod.mk.injEq] at he<;>(try (cases he;done));obtain ⟨rfl,rfl⟩:=he;simp only [Option.map_none,Option.map_some,Dx hq];rw [run_slice_h w t ad n cap ht' _ _ (by omega) (by omega),hsz];rfl
 | some p=>cases hi with
   | none =>
     simp only [Option.toList,List.append_nil] at hv;obtain ⟨v,rfl,hq⟩:=hv.one;cases v<;>simp only [Option.isSome,Jz,Option.some.injEq,Prod.mk.injEq] at he<;>(try (cases he;done));obtain ⟨rfl,rfl⟩:=he;simp only [Option.map_none,Option.map_some,Dx hq];rw [run_slice_l w t ad n cap ht' _ _ (by omega) (by omega),hsz];rfl
   | some q =>
     obtain ⟨u,v,rfl,hp,hq⟩:=Opds.two (p:=p) (q:=q) hv;cases u<;>cases v<;>simp only [Option.isSome,Jz,Option.some.injEq,Prod.mk.injEq] at he<;>(try (cases he;done));obtain ⟨rfl,rfl⟩:=he;simp only [Option.map_some,Dx hp,Dx hq];rw [run_slice_lh w t ad n cap ht' _ _ _ _ (by omega) (by omega) (by omega),hsz];rfl
theorem Wc:∀cs:List V,cs.all Af=true→cs.flatMap cells=cs
 | [],_=>rfl
 | c::r,h=>by
   simp only [List.all_cons,Bool.and_eq_true] at h;rw [List.flatMap_cons,Wc r h.2];have:cells c=[c]:=by cases c<;>first | rfl | (simp [Af] at h)
   rw [this];rfl
theorem ek_slice {t:TypeId} {p:Operand} {lo hi mx:Option Operand} (R:Rel nt S log stp σ a w h) (ho:o.op=.slice t p lo hi mx) (hk:opK0 P (.slice t p lo hi mx)=some (k,os)) (hv:Opds σ h w a os vs) (he:Bl k d vs σ=some eff) (hp:eff.pre):Done P nt S log stp σ a w h o eff:=by
 simp only [opK0] at hk;split at hk<;>(try (cases hk;done))
 ·rename_i e ht;simp only [Option.map_eq_some_iff,Prod.mk.injEq] at hk;obtain ⟨sz,hs,rfl,rfl⟩:=hk;cases hv with
  | cons o1 o2 =>
    rename_i v r;cases v<;>simp only [Bl] at he<;>(try (cases he;done));rename_i r0 s xs;split at he<;>(try (cases he;done));rename_i l m hends;cases he;obtain ⟨rfl,h0,h1,h2⟩:=hp;have hrep:=Ff o1;generalize hz:a.eval p=z at hrep;cases hrep with
    | slice0 _ ad cap =>
      have hr:=Aa1 (P:=P) (ad:=ad) (cap:=cap) (n:=0) ht hs o2 hends h0 h1 h2 (Nat.zero_le _);have em:m.toNat=0:=by simp at h2;omega
      have el:l.toNat=0:=by omega
      refine Done.pure R (x:=sliced ad l.toNat m.toNat cap s) (by simp only [execOp,ho,hz];simp [hr]) ?_;rw [em,el];exact ⟨.data (by simp only [sliced,List.drop_nil,List.take_nil];exact .slice0 s _ _),Ap (w0:=w) (φ0:=h.φ) (by simp only [sliced,List.drop_nil,List.take_nil];exact .slice0 s _ _)⟩
    | slice _ _ blk off len cap cv g0 hl hc hsz hm hr0 =>
      subst hl;have hr:=Aa1 (P:=P) (ad:=some ⟨blk,off,none⟩) (cap:=cap) (n:=xs.length) ht hs o2 hends h0 h1 h2 hc;have rd:RepD w h.φ (.slice 0 s ((xs.drop l.toNat).take (m.toNat-l.toNat))) (sliced (some ⟨blk,off,none⟩) l.toNat m.toNat cap s):=by
       by_cases e0:m.toNat-l.toNat=0
       ·rw [e0,List.take_zero];simp only [sliced,e0];exact .slice0 s _ _
       ·have hne:cap≠l.toNat:=by omega
        simp only [sliced,if_neg hne,Option.map_some,Addr.add_lit];exact .slice s _ blk (off+l.toNat*s) _ _ (fun j=>cv (l.toNat*s+j)) g0 (by rw [List.length_take,List.length_drop];omega) (by omega) (fun x hx=>hsz x (List.mem_of_mem_drop (List.mem_of_mem_take hx))) (fun j v hj=>by
           have:=hm _ v (A9f g0 hsz j v hj);rw [←Nat.add_assoc] at this;exact this) (fun j v hj=>hr0 _ v (A9f g0 hsz j v hj))
      exact Done.pure R (x:=sliced (some ⟨blk,off,none⟩) l.toNat m.toNat cap s) (by simp only [execOp,ho,hz];simp [hr]) ⟨.data rd,Ap rd⟩
 ·rename_i len e ht;split at hk<;>(try (cases hk;done));simp only [Option.map_eq_some_iff,Prod.mk.injEq] at hk;obtain ⟨sz,hs,rfl,rfl⟩:=hk;obtain ⟨v,rfl,o1⟩:=hv.one;have he':P.elem t=e∧P.arrayLen t=len:=by simp [Program.elem,Program.arrayLen,ht]
  have ht':P.underlying t=some (.array (P.arrayLen t) (P.elem t)):=by rw [he'.1,he'.2];exact ht
  have hsz:(sizeOf (P.elem t)).run P w=.ok sz w:=by rw [he'.1];exact Ds hs w
  have hrun:∀ad:Addr,(Instr.sliceAt t (.pointer (some ad)) none none none).run P w=.ok (slicedAt ad 0 len len sz) w:=fun ad=>by
   rw [run_sliceAt_array_all w t ad ht',hsz,he'.2];rfl
  have had:∀b off:Nat,slicedAt ⟨b,off,none⟩ 0 len len sz=.slice (some ⟨b,off,none⟩) len len:=fun b off=>by
   unfold slicedAt;simp [Addr.add_lit]
  cases v<;>simp only [Bl] at he<;>(try (cases he;done))<;>cases he
  ·obtain ⟨blk,hβ,hz⟩:=Z4 o1;refine Done.pure R (x:=.slice (some ⟨blk,_,none⟩) len len) (by simp only [execOp,ho,hz];simp [hrun,had]) ⟨.bsl _ _ _ _ _ _ hβ (Nat.le_refl _),fun j u z hu hz=>?_⟩;cases j with
   | zero=>simp [cells] at hu;subst hu;intro r sz xs e;cases e
   | succ j=>simp [cells] at hu
  ·rename_i cs off;obtain ⟨rfl,hlen,rfl,hl0,hsc⟩:=hp;obtain ⟨blk,b0,cv,hz,hm,hr0⟩:=Vu o1;have hflat:=Wc cs hsc;have rd:RepD w h.φ (.slice 0 1 cs) (.slice (some ⟨blk,b0,none⟩) len len):=by
    refine .slice 1 cs blk b0 len len cv (by omega) (by omega) (Nat.le_refl _) (fun x hx=>?_) (fun j v hj=>?_) (fun j v hj=>?_)
    ·rw [List.all_eq_true] at hsc;have:=hsc x hx;cases x<;>first | rfl | (simp [Af] at this)
    ·rw [hflat] at hj;exact hm j v hj
    ·rw [hflat] at hj;exact hr0 j v hj
   refine Done.pure R (x:=.slice (some ⟨blk,b0,none⟩) len len) (by simp only [execOp,ho,hz];simp [hrun,had]) ⟨.data rd,Ap rd⟩
 ·cases hk;rw [Gq] at he;cases he
theorem N7 (R:Rel nt S log stp σ a w h) (hS:S.ok) (hk:opK P o.op=some (k,os)) (hv:Opds σ h w a os vs) (hfn:k=.nilck→∀fn first cap,vs=[.func fn first cap]→∃f,fn=.func f) (he:Bl k d vs σ=some eff) (hp:eff.pre):Done P nt S log stp σ a w h o eff:=by
 rcases Vt hk with hk | hk;rotate_left
 ·obtain ⟨_,a1,b1,c1,rfl⟩:=A9g hk;rw [Gq] at he;cases he
 cases ho:o.op with
 | move x=>rw [ho] at hk;simp only [opK0,Option.some.injEq,Prod.mk.injEq] at hk;obtain ⟨rfl,rfl⟩:=hk;exact ek_mov R (.inl ho) hv he
 | assign x=>rw [ho] at hk;simp only [opK0,Option.some.injEq,Prod.mk.injEq] at hk;obtain ⟨rfl,rfl⟩:=hk;exact ek_mov R (.inr ho) hv he
 | pick c x y=>rw [ho] at hk;simp only [opK0,Option.some.injEq,Prod.mk.injEq] at hk;obtain ⟨rfl,rfl⟩:=hk;exact ek_pick R ho hv he hp
 | alloc e=>rw [ho] at hk;exact ek_alloc R hS ho hk hv he
 | box e x=>rw [ho] at hk;simp only [opK0,Option.some.injEq,Prod.mk.injEq] at hk;obtain ⟨rfl,rfl⟩:=hk;exact ek_box R hS ho hv he hp
 | build t ps=>rw [ho] at hk;exact ek_build R ho hk hv he hp
 | buildSlice t n ps=>rw [ho] at hk;exact Ace R hS ho hk hv he hp
 | load t x=>rw [ho] at hk;exact ek_load R ho hk hv he hp
 | store t x y=>rw [ho] at hk;exact ek_store R hS ho hk hv he hp
 | nilCheck x =>
   rw [ho] at hk;simp only [opK0,Option.some.injEq,Prod.mk.injEq] at hk;obtain ⟨rfl,rfl⟩:=hk;obtain ⟨v,rfl,hv'⟩:=hv.one;exact Acj (dd:=d) R ho hv' he (fun fn first cap e=>hfn rfl fn first cap (by rw [e]))
 | binOp op t x y u=>rw [ho] at hk;exact ek_bin R ho hk hv he hp
 | unOp op t x=>rw [ho] at hk;simp only [opK0,Option.some.injEq,Prod.mk.injEq] at hk;obtain ⟨rfl,rfl⟩:=hk;exact ek_un R ho hv he
 | convert s t x=>rw [ho] at hk;exact ek_conv R ho hk hv he
 | makeFunc fn f c=>rw [ho] at hk;exact Agg R ho hk hv he
 | fieldAddr t x f=>rw [ho] at hk;exact ek_faddr R ho hk hv he
 | indexAddr t x i=>rw [ho] at hk;exact ek_iaddr R ho hk hv he hp
 | field t x f=>rw [ho] at hk;exact ek_field R ho hk hv he hp
 | index t x i=>rw [ho] at hk;exact ek_index R ho hk hv he hp
 | extract x i=>rw [ho] at hk;simp only [opK0,Option.some.injEq,Prod.mk.injEq] at hk;obtain ⟨rfl,rfl⟩:=hk;exact Acf R ho hv he
 | call c=>rw [ho] at hk;exact ek_call R hS ho hk hv he hp
 | lookup t x i c=>rw [ho] at hk;exact Agh R ho hk hv he hp
 | makeSlice t l c=>rw [ho] at hk;exact ek_mkbox R hS ho hk hv he hp
 | slice t x lo hi mx=>rw [ho] at hk;exact ek_slice R ho hk hv he hp
 | makeMap t r =>
   rw [ho] at hk;cases r with
   | some r=>simp [opK0] at hk
   | none =>
     simp only [opK0] at hk;split at hk
     ·split at hk
      ·cases hk;cases hv;simp [Bl] at he
      ·split at hk
       ·cases hk;rw [Gq] at he;cases he
       ·cases hk
     ·cases hk
 | mapUpdate t m x y =>
   rw [ho] at hk;simp only [opK0] at hk;split at hk
   ·split at hk
    ·cases hk;obtain ⟨u1,u2,u3,rfl,_⟩:=hv.three;simp [Bl] at he
    ·split at hk
     ·cases hk;rw [Gq] at he;cases he
     ·cases hk
   ·cases hk
 | range t x =>
   rw [ho] at hk;simp only [opK0] at hk;split at hk
   ·split at hk
    ·cases hk;rw [Gq] at he;cases he
    ·cases hk
   ·cases hk
 | next x b =>
   rw [ho] at hk;simp only [opK0] at hk;split at hk
   ·cases hk
   ·cases hk;rw [Gq] at he;cases he
 | entry x =>
   rw [ho] at hk;simp only [opK0] at hk;cases hk;rw [Gq] at he;cases he
 | _=>rw [ho] at hk;simp [opK0] at hk
end
end
section
open Go.RowKit
inductive RepR (w:World) (φ:Nat→Nat):V→Value→Prop
 | data {v:V} {x:Value} (h:RepD w φ v x):RepR w φ v x
 | tuple (vs:List V) (xs:Array Value) (hl:vs.length=xs.size) (h:∀(i:Nat) v x,vs[i]?=some v→xs[i]?=some x→RepD w φ v x):RepR w φ (.tuple vs) (.tuple xs)
def RepL (w:World) (φ:Nat→Nat) (vs:List V) (xs:Array Value):Prop :=
 vs.length=xs.size∧∀(i:Nat) v x,vs[i]?=some v→xs[i]?=some x→RepD w φ v x
def C9 (P:Program) (f:FuncId):Bool:=match P.funcs[f]? with | some fn=>fn.name != "runtime.NumGoroutine"&&fn.body.isSome | none=>false
def C (P:Program) (f:FuncId) (args:List V) (r:V):Prop :=
 C9 P f=true∧∀(w:World) (φ:Nat→Nat) (xs:Array Value),(∀b,w.heap.size≤b→φ b=0)→Gl w φ→RepL w φ args xs →
  Calls P f xs w fun e w'=>∃φ' x,e=.returned x∧RepR w' φ' r x∧Below w.heap.size w w'∧(∀b,b<w.heap.size→φ' b=φ b)∧(∀b,w'.heap.size≤b→φ' b=0)
def Dm (ro:Option Nat):Fence:={Fence.wide with round:=ro}
theorem Cd {ro:Option Nat} {n:Nat} {P:Program} {f:FuncId} {args:Array Value} {w:World} {R:Ending→World→Prop} (h:Calls P f args w R):CallsIn (Dm ro) n P f args w R :=
 callsIn_wide (n:=n).2 h
abbrev YL:=List (List V)→Prop
def noYs:YL:=fun _=>False
def Q3 (ys:List (List V)):YL:=fun l=>List.IsPrefix l ys
def Fw (P:Program) (S:Sur) (ys:YL) (l:Nat):Prop :=
 ∀(log:List (List V)) (x:List V) (M:Nat→Prop) (w:World) (φ:Nat→Nat) (xs:Array Value),ys (log++[x])→S log false M w φ→(∀b,w.heap.size≤b→φ b=0)→(∀b,M b→b<w.heap.size)→RepL w φ x xs →
  ∃fn tmps assign body,(Instr.yield l xs).run P w=.ok (.round l fn tmps assign body) w∧∀n,RoundIn Fence.wide n P l fn tmps assign body w fun e w'=>∃(b:Bool) (φ':Nat→Nat),e=.returned (.bool b)∧S (log++[x]) (!b) M w' φ' ∧
   Ext w φ w' φ'∧(∀k,M k→w'.heap[k]?=w.heap[k]?∧φ' k=φ k)∧w.heap.size≤w'.heap.size∧(∀b,w'.heap.size≤b→φ' b=0)∧w'.os=w.os∧w'.tape=w.tape∧w'.output=w.output
structure Env where
 P:Program
 nt:Nat
 S:Sur
 ys:YL
 pin:List Nat
 ok:S.ok
 mixed:P.follows .mixedOrders=true
 lk:Nat→Prop:=fun _=>True
def Env.yok (E:Env) (y:Pin):Prop:=(∀l,y.l=some l→Fw E.P E.S E.ys l∧E.lk l)∧∀i,(y.p i).isSome=true→i∈E.pin
def Env.relF (E:Env) (log:List (List V)) (stp:Bool) (σ:FSt) (a:Act) (w:World) (h:Gh):Prop:=Rel E.nt E.S log stp σ a w h∧E.yok h.y
abbrev Env.rel (E:Env) (s:St) (a:Act) (w:World) (h:Gh):Prop:=E.relF s.log s.stp s.fs a w h
def FSt.put (σ:FSt) (d:Option Nat) (v:V):FSt:=match d with | some d=>σ.set (.slot d) (.v v) | none=>σ
def St.put (s:St) (d:Option Nat) (v:V):St:=match d with | some d=>{s with env:=(d,v)::s.env} | none=>s
theorem Aai {i k:Nat} (h:i≠k):i.beq k=false:=by
 cases e:i.beq k with
 | false=>rfl
 | true=>exact absurd (Nat.eq_of_beq_eq_true e) h
theorem Ag5 {α:Type} (l:List (Nat×α)) (i:Nat) (x:α) (k:Nat):get (upd l i x) k=if k=i then some x else get l k:=by
 induction l with
 | nil =>
   by_cases e:k=i
   ·subst e;simp [upd,get,Nat.beq_refl]
   ·have:i.beq k=false:=Aai fun h=>e h.symm;simp [upd,get,this,e]
 | cons p l ih =>
   obtain ⟨j,y⟩:=p;simp only [upd];cases hj:j.beq i with
   | true =>
     have e:j=i:=by simpa using hj
     subst e;simp only [cond_true,get];by_cases e:k=j
     ·subst e;simp [Nat.beq_refl]
     ·have:j.beq k=false:=Aai fun h=>e h.symm;simp [this,e]
   | false =>
     have hne:j≠i:=fun e=>by subst e;simp [Nat.beq_refl] at hj
     simp only [cond_false,get,ih];cases hk:j.beq k with
     | true =>
       have e:j=k:=by simpa using hk
       subst e;simp [hne]
     | false=>simp
theorem A1h {α:Type} (l:List (Nat×α)) (i:Nat) (x:α) (k:Nat):get ((i,x)::l) k=if k=i then some x else get l k:=by
 by_cases e:k=i
 ·subst e;simp [get,Nat.beq_refl]
 ·have:i.beq k=false:=Aai fun h=>e h.symm;simp [get,this,e]
theorem Dj (s:St) (d:Nat) (v:V):(s.put (some d) v).fs=s.fs.set (.slot d) (.v v):=by
 funext k;cases k with
 | slot t =>
   simp only [St.put,St.fs,A1h];by_cases e:t=d
   ·subst e;simp [FSt.set]
   ·simp [FSt.set,e,St.fs]
 | bx i=>simp [St.put,St.fs,FSt.set]
 | row i=>simp [St.put,St.fs,FSt.set]
def St.setB (s:St) (i:Nat) (b:Box):St:={s with bx:=upd s.bx i b}
def St.setR (s:St) (i:Nat) (q:Nat×Nat×Nat):St:={s with rw:=upd s.rw i q}
theorem W9 (s:St) (i:Nat) (b:Box):(s.setB i b).fs=s.fs.set (.bx i) (.b b):=by
 funext k;cases k with
 | slot t=>simp [St.setB,St.fs,FSt.set]
 | bx j =>
   simp only [St.setB,St.fs,Ag5];by_cases e:j=i
   ·subst e;simp [FSt.set]
   ·simp [FSt.set,e,St.fs]
 | row j=>simp [St.setB,St.fs,FSt.set]
theorem fs_setR (s:St) (i:Nat) (q:Nat×Nat×Nat):(s.setR i q).fs=s.fs.set (.row i) (.r q.1 q.2.1 q.2.2):=by
 funext k;cases k with
 | slot t=>simp [St.setR,St.fs,FSt.set]
 | bx j=>simp [St.setR,St.fs,FSt.set]
 | row j =>
   simp only [St.setR,St.fs,Ag5];by_cases e:j=i
   ·subst e;simp [FSt.set]
   ·simp [FSt.set,e,St.fs]
def St.eff (s:St) (e:Eff):St:=e.wr.foldl (fun s p=>s.setR p.1 p.2) (e.wb.foldl (fun s p=>s.setB p.1 p.2) s)
theorem Gc (s:St) (e:Eff):(s.eff e).fs=s.fs.eff e:=by
 have hb:∀(l:List (Nat×Box)) (s:St),(l.foldl (fun s p=>s.setB p.1 p.2) s).fs=l.foldl (fun σ p=>σ.set (.bx p.1) (.b p.2)) s.fs:=by
  intro l
  induction l with
  | nil=>intro s;rfl
  | cons p l ih=>intro s;simp only [List.foldl_cons];rw [ih,W9]
 have hr:∀(l:List (Nat×Nat×Nat×Nat)) (s:St),(l.foldl (fun s p=>s.setR p.1 p.2) s).fs=l.foldl (fun σ p=>σ.set (.row p.1) (.r p.2.1 p.2.2.1 p.2.2.2)) s.fs:=by
  intro l
  induction l with
  | nil=>intro s;rfl
  | cons p l ih=>intro s;simp only [List.foldl_cons];rw [ih,fs_setR]
 rw [St.eff,hr,hb];rfl
theorem G3 (s:St) (e:Eff):(s.eff e).log=s.log∧(s.eff e).stp=s.stp:=by
 have hb:∀(l:List (Nat×Box)) (s:St),(l.foldl (fun s p=>s.setB p.1 p.2) s).log=s.log∧(l.foldl (fun s p=>s.setB p.1 p.2) s).stp=s.stp:=by
  intro l
  induction l with
  | nil=>intro s;exact ⟨rfl,rfl⟩
  | cons p l ih=>intro s;simp only [List.foldl_cons];exact ih _
 have hr:∀(l:List (Nat×Nat×Nat×Nat)) (s:St),(l.foldl (fun s p=>s.setR p.1 p.2) s).log=s.log∧(l.foldl (fun s p=>s.setR p.1 p.2) s).stp=s.stp:=by
  intro l
  induction l with
  | nil=>intro s;exact ⟨rfl,rfl⟩
  | cons p l ih=>intro s;simp only [List.foldl_cons];exact ih _
 rw [St.eff];exact ⟨(hr _ _).1.trans (hb _ _).1,(hr _ _).2.trans (hb _ _).2⟩
def Agk (nt:Nat) (k:K):Option Nat→Bool
 | some d=>decide (d<nt)
 | none=>match k with | .store _ | .call _ | .callv | .mapup | .raw _ _ _=>true | _=>false
def A3x (slots:List (Option Nat)):Option (Nat×Bool)→Option (Option (Nat×Bool))
 | none=>some none
 | some (j,want)=>match slots[j]? with
   | some (some t)=>some (some (t,want))
   | _=>none
def Jd (P:Program) (nt:Nat) (slots:List (Option Nat)) (o:Oper):Option Ins :=
 match opK P o.op with
 | some (k,os) =>
   match os.mapM Qh with
   | some xs =>
     match A3x slots o.guard with
     | some g=>bif Agk nt k o.dst then some {d:=o.dst,k:=k,xs:=xs,g:=g} else none
     | none=>none
   | none=>none
 | none=>none
theorem B9 {E:Env} {log:List (List V)} {stp:Bool} {σ:FSt} {a:Act} {w:World} {h:Gh} (R:Rel E.nt E.S log stp σ a w h):∀{os:List Operand} {xs:List X} {vs:List V},os.mapM Qh=some xs→xs.mapM (evX σ)=some vs→Opds σ h w a os vs
 | [],xs,vs,h1,h2=>by
   simp at h1;subst h1;simp at h2;subst h2;exact .nil
 | p::os,xs,vs,h1,h2=>by
   simp only [List.mapM_cons,Option.bind_eq_bind,Option.bind_eq_some_iff,Option.pure_def,Option.some.injEq] at h1;obtain ⟨x,hx,xs',hxs,rfl⟩:=h1;simp only [List.mapM_cons,Option.bind_eq_bind,Option.bind_eq_some_iff,Option.pure_def,Option.some.injEq] at h2;obtain ⟨v,hv,vs',hvs,rfl⟩:=h2;exact .cons (R.opd hx hv) (B9 R hxs hvs)
theorem At {P:Program} {o:Op} {k:K} {os:List Operand} (h:opK P o=some (k,os)):∀c,o≠.defer c:=by
 intro c e;subst e;simp [opK,opK0,opKr] at h
theorem B5 {E:Env} {ro:Option Nat} {n i:Nat} {ops:Array Oper} {o:Oper} {a:Act} {w w':World} {x:Value} {Q:Exit→Act→World→Prop} {next:Act→World→Prop} (ho:ops[i]?=some o) (hw:Region.wanted o (yielded ops a.tmps)=true) (hd:∀c,o.op≠.defer c)
  (hr:(execOp a.eval o).run E.P w=.ok (.value x) w'∨((execOp a.eval o).run E.P w=.ok .skip w'∧x=undef)) (hn:next (a.put o.dst x) w'):wpOpIn (Dm ro) n E.P ops Q i next a w:=by
 unfold wpOpIn;simp only [ho,hw,if_true,Oper.wpIn];refine ⟨fun _ _=>trivial,?_⟩;rw [Oper.semAt_eq _ _ _ hd];rcases hr with hr | ⟨hr,rfl⟩<;>rw [hr]<;>exact hn
def Bp:List X→List Loc
 | []=>[]
 | .t n::r=>.slot n::Bp r
 | .c _::r=>Bp r
def SemDoes (E:Env) (τ:FSt) (ins:Ins) (eff:Eff):Prop :=
 ∀(slots:List (Option Nat)) (ops:Array Oper) (i:Nat) (o:Oper) (ro:Option Nat) (n:Nat) (log:List (List V)) (stp:Bool) (a:Act) (w:World) (h:Gh),Jd E.P E.nt slots o=some ins→slots=ops.toList.map (·.dst)→ops[i]?=some o→E.relF log stp τ a w h →
  ∀(Q:Exit→Act→World→Prop) (next:Act→World→Prop),(∀a' w' h',E.relF log stp ((τ.eff eff).put ins.d eff.v) a' w' h'→h'.y=h.y→next a' w')→wpOpIn (Dm ro) n E.P ops Q i next a w
inductive Does (E:Env) (σ:FSt):Ins→Eff→List Loc→Prop
 | sem {ins:Ins} {eff:Eff} {rd:List Loc} (hs:∀τ:FSt,(∀l∈rd,τ l=σ l)→SemDoes E τ ins eff):Does E σ ins eff rd
 | op {ins:Ins} {vs:List V} {eff:Eff} (hg:ins.g=none) (hx:ins.xs.mapM (evX σ)=some vs) (he:Bl ins.k (ins.d.getD 0) vs σ=some eff) (hp:eff.pre) (hfn:ins.k=.nilck→∀fn first cap,vs=[.func fn first cap]→∃f,fn=.func f) :
    Does E σ ins eff (Bp ins.xs++eff.rb.map .bx++eff.rr.map .row)
 | call {ins:Ins} {f:FuncId} {vs us:List V} {ids:List Nat} {r:V} (hk:ins.k=.call f) (hg:ins.g=none) (hx:ins.xs.mapM (evX σ)=some vs) (hd:toDs σ.b vs=some (us,ids)) (hc:C E.P f us r) :
    Does E σ ins {v:=r,wb:=freeze σ.b ids} (Bp ins.xs++ids.map .bx)
 | callv {ins:Ins} {f:FuncId} {vs first cap us:List V} {ids:List Nat} {r:V} (hk:ins.k=.callv) (hg:ins.g=none) (hx:ins.xs.mapM (evX σ)=some (.func (.func f) first cap::vs)) (hd:toDs σ.b (first++vs++cap)=some (us,ids)) (hc:C E.P f us r) :
    Does E σ ins {v:=r,wb:=freeze σ.b ids} (Bp ins.xs++ids.map .bx)
 | ext {ins:Ins} {vs:List V} {v:V} (hg:ins.g=none) (hx:ins.xs.mapM (evX σ)=some vs) (hs:∀(o:Oper) (os:List Operand) (log:List (List V)) (stp:Bool) (σ':FSt) (a:Act) (w:World) (h:Gh),opK E.P o.op=some (ins.k,os)→E.relF log stp σ' a w h→Opds σ' h w a os vs →
    ∃x,(execOp a.eval o).run E.P w=.ok (.value x) w∧Ok σ' h w v x):Does E σ ins {v:=v} (Bp ins.xs)
 | gop {ins:Ins} {t:Nat} {want gb:Bool} {gv:V} {vs:List V} {eff:Eff} (hg:ins.g=some (t,want)) (hgv:σ.g t=some gv) (hgb:Cg want gv=some gb) (hx:ins.xs.mapM (evX σ)=some vs)
    (he:Bl ins.k (ins.d.getD 0) (vs.map fun v=>(under v).2) σ=some eff) (hp:gb=true→eff.pre∧∀v∈vs,(under v).1=true) (hb:eff.wb=[]) (hr:eff.wr=[]) (hfn:ins.k≠.nilck) :
    Does E σ ins {v:=.cond gb eff.v} (.slot t::Bp ins.xs++eff.rb.map .bx++eff.rr.map .row)
 | gcall {ins:Ins} {t:Nat} {want gb:Bool} {gv:V} {f:FuncId} {vs us:List V} {ids:List Nat} {r:V} (hk:ins.k=.call f) (hg:ins.g=some (t,want)) (hgv:σ.g t=some gv) (hgb:Cg want gv=some gb) (hx:ins.xs.mapM (evX σ)=some vs)
    (hd:toDs σ.b (vs.map fun v=>(under v).2)=some (us,ids)) (hc:gb=true→C E.P f us r∧∀v∈vs,(under v).1=true) :
    Does E σ ins {v:=.cond gb r,wb:=freeze σ.b ids} (.slot t::Bp ins.xs++ids.map .bx)
 | gcallv {ins:Ins} {t:Nat} {want gb:Bool} {gv fv:V} {f:FuncId} {vs first cap us:List V} {ids:List Nat} {r:V} (hk:ins.k=.callv) (hg:ins.g=some (t,want)) (hgv:σ.g t=some gv) (hgb:Cg want gv=some gb)
    (hx:ins.xs.mapM (evX σ)=some (fv::vs)) (hf:(under fv).2=.func (.func f) first cap)
    (hd:toDs σ.b (first++(vs.map fun v=>(under v).2)++cap)=some (us,ids)) (hc:gb=true→C E.P f us r∧∀v∈fv::vs,(under v).1=true) :
    Does E σ ins {v:=.cond gb r,wb:=freeze σ.b ids} (.slot t::Bp ins.xs++ids.map .bx)
section
variable {E:Env} {log:List (List V)} {stp:Bool} {σ:FSt} {a:Act} {w:World} {h:Gh} {ro:Option Nat} {n:Nat}
theorem Ac5 (b:Nat→Option Box) (is:List Nat) (v:V):∀(σ:FSt),(∀i,σ.b i=b i∨∃bo,b i=some bo∧σ.b i=some {bo with fz:=true}) →
  ∀i,((freeze b is).foldl (fun σ p=>σ.set (.bx p.1) (.b p.2)) σ).b i=if i∈is then (b i).map fun bo=>{bo with fz:=true} else σ.b i:=by
 induction is with
 | nil=>intro σ _ i;simp [freeze]
 | cons j is ih =>
   intro σ hσ i;simp only [freeze,List.filterMap_cons];cases hj:b j with
   | none =>
     simp only [Option.map_none];have:=ih σ hσ i;simp only [freeze] at this;rw [this];by_cases e:i=j
     ·subst e;rcases hσ i with h1 | ⟨bo,h1,_⟩
      ·by_cases hm:i∈is<;>simp [hm,hj,h1]
      ·rw [hj] at h1;cases h1
     ·simp [e]
   | some bo =>
     simp only [Option.map_some,List.foldl_cons];have:=ih (σ.set (.bx j) (.b {bo with fz:=true})) (fun k=>by
      rw [E1];by_cases e:k=j
      ·subst e;exact .inr ⟨bo,hj,by simp⟩
      ·simp only [e,if_false];exact hσ k) i
     simp only [freeze] at this;rw [this,E1];by_cases e:i=j
     ·subst e;by_cases hm:i∈is<;>simp [hm,hj]
     ·simp [e]
theorem Z1 (R:Rel E.nt E.S log stp σ a w h):∀(is:List Nat),(∀i∈is,(σ.b i).isSome=true)→∀(τ:FSt) (h:Gh),Rel E.nt E.S log stp τ a w h→(∀i,τ.b i=σ.b i∨∃bo,σ.b i=some bo∧τ.b i=some {bo with fz:=true}) →
  ∃h',Rel E.nt E.S log stp ((freeze σ.b is).foldl (fun τ p=>τ.set (.bx p.1) (.b p.2)) τ) a w h'∧Ext w h.φ w h'.φ∧h'.β=h.β∧h'.γ=h.γ∧h'.y=h.y
 | [],_,τ,h,R',_=>⟨h,R',Ext.refl _ _,rfl,rfl,rfl⟩
 | i::is,hi,τ,h,R',hσ=>by
   cases hb:σ.b i with
   | none=>have:=hi i (by simp);rw [hb] at this;cases this
   | some bo =>
     have hσi:∃fz,τ.b i=some ⟨bo.cs,fz⟩:=by
      rcases hσ i with h1 | ⟨bo',h1,h2⟩
      ·rw [h1,hb];exact ⟨bo.fz,rfl⟩
      ·rw [hb] at h1;cases h1;exact ⟨true,h2⟩
     obtain ⟨fz,hσi⟩:=hσi;obtain ⟨blk,_,_,hβ,_⟩:=R'.bx i _ hσi;obtain ⟨R1,ext⟩:=R'.freeze1 E.ok hσi hβ;obtain ⟨h',R2,e2,q1,q2,q3⟩:=Z1 R is (fun j hj=>hi j (by simp [hj])) _ _ R1 (fun k=>by
      rw [E1];by_cases e:k=i
      ·subst e;exact .inr ⟨bo,hb,by simp⟩
      ·simp only [e,if_false];exact hσ k)
     refine ⟨h',?_,ext.trans e2,q1,q2,q3⟩;simp only [freeze,List.filterMap_cons,hb,Option.map_some,List.foldl_cons];exact R2
theorem Ae6 {b:Nat→Option Box}:∀(n:Nat) (v u:V) (ids:List Nat),toD b n v=some (u,ids)→∀i∈ids,(b i).isSome=true
 | 0,v,u,ids,he=>by simp [toD] at he
 | n+1,v,u,ids,he=>by
   have ih:=Ae6 (b:=b) n;have hl:∀{vs us:List V} {ids:List Nat},toDl b n vs=some (us,ids)→∀i∈ids,(b i).isSome=true:=by
    intro vs
    induction vs with
    | nil=>intro us ids h i hi;simp [toDl] at h;rw [h.2] at hi;cases hi
    | cons v vs ihv =>
      intro us ids h i hi;simp only [toDl,List.foldr_cons,Jt] at h;split at h<;>(try (cases h;done));rename_i y i1 ys is h1 h2;simp only [Option.some.injEq,Prod.mk.injEq] at h;obtain ⟨rfl,rfl⟩:=h;rcases List.mem_append.1 hi with hi | hi
      ·exact ih _ _ _ h1 i hi
      ·exact ihv (us:=ys) (ids:=is) h2 i hi
   cases v<;>simp only [toD] at he<;>(try (cases he;done))
   case int=>cases he;intro i hi;cases hi
   case bool=>cases he;intro i hi;cases hi
   case str=>cases he;intro i hi;cases hi
   case nils=>cases he;intro i hi;cases hi
   case nilp=>cases he;intro i hi;cases hi
   case nilf=>cases he;intro i hi;cases hi
   case mp=>cases he;intro i hi;cases hi
   case mpd=>cases he;intro i hi;cases hi
   case sref=>cases he;intro i hi;cases hi
   case rptr=>cases he;intro i hi;cases hi
   case rmap=>cases he;intro i hi;cases hi
   case nili=>cases he;intro i hi;cases hi
   case iface=>cases he;intro i hi;cases hi
   case nilm=>cases he;intro i hi;cases hi
   case slice=>cases he;intro i hi;cases hi
   case vptr=>cases he;intro i hi;cases hi
   case ptr i off =>
    cases hb:b i with
    | none=>simp [hb] at he
    | some bo =>
      simp only [hb,Option.map_eq_some_iff] at he;obtain ⟨⟨us,js⟩,h1,h2⟩:=he;simp only [Prod.mk.injEq] at h2;obtain ⟨_,rfl⟩:=h2;intro k hk;rcases List.mem_cons.1 hk with rfl | hk
      ·rw [hb];rfl
      ·exact hl h1 k hk
   case func =>
    split at he<;>(try (cases he;done));rename_i p i q j h1 h2;cases he;intro k hk;rcases List.mem_append.1 hk with hk | hk
    ·exact hl h1 k hk
    ·exact hl h2 k hk
   case agg =>
    simp only [Option.map_eq_some_iff] at he;obtain ⟨⟨us,js⟩,h1,h2⟩:=he;simp only [Prod.mk.injEq] at h2;obtain ⟨_,rfl⟩:=h2;exact hl h1
theorem A2m {b b':Nat→Option Box} (hb:∀i bo,b i=some bo→∃bo',b' i=some bo'∧bo'.cs=bo.cs):∀(n:Nat) (v u:V) (ids:List Nat),toD b n v=some (u,ids)→toD b' n v=some (u,ids)
 | 0,v,u,ids,he=>by simp [toD] at he
 | n+1,v,u,ids,he=>by
   have ih:=A2m hb n;have hl:∀{vs us:List V} {ids:List Nat},toDl b n vs=some (us,ids)→toDl b' n vs=some (us,ids):=by
    intro vs
    induction vs with
    | nil=>intro us ids h;exact h
    | cons v vs ihv =>
      intro us ids h;simp only [toDl,List.foldr_cons,Jt] at h ⊢;split at h<;>(try (cases h;done));rename_i y i1 ys is h1 h2;have e2:=ihv (us:=ys) (ids:=is) h2;simp only [toDl,Jt] at e2;rw [ih _ _ _ h1,e2];exact h
   cases v<;>simp only [toD] at he ⊢<;>(try exact he)
   case ptr i off =>
    cases hbi:b i with
    | none=>simp [hbi] at he
    | some bo =>
      obtain ⟨bo',h1,h2⟩:=hb i bo hbi;simp only [hbi,Option.map_eq_some_iff] at he;obtain ⟨⟨us,js⟩,h3,h4⟩:=he;have h5:=hl h3;simp only [toDl] at h5;simp only [h1,h2,h5,Option.map_some,h4]
   case func fn first cap =>
    split at he<;>(try (cases he;done));rename_i p i q j h1 h2;have e1:=hl h1;have e2:=hl h2;simp only [toDl] at e1 e2;rw [e1,e2];exact he
   case agg cs =>
    simp only [Option.map_eq_some_iff] at he;obtain ⟨⟨us,js⟩,h3,h4⟩:=he;have h5:=hl h3;simp only [toDl] at h5;simp only [h5,Option.map_some,h4]
theorem De (R:Rel E.nt E.S log stp σ a w h) {vs us:List V} {ids:List Nat} (hd:toDs σ.b vs=some (us,ids)) :
  ∃h',Rel E.nt E.S log stp ((freeze σ.b ids).foldl (fun τ p=>τ.set (.bx p.1) (.b p.2)) σ) a w h'∧Ext w h.φ w h'.φ∧h'.β=h.β∧h'.γ=h.γ∧h'.y=h.y ∧
   ∀xs:Array Value,vs.length=xs.size→(∀(i:Nat) v x,vs[i]?=some v→xs[i]?=some x→Rep w h.φ h.β h.y.l v x)→RepL w h'.φ us xs:=by
 have hd':toDl σ.b 6 vs=some (us,ids):=hd;obtain ⟨g1,g2⟩:=Hc hd';have hids:∀i∈ids,(σ.b i).isSome=true:=by
  have:∀{vs us:List V} {ids:List Nat},toDl σ.b 6 vs=some (us,ids)→∀i∈ids,(σ.b i).isSome=true:=by
   intro vs
   induction vs with
   | nil=>intro us ids h i hi;simp [toDl] at h;rw [h.2] at hi;cases hi
   | cons v vs ihv =>
     intro us ids h i hi;simp only [toDl,List.foldr_cons,Jt] at h;split at h<;>(try (cases h;done));rename_i y i1 ys is h1 h2;simp only [Option.some.injEq,Prod.mk.injEq] at h;obtain ⟨rfl,rfl⟩:=h;rcases List.mem_append.1 hi with hi | hi
     ·exact Ae6 6 _ _ _ h1 i hi
     ·exact ihv (us:=ys) (ids:=is) h2 i hi
  exact this hd'
 obtain ⟨h',R',ext,q1,q2,q3⟩:=Z1 R ids hids σ h R (fun i=>.inl rfl);have hfz:=Ac5 σ.b ids Cz σ (fun i=>.inl rfl);refine ⟨h',R',ext,q1,q2,q3,fun xs hl hr=>⟨by omega,fun i u x hu hx=>?_⟩⟩;have hlt:i<vs.length:=by have:=(List.getElem?_eq_some_iff.1 hu).1;omega
 obtain ⟨js,h5,h6⟩:=g2 i _ u (List.getElem?_eq_getElem hlt) hu;refine (Jn R' 6 _ u x js (A2m (fun i bo hb=>?_) 6 _ _ _ h5) (fun i hi=>?_) ?_).1
 ·rw [hfz i];by_cases hm:i∈ids
  ·rw [if_pos hm,hb];exact ⟨_,rfl,rfl⟩
  ·rw [if_neg hm];exact ⟨bo,hb,rfl⟩
 ·rw [hfz i,if_pos (h6 i hi)];cases hb:σ.b i with
  | none=>have:=hids i (h6 i hi);rw [hb] at this;cases this
  | some bo=>exact ⟨bo.cs,rfl⟩
 ·rw [q3];exact (hr i _ x (List.getElem?_eq_getElem hlt) hx).mono ext (fun _ _ e=>by rw [q1];exact e)
end
end
section
open Go.RowKit
section
variable {E:Env} {log:List (List V)} {stp:Bool} {σ:FSt} {a:Act} {w:World} {h:Gh} {ro:Option Nat} {n i:Nat} {ops:Array Oper} {slots:List (Option Nat)} {o:Oper} {ins:Ins} {eff:Eff} {rd:List Loc} {K:St→Prop}
structure Comp (P:Program) (nt:Nat) (slots:List (Option Nat)) (o:Oper) (ins:Ins) (os:List Operand):Prop where
 op:opK P o.op=some (ins.k,os)
 xs:os.mapM Qh=some ins.xs
 d:ins.d=o.dst
 dst:∀d,o.dst=some d→d<nt
 guard:(ins.g=none∧o.guard=none)∨∃j want t,o.guard=some (j,want)∧slots[j]?=some (some t)∧ins.g=some (t,want)
 nodst:o.dst=none→(∃n,ins.k=.store n)∨(∃f,ins.k=.call f)∨ins.k=.callv∨ins.k=.mapup∨∃n t u,ins.k=.raw n t u
theorem Ba {P:Program} {nt:Nat} (hc:Jd P nt slots o=some ins):∃os,Comp P nt slots o ins os:=by
 unfold Jd at hc;cases h1:opK P o.op with
 | none=>rw [h1] at hc;cases hc
 | some q =>
   obtain ⟨k,os⟩:=q;rw [h1] at hc;simp only at hc;cases h2:os.mapM Qh with
   | none=>rw [h2] at hc;cases hc
   | some xs =>
     rw [h2] at hc;simp only at hc;cases h3:A3x slots o.guard with
     | none=>rw [h3] at hc;cases hc
     | some g =>
       rw [h3] at hc;simp only at hc;cases h4:Agk nt k o.dst with
       | false=>rw [h4] at hc;cases hc
       | true =>
         rw [h4] at hc;cases hc;refine ⟨os,h1,h2,rfl,fun d e=>?_,?_,fun e=>?_⟩
         ·rw [e] at h4;simpa [Agk] using h4
         ·cases hg:o.guard with
          | none=>rw [hg] at h3;cases h3;exact .inl ⟨rfl,rfl⟩
          | some jw =>
            obtain ⟨j,want⟩:=jw;rw [hg] at h3;unfold A3x at h3;split at h3
            ·rename_i e;cases e
            ·rename_i j' want' e;cases e;split at h3
             ·rename_i t ht;cases h3;exact .inr ⟨j,want,t,rfl,ht,rfl⟩
             ·cases h3
         ·rw [e] at h4;unfold Agk at h4;simp only at h4;split at h4
          ·exact .inl ⟨_,rfl⟩
          ·exact .inr (.inl ⟨_,rfl⟩)
          ·exact .inr (.inr (.inl rfl))
          ·exact .inr (.inr (.inr (.inl rfl)))
          ·exact .inr (.inr (.inr (.inr ⟨_,_,_,rfl⟩)))
          ·cases h4
theorem Bk {os:List Operand} (cc:Comp E.P E.nt slots o ins os) {w':World} {h':Gh} {x:Value} (R:E.relF log stp σ a w h) (R':Rel E.nt E.S log stp (σ.eff eff) a w' h') (ok:Ok (σ.eff eff) h' w' eff.v x) (hy:h'.y=h.y) :
  E.relF log stp ((σ.eff eff).put ins.d eff.v) (a.put o.dst x) w' h':=by
 refine ⟨?_,by rw [hy];exact R.2⟩;rw [cc.d];cases hd:o.dst with
 | none=>exact R'
 | some d=>exact R'.put (cc.dst d hd) ok.1 ok.2
theorem Cs (R:E.relF log stp σ a w h) {j:Nat} {want gb:Bool} {t:Nat} {gv:V} (hs:slots=ops.toList.map (·.dst)) (hgd:o.guard=some (j,want)) (ht:slots[j]?=some (some t)) (hgv:σ.g t=some gv) (hgb:Cg want gv=some gb) :
  (gb=true→Region.wanted o (yielded ops a.tmps)=true)∧(gb=false→Region.wanted o (yielded ops a.tmps)=false):=by
 obtain ⟨hlt,hr,hgw⟩:=R.1.env t gv hgv;clear hgw;have hy:yielded ops a.tmps j=match a.tmps.getD t undef with | .bool b=>some b | _=>none:=by
  unfold yielded;have e1:(ops[j]?).bind (·.dst)=some t:=by
   rw [hs,List.getElem?_map] at ht;cases hj:ops[j]? with
   | none=>simp [hj] at ht
   | some oj=>simpa [hj] using ht
  rw [e1];have hsz:t<a.tmps.size:=by rw [R.1.size];exact hlt
  simp only [Option.bind_some];simp only [hsz,getElem?_pos,Array.getD_eq_getD_getElem?,Option.getD_some];generalize a.tmps[t]=z;cases z<;>rfl
 unfold Region.wanted;rw [hgd];simp only [hy];cases gv<;>simp only [Cg] at hgb<;>(try (cases hgb;done))
 ·cases hgb;rename_i b;rw [Kj hr];exact ⟨fun e=>by simpa using e,fun e=>by simpa using e⟩
 ·rename_i p v;cases v<;>simp only [Cg] at hgb<;>(try (cases hgb;done));rename_i b;cases hgb;cases hr with
  | data r=>cases r
  | cond _ _ _ hc h0 =>
    cases p with
    | false=>rw [h0 rfl];exact ⟨fun e=>by simp at e,fun _=>by simp [undef]⟩
    | true =>
      rw [Kj (hc rfl)];exact ⟨fun e=>by simpa using e,fun e=>by simpa using e⟩
theorem V2 (R:E.relF log stp σ a w h) {f:FuncId} {vs us:List V} {ids:List Nat} {r:V} {os:List Operand} (cc:Comp E.P E.nt slots o ins os) (hd:toDs σ.b vs=some (us,ids)) (hC:C E.P f us r) (xs:Array Value) (hl:vs.length=xs.size)
  (hr:∀(i:Nat) v x,vs[i]?=some v→xs[i]?=some x→Rep w h.φ h.β h.y.l v x) (hi:ops[i]?=some o) (hw:Region.wanted o (yielded ops a.tmps)=true) (hrun:(execOp a.eval o).run E.P w=.ok (.enter f xs) w)
  {Q:Exit→Act→World→Prop} {next:Act→World→Prop} (v':V) (hv':v'=r∨v'=.cond true r) (hn:∀a' w' h',E.relF log stp ((σ.eff {v:=v',wb:=freeze σ.b ids}).put ins.d v') a' w' h'→h'.y=h.y→next a' w'):wpOpIn (Dm ro) n E.P ops Q i next a w:=by
 unfold wpOpIn;simp only [hi,hw,if_true,Oper.wpIn];refine ⟨fun _ _=>trivial,?_⟩;rw [Oper.semAt_eq _ _ _ (At cc.op),hrun];simp only [Oper.uponIn];refine ⟨fun e=>by simp [Dm,Fence.wide] at e,?_⟩;obtain ⟨h1,R1,ext1,q1,q2,q3,hrep⟩:=De R.1 hd;refine (Cd (hC.2 w h1.φ xs R1.top (E.ok.gl _ _ _ _ _ R1.sur) (hrep xs hl hr))).mono ?_;rintro e w' ⟨φ',x,rfl,hres,hb,hφ,htop⟩;obtain ⟨R2,ext2⟩:=R1.below E.ok hb hφ htop;have hx:Rep w' φ' h1.β h1.y.l r x∧∀σ h w0,GrowV σ h w0 r x:=by
  cases hres with
  | data hh=>exact ⟨.data hh,fun σ h w0=>Ap hh⟩
  | tuple vs xs hl hh =>
    refine ⟨.tuple vs xs hl hh,fun σ h w0 j u z hu hz=>?_⟩;cases j with
    | zero=>simp [cells] at hu;subst hu;intro r' sz xs' e;cases e
    | succ j=>simp [cells] at hu
 have fin:Ok (σ.eff {v:=v',wb:=freeze σ.b ids}) {h1 with φ:=φ'} w' v' x:=by
  rcases hv' with rfl | rfl
  ·exact ⟨hx.1,hx.2 _ _ _⟩
  ·refine ⟨.cond true r x (fun _=>hx.1) (fun e=>(by cases e)),fun j u z hu hz=>?_⟩;cases j with
   | zero=>simp [cells] at hu;subst hu;intro r' sz xs' e;cases e
   | succ j=>simp [cells] at hu
 exact hn _ _ _ (Bk (eff:={v:=v',wb:=freeze σ.b ids}) cc R R2 fin (by simpa using q3)) (by simpa using q3)
theorem I0 {f:FuncId} {c:Call} (hcall:C9 E.P f=true) (hc:c.callee=.value (.func f)) (ho:o.op=.call c):(execOp a.eval o).run E.P w=.ok (.enter f (c.args.map a.eval)) w:=by
 unfold C9 at hcall;cases hf:E.P.funcs[f]? with
 | none=>simp [hf] at hcall
 | some fn =>
   simp only [hf,Bool.and_eq_true,bne_iff_ne,ne_eq] at hcall;have hb:fn.body.isNone=false:=by cases h:fn.body<;>simp [h] at hcall ⊢
   have hnm:(fn.name== "runtime.NumGoroutine")=false:=by simpa using hcall.1
   simp only [execOp,ho,resolve,hc,Sem.run_bind,Act.eval,Deferred.ofValue,Sem.run_pure,Result.andThen_ok,invoke,callFunc,run_program,hf,hnm,hb];simp
theorem Lx {f:FuncId} {c:Call} {t:Nat} {f' c':Array Value} (hcall:C9 E.P f=true) (hc:c.callee=.value (.tmp t)) (ho:o.op=.call c) (hv:a.eval (.tmp t)=.func (.func f) f' c') :
  (execOp a.eval o).run E.P w=.ok (.enter f (f'++c.args.map a.eval++c')) w:=by
 unfold C9 at hcall;cases hf:E.P.funcs[f]? with
 | none=>simp [hf] at hcall
 | some fn =>
   simp only [hf,Bool.and_eq_true,bne_iff_ne,ne_eq] at hcall;have hb:fn.body.isNone=false:=by cases h:fn.body<;>simp [h] at hcall ⊢
   have hnm:(fn.name== "runtime.NumGoroutine")=false:=by simpa using hcall.1
   simp only [execOp,ho,resolve,hc,Sem.run_bind,hv,Deferred.ofValue,Sem.run_pure,Result.andThen_ok,invoke,callFunc,run_program,hf,hnm,hb];simp
theorem I1 {f:FuncId} {os:List Operand} (hk:opK E.P o.op=some (.call f,os)):∃c,o.op=.call c∧c.callee=.value (.func f)∧os=c.args.toList:=by
 replace hk:=Dw hk (by simp [Dv]);cases ho:o.op<;>rw [ho] at hk<;>simp only [opK0] at hk<;>(try (cases hk;done))<;>(try (repeat' (split at hk<;>(try (cases hk;done)))))
 all_goals first
  | (simp only [Option.map_eq_some_iff,Prod.mk.injEq] at hk;obtain ⟨_,_,h1,_⟩:=hk;cases h1;done)
  | (rename_i c _ hc;cases hk;exact ⟨_,rfl,hc,rfl⟩)
  | (rename_i hc;cases hk;exact ⟨_,rfl,hc,rfl⟩)
  | (simp only [E7] at hk;repeat' (split at hk<;>(try (cases hk;done))))
theorem Io {os:List Operand} (hk:opK E.P o.op=some (.callv,os)):∃c t,o.op=.call c∧c.callee=.value (.tmp t)∧os=.tmp t::c.args.toList:=by
 replace hk:=Dw hk (by simp [Dv]);cases ho:o.op<;>rw [ho] at hk<;>simp only [opK0] at hk<;>(try (cases hk;done))<;>(try (repeat' (split at hk<;>(try (cases hk;done)))))
 all_goals first
  | (simp only [Option.map_eq_some_iff,Prod.mk.injEq] at hk;obtain ⟨_,_,h1,_⟩:=hk;cases h1;done)
  | (rename_i hc;cases hk;exact ⟨_,_,rfl,hc,rfl⟩)
  | (simp only [E7] at hk;repeat' (split at hk<;>(try (cases hk;done))))
end
end
section
open Go.RowKit
section
variable {E:Env} {log:List (List V)} {stp:Bool} {σ:FSt} {a:Act} {w:World} {h:Gh} {ro:Option Nat} {n i:Nat} {ops:Array Oper} {slots:List (Option Nat)} {o:Oper} {ins:Ins} {eff:Eff} {rd:List Loc}
theorem A0i {φ:Nat→Nat} {β:Nat→Option Nat} {y:Option Nat} {v:V} {x:Value} (hr:Rep w φ β y v x):Rep w φ β y (dem1 v) x:=by
 cases v<;>try exact hr
 rename_i r sz xs;cases hr with
 | data r=>cases r with
   | slice0=>exact .data (.slice0 sz _ _)
   | slice _ _ blk off len cap cv h0 hl hc hs hm hr=>exact .data (.slice sz xs blk off len cap cv h0 hl hc hs hm hr)
 | named _ _ _ _ q=>exact .data q
theorem rep_dem {φ:Nat→Nat} {β:Nat→Option Nat} {y:Option Nat} {v:V} {x:Value} (hr:Rep w φ β y v x):Rep w φ β y (dem v) x:=by
 by_cases ha:∃cs,v=.agg cs
 ·obtain ⟨cs,rfl⟩:=ha;have hh:∃vs,x=.agg vs∧cs.length=vs.size∧∀(i:Nat) v y',cs[i]?=some v→vs[i]?=some y'→Rep w φ β y v y':=by
   cases hr with
   | data r=>cases r with
     | agg _ vs hl hh=>exact ⟨vs,rfl,hl,fun i v y hv hy=>.data (hh i v y hv hy)⟩
   | agg _ vs hl hh=>exact ⟨vs,rfl,hl,hh⟩
  obtain ⟨vs,rfl,hl,hh⟩:=hh;refine .agg _ vs (by simpa using hl) fun i v y hv hy=>?_;simp only [List.getElem?_map,Option.map_eq_some_iff] at hv;obtain ⟨u,hu,rfl⟩:=hv;exact A0i (hh i u y hu hy)
 ·have:dem v=dem1 v:=by cases v<;>first | rfl | exact absurd ⟨_,rfl⟩ ha
  rw [this];exact A0i hr
theorem A3z {σ:FSt} {h:Gh} {v:V} {x:Value}:Grow σ h w (dem1 v) x:=by
 intro r sz xs e;cases v<;>simp [dem1] at e
theorem Ag3 {σ:FSt} {h:Gh} {v:V} {x:Value}:GrowV σ h w (dem v) x:=by
 intro j u z hu hz;by_cases ha:∃cs,v=.agg cs
 ·obtain ⟨cs,rfl⟩:=ha;simp only [dem,cells,List.getElem?_map,Option.map_eq_some_iff] at hu;obtain ⟨u',_,rfl⟩:=hu;exact A3z
 ·have h1:dem v=dem1 v:=by cases v<;>first | rfl | exact absurd ⟨_,rfl⟩ ha
  have h2:cells (dem1 v)=[dem1 v]:=by cases v<;>first | rfl | exact absurd ⟨_,rfl⟩ ha
  rw [h1,h2] at hu;cases j with
  | zero=>simp at hu;subst hu;exact A3z
  | succ j=>simp at hu
theorem Ok.under {v:V} {x:Value} (o:Ok σ h w v x) (hc:(under v).1=true):Ok σ h w (under v).2 x:=by
 by_cases ha:∃p u,v=.cond p u
 ·obtain ⟨p,u,rfl⟩:=ha;simp only [Am.under] at hc ⊢;subst hc;obtain ⟨hr,_⟩:=o;cases hr with
  | data r=>cases r
  | cond _ _ _ hh _=>exact ⟨rep_dem (hh rfl),Ag3⟩
 ·have:(Am.under v).2=v:=by cases v<;>first | rfl | exact absurd ⟨_,_,rfl⟩ ha
  rw [this];exact o
theorem Opds.under {os:List Operand} {vs:List V} (hv:Opds σ h w a os vs):(∀v∈vs,(under v).1=true)→Opds σ h w a os (vs.map fun v=>(under v).2):=by
 induction hv with
 | nil=>intro _;exact .nil
 | cons o r ih=>intro hc;exact .cons (o.under (hc _ (by simp))) (ih fun v hv=>hc v (by simp [hv]))
theorem Do {args:Array Operand} {vs:List V} (hv:Opds σ h w a args.toList vs):vs.length=(args.map a.eval).size ∧
  ∀(i:Nat) v x,vs[i]?=some v→(args.map a.eval)[i]?=some x→Rep w h.φ h.β h.y.l v x:=by
 refine ⟨by simpa using hv.get.1,fun i v x h1 h2=>?_⟩;rw [Array.getElem?_map] at h2;simp only [Option.map_eq_some_iff] at h2;obtain ⟨p,h2,rfl⟩:=h2;exact (hv.get.2 i v p h1 (by simpa using h2)).1
theorem Ai (hg:o.guard=none):Region.wanted o (yielded ops a.tmps)=true:=by
 unfold Region.wanted;rw [hg]
theorem F2 {os:List Operand} (cc:Comp E.P E.nt slots o ins os) (R:E.relF log stp σ a w h) (hi:ops[i]?=some o) (hw:Region.wanted o (yielded ops a.tmps)=false) {σ':FSt} {h':Gh}
  (R':Rel E.nt E.S log stp σ' a w h') (hy:h'.y=h.y) (v:V) {Q:Exit→Act→World→Prop} {next:Act→World→Prop}
  (hn:∀a' w' h',E.relF log stp (σ'.put ins.d (.cond false v)) a' w' h'→h'.y=h.y→next a' w'):wpOpIn (Dm ro) n E.P ops Q i next a w:=by
 unfold wpOpIn;simp only [hi,hw];refine ⟨fun _ _=>trivial,?_⟩;refine hn _ _ h' ⟨?_,by rw [hy];exact R.2⟩ hy;have ok:Ok σ' h' w (.cond false v) undef:=⟨.cond false v undef (fun e=>(by cases e)) (fun _=>rfl),fun j u z hu hz=>by
  cases j with
  | zero=>simp [cells] at hu;subst hu;intro r' sz xs' e;cases e
  | succ j=>simp [cells] at hu⟩
 rw [cc.d];cases hd:o.dst with
 | none=>exact R'
 | some d=>exact R'.put (cc.dst d hd) ok.1 ok.2
theorem Kv {σ:FSt} {f:FuncId} {first cap:List V} {x:Value} (o:Ok σ h w (.func (.func f) first cap) x):∃f' c',x=.func (.func f) f' c'∧first.length=f'.size∧cap.length=c'.size ∧
  (∀(i:Nat) v x,first[i]?=some v→f'[i]?=some x→Rep w h.φ h.β h.y.l v x)∧(∀(i:Nat) v x,cap[i]?=some v→c'[i]?=some x→Rep w h.φ h.β h.y.l v x):=by
 obtain ⟨q,_⟩:=o;cases q with
 | data q=>cases q with
   | func _ _ _ f' c' hf hc h1 h2=>exact ⟨f',c',rfl,hf,hc,fun i v x a b=>.data (h1 i v x a b),fun i v x a b=>.data (h2 i v x a b)⟩
 | func _ _ _ f' c' hf hc h1 h2=>exact ⟨f',c',rfl,hf,hc,h1,h2⟩
theorem arr3 {f' c':Array Value} {xs:Array Value} {first cap vs:List V} {p:V→Value→Prop} (hf:first.length=f'.size) (hc:cap.length=c'.size) (hl:vs.length=xs.size)
  (h1:∀(i:Nat) v x,first[i]?=some v→f'[i]?=some x→p v x) (h2:∀(i:Nat) v x,cap[i]?=some v→c'[i]?=some x→p v x) (h3:∀(i:Nat) v x,vs[i]?=some v→xs[i]?=some x→p v x) :
  (first++vs++cap).length=(f'++xs++c').size∧∀(i:Nat) v x,(first++vs++cap)[i]?=some v→(f'++xs++c')[i]?=some x→p v x:=by
 refine ⟨by simp [hf,hc,hl],fun i v x e1 e2=>?_⟩;rw [List.getElem?_append] at e1;rw [Array.getElem?_append] at e2;have es:(first++vs).length=(f'++xs).size:=by simp [hf,hl]
 by_cases hi:i<(first++vs).length
 ·rw [if_pos hi] at e1;rw [if_pos (by omega)] at e2;rw [List.getElem?_append] at e1;rw [Array.getElem?_append] at e2;by_cases hj:i<first.length
  ·rw [if_pos hj] at e1;rw [if_pos (by omega)] at e2;exact h1 i v x e1 e2
  ·rw [if_neg hj] at e1;rw [if_neg (by omega)] at e2;rw [←hf] at e2;exact h3 _ v x e1 e2
 ·rw [if_neg hi] at e1;rw [if_neg (by omega)] at e2;rw [←es] at e2;exact h2 _ v x e1 e2
theorem Wl (hc:Jd E.P E.nt slots o=some ins) (hs:slots=ops.toList.map (·.dst)) (hi:ops[i]?=some o) (hd:Does E σ ins eff rd) (R:E.relF log stp σ a w h)
  {Q:Exit→Act→World→Prop} {next:Act→World→Prop} (hn:∀a' w' h',E.relF log stp ((σ.eff eff).put ins.d eff.v) a' w' h'→h'.y=h.y→next a' w'):wpOpIn (Dm ro) n E.P ops Q i next a w:=by
 obtain ⟨os,cc⟩:=Ba hc;have hdf:=At cc.op;cases hd with
 | sem hsem=>exact hsem σ (fun _ _=>rfl) slots ops i o ro n log stp a w h hc hs hi R Q next hn
 | @op vs _ hg hx he hp hfn =>
   have hgo:o.guard=none:=by
    rcases cc.guard with ⟨_,e⟩ | ⟨j,want,t,_,_,e⟩
    ·exact e
    ·rw [hg] at e;cases e
   obtain ⟨x,w',h',hr,R',ok,hy⟩:=N7 (d:=ins.d.getD 0) R.1 E.ok cc.op (B9 R.1 cc.xs hx) hfn he hp;exact B5 hi (Ai hgo) hdf hr (hn _ _ h' (Bk cc R R' ok hy) hy)
 | @call f vs us ids r hk hg hx hd hC =>
   have hgo:o.guard=none:=by
    rcases cc.guard with ⟨_,e⟩ | ⟨j,want,t,_,_,e⟩
    ·exact e
    ·rw [hg] at e;cases e
   have hop:=cc.op;rw [hk] at hop;obtain ⟨c,e1,e2,rfl⟩:=I1 hop;obtain ⟨l1,l2⟩:=Do (B9 R.1 cc.xs hx);exact V2 R cc hd hC _ l1 l2 hi (Ai hgo) (I0 hC.1 e2 e1) r (.inl rfl) hn
 | @callv f vs first cap us ids r hk hg hx hd hC =>
   have hgo:o.guard=none:=by
    rcases cc.guard with ⟨_,e⟩ | ⟨j,want,t,_,_,e⟩
    ·exact e
    ·rw [hg] at e;cases e
   have hop:=cc.op;rw [hk] at hop;obtain ⟨c,t,e1,e2,rfl⟩:=Io hop;have hO:=B9 R.1 cc.xs hx;cases hO with
   | cons o1 o2 =>
     obtain ⟨f',c',ef,hf,hc',h1,h2⟩:=Kv o1;obtain ⟨l1,l2⟩:=Do o2;obtain ⟨m1,m2⟩:=arr3 hf hc' l1 h1 h2 l2;exact V2 R cc hd hC _ m1 m2 hi (Ai hgo) (Lx hC.1 e2 e1 ef) r (.inl rfl) hn
 | @ext vs v hg hx hsem =>
   have hgo:o.guard=none:=by
    rcases cc.guard with ⟨_,e⟩ | ⟨j,want,t,_,_,e⟩
    ·exact e
    ·rw [hg] at e;cases e
   obtain ⟨x,hr,ok⟩:=hsem o os log stp σ a w h cc.op R (B9 R.1 cc.xs hx);exact B5 hi (Ai hgo) hdf (.inl hr) (hn _ _ h (Bk (eff:={v:=v}) cc R R.1 ok rfl) rfl)
 | @gop t want gb gv vs eff hg hgv hgb hx he hp hb hr hfn =>
   obtain ⟨j,want',t',g1,g2,g3⟩:∃j want t,o.guard=some (j,want)∧slots[j]?=some (some t)∧ins.g=some (t,want):=by
    rcases cc.guard with ⟨e,_⟩ | e
    ·rw [hg] at e;cases e
    ·exact e
   rw [hg] at g3;cases g3;obtain ⟨wt,wf⟩:=Cs R hs g1 g2 hgv hgb;cases gb with
   | true =>
     obtain ⟨hp1,hp2⟩:=hp rfl;obtain ⟨x,w',h',hr',R',ok,hy⟩:=N7 (d:=ins.d.getD 0) R.1 E.ok cc.op ((B9 R.1 cc.xs hx).under hp2) (fun e=>absurd e hfn) he hp1;have eσ:σ.eff eff=σ:=by obtain ⟨p,v,wb,wr,rb,rr⟩:=eff;simp only at hb hr;subst hb hr;rfl
     rw [eσ] at R' ok;refine B5 hi (wt rfl) hdf hr' (hn _ _ h' (Bk (eff:={v:=.cond true eff.v}) cc R R' ⟨.cond true _ _ (fun _=>ok.1) (fun e=>(by cases e)),fun j u z hu hz=>?_⟩ hy) hy);cases j with
     | zero=>simp [cells] at hu;subst hu;intro r' sz xs' e;cases e
     | succ j=>simp [cells] at hu
   | false=>exact F2 cc R hi (wf rfl) R.1 rfl eff.v hn
 | @gcall t want gb gv f vs us ids r hk hg hgv hgb hx hd hC =>
   obtain ⟨j,want',t',g1,g2,g3⟩:∃j want t,o.guard=some (j,want)∧slots[j]?=some (some t)∧ins.g=some (t,want):=by
    rcases cc.guard with ⟨e,_⟩ | e
    ·rw [hg] at e;cases e
    ·exact e
   rw [hg] at g3;cases g3;obtain ⟨wt,wf⟩:=Cs R hs g1 g2 hgv hgb;cases gb with
   | true =>
     obtain ⟨hC,hp2⟩:=hC rfl;have hop:=cc.op;rw [hk] at hop;obtain ⟨c,e1,e2,rfl⟩:=I1 hop;obtain ⟨l1,l2⟩:=Do ((B9 R.1 cc.xs hx).under hp2);exact V2 R cc hd hC _ l1 l2 hi (wt rfl) (I0 hC.1 e2 e1) (.cond true r) (.inr rfl) hn
   | false =>
     obtain ⟨h',R',_,_,_,hy,_⟩:=De R.1 hd;exact F2 cc R hi (wf rfl) R' hy r hn
 | @gcallv t want gb gv fv f vs first cap us ids r hk hg hgv hgb hx hf hd hC =>
   obtain ⟨j,want',t',g1,g2,g3⟩:∃j want t,o.guard=some (j,want)∧slots[j]?=some (some t)∧ins.g=some (t,want):=by
    rcases cc.guard with ⟨e,_⟩ | e
    ·rw [hg] at e;cases e
    ·exact e
   rw [hg] at g3;cases g3;obtain ⟨wt,wf⟩:=Cs R hs g1 g2 hgv hgb;cases gb with
   | true =>
     obtain ⟨hC,hp2⟩:=hC rfl;have hop:=cc.op;rw [hk] at hop;obtain ⟨c,t,e1,e2,rfl⟩:=Io hop;have hO:=(B9 R.1 cc.xs hx).under hp2;simp only [List.map_cons,hf] at hO;cases hO with
     | cons o1 o2 =>
       obtain ⟨f',c',ef,hf,hc',h1,h2⟩:=Kv o1;obtain ⟨l1,l2⟩:=Do o2;obtain ⟨m1,m2⟩:=arr3 hf hc' l1 h1 h2 l2;exact V2 R cc hd hC _ m1 m2 hi (wt rfl) (Lx hC.1 e2 e1 ef) (.cond true r) (.inr rfl) hn
   | false =>
     obtain ⟨h',R',_,_,_,hy,_⟩:=De R.1 hd;exact F2 cc R hi (wf rfl) R' hy r hn
theorem If {nt:Nat} {S:Sur} (R:Rel nt S log stp σ a w h) {log':List (List V)} {stp':Bool} {w':World} {φ':Nat→Nat} (ext:Ext w h.φ w' φ') (own:∀b,h.M b→w'.heap[b]?=w.heap[b]?∧φ' b=h.φ b)
  (hs:w.heap.size≤w'.heap.size) (ht:∀b,w'.heap.size≤b→φ' b=0) (sur:S log' stp' h.M w' φ'):Rel nt S log' stp' σ a w' {h with φ:=φ'}:=by
 have R0:Rel nt (fun _ _ _ _ _=>True) log stp σ a w h:={R with sur:=trivial};have R1:Rel nt (fun _ _ _ _ _=>True) log stp σ a w' {h with φ:=φ'}:=by
  have ron:RowsOn σ h w σ {h with φ:=φ'} w':=R0.rowsOn (fun _=>rfl) rfl fun r blk hb=>(own _ (R0.rowM hb)).1;exact {
   size:=R0.size
   env:=fun t v hv=>by
    obtain ⟨h1,h2,h3⟩:=R0.env t v hv;exact ⟨h1,h2.mono ext (fun _ _ e=>e),h3.congr ron⟩
   bx:=fun i bo hb=>by
    obtain ⟨blk,cs,e,h1,h2,h3,h4,h5,h6⟩:=R0.bx i bo hb;refine ⟨blk,cs,e,h1,h2,(own _ h2).1.trans h3,h4,fun j v x hv hx=>?_,by rw [←h6];exact (own _ h2).2⟩;obtain ⟨p,q,r⟩:=h5 j v x hv hx;exact ⟨p.mono ext (fun _ _ e=>e),q.congr ron,r⟩
   dom:=R0.dom
   inj:=R0.inj
   rows:=fun r n sz et hr=>by
    rcases R0.rows r n sz et hr with ⟨e,e'⟩ | ⟨b,cs,hb',hMb,hh,hp,hn⟩
    ·exact .inl ⟨e,e'⟩
    ·exact .inr ⟨b,cs,hb',hMb,(own _ hMb).1.trans hh,(own _ hMb).2.trans hp,hn⟩
   rdom:=R0.rdom
   rinj:=R0.rinj
   apart:=R0.apart
   pins:=R0.pins
   mine:=fun b hM=>Nat.lt_of_lt_of_le (R0.mine b hM) hs
   top:=ht
   marks:=R0.marks.congr fun r hMr hh=>⟨hMr,(own _ hMr).1.trans hh⟩
   sur:=trivial}
 exact {R1 with sur:=sur}
theorem ok_yld {σ:FSt} {x:Value} (o:Ok σ h w .yld x):∃l,h.y.l=some l∧x=.func (.yield l) #[] #[]:=by
 obtain ⟨q,_⟩:=o;cases q with
 | data q=>cases q
 | yld l hy=>exact ⟨l,hy,rfl⟩
theorem yield_ok (hc:Jd E.P E.nt slots o=some ins) (hi:ops[i]?=some o) (hk:ins.k=.callv) (hw:Region.wanted o (yielded ops a.tmps)=true) {fv:V} {vs us:List V} {ids:List Nat}
  (hx:ins.xs.mapM (evX σ)=some (fv::vs)) (hf:(under fv).2=.yld) (hu:∀v∈fv::vs,(under v).1=true) (hd:toDs σ.b (vs.map fun v=>(under v).2)=some (us,ids)) (hp:E.ys (log++[us])) (hstp:stp=false) (R:E.relF log stp σ a w h)
  {vr:Bool→V} (hvr:∀b,vr b=.bool b∨vr b=.cond true (.bool b))
  {Q:Exit→Act→World→Prop} {next:Act→World→Prop}
  (hn:∀b a' w' h',E.relF (log++[us]) (!b) ((σ.eff {v:=vr b,wb:=freeze σ.b ids}).put ins.d (vr b)) a' w' h'→h'.y=h.y→next a' w'):wpOpIn (Dm ro) n E.P ops Q i next a w:=by
 obtain ⟨os,cc⟩:=Ba hc;subst hstp;have hop:=cc.op;rw [hk] at hop;obtain ⟨c,t,e1,e2,rfl⟩:=Io hop;have hO:=(B9 R.1 cc.xs hx).under hu;simp only [List.map_cons,hf] at hO;cases hO with
 | cons o1 o2 =>
   obtain ⟨l,hy,ef⟩:=ok_yld o1;obtain ⟨l1,l2⟩:=Do o2;obtain ⟨h1,R1,ext1,q1,q2,q3,hrep⟩:=De R.1 hd;obtain ⟨fn,tmps,asg,body,hrun,hround⟩:=(R.2.1 l hy).1 log us h1.M w h1.φ (c.args.map a.eval) hp R1.sur R1.top R1.mine (hrep _ l1 l2);have hr:(execOp a.eval o).run E.P w=.ok (.round l fn tmps asg body) w:=by
    simp only [execOp,e1,resolve,e2,Sem.run_bind,ef,Deferred.ofValue,Sem.run_pure,Result.andThen_ok,invoke];simpa using hrun
   unfold wpOpIn;simp only [hi,hw,if_true,Oper.wpIn];refine ⟨fun _ _=>trivial,?_⟩;rw [Oper.semAt_eq _ _ _ (At cc.op),hr];simp only [Oper.uponIn];refine ⟨fun e=>by simp [Dm,Fence.wide] at e,?_⟩;have hR:RoundIn (Dm ro) (n-1) E.P l fn tmps asg body w _:=hround (n-1);refine hR.mono ?_;rintro e w' ⟨b,φ',rfl,sur,ext,own,hs,ht,_⟩;have R2:=If R1 ext own hs ht sur;refine hn b _ _ {h1 with φ:=φ'} ⟨?_,by rw [show ({h1 with φ:=φ'}:Gh).y=h.y from q3];exact R.2⟩ q3;rw [cc.d];have R3:Rel E.nt E.S (log++[us]) (!b) (σ.eff {v:=vr b,wb:=freeze σ.b ids}) a w' {h1 with φ:=φ'}:=R2;cases hd:o.dst with
   | none=>exact R3
   | some d =>
     refine R3.put (cc.dst d hd) ?_ ?_
     ·rcases hvr b with e | e<;>rw [e]
      ·exact .data (.bool b)
      ·exact .cond _ _ _ (fun _=>.data (.bool b)) (fun e=>(by cases e))
     ·intro j u z hu hz;rcases hvr b with e | e<;>rw [e] at hu<;>(cases j with
       | zero=>simp [cells] at hu;subst hu;intro r' sz xs' e;cases e
       | succ j=>simp [cells] at hu)
end
end
end Go.Am
