/- Values of the language, told by plain data; contracts of functions and operations, and how they are shown: part 1. -/
import Derived.Calls
import Derived.Tactics
import Derived.Laws.Cells
import Derived.Laws.Rows
import Derived.Laws.CopyRow
import Derived.Below
import Derived.Laws.Entries
import Derived.Laws.StructEq
import Derived.MapKept
set_option linter.all false
namespace Go
theorem fQ:type_of% @Array.eq_empty_of_size_eq_zero:=@Array.eq_empty_of_size_eq_zero
theorem bI:type_of% @Array.getElem?_eq_getElem:=@Array.getElem?_eq_getElem
theorem aO:type_of% @Array.getElem?_eq_some_iff:=@Array.getElem?_eq_some_iff
theorem iQ:type_of% @Array.getElem?_setIfInBounds_ne:=@Array.getElem?_setIfInBounds_ne
theorem gq:type_of% @Array.length_toList:=@Array.length_toList
theorem bF:type_of% @Bool.and_eq_true:=@Bool.and_eq_true
theorem aN:type_of% @Bool.false_eq_true:=@Bool.false_eq_true
theorem jF:type_of% @Bool.not_eq_false':=@Bool.not_eq_false'
theorem jl:type_of% @Bool.or_eq_true:=@Bool.or_eq_true
theorem aH:type_of% @Classical.not_not:=@Classical.not_not
theorem aW:type_of% @List.all_eq_true:=@List.all_eq_true
theorem lY:type_of% @List.append_nil:=@List.append_nil
theorem fC:type_of% @List.eq_nil_of_length_eq_zero:=@List.eq_nil_of_length_eq_zero
theorem jh:type_of% @List.exists_of_findSome?_eq_some:=@List.exists_of_findSome?_eq_some
theorem lZ:type_of% @List.foldl_cons:=@List.foldl_cons
theorem jA:type_of% @List.getD_eq_getElem?_getD:=@List.getD_eq_getElem?_getD
theorem cZ:type_of% @List.getElem?_append_left:=@List.getElem?_append_left
theorem dY:type_of% @List.getElem?_append_right:=@List.getElem?_append_right
theorem fF:type_of% @List.getElem?_drop:=@List.getElem?_drop
theorem ax:type_of% @List.getElem?_eq_getElem:=@List.getElem?_eq_getElem
theorem kW:type_of% @List.getElem?_eq_none:=@List.getElem?_eq_none
theorem aC:type_of% @List.getElem?_eq_some_iff:=@List.getElem?_eq_some_iff
theorem eF:type_of% @List.getElem?_map:=@List.getElem?_map
theorem dh:type_of% @List.getElem?_take:=@List.getElem?_take
theorem iF:type_of% @List.getElem?_toArray:=@List.getElem?_toArray
theorem dM:type_of% @List.getElem_mem:=@List.getElem_mem
theorem kZ:type_of% @List.length_append:=@List.length_append
theorem lm:type_of% @List.length_cons:=@List.length_cons
theorem jS:type_of% @List.length_map:=@List.length_map
theorem az:type_of% @List.length_set:=@List.length_set
theorem jK:type_of% @List.length_take:=@List.length_take
theorem iL:type_of% @List.map_cons:=@List.map_cons
theorem aU:type_of% @List.mem_append:=@List.mem_append
theorem iM:type_of% @List.mem_cons:=@List.mem_cons
theorem jm:type_of% @List.mem_iff_getElem?:=@List.mem_iff_getElem?
theorem kX:type_of% @List.mem_map:=@List.mem_map
theorem dm:type_of% @List.mem_of_getElem?:=@List.mem_of_getElem?
theorem jU:type_of% @List.mem_of_mem_take:=@List.mem_of_mem_take
theorem kP:type_of% @List.mem_range:=@List.mem_range
theorem mf:type_of% @List.nil_append:=@List.nil_append
theorem kY:type_of% @List.take_append_drop:=@List.take_append_drop
theorem dS:type_of% @List.take_of_length_le:=@List.take_of_length_le
theorem lH:type_of% @Nat.add_assoc:=@Nat.add_assoc
theorem fD:type_of% @Nat.add_mul:=@Nat.add_mul
theorem bW:type_of% @Nat.eq_of_beq_eq_true:=@Nat.eq_of_beq_eq_true
theorem lg:type_of% @Nat.eq_zero_or_pos:=@Nat.eq_zero_or_pos
theorem dQ:type_of% @Nat.le_of_ble_eq_true:=@Nat.le_of_ble_eq_true
theorem bu:type_of% @Nat.le_refl:=@Nat.le_refl
theorem aX:type_of% @Nat.mul_le_mul_right:=@Nat.mul_le_mul_right
theorem kD:type_of% @Nat.one_mul:=@Nat.one_mul
theorem gW:type_of% @Nat.zero_add:=@Nat.zero_add
theorem kE:type_of% @Nat.zero_le:=@Nat.zero_le
theorem dE:type_of% @Option.bind_eq_some_iff:=@Option.bind_eq_some_iff
theorem ag:type_of% @Option.bind_some:=@Option.bind_some
theorem gX:type_of% @Option.isSome_iff_exists:=@Option.isSome_iff_exists
theorem aQ:type_of% @Option.map_eq_some_iff:=@Option.map_eq_some_iff
theorem jT:type_of% @Option.map_some:=@Option.map_some
theorem jo:type_of% @Option.some.inj:=@Option.some.inj
theorem iq:type_of% @decide_eq_true_eq:=@decide_eq_true_eq
theorem aI:type_of% @if_false:=@if_false
theorem aS:type_of% @if_true:=@if_true
theorem bQ:type_of% @not_false_eq_true:=@not_false_eq_true
theorem iT:type_of% @not_true:=@not_true
end Go
namespace Go.Lx
inductive D where
 | bool (b:Bool)
 | int (k:IntKind) (n:Int)
 | str (s:ByteArray)
 | agg (cs:List D)
 | nilsl
 | sl (xs:List D)
 | pnil
 | pbox (v:D)
 | fn (f:FuncId)
 | nilfn
 | mpnil
 | mp (kt:TypeId) (es:List (D×D))
 | nilif
 | junk
 deriving Inhabited
structure Id where
 d:Nat
 t:Nat
 n:Nat
 deriving DecidableEq,Repr,Inhabited
inductive A where
 | undef
 | unk
 | d (x:D)
 | agg (cs:List A)
 | tup (vs:List A)
 | tight (xs:List D)
 | own (sz:Nat) (xs:List D)
 | ref (i:Id) (off len full:Nat)
 | rcap (i:Id) (off len full cap:Nat)
 | bref (i:Id) (n:Nat)
 | nref (i:Id) (len:Nat)
 | nptr (i:Id) (ix off len:Nat)
 | tref (i:Id) (g len:Nat)
 | tptr (i:Id) (g k:Nat)
 | bptr (i:Id) (off:Nat)
 | eptr (i:Id) (ix off len:Nat)
 | pimm (e:D) (off:Nat)
 | mref (i:Id)
 | iter (r:Nat)
 | clo (f:FuncId) (caps:List A)
 deriving Inhabited
inductive Blk where
 | arr (sz:Nat) (xJ:Bool) (xs:List D)
 | box (cs:List A)
 | map (kt:TypeId) (xJ:Bool) (es:List (D×D))
 | nest (sz:Nat) (xs:List (List A))
 | fam (rows:List Blk)
 | gap
 | tail (sz g:Nat) (xs:List D)
 deriving Inhabited
abbrev Loc:=List ((Nat×Nat)×Blk)
abbrev Out:=List Loc
abbrev Env:=List (Nat×A)
structure S where
 loc:Loc
 out:Out
 chg:List (Option Loc)
structure Cfg where
 P:Program
 keepNil:FuncId→Nat→Bool
 exports:FuncId→Bool
 strict:FuncId→Bool
 byref:FuncId→Nat→Bool
 mutlit:FuncId→Nat→Bool
 frz:FuncId→Nat→Bool
mutual
def D.beq:D→D→Bool
 | .bool a, .bool b=>a==b
 | .int j a, .int k b=>decide (j=k)&&a==b
 | .str a, .str b=>a==b
 | .agg xs, .agg ys=>D.Vr xs ys
 | _,_=>false
def D.Vr:List D→List D→Bool
 | [],[]=>true
 | x::xs,y::ys=>D.beq x y&&D.Vr xs ys
 | _,_=>false
end
def D.cells:D→List D
 | .agg cs=>cs
 | x=>[x]
def D.size (x:D):Nat:=x.cells.length
def A.cells:A→List A
 | .d x=>x.cells.map .d
 | .agg cs=>cs
 | x=>[x]
def MF:List A→Option (List D)
 | []=>some []
 | .d x::rest=>(MF rest).map (x::·)
 | _::_=>none
def xx (cs:List A):A :=
 match MF cs with
 | some ds => .d (.agg ds)
 | none => .agg cs
def FI:Value→Option D
 | .bool b=>some (.bool b)
 | .int k n=>some (.int k n)
 | .string s=>some (.str s)
 | .pointer none=>some .pnil
 | .slice none 0 0=>some .nilsl
 | .map none=>some .mpnil
 | .nilFunc=>some .nilfn
 | .nilIface=>some .nilif
 | .func (.func f) first captured=>if first.size=0∧captured.size=0 then some (.fn f) else none
 | _=>none
def ofValue:Value→Option D
 | .agg cs=>(cs.toList.mapM FI).map .agg
 | v=>FI v
mutual
def A.frz:A→A
 | .own _ xs => .d (.sl xs)
 | .agg cs=>xx (A.QJ cs)
 | .tup cs => .tup (A.QJ cs)
 | x=>x
def A.QJ:List A→List A
 | []=>[]
 | x::rest=>x.frz::A.QJ rest
end
mutual
def A.xq:A→Bool
 | .own _ _=>true
 | .agg cs=>A.Ff cs
 | .tup cs=>A.Ff cs
 | _=>false
def A.Ff:List A→Bool
 | []=>false
 | x::rest=>x.xq || A.Ff rest
end
def qi (P:Program) (t:TypeId):Bool :=
 match P.underlying t with
 | some (.struct _) | some (.array _ _)=>true
 | _=>false
def um (P:Program) (t:TypeId):Option TypeId :=
 match P.underlying t with
 | some (.slice e)=>some e
 | _=>none
def CJ (P:Program) (t:TypeId):Option D:=((P.info? t).bind (·.zero)).bind ofValue
def lQ (P:Program) (t:TypeId):Option Nat:=match P.underlying t with | some _=>(P.info? t).map (·.size) | none=>none
def yS (agg:Bool) (sz:Nat) (cs:List D) (off:Nat):Option D :=
 if agg then (if off+sz≤cs.length then some (.agg ((cs.drop off).take sz)) else none) else cs[off]?
def zy (agg:Bool) (sz:Nat) (cs:List A) (off:Nat):Option A :=
 if agg then (if off+sz≤cs.length then some (xx ((cs.drop off).take sz)) else none) else cs[off]?
def splice {α:Type} (cs:List α) (off:Nat) (new:List α):List α:=cs.take off++new++cs.drop (off+new.length)
def Blk.view:Blk→Nat→Nat→Option Blk
 | .fam rows,_,n=>rows[n]?
 | x,b,n=>if n=b then some x else none
def Blk.into:Blk→Nat→Blk→Blk
 | .fam rows,n,y => .fam (rows.set n y)
 | _,_,y=>y
def bV:Loc→Nat→Nat→Option Blk
 | [],_,_=>none
 | ((a,b),x)::rest,t,n=>if t=a then (match x.view b n with | some y=>some y | none=>bV rest t n) else bV rest t n
def setB:Loc→Nat→Nat→Blk→Loc
 | [],_,_,_=>[]
 | ((a,b),x)::rest,t,n,y=>if t=a then (match x.view b n with | some _=>((a,b),x.into n y)::rest | none=>((a,b),x)::setB rest t n y) else ((a,b),x)::setB rest t n y
def look:Env→Nat→Option A
 | [],_=>none
 | (a,x)::rest,t=>if t=a then some x else look rest t
def jP:Out→List (Option Loc)→Out
 | out,[]=>out
 | [],_=>[]
 | l::out,c::cs=>c.getD l::jP out cs
def Oa:List (Option Loc)→Nat→Loc→List (Option Loc)
 | [],0,l=>[some l]
 | [],n+1,l=>none::Oa [] n l
 | _::cs,0,l=>some l::cs
 | c::cs,n+1,l=>c::Oa cs n l
def BZ:List (Option Loc)→List (Option Loc)→List (Option Loc)
 | [],ys=>ys
 | xs,[]=>xs
 | x::xs,y::ys=>(match y with | some l=>some l | none=>x)::BZ xs ys
def S.cur (s:S):Out:=jP s.out s.chg
def S.dep (s:S):Nat:=s.out.length
def S.get (s:S) (i:Id):Option Blk :=
 if i.d=s.dep then bV s.loc i.t i.n
 else if i.d < s.dep then (s.cur[s.dep - 1 - i.d]?).bind (fun l=>bV l i.t i.n) else none
def S.set (s:S) (i:Id) (b:Blk):S :=
 if i.d=s.dep then { s with loc:=setB s.loc i.t i.n b }
 else
  match s.cur[s.dep - 1 - i.d]? with
  | some l=>{ s with chg:=Oa s.chg (s.dep - 1 - i.d) (setB l i.t i.n b) }
  | none=>s
def S.elems (s:S):A→Option (List D)
 | .d (.sl xs)=>some xs
 | .d .nilsl=>some []
 | .tight xs=>some xs
 | .own _ xs=>some xs
 | .ref i off len full =>
  match s.get i with
  | some (.arr _ _ xs)=>if full=xs.length∧off+len≤full then some ((xs.drop off).take len) else none
  | _=>none
 | _=>none
def orS:Option S→Option S→Option S
 | some s,_=>some s
 | none,o=>o
def S.zt (s:S) (i:Id) (off len full:Nat):Option (D×Option S) :=
 match s.get i with
 | some (.arr sz xJ xs) =>
  if full=xs.length∧off+len≤full then some (.sl ((xs.drop off).take len),if xJ then none else some (s.set i (.arr sz true xs))) else none
 | _=>none
mutual
def S.yt (s:S):A→Option (A×Option S)
 | .d x=>some (.d x,none)
 | .tight xs=>some (.d (.sl xs),none)
 | .own _ xs=>some (.d (.sl xs),none)
 | .ref i off len full=>(s.zt i off len full).map fun (x,s')=>(.d x,s')
 | .agg cs=>(s.FB cs).map fun (xs,s')=>(xx xs,s')
 | .pimm e 0=>some (.d (.pbox e),none)
 | .mref i =>
  match s.get i with
  | some (.map kt xJ es)=>some (.d (.mp kt es),if xJ then none else some (s.set i (.map kt true es)))
  | _=>none
 | .bptr i off=>some (.bptr i off,none)
 | .eptr i ix off len=>some (.eptr i ix off len,none)
 | .clo f caps=>some (.clo f caps,none)
 | _=>none
def S.FB (s:S):List A→Option (List A×Option S)
 | []=>some ([],none)
 | x::rest =>
  match s.yt x with
  | none=>none
  | some (x',o) =>
   match (o.getD s).FB rest with
   | none=>none
   | some (rest',o')=>some (x'::rest',orS o' o)
end
def S.toD (s:S) (v:A):Option (D×Option S) :=
 match s.yt v with
 | some (.d x,o)=>some (x,o)
 | _=>none
mutual
def A.ids:A→List Id
 | .agg cs=>A.lT cs
 | .tup cs=>A.lT cs
 | .ref i _ _ _ | .bptr i _ | .eptr i _ _ _ | .mref i | .rcap i _ _ _ _ | .bref i _ | .nref i _ | .nptr i _ _ _ | .tref i _ _ | .tptr i _ _=>[i]
 | .clo _ cs=>A.lT cs
 | _=>[]
def A.lT:List A→List Id
 | []=>[]
 | x::rest=>x.ids++A.lT rest
end
mutual
def Blk.ids:Blk→List Id
 | .box cs=>A.lT cs
 | .nest _ xs=>A.lT xs.flatten
 | .fam rows=>Blk.lT rows
 | .arr _ _ _=>[]
 | .map _ _ _=>[]
 | .gap=>[]
 | .tail _ _ _=>[]
def Blk.lT:List Blk→List Id
 | []=>[]
 | b::rest=>b.ids++Blk.lT rest
end
def vK:Loc→List Id
 | []=>[]
 | b::rest=>b.2.ids++vK rest
def wo:Env→List Id
 | []=>[]
 | b::rest=>b.2.ids++wo rest
def Ld (op:BinOp) (k:IntKind) (a b:Int):Option D :=
 match op with
 | .add=>some (.int k (k.wrap (a+b)))
 | .sub=>some (.int k (k.wrap (a - b)))
 | .mul=>some (.int k (k.wrap (a * b)))
 | .quo=>if b=0 then none else some (.int k (k.wrap (a.tdiv b)))
 | .rem=>if b=0 then none else some (.int k (a.tmod b))
 | .eql=>some (.bool (a==b))
 | .neq=>some (.bool (a != b))
 | .lss=>some (.bool (decide (a < b)))
 | .leq=>some (.bool (decide (a≤b)))
 | .gtr=>some (.bool (decide (a > b)))
 | .geq=>some (.bool (decide (a≥b)))
 | .shr=>if b < 0 then none else some (.int k (a.fdiv (2 ^ (min b.toNat k.bits))))
 | .shl=>if b < 0 then none else some (.int k (k.wrap (a * 2 ^ (min b.toNat k.bits))))
 | _=>none
def MN (P:Program) (t:TypeId):Option (List Field) :=
 match P.underlying t with
 | some (.struct fs)=>if !P.stoodInHeld t&&!P.eqGuardType P.depth t&&(fs.toList.map (·.offset)==List.range fs.toList.length)&&fs.toList.all (fun f=>f.name != "_") then some fs.toList else none
 | _=>none
def eqD (P:Program):List Field→List D→List D→Option Bool
 | [],[],[]=>some true
 | f::fs, .int k a::xs, .int k' b::ys =>
  (match P.underlying f.type with
   | some (.int _)=>if k=k' then (eqD P fs xs ys).map (fun r=>(a==b)&&r) else none
   | _=>none)
 | f::fs, .bool a::xs, .bool b::ys =>
  (match P.underlying f.type with
   | some .bool=>(eqD P fs xs ys).map (fun r=>(a==b)&&r)
   | _=>none)
 | _,_,_=>none
def Dj:A→Option Bool
 | .d .nilsl=>some true
 | .d (.sl (_::_))=>some false
 | _=>none
def JC:A→Option Bool
 | .d .pnil=>some true
 | .d (.pbox _) | .bptr .. | .eptr .. | .pimm ..=>some false
 | _=>none
def La (P:Program) (op:BinOp) (t:TypeId) (x y:A):Option D :=
 match x,y with
 | .d (.int k a), .d (.int k' b)=>if k=k' then Ld op k a b else none
 | .d (.bool a), .d (.bool b) =>
  match P.underlying t,op with
  | some .bool, .eql=>some (.bool (a==b))
  | some .bool, .neq=>some (.bool (!(a==b)))
  | _,_=>none
 | .d (.agg xs), .d (.agg ys) =>
  match MN P t with
  | none=>none
  | some fs =>
   (match op with
    | .eql=>(eqD P fs xs ys).map .bool
    | .neq=>(eqD P fs xs ys).map (fun b => .bool (!b))
    | _=>none)
 | x,y =>
  match P.underlying t,op with
  | some (.slice _), .eql=>(match y with | .d .nilsl=>(Dj x).map .bool | _=>none)
  | some (.slice _), .neq=>(match y with | .d .nilsl=>(Dj x).map fun b => .bool (!b) | _=>none)
  | some (.pointer _), .eql=>(match y with | .d .pnil=>(JC x).map .bool | _=>none)
  | some (.pointer _), .neq=>(match y with | .d .pnil=>(JC x).map fun b => .bool (!b) | _=>none)
  | _,_=>none
def TM (op:UnOp):A→Option D
 | .d (.int k n)=>(match op with | .neg=>some (.int k (k.wrap (0 - n))) | _=>none)
 | .d (.bool b)=>(match op with | .not=>some (.bool (!b)) | _=>none)
 | _=>none
def Jp (P:Program) (src dst:TypeId):A→Option D
 | .d (.int _ n)=>(match P.underlying src,P.underlying dst with | some _,some (.int k)=>some (.int k (k.wrap n)) | _,_=>none)
 | _=>none
def storable:A→Bool
 | .unk | .undef | .tup _=>false
 | _=>true
def EY (place:Nat→Option (Nat×Nat)):List A→List (Nat×A)→Option (List A)
 | cells,[]=>some cells
 | cells,(i,v)::rest =>
  match place i with
  | none=>none
  | some (off,size)=>if storable v=true∧v.cells.length=size∧off+size≤cells.length then EY place (splice cells off v.cells) rest else none
def fieldAt (P:Program) (t:TypeId) (i:Nat):Option (TypeId×Nat×Nat) :=
 match P.underlying t with
 | some (.struct fs)=>(fs[i]?).bind fun f=>(lQ P f.type).map fun z=>(f.type,f.offset,z)
 | _=>none
def placesOf (P:Program):List Field→Option (List (Nat×Nat))
 | []=>some []
 | f::rest=>match lQ P f.type,placesOf P rest with | some z,some r=>some ((f.offset,z)::r) | _,_=>none
def zn (P:Program) (t:TypeId) (parts:List (Nat×A)):Option A :=
 match P.underlying t,CJ P t with
 | some (.struct fs),some z=>(match placesOf P fs.toList with | some pl=>(EY (fun i=>pl[i]?) (z.cells.map .d) parts).map xx | none=>none)
 | some (.array _ e),some z=>(match lQ P e with | some sz=>(EY (fun i=>some (i * sz,sz)) (z.cells.map .d) parts).map xx | none=>none)
 | _,_=>none
def TP (P:Bool):D→D→Option D
 | .int k a, .int k' b=>if k=k' then some (.int k (if P then (if b < a then b else a) else (if b > a then b else a))) else none
 | _,_=>none
def sV (P:Bool):D→List A→Option D
 | x,[]=>some x
 | x, .d y::rest=>(TP P x y).bind fun z=>sV P z rest
 | _,_=>none
def ay (env:Nat→Option A):Operand→Option A
 | .tmp t=>env t
 | .const v=>(ofValue v).map .d
 | .func f=>some (.d (.fn f))
 | .global _=>none
def dR (env:Nat→Option A):List Operand→Option (List A)
 | []=>some []
 | x::rest=>match ay env x,dR env rest with | some v,some vs=>some (v::vs) | _,_=>none
def oH (env:Nat→Option A):List (Nat×Operand)→Option (List (Nat×A))
 | []=>some []
 | (i,x)::rest=>match ay env x,oH env rest with | some v,some vs=>some ((i,v)::vs) | _,_=>none
structure Ret where
 val:A
 chg:List (Option Loc)
def Nc:D→D
 | .nilsl => .sl []
 | x=>x
def wS:D→D
 | .nilsl => .sl []
 | .agg cs => .agg (cs.map Nc)
 | x=>x
def S.CW (s:S):A→Option D
 | .d x=>some x
 | .tight xs=>some (.sl xs)
 | .ref i off len full=>if i.d=s.dep then (s.elems (.ref i off len full)).map .sl else none
 | .pimm e 0=>some (.pbox e)
 | .mref i=>if i.d=s.dep then (match s.get i with | some (.map kt _ es)=>some (.mp kt es) | _=>none) else none
 | _=>none
def S.cellsD (s:S):List A→Option (List D)
 | []=>some []
 | x::rest=>match s.CW x,s.cellsD rest with | some v,some vs=>some (v::vs) | _,_=>none
mutual
def S.result (s:S) (strict ex:Bool):A→Option (A×List Id)
 | .d x=>some (.d (if strict then x else wS x),[])
 | .tight xs=>some (if strict then .tight xs else .d (.sl xs),[])
 | .own sz xs=>some (if ex then .own sz xs else .d (.sl xs),[])
 | .ref i off len full =>
  if i.d < s.dep then some (.ref i off len full,[]) else
  match s.get i with
  | some (.arr sz xJ xs) =>
   if full=xs.length∧off+len≤full then
    (if ex then (if !xJ&&off==0&&len==full then some (.own sz xs,[i]) else none) else some (.d (.sl ((xs.drop off).take len)),[]))
   else none
  | _=>none
 | .agg cs=>(s.results strict ex cs).map fun (xs,bs)=>(xx xs,bs)
 | .tup cs=>(s.results strict ex cs).map fun (xs,bs)=>(.tup xs,bs)
 | .bptr i off =>
  if i.d < s.dep then some (.bptr i off,[]) else if ex then none else
  match s.get i with
  | some (.box cs)=>if off=0 then (s.cellsD cs).map fun ds=>(.d (.pbox (.agg ds)),[]) else none
  | _=>none
 | .pimm e off=>if off=0 then some (.d (.pbox e),[]) else none
 | .nref i n=>if i.d < s.dep then some (.nref i n,[]) else none
 | .mref i =>
  if i.d < s.dep then some (.mref i,[]) else
  match s.get i with
  | some (.map kt _ es)=>some (.d (.mp kt es),[])
  | _=>none
 | _=>none
def S.results (s:S) (strict ex:Bool):List A→Option (List A×List Id)
 | []=>some ([],[])
 | x::rest =>
  match s.result strict ex x with
  | none=>none
  | some (x',bs) =>
   match s.results strict ex rest with
   | none=>none
   | some (rest',bs')=>some (x'::rest',bs++bs')
end
def uX:List Id→Bool
 | []=>true
 | i::rest=>rest.all (fun x=>!(x.t==i.t&&x.n==i.n))&&uX rest
end Go.Lx
namespace Go.Lx
def S.ok (o:Option S) (s:S):S:=o.getD s
inductive Delta where
 | same
 | add (bs:Loc)
 | set (s:S)
def Delta.of:Option S→Delta
 | none => .same
 | some s => .set s
def Delta.QP:Delta→Bool
 | .add _=>true
 | _=>false
def S.plus (s:S) (bs:Loc):S:={ s with loc:=bs++s.loc }
def Delta.apply (s:S):Delta→S
 | .same=>s
 | .add bs=>s.plus bs
 | .set s'=>s'
def uU (l:Loc):Loc→Bool
 | []=>true
 | (k,b)::rest=>(match b with | .fam _=>(l.all fun e=>!Nat.beq e.1.1 k.1)&&(rest.all fun e=>!Nat.beq e.1.1 k.1) | _=>(bV l k.1 k.2).isNone&&(bV rest k.1 k.2).isNone)&&uU l rest
def nU:Loc→Nat→Nat
 | [],_=>0
 | ((a,b),x)::rest,t=>if t=a then max (match x with | .fam rows=>rows.length | _=>b+1) (nU rest t) else nU rest t
def S.fresh (s:S) (t:Nat):Id:=⟨s.dep,t,nU s.loc t⟩
def S.Kz (s:S) (t:Nat) (b:Blk) (mk:Id→A):Option (A×Delta):=some (mk (s.fresh t), .add [((t,nU s.loc t),b)])
def A7 (P:Program) (kt:TypeId):D→Bool
 | .int k _=>(match P.underlying kt with | some (.int k')=>decide (k=k') | _=>false)
 | .str _=>(match P.underlying kt with | some .string=>true | _=>false)
 | .bool _=>(match P.underlying kt with | some .bool=>true | _=>false)
 | _=>false
def Gp:List (D×D)→D→Option D
 | [],_=>none
 | (k,v)::rest,x=>if D.beq k x then some v else Gp rest x
def Gi:List (D×D)→D→D→List (D×D)
 | [],x,v=>[(x,v)]
 | (k,w)::rest,x,v=>if D.beq k x then (k,v)::rest else (k,w)::Gi rest x v
section
variable (c:Cfg) (f:FuncId) (call:FuncId→List A→Out→Option Ret) (env:Nat→Option A) (s:S)
def nZ (agg:Bool) (sz:Nat):A→Option A
 | .bptr i off=>(match s.get i with | some (.box cs)=>zy agg sz cs off | _=>none)
 | .eptr i ix off len=>(match s.get i with
   | some (.arr _ _ xs)=>if len=xs.length then (match xs[ix]? with | some e=>(yS agg sz e.cells off).map .d | none=>none) else none
   | _=>none)
 | .pimm e off=>(yS agg sz e.cells off).map .d
 | .d (.pbox e)=>(yS agg sz e.cells 0).map .d
 | _=>none
def zA:D→List D→Option D
 | .agg _,cs=>some (.agg cs)
 | _,[x]=>some x
 | _,_=>none
def wJ (sz:Nat) (a v:A):Option S :=
 if storable v=true∧v.cells.length=sz then
  match a with
  | .bptr i off=>(match s.get i with
    | some (.box cs) =>
     if off+sz≤cs.length then
      (if i.d=s.dep∨v.ids.all (fun j=>decide (j.d≤i.d))=true then some (s.set i (.box (splice cs off v.cells))) else none)
     else none
    | _=>none)
  | .eptr i ix off len =>
   (match s.toD v with
    | none=>none
    | some (x,o) =>
     match (S.ok o s).get i with
     | some (.arr esz xJ xs) =>
      if len=xs.length∧xJ=false then
       (match xs[ix]? with
       | some e=>if off+sz≤e.cells.length then (zA e (splice e.cells off x.cells)).map (fun e'=>(S.ok o s).set i (.arr esz false (xs.set ix e'))) else none
       | none=>none)
      else none
     | _=>none)
  | _=>none
 else none
def fJ (t:TypeId) (x ix:A):Option A :=
 match ix with
 | .d (.int _ n) =>
  (match P' c t,x with
   | some (.slice e), .d (.sl xs)=>pick e n xs
   | some (.slice e), .tight xs=>pick e n xs
   | some (.slice e), .ref i off len full =>
    (match s.get i,lQ c.P e with
    | some (.arr sz _ xs),some sz'=>if 0≤n∧n < len∧full=xs.length∧off+len≤full∧sz=sz' then some (.eptr i (off+n.toNat) 0 xs.length) else none
    | _,_=>none)
   | some (.array len e), .bptr i off =>
    (match lQ c.P e with
    | some sz=>if 0≤n∧n < len∧0 < sz then some (.bptr i (off+n.toNat * sz)) else none
    | none=>none)
   | some (.array len e), .pimm d off =>
    (match lQ c.P e with
    | some sz=>if 0≤n∧n < len∧0 < sz then some (.pimm d (off+n.toNat * sz)) else none
    | none=>none)
   | _,_=>none)
 | _=>none
where
 P' (c:Cfg) (t:TypeId):=c.P.underlying t
 pick (e:TypeId) (n:Int) (xs:List D):Option A :=
  if 0≤n then (match xs[n.toNat]?,lQ c.P e with
   | some x,some sz=>if x.size=sz then some (.pimm x 0) else none
   | _,_=>none) else none
def Kt (len:Nat):Option A→Option Nat
 | none=>some len
 | some (.d (.int _ h))=>if 0≤h∧h≤len then some h.toNat else none
 | _=>none
def OD (h:Nat):Option A→Option Nat
 | none=>some 0
 | some (.d (.int _ l))=>if 0≤l∧l≤h then some l.toNat else none
 | _=>none
def kw (len:Nat) (lo hi:Option A):Option (Nat×Nat) :=
 match Kt len hi with
 | none=>none
 | some h=>match OD h lo with | none=>none | some l=>some (l,h)
def O6 (h:Nat):Option A→Bool
 | some (.d (.int _ m))=>decide (m=(h:Int))
 | _=>false
def NK (a b:Nat):Option A→Nat
 | none=>a
 | some _=>b
def Un (n:Nat) (lo hi:Option A):Option A→Option (A×Delta)
 | some (.d (.int _ m))=>(match kw n lo hi with | some (_,h)=>if h≤m∧m≤n then some (.unk, .same) else none | none=>none)
 | _=>none
def pq (t:TypeId) (x:A) (lo hi mx:Option A):Option (A×Delta) :=
 match c.P.underlying t with
 | some (.slice e) =>
  (match lQ c.P e with
   | none=>none
   | some sz =>
    if mx.isSome&&hi.isNone then none else
    match x with
    | .d (.sl xs)=>cut sz xs .same
    | .d .nilsl=>(match kw 0 lo hi with | some _=>(if mx.isNone || O6 0 mx then some (.d .nilsl, .same) else none) | none=>none)
    | .tight xs =>
     if hi.isNone then (match kw xs.length lo none with | some (l,_)=>if l=0∨xs.all (fun x=>decide (x.size=sz))=true then some (.tight (xs.drop l), .same) else none | none=>none) else cut sz xs .same
    | .ref i off len full =>
     (match s.get i with
     | some (.arr sz' xJ xs) =>
      if full=xs.length∧off+len≤full∧sz=sz' then
       (if mx.isNone then (match kw (NK len (full - off) hi) lo hi with | some (l,h)=>some (.ref i (off+l) (h - l) full, .same) | none=>none)
        else if c.strict f then cut sz ((xs.drop off).take len) (if xJ then .same else .set (s.set i (.arr sz true xs)))
        else Un (full - off) lo hi mx)
      else none
     | _=>none)
    | _=>none)
 | _=>none
where
 cut (sz:Nat) (xs:List D) (o:Delta):Option (A×Delta) :=
  match kw xs.length lo hi with
  | none=>none
  | some (l,h) =>
   if l=0∨xs.all (fun x=>decide (x.size=sz))=true then
    (match mx with
     | none=>some (.d (.sl ((xs.take h).drop l)),o)
     | some m=>if O6 h (some m) then some (.tight ((xs.take h).drop l),o) else none)
   else none
def room (n bytes:Nat):Bool:=decide (n≤16777216)&&decide (bytes≤1048576)
def Jk (P:Program) (t:TypeId):Option Nat:=(P.info? t).map (·.bytes)
def BF (dst:Option Nat) (t:TypeId) (x y:A):Option (A×Delta) :=
 match um c.P t with
 | none=>none
 | some e =>
 match lQ c.P e,Jk c.P e,CJ c.P e,s.elems y,dst with
 | some sz,some by_,some z,some ys,some d =>
  if ys.all (fun y=>decide (y.size=sz))=true∧0 < by_∧z.size=sz then
   match x with
   | .ref i 0 len full =>
    (match s.get i with
     | some (.arr sz' xJ xs) =>
      if full=xs.length∧sz'=sz then
       (if len=full then (if room (len+ys.length) by_=true then some (.ref i 0 (len+ys.length) (len+ys.length),if ys.isEmpty then .same else .set (s.set i (.arr sz xJ (xs++ys)))) else none)
       else if len+ys.length≤full∧xJ=false then some (.ref i 0 (len+ys.length) full, .set (s.set i (.arr sz false (splice xs len ys)))) else none)
      else none
     | _=>none)
   | .d .nilsl=>if room ys.length by_ then s.Kz d (.arr sz false ys) (fun i => .ref i 0 ys.length ys.length) else none
   | .tight xs=>if ys.isEmpty then some (.tight xs, .same) else if room (xs.length+ys.length) by_=true∧xs.all (fun y=>decide (y.size=sz))=true then s.Kz d (.arr sz false (xs++ys)) (fun i => .ref i 0 (xs.length+ys.length) (xs.length+ys.length)) else none
   | _=>none
  else none
 | _,_,_,_,_=>none
def Gn (t:TypeId) (x:A):Option D :=
 match c.P.underlying t,x with
 | some (.slice _), .d (.sl xs)=>some (.int .i64 xs.length)
 | some (.slice _), .d .nilsl=>some (.int .i64 0)
 | some (.slice _), .tight xs=>some (.int .i64 xs.length)
 | some (.slice _), .ref _ _ len _=>some (.int .i64 len)
 | some (.array n _),_=>some (.int .i64 n)
 | some (.map _ _), .d (.mp _ es)=>some (.int .i64 es.length)
 | some (.map _ _), .d .mpnil=>some (.int .i64 0)
 | some (.map _ _), .mref i=>(match s.get i with | some (.map _ _ es)=>some (.int .i64 es.length) | _=>none)
 | _,_=>none
def Jq (t:TypeId) (x y:A):Option (A×Delta) :=
 match um c.P t,s.elems y with
 | some e,some ys =>
  (match lQ c.P e,x with
   | some sz, .ref i off len full =>
    (match s.get i with
    | some (.arr sz' xJ xs) =>
     if full=xs.length∧off+len≤full∧sz'=sz∧xJ=false∧ys.all (fun y=>decide (y.size=sz))=true then
      some (.d (.int .i64 (min ys.length len:Nat)), .set (s.set i (.arr sz false (splice xs off (ys.take len)))))
     else none
    | _=>none)
   | _,_=>none)
 | _,_=>none
def Lc (t:TypeId) (x:A):Option (A×Delta) :=
 match um c.P t,x with
 | some e, .ref i off len full =>
  (match lQ c.P e,CJ c.P e,s.get i with
   | some sz,some z,some (.arr sz' xJ xs) =>
    if full=xs.length∧off+len≤full∧sz'=sz∧xJ=false∧z.size=sz then
     some (.tup [], .set (s.set i (.arr sz false (splice xs off (List.replicate len z)))))
    else none
   | _,_,_=>none)
 | _,_=>none
def jH (dst:Option Nat) (b:Builtin) (argTypes:List TypeId) (args:List A):Option (A×Delta) :=
 match b,argTypes,args with
 | .append,[t,t2],[x,y]=>if (um c.P t2).isSome then BF c s dst t x y else none
 | .len,t::_,[x]=>(Gn c s t x).map (fun v=>(.d v, .same))
 | .copy,t::_::_,[x,y]=>Jq c s t x y
 | .clear,t::_,[x]=>Lc c s t x
 | .min,_, .d x::rest=>(sV true x rest).map (fun v=>(.d v, .same))
 | .max,_, .d x::rest=>(sV false x rest).map (fun v=>(.d v, .same))
 | .cap,t::_,[.d .nilsl]=>(um c.P t).map (fun _=>(.d (.int .i64 0), .same))
 | .cap,t::_,[.rcap _ _ _ _ k]=>(um c.P t).map (fun _=>(.d (.int .i64 k), .same))
 | _,_,_=>none
def uM (g:FuncId) (j:Nat) (s:S):List A→Option (List A×Option S)
 | []=>some ([],none)
 | x::rest =>
  match (if c.byref g j then some (x,none) else s.yt x) with
  | none=>none
  | some (x',o) =>
   match uM g (j+1) (S.ok o s) rest with
   | none=>none
   | some (rest',o')=>some (x'::rest',orS o' o)
mutual
def gY (dep t:Nat) (n:Nat):A→A×Loc
 | .own sz xs=>(.ref ⟨dep,t,n⟩ 0 xs.length xs.length,[((t,n), .arr sz false xs)])
 | .agg cs=>let r:=fH dep t n cs;(.agg r.1,r.2)
 | .tup cs=>let r:=fH dep t n cs;(.tup r.1,r.2)
 | x=>(x,[])
def fH (dep t:Nat) (n:Nat):List A→List A×Loc
 | []=>([],[])
 | x::rest=>let r:=gY dep t n x;let r':=fH dep t (n+r.2.length) rest;(r.1::r'.1,r.2++r'.2)
end
def Ij (s1:S) (o:Option S):List (Option Loc)→Option S
 | []=>o
 | l::out'=>some { s1 with loc:=l.getD s1.loc,chg:=BZ s1.chg out' }
def wI (dst:Option Nat) (g:FuncId) (caps args:List A):Option (A×Delta) :=
 match uM c g 0 s args with
 | none=>none
 | some (args',o) =>
  let s1:=S.ok o s
  match call g (args'++caps) (s1.loc::s1.cur) with
  | none=>none
  | some r =>
   let o2:=Ij s1 o r.chg
   match r.val.xq,dst with
   | false,_=>some (r.val,Delta.of o2)
   | true,none=>none
   | true,some t =>
    if c.frz f t then some (r.val.frz,Delta.of o2)
    else
     let h:=gY s.dep t (nU (S.ok o2 s).loc t) r.val
     some (h.1,match o2 with | none => .add h.2 | some s2 => .set (s2.plus h.2))
def BG (dst:Option Nat) (k:Call):Option (A×Delta) :=
 match dR env k.args.toList with
 | none=>none
 | some args =>
  match k.callee with
  | .builtin b=>jH c s dst b k.argTypes.toList args
  | .value x =>
   (match ay env x with
    | some (.d (.fn g))=>wI c f call s dst g [] args
    | some (.clo g caps)=>wI c f call s dst g caps args
    | _=>none)
  | _=>none
def BH (t:TypeId) (m k:A) (ok:Bool):Option A :=
 match c.P.underlying t,k with
 | some (.map kt e), .d kd =>
  if A7 c.P kt kd then
   match CJ c.P e,(match m with
    | .d (.mp kt' es)=>if kt'=kt then some es else none
    | .d .mpnil=>some []
    | .mref i=>(match s.get i with | some (.map kt' _ es)=>if kt'=kt then some es else none | _=>none)
    | _=>none) with
   | some z,some es =>
    let v:=(Gp es kd).getD z
    some (if ok then .tup [.d v, .d (.bool (Gp es kd).isSome)] else .d v)
   | _,_=>none
  else none
 | _,_=>none
def qg (t:TypeId) (m k v:A):Option S :=
 match c.P.underlying t,m,k with
 | some (.map kt _), .mref i, .d kd =>
  (match s.toD v with
   | none=>none
   | some (x,o) =>
    match (S.ok o s).get i with
    | some (.map kt' xJ es)=>if kt'=kt∧xJ=false∧A7 c.P kt kd=true then some ((S.ok o s).set i (.map kt false (Gi es kd x))) else none
    | _=>none)
 | _,_,_=>none
def Ir (dst:Option Nat) (t:TypeId):Option (A×Delta) :=
 match CJ c.P t,dst with
 | some z,some d=>s.Kz d (.box (z.cells.map A.d)) (fun i => .bptr i 0)
 | _,_=>none
def tV (s:S):List (Nat×A)→Option (List (Nat×D)×Option S)
 | []=>some ([],none)
 | (i,x)::rest =>
  match s.toD x with
  | none=>none
  | some (x',o) =>
   match tV (S.ok o s) rest with
   | none=>none
   | some (rest',o')=>some ((i,x')::rest',orS o' o)
def Js (sz:Nat):List D→List (Nat×D)→Option (List D)
 | xs,[]=>some xs
 | xs,(i,x)::rest=>if i < xs.length∧x.size=sz then Js sz (xs.set i x) rest else none
def qc (dst:Option Nat) (t:TypeId) (len:Nat) (parts:List (Nat×A)):Option (A×Delta) :=
 match um c.P t with
 | none=>none
 | some e =>
  match lQ c.P e,CJ c.P e,tV s parts with
  | some sz,some z,some (ps,o) =>
   if len * sz≤16777216∧z.size=sz then
    (match Js sz (List.replicate len z) ps with
     | none=>none
     | some xs =>
      match dst with
      | some d =>
       if c.mutlit f d then (match o with | none=>s.Kz d (.arr sz false xs) (fun i => .ref i 0 len len) | some _=>none)
       else some (.tight xs,Delta.of o)
      | none=>none)
   else none
  | _,_,_=>none
def xU (dst:Option Nat) (t:TypeId) (len cap:A):Option (A×Delta) :=
 match um c.P t,len,cap,dst with
 | some e, .d (.int .i64 n), .d (.int .i64 m),some d =>
  (match lQ c.P e,Jk c.P e,CJ c.P e with
   | some sz,some by_,some z=>if 0≤n∧n=m∧room n.toNat by_=true∧z.size=sz then s.Kz d (.arr sz false (List.replicate n.toNat z)) (fun i => .ref i 0 n.toNat n.toNat) else none
   | _,_,_=>none)
 | _,_,_,_=>none
def lW:A→A
 | .ref i off len full=>(match s.elems (.ref i off len full) with | some (_::_) => .d (.sl [.pnil]) | _ => .undef)
 | .tight (_::_) => .d (.sl [.pnil])
 | .tight [] => .undef
 | x=>x
def qf (t:TypeId) (x:A) (i:Nat):Option A :=
 match fieldAt c.P t i with
 | some (_,off,sz) =>
  if sz=0 then none else
  (match x with
   | .bptr j o=>some (.bptr j (o+off))
   | .eptr j ix o len=>some (.eptr j ix (o+off) len)
   | .nptr j ix o len=>some (.nptr j ix (o+off) len)
   | .pimm e o=>some (.pimm e (o+off))
   | .d (.pbox e)=>some (.pimm e off)
   | _=>none)
 | none=>none
def Dc (t:TypeId) (x:A) (i:Nat):Option A :=
 match fieldAt c.P t i with
 | none=>none
 | some (ft,off,sz) =>
  match x with
  | .d (.agg cs)=>(yS (qi c.P ft) sz cs off).map A.d
  | .agg cs=>zy (qi c.P ft) sz cs off
  | _=>none
def ES (t:TypeId) (x ix:A):Option A :=
 match c.P.underlying t,x,ix with
 | some (.array len e), .d (.agg cs), .d (.int _ n) =>
  (match lQ c.P e with
   | some sz=>if 0≤n∧n < len then (yS (qi c.P e) sz cs (n.toNat * sz)).map A.d else none
   | none=>none)
 | _,_,_=>none
def nT (o:Oper):Option (A×Delta) :=
 match o.op with
 | .move x=>(ay env x).map (fun v=>(v, .same))
 | .assign x =>
  (match ay env x,x,o.dst with
   | some (.d .nilsl), .const _,some t =>
    if c.keepNil f t then some (.d .nilsl, .same) else
    (match (um c.P o.type).bind (lQ c.P) with
    | some sz=>s.Kz t (.arr sz false []) (fun i => .ref i 0 0 0)
    | none=>some (.d .nilsl, .same))
   | some v,_,_=>some (v, .same)
   | none,_,_=>none)
 | .pick k a b=>(match ay env k with | some (.d (.bool x))=>(ay env (if x then a else b)).map (fun v=>(v, .same)) | _=>none)
 | .alloc t=>Ir c s o.dst t
 | .box _ x=>(match ay env x,o.dst with | some v,some d=>if storable v=true then s.Kz d (.box v.cells) (fun i => .bptr i 0) else none | _,_=>none)
 | .build t parts=>(match oH env parts.toList with | some ps=>(zn c.P t ps).map (fun v=>(v, .same)) | none=>none)
 | .buildSlice t len parts=>(match oH env parts.toList with | some ps=>qc c f s o.dst t len ps | none=>none)
 | .load t a=>(match ay env a,lQ c.P t with | some p,some sz=>(nZ s (qi c.P t) sz p).map (fun v=>(v, .same)) | _,_=>none)
 | .store t a v=>(match ay env a,ay env v,lQ c.P t with | some p,some x,some sz=>(wJ s sz p x).map (fun s'=>(.undef, .set s')) | _,_,_=>none)
 | .nilCheck x=>(match ay env x with
   | some (.bptr i off)=>some (.bptr i off, .same)
   | some (.eptr i ix off len)=>some (.eptr i ix off len, .same)
   | some (.nptr i ix off len)=>some (.nptr i ix off len, .same)
   | some (.pimm e off)=>some (.pimm e off, .same)
   | some (.d (.pbox e))=>some (.d (.pbox e), .same)
   | some (.d (.fn g))=>some (.d (.fn g), .same)
   | some (.clo g caps)=>some (.clo g caps, .same)
   | _=>none)
 | .binOp op t x y _=>(match ay env x,ay env y with | some a,some b=>(La c.P op t (lW s a) (lW s b)).map (fun v=>(.d v, .same)) | _,_=>none)
 | .unOp op _ x=>(match ay env x with | some a=>(TM op a).map (fun v=>(.d v, .same)) | none=>none)
 | .convert src dst x=>(match ay env x with | some a=>(Jp c.P src dst a).map (fun v=>(.d v, .same)) | none=>none)
 | .makeFunc (.func g) first captured=>if first.size=0 then (match dR env captured.toList with | some []=>some (.d (.fn g), .same) | some vs=>some (.clo g vs, .same) | none=>none) else none
 | .makeMap t r=>(match r,c.P.underlying t,o.dst with | none,some (.map kt _),some d=>s.Kz d (.map kt false []) .mref | _,_,_=>none)
 | .makeSlice t len cap=>(match ay env len,ay env cap with | some n,some m=>xU c s o.dst t n m | _,_=>none)
 | .slice t x lo hi mx =>
  (match ay env x,(match lo with | none=>some none | some a=>(ay env a).map some),(match hi with | none=>some none | some a=>(ay env a).map some),(match mx with | none=>some none | some a=>(ay env a).map some) with
   | some v,some l,some h,some m=>pq c f s t v l h m
   | _,_,_,_=>none)
 | .fieldAddr t x i=>(match ay env x with | some v=>(qf c t v i).map (fun v=>(v, .same)) | none=>none)
 | .field t x i=>(match ay env x with | some v=>(Dc c t v i).map (fun v=>(v, .same)) | none=>none)
 | .indexAddr t x ix=>(match ay env x,ay env ix with | some v,some n=>(fJ c s t v n).map (fun v=>(v, .same)) | _,_=>none)
 | .index t x ix=>(match ay env x,ay env ix with | some v,some n=>(ES c t v n).map (fun v=>(v, .same)) | _,_=>none)
 | .lookup t m k ok=>(match ay env m,ay env k with | some m,some k=>(BH c s t m k ok).map (fun v=>(v, .same)) | _,_=>none)
 | .mapUpdate t m k v=>(match ay env m,ay env k,ay env v with | some m,some k,some v=>(qg c s t m k v).map (fun s'=>(.undef, .set s')) | _,_,_=>none)
 | .insert t m k v=>(match ay env m,ay env k,ay env v with | some m,some k,some v=>(qg c s t m k v).map (fun s'=>(.undef, .set s')) | _,_,_=>none)
 | .extract x i=>(match ay env x with | some (.tup vs)=>(vs[i]?).map (fun v=>(v, .same)) | _=>none)
 | .call k=>BG c f call env s o.dst k
 | _=>none
end
def yB (dst:Option Nat) (v:A) (env:Env):Env :=
 match dst with
 | some d=>(d,v)::env
 | none=>env
def jZ (ops:List Oper) (env:Env) (o:Oper):Option Bool :=
 match o.guard with
 | none=>some true
 | some (j,want) =>
  match (ops[j]?).bind (·.dst) with
  | none=>none
  | some d=>(match look env d with | some (.d (.bool b))=>some (b==want) | some .undef=>some false | _=>none)
def wP (env:Env):Operand→Bool
 | .tmp t=>(match look env t with | some (.d _) | some (.tight _)=>true | _=>false)
 | _=>true
def Fp (env:Env):Operand→Bool
 | .tmp t=>(match look env t with | some (.pimm _ _) | some (.d _)=>true | _=>false)
 | _=>false
def eG (env:Env):Op→Bool
 | .move _ | .pick .. | .build .. | .unOp .. | .convert .. | .makeFunc .. | .fieldAddr .. | .field .. | .extract .. | .nilCheck _ | .index ..=>false
 | .slice _ x _ _ _=>!wP env x
 | .indexAddr _ x _=>!(wP env x || Fp env x)
 | .load _ x=>!Fp env x
 | .binOp _ _ x y _=>!(wP env x&&wP env y)
 | .buildSlice _ _ parts=>!(parts.toList.all fun x=>wP env x.2)
 | .assign x=>!(match x with | .const (.slice none 0 0)=>false | _=>true)
 | .call { callee := .builtin .len,args, .. }=>!(args.toList.all fun x=>(match x with | .tmp t=>(match look env t with | some (.ref ..)=>true | _=>wP env x) | _=>true))
 | .call { callee := .builtin .min, .. } | .call { callee := .builtin .max, .. }=>false
 | _=>true
def qE (b:List Nat) (i:Nat):List (Nat×Loc)→Loc
 | []=>[]
 | (j,l)::rest=>if (b.getD i 0).testBit j then l++qE b i rest else qE b i rest
def CV (b:List Nat) (i:Nat) (adds:List (Nat×Loc)):Bool:=adds.all fun x=>(b.getD i 0).testBit x.1
def ou:List (Nat×Loc)→Loc
 | []=>[]
 | (_,l)::rest=>l++ou rest
def mM:Nat→List Oper→List (Nat×Oper)
 | _,[]=>[]
 | n,o::rest=>(n,o)::mM (n+1) rest
def eQ (ops:List Oper):List Nat :=
 (ops.foldl (fun (acc:List Nat) o=>acc++[o.after.toList.foldl (fun s e=>if Region.binds .any e then s ||| 2 ^ e.on ||| acc.getD e.on 0 else s) 0]) [])
def Au (ops:List Oper) (o:Oper):List Nat :=
 (o.op.operands.toList.filterMap fun x=>match x with | .tmp t=>some t | _=>none)++(match o.guard with | some (g,_)=>((ops[g]?).bind (·.dst)).toList | none=>[])
def comparable (b:List Nat) (i j:Nat):Bool:=(b.getD j 0).testBit i || (b.getD i 0).testBit j
def xK (ops:List Oper) (moved reads:List Nat):Bool :=
 let b:=eQ ops
 let is:=mM 0 ops
 (is.all fun (i,o)=>o.after.toList.all fun e=>!Region.binds .any e || decide (e.on < i)) &&
 (is.all fun (i,o)=>is.all fun (j,p)=>i==j || comparable b i j ||
  ((match o.dst with | some d=>!(Au ops p).contains d&&p.dst != some d | none=>true))) &&
 (moved.all fun i=>is.all fun (j,_)=>i==j || comparable b i j || (!reads.contains j&&!moved.contains j))
inductive Ex where
 | norm | exit (id:Nat) | ret
 deriving DecidableEq,Inhabited
def EG:Nat→List A→Env
 | _,[]=>[]
 | i,a::rest=>(i,a)::EG (i+1) rest
def mi (c:Cfg) (f:FuncId) (env:Env) (s:S):List ResultVar→Option (List A)
 | []=>some []
 | .tmp t::rest=>(match look env t,mi c f env s rest with | some v,some vs=>some (v::vs) | _,_=>none)
 | .cell a t::rest =>
  (match look env a,lQ c.P t with
   | some p,some sz=>(match nZ s (qi c.P t) sz p,mi c f env s rest with | some v,some vs=>some (v::vs) | _,_=>none)
   | _,_=>none)
def xX (c:Cfg) (f:FuncId) (rs:List ResultVar) (env:Env) (s:S):Option Ret :=
 match mi c f env s rs with
 | none=>none
 | some vs =>
  match s.result (c.strict f) (c.exports f) (match vs with | [v]=>v | vs => .tup vs) with
  | none=>none
  | some (v,is)=>if uX is then some ⟨v,s.chg⟩ else none
end Go.Lx
namespace Go.Lx
def Plain:Value→Prop
 | .agg _ | .tuple _=>False
 | _=>True
structure View where
 cell:Nat→Nat→Value→Prop
 map:Nat→Array MapEntry→Nat→Prop
structure View.Le (V V':View):Prop where
 cell:∀ b c v,V.cell b c v→V'.cell b c v
 map:∀ r e c,V.map r e c→V'.map r e c
theorem View.Le.refl (V:View):V.Le V:=⟨fun _ _ _ h=>h,fun _ _ _ h=>h⟩
theorem View.Le.trans {V V' V'':View} (h:V.Le V') (h':V'.Le V''):V.Le V'':=⟨fun _ _ _ x=>h'.cell _ _ _ (h.cell _ _ _ x),fun _ _ _ x=>h'.map _ _ _ (h.map _ _ _ x)⟩
def View.At (V:View) (b o:Nat) (v:Value):Prop:=∀ (j:Nat) x,v.cells[j]?=some x→V.cell b (o+j) x
inductive jB (P:Program) (V:View):D→Value→Prop where
 | bool (b:Bool):jB P V (.bool b) (.bool b)
 | int (k:IntKind) (n:Int):jB P V (.int k n) (.int k n)
 | str (s:ByteArray):jB P V (.str s) (.string s)
 | agg (cs:List D) (vs:Array Value) (hn:vs.size=cs.length) (h:∀ (i:Nat) d v,cs[i]?=some d→vs[i]?=some v→jB P V d v)
   (hp:∀ (i:Nat) v,vs[i]?=some v→Plain v):jB P V (.agg cs) (.agg vs)
 | nilsl:jB P V .nilsl (.slice none 0 0)
 | sl (xs:List D) (a:Option Addr) (c b o sz:Nat) (ev:Nat→Value) (hc:xs.length≤c) (ha:xs=[]∨a=some ⟨b,o,none⟩)
   (h:∀ (i:Nat) d,xs[i]?=some d→jB P V d (ev i)) (hs:∀ i,i < xs.length→(ev i).cells.size=sz) (hv:∀ i,i < xs.length→V.At b (o+i * sz) (ev i)) :
   jB P V (.sl xs) (.slice a xs.length c)
 | pnil:jB P V .pnil (.pointer none)
 | pbox (e:D) (ev:Value) (b o:Nat) (h:jB P V e ev) (hv:V.At b o ev):jB P V (.pbox e) (.pointer (some ⟨b,o,none⟩))
 | fn (f:FuncId):jB P V (.fn f) (.func (.func f) #[] #[])
 | nilfn:jB P V .nilfn .nilFunc
 | mpnil:jB P V .mpnil (.map none)
 | nilif:jB P V .nilif .nilIface
 | junk (v:Value) (hp:Plain v):jB P V .junk v
 | mp (kt:TypeId) (es:List (D×D)) (r:Nat) (en:Array MapEntry) (clock:Nat) (hm:V.map r en clock) (hn:en.size=es.length)
   (hk:∀ (i:Nat) e m,es[i]?=some e→en[i]?=some m→jB P V e.1 m.key) (hv:∀ (i:Nat) e m,es[i]?=some e→en[i]?=some m→jB P V e.2 m.val)
   (ho:∀ e,e∈es→A7 P kt e.1=true) (hc:clock=es.length) (hb:∀ (i:Nat) m,en[i]?=some m→m.born=i):jB P V (.mp kt es) (.map (some r))
theorem jB.mono {P:Program} {V V':View} (hV:V.Le V') {d:D} {v:Value} (h:jB P V d v):jB P V' d v:=by
 induction h with
 | bool b=>exact .bool b
 | int k n=>exact .int k n
 | str s=>exact .str s
 | agg cs vs hn h hp ih=>exact .agg cs vs hn ih hp
 | nilsl=>exact .nilsl
 | sl xs a c b o sz ev hc ha h hs hv ih=>exact .sl xs a c b o sz ev hc ha ih hs (fun i hi j x hx=>hV.cell _ _ _ (hv i hi j x hx))
 | pnil=>exact .pnil
 | pbox e ev b o h hv ih=>exact .pbox e ev b o ih (fun j x hx=>hV.cell _ _ _ (hv j x hx))
 | fn f=>exact .fn f
 | nilfn=>exact .nilfn
 | mpnil=>exact .mpnil
 | nilif=>exact .nilif
 | junk v hp=>exact .junk v hp
 | mp kt es r en clock hm hn hk hv ho hc hb ihk ihv=>exact .mp kt es r en clock (hV.map _ _ _ hm) hn ihk ihv ho hc hb
theorem jB.cells {P:Program} {V:View} {d:D} {v:Value} (h:jB P V d v) :
  v.cells.size=d.size∧(∀ (i:Nat) x y,d.cells[i]?=some x→v.cells[i]?=some y→jB P V x y)∧∀ (i:Nat) y,v.cells[i]?=some y→Plain y:=by
 cases h with
 | agg cs vs hn h hp=>exact ⟨hn,h,hp⟩
 | junk v hp =>
  have hc:v.cells=#[v]:=by cases v<;>first | rfl | exact hp.elim
  rw [hc];refine ⟨rfl,?_,?_⟩
  ·intro i x y hx hy;cases i with
   | zero=>simp [D.cells] at hx hy;subst hx hy;exact .junk _ hp
   | succ i=>simp [D.cells] at hx
  ·intro i y hy;cases i with
   | zero=>simp at hy;subst hy;exact hp
   | succ i=>simp at hy
 | _ =>
  refine ⟨rfl,?_,?_⟩
  ·intro i x y hx hy;cases i with
   | zero =>
    simp [D.cells,Value.cells] at hx hy;subst hx hy;constructor<;>assumption
   | succ i=>simp [D.cells,Value.cells] at hx
  ·intro i y hy;cases i with
   | zero=>simp [Value.cells] at hy;subst hy;trivial
   | succ i=>simp [Value.cells] at hy
structure Pl where
 blk:Nat
 cap:Nat
 nil:Bool
 off:Nat
def yV (p:Pl) (sz off len:Nat) (v:Value):Prop :=
 ∃ a c,v = .slice a len c ∧
  ((p.nil=true∧a=none∧c=0∧off=0) ∨
   (p.nil=false∧c=p.cap - off∧off≤p.cap∧a.isSome=true∧(off < p.cap∨off=0→a=some ⟨p.blk,off * sz,none⟩)))
def UY (p:Pl) (sz len:Nat) (a:Option Addr) (c:Nat):Prop :=
 (p.nil=true∧a=none∧c=0∧len=0)∨(p.nil=false∧c=p.cap∧a.isSome=true∧(0 < p.cap→a=some ⟨p.blk,p.off * sz,none⟩))
inductive iI (P:Program) (V:View) (h:Id→Option Blk) (μ:Id→Pl):A→Value→Prop where
 | undef:iI P V h μ .undef Go.undef
 | unk (v:Value):iI P V h μ .unk v
 | d (x:D) (v:Value) (hd:jB P V x v):iI P V h μ (.d x) v
 | agg (cs:List A) (vs:Array Value) (hn:vs.size=cs.length) (hc:∀ (i:Nat) d v,cs[i]?=some d→vs[i]?=some v→iI P V h μ d v)
   (hp:∀ (i:Nat) v,vs[i]?=some v→Plain v):iI P V h μ (.agg cs) (.agg vs)
 | tup (cs:List A) (vs:Array Value) (hn:vs.size=cs.length) (hc:∀ (i:Nat) d v,cs[i]?=some d→vs[i]?=some v→iI P V h μ d v):iI P V h μ (.tup cs) (.tuple vs)
 | tight (xs:List D) (a:Option Addr) (hd:jB P V (.sl xs) (.slice a xs.length xs.length)):iI P V h μ (.tight xs) (.slice a xs.length xs.length)
 | ref (i:Id) (off len full sz:Nat) (l:Bool) (xs:List D) (a:Option Addr) (c:Nat) (hi:h i=some (.arr sz l xs)) (hf:full≤xs.length)
   (hv:full=xs.length→yV (μ i) sz off len (.slice a len c)):iI P V h μ (.ref i off len full) (.slice a len c)
 | rcap (i:Id) (off len full cap sz:Nat) (l:Bool) (xs:List D) (a:Option Addr) (hi:h i=some (.arr sz l xs)) (hf:full≤xs.length)
   (hv:full=xs.length→yV (μ i) sz off len (.slice a len cap)):iI P V h μ (.rcap i off len full cap) (.slice a len cap)
 | bref (i:Id) (n:Nat) (cs:List A) (hi:h i=some (.box cs)):iI P V h μ (.bref i n) (.slice (some ⟨(μ i).blk,0,none⟩) n n)
 | nref (i:Id) (len sz:Nat) (xs:List (List A)) (a:Option Addr) (c:Nat) (hi:h i=some (.nest sz xs)) (hf:len≤xs.length)
   (hv:len=xs.length→yV (μ i) sz 0 len (.slice a len c)):iI P V h μ (.nref i len) (.slice a len c)
 | nptr (i:Id) (ix off len sz:Nat) (xs:List (List A)) (a:Addr) (hi:h i=some (.nest sz xs)) (hf:len≤xs.length)
   (hv:len=xs.length→a=⟨(μ i).blk,ix * sz+off,none⟩∧ix < len):iI P V h μ (.nptr i ix off len) (.pointer (some a))
 | tref (i:Id) (g len sz g':Nat) (xs:List D) (a:Option Addr) (c:Nat) (hi:h i=some (.tail sz g' xs)) (hf:g≤g')
   (hv:g=g'→len=xs.length∧UY (μ i) sz len a c):iI P V h μ (.tref i g len) (.slice a len c)
 | tptr (i:Id) (g k sz g':Nat) (xs:List D) (a:Addr) (hi:h i=some (.tail sz g' xs)) (hf:g≤g')
   (hv:g=g'→a=⟨(μ i).blk,(μ i).off * sz+k,none⟩∧k < xs.length * sz):iI P V h μ (.tptr i g k) (.pointer (some a))
 | bptr (i:Id) (off:Nat) (cs:List A) (hi:h i=some (.box cs)):iI P V h μ (.bptr i off) (.pointer (some ⟨(μ i).blk,off,none⟩))
 | eptr (i:Id) (ix off len sz:Nat) (l:Bool) (xs:List D) (a:Addr) (hi:h i=some (.arr sz l xs)) (hf:len≤xs.length)
   (hv:len=xs.length→a=⟨(μ i).blk,ix * sz+off,none⟩∧ix < len):iI P V h μ (.eptr i ix off len) (.pointer (some a))
 | pimm (e:D) (off:Nat) (ev:Value) (b o:Nat) (hd:jB P V e ev) (hv:V.At b o ev):iI P V h μ (.pimm e off) (.pointer (some ⟨b,o+off,none⟩))
 | mref (i:Id) (kt:TypeId) (l:Bool) (es:List (D×D)) (hi:h i=some (.map kt l es)):iI P V h μ (.mref i) (.map (some (μ i).blk))
 | iter (r:Nat):iI P V h μ (.iter r) (.pointer (some ⟨r,0,none⟩))
 | clo (f:FuncId) (cs:List A) (vs:Array Value) (hn:vs.size=cs.length) (hc:∀ (i:Nat) d v,cs[i]?=some d→vs[i]?=some v→iI P V h μ d v):iI P V h μ (.clo f cs) (.func (.func f) #[] vs)
def qo:Blk→Pl→Blk→Pl→Prop
 | .arr sz _ xs,p, .arr sz' _ xs',p'=>sz'=sz∧xs.length≤xs'.length∧(xs'.length=xs.length→p'=p)
 | .box _,p, .box _,p'=>p'=p
 | .map _ _ _,p, .map _ _ _,p'=>p'=p
 | .nest sz xs,p, .nest sz' xs',p'=>sz'=sz∧xs.length≤xs'.length∧(xs'.length=xs.length→p'=p)
 | .fam rows,p, .fam rows',p'=>rows'=rows∧p'=p
 | .gap,p, .gap,p'=>p'=p
 | .gap,_, .nest _ _,_=>True
 | .tail sz g xs,p, .tail sz' g' xs',p'=>sz'=sz∧g≤g'∧(g'=g→xs'=xs∧p'=p)
 | _,_,_,_=>False
theorem qo.refl (b:Blk) (p:Pl):qo b p b p:=by cases b<;>simp [qo]
theorem qo.trans {b b' b'':Blk} {p p' p'':Pl} (h:qo b p b' p') (h':qo b' p' b'' p''):qo b p b'' p'':=by
 cases b<;>cases b'<;>first | exact h.elim | (cases b''<;>first | exact h'.elim | skip)
 ·obtain ⟨rfl,h1,h2⟩:=h;obtain ⟨rfl,h3,h4⟩:=h';exact ⟨rfl,by omega,fun e=>by rw [h4 (by omega),h2 (by omega)]⟩
 ·exact Eq.trans h' h
 ·exact Eq.trans h' h
 ·obtain ⟨rfl,h1,h2⟩:=h;obtain ⟨rfl,h3,h4⟩:=h';exact ⟨rfl,by omega,fun e=>by rw [h4 (by omega),h2 (by omega)]⟩
 ·obtain ⟨rfl,rfl⟩:=h;exact h'
 ·trivial
 ·trivial
 ·exact Eq.trans h' h
 ·obtain ⟨rfl,h1,h2⟩:=h;obtain ⟨rfl,h3,h4⟩:=h';refine ⟨rfl,by omega,fun e=>?_⟩;obtain ⟨rfl,rfl⟩:=h4 (by omega);exact h2 (by omega)
def UW (h:Id→Option Blk) (μ:Id→Pl) (h':Id→Option Blk) (μ':Id→Pl) (is:List Id):Prop :=
 ∀ i,i∈is→∀ b,h i=some b→∃ b',h' i=some b'∧qo b (μ i) b' (μ' i)
theorem qy {cs:List A} {i:Nat} {a:A} (h:cs[i]?=some a) {x:Id} (hx:x∈a.ids):x∈A.lT cs:=by
 induction cs generalizing i with
 | nil=>simp at h
 | cons y rest ih =>
  simp only [A.lT,aU];cases i with
  | zero=>simp at h;subst h;exact .inl hx
  | succ i=>exact .inr (ih (by simpa using h))
theorem JM {cs:List A} {a:A} (h:a∈cs) {x:Id} (hx:x∈a.ids):x∈A.lT cs:=by
 obtain ⟨i,hi⟩:=jm.1 h;exact qy hi hx
theorem BX {xs:List (List A)} {i:Nat} {e:List A} (h:xs[i]?=some e) {k:Nat} {a:A} (h2:e[k]?=some a) {x:Id} (hx:x∈a.ids):x∈A.lT xs.flatten :=
 JM (List.mem_flatten.2 ⟨e,dm h,dm h2⟩) hx
theorem iI.mono {P:Program} {V V':View} {h h':Id→Option Blk} {μ μ':Id→Pl} {a:A} {v:Value} (H:iI P V h μ a v) (hV:V.Le V') :
  UW h μ h' μ' a.ids→iI P V' h' μ' a v:=by
 induction H with
 | undef=>exact fun _ => .undef
 | unk v=>exact fun _ => .unk v
 | d x v hd=>exact fun _ => .d x v (hd.mono hV)
 | agg cs vs hn hc hp ih=>exact fun K => .agg cs vs hn (fun i d v h1 h2=>ih i d v h1 h2 (fun x hx=>K x (qy h1 hx))) hp
 | tup cs vs hn hc ih=>exact fun K => .tup cs vs hn (fun i d v h1 h2=>ih i d v h1 h2 (fun x hx=>K x (qy h1 hx)))
 | tight xs a hd=>exact fun _ => .tight xs a (hd.mono hV)
 | ref i off len full sz l xs a c hi hf hv =>
  intro K;obtain ⟨b',hb',hle⟩:=K i (by simp [A.ids]) _ hi;cases b' with
  | arr sz' l' xs' =>
   obtain ⟨rfl,h1,h2⟩:=hle;exact .ref i off len full _ l' xs' a c hb' (by omega) (fun e=>by rw [h2 (by omega)];exact hv (by omega))
  | _=>exact hle.elim
 | rcap i off len full cap sz l xs a hi hf hv =>
  intro K;obtain ⟨b',hb',hle⟩:=K i (by simp [A.ids]) _ hi;cases b' with
  | arr sz' l' xs' =>
   obtain ⟨rfl,h1,h2⟩:=hle;exact .rcap i off len full cap _ l' xs' a hb' (by omega) (fun e=>by rw [h2 (by omega)];exact hv (by omega))
  | _=>exact hle.elim
 | bref i n cs hi =>
  intro K;obtain ⟨b',hb',hle⟩:=K i (by simp [A.ids]) _ hi;cases b' with
  | box cs'=>have:μ' i=μ i:=hle;rw [← this];exact .bref i n cs' hb'
  | _=>exact hle.elim
 | nref i len sz xs a c hi hf hv =>
  intro K;obtain ⟨b',hb',hle⟩:=K i (by simp [A.ids]) _ hi;cases b' with
  | nest sz' xs' =>
   obtain ⟨rfl,h1,h2⟩:=hle;exact .nref i len _ xs' a c hb' (by omega) (fun e=>by rw [h2 (by omega)];exact hv (by omega))
  | _=>exact hle.elim
 | nptr i ix off len sz xs a hi hf hv =>
  intro K;obtain ⟨b',hb',hle⟩:=K i (by simp [A.ids]) _ hi;cases b' with
  | nest sz' xs' =>
   obtain ⟨rfl,h1,h2⟩:=hle;exact .nptr i ix off len _ xs' a hb' (by omega) (fun e=>by rw [h2 (by omega)];exact hv (by omega))
  | _=>exact hle.elim
 | tref i g len sz g' xs a c hi hf hv =>
  intro K;obtain ⟨b',hb',hle⟩:=K i (by simp [A.ids]) _ hi;cases b' with
  | tail sz' g1 xs' =>
   obtain ⟨rfl,h1,h2⟩:=hle;refine .tref i g len _ g1 xs' a c hb' (by omega) (fun e=>?_);obtain ⟨rfl,h4⟩:=h2 (by omega);rw [h4];exact hv (by omega)
  | _=>exact hle.elim
 | tptr i g k sz g' xs a hi hf hv =>
  intro K;obtain ⟨b',hb',hle⟩:=K i (by simp [A.ids]) _ hi;cases b' with
  | tail sz' g1 xs' =>
   obtain ⟨rfl,h1,h2⟩:=hle;refine .tptr i g k _ g1 xs' a hb' (by omega) (fun e=>?_);obtain ⟨rfl,h4⟩:=h2 (by omega);rw [h4];exact hv (by omega)
  | _=>exact hle.elim
 | bptr i off cs hi =>
  intro K;obtain ⟨b',hb',hle⟩:=K i (by simp [A.ids]) _ hi;cases b' with
  | box cs'=>have:μ' i=μ i:=hle;rw [← this];exact .bptr i off cs' hb'
  | _=>exact hle.elim
 | eptr i ix off len sz l xs a hi hf hv =>
  intro K;obtain ⟨b',hb',hle⟩:=K i (by simp [A.ids]) _ hi;cases b' with
  | arr sz' l' xs' =>
   obtain ⟨rfl,h1,h2⟩:=hle;exact .eptr i ix off len _ l' xs' a hb' (by omega) (fun e=>by rw [h2 (by omega)];exact hv (by omega))
  | _=>exact hle.elim
 | pimm e off ev b o hd hv=>exact fun _ => .pimm e off ev b o (hd.mono hV) (fun j x hx=>hV.cell _ _ _ (hv j x hx))
 | mref i kt l es hi =>
  intro K;obtain ⟨b',hb',hle⟩:=K i (by simp [A.ids]) _ hi;cases b' with
  | map kt' l' es'=>have:μ' i=μ i:=hle;rw [← this];exact .mref i kt' l' es' hb'
  | _=>exact hle.elim
 | iter r=>exact fun _ => .iter r
 | clo f cs vs hn hc ih=>exact fun K => .clo f cs vs hn (fun i d v h1 h2=>ih i d v h1 h2 (fun x hx=>K x (qy h1 hx)))
def Qp (P:Program) (V:View) (sz:Nat) (xs:List D) (cells:Array Value):Prop :=
 ∃ ev:Nat→Value,∀ (i:Nat) d,xs[i]?=some d→jB P V d (ev i)∧(ev i).cells.size=sz∧∀ (j:Nat) v,(ev i).cells[j]?=some v→cells[i * sz+j]?=some v
def CU (P:Program) (V:View) (sz:Nat) (xs:List D) (cells:Array Value):Prop:=(∀ (k:Nat) v,cells[k]?=some v→Plain v)∧Qp P V sz xs cells
def I8 (P:Program) (V:View) (h:Id→Option Blk) (μ:Id→Pl) (w:World) (p:Pl):Blk→Prop
 | .arr sz xJ xs =>
  (p.nil=true∧xs=[]∧p.cap=0) ∨
  (p.nil=false∧xs.length≤p.cap∧(xJ=false→∀ c v,¬ V.cell p.blk c v)∧(∀ c v,V.cell p.blk c v→c < xs.length * sz) ∧
   ∃ cells elem,w.heap[p.blk]?=some (.cells cells elem (0,0))∧cells.size=p.cap * sz∧CU P V sz xs cells)
 | .box cs =>
  p.nil=false∧(∀ c v,¬ V.cell p.blk c v) ∧
   ∃ cells elem,w.heap[p.blk]?=some (.cells cells elem (0,0))∧cells.size=cs.length∧(∀ (i:Nat) a v,cs[i]?=some a→cells[i]?=some v→iI P V h μ a v∧Plain v)
 | .map kt xJ es =>
  p.nil=false∧(xJ=false→∀ e c,¬ V.map p.blk e c) ∧
   ∃ en,w.heap[p.blk]?=some (.map en es.length)∧en.size=es.length∧(∀ (i:Nat) e m,es[i]?=some e→en[i]?=some m→jB P V e.1 m.key∧jB P V e.2 m.val∧m.born=i) ∧
   (∀ e,e∈es→A7 P kt e.1=true)
 | .nest sz xs =>
  (p.nil=true∧xs=[]∧p.cap=0) ∨
  (p.nil=false∧xs.length≤p.cap∧(∀ c v,¬ V.cell p.blk c v) ∧
   ∃ cells elem,w.heap[p.blk]?=some (.cells cells elem (0,0))∧cells.size=p.cap * sz∧(∀ (k:Nat) v,cells[k]?=some v→Plain v) ∧
    ∀ (i:Nat) e,xs[i]?=some e→e.length=sz∧∀ (k:Nat) a v,e[k]?=some a→cells[i * sz+k]?=some v→iI P V h μ a v)
 | .fam _=>False
 | .gap=>p.nil=true
 | .tail sz _ xs =>
  (p.nil=true∧xs=[]∧p.cap=0) ∨
  (p.nil=false∧xs.length≤p.cap∧(∀ c v,¬ V.cell p.blk c v) ∧
   ∃ cells elem,w.heap[p.blk]?=some (.cells cells elem (0,0))∧cells.size=(p.off+p.cap) * sz∧(∀ (k:Nat) v,cells[k]?=some v→Plain v) ∧
    ∃ ev:Nat→Value,∀ (i:Nat) d,xs[i]?=some d→jB P V d (ev i)∧(ev i).cells.size=sz∧∀ (j:Nat) v,(ev i).cells[j]?=some v→cells[(p.off+i) * sz+j]?=some v)
def Tidy (h:Id→Option Blk):Prop:=∀ i b,h i=some b→∀ j∈b.ids,j.d≤i.d
theorem Tidy.box {h:Id→Option Blk} (T:Tidy h) {i:Id} {cs:List A} (hi:h i=some (.box cs)):∀ j∈A.lT cs,j.d≤i.d:=T i _ hi
structure Inv (P:Program) (V:View) (h:Id→Option Blk) (μ:Id→Pl) (w:World):Prop where
 blk:∀ i b,h i=some b→I8 P V h μ w (μ i) b
 apart:∀ i j b b',h i=some b→h j=some b'→i≠j→(μ i).nil=false→(μ j).nil=false→(μ i).blk≠(μ j).blk
 cell:∀ b c v,V.cell b c v→w.cell? ⟨b,c,none⟩=some v
 map:∀ r e c,V.map r e c→w.heap[r]?=some (.map e c)
 tidy:Tidy h
def oq (h:Id→Option Blk) (μ:Id→Pl) (b:Nat):Prop:=∃ i x,h i=some x∧(μ i).nil=false∧(μ i).blk=b
structure Evo (V:View) (h:Id→Option Blk) (μ:Id→Pl) (w:World) (V':View) (h':Id→Option Blk) (μ':Id→Pl) (w':World):Prop where
 os:w'.os=w.os
 tape:w'.tape=w.tape
 output:w'.output=w.output
 size:w.heap.size≤w'.heap.size
 rest:∀ b,b < w.heap.size→¬ oq h μ b→w'.heap[b]?=w.heap[b]?
 view:V.Le V'
 newc:∀ b c v,V'.cell b c v→V.cell b c v∨oq h μ b∨w.heap.size≤b
 newm:∀ r e c,V'.map r e c→V.map r e c∨oq h μ r∨w.heap.size≤r
 place:∀ i b,h' i=some b→(μ' i).nil=false→(∃ b0,h i=some b0∧(μ i).nil=false∧(μ i).blk=(μ' i).blk)∨w.heap.size≤(μ' i).blk
 keep:∀ i b,h i=some b→∃ b',h' i=some b'∧qo b (μ i) b' (μ' i)
theorem Evo.own {V V':View} {h h':Id→Option Blk} {μ μ':Id→Pl} {w w':World} (E:Evo V h μ w V' h' μ' w'):∀ b,oq h' μ' b→oq h μ b∨w.heap.size≤b:=by
 rintro b ⟨i,x,hx,hn,rfl⟩
 rcases E.place i x hx hn with ⟨b0,h1,h2,h3⟩ | h1
 ·exact .inl ⟨i,b0,h1,h2,h3⟩
 ·exact .inr h1
theorem Evo.refl (V:View) (h:Id→Option Blk) (μ:Id→Pl) (w:World):Evo V h μ w V h μ w :=
 ⟨rfl,rfl,rfl,bu _,fun _ _ _=>rfl, .refl V,fun _ _ _ h => .inl h,fun _ _ _ h => .inl h,fun i b hb hn => .inl ⟨b,hb,hn,rfl⟩,fun i b hb=>⟨b,hb, .refl _ _⟩⟩
theorem Evo.trans {V V' V'':View} {h h' h'':Id→Option Blk} {μ μ' μ'':Id→Pl} {w w' w'':World} (a:Evo V h μ w V' h' μ' w') (b:Evo V' h' μ' w' V'' h'' μ'' w'') :
  Evo V h μ w V'' h'' μ'' w'' where
 os:=b.os.trans a.os
 tape:=b.tape.trans a.tape
 output:=b.output.trans a.output
 size:=Nat.le_trans a.size b.size
 rest x hx ho:=by
  rw [b.rest x (Nat.lt_of_lt_of_le hx a.size) (fun h1=>(a.own x h1).elim ho (fun h2=>by omega)),a.rest x hx ho]
 view:=a.view.trans b.view
 newc x c v hv:=by
  rcases b.newc x c v hv with h1 | h1 | h1
  ·exact a.newc x c v h1
  ·exact .inr (a.own x h1)
  ·exact .inr (.inr (Nat.le_trans a.size h1))
 newm x c v hv:=by
  rcases b.newm x c v hv with h1 | h1 | h1
  ·exact a.newm x c v h1
  ·exact .inr (a.own x h1)
  ·exact .inr (.inr (Nat.le_trans a.size h1))
 place i x hx hn:=by
  rcases b.place i x hx hn with ⟨b0,h1,h2,h3⟩ | h1
  ·rcases a.place i b0 h1 h2 with ⟨b1,k1,k2,k3⟩ | k1
   ·exact .inl ⟨b1,k1,k2,k3.trans h3⟩
   ·exact .inr (by rw [← h3];exact k1)
  ·exact .inr (Nat.le_trans a.size h1)
 keep i x hx:=by
  obtain ⟨y,hy,l1⟩:=a.keep i x hx;obtain ⟨z,hz,l2⟩:=b.keep i y hy;exact ⟨z,hz,l1.trans l2⟩
theorem Evo.zI {P:Program} {V V':View} {h h':Id→Option Blk} {μ μ':Id→Pl} {w w':World} (e:Evo V h μ w V' h' μ' w') {a:A} {v:Value} (H:iI P V h μ a v) :
  iI P V' h' μ' a v:=H.mono e.view (fun i _ b hb=>e.keep i b hb)
end Go.Lx
namespace Go.Lx
def upd (h:Id→Option Blk) (i:Id) (b:Blk):Id→Option Blk:=fun j=>if j=i then some b else h j
def yG (μ:Id→Pl) (i:Id) (p:Pl):Id→Pl:=fun j=>if j=i then p else μ j
theorem upd_same (h:Id→Option Blk) (i:Id) (b:Blk):upd h i b i=some b:=by simp [upd]
theorem upd_ne (h:Id→Option Blk) {i j:Id} (b:Blk) (e:j≠i):upd h i b j=h j:=by simp [upd,e]
theorem fP (μ:Id→Pl) (i:Id) (p:Pl):yG μ i p i=p:=by simp [yG]
theorem iW (μ:Id→Pl) {i j:Id} (p:Pl) (e:j≠i):yG μ i p j=μ j:=by simp [yG,e]
def Blk.one:Blk→Bool
 | .fam _=>false
 | _=>true
theorem rZ {x:Blk} (hx:x.one=true) (m n:Nat):x.view m n=if n=m then some x else none:=by
 cases x<;>first | rfl | cases hx
theorem J9 {x:Blk} {m n:Nat} (h:(x.view m n).isSome=true) {y:Blk} (hy:y.one=true) (k:Nat):(x.into n y).view m k=if k=n then some y else x.view m k:=by
 cases hx:x.one with
 | true =>
  have e:x.into n y=y:=by cases x<;>first | rfl | cases hx
  rw [e,rZ hy,rZ hx];rw [rZ hx] at h;by_cases q:n=m
  ·subst q;by_cases r:k=n<;>simp [r]
  ·rw [if_neg q] at h;cases h
 | false =>
  cases x with
  | fam rows =>
   simp only [Blk.into,Blk.view] at h ⊢;have hl:n < rows.length:=by
    cases hq:rows[n]? with
    | none=>rw [hq] at h;cases h
    | some z=>exact (aC.1 hq).1
   by_cases r:k=n
   ·subst r;rw [List.getElem?_set_self hl,if_pos rfl]
   ·rw [List.getElem?_set_ne (fun e=>r e.symm),if_neg r]
  | _=>cases hx
theorem JA {x z:Blk} {m n:Nat} (hv:x.view m n=some z):x.into n z=x:=by
 cases x with
 | fam rows =>
  simp only [Blk.view] at hv;simp only [Blk.into];obtain ⟨h1,h2⟩:=aC.1 hv;subst h2;rw [List.set_getElem_self]
 | _ =>
  simp only [Blk.view] at hv;split at hv
  ·cases hv;rfl
  ·cases hv
theorem O5 {x y z:Blk} {n:Nat} (hy:y.one=true):(x.into n y).into n z=x.into n z:=by
 cases x with
 | fam rows=>simp only [Blk.into,List.set_set]
 | _=>simp only [Blk.into];cases y<;>first | rfl | cases hy
theorem ji {a m:Nat} {x y:Blk} {rest:Loc} {n:Nat} (h:x.view m n=some y):bV (((a,m),x)::rest) a n=some y:=by
 simp only [bV,aS,h]
theorem iG {a m:Nat} {x:Blk} {rest:Loc} {n:Nat} (h:x.view m n=none):bV (((a,m),x)::rest) a n=bV rest a n:=by
 simp only [bV,aS,h]
theorem jD {a m t:Nat} {x:Blk} {rest:Loc} {n:Nat} (h:¬ t=a):bV (((a,m),x)::rest) t n=bV rest t n:=by
 simp only [bV,if_neg h]
theorem yF {a m:Nat} {x y z:Blk} {rest:Loc} {n:Nat} (h:x.view m n=some y):setB (((a,m),x)::rest) a n z=((a,m),x.into n z)::rest:=by
 simp only [setB,aS,h]
theorem xG {a m:Nat} {x z:Blk} {rest:Loc} {n:Nat} (h:x.view m n=none):setB (((a,m),x)::rest) a n z=((a,m),x)::setB rest a n z:=by
 simp only [setB,aS,h]
theorem DI {a m t:Nat} {x z:Blk} {rest:Loc} {n:Nat} (h:¬ t=a):setB (((a,m),x)::rest) t n z=((a,m),x)::setB rest t n z:=by
 simp only [setB,if_neg h]
theorem lq {a m:Nat} {x:Blk} {rest:Loc} (hx:x.one=true) (t n:Nat):bV (((a,m),x)::rest) t n=if t=a then (if n=m then some x else bV rest t n) else bV rest t n:=by
 by_cases e:t=a
 ·subst e;by_cases q:n=m
  ·rw [ji (y:=x) (by rw [rZ hx,if_pos q]),if_pos rfl,if_pos q]
  ·rw [iG (by rw [rZ hx,if_neg q]),if_pos rfl,if_neg q]
 ·rw [jD e,if_neg e]
theorem zL (l:Loc) (t n:Nat) (b:Blk) (t' n':Nat) (h:(bV l t n).isSome=true) (hb:b.one=true) :
  bV (setB l t n b) t' n'=if t'=t∧n'=n then some b else bV l t' n':=by
 induction l with
 | nil=>simp [bV] at h
 | cons x rest ih =>
  obtain ⟨⟨a,m⟩,y⟩:=x;by_cases e1:t=a
  ·subst e1;cases hv:y.view m n with
   | some z =>
    rw [yF hv];by_cases e3:t'=t
    ·subst e3;have hw:=J9 (by rw [hv];rfl) hb n';by_cases e4:n'=n
     ·subst e4;rw [if_pos rfl] at hw;rw [ji hw,if_pos ⟨rfl,rfl⟩]
     ·rw [if_neg e4] at hw;rw [if_neg (fun q=>e4 q.2)];cases hz:y.view m n' with
      | some u=>rw [ji (hw.trans hz),ji hz]
      | none=>rw [iG (hw.trans hz),iG hz]
    ·rw [jD e3,jD e3,if_neg (fun q=>e3 q.1)]
   | none =>
    rw [iG hv] at h;have:=ih h;rw [xG hv];by_cases e3:t'=t
    ·subst e3;cases hz:y.view m n' with
     | some u =>
      rw [ji hz,ji hz,if_neg]
      rintro ⟨_,rfl⟩
      rw [hv] at hz;cases hz
     | none=>rw [iG hz,iG hz,this]
    ·rw [jD e3,jD e3,this]
  ·rw [jD e1] at h;have:=ih h;rw [DI e1];by_cases e3:t'=a
   ·subst e3;have e5:¬ (t'=t∧n'=n):=fun q=>e1 q.1.symm
    rw [if_neg e5] at this ⊢;cases hz:y.view m n' with
    | some u=>rw [ji hz,ji hz]
    | none=>rw [iG hz,iG hz,this]
   ·rw [jD e3,jD e3,this]
theorem Hf (l:Loc) (t:Nat):∀ n,nU l t≤n→bV l t n=none:=by
 induction l with
 | nil=>intro n _;rfl
 | cons x rest ih =>
  obtain ⟨⟨a,m⟩,y⟩:=x;intro n hn;simp only [nU] at hn;by_cases e:t=a
  ·subst e;simp only [aS] at hn;have h1:y.view m n=none:=by
    cases y with
    | fam rows=>simp only [Blk.view];exact kW (by simp only at hn;omega)
    | _=>simp only [Blk.view];rw [if_neg];simp only at hn;omega
   rw [iG h1];exact ih n (by omega)
  ·simp only [if_neg e] at hn;rw [jD e];exact ih n hn
theorem uj:∀ (out:Out) (cs:List (Option Loc)),(jP out cs).length=out.length
 | _,[]=>by simp [jP]
 | [],_::_=>rfl
 | _::out,_::cs=>by simp [jP,uj out cs]
theorem CX:∀ (out:Out) (cs:List (Option Loc)) (n:Nat) (l:Loc),n < out.length→∀ m,(jP out (Oa cs n l))[m]?=if m=n then some l else (jP out cs)[m]?
 | [],_,_,_,h,_=>by simp at h
 | x::out,[],0,l,_,m=>by cases m<;>simp [Oa,jP]
 | x::out,[],n+1,l,h,m=>by
  cases m with
  | zero=>simp [Oa,jP]
  | succ m =>
   have:=CX out [] n l (by simpa using h) m;simp only [Oa,jP,List.getElem?_cons_succ,this];simp [jP]
 | x::out,c::cs,0,l,_,m=>by cases m<;>simp [Oa,jP]
 | x::out,c::cs,n+1,l,h,m=>by
  cases m with
  | zero=>simp [Oa,jP]
  | succ m =>
   have:=CX out cs n l (by simpa using h) m;simp only [Oa,jP,List.getElem?_cons_succ,this];simp
theorem S.nH {s:S} {i:Id} {b0:Blk} (h:s.get i=some b0) (b:Blk) (hone:b.one=true:=by rfl):(s.set i b).get=upd s.get i b∧(s.set i b).out=s.out:=by
 by_cases e:i.d=s.dep
 ·have h':(bV s.loc i.t i.n).isSome=true:=by
   unfold S.get at h;rw [if_pos e] at h;rw [h];rfl
  have hs:s.set i b={ s with loc:=setB s.loc i.t i.n b }:=by unfold S.set;rw [if_pos e]
  rw [hs];refine ⟨funext fun j=>?_,rfl⟩;unfold upd;by_cases ej:j.d=s.dep
  ·have:S.get { s with loc:=setB s.loc i.t i.n b } j=bV (setB s.loc i.t i.n b) j.t j.n:=by
    unfold S.get;exact if_pos ej
   rw [this,zL _ _ _ _ _ _ h' hone];have h2:s.get j=bV s.loc j.t j.n:=by unfold S.get;exact if_pos ej
   by_cases e2:j=i
   ·subst e2;simp
   ·have:¬ (j.t=i.t∧j.n=i.n):=by
     rintro ⟨h3,h4⟩
     apply e2;cases i;cases j;simp_all
    rw [if_neg this,if_neg e2,h2]
  ·have e2:j≠i:=fun h=>ej (h ▸ e)
   rw [if_neg e2];unfold S.get;have:¬ (j.d=({ s with loc:=setB s.loc i.t i.n b }:S).dep):=ej;rw [if_neg this,if_neg ej];rfl
 ·have hlt:i.d < s.dep:=by
   unfold S.get at h;rw [if_neg e] at h;by_cases hl:i.d < s.dep
   ·exact hl
   ·rw [if_neg hl] at h;cases h
  have hg:(s.cur[s.dep - 1 - i.d]?).bind (fun l=>bV l i.t i.n)=some b0:=by
   unfold S.get at h;rw [if_neg e,if_pos hlt] at h;exact h
  cases hl0:s.cur[s.dep - 1 - i.d]? with
  | none=>rw [hl0] at hg;cases hg
  | some l0 =>
   rw [hl0] at hg;have hg':bV l0 i.t i.n=some b0:=hg;have hset:s.set i b={ s with chg:=Oa s.chg (s.dep - 1 - i.d) (setB l0 i.t i.n b) }:=by unfold S.set;rw [if_neg e,hl0]
   have hdep:(s.set i b).dep=s.dep:=by rw [hset];rfl
   have hcur:∀ m,(s.set i b).cur[m]?=if m=s.dep - 1 - i.d then some (setB l0 i.t i.n b) else s.cur[m]?:=by
    intro m;rw [hset];exact CX s.out s.chg _ _ (by unfold S.dep at hlt ⊢;omega) m
   refine ⟨funext fun j=>?_,by rw [hset]⟩;unfold upd;by_cases ej:j.d=s.dep
   ·have e2:j≠i:=fun h=>e (h ▸ ej)
    rw [if_neg e2];unfold S.get;rw [hdep,if_pos ej,if_pos ej,hset]
   ·by_cases hl:j.d < s.dep
    ·have h1:(s.set i b).get j=((s.set i b).cur[s.dep - 1 - j.d]?).bind (fun l=>bV l j.t j.n):=by
      unfold S.get;rw [hdep,if_neg ej,if_pos hl]
     have h2:s.get j=(s.cur[s.dep - 1 - j.d]?).bind (fun l=>bV l j.t j.n):=by
      unfold S.get;rw [if_neg ej,if_pos hl]
     rw [h1,h2,hcur];by_cases ed:s.dep - 1 - j.d=s.dep - 1 - i.d
     ·rw [if_pos ed,ed,hl0];simp only [ag];rw [zL l0 i.t i.n b j.t j.n (by rw [hg'];rfl) hone];by_cases e2:j=i
      ·subst e2;simp
      ·have hd:i.d=j.d:=by omega
       have:¬ (j.t=i.t∧j.n=i.n):=by
        rintro ⟨h3,h4⟩
        apply e2;cases i;cases j;simp_all
       rw [if_neg this,if_neg e2]
     ·have e2:j≠i:=fun h=>ed (by rw [h])
      rw [if_neg ed,if_neg e2]
    ·have e2:j≠i:=fun h=>hl (h ▸ hlt)
     rw [if_neg e2];unfold S.get;rw [hdep,if_neg ej,if_neg hl,if_neg ej,if_neg hl]
theorem S.Fb (s:S) (t:Nat) (b:Blk) (hone:b.one=true:=by rfl):(s.plus [((t,nU s.loc t),b)]).get=upd s.get (s.fresh t) b∧s.get (s.fresh t)=none:=by
 constructor
 ·funext j
  unfold upd;have hd:(s.plus [((t,nU s.loc t),b)]).dep=s.dep:=rfl;by_cases ej:j.d=s.dep
  ·have h1:(s.plus [((t,nU s.loc t),b)]).get j=bV (((t,nU s.loc t),b)::s.loc) j.t j.n:=by
    unfold S.get;rw [hd,if_pos ej];rfl
   have h2:s.get j=bV s.loc j.t j.n:=by unfold S.get;exact if_pos ej
   rw [h1,h2];rw [lq hone];by_cases e2:j=s.fresh t
   ·subst e2;simp [S.fresh]
   ·rw [if_neg e2];by_cases e3:j.t=t
    ·by_cases e4:j.n=nU s.loc t
     ·exact absurd (by cases j;simp_all [S.fresh]) e2
     ·rw [if_pos e3,if_neg e4]
    ·rw [if_neg e3]
  ·have e2:j≠s.fresh t:=fun h=>ej (by rw [h];rfl)
   rw [if_neg e2];unfold S.get;rw [hd,if_neg ej,if_neg ej];rfl
 ·unfold S.get;rw [if_pos (show (s.fresh t).d=s.dep from rfl)];exact Hf _ _ _ (bu _)
theorem zT {h:Id→Option Blk} (T:Tidy h) {i:Id} {b:Blk} (hb:∀ j∈b.ids,j.d≤i.d:=by intro _ q;cases q):Tidy (upd h i b):=by
 intro k cs hk;by_cases e:k=i
 ·subst e;rw [upd_same] at hk;cases hk;exact hb
 ·rw [upd_ne _ _ e] at hk;exact T k cs hk
theorem uO {P:Program} {V:View} {h:Id→Option Blk} {μ:Id→Pl} {a:A} {v:Value} (H:iI P V h μ a v):∀ j∈a.ids,∃ b,h j=some b:=by
 have lT:∀ (cs:List A) j,j∈A.lT cs→∃ (i:Nat) (a:A),cs[i]?=some a∧j∈a.ids:=by
  intro cs
  induction cs with
  | nil=>intro j hj;simp [A.lT] at hj
  | cons x rest ih =>
   intro j hj;simp only [A.lT,aU] at hj;rcases hj with q | q
   ·exact ⟨0,x,rfl,q⟩
   ·obtain ⟨i,a,h1,h2⟩:=ih j q;exact ⟨i+1,a,by simpa using h1,h2⟩
 have arr:∀ (cs:List A) (vs:Array Value),vs.size=cs.length→(∀ (i:Nat) (d:A) (v:Value),cs[i]?=some d→vs[i]?=some v→∀ j∈d.ids,∃ b,h j=some b)→∀ j∈A.lT cs,∃ b,h j=some b:=by
  intro cs vs hn ih j hj;obtain ⟨i,a,h1,h2⟩:=lT cs j hj;have hl:i < vs.size:=by rw [hn];exact (aC.1 h1).1
  exact ih i a vs[i] h1 (bI hl) j h2
 induction H with
 | agg cs vs hn hc hp ih=>exact arr cs vs hn ih
 | tup cs vs hn hc ih=>exact arr cs vs hn ih
 | clo f cs vs hn hc ih=>exact arr cs vs hn ih
 | ref i off len full sz l xs a c hi hf hv=>intro j hj;simp [A.ids] at hj;subst hj;exact ⟨_,hi⟩
 | rcap i off len full cap sz l xs a hi hf hv=>intro j hj;simp [A.ids] at hj;subst hj;exact ⟨_,hi⟩
 | bptr i off cs hi=>intro j hj;simp [A.ids] at hj;subst hj;exact ⟨_,hi⟩
 | bref i n cs hi=>intro j hj;simp [A.ids] at hj;subst hj;exact ⟨_,hi⟩
 | eptr i ix off len sz l xs a hi hf hv=>intro j hj;simp [A.ids] at hj;subst hj;exact ⟨_,hi⟩
 | nref i len sz xs a c hi hf hv=>intro j hj;simp [A.ids] at hj;subst hj;exact ⟨_,hi⟩
 | nptr i ix off len sz xs a hi hf hv=>intro j hj;simp [A.ids] at hj;subst hj;exact ⟨_,hi⟩
 | tref i g len sz g' xs a c hi hf hv=>intro j hj;simp [A.ids] at hj;subst hj;exact ⟨_,hi⟩
 | tptr i g k sz g' xs a hi hf hv=>intro j hj;simp [A.ids] at hj;subst hj;exact ⟨_,hi⟩
 | mref i kt l es hi=>intro j hj;simp [A.ids] at hj;subst hj;exact ⟨_,hi⟩
 | _=>intro j hj;simp [A.ids] at hj
theorem S.uN {s:S} {i:Id} {b:Blk} (h:s.get i=some b):i.d≤s.dep:=by
 unfold S.get at h;split at h
 ·omega
 ·split at h
  ·omega
  ·cases h
theorem Inv.frame {P:Program} {V V':View} {h:Id→Option Blk} {μ:Id→Pl} {w w':World} (I:Inv P V h μ w)
  (hw:∀ b,oq h μ b→w'.heap[b]?=w.heap[b]?) (hV:V.Le V') (hc:∀ b c v,V'.cell b c v→oq h μ b→V.cell b c v)
  (hm:∀ r e c,V'.map r e c→oq h μ r→V.map r e c) (sc:∀ b c v,V'.cell b c v→w'.cell? ⟨b,c,none⟩=some v)
  (sm:∀ r e c,V'.map r e c→w'.heap[r]?=some (.map e c)):Inv P V' h μ w' where
 apart:=I.apart
 cell:=sc
 map:=sm
 tidy:=I.tidy
 blk i b hb:=by
  have B:=I.blk i b hb;cases b with
  | arr sz xJ xs =>
   rcases B with B | ⟨h1,h2,h3,h4,cells,elem,h5,h6,hpl,ev,h7⟩
   ·exact .inl B
   ·have ho:oq h μ (μ i).blk:=⟨i,_,hb,h1,rfl⟩
    exact .inr ⟨h1,h2,fun e c v x=>h3 e c v (hc _ _ _ x ho),fun c v x=>h4 c v (hc _ _ _ x ho),cells,elem,(hw _ ho).trans h5,h6,
     hpl,ev,fun i d hd=>⟨(h7 i d hd).1.mono hV,(h7 i d hd).2⟩⟩
  | box cs =>
   obtain ⟨h1,h3,cells,elem,h5,h6,h7⟩:=B;have ho:oq h μ (μ i).blk:=⟨i,_,hb,h1,rfl⟩
   exact ⟨h1,fun c v x=>h3 c v (hc _ _ _ x ho),cells,elem,(hw _ ho).trans h5,h6,fun i a v ha hv=>⟨(h7 i a v ha hv).1.mono hV (fun i _ b hb=>⟨b,hb, .refl _ _⟩),(h7 i a v ha hv).2⟩⟩
  | map kt xJ es =>
   obtain ⟨h1,h3,en,h5,h6,h7,h8⟩:=B;have ho:oq h μ (μ i).blk:=⟨i,_,hb,h1,rfl⟩
   exact ⟨h1,fun e x c v=>h3 e x c (hm _ _ _ v ho),en,(hw _ ho).trans h5,h6,fun i e m he hv=>⟨(h7 i e m he hv).1.mono hV,(h7 i e m he hv).2.1.mono hV,(h7 i e m he hv).2.2⟩,h8⟩
  | nest sz xs =>
   rcases B with B | ⟨h1,h2,h3,cells,elem,h5,h6,hpl,h7⟩
   ·exact .inl B
   ·have ho:oq h μ (μ i).blk:=⟨i,_,hb,h1,rfl⟩
    exact .inr ⟨h1,h2,fun c v x=>h3 c v (hc _ _ _ x ho),cells,elem,(hw _ ho).trans h5,h6,hpl,fun k e he=>⟨(h7 k e he).1,fun q a v ha hv=>((h7 k e he).2 q a v ha hv).mono hV (fun i _ b hb=>⟨b,hb, .refl _ _⟩)⟩⟩
  | fam _=>exact B.elim
  | gap=>exact B
  | tail sz g xs =>
   rcases B with B | ⟨h1,h2,h3,cells,elem,h5,h6,hpl,ev,h7⟩
   ·exact .inl B
   ·have ho:oq h μ (μ i).blk:=⟨i,_,hb,h1,rfl⟩
    exact .inr ⟨h1,h2,fun c v x=>h3 c v (hc _ _ _ x ho),cells,elem,(hw _ ho).trans h5,h6,hpl,ev,fun k e he=>⟨(h7 k e he).1.mono hV,(h7 k e he).2⟩⟩
theorem oq.lt {P:Program} {V:View} {h:Id→Option Blk} {μ:Id→Pl} {w:World} (I:Inv P V h μ w) {b:Nat} (ho:oq h μ b):b < w.heap.size:=by
 obtain ⟨i,x,hx,hn,rfl⟩:=ho;have B:=I.blk i x hx;have key:∀ o,w.heap[(μ i).blk]?=some o→(μ i).blk < w.heap.size:=fun o ho=>(aO.1 ho).1
 cases x with
 | arr sz xJ xs =>
  rcases B with B | ⟨_,_,_,_,cells,elem,h5,_⟩
  ·rw [hn] at B;cases B.1
  ·exact key _ h5
 | box cs=>obtain ⟨_,_,cells,elem,h5,_⟩:=B;exact key _ h5
 | map kt xJ es=>obtain ⟨_,_,en,h5,_⟩:=B;exact key _ h5
 | nest sz xs =>
  rcases B with B | ⟨_,_,_,cells,elem,h5,_⟩
  ·rw [hn] at B;cases B.1
  ·exact key _ h5
 | fam _=>exact B.elim
 | gap=>exact absurd (hn.symm.trans B) (by simp)
 | tail sz g xs =>
  rcases B with B | ⟨_,_,_,cells,elem,h5,_⟩
  ·rw [hn] at B;cases B.1
  ·exact key _ h5
theorem I8.mono {P:Program} {V:View} {h h':Id→Option Blk} {μ μ':Id→Pl} {w:World} {p:Pl} {b:Blk} (B:I8 P V h μ w p b)
  (K:∀ i b,h i=some b→∃ b',h' i=some b'∧qo b (μ i) b' (μ' i)):I8 P V h' μ' w p b:=by
 cases b with
 | box cs =>
  obtain ⟨h1,h3,cells,elem,h5,h6,h7⟩:=B;exact ⟨h1,h3,cells,elem,h5,h6,fun i a v ha hv=>⟨(h7 i a v ha hv).1.mono (.refl V) (fun i _ b hb=>K i b hb),(h7 i a v ha hv).2⟩⟩
 | nest sz xs =>
  rcases B with B | ⟨h1,h2,h3,cells,elem,h5,h6,hpl,h7⟩
  ·exact .inl B
  ·exact .inr ⟨h1,h2,h3,cells,elem,h5,h6,hpl,fun k e he=>⟨(h7 k e he).1,fun q a v ha hv=>((h7 k e he).2 q a v ha hv).mono (.refl V) (fun i _ b hb=>K i b hb)⟩⟩
 | arr _ _ _=>exact B
 | map _ _ _=>exact B
 | fam _=>exact B.elim
 | gap=>exact B
 | tail _ _ _=>exact B
theorem Inv.lay {P:Program} {V:View} {h:Id→Option Blk} {μ:Id→Pl} {w w':World} (I:Inv P V h μ w) {i:Id} (hi:h i=none) (b:Blk) (p:Pl)
  (hold:∀ k,k < w.heap.size→w'.heap[k]?=w.heap[k]?) (hos:w'.os=w.os) (htp:w'.tape=w.tape) (hout:w'.output=w.output) (hsz:w.heap.size≤w'.heap.size)
  (hp:p.nil=false→w.heap.size≤p.blk) (hb:I8 P V (upd h i b) (yG μ i p) w' p b) (ht:∀ j∈b.ids,j.d≤i.d:=by intro _ q;cases q) :
  Inv P V (upd h i b) (yG μ i p) w'∧Evo V h μ w V (upd h i b) (yG μ i p) w':=by
 have K:∀ j x,h j=some x→∃ x',upd h i b j=some x'∧qo x (μ j) x' (yG μ i p j):=by
  intro j x hx;have e:j≠i:=fun e=>by rw [e,hi] at hx;cases hx
  exact ⟨x,by rw [upd_ne _ _ e];exact hx,by rw [iW _ _ e];exact .refl _ _⟩
 have cellOld:∀ b c v,V.cell b c v→w'.cell? ⟨b,c,none⟩=some v:=by
  intro b c v hv;have h1:=I.cell b c v hv;have h2:b < w.heap.size:=World.block_lt_of_cell? w _ h1;rw [← h1];unfold World.cell?;simp only [hold b h2]
 have mapOld:∀ r e c,V.map r e c→w'.heap[r]?=some (.map e c):=by
  intro r e c hv;have h1:=I.map r e c hv;rw [hold r (aO.1 h1).1,h1]
 have I':Inv P V h μ w':=I.frame (fun k ho=>hold k (ho.lt I)) (.refl V) (fun _ _ _ x _=>x) (fun _ _ _ x _=>x) cellOld mapOld;refine ⟨⟨?_,?_,cellOld,mapOld,zT I.tidy ht⟩,hos,htp,hout,hsz,fun k hk _=>hold k hk, .refl V,fun _ _ _ x => .inl x,fun _ _ _ x => .inl x,?_,K⟩
 ·intro j x hx;by_cases e:j=i
  ·subst e;rw [upd_same] at hx;cases hx;rw [fP];exact hb
  ·rw [upd_ne _ _ e] at hx;rw [iW _ _ e];exact (I'.blk j x hx).mono K
 ·intro j k x y hx hy hne n1 n2;by_cases e1:j=i
  ·subst e1;have e2:k≠j:=fun e=>hne e.symm
   rw [fP] at n1;rw [upd_ne _ _ e2] at hy;rw [iW _ _ e2] at n2;rw [fP,iW _ _ e2];have:(μ k).blk < w.heap.size:=oq.lt I ⟨k,y,hy,n2,rfl⟩;have:=hp n1;omega
  ·rw [upd_ne _ _ e1] at hx;rw [iW _ _ e1] at n1;rw [iW _ _ e1];by_cases e2:k=i
   ·subst e2;rw [fP] at n2;rw [fP];have:(μ j).blk < w.heap.size:=oq.lt I ⟨j,x,hx,n1,rfl⟩;have:=hp n2;omega
   ·rw [upd_ne _ _ e2] at hy;rw [iW _ _ e2] at n2;rw [iW _ _ e2];exact I.apart j k x y hx hy hne n1 n2
 ·intro j x hx n1;by_cases e:j=i
  ·subst e;rw [fP] at n1;rw [fP];exact .inr (hp n1)
  ·rw [upd_ne _ _ e] at hx;rw [iW _ _ e] at n1;rw [iW _ _ e];exact .inl ⟨x,hx,n1,rfl⟩
end Go.Lx
namespace Go.Lx
section
variable {P:Program}
theorem F5 {t:TypeId} {n:Nat} (h:lQ P t=some n):∃ d,P.underlying t=some d:=by
 unfold lQ at h;cases hu:P.underlying t with
 | none=>rw [hu] at h;cases h
 | some d=>exact ⟨d,rfl⟩
theorem iP {t:TypeId} {n:Nat} (h:lQ P t=some n) (w:World):(sizeOf t).run P w = .ok n w:=by
 obtain ⟨d,hd⟩:=F5 h;unfold lQ at h;rw [hd] at h;cases hi:P.info? t with
 | none=>rw [hi] at h;cases h
 | some i=>rw [hi] at h;cases h;simp [sizeOf,typeInfo,hi]
theorem zS {t:TypeId} {n:Nat} (h:Jk P t=some n):∃ i,P.info? t=some i∧i.bytes=n:=by
 unfold Jk at h;cases hi:P.info? t with
 | none=>rw [hi] at h;cases h
 | some i=>rw [hi] at h;cases h;exact ⟨i,rfl,rfl⟩
theorem cO {t:TypeId} {d:TypeDesc} (h:P.underlying t=some d) (w:World):(underlying t).run P w = .ok d w:=run_underlying h w
theorem vk {t:TypeId} {n:Nat} (h:lQ P t=some n) (w:World):(isAgg t).run P w = .ok (qi P t) w:=by
 obtain ⟨d,hd⟩:=F5 h;unfold isAgg qi;simp only [Sem.run_bind,cO hd,Result.andThen_ok,hd];cases d<;>rfl
theorem Dw {v:Value} {x:D} (h:FI v=some x) (V:View):jB P V x v∧Plain v:=by
 unfold FI at h;split at h
 all_goals first | (cases h;exact ⟨by constructor,trivial⟩) | cases h | skip
 ·split at h
  ·rename_i f first captured hc
   cases h;obtain ⟨h1,h2⟩:=hc;have e1:first=#[]:=fQ h1
   have e2:captured=#[]:=fQ h2;subst e1 e2;exact ⟨.fn _,trivial⟩
  ·cases h
theorem QY {α β:Type} {f:α→Option β} {l:List α} {r:List β} (h:l.mapM f=some r):r.length=l.length∧∀ (i:Nat) x y,l[i]?=some x→r[i]?=some y→f x=some y:=by
 induction l generalizing r with
 | nil=>simp at h;subst h;simp
 | cons a rest ih =>
  rw [List.mapM_cons] at h;cases ha:f a with
  | none=>rw [ha] at h;cases h
  | some b =>
   rw [ha] at h;cases hr:rest.mapM f with
   | none=>rw [hr] at h;cases h
   | some r' =>
    rw [hr] at h;cases h;obtain ⟨h1,h2⟩:=ih hr;refine ⟨by simp [h1],?_⟩;intro i x y hx hy;cases i with
    | zero=>simp at hx hy;subst hx hy;exact ha
    | succ i=>exact h2 i x y (by simpa using hx) (by simpa using hy)
theorem yz {v:Value} {x:D} (h:ofValue v=some x) (V:View):jB P V x v:=by
 unfold ofValue at h;split at h
 ·rename_i cs
  cases hm:cs.toList.mapM FI with
  | none=>rw [hm] at h;cases h
  | some ds =>
   rw [hm] at h;cases h;obtain ⟨h1,h2⟩:=QY hm;refine .agg ds cs (by rw [h1];simp) ?_ ?_
   ·intro i d v hd hv;exact (Dw (h2 i v d (by simpa using hv) hd) V).1
   ·intro i v hv;have hlt:i < ds.length:=by
     rw [h1];have:=(aO.1 hv).1;simpa using this
    exact (Dw (P:=P) (h2 i v _ (by simpa using hv) (ax hlt)) V).2
 ·exact (Dw h V).1
theorem xE {t:TypeId} {z:D} (h:CJ P t=some z) (w:World):∃ v,(zeroValue t).run P w = .ok v w∧∀ V,jB P V z v:=by
 unfold CJ at h;cases hi:P.info? t with
 | none=>rw [hi] at h;cases h
 | some i =>
  rw [hi] at h;cases hz:i.zero with
  | none=>simp [hz] at h
  | some v =>
   simp [hz] at h;exact ⟨v,by simp [zeroValue,typeInfo,hi,hz],fun V=>yz h V⟩
theorem mg (b o j:Nat):(⟨b,o,none⟩:Addr).add j=⟨b,o+j,none⟩:=by
 unfold Addr.add;split
 ·rename_i e;subst e;rfl
 ·rfl
theorem FY {t:TypeId} {n:Nat} (hs:lQ P t=some n) (ha:qi P t=true) (w:World) (b o:Nat) (cs:List Value) (hn:cs.length=n)
  (h:∀ (j:Nat) v,cs[j]?=some v→w.cell? ⟨b,o+j,none⟩=some v):(loadVar t ⟨b,o,none⟩).run P w = .ok (.agg cs.toArray) w:=by
 unfold loadVar;simp only [Sem.run_bind,vk hs,Result.andThen_ok,ha,aS,iP hs];have:=run_loadCells_list (P:=P) (w:=w) ⟨b,o,none⟩ cs (fun j v hv=>by rw [mg];exact h j v hv);rw [hn] at this;rw [this];simp
theorem FZ {t:TypeId} {n:Nat} (hs:lQ P t=some n) (ha:qi P t=false) (w:World) (b o:Nat) (v:Value)
  (h:w.cell? ⟨b,o,none⟩=some v):(loadVar t ⟨b,o,none⟩).run P w = .ok v w:=by
 unfold loadVar;simp [Sem.run_bind,vk hs,ha,h]
theorem PH {v:Value} (h:Plain v):v.oneCell'=true:=by cases v<;>first | rfl | cases h
theorem rY (g:Nat) (t:TypeId):∀ (vs:List Value) (o i:Nat) (cur:Array Value) (w:World),w.heap[g]?=some (.cells cur t (0,0))→o+i+vs.length≤cur.size→(∀ v∈vs,Plain v) →
  ∃ w',(storeCells ⟨g,o,none⟩ vs i).run P w = .ok () w'∧w'.heap[g]?=some (.cells (splice cur.toList (o+i) vs).toArray t (0,0)) ∧
   (∀ k,k≠g→w'.heap[k]?=w.heap[k]?)∧w'.heap.size=w.heap.size∧w'.os=w.os∧w'.tape=w.tape∧w'.output=w.output:=by
 intro vs
 induction vs with
 | nil =>
  intro o i cur w hg _ _;exact ⟨w,by simp [storeCells],by simp [splice,hg],fun _ _=>rfl,rfl,rfl,rfl,rfl⟩
 | cons v rest ih =>
  intro o i cur w hg hn hp;simp only [lm] at hn;have hlt:o+i < cur.size:=by omega
  have hc:w.cell? ⟨g,o+i,none⟩=some cur[o+i]:=by
   rw [cell_of_row w g (o+i) cur t (0,0) hg];exact bI hlt
  have hf:w.frozen? ⟨g,o+i,none⟩=false:=frozen_of_row w g (o+i) cur t hg;have hst:(store ⟨g,o+i,none⟩ v).run P w = .ok () (w.setCell ⟨g,o+i,none⟩ v):=by
   rw [run_store P w _ v .plain (PH (hp v (by simp)))];simp [hc,hf]
  have hg':(w.setCell ⟨g,o+i,none⟩ v).heap[g]?=some (.cells (cur.setIfInBounds (o+i) v) t (0,0)):=heap_setCell_same w g (o+i) cur t v hg;obtain ⟨w',h1,h2,h3,h4,h5,h6,h7⟩:=ih o (i+1) (cur.setIfInBounds (o+i) v) (w.setCell ⟨g,o+i,none⟩ v) hg' (by simp;omega) (fun x hx=>hp x (by simp [hx]));refine ⟨w',?_,?_,?_,?_,h5,h6,h7⟩
  ·unfold storeCells;simp only [Sem.run_bind,mg,hst,Result.andThen_ok];exact h1
  ·rw [h2]
   congr 2
   unfold splice;simp only [Array.toList_setIfInBounds];rw [show o+(i+1)=(o+i)+1 from by omega];have hl:o+i < cur.toList.length:=by simpa using hlt
   rw [List.take_succ_eq_append_getElem (by simpa using hl)];simp only [List.getElem_set_self,lm];rw [List.take_set_of_le (by omega),List.drop_set_of_lt (by omega)];rw [show o+i+(rest.length+1)=o+i+1+rest.length from by omega];simp
  ·intro k hk;rw [h3 k hk,heap_setCell_other w _ k v hk]
  ·rw [h4];simp
end
end Go.Lx
namespace Go.Lx
section
variable {P:Program} {V:View} {h:Id→Option Blk} {μ:Id→Pl} {w:World}
theorem Jd {cs:List A} {ds:List D} (e:MF cs=some ds):cs=ds.map A.d:=by
 induction cs generalizing ds with
 | nil=>simp [MF] at e;subst e;rfl
 | cons a rest ih =>
  cases a with
  | d x =>
   simp only [MF] at e;cases hr:MF rest with
   | none=>rw [hr] at e;cases e
   | some r=>rw [hr] at e;cases e;simp [ih hr]
  | _=>simp [MF] at e
theorem iI.dOf {x:D} {v:Value} (H:iI P V h μ (.d x) v):jB P V x v:=by cases H;assumption
theorem zx {cs:List A} {vs:Array Value} (H:iI P V h μ (.agg cs) (.agg vs)):iI P V h μ (xx cs) (.agg vs):=by
 unfold xx;split
 ·rename_i ds e
  have:=Jd e;subst this;cases H with
  | agg _ _ hn hc hp =>
   refine .d _ _ (.agg ds vs (by simpa using hn) (fun i d v hd hv=>(hc i (.d d) v (by simp [hd]) hv).dOf) hp)
 ·exact H
def lw (P:Program) (V:View) (h:Id→Option Blk) (μ:Id→Pl) (cs:List A) (vs:List Value):Prop :=
 vs.length=cs.length∧∀ (i:Nat) a v,cs[i]?=some a→vs[i]?=some v→iI P V h μ a v∧Plain v
theorem Jl {a:A} {v:Value} (H:iI P V h μ a v) (hu:a ≠ .unk) (hu':a ≠ .undef):(∃ cs,a = .tup cs)∨lw P V h μ a.cells v.cells.toList:=by
 cases H with
 | unk v=>exact absurd rfl hu
 | undef=>exact absurd rfl hu'
 | tup cs vs hn hc=>exact .inl ⟨cs,rfl⟩
 | d x v hd =>
  right;obtain ⟨h1,h2,h3⟩:=hd.cells;refine ⟨by simp [A.cells,h1,D.size],?_⟩;intro i a y ha hy;simp only [A.cells,eF] at ha;cases hx:x.cells[i]? with
  | none=>rw [hx] at ha;cases ha
  | some d =>
   rw [hx] at ha;cases ha;have hy':v.cells[i]?=some y:=by simpa using hy
   exact ⟨.d _ _ (h2 i d y hx hy'),h3 i y hy'⟩
 | agg cs vs hn hc hp =>
  right;exact ⟨by simpa [A.cells,Value.cells] using hn,fun i a y ha hy=>⟨hc i a y ha (by simpa [Value.cells] using hy),hp i y (by simpa [Value.cells] using hy)⟩⟩
 | _ =>
  right;refine ⟨rfl,?_⟩;intro i a y ha hy;cases i with
  | zero =>
   simp [A.cells,Value.cells] at ha hy;subst ha hy;refine ⟨?_,trivial⟩;constructor<;>assumption
  | succ i=>simp [A.cells] at ha
theorem FK {agg:Bool} {sz off:Nat} {cs:List A} {vs:List Value} {x:A} (H:lw P V h μ cs vs) (e:zy agg sz cs off=some x) :
  (agg=true∧∃ ws:List Value,ws.length=sz∧(∀ (j:Nat) v,ws[j]?=some v→vs[off+j]?=some v)∧iI P V h μ x (.agg ws.toArray)) ∨
  (agg=false∧∃ v,vs[off]?=some v∧iI P V h μ x v∧Plain v):=by
 obtain ⟨hn,hc⟩:=H;unfold zy at e;cases agg with
 | true =>
  left;simp only [aS] at e;split at e
  ·rename_i hle
   cases e;refine ⟨rfl,(vs.drop off).take sz,by simp;omega,?_,zx (.agg _ _ (by simp;omega) ?_ ?_)⟩
   ·intro j v hv;rw [dh] at hv;split at hv
    ·rwa [fF] at hv
    ·cases hv
   ·intro i d v hd hv;rw [dh] at hd;simp only [iF] at hv;rw [dh] at hv;split at hd
    ·rename_i hlt
     rw [if_pos hlt,fF] at hv;rw [fF] at hd;exact (hc _ _ _ hd hv).1
    ·cases hd
   ·intro i v hv;simp only [iF] at hv;rw [dh] at hv;split at hv
    ·rename_i hlt
     rw [fF] at hv;have hl:off+i < cs.length:=by omega
     exact (hc _ _ _ (ax hl) hv).2
    ·cases hv
  ·cases e
 | false =>
  right;simp only [aN,aI] at e;have hl:off < cs.length:=(aC.1 e).1;have hv:vs[off]?=some (vs[off]'(by omega)):=ax (by omega);exact ⟨rfl,_,hv,(hc _ _ _ e hv).1,(hc _ _ _ e hv).2⟩
theorem vN {agg:Bool} {sz off:Nat} {cs:List D} {x:D} (e:yS agg sz cs off=some x):zy agg sz (cs.map A.d) off=some (.d x):=by
 unfold yS at e;unfold zy;cases agg with
 | true =>
  simp only [aS] at e ⊢;split at e
  ·rename_i hle
   cases e;rw [if_pos (by simpa using hle)]
   congr 1
   rw [← List.map_drop,← List.map_take];unfold xx;have:∀ l:List D,MF (l.map A.d)=some l:=by
    intro l
    induction l with
    | nil=>rfl
    | cons a r ih=>simp [MF,ih]
   rw [this]
  ·cases e
 | false =>
  simp only [aN,aI] at e ⊢;rw [eF,e];rfl
theorem rX {t:TypeId} {sz b o:Nat} (hs:lQ P t=some sz) {cs:List A} {vs:List Value} {x:A} {off:Nat} (H:lw P V h μ cs vs)
  (hw:∀ (j:Nat) v,vs[j]?=some v→w.cell? ⟨b,o+j,none⟩=some v) (e:zy (qi P t) sz cs off=some x) :
  ∃ v,(loadVar t ⟨b,o+off,none⟩).run P w = .ok v w∧iI P V h μ x v:=by
 rcases FK H e with ⟨ha,ws,h1,h2,h3⟩ | ⟨ha,v,h1,h2,h3⟩
 ·exact ⟨_,FY hs ha w b (o+off) ws h1 (fun j v hv=>by rw [lH];exact hw _ _ (h2 j v hv)),h3⟩
 ·exact ⟨v,FZ hs ha w b (o+off) v (hw _ _ h1),h2⟩
theorem pV {x:D} {v:Value} (H:jB P V x v):lw P V h μ (x.cells.map A.d) v.cells.toList:=by
 rcases Jl (h:=h) (μ:=μ) (.d x v H) (by simp) (by simp) with ⟨cs,e⟩ | e
 ·cases e
 ·exact e
theorem Qr (I:Inv P V h μ w) {i:Id} {sz:Nat} {l:Bool} {xs:List D} (hi:h i=some (.arr sz l xs)) {ix:Nat} {e:D} (hx:xs[ix]?=some e) :
  (μ i).nil=false∧∃ ev,jB P V e ev∧ev.cells.size=sz∧∀ (j:Nat) v,ev.cells[j]?=some v→w.cell? ⟨(μ i).blk,ix * sz+j,none⟩=some v:=by
 rcases I.blk i _ hi with ⟨_,h2,_⟩ | ⟨h1,_,_,_,cells,elem,h5,_,_,ev,h7⟩
 ·subst h2;simp at hx
 ·obtain ⟨a,b,c⟩:=h7 ix e hx;exact ⟨h1,ev ix,a,b,fun j v hv=>by rw [cell_of_row w _ _ cells elem (0,0) h5];exact c j v hv⟩
theorem G7 {s:S} (I:Inv P V s.get μ w) {t:TypeId} {sz:Nat} (hs:lQ P t=some sz) {p x:A} {cv:Value} (hl:nZ s (qi P t) sz p=some x)
  (hp:iI P V s.get μ p cv):∃ v,(Instr.loadAt t cv).run P w = .ok v w∧iI P V s.get μ x v:=by
 cases hp with
 | bptr i off cs0 hi =>
  simp only [nZ,hi] at hl;obtain ⟨h1,_,cells,elem,h5,h6,h7⟩:=I.blk i _ hi;have:=rX (w:=w) (b:=(μ i).blk) (o:=0) hs (cs:=cs0) (vs:=cells.toList) (off:=off) ⟨by simpa using h6,fun i a v ha hv=>h7 i a v ha (by simpa using hv)⟩
   (fun j v hv=>by rw [cell_of_row w _ _ cells elem (0,0) h5];simpa using hv) hl
  obtain ⟨v,hv,hr⟩:=this;rw [gW] at hv;exact ⟨v,by simpa [Instr.loadAt,Instr.sureAddr] using hv,hr⟩
 | eptr i ix off len sz' l xs a hi hf hv =>
  simp only [nZ,hi] at hl;split at hl
  ·rename_i e
   obtain ⟨rfl,_⟩:=hv e;cases hx:xs[ix]? with
   | none=>rw [hx] at hl;cases hl
   | some d =>
    rw [hx] at hl;simp only at hl;cases hpd:yS (qi P t) sz d.cells off with
    | none=>rw [hpd] at hl;cases hl
    | some y =>
     rw [hpd] at hl;cases hl;obtain ⟨_,ev,g1,g2,g3⟩:=Qr I hi hx;obtain ⟨v,hv,hr⟩:=rX (w:=w) (b:=(μ i).blk) (o:=ix * sz') hs (off:=off) (pV (h:=s.get) (μ:=μ) g1) (fun j v hv=>g3 j v (by simpa using hv)) (vN hpd);exact ⟨v,by simpa [Instr.loadAt,Instr.sureAddr] using hv,hr⟩
  ·cases hl
 | pimm e off ev b o hd hv =>
  simp only [nZ] at hl;cases hpd:yS (qi P t) sz e.cells off with
  | none=>rw [hpd] at hl;cases hl
  | some y =>
   rw [hpd] at hl;cases hl;obtain ⟨v,hv,hr⟩:=rX (w:=w) (b:=b) (o:=o) hs (off:=off) (pV (h:=s.get) (μ:=μ) hd) (fun j v hx=>I.cell _ _ _ (hv j v (by simpa using hx))) (vN hpd);exact ⟨v,by simpa [Instr.loadAt,Instr.sureAddr] using hv,hr⟩
 | d y v hd =>
  cases hd with
  | pbox e ev b o hd hv =>
   simp only [nZ] at hl;cases hpd:yS (qi P t) sz e.cells 0 with
   | none=>rw [hpd] at hl;cases hl
   | some y =>
    rw [hpd] at hl;cases hl;obtain ⟨v,hv,hr⟩:=rX (w:=w) (b:=b) (o:=o) hs (off:=0) (pV (h:=s.get) (μ:=μ) hd) (fun j v hx=>I.cell _ _ _ (hv j v (by simpa using hx))) (vN hpd);rw [Nat.add_zero] at hv;exact ⟨v,by simpa [Instr.loadAt,Instr.sureAddr] using hv,hr⟩
  | _=>simp [nZ] at hl
 | _=>simp [nZ] at hl
def Done (P:Program) (V:View) (s:S) (μ:Id→Pl) (w:World) (s':S) (x:A) (r:Result Value):Prop :=
 ∃ cv w' V' μ',r = .ok cv w'∧iI P V' s'.get μ' x cv∧Inv P V' s'.get μ' w'∧Evo V s.get μ w V' s'.get μ' w'∧s'.out=s.out
theorem Done.pure {s:S} (I:Inv P V s.get μ w) {x:A} {cv:Value} {r:Result Value} (hr:r = .ok cv w) (H:iI P V s.get μ x cv):Done P V s μ w s x r :=
 ⟨cv,w,V,μ,hr,H,I, .refl _ _ _ _,rfl⟩
theorem EX {c:Cfg} {t:TypeId} {x y:A} {i:Nat} {cv:Value} (H:iI c.P V h μ x cv) (e:qf c t x i=some y) :
  ∃ v,(Instr.fieldAt t cv i).run c.P w = .ok v w∧iI c.P V h μ y v:=by
 unfold qf at e;cases hf:fieldAt c.P t i with
 | none=>rw [hf] at e;cases e
 | some r =>
  obtain ⟨ft,off,sz⟩:=r;rw [hf] at e;simp only at e;unfold fieldAt at hf;cases hu:c.P.underlying t with
  | none=>rw [hu] at hf;cases hf
  | some d =>
   rw [hu] at hf;cases d<;>try (cases hf;done)
   rename_i fs
   simp only at hf;cases hfi:fs[i]? with
   | none=>rw [hfi] at hf;cases hf
   | some f =>
    rw [hfi] at hf;simp only [ag] at hf;cases hz:lQ c.P f.type with
    | none=>rw [hz] at hf;cases hf
    | some z =>
     rw [hz] at hf;cases hf;split at e
     ·cases e
     ·rename_i hne
      have key:∀ a:Addr,(Instr.fieldAt t (.pointer (some a)) i).run c.P w = .ok (.pointer (some (a.add f.offset))) w:=by
       intro a;simp [Instr.fieldAt,cO hu,hfi,Instr.sureAddr,fieldPlace,iP hz,hne]
      cases H with
      | bptr j o cs hi=>cases e;exact ⟨_,key _,by rw [mg];exact .bptr j _ cs hi⟩
      | eptr j ix o len sz' l xs a hi hlen hv =>
       cases e;refine ⟨_,key _,?_⟩;refine .eptr j ix _ len sz' l xs _ hi hlen (fun e=>?_);obtain ⟨rfl,h2⟩:=hv e;rw [mg];exact ⟨by rw [lH],h2⟩
      | nptr j ix o len sz' xs a hi hlen hv =>
       cases e;refine ⟨_,key _,?_⟩;refine .nptr j ix _ len sz' xs _ hi hlen (fun e=>?_);obtain ⟨rfl,h2⟩:=hv e;rw [mg];exact ⟨by rw [lH],h2⟩
      | pimm e' o ev b o' hd hv=>cases e;exact ⟨_,key _,by rw [mg,lH];exact .pimm e' _ ev b o' hd hv⟩
      | d y' v hd =>
       cases hd with
       | pbox e' ev b o' hd hv=>cases e;exact ⟨_,key _,by rw [mg];exact .pimm e' _ ev b o' hd hv⟩
       | _=>cases e
      | _=>cases e
end
end Go.Lx
namespace Go.Lx
section
variable {P:Program} {V:View} {h:Id→Option Blk} {μ:Id→Pl} {w:World}
theorem KY {k:IntKind} {n:Int} {v:Value} (H:iI P V h μ (.d (.int k n)) v):v = .int k n:=by
 have:=H.dOf;cases this;rfl
theorem TC {xs:List D} {a:Option Addr} {n c:Nat} (H:jB P V (.sl xs) (.slice a n c)) {i:Nat} {d:D} (hd:xs[i]?=some d) :
  n=xs.length∧∃ b o ev,a=some ⟨b,o,none⟩∧jB P V d ev∧ev.cells.size=d.size∧V.At b (o+i * d.size) ev:=by
 cases H with
 | sl _ _ _ b o sz ev hc ha hh hs hv =>
  have hl:i < xs.length:=(aC.1 hd).1;have h1:=hh i d hd;have h2:d.size=sz:=by rw [← h1.cells.1,hs i hl]
  refine ⟨rfl,b,o,ev i,?_,h1,h1.cells.1,?_⟩
  ·rcases ha with e | e
   ·subst e;simp at hl
   ·exact e
  ·rw [h2];exact hv i hl
theorem Fq {c:Cfg} {s:S} (I:Inv c.P V s.get μ w) {t:TypeId} {x ix y:A} {cv ci:Value} (e:fJ c s t x ix=some y)
  (H:iI c.P V s.get μ x cv) (Hi:iI c.P V s.get μ ix ci):∃ v,(Instr.indexAt t cv ci).run c.P w = .ok v w∧iI c.P V s.get μ y v:=by
 unfold fJ at e;split at e
 ·rename_i k n
  have:=KY Hi;subst this;have pick:∀ (el:TypeId) (xs:List D) (a:Option Addr) (cap:Nat),c.P.underlying t=some (.slice el)→jB c.P V (.sl xs) (.slice a xs.length cap) →
    fJ.pick c el n xs=some y→∃ v,(Instr.indexAt t (.slice a xs.length cap) (.int k n)).run c.P w = .ok v w∧iI c.P V s.get μ y v:=by
   intro el xs a cap hu hd hp;unfold fJ.pick at hp;split at hp
   ·rename_i h0
    cases hx:xs[n.toNat]? with
    | none=>rw [hx] at hp;cases hp
    | some d =>
     rw [hx] at hp;cases hz:lQ c.P el with
     | none=>rw [hz] at hp;cases hp
     | some sz =>
      rw [hz] at hp;simp only at hp;split at hp
      ·rename_i hsz
       cases hp;obtain ⟨_,b,o,ev,ha,g1,g2,g3⟩:=TC hd hx;subst ha;have hl:n.toNat < xs.length:=(aC.1 hx).1;have hl':n < (xs.length:Int):=by omega
       refine ⟨.pointer (some ⟨b,o+n.toNat * sz,none⟩),?_,?_⟩
       ·simp [Instr.indexAt,asIntOf,cO hu,iP hz,h0,hl',mg]
       ·rw [hsz] at g3;have:=iI.pimm (P:=c.P) (V:=V) (h:=s.get) (μ:=μ) d 0 ev b (o+n.toNat * sz) g1 g3;simpa using this
      ·cases hp
   ·cases hp
  unfold fJ.P' at e;cases hu:c.P.underlying t with
  | none=>rw [hu] at e;cases e
  | some ty =>
   rw [hu] at e;cases ty<;>try (cases e;done)
   ·rename_i el
    cases H with
    | d x v hd =>
     cases hd with
     | sl xs a cap b o sz ev hc ha hh hs hv=>exact pick el xs a cap hu (.sl xs a cap b o sz ev hc ha hh hs hv) e
     | _=>cases e
    | tight xs a hd=>exact pick el xs a xs.length hu hd e
    | ref i off len full sz l xs a cap hi hf hv =>
     simp only [hi] at e;cases hz:lQ c.P el with
     | none=>rw [hz] at e;cases e
     | some sz' =>
      rw [hz] at e;simp only at e;split at e
      ·rename_i hh
       obtain ⟨h0,h1,h2,h3,h4⟩:=hh;cases e;obtain ⟨a',c',e1,hsv⟩:=hv h2;cases e1;rcases hsv with ⟨_,_,_,_⟩ | ⟨p1,p2,p3,p4,p5⟩
       ·have B:=I.blk i _ hi;rcases B with ⟨_,q,_⟩ | ⟨q,_⟩
        ·subst q;simp at h2 h3;omega
        ·simp_all
       ·have hcap:off < (μ i).cap:=by
         have B:=I.blk i _ hi;rcases B with ⟨q,_⟩ | ⟨_,q,_⟩
         ·rw [q] at p1;cases p1
         ·omega
        have ha:=p5 (.inl hcap);subst ha;subst h4;refine ⟨.pointer (some ⟨(μ i).blk,off * sz+n.toNat * sz,none⟩),?_,?_⟩
        ·simp [Instr.indexAt,asIntOf,cO hu,iP hz,h0,h1,mg]
        ·have:off * sz+n.toNat * sz=(off+n.toNat) * sz+0:=by rw [fD,Nat.add_zero]
         rw [this];exact .eptr i _ 0 _ sz l xs _ hi (bu _) (fun _=>⟨rfl,by omega⟩)
      ·cases e
    | _=>cases e
   ·rename_i len el
    cases H with
    | bptr i off cs hi =>
     simp only at e;cases hz:lQ c.P el with
     | none=>rw [hz] at e;cases e
     | some sz =>
      rw [hz] at e;simp only at e;split at e
      ·rename_i hh
       obtain ⟨h0,h1,h2⟩:=hh;cases e;refine ⟨.pointer (some ⟨(μ i).blk,off+n.toNat * sz,none⟩),?_, .bptr i _ cs hi⟩;simp [Instr.indexAt,asIntOf,cO hu,iP hz,h0,h1,mg,Instr.sureAddr]
      ·cases e
    | pimm d off ev b o hd hv =>
     simp only at e;cases hz:lQ c.P el with
     | none=>rw [hz] at e;cases e
     | some sz =>
      rw [hz] at e;simp only at e;split at e
      ·rename_i hh
       obtain ⟨h0,h1,h2⟩:=hh;cases e;refine ⟨.pointer (some ⟨b,o+(off+n.toNat * sz),none⟩),?_, .pimm d _ ev b o hd hv⟩;simp [Instr.indexAt,asIntOf,cO hu,iP hz,h0,h1,mg,Instr.sureAddr,lH]
      ·cases e
    | _=>cases e
 ·cases e
end
end Go.Lx
namespace Go.Lx
section
variable {P:Program} {V:View} {h:Id→Option Blk} {μ:Id→Pl} {w:World}
def ug (P:Program) (V:View) (h:Id→Option Blk) (μ:Id→Pl):Option A→Option Value→Prop
 | none,none=>True
 | some a,some v=>iI P V h μ a v
 | _,_=>False
theorem run_sliceBound (k:IntKind) (n:Int) (y:Nat) (code:BoundsCode) (h0:0≤n) (hn:n≤y):(Instr.sliceBound (.int k n) y code).run P w = .ok n.toNat w:=by
 simp [Instr.sliceBound,asIntOf,h0,hn]
theorem MJ {L len cap u:Nat} {hi:Option A} {hi':Option Value} (e:Kt L hi=some u) (Hh:ug P V h μ hi hi') (h1:hi=none→L=len) (h2:L≤cap) :
  u≤L∧((hi'=none∧u=len)∨∃ v,hi'=some v∧∀ code,(Instr.sliceBound v cap code).run P w = .ok u w):=by
 cases hi with
 | none =>
  cases hi' with
  | none=>cases e;exact ⟨bu _, .inl ⟨rfl,h1 rfl⟩⟩
  | some _=>cases Hh
 | some a =>
  cases hi' with
  | none=>cases Hh
  | some v =>
   cases a<;>try (simp [Kt] at e;done)
   rename_i x
   cases x<;>try (simp [Kt] at e;done)
   rename_i k n
   have:=KY (P:=P) (V:=V) (h:=h) (μ:=μ) Hh;subst this;simp only [Kt] at e;split at e
   ·rename_i hb
    cases e;exact ⟨by omega, .inr ⟨_,rfl,fun code=>run_sliceBound k n cap code hb.1 (by omega)⟩⟩
   ·cases e
theorem MK {u l:Nat} {lo:Option A} {lo':Option Value} (e:OD u lo=some l) (Hl:ug P V h μ lo lo') :
  l≤u∧((lo'=none∧l=0)∨∃ v,lo'=some v∧∀ code,(Instr.sliceBound v u code).run P w = .ok l w):=by
 cases lo with
 | none =>
  cases lo' with
  | none=>cases e;exact ⟨kE _, .inl ⟨rfl,rfl⟩⟩
  | some _=>cases Hl
 | some a =>
  cases lo' with
  | none=>cases Hl
  | some v =>
   cases a<;>try (simp [OD] at e;done)
   rename_i x
   cases x<;>try (simp [OD] at e;done)
   rename_i k n
   have:=KY (P:=P) (V:=V) (h:=h) (μ:=μ) Hl;subst this;simp only [OD] at e;split at e
   ·rename_i hb
    cases e;exact ⟨by omega, .inr ⟨_,rfl,fun code=>run_sliceBound k n u code hb.1 (by omega)⟩⟩
   ·cases e
theorem wH {L l u:Nat} {lo hi:Option A} (e:kw L lo hi=some (l,u)):Kt L hi=some u∧OD u lo=some l:=by
 unfold kw at e;cases h1:Kt L hi with
 | none=>rw [h1] at e;cases e
 | some u' =>
  rw [h1] at e;simp only at e;cases h2:OD u' lo with
  | none=>rw [h2] at e;cases e
  | some l'=>rw [h2] at e;cases e;exact ⟨rfl,h2⟩
theorem vg {L len cap l u:Nat} {lo hi:Option A} {lo' hi':Option Value} (e:kw L lo hi=some (l,u)) (Hl:ug P V h μ lo lo') (Hh:ug P V h μ hi hi')
  (h1:hi=none→L=len) (h2:L≤cap):l≤u∧u≤L∧(Instr.sliceBounds true len cap lo' hi' none).run P w = .ok (l,u,cap) w:=by
 obtain ⟨e1,e2⟩:=wH e;obtain ⟨g1,g2⟩:=MJ (w:=w) e1 Hh h1 h2;obtain ⟨k1,k2⟩:=MK (w:=w) e2 Hl;refine ⟨k1,g1,?_⟩;unfold Instr.sliceBounds;rcases g2 with ⟨rfl,rfl⟩ | ⟨v,rfl,g2⟩<;>rcases k2 with ⟨rfl,rfl⟩ | ⟨v',rfl,k2⟩<;>simp [*]
theorem Bc {L len cap l u m:Nat} {k:IntKind} {lo hi:Option A} {lo' hi':Option Value} (e:kw L lo hi=some (l,u)) (Hl:ug P V h μ lo lo') (Hh:ug P V h μ hi hi')
  (h1:hi≠none) (h2:L≤cap) (hm:m≤cap) (hu:u≤m):(Instr.sliceBounds true len cap lo' hi' (some (.int k m))).run P w = .ok (l,u,m) w:=by
 obtain ⟨e1,e2⟩:=wH e;have e1':Kt (min L m) hi=some u:=by
  cases hi with
  | none=>exact absurd rfl h1
  | some a =>
   cases a<;>try (simp [Kt] at e1;done)
   rename_i x
   cases x<;>try (simp [Kt] at e1;done)
   simp only [Kt] at e1 ⊢;split at e1
   ·rename_i hb
    cases e1;rw [if_pos ⟨hb.1,by omega⟩]
   ·cases e1
 obtain ⟨g1,g2⟩:=MJ (w:=w) (len:=len) (cap:=m) e1' Hh (fun e=>absurd e h1) (by omega);obtain ⟨k1,k2⟩:=MK (w:=w) e2 Hl;have hb:(Instr.sliceBound (.int k (m:Int)) cap .slice3Acap).run P w = .ok m w:=by
  have:=run_sliceBound (P:=P) (w:=w) k (m:Int) cap .slice3Acap (by omega) (by omega);simpa using this
 unfold Instr.sliceBounds;rcases g2 with ⟨rfl,_⟩ | ⟨v,rfl,g2⟩
 ·cases hi with
  | none=>exact absurd rfl h1
  | some _=>cases Hh
 ·rcases k2 with ⟨rfl,rfl⟩ | ⟨v',rfl,k2⟩<;>simp [*]
theorem PY {xs:List D} {a:Option Addr} {n c l u m sz:Nat} (H:jB P V (.sl xs) (.slice a n c)) (h1:l≤u) (h2:u≤xs.length) (h3:u≤m) (hs:l=0∨xs.all (fun x=>decide (x.size=sz))=true) :
  jB P V (.sl ((xs.take u).drop l)) (.slice (if m=l then a else a.map (·.add (l * sz))) (u - l) (m - l)):=by
 cases H with
 | sl _ _ _ b o sz' ev hc ha hh hsz hv =>
  have hlen:((xs.take u).drop l).length=u - l:=by simp;omega
  have hget:∀ (i:Nat) d,((xs.take u).drop l)[i]?=some d→xs[l+i]?=some d∧l+i < u:=by
   intro i d hd;rw [fF,dh] at hd;split at hd
   ·exact ⟨hd,by omega⟩
   ·cases hd
  have key:=jB.sl (P:=P) (V:=V) ((xs.take u).drop l) (if m=l then a else a.map (·.add (l * sz))) (m - l) b (o+l * sz') sz' (fun i=>ev (l+i)) (by rw [hlen];omega) ?_ ?_ ?_ ?_
  ·rw [hlen] at key;exact key
  ·by_cases e:(xs.take u).drop l=[]
   ·exact .inl e
   ·right;have hlt:l < u:=by
     rcases Nat.lt_or_ge l u with q | q
     ·exact q
     ·exact absurd (fC (by rw [hlen];omega)) e
    have hne:m≠l:=by omega
    rw [if_neg hne];have hxs:xs≠[]:=by rintro rfl;simp at e
    rcases ha with q | q
    ·exact absurd q hxs
    ·rw [q];simp only [jT,mg];rcases hs with q | q
     ·subst q;simp
     ·have hl:l < xs.length:=by omega
      have e1:=hh l _ (ax hl);have e2:=hsz l hl;have e3:xs[l].size=sz:=of_decide_eq_true (aW.1 q _ (dM hl));have:sz=sz':=by rw [← e2,e1.cells.1,e3]
      rw [this]
  ·intro i d hd;exact hh _ _ (hget i d hd).1
  ·intro i hi;rw [hlen] at hi;exact hsz _ (by omega)
  ·intro i hi;rw [hlen] at hi;have:=hv (l+i) (by omega);rw [lH,← fD];exact this
end
end Go.Lx
namespace Go.Lx
section
variable {P:Program} {V:View} {h:Id→Option Blk} {μ:Id→Pl} {w:World}
theorem G6 {s:S} (I:Inv P V s.get μ w) {i:Id} {sz:Nat} {l:Bool} {xs:List D} (hi:s.get i=some (.arr sz l xs)) :
  ∃ V',Inv P V' (s.set i (.arr sz true xs)).get μ w∧Evo V s.get μ w V' (s.set i (.arr sz true xs)).get μ w ∧
   (∀ (k:Nat) d,xs[k]?=some d→∃ ev,jB P V d ev∧ev.cells.size=sz∧V'.At (μ i).blk (k * sz) ev):=by
 obtain ⟨hget,_⟩:=S.nH hi (.arr sz true xs);rw [hget];have K:∀ j b,s.get j=some b→∃ b',upd s.get i (.arr sz true xs) j=some b'∧qo b (μ j) b' (μ j):=by
  intro j b hb;by_cases e:j=i
  ·subst e;rw [hi] at hb;cases hb;exact ⟨_,upd_same _ _ _,rfl,bu _,fun _=>rfl⟩
  ·exact ⟨b,by rw [upd_ne _ _ e];exact hb, .refl _ _⟩
 have ownIff:∀ j x,upd s.get i (.arr sz true xs) j=some x→(μ j).nil=false→∃ b0,s.get j=some b0∧(μ j).nil=false∧(μ j).blk=(μ j).blk:=by
  intro j x hx hn;by_cases e:j=i
  ·subst e;exact ⟨_,hi,hn,rfl⟩
  ·rw [upd_ne _ _ e] at hx;exact ⟨x,hx,hn,rfl⟩
 rcases I.blk i _ hi with ⟨hn,hx,hcap⟩ | ⟨hn,h2,h3,h4,cells,elem,h5,h6,hpl,ev,h7⟩
 ·refine ⟨V,⟨?_,?_,I.cell,I.map,zT I.tidy⟩,⟨rfl,rfl,rfl,bu _,fun _ _ _=>rfl, .refl V,fun _ _ _ x => .inl x,fun _ _ _ x => .inl x,fun j x hx hn => .inl (ownIff j x hx hn),K⟩,?_⟩
  ·intro j b hb;by_cases e:j=i
   ·subst e;rw [upd_same] at hb;cases hb;exact .inl ⟨hn,hx,hcap⟩
   ·rw [upd_ne _ _ e] at hb;exact (I.blk j b hb).mono K
  ·intro j k x y hx hy hne n1 n2;by_cases e:j=i
   ·subst e;rw [hn] at n1;cases n1
   ·by_cases e':k=i
    ·subst e';rw [hn] at n2;cases n2
    ·rw [upd_ne _ _ e] at hx;rw [upd_ne _ _ e'] at hy;exact I.apart j k x y hx hy hne n1 n2
  ·intro k d hd;subst hx;simp at hd
 ·let V':View:=⟨fun b c v=>V.cell b c v∨(b=(μ i).blk∧c < xs.length * sz∧cells[c]?=some v),V.map⟩
  have hV:V.Le V':=⟨fun _ _ _ x => .inl x,fun _ _ _ x=>x⟩
  have sound:∀ b c v,V'.cell b c v→w.cell? ⟨b,c,none⟩=some v:=by
   rintro b c v (q | ⟨rfl,_,q⟩)
   ·exact I.cell b c v q
   ·rw [cell_of_row w _ c cells elem (0,0) h5];exact q
  have hown:oq s.get μ (μ i).blk:=⟨i,_,hi,hn,rfl⟩
  refine ⟨V',⟨?_,?_,sound,I.map,zT I.tidy⟩,⟨rfl,rfl,rfl,bu _,fun _ _ _=>rfl,hV,?_,fun _ _ _ x => .inl x,fun j x hx hn => .inl (ownIff j x hx hn),K⟩,?_⟩
  ·intro j b hb;by_cases e:j=i
   ·subst e;rw [upd_same] at hb;cases hb;refine .inr ⟨hn,h2,(by intro e;cases e),?_,cells,elem,h5,h6,hpl,ev,fun k d hd=>⟨(h7 k d hd).1.mono hV,(h7 k d hd).2⟩⟩
    rintro c v (q | ⟨_,q,_⟩)
    ·exact h4 c v q
    ·exact q
   ·rw [upd_ne _ _ e] at hb;have hne:(μ j).nil=false→(μ j).blk≠(μ i).blk:=fun q=>I.apart j i b _ hb hi e q hn
    have B:I8 P V (upd s.get i (.arr sz true xs)) μ w (μ j) b:=(I.blk j b hb).mono K;cases b with
    | arr sz2 lent2 xs2 =>
     rcases B with B | ⟨b1,b2,b3,b4,c2,e2,b5,b6,hpl2,ev2,b7⟩
     ·exact .inl B
     ·refine .inr ⟨b1,b2,?_,?_,c2,e2,b5,b6,hpl2,ev2,fun k d hd=>⟨(b7 k d hd).1.mono hV,(b7 k d hd).2⟩⟩
      ·rintro e c v (q | ⟨q,_⟩)
       ·exact b3 e c v q
       ·exact hne b1 q
      ·rintro c v (q | ⟨q,_⟩)
       ·exact b4 c v q
       ·exact absurd q (hne b1)
    | box cs =>
     obtain ⟨b1,b3,c2,e2,b5,b6,b7⟩:=B;refine ⟨b1,?_,c2,e2,b5,b6,fun k a v ha hv=>⟨(b7 k a v ha hv).1.mono hV (fun i _ b hb=>⟨b,hb, .refl _ _⟩),(b7 k a v ha hv).2⟩⟩
     rintro c v (q | ⟨q,_⟩)
     ·exact b3 c v q
     ·exact hne b1 q
    | map kt xJ es =>
     obtain ⟨b1,b3,en,b5,b6,b7,b8⟩:=B;exact ⟨b1,b3,en,b5,b6,fun k e m he hm=>⟨(b7 k e m he hm).1.mono hV,(b7 k e m he hm).2.1.mono hV,(b7 k e m he hm).2.2⟩,b8⟩
    | nest sz2 xs2 =>
     rcases B with B | ⟨b1,b2,b3,c2,e2,b5,b6,hpl2,b7⟩
     ·exact .inl B
     ·refine .inr ⟨b1,b2,?_,c2,e2,b5,b6,hpl2,fun k e he=>⟨(b7 k e he).1,fun q a v ha hv=>((b7 k e he).2 q a v ha hv).mono hV (fun i _ b hb=>⟨b,hb, .refl _ _⟩)⟩⟩
      rintro c v (q | ⟨q,_⟩)
      ·exact b3 c v q
      ·exact hne b1 q
    | fam _=>exact B.elim
    | gap=>exact B
    | tail sz2 g2 xs2 =>
     rcases B with B | ⟨b1,b2,b3,c2,e2,b5,b6,hpl2,ev2,b7⟩
     ·exact .inl B
     ·refine .inr ⟨b1,b2,?_,c2,e2,b5,b6,hpl2,ev2,fun k e he=>⟨(b7 k e he).1.mono hV,(b7 k e he).2⟩⟩
      rintro c v (q | ⟨q,_⟩)
      ·exact b3 c v q
      ·exact hne b1 q
  ·intro j k x y hx hy hne n1 n2;have fix:∀ q z,upd s.get i (.arr sz true xs) q=some z→∃ z',s.get q=some z':=by
    intro q z hz;by_cases e:q=i
    ·subst e;exact ⟨_,hi⟩
    ·rw [upd_ne _ _ e] at hz;exact ⟨z,hz⟩
   obtain ⟨x',hx'⟩:=fix j x hx;obtain ⟨y',hy'⟩:=fix k y hy;exact I.apart j k x' y' hx' hy' hne n1 n2
  ·rintro b c v (q | ⟨rfl,_⟩)
   ·exact .inl q
   ·exact .inr (.inl hown)
  ·intro k d hd;obtain ⟨a1,a2,a3⟩:=h7 k d hd;refine ⟨ev k,a1,a2,?_⟩;intro j v hv;right;have hk:k < xs.length:=(aC.1 hd).1;have hj:j < sz:=by rw [← a2];exact (aO.1 hv).1
   refine ⟨rfl,?_,a3 j v hv⟩
   calc k * sz+j < k * sz+sz:=by omega
    _=(k+1) * sz:=by rw [fD,kD]
    _≤xs.length * sz:=aX _ hk
theorem uy {p:Pl} {sz off len:Nat} {xs:List D} {a:Option Addr} {c:Nat} (H:yV p sz off len (.slice a len c)) (hl:off+len≤xs.length) (hcap:p.nil=false→xs.length≤p.cap) (hnil:p.nil=true→xs=[])
  (hv:∀ (k:Nat) d,xs[k]?=some d→∃ ev,jB P V d ev∧ev.cells.size=sz∧V.At p.blk (k * sz) ev):jB P V (.sl ((xs.drop off).take len)) (.slice a len c):=by
 have hlen:((xs.drop off).take len).length=len:=by simp;omega
 classical
 have hev:∃ ev:Nat→Value,∀ (k:Nat) d,xs[k]?=some d→jB P V d (ev k)∧(ev k).cells.size=sz∧V.At p.blk (k * sz) (ev k):=by
  refine ⟨fun k=>if hk:k < xs.length then Classical.choose (hv k xs[k] (ax hk)) else Go.undef,?_⟩;intro k d hd;obtain ⟨hk,rfl⟩:=aC.1 hd;simp only [dif_pos hk];exact Classical.choose_spec (hv k xs[k] (ax hk))
 obtain ⟨ev,hev⟩:=hev;obtain ⟨a',c',e,H⟩:=H;cases e;have hc:len≤c:=by
  rcases H with ⟨q1,q2,q3,q4⟩ | ⟨q1,q2,q3,_⟩
  ·have:=hnil q1;subst this;simp at hl;omega
  ·have:=hcap q1;omega
 have key:=jB.sl (P:=P) (V:=V) ((xs.drop off).take len) a c p.blk (off * sz) sz (fun k=>ev (off+k)) (by rw [hlen];exact hc) ?_ ?_ ?_ ?_
 ·rw [hlen] at key;exact key
 ·rcases lg len with z | z
  ·left;subst z;simp
  ·right;rcases H with ⟨q1,_⟩ | ⟨q1,q2,q3,q4,q5⟩
   ·have:=hnil q1;subst this;simp at hl;omega
   ·have:=hcap q1;exact q5 (.inl (by omega))
 ·intro k d hd;rw [dh] at hd;split at hd
  ·rw [fF] at hd;exact (hev _ d hd).1
  ·cases hd
 ·intro k hk;rw [hlen] at hk;exact (hev (off+k) _ (ax (by omega))).2.1
 ·intro k hk;rw [hlen] at hk;have:=(hev (off+k) _ (ax (by omega))).2.2;rw [fD] at this;exact this
theorem BR {s:S} (I:Inv P V s.get μ w) {i:Id} {off len full:Nat} {cv:Value} {x:D} {o:Option S} (H:iI P V s.get μ (.ref i off len full) cv) (e:s.zt i off len full=some (x,o)) :
  ∃ V',Inv P V' (S.ok o s).get μ w∧Evo V s.get μ w V' (S.ok o s).get μ w∧jB P V' x cv∧(S.ok o s).out=s.out:=by
 cases H with
 | ref _ _ _ _ sz l xs a c hi hf hv =>
  unfold S.zt at e;rw [hi] at e;simp only at e;split at e
  ·rename_i hh
   obtain ⟨h1,h2⟩:=hh;have hcap:(μ i).nil=false→xs.length≤(μ i).cap:=by
    intro q;rcases I.blk i _ hi with ⟨q',_⟩ | ⟨_,q',_⟩
    ·rw [q'] at q;cases q
    ·exact q'
   have hnil:(μ i).nil=true→xs=[]:=by
    intro q;rcases I.blk i _ hi with ⟨_,q',_⟩ | ⟨q',_⟩
    ·exact q'
    ·rw [q'] at q;cases q
   obtain ⟨V',I',E',hel⟩:=G6 I hi;have hel':∀ (k:Nat) (d:D),xs[k]?=some d→∃ ev,jB P V' d ev∧ev.cells.size=sz∧V'.At (μ i).blk (k * sz) ev:=fun k d hd=>by
    obtain ⟨ev,g1,g2,g3⟩:=hel k d hd;exact ⟨ev,g1.mono E'.view,g2,g3⟩
   cases e;cases l with
   | false =>
    refine ⟨V',I',E',uy (hv h1) (by omega) hcap hnil hel',(S.nH hi _).2⟩
   | true =>
    have hsame:(s.set i (.arr sz true xs)).get=s.get:=by
     rw [(S.nH hi _).1]
     funext j
     unfold upd;split
     ·rename_i e;rw [e,hi]
     ·rfl
    rw [hsame] at I' E';exact ⟨V',I',E',uy (hv h1) (by omega) hcap hnil hel',rfl⟩
  ·cases e
end
end Go.Lx
namespace Go.Lx
section
variable {P:Program} {V:View} {μ:Id→Pl} {w:World}
theorem ug.mono {P:Program} {V V':View} {h:Id→Option Blk} {μ:Id→Pl} {a:Option A} {v:Option Value} (H:ug P V h μ a v) (hV:V.Le V'):ug P V' h μ a v:=by
 cases a<;>cases v<;>first | trivial | exact H.elim | exact iI.mono H hV (fun i _ b hb=>⟨b,hb, .refl _ _⟩)
theorem JB {h:Id→Option Blk} {u:Nat} {mx:Option A} {mx':Option Value} (e:O6 u mx=true) (H:ug P V h μ mx mx'):∃ k,mx'=some (.int k u):=by
 cases mx with
 | none=>cases e
 | some a =>
  cases mx' with
  | none=>cases H
  | some v =>
   cases a<;>try (cases e;done)
   rename_i x
   cases x<;>try (cases e;done)
   rename_i k n
   have:=KY (P:=P) (V:=V) (h:=h) (μ:=μ) H;subst this;have:n=u:=of_decide_eq_true e;exact ⟨k,by rw [this]⟩
theorem rD {t e:TypeId} {sz len cap l u m:Nat} {a:Option Addr} {lo' hi' mx':Option Value} (hu:P.underlying t=some (.slice e)) (hz:lQ P e=some sz)
  (hb:(Instr.sliceBounds true len cap lo' hi' mx').run P w = .ok (l,u,m) w) :
  (Instr.sliceAt t (.slice a len cap) lo' hi' mx').run P w = .ok (.slice (if m=l then a else a.map (·.add (l * sz))) (u - l) (m - l)) w:=by
 simp [Instr.sliceAt,Instr.slice,cO hu,hb,iP hz]
theorem EL {s:S} {t el:TypeId} {sz:Nat} {xs:List D} {a:Option Addr} {cap:Nat} {lo hi mx:Option A} {lo' hi' mx':Option Value} {o dl:Delta} {y:A}
  (hu:P.underlying t=some (.slice el)) (hz:lQ P el=some sz) (hd:jB P V (.sl xs) (.slice a xs.length cap)) (e:pq.cut lo hi mx sz xs o=some (y,dl))
  (Hl:ug P V s.get μ lo lo') (Hh:ug P V s.get μ hi hi') (Hm:ug P V s.get μ mx mx') (hmx:(mx.isSome&&hi.isNone)=false) :
  dl=o∧∃ v,(Instr.sliceAt t (.slice a xs.length cap) lo' hi' mx').run P w = .ok v w∧iI P V s.get μ y v:=by
 have hc:xs.length≤cap:=by cases hd;assumption
 unfold pq.cut at e;cases hb:kw xs.length lo hi with
 | none=>rw [hb] at e;cases e
 | some r =>
  obtain ⟨l,u⟩:=r;rw [hb] at e;simp only at e;split at e
  ·rename_i hs
   cases mx with
   | none =>
    cases mx' with
    | some _=>cases Hm
    | none =>
     cases e;obtain ⟨g1,g2,g3⟩:=vg (w:=w) (len:=xs.length) (cap:=cap) hb Hl Hh (fun _=>rfl) hc;exact ⟨rfl,_,rD hu hz g3, .d _ _ (PY hd g1 g2 (by omega) hs)⟩
   | some m =>
    simp only at e;split at e
    ·rename_i he
     cases e;obtain ⟨k,rfl⟩:=JB he Hm;obtain ⟨g1,g2,_⟩:=vg (w:=w) (len:=xs.length) (cap:=cap) hb Hl Hh (fun _=>rfl) hc;have hh:hi≠none:=by rintro rfl;simp at hmx
     have g3:=Bc (w:=w) (len:=xs.length) (cap:=cap) (k:=k) (m:=u) hb Hl Hh hh hc (by omega) (bu _);have g4:=PY hd g1 g2 (bu u) hs;have hlen:((xs.take u).drop l).length=u - l:=by simp;omega
     refine ⟨rfl,_,rD hu hz g3,?_⟩;generalize hA:(if u=l then a else a.map (·.add (l * sz)))=A at g4 ⊢;rw [← hlen] at g4 ⊢;exact .tight _ _ g4
    ·cases e
  ·cases e
theorem Md {c:Cfg} {f:FuncId} {s:S} (I:Inv c.P V s.get μ w) {t:TypeId} {x y:A} {cv:Value} {lo hi mx:Option A} {lo' hi' mx':Option Value} {dl:Delta}
  (e:pq c f s t x lo hi mx=some (y,dl)) (H:iI c.P V s.get μ x cv) (Hl:ug c.P V s.get μ lo lo') (Hh:ug c.P V s.get μ hi hi') (Hm:ug c.P V s.get μ mx mx') :
  Done c.P V s μ w (dl.apply s) y ((Instr.sliceAt t cv lo' hi' mx').run c.P w):=by
 unfold pq at e;cases hu:c.P.underlying t with
 | none=>rw [hu] at e;cases e
 | some ty =>
  rw [hu] at e;cases ty<;>try (cases e;done)
  rename_i el
  simp only at e;cases hz:lQ c.P el with
  | none=>rw [hz] at e;cases e
  | some sz =>
   rw [hz] at e;simp only at e;split at e
   ·cases e
   ·rename_i hmx
    have hmx:(mx.isSome&&hi.isNone)=false:=by cases mx<;>cases hi<;>simp_all
    cases H with
    | d z v hd =>
     cases hd with
     | sl xs a cap b o sz' ev hc ha hh hs hv =>
      obtain ⟨rfl,v,h1,h2⟩:=EL (w:=w) hu hz (.sl xs a cap b o sz' ev hc ha hh hs hv) e Hl Hh Hm hmx;exact .pure I h1 h2
     | nilsl =>
      simp only at e;cases hb:kw 0 lo hi with
      | none=>rw [hb] at e;cases e
      | some r =>
       obtain ⟨l,u⟩:=r;rw [hb] at e;simp only at e;split at e
       ·rename_i he
        cases e;obtain ⟨g1,g2,g3⟩:=vg (w:=w) (len:=0) (cap:=0) hb Hl Hh (fun _=>rfl) (bu _);obtain rfl:u=0:=by omega
        obtain rfl:l=0:=by omega
        cases mx with
        | none =>
         cases mx' with
         | some _=>cases Hm
         | none =>
          refine .pure I (rD hu hz g3) ?_;simp only [aS,Nat.sub_zero];exact .d _ _ .nilsl
        | some m =>
         obtain ⟨k,rfl⟩:=JB (by simpa using he) Hm;have hh:hi≠none:=by rintro rfl;simp at hmx
         have g3:=Bc (w:=w) (len:=0) (cap:=0) (k:=k) (m:=0) hb Hl Hh hh (bu _) (by omega) (bu _);refine .pure I (rD hu hz g3) ?_;simp only [aS,Nat.sub_zero];exact .d _ _ .nilsl
       ·cases e
     | _=>cases e
    | tight xs a hd =>
     simp only at e;split at e
     ·rename_i hn
      have hn:hi=none:=by simpa using hn
      subst hn;cases hb:kw xs.length lo none with
      | none=>rw [hb] at e;cases e
      | some r =>
       obtain ⟨l,u⟩:=r;rw [hb] at e;simp only at e;split at e
       ·rename_i hs
        cases e;have hm:mx=none:=by cases mx with | none=>rfl | some _=>simp at hmx
        subst hm;cases mx' with
        | some _=>cases Hm
        | none =>
         obtain ⟨g1,g2,g3⟩:=vg (w:=w) (len:=xs.length) (cap:=xs.length) hb Hl Hh (fun _=>rfl) (bu _);have hu':u=xs.length:=by
          have:=(wH hb).1;simp [Kt] at this;exact this.symm
         subst hu';have g4:=PY hd g1 g2 (bu _) hs;rw [List.take_length] at g4;refine .pure I (rD hu hz g3) ?_;generalize hA:(if xs.length=l then a else a.map (·.add (l * sz)))=A at g4 ⊢;have hlen:(xs.drop l).length=xs.length - l:=by simp
         rw [← hlen] at g4 ⊢;exact .tight _ _ g4
       ·cases e
     ·obtain ⟨rfl,v,h1,h2⟩:=EL (w:=w) hu hz hd e Hl Hh Hm hmx;exact .pure I h1 h2
    | ref i off len full sz' l xs a cap hi' hf hv =>
     simp only [hi'] at e;split at e
     ·rename_i hh
      obtain ⟨h1,h2,h3⟩:=hh;subst h3;obtain ⟨a',c',e1,hsv⟩:=hv h1;cases e1;have hcap:full - off≤cap∧len≤cap:=by
       rcases I.blk i _ hi' with ⟨q1,q2,q3⟩ | ⟨q1,q2,_⟩
       ·subst q2;simp at h1;omega
       ·rcases hsv with ⟨z1,_⟩ | ⟨_,z2,z3,_⟩
        ·rw [q1] at z1;cases z1
        ·omega
      split at e
      ·rename_i hn
       have hm:mx=none:=by simpa using hn
       subst hm;cases mx' with
       | some _=>cases Hm
       | none =>
        cases hb:kw (NK len (full - off) hi) lo hi with
        | none=>rw [hb] at e;cases e
        | some r =>
         obtain ⟨l',u⟩:=r;rw [hb] at e;cases e;obtain ⟨g1,g2,g3⟩:=vg (w:=w) (len:=len) (cap:=cap) hb Hl Hh (fun q=>by subst q;rfl) (by cases hi<;>simp [NK]<;>omega);refine .pure I (rD hu hz g3) ?_;refine .ref i (off+l') (u - l') full sz l xs _ _ hi' hf (fun q=>?_);refine ⟨_,_,rfl,?_⟩;have hu2:off+u≤full:=by cases hi<;>simp [NK] at g2<;>omega
         rcases hsv with ⟨z1,z2,z3,z4⟩ | ⟨z1,z2,z3,z4,z5⟩
         ·left;have hx:xs=[]:=by
           rcases I.blk i _ hi' with ⟨_,q2,_⟩ | ⟨q1,_⟩
           ·exact q2
           ·rw [z1] at q1;cases q1
          subst hx;simp at h1;refine ⟨z1,?_,by omega,by omega⟩;split
          ·exact z2
          ·rw [z2];rfl
         ·right;have hxc:xs.length≤(μ i).cap:=by
           rcases I.blk i _ hi' with ⟨q1,_⟩ | ⟨_,q2,_⟩
           ·rw [q1] at z1;cases z1
           ·exact q2
          refine ⟨z1,by omega,by omega,?_,?_⟩
          ·split
           ·exact z4
           ·simpa using z4
          ·intro q;by_cases hq:cap=l'
           ·rw [if_pos hq];have:off+l'=0:=by omega
            have h0:off=0:=by omega
            have hl0:l'=0:=by omega
            subst h0 hl0;exact z5 (.inr rfl)
           ·rw [if_neg hq,z5 (by omega)];simp [mg,fD]
      ·split at e
       ·
        have hx:∃ V',Inv c.P V' ((if l then Delta.same else .set (s.set i (.arr sz true xs))).apply s).get μ w ∧
          Evo V s.get μ w V' ((if l then Delta.same else .set (s.set i (.arr sz true xs))).apply s).get μ w∧jB c.P V' (.sl ((xs.drop off).take len)) (.slice a len cap) ∧
          ((if l then Delta.same else .set (s.set i (.arr sz true xs))).apply s).out=s.out:=by
         have:=BR (x := .sl ((xs.drop off).take len)) (o:=if l then none else some (s.set i (.arr sz true xs))) I (.ref i off len full sz l xs a cap hi' hf hv) (by unfold S.zt;rw [hi'];simp only;rw [if_pos ⟨h1,h2⟩]);cases l<;>exact this
        obtain ⟨V',I',E',hd,hdep⟩:=hx;have hlen:((xs.drop off).take len).length=len:=by simp;omega
        have hd':jB c.P V' (.sl ((xs.drop off).take len)) (.slice a ((xs.drop off).take len).length cap):=by
         have:=hd;rw [show (Value.slice a len cap)=Value.slice a ((xs.drop off).take len).length cap from by rw [hlen]] at this;exact this
        obtain ⟨rfl,v,k1,k2⟩:=EL (w:=w) (s:=s) hu hz hd' e (Hl.mono E'.view) (Hh.mono E'.view) (Hm.mono E'.view) hmx;rw [hlen] at k1;refine ⟨v,w,V',μ,k1,?_,I',E',hdep⟩;exact k2.mono (.refl _) (fun j _ b hb=>E'.keep j b hb)
       ·cases mx with
        | none=>cases e
        | some ma =>
         cases ma with
         | d md =>
          cases md with
          | int k m =>
           simp only [Un] at e;cases hb:kw (full - off) lo hi with
           | none=>rw [hb] at e;cases e
           | some r =>
            obtain ⟨l',u⟩:=r;rw [hb] at e;simp only at e;split at e
            ·rename_i hmm
             cases e;cases mx' with
             | none=>cases Hm
             | some mv =>
              have:=KY (P:=c.P) (V:=V) (h:=s.get) (μ:=μ) Hm;subst this;have hm0:m=((m.toNat:Nat):Int):=by omega
              rw [hm0];have hh:hi≠none:=by rintro rfl;simp at hmx
              have g3:=Bc (w:=w) (len:=len) (cap:=cap) (k:=k) (m:=m.toNat) hb Hl Hh hh hcap.1 (by omega) (by omega);exact .pure I (rD hu hz g3) (.unk _)
            ·cases e
          | _=>cases e
         | _=>cases e
     ·cases e
    | _=>cases e
end
end Go.Lx
namespace Go.Lx
section
variable {P:Program} {V:View} {μ:Id→Pl} {w:World}
theorem II {s:S} (I:Inv P V s.get μ w) {i:Id} {kt:TypeId} {l:Bool} {es:List (D×D)} (hi:s.get i=some (.map kt l es)) :
  ∃ V',Inv P V' (s.set i (.map kt true es)).get μ w∧Evo V s.get μ w V' (s.set i (.map kt true es)).get μ w∧jB P V' (.mp kt es) (.map (some (μ i).blk)):=by
 obtain ⟨hget,_⟩:=S.nH hi (.map kt true es);rw [hget];have K:∀ j b,s.get j=some b→∃ b',upd s.get i (.map kt true es) j=some b'∧qo b (μ j) b' (μ j):=by
  intro j b hb;by_cases e:j=i
  ·subst e;rw [hi] at hb;cases hb;exact ⟨_,upd_same _ _ _,rfl⟩
  ·exact ⟨b,by rw [upd_ne _ _ e];exact hb, .refl _ _⟩
 have ownIff:∀ j x,upd s.get i (.map kt true es) j=some x→(μ j).nil=false→∃ b0,s.get j=some b0∧(μ j).nil=false∧(μ j).blk=(μ j).blk:=by
  intro j x hx hn;by_cases e:j=i
  ·subst e;exact ⟨_,hi,hn,rfl⟩
  ·rw [upd_ne _ _ e] at hx;exact ⟨x,hx,hn,rfl⟩
 obtain ⟨hn,h3,en,h5,h6,h7,h8⟩:=I.blk i _ hi
 let V':View:=⟨V.cell,fun r e c=>V.map r e c∨(r=(μ i).blk∧e=en∧c=es.length)⟩
 have hV:V.Le V':=⟨fun _ _ _ x=>x,fun _ _ _ x => .inl x⟩
 have sound:∀ r e c,V'.map r e c→w.heap[r]?=some (.map e c):=by
  rintro r e c (q | ⟨rfl,rfl,rfl⟩)
  ·exact I.map r e c q
  ·exact h5
 have hown:oq s.get μ (μ i).blk:=⟨i,_,hi,hn,rfl⟩
 refine ⟨V',⟨?_,?_,I.cell,sound,zT I.tidy⟩,⟨rfl,rfl,rfl,bu _,fun _ _ _=>rfl,hV,fun _ _ _ x => .inl x,?_,fun j x hx hn => .inl (ownIff j x hx hn),K⟩,?_⟩
 ·intro j b hb;by_cases e:j=i
  ·subst e;rw [upd_same] at hb;cases hb;exact ⟨hn,(by intro e;cases e),en,h5,h6,fun k e m he hm=>⟨(h7 k e m he hm).1.mono hV,(h7 k e m he hm).2.1.mono hV,(h7 k e m he hm).2.2⟩,h8⟩
  ·rw [upd_ne _ _ e] at hb;have hne:(μ j).nil=false→(μ j).blk≠(μ i).blk:=fun q=>I.apart j i b _ hb hi e q hn
   have B:I8 P V (upd s.get i (.map kt true es)) μ w (μ j) b:=(I.blk j b hb).mono K;cases b with
   | arr sz2 lent2 xs2 =>
    rcases B with B | ⟨b1,b2,b3,b4,c2,e2,b5,b6,hpl2,ev2,b7⟩
    ·exact .inl B
    ·exact .inr ⟨b1,b2,b3,b4,c2,e2,b5,b6,hpl2,ev2,fun k d hd=>⟨(b7 k d hd).1.mono hV,(b7 k d hd).2⟩⟩
   | box cs =>
    obtain ⟨b1,b3,c2,e2,b5,b6,b7⟩:=B;exact ⟨b1,b3,c2,e2,b5,b6,fun k a v ha hv=>⟨(b7 k a v ha hv).1.mono hV (fun i _ b hb=>⟨b,hb, .refl _ _⟩),(b7 k a v ha hv).2⟩⟩
   | map kt xJ es =>
    obtain ⟨b1,b3,en,b5,b6,b7,b8⟩:=B;refine ⟨b1,?_,en,b5,b6,fun k e m he hm=>⟨(b7 k e m he hm).1.mono hV,(b7 k e m he hm).2.1.mono hV,(b7 k e m he hm).2.2⟩,b8⟩
    rintro e x c (q | ⟨q,_⟩)
    ·exact b3 e x c q
    ·exact hne b1 q
   | nest sz2 xs2 =>
    rcases B with B | ⟨b1,b2,b3,c2,e2,b5,b6,hpl2,b7⟩
    ·exact .inl B
    ·exact .inr ⟨b1,b2,b3,c2,e2,b5,b6,hpl2,fun k e he=>⟨(b7 k e he).1,fun q a v ha hv=>((b7 k e he).2 q a v ha hv).mono hV (fun i _ b hb=>⟨b,hb, .refl _ _⟩)⟩⟩
   | fam _=>exact B.elim
   | gap=>exact B
   | tail sz2 g2 xs2 =>
    rcases B with B | ⟨b1,b2,b3,c2,e2,b5,b6,hpl2,ev2,b7⟩
    ·exact .inl B
    ·exact .inr ⟨b1,b2,b3,c2,e2,b5,b6,hpl2,ev2,fun k e he=>⟨(b7 k e he).1.mono hV,(b7 k e he).2⟩⟩
 ·intro j k x y hx hy hne n1 n2;have fix:∀ q z,upd s.get i (.map kt true es) q=some z→∃ z',s.get q=some z':=by
   intro q z hz;by_cases e:q=i
   ·subst e;exact ⟨_,hi⟩
   ·rw [upd_ne _ _ e] at hz;exact ⟨z,hz⟩
  obtain ⟨x',hx'⟩:=fix j x hx;obtain ⟨y',hy'⟩:=fix k y hy;exact I.apart j k x' y' hx' hy' hne n1 n2
 ·rintro b c v (q | ⟨rfl,_⟩)
  ·exact .inl q
  ·exact .inr (.inl hown)
 ·exact .mp kt es _ en es.length (.inr ⟨rfl,rfl,rfl⟩) h6 (fun k e m he hm=>(h7 k e m he hm).1.mono hV) (fun k e m he hm=>(h7 k e m he hm).2.1.mono hV) h8 rfl (fun k m hm=>by
   have hk:k < es.length:=by rw [← h6];exact (aO.1 hm).1
   exact (h7 k es[k] m (by simp [hk]) hm).2.2)
structure RG (P:Program) (V:View) (s:S) (μ:Id→Pl) (w:World) (o:Option S) (V':View):Prop where
 inv:Inv P V' (S.ok o s).get μ w
 evo:Evo V s.get μ w V' (S.ok o s).get μ w
 dep:(S.ok o s).out=s.out
theorem RG.none {s:S} (I:Inv P V s.get μ w):RG P V s μ w none V:=⟨I, .refl _ _ _ _,rfl⟩
mutual
theorem Fz:∀ (a:A) {s:S} {V:View} (_:Inv P V s.get μ w) {a':A} {o:Option S} {cv:Value},s.yt a=some (a',o)→iI P V s.get μ a cv →
  ∃ V',RG P V s μ w o V'∧iI P V' (S.ok o s).get μ a' cv
 | .d x,s,V,I,a',o,cv,e,H=>by simp only [S.yt] at e;cases e;exact ⟨V, .none I,H⟩
 | .tight xs,s,V,I,a',o,cv,e,H=>by
  simp only [S.yt] at e;cases e;cases H with
  | tight _ a hd=>exact ⟨V, .none I, .d _ _ hd⟩
 | .ref i off len full,s,V,I,a',o,cv,e,H=>by
  simp only [S.yt] at e;cases hl:s.zt i off len full with
  | none=>rw [hl] at e;cases e
  | some r =>
   obtain ⟨x,o'⟩:=r;rw [hl] at e;cases e;obtain ⟨V',h1,h2,h3,h4⟩:=BR I H hl;exact ⟨V',⟨h1,h2,h4⟩, .d _ _ h3⟩
 | .agg cs,s,V,I,a',o,cv,e,H=>by
  simp only [S.yt] at e;cases hl:s.FB cs with
  | none=>rw [hl] at e;cases e
  | some r =>
   obtain ⟨xs,o'⟩:=r;rw [hl] at e;cases e;cases H with
   | agg _ vs hn hc hp =>
    obtain ⟨V',h1,h2,h3⟩:=MW cs I hl (vs:=vs.toList) (by simpa using hn) (fun k a v ha hv=>hc k a v ha (by simpa using hv));refine ⟨V',h1,zx (.agg xs vs (by rw [h2];exact hn) (fun k d v hd hv=>h3 k d v hd (by simpa using hv)) hp)⟩
 | .pimm x 0,s,V,I,a',o,cv,e,H=>by
  simp only [S.yt] at e;cases e;cases H with
  | pimm _ _ ev b o hd hv=>exact ⟨V, .none I, .d _ _ (.pbox x ev b _ hd hv)⟩
 | .pimm x (n+1),s,V,I,a',o,cv,e,H=>by simp [S.yt] at e
 | .mref i,s,V,I,a',o,cv,e,H=>by
  simp only [S.yt] at e;cases H with
  | mref _ kt l es hi =>
   rw [hi] at e;cases e;obtain ⟨V',h1,h2,h3⟩:=II I hi;cases l with
   | false=>exact ⟨V',⟨h1,h2,(S.nH hi _).2⟩, .d _ _ h3⟩
   | true =>
    have hsame:(s.set i (.map kt true es)).get=s.get:=by
     rw [(S.nH hi _).1]
     funext j
     unfold upd;split
     ·rename_i e;rw [e,hi]
     ·rfl
    rw [hsame] at h1 h2;exact ⟨V',⟨h1,h2,rfl⟩, .d _ _ h3⟩
 | .bptr i off,s,V,I,a',o,cv,e,H=>by simp only [S.yt] at e;cases e;exact ⟨V, .none I,H⟩
 | .eptr i ix off len,s,V,I,a',o,cv,e,H=>by simp only [S.yt] at e;cases e;exact ⟨V, .none I,H⟩
 | .clo f caps,s,V,I,a',o,cv,e,H=>by simp only [S.yt] at e;cases e;exact ⟨V, .none I,H⟩
 | .own _ _,s,V,I,a',o,cv,e,H=>by cases H
 | .undef,s,V,I,a',o,cv,e,H=>by simp [S.yt] at e
 | .unk,s,V,I,a',o,cv,e,H=>by simp [S.yt] at e
 | .tup _,s,V,I,a',o,cv,e,H=>by simp [S.yt] at e
theorem MW:∀ (cs:List A) {s:S} {V:View} (_:Inv P V s.get μ w) {cs':List A} {o:Option S} {vs:List Value},s.FB cs=some (cs',o)→vs.length=cs.length →
  (∀ (k:Nat) a v,cs[k]?=some a→vs[k]?=some v→iI P V s.get μ a v) →
  ∃ V',RG P V s μ w o V'∧cs'.length=cs.length∧(∀ (k:Nat) a v,cs'[k]?=some a→vs[k]?=some v→iI P V' (S.ok o s).get μ a v)
 | [],s,V,I,cs',o,vs,e,hn,H=>by simp only [S.FB] at e;cases e;exact ⟨V, .none I,rfl,fun k a v ha=>by simp at ha⟩
 | x::rest,s,V,I,cs',o,vs,e,hn,H=>by
  cases vs with
  | nil=>simp at hn
  | cons v vr =>
   simp only [S.FB] at e;cases hx:s.yt x with
   | none=>rw [hx] at e;cases e
   | some r =>
    obtain ⟨x',o1⟩:=r;rw [hx] at e;simp only at e;cases hr:(o1.getD s).FB rest with
    | none=>rw [hr] at e;cases e
    | some r2 =>
     obtain ⟨rest',o2⟩:=r2;rw [hr] at e;obtain ⟨V1,L1,R1⟩:=Fz x I hx (H 0 x v rfl rfl);obtain ⟨V2,L2,hl,R2⟩:=MW rest (s:=S.ok o1 s) L1.inv hr (vs:=vr) (by simpa using hn) (fun k a v' ha hv=>L1.evo.zI (H (k+1) a v' ha hv));have hok:S.ok (orS o2 o1) s=S.ok o2 (S.ok o1 s):=by cases o2<;>rfl
     cases e;refine ⟨V2,⟨by rw [hok];exact L2.inv,by rw [hok];exact L1.evo.trans L2.evo,by rw [hok];exact L2.dep.trans L1.dep⟩,by simp [hl],?_⟩;rw [hok];intro k a v' ha hv;cases k with
     | zero=>simp at ha hv;subst ha hv;exact L2.evo.zI R1
     | succ k=>exact R2 k a v' (by simpa using ha) (by simpa using hv)
end
theorem Nr {s:S} (I:Inv P V s.get μ w) {a:A} {x:D} {o:Option S} {cv:Value} (e:s.toD a=some (x,o)) (H:iI P V s.get μ a cv) :
  ∃ V',RG P V s μ w o V'∧jB P V' x cv:=by
 unfold S.toD at e;split at e
 ·rename_i y o' hl
  cases e;obtain ⟨V',L,R⟩:=Fz a I hl H;exact ⟨V',L,R.dOf⟩
 ·cases e
end
end Go.Lx
namespace Go.Lx
section
variable {P:Program} {V:View} {h:Id→Option Blk} {μ:Id→Pl} {w:World}
theorem I8.world {w':World} {p:Pl} {b:Blk} (hw:p.nil=false→w'.heap[p.blk]?=w.heap[p.blk]?) (B:I8 P V h μ w p b):I8 P V h μ w' p b:=by
 cases b with
 | arr sz xJ xs =>
  rcases B with B | ⟨h1,h2,h3,h4,cells,elem,h5,h6⟩
  ·exact .inl B
  ·exact .inr ⟨h1,h2,h3,h4,cells,elem,(hw h1).trans h5,h6⟩
 | box cs=>obtain ⟨h1,h3,cells,elem,h5,h6⟩:=B;exact ⟨h1,h3,cells,elem,(hw h1).trans h5,h6⟩
 | map kt xJ es=>obtain ⟨h1,h3,en,h5,h6⟩:=B;exact ⟨h1,h3,en,(hw h1).trans h5,h6⟩
 | nest sz xs =>
  rcases B with B | ⟨h1,h2,h3,cells,elem,h5,h6⟩
  ·exact .inl B
  ·exact .inr ⟨h1,h2,h3,cells,elem,(hw h1).trans h5,h6⟩
 | fam _=>exact B.elim
 | gap=>exact B
 | tail sz g xs =>
  rcases B with B | ⟨h1,h2,h3,cells,elem,h5,h6⟩
  ·exact .inl B
  ·exact .inr ⟨h1,h2,h3,cells,elem,(hw h1).trans h5,h6⟩
theorem Inv.Rf {w':World} (I:Inv P V h μ w) {i:Id} {b0:Blk} (hi:h i=some b0) (b':Blk) (p':Pl)
  (hp':p'.nil=false→(p'.blk=(μ i).blk∧(μ i).nil=false)∨w.heap.size≤p'.blk)
  (hold:∀ k,k < w.heap.size→((μ i).nil=true∨k≠(μ i).blk)→w'.heap[k]?=w.heap[k]?)
  (hc:∀ c v,(μ i).nil=false→V.cell (μ i).blk c v→w'.cell? ⟨(μ i).blk,c,none⟩=some v)
  (hm:∀ e c,(μ i).nil=false→V.map (μ i).blk e c→w'.heap[(μ i).blk]?=some (.map e c))
  (hos:w'.os=w.os) (htp:w'.tape=w.tape) (hout:w'.output=w.output) (hsz:w.heap.size≤w'.heap.size)
  (hb:I8 P V (upd h i b') (yG μ i p') w' p' b') (le:qo b0 (μ i) b' p') (ht:∀ j∈b'.ids,j.d≤i.d:=by intro _ q;cases q) :
  Inv P V (upd h i b') (yG μ i p') w'∧Evo V h μ w V (upd h i b') (yG μ i p') w':=by
 have K:∀ j x,h j=some x→∃ x',upd h i b' j=some x'∧qo x (μ j) x' (yG μ i p' j):=by
  intro j x hx;by_cases e:j=i
  ·subst e;rw [hi] at hx;cases hx;exact ⟨b',upd_same _ _ _,by rw [fP];exact le⟩
  ·exact ⟨x,by rw [upd_ne _ _ e];exact hx,by rw [iW _ _ e];exact .refl _ _⟩
 have cellAll:∀ b c v,V.cell b c v→w'.cell? ⟨b,c,none⟩=some v:=by
  intro b c v hv;have h1:=I.cell b c v hv;have h2:b < w.heap.size:=World.block_lt_of_cell? w _ h1;by_cases e:(μ i).nil=true∨b≠(μ i).blk
  ·rw [← h1];unfold World.cell?;simp only [hold b h2 e]
  ·have e1:(μ i).nil=false:=by cases q:(μ i).nil;rfl;exact absurd (.inl q) e
   have e2:b=(μ i).blk:=Classical.byContradiction fun q=>e (.inr q)
   subst e2;exact hc c v e1 hv
 have mapAll:∀ r e c,V.map r e c→w'.heap[r]?=some (.map e c):=by
  intro r en c hv;have h1:=I.map r en c hv;have h2:r < w.heap.size:=(aO.1 h1).1;by_cases e:(μ i).nil=true∨r≠(μ i).blk
  ·rw [hold r h2 e,h1]
  ·have e1:(μ i).nil=false:=by cases q:(μ i).nil;rfl;exact absurd (.inl q) e
   have e2:r=(μ i).blk:=Classical.byContradiction fun q=>e (.inr q)
   subst e2;exact hm en c e1 hv
 refine ⟨⟨?_,?_,cellAll,mapAll,zT I.tidy ht⟩,hos,htp,hout,hsz,?_, .refl V,fun _ _ _ x => .inl x,fun _ _ _ x => .inl x,?_,K⟩
 ·intro j x hx;by_cases e:j=i
  ·subst e;rw [upd_same] at hx;cases hx;rw [fP];exact hb
  ·rw [upd_ne _ _ e] at hx;rw [iW _ _ e];refine I8.mono (I8.world ?_ (I.blk j x hx)) K;intro hn;refine hold _ (oq.lt I ⟨j,x,hx,hn,rfl⟩) ?_;cases q:(μ i).nil with
   | true=>exact .inl rfl
   | false=>exact .inr (I.apart j i x b0 hx hi e hn q)
 ·intro j k x y hx hy hne n1 n2;have far:∀ j x,j≠i→h j=some x→(μ j).nil=false→p'.nil=false→(μ j).blk≠p'.blk:=by
   intro j x e hx hn hn';have hlt:(μ j).blk < w.heap.size:=oq.lt I ⟨j,x,hx,hn,rfl⟩;rcases hp' hn' with ⟨q,q'⟩ | q
   ·rw [q];exact I.apart j i x b0 hx hi e hn q'
   ·omega
  by_cases e1:j=i
  ·subst e1;have e2:k≠j:=fun e=>hne e.symm
   rw [fP] at n1;rw [upd_ne _ _ e2] at hy;rw [iW _ _ e2] at n2;rw [fP,iW _ _ e2];exact fun q=>far k y e2 hy n2 n1 q.symm
  ·rw [upd_ne _ _ e1] at hx;rw [iW _ _ e1] at n1;rw [iW _ _ e1];by_cases e2:k=i
   ·subst e2;rw [fP] at n2;rw [fP];exact far j x e1 hx n1 n2
   ·rw [upd_ne _ _ e2] at hy;rw [iW _ _ e2] at n2;rw [iW _ _ e2];exact I.apart j k x y hx hy hne n1 n2
 ·intro k hk ho;refine hold k hk ?_;cases q:(μ i).nil with
  | true=>exact .inl rfl
  | false=>exact .inr (fun e=>ho ⟨i,b0,hi,q,e.symm⟩)
 ·intro j x hx n1;by_cases e:j=i
  ·subst e;rw [fP] at n1;rw [fP];rcases hp' n1 with ⟨q,q'⟩ | q
   ·exact .inl ⟨b0,hi,q',q.symm⟩
   ·exact .inr q
  ·rw [upd_ne _ _ e] at hx;rw [iW _ _ e] at n1;rw [iW _ _ e];exact .inl ⟨x,hx,n1,rfl⟩
def iw (P:Program) (V:View) (sz:Nat) (xs:List D) (cs:List Value):Prop :=
 cs.length=xs.length * sz∧(∀ v∈cs,Plain v)∧∃ ev:Nat→Value,∀ (i:Nat) d,xs[i]?=some d→jB P V d (ev i)∧(ev i).cells.size=sz∧∀ (j:Nat) v,(ev i).cells[j]?=some v→cs[i * sz+j]?=some v
theorem iw.mono {V':View} {sz:Nat} {xs:List D} {cs:List Value} (H:iw P V sz xs cs) (hV:V.Le V'):iw P V' sz xs cs:=by
 obtain ⟨h1,h2,ev,h3⟩:=H;exact ⟨h1,h2,ev,fun i d hd=>⟨(h3 i d hd).1.mono hV,(h3 i d hd).2⟩⟩
theorem iw.nil (sz:Nat):iw P V sz [] []:=⟨by simp,by simp,fun _=>Go.undef,fun i d hd=>by simp at hd⟩
theorem iw.append {sz:Nat} {xs ys:List D} {cs ds:List Value} (H:iw P V sz xs cs) (H':iw P V sz ys ds):iw P V sz (xs++ys) (cs++ds):=by
 obtain ⟨h1,h2,ev,h3⟩:=H;obtain ⟨k1,k2,ev',k3⟩:=H';refine ⟨by simp [h1,k1,fD],?_,fun i=>if i < xs.length then ev i else ev' (i - xs.length),?_⟩
 ·intro v hv;rcases aU.1 hv with q | q
  ·exact h2 v q
  ·exact k2 v q
 ·intro i d hd;by_cases e:i < xs.length
  ·rw [cZ e] at hd;obtain ⟨a,b,c⟩:=h3 i d hd;simp only [if_pos e];refine ⟨a,b,fun j v hv=>?_⟩;have:=c j v hv;rw [cZ (aC.1 this).1];exact this
  ·rw [dY (by omega)] at hd;obtain ⟨a,b,c⟩:=k3 _ d hd;simp only [if_neg e];refine ⟨a,b,fun j v hv=>?_⟩;have:=c j v hv;have e2:i * sz+j=cs.length+((i - xs.length) * sz+j):=by
    rw [h1,← lH,← fD]
    congr 2
    omega
   rw [e2,dY (by omega)];simpa using this
theorem iw.take {sz:Nat} {xs:List D} {cs:List Value} (H:iw P V sz xs cs) (n:Nat):iw P V sz (xs.take n) (cs.take (n * sz)):=by
 obtain ⟨h1,h2,ev,h3⟩:=H;refine ⟨?_,fun v hv=>h2 v (jU hv),ev,?_⟩
 ·simp only [jK,h1];rcases Nat.le_total n xs.length with q | q
  ·rw [Nat.min_eq_left q,Nat.min_eq_left (aX _ q)]
  ·rw [Nat.min_eq_right q,Nat.min_eq_right (aX _ q)]
 ·intro i d hd;rw [dh] at hd;split at hd
  ·rename_i hlt
   obtain ⟨a,b,c⟩:=h3 i d hd;refine ⟨a,b,fun j v hv=>?_⟩;have hj:j < sz:=by rw [← b];exact (aO.1 hv).1
   have:i * sz+j < n * sz:=by
    calc i * sz+j < i * sz+sz:=by omega
     _=(i+1) * sz:=by rw [fD,kD]
     _≤n * sz:=aX _ hlt
   rw [dh,if_pos this];exact c j v hv
  ·cases hd
theorem iw.drop {sz:Nat} {xs:List D} {cs:List Value} (H:iw P V sz xs cs) (n:Nat):iw P V sz (xs.drop n) (cs.drop (n * sz)):=by
 obtain ⟨h1,h2,ev,h3⟩:=H;refine ⟨by simp [h1,Nat.sub_mul],fun v hv=>h2 v (List.mem_of_mem_drop hv),fun i=>ev (n+i),?_⟩;intro i d hd;rw [fF] at hd;obtain ⟨a,b,c⟩:=h3 _ d hd;refine ⟨a,b,fun j v hv=>?_⟩;have:=c j v hv;rw [fF,← lH,← fD];exact this
theorem DC {sz:Nat} {xs:List D} {cells:Array Value} (H:Qp P V sz xs cells) (hn:xs.length * sz≤cells.size):iw P V sz xs (cells.toList.take (xs.length * sz)):=by
 obtain ⟨ev,h3⟩:=H;have inRow:∀ (i:Nat) d,xs[i]?=some d→∀ (j:Nat) v,(ev i).cells[j]?=some v→i * sz+j < xs.length * sz:=by
  intro i d hd j v hv;obtain ⟨a,b,c⟩:=h3 i d hd;have hi:i < xs.length:=(aC.1 hd).1;have hj:j < sz:=by rw [← b];exact (aO.1 hv).1
  calc i * sz+j < i * sz+sz:=by omega
   _=(i+1) * sz:=by rw [fD,kD]
   _≤xs.length * sz:=aX _ hi
 refine ⟨by simp;omega,?_,ev,?_⟩
 ·intro v hv;obtain ⟨k,hk,rfl⟩:=List.mem_iff_getElem.1 hv;have hk':k < xs.length * sz:=by simp at hk;omega
  have hz:0 < sz:=by
   rcases lg sz with q | q
   ·subst q;simp at hk'
   ·exact q
  have hi:k / sz < xs.length:=(Nat.div_lt_iff_lt_mul hz).2 hk';obtain ⟨a,b,c⟩:=h3 (k / sz) _ (ax hi);have hj:k % sz < (ev (k / sz)).cells.size:=by rw [b];exact Nat.mod_lt _ hz
  have hx:=c (k % sz) _ (bI hj);have e:k / sz * sz+k % sz=k:=by rw [Nat.mul_comm];exact Nat.div_add_mod k sz
  rw [e] at hx;have:(List.take (xs.length * sz) cells.toList)[k]=(ev (k / sz)).cells[k % sz]:=by
   rw [List.getElem_take];have:=(aO.1 hx).2;simpa using this
  rw [this];exact a.cells.2.2 _ _ (bI hj)
 ·intro i d hd;obtain ⟨a,b,c⟩:=h3 i d hd;refine ⟨a,b,fun j v hv=>?_⟩;rw [dh,if_pos (inRow i d hd j v hv)];simpa using c j v hv
theorem xC {sz:Nat} {xs:List D} {cells:Array Value} (H:CU P V sz xs cells) (hn:xs.length * sz≤cells.size):iw P V sz xs (cells.toList.take (xs.length * sz)):=DC H.2 hn
theorem wz {xs ys:List Value} {n:Nat} (hx:∀ (k:Nat) v,xs[k]?=some v→Plain v) (hy:∀ v∈ys,Plain v):∀ (k:Nat) v,(splice xs n ys).toArray[k]?=some v→Plain v:=by
 intro k v hk;have hm:v∈splice xs n ys:=dm (by simpa using hk);unfold splice at hm;have hx':∀ v∈xs,Plain v:=fun v hv=>by obtain ⟨k,h⟩:=jm.1 hv;exact hx k v h
 rcases aU.1 hm with q | q
 ·rcases aU.1 q with q | q
  ·exact hx' _ (jU q)
  ·exact hy _ q
 ·exact hx' _ (List.mem_of_mem_drop q)
theorem Bv {sz:Nat} {xs:List D} {cs:List Value} {cells:Array Value} (H:iw P V sz xs cs) (hp:∀ (k:Nat) v,cells[k]?=some v→Plain v) (hc:∀ (k:Nat) v,cs[k]?=some v→cells[k]?=some v):CU P V sz xs cells:=by
 obtain ⟨h1,h2,ev,h3⟩:=H;exact ⟨hp,ev,fun i d hd=>⟨(h3 i d hd).1,(h3 i d hd).2.1,fun j v hv=>hc _ _ ((h3 i d hd).2.2 j v hv)⟩⟩
end
end Go.Lx
namespace Go.Lx
section
variable {P:Program} {V:View} {μ:Id→Pl} {w:World}
theorem row_of {xs:List D} {sz:Nat} {ev:Nat→Value} (hd:∀ (i:Nat) d,xs[i]?=some d→jB P V d (ev i)) (hs:∀ i,i < xs.length→(ev i).cells.size=sz) :
  ∃ cs,iw P V sz xs cs∧∀ (k:Nat) v,cs[k]?=some v→∃ i j,i < xs.length∧j < sz∧k=i * sz+j∧(ev i).cells[j]?=some v:=by
 let cs:List Value:=(List.range (xs.length * sz)).map (fun k=>((ev (k / sz)).cells[k % sz]?).getD Go.undef)
 have hlen:cs.length=xs.length * sz:=by simp [cs]
 have hget:∀ i j,i < xs.length→j < sz→cs[i * sz+j]?=some (((ev i).cells[j]?).getD Go.undef):=by
  intro i j hi hj;have hk:i * sz+j < xs.length * sz:=by
   calc i * sz+j < i * sz+sz:=by omega
    _=(i+1) * sz:=by rw [fD,kD]
    _≤xs.length * sz:=aX _ hi
  have e1:(i * sz+j) / sz=i:=by
   rw [Nat.add_comm,Nat.add_mul_div_right _ _ (by omega),Nat.div_eq_of_lt hj,gW]
  have e2:(i * sz+j) % sz=j:=by
   rw [Nat.add_comm,Nat.add_mul_mod_self_right,Nat.mod_eq_of_lt hj]
  simp only [cs,eF];rw [List.getElem?_range hk];simp only [jT,e1,e2]
 have hrow:Qp P V sz xs cs.toArray:=by
  refine ⟨ev,fun i d hx=>⟨hd i d hx,hs i (aC.1 hx).1,fun j v hv=>?_⟩⟩;have hi:i < xs.length:=(aC.1 hx).1;have hj:j < sz:=by rw [← hs i hi];exact (aO.1 hv).1
  rw [iF,hget i j hi hj,hv];rfl
 have hC:=DC hrow (by simp [hlen]);have:(cs.toArray.toList.take (xs.length * sz))=cs:=by
  rw [List.toList_toArray,← hlen,List.take_length]
 rw [this] at hC;refine ⟨cs,hC,?_⟩;intro k v hv;have hk:k < xs.length * sz:=by rw [← hlen];exact (aC.1 hv).1
 have hz:0 < sz:=by
  rcases lg sz with q | q
  ·subst q;simp at hk
  ·exact q
 have hi:k / sz < xs.length:=(Nat.div_lt_iff_lt_mul hz).2 hk;have hj:k % sz < sz:=Nat.mod_lt _ hz;have e:k / sz * sz+k % sz=k:=by rw [Nat.mul_comm];exact Nat.div_add_mod k sz
 refine ⟨k / sz,k % sz,hi,hj,e.symm,?_⟩;have h1:=hget (k / sz) (k % sz) hi hj;rw [e,hv] at h1;have h2:(ev (k / sz)).cells[k % sz]?=some ((ev (k / sz)).cells[k % sz]'(by rw [hs _ hi];exact hj)):=bI _;rw [h2] at h1 ⊢;exact h1.symm
theorem Ri {xs:List D} {a:Option Addr} {n c sz:Nat} (hV:∀ b c v,V.cell b c v→w.cell? ⟨b,c,none⟩=some v) (H:jB P V (.sl xs) (.slice a n c))
  (hs:xs.all (fun x=>decide (x.size=sz))=true):n=xs.length∧n≤c∧∃ cs,iw P V sz xs cs∧(xs=[]∨∃ b o,a=some ⟨b,o,none⟩∧∀ (k:Nat) v,cs[k]?=some v→w.cell? ⟨b,o+k,none⟩=some v):=by
 cases H with
 | sl _ _ _ b o sz' ev hc ha hh hsz hv =>
  refine ⟨rfl,hc,?_⟩;have hsz':∀ i,i < xs.length→(ev i).cells.size=sz:=by
   intro i hi;have h1:=(hh i _ (ax hi)).cells.1;have h2:xs[i].size=sz:=of_decide_eq_true (aW.1 hs _ (dM hi));rw [h1,h2]
  obtain ⟨cs,hC,hk⟩:=row_of hh hsz';refine ⟨cs,hC,?_⟩;rcases ha with q | q
  ·exact .inl q
  ·right;refine ⟨b,o,q,?_⟩;intro k v hkv;obtain ⟨i,j,hi,hj,rfl,hx⟩:=hk k v hkv;have:=hV _ _ _ (hv i hi j v hx);have e:sz'=sz:=by rw [← hsz i hi,hsz' i hi]
   rw [e] at this;rw [← lH];exact this
theorem vI {s:S} (I:Inv P V s.get μ w) {y:A} {cv:Value} {ys:List D} {sz:Nat} (H:iI P V s.get μ y cv) (e:s.elems y=some ys)
  (hs:ys.all (fun x=>decide (x.size=sz))=true) :
  ∃ a n c,cv = .slice a n c∧n=ys.length∧n≤c∧∃ cs,iw P V sz ys cs∧(Builtin.firstCells sz n cv).run P w = .ok cs.toArray w:=by
 have key:∀ (a:Option Addr) (n c:Nat),jB P V (.sl ys) (.slice a n c)→∃ cs,n=ys.length∧n≤c∧iw P V sz ys cs∧(Builtin.firstCells sz n (.slice a n c)).run P w = .ok cs.toArray w:=by
  intro a n c hd;obtain ⟨h1,h2,cs,h3,h4⟩:=Ri (w:=w) I.cell hd hs;refine ⟨cs,h1,h2,h3,?_⟩;have hlen:=h3.1;rcases h4 with q | ⟨b,o,rfl,h4⟩
  ·subst q;have:cs=[]:=fC (by simpa using hlen);subst this;simp at h1;subst h1;cases a with
   | none=>simp [Builtin.firstCells]
   | some a=>simp [Builtin.firstCells,loadCells,loadCellsFrom]
  ·simp only [Builtin.firstCells];rw [h1,← hlen];exact run_loadCells_list (P:=P) (w:=w) ⟨b,o,none⟩ cs (fun j v hv=>by rw [mg];exact h4 j v hv)
 cases H with
 | d x v hd =>
  cases hd with
  | sl xs a c b o sz' ev hc ha hh hsz hv =>
   cases e;obtain ⟨cs,k1,k2,k3,k4⟩:=key a ys.length c (.sl ys a c b o sz' ev hc ha hh hsz hv);exact ⟨a,_,c,rfl,k1,k2,cs,k3,k4⟩
  | nilsl =>
   cases e;exact ⟨none,0,0,rfl,rfl,bu _,[], .nil sz,by simp [Builtin.firstCells]⟩
  | _=>cases e
 | tight xs a hd =>
  cases e;obtain ⟨cs,k1,k2,k3,k4⟩:=key a _ _ hd;exact ⟨a,_,_,rfl,k1,k2,cs,k3,k4⟩
 | ref i off len full sz' l xs a c hi hf hv =>
  simp only [S.elems,hi] at e;split at e
  ·rename_i hh
   obtain ⟨h1,h2⟩:=hh;cases e;have hcap:(μ i).nil=false→xs.length≤(μ i).cap:=by
    intro q;rcases I.blk i _ hi with ⟨q',_⟩ | ⟨_,q',_⟩
    ·rw [q'] at q;cases q
    ·exact q'
   have hlen:((xs.drop off).take len).length=len:=by simp;omega
   obtain ⟨V',I',E',hel⟩:=G6 I hi;have hd:=uy (V:=V') (hv h1) (by omega) hcap (fun q=>by
    rcases I.blk i _ hi with ⟨_,q',_⟩ | ⟨q',_⟩
    ·exact q'
    ·rw [q'] at q;cases q) (fun k d hd=>by obtain ⟨ev,g1,g2,g3⟩:=hel k d hd;exact ⟨ev,g1.mono E'.view,g2,g3⟩)
   rcases I.blk i _ hi with ⟨q1,q2,q3⟩ | ⟨q1,q2,q3,q4,cells,elem,q5,q6,q7⟩
   ·subst q2;simp at h1;have:len=0:=by omega
    subst this;obtain ⟨a',c',e1,hsv⟩:=hv (by simp [h1]);cases e1;refine ⟨a,0,c,rfl,by simp,kE _,[],by simpa using iw.nil sz,?_⟩;cases a with
    | none=>simp [Builtin.firstCells]
    | some a=>simp [Builtin.firstCells,loadCells,loadCellsFrom]
   ·have hC:=xC q7 (by rw [q6];exact aX _ q2);have hC2:=(hC.drop off).take len;by_cases hz:len=0
    ·subst hz;obtain ⟨a',c',e1,hsv⟩:=hv h1;cases e1;refine ⟨a,0,c,rfl,by simp,kE _,[],by simpa using iw.nil sz,?_⟩;cases a with
     | none=>simp [Builtin.firstCells]
     | some a=>simp [Builtin.firstCells,loadCells,loadCellsFrom]
    ·have hsz:sz'=sz:=by
      obtain ⟨_,ev,q8⟩:=q7;have hl:off < xs.length:=by omega
      have g1:=q8 off _ (ax hl);have g2:xs[off]∈(xs.drop off).take len:=by
       refine jm.2 ⟨0,?_⟩;rw [dh,if_pos (by omega),fF,Nat.add_zero,ax hl]
      have g3:xs[off].size=sz:=of_decide_eq_true (aW.1 hs _ g2);rw [← g1.2.1,g1.1.cells.1,g3]
     subst hsz;obtain ⟨a',c',e1,hsv⟩:=hv h1;cases e1;rcases hsv with ⟨z1,_⟩ | ⟨z1,z2,z3,z4,z5⟩
     ·rw [q1] at z1;cases z1
     ·have ha:=z5 (.inl (by omega));subst ha;refine ⟨_,len,c,rfl,by rw [hlen],by omega,_,hC2,?_⟩;have hl2:=hC2.1;rw [hlen] at hl2;simp only [Builtin.firstCells];have key2:=run_loadCells_list (P:=P) (w:=w) ⟨(μ i).blk,off * sz',none⟩ (((cells.toList.take (xs.length * sz')).drop (off * sz')).take (len * sz')) (fun j v hv=>by
       rw [mg,cell_of_row w _ _ cells elem (0,0) q5];rw [dh] at hv;split at hv
       ·rw [fF,dh] at hv;split at hv
        ·simpa using hv
        ·cases hv
       ·cases hv)
      rw [hl2] at key2;exact key2
  ·cases e
 | _=>cases e
end
end Go.Lx
namespace Go.Lx
theorem OX (n:Nat):∀ (r c:Nat),Builtin.growBy n r c≤max c (n+(n+768) / 4):=by
 intro r
 induction r with
 | zero=>intro c;simp only [Builtin.growBy];omega
 | succ r ih =>
  intro c;simp only [Builtin.growBy];split
  ·omega
  ·have:=ih (c+(c+768) / 4);have:c+(c+768) / 4≤n+(n+768) / 4:=by omega
   omega
theorem Hg (n c:Nat) (h:c < n):Builtin.nextslicecap n c≤2 * n+768:=by
 unfold Builtin.nextslicecap;split
 ·omega
 ·split
  ·omega
  ·have:=OX n 4 c;omega
section
variable {P:Program} {V:View} {μ:Id→Pl} {w:World}
theorem room_le {n b:Nat} (h:room n b=true):n≤16777216∧b≤1048576:=by
 simp only [room,bF,iq] at h;exact h
def nO (w:World) (o:Obj):World:=(w.drew).alloc o
theorem wQ {t t2 el el2:TypeId} {i:TypeInfo} {z:Value} {a b:Option Addr} {len cap n c' sz:Nat} {xs ys:List Value} (ty:TypeId)
  (hu:P.underlying t=some (.slice el)) (hu2:P.underlying t2=some (.slice el2)) (hi:P.info? el=some i) (hz:i.zero=some z) (hsz:lQ P el=some sz)
  (hr:room (len+n) i.bytes=true) (hb:0 < i.bytes) (hcap:cap < len+n)
  (hx:(Builtin.firstCells sz len (.slice a len cap)).run P w.drew = .ok xs.toArray w.drew) (hy:(Builtin.firstCells sz n (.slice b n c')).run P w.drew = .ok ys.toArray w.drew) :
  ∃ k,(Builtin.append_ #[t,t2] ty #[.slice a len cap, .slice b n c']).run P w =
   .ok (.slice (some ⟨w.heap.size,0,none⟩) (len+n) (len+n+k)) (nO w (.cells ((xs++ys).toArray++Builtin.zeroCells z.cells k) el)):=by
 obtain ⟨h1,h2⟩:=room_le hr;have hnc:=Hg (len+n) cap hcap;have hbig:¬ (Builtin.nextslicecap (len+n) cap * i.bytes > 2 ^ 48):=by
  have:Builtin.nextslicecap (len+n) cap * i.bytes≤(2 * 16777216+768) * 1048576:=Nat.mul_le_mul (by omega) h2;omega
 have hbig2:¬ ((Builtin.nextslicecap (len+n) cap:Int) * (i.bytes:Int) > 2 ^ 48):=by
  have:=hbig;omega
 refine ⟨w.tape w.drawn (.appendCap (len+n) cap el) % (2 ^ 63 - (len+n)),?_⟩;have hneed:¬ (len+n≤cap):=by omega
 have hz0:¬ (i.bytes=0):=by omega
 simp [Builtin.append_,cO hu,cO hu2,iP hsz,Builtin.lenOf,hneed,hz0,hbig,Question.forced,Question.cut,hx,hy,zeroValue,hz,newRow,nO,typeInfo,hi];refine congrArg _ (congrArg (fun c=>Obj.cells c el) ?_);rw [← Array.append_assoc]
 congr 1
 simp
theorem Cf {t t2 el el2:TypeId} {g:Nat} {b:Option Addr} {len cap n c' sz:Nat} {ys:List Value} {cur:Array Value} {elem:TypeId} (ty:TypeId)
  (hu:P.underlying t=some (.slice el)) (hu2:P.underlying t2=some (.slice el2)) (hsz:lQ P el=some sz)
  (hcap:len+n≤cap) (hg:w.heap[g]?=some (.cells cur elem (0,0))) (hfit:len * sz+ys.length≤cur.size) (hp:∀ v∈ys,Plain v)
  (hy:(Builtin.firstCells sz n (.slice b n c')).run P w = .ok ys.toArray w) :
  ∃ w',(Builtin.append_ #[t,t2] ty #[.slice (some ⟨g,0,none⟩) len cap, .slice b n c']).run P w = .ok (.slice (some ⟨g,0,none⟩) (len+n) cap) w' ∧
   w'.heap[g]?=some (.cells (splice cur.toList (len * sz) ys).toArray elem (0,0)) ∧
   (∀ k,k≠g→w'.heap[k]?=w.heap[k]?)∧w'.heap.size=w.heap.size∧w'.os=w.os∧w'.tape=w.tape∧w'.output=w.output:=by
 obtain ⟨w',h1,h2⟩:=rY (P:=P) g elem ys (len * sz) 0 cur w hg (by omega) hp;refine ⟨w',?_,by simpa using h2⟩;simp [Builtin.append_,cO hu,cO hu2,iP hsz,Builtin.lenOf,hcap,hy,mg,h1]
theorem run_append_nil {t t2 el el2:TypeId} {b:Option Addr} {a:Option Addr} {len cap c' sz:Nat} (ty:TypeId)
  (hu:P.underlying t=some (.slice el)) (hu2:P.underlying t2=some (.slice el2)) (hsz:lQ P el=some sz) (hcap:len≤cap)
  (hy:(Builtin.firstCells sz 0 (.slice b 0 c')).run P w = .ok #[] w) :
  (Builtin.append_ #[t,t2] ty #[.slice a len cap, .slice b 0 c']).run P w = .ok (.slice a len cap) w:=by
 cases a<;>simp [Builtin.append_,cO hu,cO hu2,iP hsz,Builtin.lenOf,hcap,hy,storeCells]
theorem Inv.drew {h:Id→Option Blk} (I:Inv P V h μ w):Inv P V h μ w.drew :=
 ⟨fun i b hb=>(I.blk i b hb).world (fun _=>rfl),I.apart,I.cell,I.map,I.tidy⟩
theorem Evo.drew {h:Id→Option Blk}:Evo V h μ w V h μ w.drew :=
 ⟨rfl,rfl,rfl,bu _,fun _ _ _=>rfl, .refl V,fun _ _ _ x => .inl x,fun _ _ _ x => .inl x,fun i b hb hn => .inl ⟨b,hb,hn,rfl⟩,fun _ b hb=>⟨b,hb, .refl _ _⟩⟩
theorem PS {sz:Nat} {xs:List D} {cs:List Value} (H:iw P V sz xs cs) (rest:Array Value) (hr:∀ v∈rest,Plain v):CU P V sz xs (cs.toArray++rest) :=
 Bv H (fun k v hk=>by
  have hm:=Array.mem_of_getElem? hk;rcases Array.mem_append.1 hm with q | q
  ·exact H.2.1 v (by simpa using q)
  ·exact hr v q) (fun k v hk=>by
  rw [Array.getElem?_append_left (by simpa using (aC.1 hk).1)];simpa using hk)
theorem kN (z:Array Value) (k:Nat):(Builtin.zeroCells z k).size=k * z.size:=by simp [Builtin.zeroCells]
end
end Go.Lx
namespace Go.Lx
section
variable {P:Program} {V:View} {μ:Id→Pl} {w:World}
theorem pY {t e:TypeId} (h:um P t=some e):P.underlying t=some (.slice e):=by
 unfold um at h;cases hu:P.underlying t with
 | none=>rw [hu] at h;cases h
 | some d=>rw [hu] at h;cases d<;>first | (cases h;rfl) | cases h
theorem zV {t:TypeId} {z:D} {i:TypeInfo} (h:CJ P t=some z) (hi:P.info? t=some i):∃ zv,i.zero=some zv∧zv.cells.size=z.size∧∀ V,jB P V z zv:=by
 unfold CJ at h;rw [hi] at h;cases hz:i.zero with
 | none=>simp [hz] at h
 | some v =>
  simp [hz] at h;exact ⟨v,rfl,(yz (P:=P) h ⟨fun _ _ _=>False,fun _ _ _=>False⟩).cells.1,fun V=>yz h V⟩
theorem BL (w:World) (o:Obj) (k:Nat) (h:k < w.heap.size):(nO w o).heap[k]?=w.heap[k]?:=heap_alloc_old w.drew o k h
theorem Jw (w:World) (o:Obj):(nO w o).heap[w.heap.size]?=some o:=heap_alloc_new w.drew o
theorem xI {z:D} {zv:Value} (h:∀ V,jB P V z zv) (n:Nat):∀ v∈Builtin.zeroCells zv.cells n,Plain v:=by
 intro v hv;unfold Builtin.zeroCells at hv;obtain ⟨k,hk,rfl⟩:=Array.mem_map.1 hv;have hk':=Array.mem_range.1 hk;have hz:0 < zv.cells.size:=by
  rcases lg zv.cells.size with q | q
  ·rw [q] at hk';simp at hk'
  ·exact q
 have hm:k % zv.cells.size < zv.cells.size:=Nat.mod_lt _ hz;rw [getElem!_pos zv.cells _ hm];exact (h ⟨fun _ _ _=>False,fun _ _ _=>False⟩).cells.2.2 _ _ (bI hm)
theorem Dt {s:S} (I:Inv P V s.get μ w) (d:Nat) {sz n k:Nat} {xs:List D} {cs:List Value} {rest:Array Value} {el:TypeId} {w':World} (hC:iw P V sz xs cs) (hn:n=xs.length) (hr:rest.size=k * sz) (hrp:∀ v∈rest,Plain v)
  (hw:w'=nO w (.cells (cs.toArray++rest) el)∨w'=w.alloc (.cells (cs.toArray++rest) el)) :
  ∃ μ',Inv P V (s.plus [((d,nU s.loc d), .arr sz false xs)]).get μ' w'∧Evo V s.get μ w V (s.plus [((d,nU s.loc d), .arr sz false xs)]).get μ' w' ∧
   iI P V (s.plus [((d,nU s.loc d), .arr sz false xs)]).get μ' (.ref (s.fresh d) 0 n n) (.slice (some ⟨w.heap.size,0,none⟩) n (n+k)):=by
 obtain ⟨hget,hfree⟩:=S.Fb s d (.arr sz false xs);rw [hget]
 let p:Pl:=⟨w.heap.size,n+k,false,0⟩
 have hold:∀ j,j < w.heap.size→w'.heap[j]?=w.heap[j]?:=by
  rcases hw with rfl | rfl
  ·exact BL w _
  ·exact heap_alloc_old w _
 have hnew:w'.heap[w.heap.size]?=some (.cells (cs.toArray++rest) el (0,0)):=by
  rcases hw with rfl | rfl
  ·exact Jw w _
  ·exact heap_alloc_new w _
 have hsize:w.heap.size≤w'.heap.size:=by
  rcases hw with rfl | rfl
  ·simp [nO]
  ·simp
 have noV:∀ c v,¬ V.cell w.heap.size c v:=by
  intro c v hv;have:=World.block_lt_of_cell? w _ (I.cell _ _ _ hv);simp at this
 obtain ⟨I',E'⟩:=I.lay (w':=w') hfree (.arr sz false xs) p hold (by rcases hw with rfl | rfl<;>rfl) (by rcases hw with rfl | rfl<;>rfl) (by rcases hw with rfl | rfl<;>rfl) hsize
  (fun _=>bu _) (.inr ⟨rfl,by simp [p];omega,fun _ c v=>noV c v,fun c v h=>absurd h (noV c v),_,el,hnew,by simp [hC.1,hr,p,hn,fD],PS hC rest hrp⟩)
 refine ⟨_,I',E', .ref _ 0 n n sz false xs _ _ (upd_same _ _ _) (by omega) (fun _=>⟨_,_,rfl, .inr ?_⟩)⟩;rw [fP];exact ⟨rfl,by simp [p],kE _,rfl,fun _=>by simp [p]⟩
set_option maxHeartbeats 4000000 in
theorem Je {c:Cfg} {s:S} (I:Inv c.P V s.get μ w) {dst:Option Nat} {t t2:TypeId} {x y z:A} {dl:Delta} {cx cy:Value} (e:BF c s dst t x y=some (z,dl)) (h2:(um c.P t2).isSome=true)
  (Hx:iI c.P V s.get μ x cx) (Hy:iI c.P V s.get μ y cy) (ty:TypeId):Done c.P V s μ w (dl.apply s) z ((Builtin.append_ #[t,t2] ty #[cx,cy]).run c.P w):=by
 unfold BF at e;cases hel:um c.P t with
 | none=>rw [hel] at e;cases e
 | some el =>
  rw [hel] at e;have hu:=pY hel;obtain ⟨el2,hel2⟩:=gX.1 h2;have hu2:=pY hel2;simp only at e;split at e
  ·rename_i sz by_ zd ys d hsz hby hzd hys
   obtain ⟨i,hi,rfl⟩:=zS hby;obtain ⟨zv,hz,hzs,hzr⟩:=zV hzd hi;split at e
   ·rename_i hcond
    obtain ⟨hall,hb0,hzsz⟩:=hcond;obtain ⟨b,n,c',rfl,hn,hnc,yc,hyC,hyr⟩:=vI I Hy hys hall;obtain ⟨b2,n2,c2,e2,hn2,_,yc2,hyC2,hyr2⟩:=vI I.drew Hy hys hall;cases e2;have hzc:zv.cells.size=sz:=by rw [hzs,hzsz]
    cases Hx with
    | ref ix off len full sz' l xs a cap hix hf hv =>
     cases off with
     | succ _=>simp at e
     | zero =>
      simp only [hix] at e;split at e
      ·rename_i hh
       obtain ⟨h1,h3⟩:=hh;subst h3;obtain ⟨a',cc,e3,hsv⟩:=hv h1;cases e3;have hcap:(μ ix).nil=false→xs.length≤(μ ix).cap:=by
        intro q;rcases I.blk ix _ hix with ⟨q',_⟩ | ⟨_,q',_⟩
        ·rw [q'] at q;cases q
        ·exact q'
       split at e
       ·
        rename_i hlen
        split at e
        ·rename_i hroom
         cases e;by_cases hy0:ys=[]
         ·subst hy0;simp only [List.isEmpty_nil,aS,Delta.apply];have hyc:yc=[]:=fC (by have:=hyC.1;simpa using this);subst hyc;simp at hn;subst hn;have hlc:len≤cap:=by
           rcases hsv with ⟨q1,q2,q3,_⟩ | ⟨q1,q2,_⟩
           ·rcases I.blk ix _ hix with ⟨_,q,_⟩ | ⟨q,_⟩
            ·subst q;simp at h1;omega
            ·rw [q1] at q;cases q
           ·have:=hcap q1;omega
          exact .pure I (run_append_nil ty hu hu2 hsz hlc hyr) (by subst hlen;simpa using iI.ref ix 0 len len sz' l xs a cap hix hf hv)
         ·have hemp:ys.isEmpty=false:=by cases ys with | nil=>exact absurd rfl hy0 | cons _ _=>rfl
          simp only [hemp,aN,aI,Delta.apply];have hnpos:0 < n:=by rw [hn];exact List.length_pos_iff.2 hy0
          obtain ⟨hget,hdep⟩:=S.nH hix (.arr sz' l (xs++ys));by_cases hin:len+n≤cap
          ·
           rcases hsv with ⟨q1,q2,q3,_⟩ | ⟨q1,q2,q3,q4,q5⟩
           ·omega
           ·have ha:=q5 (.inr rfl);rw [Nat.zero_mul] at ha;subst ha;rcases I.blk ix _ hix with ⟨q,_⟩ | ⟨_,b2,b3,b4,cells,elem,b5,b6,b7⟩
            ·rw [q1] at q;cases q
            ·have hylen:=hyC.1;have hfit:len * sz'+yc.length≤cells.size:=by
              rw [hylen,b6,← hn,← fD];exact aX _ (by omega)
             obtain ⟨w',k1,k2,k3,k4,k5,k6,k7⟩:=Cf (w:=w) ty hu hu2 hsz hin b5 hfit hyC.2.1 hyr;have hxl:len=xs.length:=by omega
             have hrow:CU c.P V sz' (xs++ys) (splice cells.toList (len * sz') yc).toArray:=by
              have hX:=xC b7 (by rw [b6];exact aX _ b2);refine Bv (hX.append hyC) (wz (fun k v hv=>b7.1 k v (by simpa using hv)) hyC.2.1) ?_;intro k v hk;unfold splice;rw [iF,hxl];rw [cZ]
              ·exact hk
              ·exact (aC.1 hk).1
             have hsz2:(splice cells.toList (len * sz') yc).toArray.size=(μ ix).cap * sz':=by
              unfold splice;simp;omega
             obtain ⟨I',E'⟩:=I.Rf (w':=w') hix (.arr sz' l (xs++ys)) (μ ix) (fun q => .inl ⟨rfl,q⟩) (fun k _ hk=>k3 k (hk.resolve_left (by rw [q1];simp)))
              (fun cc v _ hv=>by
               have hlt:=b4 cc v hv;have e1:len * sz'=xs.length * sz':=by rw [hxl]
               have e2:xs.length * sz'≤cells.size:=by rw [b6];exact aX _ b2
               rw [cell_of_row w' _ cc _ elem (0,0) k2];have:=I.cell _ _ _ hv;rw [cell_of_row w _ cc _ elem (0,0) b5] at this;unfold splice;rw [iF,List.append_assoc,cZ (by simp;omega),dh,if_pos (by rw [hxl];exact hlt)];simpa using this)
              (fun en cc _ hv=>by have:=I.map _ _ _ hv;rw [b5] at this;cases this)
              k5 k6 k7 (by omega)
              (.inr ⟨q1,by simp;omega,b3,fun cc v hv=>Nat.lt_of_lt_of_le (b4 cc v hv) (aX _ (by simp)),_,elem,k2,hsz2,by
               exact hrow⟩)
              ⟨rfl,by simp,fun q=>by simp at q;exact absurd q hy0⟩
             refine ⟨_,w',V,_,k1,?_,by rw [hget];exact I',by rw [hget];exact E',hdep⟩;rw [hget,← hn];refine .ref ix 0 _ _ sz' l (xs++ys) _ _ (upd_same _ _ _) (by simp;omega) (fun _=>⟨_,_,rfl, .inr ?_⟩);rw [fP];exact ⟨q1,q2,q3,rfl,fun _=>by simp⟩
          ·
           have hcap':cap < len+n:=by omega
           have hself:c.P=c.P:=rfl;have hxl:len=xs.length:=by omega
           have hxall:∃ xc:List Value,iw c.P V sz' xs xc∧(Builtin.firstCells sz' len (.slice a len cap)).run c.P w.drew = .ok xc.toArray w.drew:=by
            rcases hsv with ⟨q1,q2,q3,_⟩ | ⟨q1,q2,q3,q4,q5⟩
            ·rcases I.blk ix _ hix with ⟨_,q,_⟩ | ⟨q,_⟩
             ·subst q q2;exact ⟨[], .nil _,by simp [Builtin.firstCells]⟩
             ·rw [q1] at q;cases q
            ·have ha:=q5 (.inr rfl);rw [Nat.zero_mul] at ha;subst ha;rcases I.blk ix _ hix with ⟨q,_⟩ | ⟨_,b2,b3,b4,cells,elem,b5,b6,b7⟩
             ·rw [q1] at q;cases q
             ·have hX:=xC b7 (by rw [b6];exact aX _ b2);refine ⟨_,hX,?_⟩;simp only [Builtin.firstCells];have key:=run_loadCells_list (P:=c.P) (w:=w.drew) ⟨(μ ix).blk,0,none⟩ (cells.toList.take (xs.length * sz')) (fun j v hv=>by
               rw [mg,cell_of_row w.drew _ _ cells elem (0,0) b5];rw [dh] at hv;split at hv
               ·simpa using hv
               ·cases hv)
              rw [hX.1] at key;have e1:len * sz'=xs.length * sz':=by rw [hxl]
              rw [e1];exact key
           obtain ⟨xc,hxC,hxr⟩:=hxall;have hroom':room (len+n) i.bytes=true:=by rw [hn];exact hroom
           obtain ⟨k,hk⟩:=wQ (w:=w) ty hu hu2 hi hz hsz hroom' hb0 hcap' hxr hyr2;have hC:=hxC.append hyC2
           let p':Pl:=⟨w.heap.size,len+n+k,false,0⟩
           have noV:∀ c v,¬ V.cell w.heap.size c v:=by
            intro c v hv;have:=World.block_lt_of_cell? w _ (I.cell _ _ _ hv);simp at this
           obtain ⟨I',E'⟩:=I.Rf (w':=nO w (.cells ((xc++yc2).toArray++Builtin.zeroCells zv.cells k) el)) hix (.arr sz' l (xs++ys)) p' (fun _ => .inr (bu _)) (fun k hk _=>BL w _ k hk)
            (fun cc v _ hv=>by
             have h1:=I.cell _ _ _ hv;have h2:=World.block_lt_of_cell? w _ h1;rw [← h1];unfold World.cell?;simp only [BL w _ _ h2])
            (fun en cc _ hv=>by
             have h1:=I.map _ _ _ hv;rw [BL w _ _ (aO.1 h1).1,h1])
            rfl rfl rfl (by simp [nO])
            (.inr ⟨rfl,by simp [p'];omega,fun _ c v=>noV c v,fun c v h=>absurd h (noV c v),_,el,Jw w _,by
             have h9:=hC.1;simp [kN,hzc,p'] at h9 ⊢;rw [h9,← fD]
             congr 1
             omega,PS hC _ (xI hzr k)⟩)
            ⟨rfl,by simp,fun q=>by simp at q;exact absurd q hy0⟩
           refine ⟨_,_,V,_,hk,?_,by rw [hget];exact I',by rw [hget];exact E',hdep⟩;rw [hget,← hn];refine .ref ix 0 _ _ sz' l (xs++ys) _ _ (upd_same _ _ _) (by simp;omega) (fun _=>⟨_,_,rfl, .inr ?_⟩);rw [fP];exact ⟨rfl,by simp [p'],kE _,rfl,fun _=>by simp [p']⟩
        ·cases e
       ·
        rename_i hlen
        split at e
        ·rename_i hh2
         obtain ⟨hle,hl⟩:=hh2;cases e;subst hl;obtain ⟨hget,hdep⟩:=S.nH hix (.arr sz' false (splice xs len ys));rcases I.blk ix _ hix with ⟨q,q2,_⟩ | ⟨q1,b2,b3,b4,cells,elem,b5,b6,b7⟩
         ·subst q2;simp at h1;omega
         ·rcases hsv with ⟨q,_⟩ | ⟨_,q2,q3,q4,q5⟩
          ·rw [q1] at q;cases q
          ·have ha:=q5 (.inr rfl);rw [Nat.zero_mul] at ha;subst ha;have hylen:=hyC.1;have hfit:len * sz'+yc.length≤cells.size:=by
            rw [hylen,b6,← hn,← fD];exact aX _ (by omega)
           obtain ⟨w',k1,k2,k3,k4,k5,k6,k7⟩:=Cf (w:=w) (len:=len) (cap:=cap) ty hu hu2 hsz (by omega) b5 hfit hyC.2.1 hyr;have hX:=xC b7 (by rw [b6];exact aX _ b2);have e2:xs.length * sz'≤cells.size:=by rw [b6];exact aX _ b2
           have e3:len * sz'≤xs.length * sz':=aX _ (by omega);have e4:len * sz'+yc.length≤xs.length * sz':=by rw [hylen,← hn,← fD];exact aX _ (by omega)
           have hrow:CU c.P V sz' (splice xs len ys) (splice cells.toList (len * sz') yc).toArray:=by
            unfold splice;refine Bv (((hX.take len).append hyC).append (hX.drop (len+ys.length))) (wz (fun k v hv=>b7.1 k v (by simpa using hv)) hyC.2.1) ?_;intro k v hk;rw [iF];rw [List.take_take,Nat.min_eq_left e3] at hk;rcases Nat.lt_or_ge k (len * sz'+yc.length) with q | q
            ·rw [cZ (by simp;omega)] at hk ⊢;exact hk
            ·have hl2:((cells.toList.take (len * sz'))++yc).length=len * sz'+yc.length:=by simp;omega
             rw [dY (by omega),hl2] at hk ⊢;rw [fF] at hk ⊢;rw [dh] at hk;split at hk
             ·rw [hylen] at hk ⊢;rw [fD] at hk;exact hk
             ·cases hk
           have hxl2:(splice xs len ys).length=xs.length:=by unfold splice;simp;omega
           obtain ⟨I',E'⟩:=I.Rf (w':=w') hix (.arr sz' false (splice xs len ys)) (μ ix) (fun q => .inl ⟨rfl,q⟩) (fun k _ hk=>k3 k (hk.resolve_left (by rw [q1];simp)))
            (fun cc v _ hv=>absurd hv (b3 rfl cc v))
            (fun en cc _ hv=>by have:=I.map _ _ _ hv;rw [b5] at this;cases this)
            k5 k6 k7 (by omega)
            (.inr ⟨q1,by omega,b3,fun cc v hv=>absurd hv (b3 rfl cc v),_,elem,k2,by unfold splice;simp;omega,hrow⟩)
            ⟨rfl,by omega,fun _=>rfl⟩
           refine ⟨_,w',V,_,k1,?_,by rw [Delta.apply,hget];exact I',by rw [Delta.apply,hget];exact E',hdep⟩;rw [Delta.apply,hget,← hn];refine .ref ix 0 _ _ sz' false (splice xs len ys) _ _ (upd_same _ _ _) (by omega) (fun _=>⟨_,_,rfl, .inr ?_⟩);rw [fP];exact ⟨q1,q2,q3,rfl,fun _=>by simp⟩
        ·cases e
      ·cases e
    | d q v hq =>
     cases hq with
     | nilsl =>
      simp only at e;split at e
      ·rename_i hroom
       cases e;simp only [Delta.apply];by_cases hy0:ys=[]
       ·subst hy0;have hyc:yc=[]:=fC (by have:=hyC.1;simpa using this);subst hyc;simp at hn;subst hn;obtain ⟨hget,hfree⟩:=S.Fb s d (.arr sz false []);obtain ⟨I',E'⟩:=I.lay (w':=w) hfree (.arr sz false []) ⟨0,0,true,0⟩ (fun _ _=>rfl) rfl rfl rfl (bu _) (fun q=>by cases q) (.inl ⟨rfl,rfl,rfl⟩);refine ⟨_,w,V,_,run_append_nil ty hu hu2 hsz (bu _) hyr,?_,by rw [hget];exact I',by rw [hget];exact E',rfl⟩;rw [hget];refine .ref _ 0 0 0 sz false [] _ _ (upd_same _ _ _) (by simp) (fun _=>⟨_,_,rfl, .inl ?_⟩);rw [fP];exact ⟨rfl,rfl,rfl,rfl⟩
       ·have hnpos:0 < n:=by rw [hn];exact List.length_pos_iff.2 hy0
        obtain ⟨k,hk⟩:=wQ (w:=w) (xs:=[]) (len:=0) (cap:=0) (a:=none) ty hu hu2 hi hz hsz (by rw [gW,hn];exact hroom) hb0 (by omega) (by simp [Builtin.firstCells]) hyr2;simp only [gW,mf] at hk;obtain ⟨μ',I',E',R'⟩:=Dt I d (sz:=sz) (k:=k) hyC2 hn (by rw [kN,hzc]) (xI hzr k) (.inl rfl);rw [← hn];exact ⟨_,_,V,μ',hk,R',I',E',rfl⟩
      ·cases e
     | _=>cases e
    | tight xs a hd =>
     simp only at e;split at e
     ·rename_i hy0
      have hy0:ys=[]:=by simpa using hy0
      subst hy0;cases e;have hyc:yc=[]:=fC (by have:=hyC.1;simpa using this);subst hyc;simp at hn;subst hn;exact .pure I (run_append_nil ty hu hu2 hsz (bu _) hyr) (.tight xs a hd)
     ·rename_i hy0
      have hy0:ys≠[]:=by simpa using hy0
      split at e
      ·rename_i hh
       obtain ⟨hroom,hxall⟩:=hh;cases e;simp only [Delta.apply];have hnpos:0 < n:=by rw [hn];exact List.length_pos_iff.2 hy0
       obtain ⟨a3,n3,c3,e3,hn3,_,xc,hxC,hxr⟩:=vI (sz:=sz) (ys:=xs) I.drew (.tight xs a hd) rfl hxall;cases e3;obtain ⟨k,hk⟩:=wQ (w:=w) (len:=xs.length) (cap:=xs.length) (a:=a) ty hu hu2 hi hz hsz (by rw [hn];exact hroom) hb0 (by omega) hxr hyr2;have hC:=hxC.append hyC2;obtain ⟨μ',I',E',R'⟩:=Dt I d (sz:=sz) (n:=xs.length+n) (k:=k) hC (by simp [hn]) (by rw [kN,hzc]) (xI hzr k) (.inl rfl);rw [← hn];exact ⟨_,_,V,μ',hk,R',I',E',rfl⟩
      ·cases e
    | _=>cases e
   ·cases e
  ·cases e
end
end Go.Lx
namespace Go.Lx
section
variable {P:Program} {V:View} {μ:Id→Pl} {w:World}
theorem DZ {z:D} {v:Value} (H:jB P V z v):∀ x∈v.cells.toList,Plain x:=by
 intro x hx;obtain ⟨k,hk,rfl⟩:=List.mem_iff_getElem.1 hx;exact H.cells.2.2 k _ (by simp at hk;simp [hk])
theorem vT {z:D} {zv:Value} {sz:Nat} (H:jB P V z zv) (hz:zv.cells.size=sz) (n:Nat):iw P V sz (List.replicate n z) (Builtin.zeroCells zv.cells n).toList:=by
 have hsize:(Builtin.zeroCells zv.cells n).size=n * sz:=by rw [kN,hz]
 have hget:∀ k,k < n * sz→(Builtin.zeroCells zv.cells n)[k]?=zv.cells[k % sz]?:=by
  intro k hk;have hsz:0 < sz:=by
   rcases lg sz with q | q
   ·subst q;simp at hk
   ·exact q
  unfold Builtin.zeroCells;rw [Array.getElem?_map,hz];rw [Array.getElem?_range,if_pos hk];have hm:k % sz < zv.cells.size:=by rw [hz];exact Nat.mod_lt _ hsz
  simp [hm]
 have hrow:Qp P V sz (List.replicate n z) (Builtin.zeroCells zv.cells n):=by
  refine ⟨fun _=>zv,fun i d hd=>?_⟩;have hi:i < n:=by have:=(aC.1 hd).1;simpa using this
  have hdz:d=z:=by
   rw [List.getElem?_replicate,if_pos hi] at hd;cases hd;rfl
  subst hdz;refine ⟨H,hz,fun j v hv=>?_⟩;have hj:j < sz:=by rw [← hz];exact (aO.1 hv).1
  have hk:i * sz+j < n * sz:=by
   calc i * sz+j < i * sz+sz:=by omega
    _=(i+1) * sz:=by rw [fD,kD]
    _≤n * sz:=aX _ hi
  rw [hget _ hk];have e2:(i * sz+j) % sz=j:=by rw [Nat.add_comm,Nat.add_mul_mod_self_right,Nat.mod_eq_of_lt hj]
  rw [e2];exact hv
 have:=DC hrow (by rw [List.length_replicate,hsize];exact bu _);rw [List.length_replicate] at this;have e:(Builtin.zeroCells zv.cells n).toList.take (n * sz)=(Builtin.zeroCells zv.cells n).toList:=by
  rw [← hsize,← gq,List.take_length]
 rw [e] at this;exact this
theorem wrap_small {n:Int} (h0:0≤n) (h1:n≤16777216):IntKind.i64.wrap n=n:=by
 unfold IntKind.wrap;simp [IntKind.bits,IntKind.signed];omega
theorem FC {c:Cfg} {s:S} (I:Inv c.P V s.get μ w) {dst:Option Nat} {t:TypeId} {l k z:A} {dl:Delta} {cl ck:Value} (e:xU c s dst t l k=some (z,dl))
  (Hl:iI c.P V s.get μ l cl) (Hk:iI c.P V s.get μ k ck):Done c.P V s μ w (dl.apply s) z ((Instr.makeSlice t cl ck).run c.P w):=by
 unfold xU at e;split at e
 ·rename_i el n m d hel
  have hu:=pY hel;have:=KY Hl;subst this;have:=KY Hk;subst this;split at e
  ·rename_i sz by_ zd hsz hby hzd
   obtain ⟨i,hi,rfl⟩:=zS hby;obtain ⟨zv,hz,hzs,hzr⟩:=zV hzd hi;split at e
   ·rename_i hc
    obtain ⟨h0,rfl,hr,hzz⟩:=hc;cases e;obtain ⟨r1,r2⟩:=room_le hr;have hw:IntKind.i64.wrap n=n:=wrap_small h0 (by omega);have hbig:¬ (281474976710656 < (i.bytes:Int) * n):=by
     have:(i.bytes:Int) * n≤1048576 * 16777216:=Int.mul_le_mul (by omega) (by omega) h0 (by omega);omega
    have hzc:zv.cells.size=sz:=by rw [hzs,hzz]
    have hC:=vT (hzr V) hzc n.toNat;have hrun:(Instr.makeSlice t (.int .i64 n) (.int .i64 n)).run c.P w = .ok (.slice (some ⟨w.heap.size,0,none⟩) n.toNat n.toNat) (w.alloc (.cells ((Builtin.zeroCells zv.cells n.toNat).toList.toArray++#[]) el)):=by
     have hn:¬ (n < 0):=by omega
     by_cases hz0:n.toNat * sz=0
     ·have hzero:Builtin.zeroCells zv.cells n.toNat=#[]:=fQ (by rw [kN,hzc];exact hz0);simp [Instr.makeSlice,cO hu,asInt,asIntOf,typeInfo,hi,hw,hn,hbig,iP hsz,hz0,newRow,hzero];refine congrArg (fun c=>w.alloc (Obj.cells c el)) ?_;apply Array.ext';simp
     ·have hnz:¬ (n.toNat=0):=fun q=>hz0 (by rw [q,Nat.zero_mul])
      have hsz0:¬ (sz=0):=fun q=>hz0 (by rw [q,Nat.mul_zero])
      simp [Instr.makeSlice,cO hu,asInt,asIntOf,typeInfo,hi,hw,hn,hbig,iP hsz,hz0,newRow,zeroValue,hz,Builtin.zeroCells,hzc];refine congrArg (fun c=>w.alloc (Obj.cells c el)) ?_;apply Array.ext';simp
    obtain ⟨μ',I',E',R'⟩:=Dt I d (sz:=sz) (n:=n.toNat) (k:=0) (rest:=#[]) hC (by simp) (by simp) (by simp) (.inr rfl);exact ⟨_,_,V,μ',hrun,R',I',E',rfl⟩
   ·cases e
  ·cases e
 ·cases e
theorem D6 {t:TypeId} {sz:Nat} (hs:lQ P t=some sz) {g o:Nat} {cv:Value} {cur:Array Value} {elem:TypeId} (hg:w.heap[g]?=some (.cells cur elem (0,0))) (hn:cv.cells.size=sz)
  (hfit:o+sz≤cur.size) (hp:∀ v∈cv.cells.toList,Plain v) :
  ∃ w',(Instr.storeAt t (.pointer (some ⟨g,o,none⟩)) cv).run P w = .ok () w'∧w'.heap[g]?=some (.cells (splice cur.toList o cv.cells.toList).toArray elem (0,0)) ∧
   (∀ k,k≠g→w'.heap[k]?=w.heap[k]?)∧w'.heap.size=w.heap.size∧w'.os=w.os∧w'.tape=w.tape∧w'.output=w.output:=by
 obtain ⟨w',h1,h2⟩:=rY (P:=P) g elem cv.cells.toList o 0 cur w hg (by simp;omega) hp;exact ⟨w',by simp [Instr.storeAt,Instr.sureAddr,storeVar,iP hs,hn,h1],by simpa using h2⟩
theorem qB {α:Type} (cs:List α) (off:Nat) (new:List α) (h:off+new.length≤cs.length) (k:Nat) :
  (splice cs off new)[k]?=if k < off then cs[k]? else if k < off+new.length then new[k - off]? else cs[k]?:=by
 unfold splice;have h1:(cs.take off).length=off:=by simp;omega
 by_cases e1:k < off
 ·rw [if_pos e1,List.append_assoc,cZ (by omega),dh,if_pos e1]
 ·rw [if_neg e1];by_cases e2:k < off+new.length
  ·rw [if_pos e2,cZ (by simp;omega),dY (by omega),h1]
  ·rw [if_neg e2,dY (by simp;omega),fF]
   congr 1
   simp;omega
theorem gV {α:Type} (cs:List α) (off:Nat) (new:List α) (h:off+new.length≤cs.length):(splice cs off new).length=cs.length:=by
 unfold splice;simp;omega
theorem Nz {h:Id→Option Blk} {a:A} {v:Value} (H:iI P V h μ a v) (hok:a ≠ .unk) (hok2:a ≠ .undef) (hok3:∀ cs,a ≠ .tup cs):lw P V h μ a.cells v.cells.toList :=
 (Jl H hok hok2).resolve_left (fun ⟨cs,e⟩=>hok3 cs e)
theorem lw.mono {V':View} {h h':Id→Option Blk} {μ':Id→Pl} {cs:List A} {vs:List Value} (H:lw P V h μ cs vs) (hV:V.Le V')
  (K:∀ i b,h i=some b→∃ b',h' i=some b'∧qo b (μ i) b' (μ' i)):lw P V' h' μ' cs vs :=
 ⟨H.1,fun i a v ha hv=>⟨(H.2 i a v ha hv).1.mono hV (fun i _ b hb=>K i b hb),(H.2 i a v ha hv).2⟩⟩
theorem IV {e e':D} {cs:List D} (h:zA e cs=some e'):e' = .agg cs∨cs=[e']:=by
 unfold zA at h;split at h
 ·cases h;exact .inl rfl
 ·cases h;exact .inr rfl
 ·cases h
theorem LX {e e':D} {ev:Value} {off:Nat} {x:D} {cv:Value} (He:jB P V e ev) (Hx:jB P V x cv) (hr:zA e (splice e.cells off x.cells)=some e') (hle:off+x.cells.length≤e.cells.length) :
  ∃ ev',jB P V e' ev'∧ev'.cells.size=ev.cells.size∧∀ (k:Nat) v,ev'.cells[k]?=some v→(splice ev.cells.toList off cv.cells.toList)[k]?=some v:=by
 obtain ⟨g1,g2,g3⟩:=He.cells;obtain ⟨k1,k2,k3⟩:=Hx.cells;have hl1:ev.cells.toList.length=e.cells.length:=by simpa [D.size] using g1
 have hl2:cv.cells.toList.length=x.cells.length:=by simpa [D.size] using k1
 have key:∀ (k:Nat) d v,(splice e.cells off x.cells)[k]?=some d→(splice ev.cells.toList off cv.cells.toList)[k]?=some v→jB P V d v∧Plain v:=by
  intro k d v hd hv;rw [qB _ _ _ hle] at hd;rw [qB _ _ _ (by omega)] at hv;rw [hl2] at hv;by_cases e1:k < off
  ·rw [if_pos e1] at hd hv;have hv':ev.cells[k]?=some v:=by simpa using hv
   exact ⟨g2 k d v hd hv',g3 k v hv'⟩
  ·rw [if_neg e1] at hd hv;by_cases e2:k < off+x.cells.length
   ·rw [if_pos e2] at hd hv;have hv':cv.cells[k - off]?=some v:=by simpa using hv
    exact ⟨k2 _ d v hd hv',k3 _ v hv'⟩
   ·rw [if_neg e2] at hd hv;have hv':ev.cells[k]?=some v:=by simpa using hv
    exact ⟨g2 k d v hd hv',g3 k v hv'⟩
 have hlen:(splice e.cells off x.cells).length=e.cells.length:=gV _ _ _ hle;have hlen2:(splice ev.cells.toList off cv.cells.toList).length=ev.cells.toList.length:=gV _ _ _ (by omega);rcases IV hr with rfl | hq
 ·refine ⟨.agg (splice ev.cells.toList off cv.cells.toList).toArray, .agg _ _ (by rw [hlen,List.size_toArray,hlen2,hl1]) (fun i d v hd hv=>(key i d v hd (by simpa using hv)).1) (fun i v hv=>?_),?_,fun k v hv=>by simpa [Value.cells] using hv⟩
  ·have hi:i < (splice e.cells off x.cells).length:=by
    rw [hlen,← hl1,← hlen2];have:=(aO.1 hv).1;simpa using this
   exact (key i _ v (ax hi) (by simpa using hv)).2
  ·show (splice ev.cells.toList off cv.cells.toList).toArray.size=ev.cells.size
   rw [List.size_toArray,hlen2,gq]
 ·have h1:(splice ev.cells.toList off cv.cells.toList).length=1:=by
   rw [hlen2,hl1,← hlen,hq];rfl
  obtain ⟨v1,hv1⟩:=List.length_eq_one_iff.1 h1;have:=key 0 e' v1 (by rw [hq];rfl) (by rw [hv1];rfl);have hc:v1.cells=#[v1]:=by cases v1<;>first | rfl | exact this.2.elim
  refine ⟨v1,this.1,?_,?_⟩
  ·rw [hc];have:ev.cells.toList.length=1:=by rw [← hlen2,hv1];rfl
   simpa using this.symm
  ·intro k v hv;rw [hc] at hv;rw [hv1];simpa using hv
end
end Go.Lx
namespace Go.Lx
section
variable {P:Program} {V:View} {μ:Id→Pl} {w:World}
theorem wB {h:Id→Option Blk} {a:A} {v:Value} (H:iI P V h μ a v) (hs:storable a=true):lw P V h μ a.cells v.cells.toList :=
 Nz H (by rintro rfl;cases hs) (by rintro rfl;cases hs) (by rintro cs rfl;cases hs)
theorem LV {h:Id→Option Blk} {cs:List A} {v:Value} (H:lw P V h μ cs v.cells.toList):∀ x∈v.cells.toList,Plain x:=by
 intro x hx;obtain ⟨k,hk,rfl⟩:=List.mem_iff_getElem.1 hx;have hl:k < cs.length:=by rw [← H.1];exact hk
 exact (H.2 k _ _ (ax hl) (ax hk)).2
theorem PK {s:S} (I:Inv P V s.get μ w) {i:Id} {sz:Nat} {xs xs':List D} (hi:s.get i=some (.arr sz false xs)) (hl:xs'.length=xs.length) (hn:(μ i).nil=false)
  {w':World} {cells cells':Array Value} {elem:TypeId} (h5:w.heap[(μ i).blk]?=some (.cells cells elem (0,0))) (k2:w'.heap[(μ i).blk]?=some (.cells cells' elem (0,0))) (hsz:cells'.size=cells.size)
  (k3:∀ k,k≠(μ i).blk→w'.heap[k]?=w.heap[k]?) (k4:w'.heap.size=w.heap.size) (k5:w'.os=w.os) (k6:w'.tape=w.tape) (k7:w'.output=w.output) (hrow:CU P V sz xs' cells') :
  Inv P V (s.set i (.arr sz false xs')).get μ w'∧Evo V s.get μ w V (s.set i (.arr sz false xs')).get μ w':=by
 obtain ⟨hget,_⟩:=S.nH hi (.arr sz false xs');rw [hget];have hμ:yG μ i (μ i)=μ:=by funext j;unfold yG;split<;>simp_all
 rcases I.blk i _ hi with ⟨q,_⟩ | ⟨q1,b2,b3,b4,c0,e0,b5,b6,b7⟩
 ·rw [hn] at q;cases q
 ·rw [h5] at b5;cases b5;have:=I.Rf (w':=w') hi (.arr sz false xs') (μ i) (fun q => .inl ⟨rfl,q⟩) (fun k _ hk=>k3 k (hk.resolve_left (by rw [hn];simp)))
   (fun cc v _ hv=>absurd hv (b3 rfl cc v)) (fun en cc _ hv=>by have:=I.map _ _ _ hv;rw [h5] at this;cases this) k5 k6 k7 (by omega)
   (.inr ⟨q1,by omega,b3,fun cc v hv=>absurd hv (b3 rfl cc v),cells',_,k2,by rw [hsz,b6],hrow⟩) ⟨rfl,by omega,fun _=>rfl⟩
  rw [hμ] at this;exact this
theorem Oq {s:S} (I:Inv P V s.get μ w) {i:Id} {sz:Nat} {l:Bool} {xs:List D} (hi:s.get i=some (.arr sz l xs)) (hx:xs≠[]) :
  (μ i).nil=false∧xs.length≤(μ i).cap∧∃ cells elem,w.heap[(μ i).blk]?=some (.cells cells elem (0,0))∧cells.size=(μ i).cap * sz∧CU P V sz xs cells∧iw P V sz xs (cells.toList.take (xs.length * sz)):=by
 rcases I.blk i _ hi with ⟨_,q,_⟩ | ⟨q1,b2,_,_,c0,e0,b5,b6,b7⟩
 ·exact absurd q hx
 ·exact ⟨q1,b2,c0,e0,b5,b6,b7,xC b7 (by rw [b6];exact aX _ b2)⟩
theorem N8 {sz off:Nat} {xs ys:List D} {cells:Array Value} {yc:List Value} (hX:iw P V sz xs (cells.toList.take (xs.length * sz))) (hY:iw P V sz ys yc) (hle:off+ys.length≤xs.length)
  (hfit:xs.length * sz≤cells.size) (hpl:∀ (k:Nat) v,cells[k]?=some v→Plain v):CU P V sz (splice xs off ys) (splice cells.toList (off * sz) yc).toArray∧(splice cells.toList (off * sz) yc).length=cells.size∧(splice xs off ys).length=xs.length:=by
 have e3:off * sz≤xs.length * sz:=aX _ (by omega);have e4:off * sz+yc.length≤xs.length * sz:=by rw [hY.1,← fD];exact aX _ hle
 refine ⟨?_,by rw [gV _ _ _ (by simp;omega)];simp,gV _ _ _ hle⟩;unfold splice;refine Bv (((hX.take off).append hY).append (hX.drop (off+ys.length))) (wz (fun k v hv=>hpl k v (by simpa using hv)) hY.2.1) ?_;intro k v hk;rw [iF];rw [List.take_take,Nat.min_eq_left e3] at hk;rcases Nat.lt_or_ge k (off * sz+yc.length) with q | q
 ·rw [cZ (by simp;omega)] at hk ⊢;exact hk
 ·have hl2:((cells.toList.take (off * sz))++yc).length=off * sz+yc.length:=by simp;omega
  rw [dY (by omega),hl2] at hk ⊢;rw [fF] at hk ⊢;rw [dh] at hk;split at hk
  ·rw [hY.1] at hk ⊢;rw [fD] at hk;exact hk
  ·cases hk
theorem sW (xs ys:List A):A.lT (xs++ys)=A.lT xs++A.lT ys:=by
 induction xs with
 | nil=>rfl
 | cons x rest ih=>simp [A.lT,ih]
theorem O3 {xs:List A} {n:Nat} {j:Id} (h:j∈A.lT (xs.take n)):j∈A.lT xs:=by
 have:=sW (xs.take n) (xs.drop n);rw [kY] at this;rw [this];exact aU.2 (.inl h)
theorem O0 {xs:List A} {n:Nat} {j:Id} (h:j∈A.lT (xs.drop n)):j∈A.lT xs:=by
 have:=sW (xs.take n) (xs.drop n);rw [kY] at this;rw [this];exact aU.2 (.inr h)
theorem LD {xs ys:List A} {off:Nat} {j:Id} (h:j∈A.lT (splice xs off ys)):j∈A.lT xs∨j∈A.lT ys:=by
 unfold splice at h;rw [sW,sW] at h;rcases aU.1 h with h | h
 ·rcases aU.1 h with h | h
  ·exact .inl (O3 h)
  ·exact .inr h
 ·exact .inl (O0 h)
theorem Jy {a:A} {j:Id} (h:j∈A.lT a.cells):j∈a.ids:=by
 cases a with
 | d x =>
  exfalso
  have key:∀ l:List D,A.lT (l.map A.d)=[]:=by
   intro l
   induction l with
   | nil=>rfl
   | cons y r ih=>simp [A.lT,A.ids,ih]
  have h':j∈A.lT (x.cells.map A.d):=h;rw [key] at h';cases h'
 | agg cs=>exact h
 | _=>simpa [A.cells,A.lT] using h
theorem Me {s s':S} (I:Inv P V s.get μ w) {t:TypeId} {sz:Nat} (hs:lQ P t=some sz) {a x:A} {ca cx:Value} (e:wJ s sz a x=some s')
  (Ha:iI P V s.get μ a ca) (Hx:iI P V s.get μ x cx) :
  ∃ w' V',(Instr.storeAt t ca cx).run P w = .ok () w'∧Inv P V' s'.get μ w'∧Evo V s.get μ w V' s'.get μ w'∧s'.out=s.out:=by
 unfold wJ at e;split at e
 ·rename_i hc
  obtain ⟨hst,hlen⟩:=hc;have hμ:∀ i,yG μ i (μ i)=μ:=by intro i;funext j;unfold yG;split<;>simp_all
  cases Ha with
  | bptr i off cs0 hi =>
   simp only [hi] at e;split at e
   ·rename_i hoff
    split at e
    ·rename_i hdep2
     cases e;have hC:=wB Hx hst;have hn:cx.cells.size=sz:=by rw [← hlen,← hC.1,gq]
     obtain ⟨b1,b3,cells,elem,b5,b6,b7⟩:=I.blk i _ hi;obtain ⟨w',k1,k2,k3,k4,k5,k6,k7⟩:=D6 (w:=w) hs b5 hn (by rw [b6];exact hoff) (LV hC);obtain ⟨hget,hdep⟩:=S.nH hi (.box (splice cs0 off x.cells));have hle:off+x.cells.length≤cs0.length:=by rw [hlen];exact hoff
     have hle2:off+cx.cells.toList.length≤cells.toList.length:=by rw [hC.1];simp;omega
     have K:∀ j b,s.get j=some b→∃ b',upd s.get i (.box (splice cs0 off x.cells)) j=some b'∧qo b (μ j) b' (μ j):=by
      intro j b hb;by_cases q:j=i
      ·subst q;rw [hi] at hb;cases hb;exact ⟨_,upd_same _ _ _,rfl⟩
      ·exact ⟨b,by rw [upd_ne _ _ q];exact hb, .refl _ _⟩
     obtain ⟨I',E'⟩:=I.Rf (w':=w') hi (.box (splice cs0 off x.cells)) (μ i) (fun q => .inl ⟨rfl,q⟩) (fun k _ hk=>k3 k (hk.resolve_left (by rw [b1];simp)))
      (fun cc v _ hv=>absurd hv (b3 cc v)) (fun en cc _ hv=>by have:=I.map _ _ _ hv;rw [b5] at this;cases this) k5 k6 k7 (by omega)
      ⟨b1,b3,_,elem,k2,by rw [List.size_toArray,gV _ _ _ hle2,gV _ _ _ hle,gq,b6],by
       intro k y v hy hv;rw [hμ];rw [iF,qB _ _ _ hle2] at hv;rw [qB _ _ _ hle] at hy;rw [hC.1] at hv;by_cases e1:k < off
       ·rw [if_pos e1] at hy hv;obtain ⟨g1,g2⟩:=b7 k y v hy (by simpa using hv);exact ⟨g1.mono (.refl V) (fun i _ b hb=>K i b hb),g2⟩
       ·rw [if_neg e1] at hy hv;by_cases e2:k < off+x.cells.length
        ·rw [if_pos e2] at hy hv;obtain ⟨g1,g2⟩:=hC.2 _ y v hy hv;exact ⟨g1.mono (.refl V) (fun i _ b hb=>K i b hb),g2⟩
        ·rw [if_neg e2] at hy hv;obtain ⟨g1,g2⟩:=b7 k y v hy (by simpa using hv);exact ⟨g1.mono (.refl V) (fun i _ b hb=>K i b hb),g2⟩⟩ rfl
      (by
       intro j hj;rcases LD hj with z | z
       ·exact I.tidy i _ hi j z
       ·rcases hdep2 with q | q
        ·rw [q];obtain ⟨bb,hbb⟩:=uO Hx j (Jy z);exact S.uN hbb
        ·exact of_decide_eq_true (aW.1 q j (Jy z)))
     rw [hμ] at I' E';exact ⟨w',V,k1,by rw [hget];exact I',by rw [hget];exact E',hdep⟩
    ·cases e
   ·cases e
  | eptr i ix off len sz' l xs ad hi hf hv =>
   simp only at e;cases ht:s.toD x with
   | none=>rw [ht] at e;cases e
   | some r =>
    obtain ⟨d,o⟩:=r;rw [ht] at e;simp only at e;obtain ⟨V',L,hd⟩:=Nr I ht Hx;obtain ⟨b',hb',hle'⟩:=L.evo.keep i _ hi;rw [hb'] at e;cases b' with
    | arr sz2 l2 xs2 =>
     obtain ⟨rfl,h1,h2⟩:=hle';simp only at e;split at e
     ·rename_i hc2
      obtain ⟨h3,rfl⟩:=hc2;have hxl:xs2.length=xs.length:=by omega
      obtain ⟨rfl,hix⟩:=hv (by omega);cases hx:xs2[ix]? with
      | none=>rw [hx] at e;cases e
      | some el =>
       rw [hx] at e;simp only at e;split at e
       ·rename_i hoff
        cases hr:zA el (splice el.cells off d.cells) with
        | none=>rw [hr] at e;cases e
        | some el' =>
         rw [hr] at e;cases e;have hxn:xs2≠[]:=by rintro rfl;simp at hx
         obtain ⟨g1,g2,cells,elem,g5,g6,g7,g8⟩:=Oq L.inv hb' hxn;obtain ⟨hpl0,ev,g7'⟩:=g7;obtain ⟨r1,r2,r3⟩:=g7' ix el hx;have hdl:d.cells.length=sz:=by
          have h9:=hd.cells.1;have hC:=wB Hx hst;have h10:=hC.1;have h11:cx.cells.toList.length=cx.cells.size:=gq;have h12:d.size=d.cells.length:=rfl;omega
         have hle:off+d.cells.length≤el.cells.length:=by rw [hdl];exact hoff
         obtain ⟨ev',t1,t2,t3⟩:=LX r1 hd hr hle;have hcxn:cx.cells.size=sz:=by rw [hd.cells.1];exact hdl
         have hlt:ix < xs2.length:=(aC.1 hx).1;have hels:el.cells.length=sz2:=by have:=r1.cells.1;rw [r2] at this;exact this.symm
         have hin:ix * sz2+off+sz≤xs2.length * sz2:=by
          calc ix * sz2+off+sz≤ix * sz2+sz2:=by omega
           _=(ix+1) * sz2:=by rw [fD,kD]
           _≤xs2.length * sz2:=aX _ hlt
         have hcap:xs2.length * sz2≤cells.size:=by rw [g6];exact aX _ g2
         have hpl:∀ y∈cx.cells.toList,Plain y:=DZ hd
         obtain ⟨w',k1,k2,k3,k4,k5,k6,k7⟩:=D6 (w:=w) hs g5 hcxn (o:=ix * sz2+off) (by omega) hpl;have hle2:ix * sz2+off+cx.cells.toList.length≤cells.toList.length:=by simp;omega
         obtain ⟨I',E'⟩:=PK L.inv hb' (xs':=xs2.set ix el') (by simp) g1 g5 k2 (by rw [List.size_toArray,gV _ _ _ hle2,gq]) k3 k4 k5 k6 k7 (by
          refine ⟨wz (fun k v hv=>hpl0 k v (by simpa using hv)) hpl,fun k=>if k=ix then ev' else ev k,?_⟩;intro k dk hk;by_cases q:k=ix
          ·subst q;rw [List.getElem?_set_self hlt] at hk;cases hk;simp only [aS];refine ⟨t1,by rw [t2,r2],fun j v hj=>?_⟩;have hj2:j < sz2:=by rw [← r2,← t2];exact (aO.1 hj).1
           have:=t3 j v hj;rw [qB _ _ _ (by simp;omega)] at this;rw [iF,qB _ _ _ hle2];by_cases e1:j < off
           ·rw [if_pos e1] at this;rw [if_pos (by omega)];have:=r3 j v (by simpa using this);simpa using this
           ·rw [if_neg e1] at this;rw [if_neg (by omega)];by_cases e2:j < off+cx.cells.toList.length
            ·rw [if_pos e2] at this;rw [if_pos (by omega)];rw [show k * sz2+j - (k * sz2+off)=j - off from by omega];exact this
            ·rw [if_neg e2] at this;rw [if_neg (by omega)];have:=r3 j v (by simpa using this);simpa using this
          ·rw [List.getElem?_set_ne (fun z=>q z.symm)] at hk;simp only [if_neg q];obtain ⟨a1,a2,a3⟩:=g7' k dk hk;refine ⟨a1,a2,fun j v hj=>?_⟩;have hj2:j < sz2:=by rw [← a2];exact (aO.1 hj).1
           rw [iF,qB _ _ _ hle2];have hfar:k * sz2+j < ix * sz2∨(ix+1) * sz2≤k * sz2+j:=by
            rcases Nat.lt_or_ge k ix with z | z
            ·left
             calc k * sz2+j < k * sz2+sz2:=by omega
              _=(k+1) * sz2:=by rw [fD,kD]
              _≤ix * sz2:=aX _ z
            ·right
             calc (ix+1) * sz2≤k * sz2:=aX _ (by omega)
              _≤k * sz2+j:=by omega
           have hb:(ix+1) * sz2=ix * sz2+sz2:=by rw [fD,kD]
           rcases hfar with z | z
           ·rw [if_pos (by omega)];have:=a3 j v hj;simpa using this
           ·rw [if_neg (by omega),if_neg (by simp;omega)];have:=a3 j v hj;simpa using this)
         refine ⟨w',V',k1,I',L.evo.trans E',?_⟩;rw [(S.nH hb' _).2];exact L.dep
       ·cases e
     ·cases e
    | _=>exact hle'.elim
  | _=>cases e
 ·cases e
end
end Go.Lx
namespace Go.Lx
section
variable {P:Program} {V:View} {h:Id→Option Blk} {μ:Id→Pl} {w:World}
theorem O4 {op:BinOp} {k:IntKind} {a b:Int} {z:D} (e:Ld op k a b=some z) (t:TypeId) (x y:Operand) :
  ∃ v,(do eqGuard op t x y (.int k a) (.int k b);binOp op t (.int k a) (.int k b):Sem Value).run P w = .ok v w∧jB P V z v:=by
 cases op<;>simp only [Ld] at e
 case quo =>
  split at e
  ·cases e
  ·rename_i hb
   cases e;exact ⟨.int k (k.wrap (a.tdiv b)),by simp [eqGuard,binOp,Op.intDiv,hb], .int _ _⟩
 case rem =>
  split at e
  ·cases e
  ·rename_i hb
   cases e;exact ⟨.int k (a.tmod b),by simp [eqGuard,binOp,Op.intDiv,hb], .int _ _⟩
 case shr =>
  split at e
  ·cases e
  ·rename_i hb
   cases e;exact ⟨.int k _,by simp [eqGuard,binOp,Op.shift,hb], .int _ _⟩
 case shl =>
  split at e
  ·cases e
  ·rename_i hb
   cases e;exact ⟨.int k _,by simp [eqGuard,binOp,Op.shift,hb], .int _ _⟩
 all_goals first
  | (cases e;exact ⟨_,by simp [eqGuard,binOp,Op.intArith,Op.intCmp];rfl,by first | exact .int _ _ | exact .bool _⟩)
  | cases e
theorem NG:∀ (fs:List Field) (xs ys:List D) (n:Nat) {vx vy:Array Value} {b:Bool} (d:Nat),eqD P fs xs ys=some b→(∀ (i:Nat) f,fs[i]?=some f→f.offset=n+i∧(f.name != "_")=true) →
  (∀ (i:Nat) d,xs[i]?=some d→∃ v,vx[n+i]?=some v∧jB P V d v)→(∀ (i:Nat) d,ys[i]?=some d→∃ v,vy[n+i]?=some v∧jB P V d v) →
  (Op.eqFields (d+1) vx vy fs).run P w = .ok b w:=by
 intro fs
 induction fs with
 | nil =>
  intro xs ys n vx vy b d e _ _ _;cases xs<;>cases ys<;>simp [eqD] at e
  subst e;simp [Op.eqFields]
 | cons f fs ih =>
  intro xs ys n vx vy b d e hf hx hy;cases xs with
  | nil=>simp [eqD] at e
  | cons x xs =>
   cases ys with
   | nil=>cases x<;>simp [eqD] at e
   | cons y ys =>
    obtain ⟨hoff,hname⟩:=hf 0 f rfl;have hname:f.name ≠ "_" := by simpa using hname
    obtain ⟨v,hv,rv⟩:=hx 0 x rfl;obtain ⟨u,hu,ru⟩:=hy 0 y rfl;simp only [Nat.add_zero] at hv hu hoff;have tail:∀ {b'},eqD P fs xs ys=some b'→(Op.eqFields (d+1) vx vy fs).run P w = .ok b' w:=fun {b'} e' =>
     ih xs ys (n+1) d e' (fun i g hg=>by have:=hf (i+1) g hg;exact ⟨by rw [this.1];omega,this.2⟩)
      (fun i q hq=>by have:=hx (i+1) q hq;rw [show n+(i+1)=n+1+i from by omega] at this;exact this)
      (fun i q hq=>by have:=hy (i+1) q hq;rw [show n+(i+1)=n+1+i from by omega] at this;exact this)
    cases x<;>cases y<;>try (simp [eqD] at e;done)
    ·rename_i a a'
     simp only [eqD] at e;cases rv;cases ru;split at e
     ·rename_i hut
      cases hr:eqD P fs xs ys with
      | none=>rw [hr] at e;cases e
      | some r =>
       rw [hr] at e;cases e;have hp:∀ (vs:Array Value) q,vs[n]?=some q→(part f.type vs f.offset).run P w = .ok q w:=by
        intro vs q hq;simp [part,isAgg,cO hut,hoff,hq]
       have:=run_equalIn_bool (P:=P) w d f.type a a' hut;simp only [Op.eqFields,if_pos hname,Sem.run_bind,hp vx _ hv,hp vy _ hu,Result.andThen_ok,this,Sem.run_ite];cases hab:(a==a') with
       | true=>simp [tail hr]
       | false=>simp
     ·cases e
    ·rename_i k a k' a'
     simp only [eqD] at e;cases rv;cases ru;split at e
     ·rename_i kk hut
      split at e
      ·rename_i hk
       subst hk;cases hr:eqD P fs xs ys with
       | none=>rw [hr] at e;cases e
       | some r =>
        rw [hr] at e;cases e;have hp:∀ (vs:Array Value) q,vs[n]?=some q→(part f.type vs f.offset).run P w = .ok q w:=by
         intro vs q hq;simp [part,isAgg,cO hut,hoff,hq]
        have:=run_equalIn_int (P:=P) w d f.type k kk a a' hut;simp only [Op.eqFields,if_pos hname,Sem.run_bind,hp vx _ hv,hp vy _ hu,Result.andThen_ok,this,Sem.run_ite];cases hab:(a==a') with
        | true=>simp [tail hr]
        | false=>simp
      ·cases e
     ·cases e
theorem GU {t:TypeId} {fs:List Field} {xs ys:List D} {cx cy:Value} {b:Bool} (hf:MN P t=some fs) (e:eqD P fs xs ys=some b) (Hx:jB P V (.agg xs) cx) (Hy:jB P V (.agg ys) cy) (x y:Operand) :
  (do eqGuard .eql t x y cx cy;binOp .eql t cx cy:Sem Value).run P w = .ok (.bool b) w∧(do eqGuard .neq t x y cx cy;binOp .neq t cx cy:Sem Value).run P w = .ok (.bool (!b)) w:=by
 cases Hx with
 | agg _ vx nx rx px =>
  cases Hy with
  | agg _ vy ny ry py =>
   unfold MN at hf;cases hu:P.underlying t with
   | none=>rw [hu] at hf;cases hf
   | some d =>
    rw [hu] at hf;cases d<;>try (cases hf;done)
    rename_i fsa
    simp only at hf;split at hf
    ·rename_i hc
     cases hf;simp only [bF,Bool.not_eq_true',beq_iff_eq,aW] at hc;obtain ⟨⟨⟨h1,h2⟩,h3⟩,h4⟩:=hc;have hfields:P.fieldsOf t=fsa:=by simp [Program.fieldsOf,hu]
     have heq:(Op.equalIn 10000 t (.agg vx) (.agg vy)).run P w = .ok b w:=by
      rw [run_equalIn_struct w 9999 t vx vy (by rw [hfields];exact hu) h1,hfields];refine NG (V:=V) fsa.toList xs ys 0 9998 e ?_ ?_ ?_
      ·intro i f hf;refine ⟨?_,h4 f (dm hf)⟩;have hlt:=(aC.1 hf).1;have:(fsa.toList.map (·.offset))[i]?=some f.offset:=by rw [eF,hf];rfl
       rw [h3,List.getElem?_range hlt] at this;cases this;omega
      ·intro i q hq;have hl:i < vx.size:=by rw [nx];exact (aC.1 hq).1
       exact ⟨vx[i],by rw [gW];exact bI hl,rx i q _ hq (bI hl)⟩
      ·intro i q hq;have hl:i < vy.size:=by rw [ny];exact (aC.1 hq).1
       exact ⟨vy[i],by rw [gW];exact bI hl,ry i q _ hq (bI hl)⟩
     constructor
     ·simp only [Sem.run_bind,run_eqGuard_agg w _ t x y vx vy h2,Result.andThen_ok,run_eql_struct,heq]
     ·simp only [Sem.run_bind,run_eqGuard_agg w _ t x y vx vy h2,Result.andThen_ok,run_neq_struct,heq]
    ·cases hf
end
end Go.Lx
namespace Go.Lx
section
variable {P:Program} {V:View} {μ:Id→Pl} {w:World}
theorem PZ {xs:List D} {x:D} {a:Option Addr} {n c:Nat} (H:jB P V (.sl (x::xs)) (.slice a n c)):∃ ad,a=some ad:=by
 cases H with
 | sl _ _ _ b o sz ev hc ha hh hs hv =>
  rcases ha with q | q
  ·cases q
  ·exact ⟨_,q⟩
theorem JO {s:S} {x:A} {cx:Value} {r:Bool} (I:Inv P V s.get μ w) (H:iI P V s.get μ x cx) (e:Dj (lW s x)=some r):∃ a n c,cx = .slice a n c∧a.isNone=r:=by
 cases H with
 | d y v hd =>
  simp only [lW] at e;cases hd with
  | nilsl=>cases e;exact ⟨none,0,0,rfl,rfl⟩
  | sl xs a c b o sz ev hc ha hh hs hv =>
   cases xs with
   | nil=>cases e
   | cons q qs =>
    cases e;obtain ⟨ad,rfl⟩:=PZ (.sl (q::qs) a c b o sz ev hc ha hh hs hv);exact ⟨_,_,_,rfl,rfl⟩
  | _=>cases e
 | tight xs a hd =>
  cases xs with
  | nil=>cases e
  | cons q qs =>
   cases e;obtain ⟨ad,rfl⟩:=PZ hd;exact ⟨_,_,_,rfl,rfl⟩
 | ref i off len full sz l xs a c hi hf hv =>
  simp only [lW] at e;split at e
  ·rename_i q qs hel
   cases e;simp only [S.elems,hi] at hel;split at hel
   ·rename_i hh
    have hel:(xs.drop off).take len=q::qs:=by simpa using hel
    obtain ⟨a',c',e1,hsv⟩:=hv hh.1;cases e1;rcases hsv with ⟨q1,_⟩ | ⟨q1,q2,q3,q4,q5⟩
    ·rcases I.blk i _ hi with ⟨_,z,_⟩ | ⟨z,_⟩
     ·subst z;simp at hel
     ·rw [q1] at z;cases z
    ·cases a with
     | none=>cases q4
     | some ad=>exact ⟨_,_,_,rfl,rfl⟩
   ·cases hel
  ·cases e
 | _=>cases e
theorem qM {s:S} {x:A} {y:D} (e:lW s x = .d y):x = .d y∨y = .sl [.pnil]:=by
 cases x<;>simp only [lW] at e
 case ref i off len full =>
  split at e
  ·cases e;exact .inr rfl
  ·cases e
 case tight xs =>
  cases xs with
  | nil=>cases e
  | cons _ _=>cases e;exact .inr rfl
 case d z=>cases e;exact .inl rfl
 all_goals cases e
theorem DD {t el:TypeId} (hu:P.underlying t=some (.slice el)) (d:Nat) (a:Option Addr) (n c m e:Nat):(Op.equalIn (d+1) t (.slice a n c) (.slice none m e)).run P w = .ok a.isNone w:=by
 cases a<;>simp [Op.equalIn,cO hu]
theorem FX {t el:TypeId} (hu:P.underlying t=some (.pointer el)) (d:Nat) (a:Option Addr):(Op.equalIn (d+1) t (.pointer a) (.pointer none)).run P w = .ok a.isNone w:=by
 cases a<;>simp [Op.equalIn,cO hu]
theorem zC {t:TypeId} {el:TypeId} {a b:Option Addr} {n c m d:Nat} (hu:P.underlying t=some (.slice el)) (hb:b=none) (x y:Operand) :
  (do eqGuard .eql t x y (.slice a n c) (.slice b m d);binOp .eql t (.slice a n c) (.slice b m d):Sem Value).run P w = .ok (.bool a.isNone) w ∧
  (do eqGuard .neq t x y (.slice a n c) (.slice b m d);binOp .neq t (.slice a n c) (.slice b m d):Sem Value).run P w = .ok (.bool (!a.isNone)) w:=by
 subst hb;have:=DD (P:=P) (w:=w) hu 9999 a n c m d;constructor<;>simp only [binOp]<;>simp [eqGuard,Op.equal,Op.maxDepth,this]
theorem Hz {t:TypeId} {el:TypeId} {a:Option Addr} (hu:P.underlying t=some (.pointer el)) (x y:Operand) :
  (do eqGuard .eql t x y (.pointer a) (.pointer none);binOp .eql t (.pointer a) (.pointer none):Sem Value).run P w = .ok (.bool a.isNone) w ∧
  (do eqGuard .neq t x y (.pointer a) (.pointer none);binOp .neq t (.pointer a) (.pointer none):Sem Value).run P w = .ok (.bool (!a.isNone)) w:=by
 have:=FX (P:=P) (w:=w) hu 9999 a;constructor<;>simp only [binOp]<;>simp [eqGuard,Op.equal,Op.maxDepth,this]
theorem Px {s:S} {x:A} {cx:Value} {r:Bool} (H:iI P V s.get μ x cx) (e:JC (lW s x)=some r):∃ a,cx = .pointer a∧a.isNone=r:=by
 cases H with
 | d y v hd =>
  simp only [lW] at e;cases hd<;>first | (cases e;exact ⟨_,rfl,rfl⟩) | cases e
 | tight xs a hd=>cases xs<;>cases e
 | ref i off len full sz l xs a c hi hf hv=>simp only [lW] at e;split at e<;>cases e
 | bptr i off cs hi=>cases e;exact ⟨_,rfl,rfl⟩
 | eptr i ix off len sz l xs a hi hf hv=>cases e;exact ⟨_,rfl,rfl⟩
 | pimm d off ev b o hd hv=>cases e;exact ⟨_,rfl,rfl⟩
 | _=>cases e
theorem Ou {s:S} (I:Inv P V s.get μ w) {op:BinOp} {t:TypeId} {a b:A} {ca cb:Value} {z:D} (e:La P op t (lW s a) (lW s b)=some z)
  (Ha:iI P V s.get μ a ca) (Hb:iI P V s.get μ b cb) (x y:Operand):∃ v,(do eqGuard op t x y ca cb;binOp op t ca cb:Sem Value).run P w = .ok v w∧jB P V z v:=by
 unfold La at e;split at e
 ·rename_i k i k' j h1 h2
  have e1:a = .d (.int k i):=(qM h1).resolve_right (by simp);have e2:b = .d (.int k' j):=(qM h2).resolve_right (by simp);subst e1 e2;have:=KY Ha;subst this;have:=KY Hb;subst this;split at e
  ·rename_i hk
   subst hk;exact O4 e t x y
  ·cases e
 ·rename_i p q h1 h2
  have e1:a = .d (.bool p):=(qM h1).resolve_right (by simp);have e2:b = .d (.bool q):=(qM h2).resolve_right (by simp);subst e1 e2;have r1:=Ha.dOf;have r2:=Hb.dOf;cases r1;cases r2;split at e
  ·rename_i hu
   cases e;exact ⟨.bool (p==q),by simp only [binOp];simp [eqGuard,Op.equal,Op.maxDepth,run_equalIn_bool w 9999 t p q hu], .bool _⟩
  ·rename_i hu
   cases e;exact ⟨.bool (!(p==q)),by simp only [binOp];simp [eqGuard,Op.equal,Op.maxDepth,run_equalIn_bool w 9999 t p q hu], .bool _⟩
  ·cases e
 ·rename_i xs ys h1 h2
  have e1:a = .d (.agg xs):=(qM h1).resolve_right (by simp);have e2:b = .d (.agg ys):=(qM h2).resolve_right (by simp);subst e1 e2;cases hf:MN P t with
  | none=>rw [hf] at e;cases e
  | some fs =>
   rw [hf] at e;cases op<;>try (cases e;done)
   ·cases hr:eqD P fs xs ys with
    | none=>simp only [hr] at e;cases e
    | some r=>simp only [hr] at e;cases e;exact ⟨_,(GU hf hr Ha.dOf Hb.dOf x y).1, .bool _⟩
   ·cases hr:eqD P fs xs ys with
    | none=>simp only [hr] at e;cases e
    | some r=>simp only [hr] at e;cases e;exact ⟨_,(GU hf hr Ha.dOf Hb.dOf x y).2, .bool _⟩
 ·split at e
  ·rename_i hu
   split at e
   ·rename_i h2
    have e2:b = .d .nilsl:=(qM h2).resolve_right (by simp);subst e2;have r2:=Hb.dOf;cases r2;cases hn:Dj (lW s a) with
    | none=>rw [hn] at e;cases e
    | some r =>
     rw [hn] at e;cases e;obtain ⟨p,n,c,rfl,hp⟩:=JO I Ha hn;exact ⟨_,(zC hu rfl x y).1,by rw [hp];exact .bool _⟩
   ·cases e
  ·rename_i hu
   split at e
   ·rename_i h2
    have e2:b = .d .nilsl:=(qM h2).resolve_right (by simp);subst e2;have r2:=Hb.dOf;cases r2;cases hn:Dj (lW s a) with
    | none=>rw [hn] at e;cases e
    | some r =>
     rw [hn] at e;cases e;obtain ⟨p,n,c,rfl,hp⟩:=JO I Ha hn;exact ⟨_,(zC hu rfl x y).2,by rw [hp];exact .bool _⟩
   ·cases e
  ·rename_i hu
   split at e
   ·rename_i h2
    have e2:b = .d .pnil:=(qM h2).resolve_right (by simp);subst e2;have r2:=Hb.dOf;cases r2;cases hn:JC (lW s a) with
    | none=>rw [hn] at e;cases e
    | some r =>
     rw [hn] at e;cases e;obtain ⟨p,rfl,hp⟩:=Px Ha hn;exact ⟨_,(Hz hu x y).1,by rw [hp];exact .bool _⟩
   ·cases e
  ·rename_i hu
   split at e
   ·rename_i h2
    have e2:b = .d .pnil:=(qM h2).resolve_right (by simp);subst e2;have r2:=Hb.dOf;cases r2;cases hn:JC (lW s a) with
    | none=>rw [hn] at e;cases e
    | some r =>
     rw [hn] at e;cases e;obtain ⟨p,rfl,hp⟩:=Px Ha hn;exact ⟨_,(Hz hu x y).2,by rw [hp];exact .bool _⟩
   ·cases e
  ·cases e
theorem Rn {h:Id→Option Blk} {op:UnOp} {a:A} {ca:Value} {z:D} (e:TM op a=some z) (H:iI P V h μ a ca):∃ v,(Op.unary op ca).run P w = .ok v w∧jB P V z v:=by
 unfold TM at e;split at e
 ·rename_i k n
  have:=KY H;subst this;cases op
  case neg=>cases e;exact ⟨.int k (k.wrap (0 - n)),by simp [Op.unary,Op.intArith], .int _ _⟩
  all_goals cases e
 ·rename_i b
  have r:=H.dOf;cases r;cases op
  case not=>cases e;exact ⟨.bool (!b),by simp [Op.unary], .bool _⟩
  all_goals cases e
 ·cases e
theorem NC {h:Id→Option Blk} {src dst:TypeId} {a:A} {ca:Value} {z:D} (e:Jp P src dst a=some z) (H:iI P V h μ a ca):∃ v,(convert src dst ca).run P w = .ok v w∧jB P V z v:=by
 unfold Jp at e;split at e
 ·rename_i k0 n
  have:=KY H;subst this;split at e
  ·rename_i d k h1 h2
   cases e;exact ⟨.int k (k.wrap n),by simp [convert,cO h1,cO h2,Conv.intToInt], .int _ _⟩
  ·cases e
 ·cases e
theorem Lp {c:Cfg} {h:Id→Option Blk} {t:TypeId} {x y:A} {i:Nat} {cv:Value} (e:Dc c t x i=some y) (H:iI c.P V h μ x cv):∃ v,(Instr.field t cv i).run c.P w = .ok v w∧iI c.P V h μ y v:=by
 unfold Dc at e;cases hf:fieldAt c.P t i with
 | none=>rw [hf] at e;cases e
 | some r =>
  obtain ⟨ft,off,sz⟩:=r;rw [hf] at e;simp only at e;unfold fieldAt at hf;cases hu:c.P.underlying t with
  | none=>rw [hu] at hf;cases hf
  | some d =>
   rw [hu] at hf;cases d<;>try (cases hf;done)
   rename_i fs
   simp only at hf;cases hfi:fs[i]? with
   | none=>rw [hfi] at hf;cases hf
   | some f =>
    rw [hfi] at hf;simp only [ag] at hf;cases hz:lQ c.P f.type with
    | none=>rw [hz] at hf;cases hf
    | some z =>
     rw [hz] at hf;cases hf;have key:∀ (cs:List A) (vs:Array Value),lw c.P V h μ cs vs.toList→zy (qi c.P f.type) sz cs f.offset=some y→∃ v,(Instr.field t (.agg vs) i).run c.P w = .ok v w∧iI c.P V h μ y v:=by
      intro cs vs hC hp;rcases FK hC hp with ⟨ha,ws,h1,h2,h3⟩ | ⟨ha,v,h1,h2,h3⟩
      ·refine ⟨.agg ws.toArray,?_,h3⟩;have hext:vs.extract f.offset (f.offset+sz)=ws.toArray:=by
        apply Array.ext';simp only [Array.toList_extract];have hlen:f.offset+sz≤cs.length:=by
         unfold zy at hp;rw [ha] at hp;simp only [aS] at hp;split at hp
         ·assumption
         ·cases hp
        apply List.ext_getElem?;intro j;rcases Nat.lt_or_ge j sz with q | q
        ·have hj:ws[j]?=some (ws[j]'(by omega)):=ax (by omega);rw [hj];have:=h2 j _ hj;simp only [List.extract_eq_take_drop,dh,fF];rw [if_pos (by omega)];exact this
        ·rw [kW (l:=ws) (by omega)];rw [kW];simp only [List.extract_eq_take_drop,jK,List.length_drop];omega
       simp [Instr.field,cO hu,hfi,part,vk hz,ha,iP hz,asAgg,hext]
      ·refine ⟨v,?_,h2⟩;have:vs[f.offset]?=some v:=by simpa using h1
       simp [Instr.field,cO hu,hfi,part,vk hz,ha,asAgg,this]
     cases H with
     | d q v hd =>
      cases hd with
      | agg cs vs hn hh hp =>
       simp only at e;cases hpd:yS (qi c.P f.type) sz cs f.offset with
       | none=>rw [hpd] at e;cases e
       | some y' =>
        rw [hpd] at e;cases e;exact key (cs.map A.d) vs (pV (.agg cs vs hn hh hp)) (vN hpd)
      | _=>cases e
     | agg cs vs hn hc hp=>exact key cs vs ⟨by simpa using hn,fun k a v ha hv=>⟨hc k a v ha (by simpa using hv),hp k v (by simpa using hv)⟩⟩ e
     | _=>cases e
end
end Go.Lx
namespace Go.Lx
section
variable {P:Program} {V:View} {μ:Id→Pl} {w:World}
theorem DU (off:Nat):∀ (vs:List Value) (k:Nat) (cells:Array Value),off+k+vs.length≤cells.size →
  (vs.zipIdx k).foldl (fun cs (x:Value×Nat)=>cs.setIfInBounds (off+x.2) x.1) cells=(splice cells.toList (off+k) vs).toArray
 | [],k,cells,_=>by simp [splice]
 | v::rest,k,cells,h=>by
  simp only [lm] at h;simp only [List.zipIdx_cons,lZ];rw [DU off rest (k+1) _ (by simp;omega)]
  congr 1
  unfold splice;simp only [Array.toList_setIfInBounds,lm];rw [show off+(k+1)=(off+k)+1 from by omega];have hl:off+k < cells.toList.length:=by simp;omega
  rw [List.take_succ_eq_append_getElem (by simpa using hl)];simp only [List.getElem_set_self];rw [List.take_set_of_le (by omega),List.drop_set_of_lt (by omega)];rw [show off+k+(rest.length+1)=off+k+1+rest.length from by omega];simp
theorem GV (off:Nat) (v:Value) (cells:Array Value) (h:off+v.cells.size≤cells.size) :
  v.cells.zipIdx.foldl (fun cs (x:Value×Nat)=>cs.setIfInBounds (off+x.2) x.1) cells=(splice cells.toList off v.cells.toList).toArray:=by
 rw [← Array.foldl_toList,Array.toList_zipIdx];have:=DU off v.cells.toList 0 cells (by simpa using h);simpa using this
theorem lw.splice {h:Id→Option Blk} {cs as:List A} {vs ws:List Value} {off:Nat} (H:lw P V h μ cs vs) (H':lw P V h μ as ws) (hle:off+as.length≤cs.length) :
  lw P V h μ (Lx.splice cs off as) (Lx.splice vs off ws):=by
 have hle2:off+ws.length≤vs.length:=by rw [H.1,H'.1];exact hle
 refine ⟨by rw [gV _ _ _ hle,gV _ _ _ hle2,H.1],fun i a v ha hv=>?_⟩;rw [qB _ _ _ hle] at ha;rw [qB _ _ _ hle2,H'.1] at hv;by_cases e1:i < off
 ·rw [if_pos e1] at ha hv;exact H.2 i a v ha hv
 ·rw [if_neg e1] at ha hv;by_cases e2:i < off+as.length
  ·rw [if_pos e2] at ha hv;exact H'.2 _ a v ha hv
  ·rw [if_neg e2] at ha hv;exact H.2 i a v ha hv
inductive rE (P:Program) (V:View) (h:Id→Option Blk) (μ:Id→Pl):List (Nat×A)→List (Nat×Value)→Prop where
 | nil:rE P V h μ [] []
 | cons (i:Nat) (a:A) (v:Value) (as:List (Nat×A)) (vs:List (Nat×Value)) (ha:iI P V h μ a v) (hr:rE P V h μ as vs):rE P V h μ ((i,a)::as) ((i,v)::vs)
theorem GM {h:Id→Option Blk} {place:Nat→Option (Nat×Nat)} {ps:List (Nat×A)} {vs:List (Nat×Value)} (R:rE P V h μ ps vs) :
  ∀ {cs cs':List A} {cells:Array Value},lw P V h μ cs cells.toList→EY place cs ps=some cs' →
  ∃ cells',Instr.fill place cells vs=some cells'∧lw P V h μ cs' cells'.toList:=by
 induction R with
 | nil =>
  intro cs cs' cells H e;simp only [EY] at e;cases e;exact ⟨cells,rfl,H⟩
 | cons i a v as vs ha hr ih =>
  intro cs cs' cells H e;simp only [EY] at e;cases hp:place i with
  | none=>rw [hp] at e;cases e
  | some q =>
   obtain ⟨off,size⟩:=q;rw [hp] at e;simp only at e;split at e
   ·rename_i hc
    obtain ⟨h1,h2,h3⟩:=hc;have hC:=wB ha h1;have hl:=hC.1;have hn:v.cells.size=size:=by rw [← h2,← hl,gq]
    have hcn:cells.size=cs.length:=by rw [← H.1,gq]
    have hS:=H.splice hC (off:=off) (by omega);obtain ⟨cells',k1,k2⟩:=ih (cells:=(Lx.splice cells.toList off v.cells.toList).toArray) (by simpa using hS) e;refine ⟨cells',?_,k2⟩;simp only [Instr.fill,hp];rw [if_neg (by simp [hn,hcn];omega)];rw [← k1]
    congr 1
    exact GV off v cells (by omega)
   ·cases e
theorem run_places {fs:List Field} {pl:List (Nat×Nat)} (h:placesOf P fs=some pl) (w:World):(fs.mapM (fun f=>Prod.mk f.offset <$> sizeOf f.type:Field→Sem (Nat×Nat))).run P w = .ok pl w:=by
 induction fs generalizing pl with
 | nil=>simp [placesOf] at h;subst h;simp
 | cons f rest ih =>
  simp only [placesOf] at h;split at h
  ·rename_i z r hz hr
   cases h;rw [List.mapM_cons];simp [iP hz,ih hr]
  ·cases h
theorem KQ {s:S} {t:TypeId} {ps:List (Nat×A)} {vs:Array (Nat×Value)} {x:A} (R:rE P V s.get μ ps vs.toList) (e:zn P t ps=some x) :
  ∃ v,(Instr.build t vs).run P w = .ok v w∧iI P V s.get μ x v:=by
 unfold zn at e;split at e
 ·rename_i fs z hu hz
  split at e
  ·rename_i pl hpl
   cases hf:EY (fun i=>pl[i]?) (z.cells.map .d) ps with
   | none=>rw [hf] at e;cases e
   | some cs =>
    rw [hf] at e;cases e;obtain ⟨zv,hzv,hzr⟩:=xE hz w;obtain ⟨cells,k1,k2⟩:=GM R (pV (h:=s.get) (μ:=μ) (hzr V)) hf;refine ⟨.agg cells,?_,zx (.agg cs cells (by rw [← k2.1,gq]) (fun i d v hd hv=>(k2.2 i d v hd (by simpa using hv)).1) (fun i v hv=>?_))⟩
    ·unfold Instr.build;have hm:(fs.mapM (fun f=>Prod.mk f.offset <$> sizeOf f.type:Field→Sem (Nat×Nat))).run P w = .ok pl.toArray w:=by
      rw [Array.mapM_eq_mapM_toList];simp [run_places hpl]
     simp [hzv,cO hu,hm,k1]
    ·have hlt:i < cs.length:=by rw [← k2.1];simpa using (aO.1 hv).1
     exact (k2.2 i _ v (ax hlt) (by simpa using hv)).2
  ·cases e
 ·rename_i len el z hu hz
  split at e
  ·rename_i sz hsz
   cases hf:EY (fun i=>some (i * sz,sz)) (z.cells.map .d) ps with
   | none=>rw [hf] at e;cases e
   | some cs =>
    rw [hf] at e;cases e;obtain ⟨zv,hzv,hzr⟩:=xE hz w;obtain ⟨cells,k1,k2⟩:=GM R (pV (h:=s.get) (μ:=μ) (hzr V)) hf;refine ⟨.agg cells,?_,zx (.agg cs cells (by rw [← k2.1,gq]) (fun i d v hd hv=>(k2.2 i d v hd (by simpa using hv)).1) (fun i v hv=>?_))⟩
    ·unfold Instr.build;simp [hzv,cO hu,iP hsz,k1]
    ·have hlt:i < cs.length:=by rw [← k2.1];simpa using (aO.1 hv).1
     exact (k2.2 i _ v (ax hlt) (by simpa using hv)).2
  ·cases e
 ·cases e
theorem BP {cs:List A} {j:Id} (h:j∈A.lT cs):∃ (i:Nat) (a:A),cs[i]?=some a∧j∈a.ids:=by
 induction cs with
 | nil=>simp [A.lT] at h
 | cons x rest ih =>
  simp only [A.lT,aU] at h;rcases h with q | q
  ·exact ⟨0,x,rfl,q⟩
  ·obtain ⟨i,a,h1,h2⟩:=ih q;exact ⟨i+1,a,by simpa using h1,h2⟩
theorem Ph {s:S} (I:Inv P V s.get μ w) (d:Nat) {cs:List A} {vs:Array Value} {el:TypeId} (H:lw P V s.get μ cs vs.toList) :
  Done P V s μ w (s.plus [((d,nU s.loc d), .box cs)]) (.bptr (s.fresh d) 0) (.ok (.pointer (some ⟨w.heap.size,0,none⟩)) (w.alloc (.cells vs el))):=by
 obtain ⟨hget,hfree⟩:=S.Fb s d (.box cs);have noV:∀ c v,¬ V.cell w.heap.size c v:=by
  intro c v hv;have:=World.block_lt_of_cell? w _ (I.cell _ _ _ hv);simp at this
 have K:∀ j x,s.get j=some x→∃ x',upd s.get (s.fresh d) (.box cs) j=some x'∧qo x (μ j) x' (yG μ (s.fresh d) ⟨w.heap.size,0,false,0⟩ j):=by
  intro j x hx;have e:j≠s.fresh d:=fun e=>by rw [e,hfree] at hx;cases hx
  exact ⟨x,by rw [upd_ne _ _ e];exact hx,by rw [iW _ _ e];exact .refl _ _⟩
 obtain ⟨I',E'⟩:=I.lay (w':=w.alloc (.cells vs el)) hfree (.box cs) ⟨w.heap.size,0,false,0⟩ (heap_alloc_old w _) rfl rfl rfl (by simp) (fun _=>bu _)
  ⟨rfl,fun c v h=>noV c v h,vs,el,heap_alloc_new w _,by rw [← H.1,gq],fun i a v ha hv=>⟨(H.2 i a v ha (by simpa using hv)).1.mono (.refl V) (fun j _ b hb=>K j b hb),(H.2 i a v ha (by simpa using hv)).2⟩⟩
  (by
   intro j hj;obtain ⟨i,a,h1,h2⟩:=BP hj;have hl:i < vs.toList.length:=by rw [H.1];exact (aC.1 h1).1
   obtain ⟨bb,hbb⟩:=uO (H.2 i a _ h1 (ax hl)).1 j h2;exact S.uN hbb)
 refine ⟨_,_,V,_,rfl,?_,by rw [hget];exact I',by rw [hget];exact E',rfl⟩;rw [hget];have:=iI.bptr (P:=P) (V:=V) (μ:=yG μ (s.fresh d) ⟨w.heap.size,0,false,0⟩) (s.fresh d) 0 cs (upd_same s.get (s.fresh d) (.box cs));rw [fP] at this;exact this
theorem KN {c:Cfg} {s:S} (I:Inv c.P V s.get μ w) {dst:Option Nat} {t:TypeId} {z:A} {dl:Delta} (e:Ir c s dst t=some (z,dl)) :
  Done c.P V s μ w (dl.apply s) z ((Instr.alloc t true (.tuple #[])).run c.P w):=by
 unfold Ir at e;split at e
 ·rename_i zd d hz
  cases e;obtain ⟨zv,hzv,hzr⟩:=xE hz w;have:=Ph I d (el:=t) (pV (h:=s.get) (μ:=μ) (hzr V));simpa [Instr.alloc,hzv,newVar,newRow,S.Kz,Delta.apply] using this
 ·cases e
theorem Ov {s:S} (I:Inv P V s.get μ w) (d:Nat) (t:TypeId) {x:A} {cx:Value} (H:iI P V s.get μ x cx) (hs:storable x=true) :
  Done P V s μ w (s.plus [((d,nU s.loc d), .box x.cells)]) (.bptr (s.fresh d) 0) ((Instr.box t cx).run P w):=by
 have:=Ph I d (el:=t) (wB H hs);simpa [Instr.box,newVar,newRow] using this
theorem IU {s:S} (I:Inv P V s.get μ w) (d:Nat) (t kt:TypeId) :
  Done P V s μ w (s.plus [((d,nU s.loc d), .map kt false [])]) (.mref (s.fresh d)) ((Instr.makeMap t none).run P w):=by
 obtain ⟨hget,hfree⟩:=S.Fb s d (.map kt false []);have noM:∀ e c,¬ V.map w.heap.size e c:=by
  intro e c hv;have:=(aO.1 (I.map _ _ _ hv)).1;simp at this
 obtain ⟨I',E'⟩:=I.lay (w':=w.alloc (.map #[] 0)) hfree (.map kt false []) ⟨w.heap.size,0,false,0⟩ (heap_alloc_old w _) rfl rfl rfl (by simp) (fun _=>bu _)
  ⟨rfl,fun _ e c h=>noM e c h,#[],heap_alloc_new w _,rfl,by simp,by simp⟩
 refine ⟨_,_,V,_,by simp [Instr.makeMap];exact ⟨rfl,rfl⟩,?_,by rw [hget];exact I',by rw [hget];exact E',rfl⟩;rw [hget];have:=iI.mref (P:=P) (V:=V) (μ:=yG μ (s.fresh d) ⟨w.heap.size,0,false,0⟩) (s.fresh d) kt false [] (upd_same s.get (s.fresh d) (.map kt false []));rw [fP] at this;exact this
theorem Ar {s:S} (I:Inv P V s.get μ w) (d sz:Nat) :
  Done P V s μ w (s.plus [((d,nU s.loc d), .arr sz false [])]) (.ref (s.fresh d) 0 0 0) (.ok (.slice none 0 0) w):=by
 obtain ⟨hget,hfree⟩:=S.Fb s d (.arr sz false []);obtain ⟨I',E'⟩:=I.lay (w':=w) hfree (.arr sz false []) ⟨0,0,true,0⟩ (fun _ _=>rfl) rfl rfl rfl (bu _) (fun q=>by cases q) (.inl ⟨rfl,rfl,rfl⟩);refine ⟨_,_,V,_,rfl,?_,by rw [hget];exact I',by rw [hget];exact E',rfl⟩;rw [hget];refine .ref _ 0 0 0 sz false [] _ _ (upd_same _ _ _) (bu _) (fun _=>⟨_,_,rfl, .inl ?_⟩);rw [fP];exact ⟨rfl,rfl,rfl,rfl⟩
end
end Go.Lx
namespace Go.Lx
section
variable {P:Program} {V:View} {μ:Id→Pl} {w:World}
theorem iw.splice {sz off:Nat} {xs ys:List D} {cs yc:List Value} (hX:iw P V sz xs cs) (hY:iw P V sz ys yc):iw P V sz (Lx.splice xs off ys) (Lx.splice cs (off * sz) yc):=by
 unfold Lx.splice;have:off * sz+yc.length=(off+ys.length) * sz:=by rw [hY.1,fD]
 rw [this];exact ((hX.take off).append hY).append (hX.drop _)
theorem iw.one {sz:Nat} {x:D} {v:Value} (H:jB P V x v) (hs:x.size=sz):iw P V sz [x] v.cells.toList:=by
 refine ⟨by rw [gq,H.cells.1,hs];simp,DZ H,fun _=>v,fun i d hd=>?_⟩;cases i with
 | zero =>
  simp at hd;subst hd;exact ⟨H,by rw [H.cells.1,hs],fun j y hy=>by simpa using hy⟩
 | succ i=>simp at hd
theorem Ob (xs:List D) (i:Nat) (x:D) (h:i < xs.length):xs.set i x=Lx.splice xs i [x]:=by
 unfold Lx.splice;rw [List.set_eq_take_append_cons_drop,if_pos h];simp
inductive I9 (P:Program) (V:View):List (Nat×D)→List (Nat×Value)→Prop where
 | nil:I9 P V [] []
 | cons (i:Nat) (x:D) (v:Value) (as:List (Nat×D)) (vs:List (Nat×Value)) (hx:jB P V x v) (hr:I9 P V as vs):I9 P V ((i,x)::as) ((i,v)::vs)
theorem rE.mono {V':View} {h h':Id→Option Blk} {μ':Id→Pl} {w':World} {as:List (Nat×A)} {vs:List (Nat×Value)} (R:rE P V h μ as vs) (E:Evo V h μ w V' h' μ' w'):rE P V' h' μ' as vs:=by
 induction R with
 | nil=>exact .nil
 | cons i a v as vs ha hr ih=>exact .cons i a v as vs (E.zI ha) ih
theorem JU:∀ (ps:List (Nat×A)) {vs:List (Nat×Value)} {s:S} {V:View} (_:Inv P V s.get μ w) {ds:List (Nat×D)} {o:Option S},tV s ps=some (ds,o)→rE P V s.get μ ps vs →
  ∃ V',RG P V s μ w o V'∧I9 P V' ds vs
 | [],vs,s,V,I,ds,o,e,R=>by
  simp only [tV] at e;cases e;cases R;exact ⟨V, .none I, .nil⟩
 | (i,a)::as,vs,s,V,I,ds,o,e,R=>by
  cases R with
  | cons _ _ v _ vs ha hr =>
   simp only [tV] at e;cases ht:s.toD a with
   | none=>rw [ht] at e;cases e
   | some r =>
    obtain ⟨x,o1⟩:=r;rw [ht] at e;simp only at e;cases hp:tV (S.ok o1 s) as with
    | none=>rw [hp] at e;cases e
    | some r2 =>
     obtain ⟨ds',o2⟩:=r2;rw [hp] at e;cases e;obtain ⟨V1,L1,R1⟩:=Nr I ht ha;obtain ⟨V2,L2,R2⟩:=JU as L1.inv hp (hr.mono L1.evo);have hok:S.ok (orS o2 o1) s=S.ok o2 (S.ok o1 s):=by cases o2<;>rfl
     exact ⟨V2,⟨by rw [hok];exact L2.inv,by rw [hok];exact L1.evo.trans L2.evo,by rw [hok];exact L2.dep.trans L1.dep⟩, .cons i x v _ _ (R1.mono L2.evo.view) R2⟩
theorem Lr {sz:Nat} {ds:List (Nat×D)} {vs:List (Nat×Value)} (R:I9 P V ds vs) :
  ∀ {xs xs':List D} {cells:Array Value},iw P V sz xs cells.toList→Js sz xs ds=some xs' →
  ∃ cells',Instr.fill (fun i=>some (i * sz,sz)) cells vs=some cells'∧iw P V sz xs' cells'.toList∧xs'.length=xs.length:=by
 induction R with
 | nil=>intro xs xs' cells H e;simp only [Js] at e;cases e;exact ⟨cells,rfl,H,rfl⟩
 | cons i x v as vs hx hr ih =>
  intro xs xs' cells H e;simp only [Js] at e;split at e
  ·rename_i hc
   obtain ⟨h1,h2⟩:=hc;rw [Ob xs i x h1] at e;have hl:cells.size=xs.length * sz:=by rw [← H.1,gq]
   have hv:v.cells.size=sz:=by rw [hx.cells.1,h2]
   have hfit:i * sz+sz≤cells.size:=by
    rw [hl]
    calc i * sz+sz=(i+1) * sz:=by rw [fD,kD]
     _≤xs.length * sz:=aX _ h1
   obtain ⟨cells',k1,k2,k3⟩:=ih (cells:=(Lx.splice cells.toList (i * sz) v.cells.toList).toArray) (by simpa using H.splice (iw.one hx h2)) e;refine ⟨cells',?_,k2,by rw [k3,gV _ _ _ (by simp;omega)]⟩;simp only [Instr.fill];rw [if_neg (by simp [hv];omega),← k1]
   congr 1
   exact GV (i * sz) v cells (by omega)
  ·cases e
theorem Qu {s:S} (I:Inv P V s.get μ w) {sz:Nat} {xs:List D} {cs:List Value} {el:TypeId} (hC:iw P V sz xs cs) :
  ∃ V',Inv P V' s.get μ (w.alloc (.cells cs.toArray el))∧Evo V s.get μ w V' s.get μ (w.alloc (.cells cs.toArray el))∧jB P V' (.sl xs) (.slice (some ⟨w.heap.size,0,none⟩) xs.length xs.length):=by
 let V':View:=⟨fun b c v=>V.cell b c v∨(b=w.heap.size∧cs[c]?=some v),V.map⟩
 have hV:V.Le V':=⟨fun _ _ _ x => .inl x,fun _ _ _ x=>x⟩
 have cellAll:∀ b c v,V'.cell b c v→(w.alloc (.cells cs.toArray el)).cell? ⟨b,c,none⟩=some v:=by
  rintro b c v (q | ⟨rfl,q⟩)
  ·have h1:=I.cell b c v q;have h2:=World.block_lt_of_cell? w _ h1;rw [← h1];unfold World.cell?;simp only [heap_alloc_old w _ _ h2]
  ·rw [cell_of_row _ _ c cs.toArray el (0,0) (heap_alloc_new w _)];simpa using q
 have mapAll:∀ r e c,V'.map r e c→(w.alloc (.cells cs.toArray el)).heap[r]?=some (.map e c):=by
  intro r e c q;have h1:=I.map r e c q;rw [heap_alloc_old w _ r (aO.1 h1).1,h1]
 have I':=I.frame (V':=V') (w':=w.alloc (.cells cs.toArray el)) (fun k ho=>heap_alloc_old w _ k (ho.lt I)) hV
  (by
   rintro b c v (q | ⟨rfl,q⟩) ho
   ·exact q
   ·exact absurd (ho.lt I) (by simp))
  (fun _ _ _ x _=>x) cellAll mapAll
 refine ⟨V',I',⟨rfl,rfl,rfl,by simp,fun k hk _=>heap_alloc_old w _ k hk,hV,?_,fun _ _ _ x => .inl x,fun i b hb hn => .inl ⟨b,hb,hn,rfl⟩,fun i b hb=>⟨b,hb, .refl _ _⟩⟩,?_⟩
 ·rintro b c v (q | ⟨rfl,q⟩)
  ·exact .inl q
  ·exact .inr (.inr (bu _))
 ·obtain ⟨hl,hp,ev,hev⟩:=hC;refine .sl xs _ _ w.heap.size 0 sz ev (bu _) (.inr rfl) (fun i d hd=>(hev i d hd).1.mono hV) (fun i hi=>(hev i _ (ax hi)).2.1) ?_;intro i hi j v hv;exact .inr ⟨rfl,by rw [gW];exact (hev i _ (ax hi)).2.2 j v hv⟩
theorem D8 {c:Cfg} {f:FuncId} {s:S} (I:Inv c.P V s.get μ w) {dst:Option Nat} {t:TypeId} {len:Nat} {ps:List (Nat×A)} {vs:Array (Nat×Value)} {z:A} {dl:Delta}
  (R:rE c.P V s.get μ ps vs.toList) (e:qc c f s dst t len ps=some (z,dl)):Done c.P V s μ w (dl.apply s) z ((Instr.buildSlice t len vs).run c.P w):=by
 unfold qc at e;cases hel:um c.P t with
 | none=>rw [hel] at e;cases e
 | some el =>
  rw [hel] at e;have hu:=pY hel;simp only at e;split at e
  ·rename_i sz zd ds o hsz hzd hds
   split at e
   ·rename_i hc
    obtain ⟨hsize,hzz⟩:=hc;cases hf:Js sz (List.replicate len zd) ds with
    | none=>rw [hf] at e;cases e
    | some xs =>
     rw [hf] at e;simp only at e;obtain ⟨V1,L,R1⟩:=JU ps I hds R;obtain ⟨zv,hzv,hzr⟩:=xE hzd w;have hzc:zv.cells.size=sz:=by rw [(hzr V).cells.1,hzz]
     obtain ⟨cells,k1,k2,k3⟩:=Lr R1 (vT (hzr V1) hzc len) hf;rw [List.length_replicate] at k3;have hrun:(Instr.buildSlice t len vs).run c.P w = .ok (.slice (some ⟨w.heap.size,0,none⟩) len len) (w.alloc (.cells cells el)):=by
      unfold Instr.buildSlice;have hbig:¬ (len * sz > 2 ^ 24):=by omega
      by_cases h0:len * sz=0
      ·have e1:Builtin.zeroCells zv.cells len=#[]:=fQ (by rw [kN,hzc,h0]);rw [e1] at k1;have e3:(Array.map (fun _=>(default:Value)) (Array.range 0))=#[]:=fQ (by simp);simp [cO hu,iP hsz,h0,newRow];rw [e3,k1];simp
      ·have e1:Builtin.zeroCells zv.cells len=(Array.range (len * sz)).map (zv.cells[· % zv.cells.size]!):=by unfold Builtin.zeroCells;rw [hzc]
       rw [e1] at k1;have h0':¬ (len=0∨sz=0):=fun q=>h0 (by rcases q with q | q<;>simp [q])
       simp only [Sem.run_bind,cO hu,Result.andThen_ok,iP hsz,if_neg hbig,if_neg h0,hzv,Sem.run_pure,k1,newRow];simp
     split at e
     ·rename_i d
      split at e
      ·split at e
       ·cases e;obtain ⟨μ',I',E',R'⟩:=Dt L.inv d (sz:=sz) (n:=len) (k:=0) (rest:=#[]) (w':=w.alloc (.cells (cells.toList.toArray++#[]) el)) k2 k3.symm (by simp) (by simp) (.inr rfl);have e2:cells.toList.toArray++#[]=cells:=by simp
        rw [e2] at I' E';exact ⟨_,_,V1,μ',hrun,R',I',L.evo.trans E',rfl⟩
       ·cases e
      ·cases e;obtain ⟨V2,I2,E2,D2⟩:=Qu (el:=el) L.inv k2;have e2:cells.toList.toArray=cells:=by simp
       rw [e2] at I2 E2;have ho:(Delta.of o).apply s=S.ok o s:=by cases o<;>rfl
       rw [ho];rw [k3] at D2;refine ⟨_,_,V2,μ,hrun,?_,I2,L.evo.trans E2,L.dep⟩;have:=iI.tight (h:=(S.ok o s).get) (μ:=μ) xs (some ⟨w.heap.size,0,none⟩) (by rw [k3];exact D2);rw [k3] at this;exact this
     ·cases e
   ·cases e
  ·cases e
end
end Go.Lx
